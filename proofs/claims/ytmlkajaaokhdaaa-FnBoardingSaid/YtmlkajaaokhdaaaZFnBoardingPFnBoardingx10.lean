import Derived.Test.YtmlkajaaokhdaaaZFnBoardingPFnBoardingx0
import Derived.Test.YtmlkajaaokhdaaaZFnBoardingPFnBoardingx1
import Derived.Test.YtmlkajaaokhdaaaZFnBoardingPFnBoardingx2
import Derived.Test.YtmlkajaaokhdaaaZFnBoardingPFnBoardingx3
import Derived.Test.YtmlkajaaokhdaaaZFnBoardingPFnBoardingx4
import Derived.Test.YtmlkajaaokhdaaaZFnBoardingPFnBoardingx5
import Derived.Test.YtmlkajaaokhdaaaZFnBoardingPFnBoardingx6
import Derived.Test.YtmlkajaaokhdaaaZFnBoardingPFnBoardingx7
import Derived.Test.YtmlkajaaokhdaaaZFnBoardingPFnBoardingx8
import Derived.Test.YtmlkajaaokhdaaaZFnBoardingPFnBoardingx9
namespace Go.Proofs.Ytmlkajaaokhdaaa.PFnBoarding
open Go.RowKit Go.Proofs.YtmlkajaaokhdaaaW.PrintWords Go.Proofs.YtmlkajaaokhdaaaW.PrintLast Go.Proofs.YtmlkajaaokhdaaaW.PrintMore
attribute [local go_sem] max2_int min2_int max_two min_two max_three min_three max_four min_four   -- for this text's walks alone
set_option linter.unusedVariables false
set_option linter.unusedSimpArgs false
/-- sitting down: entering, walking, waiting and stowing; the latest one -/
def laws_FnBoarding.l1 : Nat → Int → Int → List Int → List Int → List Int → Int → Int → Option Int
 | 0, _, _, _, _, _, _, _ => none
 | k + 1, n, s, sa, en, wa, i, la => if i < n then (if 0 ≤ i ∧ i < (sa.length : Int) ∧ i < (en.length : Int) ∧ i < (wa.length : Int) ∧ rd sa i = wrap64 (wrap64 (wrap64 (rd en i + i) + rd wa i) + s) ∧ ¬ rd wa i < 0 then laws_FnBoarding.l1 k n s sa en wa (wrap64 (i + 1)) (if rd sa i > la then rd sa i else la) else none) else some la
def laws_FnBoarding.l2 : Nat → Int → List Int → List Int → Int → Option Bool
 | 0, _, _, _, _ => none
 | k + 1, n, od, en, i => if i < n then (if 0 ≤ i ∧ i < (od.length : Int) ∧ 0 ≤ wrap64 (i - 1) ∧ wrap64 (i - 1) < (od.length : Int) ∧ 0 ≤ rd od i ∧ rd od i < (en.length : Int) ∧ 0 ≤ rd od (wrap64 (i - 1)) ∧ rd od (wrap64 (i - 1)) < (en.length : Int) ∧ ¬ rd en (rd od i) ≤ rd en (rd od (wrap64 (i - 1))) then laws_FnBoarding.l2 k n od en (wrap64 (i + 1)) else none) else some true
def laws_FnBoarding.l3 : Nat → Bool → Int → Int → List Int → List Int → List Int → Int → Option Bool
 | 0, _, _, _, _, _, _, _ => none
 | k + 1, ok, n, t, aa, en, sa, i => if ok = true ∧ i < n then (if 0 ≤ i ∧ i < (aa.length : Int) ∧ (0 ≤ rd aa i → ¬ rd aa i < i ∧ rd aa i < (en.length : Int) ∧ ¬ rd en (rd aa i) > t ∧ rd aa i < (sa.length : Int) ∧ ¬ rd sa (rd aa i) ≤ t) then laws_FnBoarding.l3 k ok n t aa en sa (wrap64 (i + 1)) else none) else some true
def laws_FnBoarding.l4 : Nat → Bool → Int → Int → List Int → List Int → List Int → Int → Option Bool
 | 0, _, _, _, _, _, _, _ => none
 | k + 1, ok, n, t, aa, en, sa, i => if ok = true ∧ i < n then ((laws_vHas.f k aa i).bind fun h => if 0 ≤ i ∧ i < (en.length : Int) ∧ i < (sa.length : Int) ∧ h = (decide (rd en i ≤ t) && decide (t < rd sa i)) then laws_FnBoarding.l4 k ok n t aa en sa (wrap64 (i + 1)) else none) else some true
def laws_FnBoarding.q (k : Nat) (u v : Int) (li : List Int) (i : Int) (gain : Int) (four : Bool) : Option Bool := if four = true then (if 0 ≤ i ∧ i < (li.length : Int) ∧ 0 ≤ wrap64 (i + 1) ∧ wrap64 (i + 1) < (li.length : Int) ∧ li.length ≤ 1000000 then ((impl_SwapGain.f k u v ((li.set i.toNat (rd li (wrap64 (i + 1)))).set (wrap64 (i + 1)).toNat (rd li i)) i).bind fun b => if b.2 = true ∧ b.1 = wrap64 (-gain) then some true else none) else none) else some true
def laws_FnBoarding.g (k : Nat) (n s t : Int) (od aa sa en wa : List Int) (ok : Bool) (time : Int) : Option Bool := if time < wrap64 (n + s) then none else (laws_FnBoarding.l1 k n s sa en wa 0 0).bind fun la => (laws_FnBoarding.l2 k n od en 1).bind fun _ => (laws_FnBoarding.l3 k ok n t aa en sa 0).bind fun _ => (laws_FnBoarding.l4 k ok n t aa en sa 0).bind fun _ => if la = time ∧ 0 < od.length ∧ 0 ≤ rd od 0 ∧ rd od 0 < (en.length : Int) ∧ rd en (rd od 0) = 1 then some true else none
def laws_FnBoarding.f (k : Nat) (l0 : List Int) : Option Bool := (laws_vBig.f l0).bind fun big => if big = true then some true else
 ((spec_DrawAisleAt.f k l0).bind fun d => (impl_AisleAt.f k d.1 d.2.1 d.2.2.1 d.2.2.2).bind fun aa => (spec_AisleAt.f k d.1 d.2.1 d.2.2.1 d.2.2.2).bind fun aa2 => (impl_BoardTime.f k d.1 d.2.1 d.2.2.1).bind fun bt => (spec_BoardTime.f k d.1 d.2.1 d.2.2.1).bind fun bt2 => (impl_SitTimes.f k d.1 d.2.1 d.2.2.1).bind fun sa => (spec_SitTimes.f k d.1 d.2.1 d.2.2.1).bind fun sa2 => (impl_EnterTimes.f k d.1 d.2.1 d.2.2.1).bind fun en => (spec_EnterTimes.f k d.1 d.2.1 d.2.2.1).bind fun en2 => (impl_WaitTimes.f k d.1 d.2.1 d.2.2.1).bind fun wa => (spec_WaitTimes.f k d.1 d.2.1 d.2.2.1).bind fun wa2 => (impl_IsEntering.f k d.1 d.2.2.1).bind fun ie => (spec_IsEntering.f k d.1 d.2.2.1).bind fun ie2 => (laws_vCut.f l0 1).bind fun c1 => (spec_DrawSwapGain.f k c1).bind fun z => (impl_SwapGain.f k z.1 z.2.1 z.2.2.1 z.2.2.2).bind fun sg => (spec_SwapGain.f k z.1 z.2.1 z.2.2.1 z.2.2.2).bind fun sg2 =>
  if aa.2 = aa2.2 ∧ bt = bt2 ∧ sa.2 = sa2.2 ∧ en.2 = en2.2 ∧ wa.2 = wa2.2 ∧ ie = ie2 ∧ sg = sg2 ∧ bt.2 = sa.2 ∧ bt.2 = en.2 ∧ bt.2 = wa.2 ∧ (bt.2 = true → ie.1 = true) ∧ (aa.2 = true → bt.2 = true) then
   ((laws_vInts.f k aa.1 aa2.1).bind fun e1 => (laws_vInts.f k sa.1 sa2.1).bind fun e2 => (laws_vInts.f k en.1 en2.1).bind fun e3 => (laws_vInts.f k wa.1 wa2.1).bind fun e4 => if e1 = true ∧ e2 = true ∧ e3 = true ∧ e4 = true then ((laws_FnBoarding.q k z.1 z.2.1 z.2.2.1 z.2.2.2 sg.1 sg.2).bind fun _ => if bt.2 = true then laws_FnBoarding.g k d.1 d.2.1 d.2.2.2 d.2.2.1 aa.1 sa.1 en.1 wa.1 aa.2 bt.1 else some true) else none) else none)
def laws_FnBoarding.T36 : Bool × List (List Nat × List Nat) := (true, [([], []), ([], []), ([0, 1], [0, 1]), ([2], [2]), ([], []), ([], []), ([4, 5], [4, 5]), ([6], [6]), ([], []), ([7, 8], [7, 8]), ([], []), ([], []), ([10, 11], [10, 11]), ([12], [12]), ([9, 13], [9, 13]), ([], []), ([14, 15], [14, 15]), ([3, 16], [3, 16]), ([17], [17]), ([18], [18]), ([18], [18]), ([19, 20, 18], [18, 19, 20]), ([21, 18], [18, 21]), ([22, 18], [18, 22]), ([18, 23], [18, 23])])
def laws_FnBoarding.B36 : List Nat := [0, 0, 3, 7, 0, 0, 48, 112, 0, 496, 0, 0, 3072, 7168, 16368, 0, 65520, 131071, 262143, 524287, 524287, 2097151, 4194303, 8388607, 16777215]
theorem laws_FnBoarding.tab36 : rtab .any (opsOf Try.f3 36) = laws_FnBoarding.T36 := by kernel_rfl
theorem laws_FnBoarding.bits36 : waitsOk laws_FnBoarding.T36.2 laws_FnBoarding.B36 = true := by kernel_rfl
def laws_FnBoarding.T43 : Bool × List (List Nat × List Nat) := (true, [([], []), ([], []), ([], []), ([1, 2], [1, 2]), ([3], [3]), ([0, 4], [0, 4]), ([5], [5]), ([], []), ([], []), ([], []), ([9], [9]), ([8, 10], [8, 10]), ([11], [11]), ([7, 12], [7, 12]), ([13], [13]), ([6, 14], [6, 14])])
def laws_FnBoarding.B43 : List Nat := [0, 0, 0, 6, 14, 31, 63, 0, 0, 0, 512, 1792, 3840, 8064, 16256, 32767]
theorem laws_FnBoarding.tab43 : rtab .any (opsOf Try.f3 43) = laws_FnBoarding.T43 := by kernel_rfl
theorem laws_FnBoarding.bits43 : waitsOk laws_FnBoarding.T43.2 laws_FnBoarding.B43 = true := by kernel_rfl
def laws_FnBoarding.T54 : Bool × List (List Nat × List Nat) := (true, [([], []), ([], []), ([0, 1], [0, 1]), ([], []), ([], []), ([3, 4], [3, 4]), ([5], [5]), ([], []), ([6, 7], [6, 7]), ([8, 2], [8]), ([9], [9]), ([9], [9]), ([9], [9]), ([11, 12, 9], [9, 11, 12]), ([13, 9], [9, 13]), ([10, 14, 9], [9, 10, 14]), ([9, 15], [9, 15]), ([2, 16], [2, 16])])
def laws_FnBoarding.B54 : List Nat := [0, 0, 3, 0, 0, 24, 56, 0, 248, 511, 1023, 1023, 1023, 7167, 15359, 32767, 65535, 131071]
theorem laws_FnBoarding.tab54 : rtab .any (opsOf Try.f3 54) = laws_FnBoarding.T54 := by kernel_rfl
theorem laws_FnBoarding.bits54 : waitsOk laws_FnBoarding.T54.2 laws_FnBoarding.B54 = true := by kernel_rfl
theorem pol_atC {W : World} {ad : Addr} {n : Nat} {xs : List Int} (h : Kd.C (Kd.int .i64) W (some ad) n xs) (i : Int) (h0 : 0 ≤ i) (h1 : i < (n : Int)) : W.cell? (ad.add i.toNat) = some (.int .i64 (rd xs i)) := by
 obtain ⟨a, e, hc⟩ := Kd.at_int h i h0 h1
 cases e
 exact hc
set_option maxHeartbeats 0 in
set_option maxRecDepth 100000 in
theorem laws_FnBoarding.calls (k : Nat) (A0 : Option Addr) (c0 : Nat) (l0 : List Int) (w : World) (hr0 : Kd.C (Kd.int .u8) w A0 l0.length l0) (hc0 : l0.length ≤ c0) (h : laws_FnBoarding.f k l0 = some true) :
  Calls Try.prog 3 #[.slice A0 l0.length c0] w fun e w' => e = .returned (.bool true) ∧ Below w.heap.size w w' := by
 have HR := Aside0.mk hr0
 have HC := Aside0.mk hc0
 clear hr0 hc0
 have HB := Aside0.mk (Below.refl w.heap.size w)
 unfold laws_FnBoarding.f at h
 obtain ⟨big, a1, h0⟩ := Option.bind_eq_some_iff.mp h
 clear h; have h := h0; clear h0
 have A1 := Aside0.mk a1; clear a1
 cases big with
 | true =>
  clear h
  go_enter Try.func3, Try.ntmps3
  go_wp2_with (go_at_call 4; (with_reducible refine (laws_vBig.calls A0 c0 l0 true _ (Kd.C_below HR.out HB.out) HC.out A1.out).mono ?_); rintro e w0_ ⟨rfl, hd_⟩; have hb := hd_.below; clear hd_; replace HB := Aside0.mk (below_step HB.out hb); clear hb)
  go_ret
  exact ⟨rfl, HB.out⟩
 | false =>
  rw [if_neg (show ¬ (false = true) by decide)] at h
  obtain ⟨⟨n, s, od, t⟩, a2, h0⟩ := Option.bind_eq_some_iff.mp h
  clear h; have h := h0; clear h0
  have A2 := Aside0.mk a2; clear a2
  obtain ⟨⟨aa, ok⟩, a3, h0⟩ := Option.bind_eq_some_iff.mp h
  clear h; have h := h0; clear h0
  have A3 := Aside0.mk a3; clear a3
  obtain ⟨⟨aa', ok'⟩, a4, h0⟩ := Option.bind_eq_some_iff.mp h
  clear h; have h := h0; clear h0
  have A4 := Aside0.mk a4; clear a4
  obtain ⟨⟨ti, fi⟩, a5, h0⟩ := Option.bind_eq_some_iff.mp h
  clear h; have h := h0; clear h0
  have A5 := Aside0.mk a5; clear a5
  obtain ⟨⟨ti', fi'⟩, a6, h0⟩ := Option.bind_eq_some_iff.mp h
  clear h; have h := h0; clear h0
  have A6 := Aside0.mk a6; clear a6
  obtain ⟨⟨sa, f2⟩, a7, h0⟩ := Option.bind_eq_some_iff.mp h
  clear h; have h := h0; clear h0
  have A7 := Aside0.mk a7; clear a7
  obtain ⟨⟨sa', f2'⟩, a8, h0⟩ := Option.bind_eq_some_iff.mp h
  clear h; have h := h0; clear h0
  have A8 := Aside0.mk a8; clear a8
  obtain ⟨⟨en, f3⟩, a9, h0⟩ := Option.bind_eq_some_iff.mp h
  clear h; have h := h0; clear h0
  have A9 := Aside0.mk a9; clear a9
  obtain ⟨⟨en', f3'⟩, a10, h0⟩ := Option.bind_eq_some_iff.mp h
  clear h; have h := h0; clear h0
  have A10 := Aside0.mk a10; clear a10
  obtain ⟨⟨wa, f4⟩, a11, h0⟩ := Option.bind_eq_some_iff.mp h
  clear h; have h := h0; clear h0
  have A11 := Aside0.mk a11; clear a11
  obtain ⟨⟨wa', f4'⟩, a12, h0⟩ := Option.bind_eq_some_iff.mp h
  clear h; have h := h0; clear h0
  have A12 := Aside0.mk a12; clear a12
  obtain ⟨⟨ie, i3⟩, a13, h0⟩ := Option.bind_eq_some_iff.mp h
  clear h; have h := h0; clear h0
  have A13 := Aside0.mk a13; clear a13
  obtain ⟨⟨ie', i3'⟩, a14, h0⟩ := Option.bind_eq_some_iff.mp h
  clear h; have h := h0; clear h0
  have A14 := Aside0.mk a14; clear a14
  obtain ⟨lc, a15, h0⟩ := Option.bind_eq_some_iff.mp h
  clear h; have h := h0; clear h0
  have A15 := Aside0.mk a15; clear a15
  obtain ⟨⟨zu, zv, li, zi⟩, a16, h0⟩ := Option.bind_eq_some_iff.mp h
  clear h; have h := h0; clear h0
  have A16 := Aside0.mk a16; clear a16
  obtain ⟨⟨sg, fo⟩, a17, h0⟩ := Option.bind_eq_some_iff.mp h
  clear h; have h := h0; clear h0
  have A17 := Aside0.mk a17; clear a17
  obtain ⟨⟨sg', fo'⟩, a18, h0⟩ := Option.bind_eq_some_iff.mp h
  clear h; have h := h0; clear h0
  have A18 := Aside0.mk a18; clear a18
  simp only at h
  by_cases cc : ok = ok' ∧ (ti, fi) = (ti', fi') ∧ f2 = f2' ∧ f3 = f3' ∧ f4 = f4' ∧ (ie, i3) = (ie', i3') ∧ (sg, fo) = (sg', fo') ∧ fi = f2 ∧ fi = f3 ∧ fi = f4 ∧ (fi = true → ie = true) ∧ (ok = true → fi = true)
  rotate_left
  ·rw [if_neg cc] at h; cases h
  rw [if_pos cc] at h
  simp only [Prod.mk.injEq] at cc
  obtain ⟨rfl, ⟨rfl, rfl⟩, rfl, rfl, rfl, ⟨rfl, rfl⟩, ⟨rfl, rfl⟩, rfl, rfl, rfl, ci, co⟩ := cc
  have CI := Aside0.mk ci
  have CO := Aside0.mk co
  clear ci co
  obtain ⟨e1, a19, h0⟩ := Option.bind_eq_some_iff.mp h
  clear h; have h := h0; clear h0
  have A19 := Aside0.mk a19; clear a19
  obtain ⟨e2, a20, h0⟩ := Option.bind_eq_some_iff.mp h
  clear h; have h := h0; clear h0
  have A20 := Aside0.mk a20; clear a20
  obtain ⟨e3, a21, h0⟩ := Option.bind_eq_some_iff.mp h
  clear h; have h := h0; clear h0
  have A21 := Aside0.mk a21; clear a21
  obtain ⟨e4, a22, h0⟩ := Option.bind_eq_some_iff.mp h
  clear h; have h := h0; clear h0
  have A22 := Aside0.mk a22; clear a22
  by_cases ce : e1 = true ∧ e2 = true ∧ e3 = true ∧ e4 = true
  rotate_left
  ·rw [if_neg ce] at h; cases h
  rw [if_pos ce] at h
  obtain ⟨rfl, rfl, rfl, rfl⟩ := ce
  obtain ⟨x0, a23, h0⟩ := Option.bind_eq_some_iff.mp h
  clear h; have h := h0; clear h0
  have A23 := Aside0.mk a23; clear a23
  have HH := Aside0.mk h
  clear h
  go_enter Try.func3, Try.ntmps3
  go_upto_region 3 with (go_at_call 4; (with_reducible refine (laws_vBig.calls A0 c0 l0 false _ (Kd.C_below HR.out HB.out) HC.out A1.out).mono ?_); rintro e w0_ ⟨rfl, hd_⟩; have hb := hd_.below; clear hd_; replace HB := Aside0.mk (below_step HB.out hb); clear hb)
  go_upto_region 4 with (go_at_call 5; (with_reducible refine (spec_DrawAisleAt.calls k A0 c0 l0 n s od t _ (Kd.C_below HR.out HB.out) HC.out A2.out).mono ?_); rintro e w1_ ⟨v_, rfl, hR, hb⟩; obtain ⟨Ao, co, e_, hc_, hC_⟩ := Kd.R_reads hR; subst e_; replace HB := Aside0.mk (below_step HB.out hb); clear hb; have Fo := Aside0.mk hC_; have Lo := Aside0.mk hc_; clear hR hC_ hc_)
  go_upto_region 5 with (go_at_call 6; (with_reducible refine (impl_AisleAt.calls k n s Ao co od t aa ok _ Fo.out Lo.out A3.out).mono ?_); rintro e w2_ ⟨v_, rfl, hR, hb⟩; obtain ⟨Aa, ca, e_, hc_, hC_⟩ := Kd.R_reads hR; subst e_; replace HB := Aside0.mk (below_step HB.out hb); replace Fo := Aside0.mk (Kd.C_below Fo.out hb); clear hb; have Fa := Aside0.mk hC_; have La := Aside0.mk hc_; clear hR hC_ hc_)
  go_upto_region 6 with (go_at_call 7; (with_reducible refine (spec_AisleAt.calls k n s Ao co od t aa' ok _ Fo.out Lo.out A4.out).mono ?_); rintro e w3_ ⟨v_, rfl, hR, hb⟩; obtain ⟨Ab, cb, e_, hc_, hC_⟩ := Kd.R_reads hR; subst e_; replace HB := Aside0.mk (below_step HB.out hb); replace Fo := Aside0.mk (Kd.C_below Fo.out hb); replace Fa := Aside0.mk (Kd.C_below Fa.out hb); clear hb; have Fb := Aside0.mk hC_; have Lb := Aside0.mk hc_; clear hR hC_ hc_)
  go_upto_region 7 with (go_at_call 8; (with_reducible refine (impl_BoardTime.calls k n s Ao co od ti fi _ Fo.out Lo.out A5.out).mono ?_); rintro e w4_ ⟨rfl, hb⟩; replace HB := Aside0.mk (below_step HB.out hb); replace Fo := Aside0.mk (Kd.C_below Fo.out hb); replace Fa := Aside0.mk (Kd.C_below Fa.out hb); replace Fb := Aside0.mk (Kd.C_below Fb.out hb); clear hb)
  go_upto_region 8 with (go_at_call 9; (with_reducible refine (spec_BoardTime.calls k n s Ao co od ti fi _ Fo.out Lo.out A6.out).mono ?_); rintro e w5_ ⟨rfl, hb⟩; replace HB := Aside0.mk (below_step HB.out hb); replace Fo := Aside0.mk (Kd.C_below Fo.out hb); replace Fa := Aside0.mk (Kd.C_below Fa.out hb); replace Fb := Aside0.mk (Kd.C_below Fb.out hb); clear hb)
  go_upto_region 9 with (go_at_call 10; (with_reducible refine (impl_SitTimes.calls k n s Ao co od sa fi _ Fo.out Lo.out A7.out).mono ?_); rintro e w6_ ⟨v_, rfl, hR, hb⟩; obtain ⟨As, cs, e_, hc_, hC_⟩ := Kd.R_reads hR; subst e_; replace HB := Aside0.mk (below_step HB.out hb); replace Fo := Aside0.mk (Kd.C_below Fo.out hb); replace Fa := Aside0.mk (Kd.C_below Fa.out hb); replace Fb := Aside0.mk (Kd.C_below Fb.out hb); clear hb; have Fs := Aside0.mk hC_; have Ls := Aside0.mk hc_; clear hR hC_ hc_)
  go_upto_region 10 with (go_at_call 11; (with_reducible refine (spec_SitTimes.calls k n s Ao co od sa' fi _ Fo.out Lo.out A8.out).mono ?_); rintro e w7_ ⟨v_, rfl, hR, hb⟩; obtain ⟨Aq, cq, e_, hc_, hC_⟩ := Kd.R_reads hR; subst e_; replace HB := Aside0.mk (below_step HB.out hb); replace Fo := Aside0.mk (Kd.C_below Fo.out hb); replace Fa := Aside0.mk (Kd.C_below Fa.out hb); replace Fb := Aside0.mk (Kd.C_below Fb.out hb); replace Fs := Aside0.mk (Kd.C_below Fs.out hb); clear hb; have Fq := Aside0.mk hC_; have Lq := Aside0.mk hc_; clear hR hC_ hc_)
  go_upto_region 11 with (go_at_call 12; (with_reducible refine (impl_EnterTimes.calls k n s Ao co od en fi _ Fo.out Lo.out A9.out).mono ?_); rintro e w8_ ⟨v_, rfl, hR, hb⟩; obtain ⟨Ae, ce, e_, hc_, hC_⟩ := Kd.R_reads hR; subst e_; replace HB := Aside0.mk (below_step HB.out hb); replace Fo := Aside0.mk (Kd.C_below Fo.out hb); replace Fa := Aside0.mk (Kd.C_below Fa.out hb); replace Fb := Aside0.mk (Kd.C_below Fb.out hb); replace Fs := Aside0.mk (Kd.C_below Fs.out hb); replace Fq := Aside0.mk (Kd.C_below Fq.out hb); clear hb; have Fe := Aside0.mk hC_; have Le := Aside0.mk hc_; clear hR hC_ hc_)
  go_upto_region 12 with (go_at_call 13; (with_reducible refine (spec_EnterTimes.calls k n s Ao co od en' fi _ Fo.out Lo.out A10.out).mono ?_); rintro e w9_ ⟨v_, rfl, hR, hb⟩; obtain ⟨Af, cf, e_, hc_, hC_⟩ := Kd.R_reads hR; subst e_; replace HB := Aside0.mk (below_step HB.out hb); replace Fo := Aside0.mk (Kd.C_below Fo.out hb); replace Fa := Aside0.mk (Kd.C_below Fa.out hb); replace Fb := Aside0.mk (Kd.C_below Fb.out hb); replace Fs := Aside0.mk (Kd.C_below Fs.out hb); replace Fq := Aside0.mk (Kd.C_below Fq.out hb); replace Fe := Aside0.mk (Kd.C_below Fe.out hb); clear hb; have Ff := Aside0.mk hC_; have Lf := Aside0.mk hc_; clear hR hC_ hc_)
  go_upto_region 13 with (go_at_call 14; (with_reducible refine (impl_WaitTimes.calls k n s Ao co od wa fi _ Fo.out Lo.out A11.out).mono ?_); rintro e w10_ ⟨v_, rfl, hR, hb⟩; obtain ⟨Aw, cw, e_, hc_, hC_⟩ := Kd.R_reads hR; subst e_; replace HB := Aside0.mk (below_step HB.out hb); replace Fo := Aside0.mk (Kd.C_below Fo.out hb); replace Fa := Aside0.mk (Kd.C_below Fa.out hb); replace Fb := Aside0.mk (Kd.C_below Fb.out hb); replace Fs := Aside0.mk (Kd.C_below Fs.out hb); replace Fq := Aside0.mk (Kd.C_below Fq.out hb); replace Fe := Aside0.mk (Kd.C_below Fe.out hb); replace Ff := Aside0.mk (Kd.C_below Ff.out hb); clear hb; have Fw := Aside0.mk hC_; have Lw := Aside0.mk hc_; clear hR hC_ hc_)
  go_upto_region 14 with (go_at_call 15; (with_reducible refine (spec_WaitTimes.calls k n s Ao co od wa' fi _ Fo.out Lo.out A12.out).mono ?_); rintro e w11_ ⟨v_, rfl, hR, hb⟩; obtain ⟨Av, cv, e_, hc_, hC_⟩ := Kd.R_reads hR; subst e_; replace HB := Aside0.mk (below_step HB.out hb); replace Fo := Aside0.mk (Kd.C_below Fo.out hb); replace Fa := Aside0.mk (Kd.C_below Fa.out hb); replace Fb := Aside0.mk (Kd.C_below Fb.out hb); replace Fs := Aside0.mk (Kd.C_below Fs.out hb); replace Fq := Aside0.mk (Kd.C_below Fq.out hb); replace Fe := Aside0.mk (Kd.C_below Fe.out hb); replace Ff := Aside0.mk (Kd.C_below Ff.out hb); replace Fw := Aside0.mk (Kd.C_below Fw.out hb); clear hb; have Fv := Aside0.mk hC_; have Lv := Aside0.mk hc_; clear hR hC_ hc_)
  go_upto_region 15 with (go_at_call 16; (with_reducible refine (impl_IsEntering.calls k n Ao co od ie i3 _ Fo.out Lo.out A13.out).mono ?_); rintro e w12_ ⟨rfl, hd_⟩; have hb := hd_.below; clear hd_; replace HB := Aside0.mk (below_step HB.out hb); replace Fo := Aside0.mk (Kd.C_below Fo.out hb); replace Fa := Aside0.mk (Kd.C_below Fa.out hb); replace Fb := Aside0.mk (Kd.C_below Fb.out hb); replace Fs := Aside0.mk (Kd.C_below Fs.out hb); replace Fq := Aside0.mk (Kd.C_below Fq.out hb); replace Fe := Aside0.mk (Kd.C_below Fe.out hb); replace Ff := Aside0.mk (Kd.C_below Ff.out hb); replace Fw := Aside0.mk (Kd.C_below Fw.out hb); replace Fv := Aside0.mk (Kd.C_below Fv.out hb); clear hb)
  go_upto_region 16 with (go_at_call 17; (with_reducible refine (spec_IsEntering.calls k n Ao co od ie i3 _ Fo.out Lo.out A14.out).mono ?_); rintro e w13_ ⟨rfl, hd_⟩; have hb := hd_.below; clear hd_; replace HB := Aside0.mk (below_step HB.out hb); replace Fo := Aside0.mk (Kd.C_below Fo.out hb); replace Fa := Aside0.mk (Kd.C_below Fa.out hb); replace Fb := Aside0.mk (Kd.C_below Fb.out hb); replace Fs := Aside0.mk (Kd.C_below Fs.out hb); replace Fq := Aside0.mk (Kd.C_below Fq.out hb); replace Fe := Aside0.mk (Kd.C_below Fe.out hb); replace Ff := Aside0.mk (Kd.C_below Ff.out hb); replace Fw := Aside0.mk (Kd.C_below Fw.out hb); replace Fv := Aside0.mk (Kd.C_below Fv.out hb); clear hb)
  go_upto_region 17 with (first | (go_at_call 19; (with_reducible refine (laws_vCut.calls A0 c0 l0 1 lc _ (Kd.C_below HR.out HB.out) HC.out A15.out).mono ?_); rintro e w14_ ⟨v_, rfl, hR, hb⟩; obtain ⟨Ac, cc, e_, hc_, hC_⟩ := Kd.R_reads hR; subst e_; replace HB := Aside0.mk (below_step HB.out hb); replace Fo := Aside0.mk (Kd.C_below Fo.out hb); replace Fa := Aside0.mk (Kd.C_below Fa.out hb); replace Fb := Aside0.mk (Kd.C_below Fb.out hb); replace Fs := Aside0.mk (Kd.C_below Fs.out hb); replace Fq := Aside0.mk (Kd.C_below Fq.out hb); replace Fe := Aside0.mk (Kd.C_below Fe.out hb); replace Ff := Aside0.mk (Kd.C_below Ff.out hb); replace Fw := Aside0.mk (Kd.C_below Fw.out hb); replace Fv := Aside0.mk (Kd.C_below Fv.out hb); clear hb; have Fc := Aside0.mk hC_; have Lc := Aside0.mk hc_; clear hR hC_ hc_) | (go_at_call 18; (with_reducible refine (spec_DrawSwapGain.calls k Ac cc lc zu zv li zi _ Fc.out Lc.out A16.out).mono ?_); rintro e w15_ ⟨v_, rfl, hR, hb⟩; obtain ⟨Al, cl, e_, hc_, hC_⟩ := Kd.R_reads hR; subst e_; replace HB := Aside0.mk (below_step HB.out hb); replace Fo := Aside0.mk (Kd.C_below Fo.out hb); replace Fa := Aside0.mk (Kd.C_below Fa.out hb); replace Fb := Aside0.mk (Kd.C_below Fb.out hb); replace Fs := Aside0.mk (Kd.C_below Fs.out hb); replace Fq := Aside0.mk (Kd.C_below Fq.out hb); replace Fe := Aside0.mk (Kd.C_below Fe.out hb); replace Ff := Aside0.mk (Kd.C_below Ff.out hb); replace Fw := Aside0.mk (Kd.C_below Fw.out hb); replace Fv := Aside0.mk (Kd.C_below Fv.out hb); replace Fc := Aside0.mk (Kd.C_below Fc.out hb); clear hb; have Fl := Aside0.mk hC_; have Ll := Aside0.mk hc_; clear hR hC_ hc_))
  go_upto_region 18 with (go_at_call 20; (with_reducible refine (impl_SwapGain.calls k zu zv Al cl li zi sg fo _ Fl.out Ll.out A17.out).mono ?_); rintro e w16_ ⟨rfl, hb⟩; replace HB := Aside0.mk (below_step HB.out hb); replace Fo := Aside0.mk (Kd.C_below Fo.out hb); replace Fa := Aside0.mk (Kd.C_below Fa.out hb); replace Fb := Aside0.mk (Kd.C_below Fb.out hb); replace Fs := Aside0.mk (Kd.C_below Fs.out hb); replace Fq := Aside0.mk (Kd.C_below Fq.out hb); replace Fe := Aside0.mk (Kd.C_below Fe.out hb); replace Ff := Aside0.mk (Kd.C_below Ff.out hb); replace Fw := Aside0.mk (Kd.C_below Fw.out hb); replace Fv := Aside0.mk (Kd.C_below Fv.out hb); replace Fc := Aside0.mk (Kd.C_below Fc.out hb); replace Fl := Aside0.mk (Kd.C_below Fl.out hb); clear hb)
  go_upto_region 19 with (go_at_call 21; (with_reducible refine (spec_SwapGain.calls k zu zv Al cl li zi sg fo _ Fl.out Ll.out A18.out).mono ?_); rintro e w17_ ⟨rfl, hb⟩; replace HB := Aside0.mk (below_step HB.out hb); replace Fo := Aside0.mk (Kd.C_below Fo.out hb); replace Fa := Aside0.mk (Kd.C_below Fa.out hb); replace Fb := Aside0.mk (Kd.C_below Fb.out hb); replace Fs := Aside0.mk (Kd.C_below Fs.out hb); replace Fq := Aside0.mk (Kd.C_below Fq.out hb); replace Fe := Aside0.mk (Kd.C_below Fe.out hb); replace Ff := Aside0.mk (Kd.C_below Ff.out hb); replace Fw := Aside0.mk (Kd.C_below Fw.out hb); replace Fv := Aside0.mk (Kd.C_below Fv.out hb); replace Fc := Aside0.mk (Kd.C_below Fc.out hb); replace Fl := Aside0.mk (Kd.C_below Fl.out hb); clear hb)
  go_cut [265] (fun v265 wc => v265 = .bool false ∧ Aside0 (Below w.heap.size w wc) ∧ Aside0 (Kd.C (Kd.int .i64) wc Ao od.length od) ∧ Aside0 (Kd.C (Kd.int .i64) wc Aa aa.length aa) ∧ Aside0 (Kd.C (Kd.int .i64) wc As sa.length sa) ∧ Aside0 (Kd.C (Kd.int .i64) wc Ae en.length en) ∧ Aside0 (Kd.C (Kd.int .i64) wc Aw wa.length wa) ∧ Aside0 (Kd.C (Kd.int .i64) wc Al li.length li))
  case first =>
   as_aux_lemma =>
    have ci := CI.out
    have co := CO.out
    clear CI CO HH A23
    cases ok with
    | true =>
     obtain rfl := co rfl
     obtain rfl := ci rfl
     clear ci co
     as_aux_lemma =>
      go_wp2_with (first | (go_at_call 22; (with_reducible refine (laws_vInts.calls k Aa ca aa Ab cb aa' true _ Fa.out La.out Fb.out Lb.out A19.out).mono ?_); rintro e w18_ ⟨rfl, hd_⟩; have hb := hd_.below; clear hd_; replace HB := Aside0.mk (below_step HB.out hb); replace Fo := Aside0.mk (Kd.C_below Fo.out hb); replace Fa := Aside0.mk (Kd.C_below Fa.out hb); replace Fb := Aside0.mk (Kd.C_below Fb.out hb); replace Fs := Aside0.mk (Kd.C_below Fs.out hb); replace Fq := Aside0.mk (Kd.C_below Fq.out hb); replace Fe := Aside0.mk (Kd.C_below Fe.out hb); replace Ff := Aside0.mk (Kd.C_below Ff.out hb); replace Fw := Aside0.mk (Kd.C_below Fw.out hb); replace Fv := Aside0.mk (Kd.C_below Fv.out hb); replace Fc := Aside0.mk (Kd.C_below Fc.out hb); replace Fl := Aside0.mk (Kd.C_below Fl.out hb); clear hb) | (go_at_call 22; (with_reducible refine (laws_vInts.calls k As cs sa Aq cq sa' true _ Fs.out Ls.out Fq.out Lq.out A20.out).mono ?_); rintro e w19_ ⟨rfl, hd_⟩; have hb := hd_.below; clear hd_; replace HB := Aside0.mk (below_step HB.out hb); replace Fo := Aside0.mk (Kd.C_below Fo.out hb); replace Fa := Aside0.mk (Kd.C_below Fa.out hb); replace Fb := Aside0.mk (Kd.C_below Fb.out hb); replace Fs := Aside0.mk (Kd.C_below Fs.out hb); replace Fq := Aside0.mk (Kd.C_below Fq.out hb); replace Fe := Aside0.mk (Kd.C_below Fe.out hb); replace Ff := Aside0.mk (Kd.C_below Ff.out hb); replace Fw := Aside0.mk (Kd.C_below Fw.out hb); replace Fv := Aside0.mk (Kd.C_below Fv.out hb); replace Fc := Aside0.mk (Kd.C_below Fc.out hb); replace Fl := Aside0.mk (Kd.C_below Fl.out hb); clear hb) | (go_at_call 22; (with_reducible refine (laws_vInts.calls k Ae ce en Af cf en' true _ Fe.out Le.out Ff.out Lf.out A21.out).mono ?_); rintro e w20_ ⟨rfl, hd_⟩; have hb := hd_.below; clear hd_; replace HB := Aside0.mk (below_step HB.out hb); replace Fo := Aside0.mk (Kd.C_below Fo.out hb); replace Fa := Aside0.mk (Kd.C_below Fa.out hb); replace Fb := Aside0.mk (Kd.C_below Fb.out hb); replace Fs := Aside0.mk (Kd.C_below Fs.out hb); replace Fq := Aside0.mk (Kd.C_below Fq.out hb); replace Fe := Aside0.mk (Kd.C_below Fe.out hb); replace Ff := Aside0.mk (Kd.C_below Ff.out hb); replace Fw := Aside0.mk (Kd.C_below Fw.out hb); replace Fv := Aside0.mk (Kd.C_below Fv.out hb); replace Fc := Aside0.mk (Kd.C_below Fc.out hb); replace Fl := Aside0.mk (Kd.C_below Fl.out hb); clear hb) | (go_at_call 22; (with_reducible refine (laws_vInts.calls k Aw cw wa Av cv wa' true _ Fw.out Lw.out Fv.out Lv.out A22.out).mono ?_); rintro e w21_ ⟨rfl, hd_⟩; have hb := hd_.below; clear hd_; replace HB := Aside0.mk (below_step HB.out hb); replace Fo := Aside0.mk (Kd.C_below Fo.out hb); replace Fa := Aside0.mk (Kd.C_below Fa.out hb); replace Fb := Aside0.mk (Kd.C_below Fb.out hb); replace Fs := Aside0.mk (Kd.C_below Fs.out hb); replace Fq := Aside0.mk (Kd.C_below Fq.out hb); replace Fe := Aside0.mk (Kd.C_below Fe.out hb); replace Ff := Aside0.mk (Kd.C_below Ff.out hb); replace Fw := Aside0.mk (Kd.C_below Fw.out hb); replace Fv := Aside0.mk (Kd.C_below Fv.out hb); replace Fc := Aside0.mk (Kd.C_below Fc.out hb); replace Fl := Aside0.mk (Kd.C_below Fl.out hb); clear hb))
      go_meet
      case rel => exact ⟨by first | rfl | (simp; done) | (simp [*]; done), HB, Fo, Fa, Fs, Fe, Fw, Fl⟩
    | false =>
     clear co
     cases fi with
     | true =>
      obtain rfl := ci rfl
      clear ci
      as_aux_lemma =>
       go_wp2_with (first | (go_at_call 22; (with_reducible refine (laws_vInts.calls k Aa ca aa Ab cb aa' true _ Fa.out La.out Fb.out Lb.out A19.out).mono ?_); rintro e w18_ ⟨rfl, hd_⟩; have hb := hd_.below; clear hd_; replace HB := Aside0.mk (below_step HB.out hb); replace Fo := Aside0.mk (Kd.C_below Fo.out hb); replace Fa := Aside0.mk (Kd.C_below Fa.out hb); replace Fb := Aside0.mk (Kd.C_below Fb.out hb); replace Fs := Aside0.mk (Kd.C_below Fs.out hb); replace Fq := Aside0.mk (Kd.C_below Fq.out hb); replace Fe := Aside0.mk (Kd.C_below Fe.out hb); replace Ff := Aside0.mk (Kd.C_below Ff.out hb); replace Fw := Aside0.mk (Kd.C_below Fw.out hb); replace Fv := Aside0.mk (Kd.C_below Fv.out hb); replace Fc := Aside0.mk (Kd.C_below Fc.out hb); replace Fl := Aside0.mk (Kd.C_below Fl.out hb); clear hb) | (go_at_call 22; (with_reducible refine (laws_vInts.calls k As cs sa Aq cq sa' true _ Fs.out Ls.out Fq.out Lq.out A20.out).mono ?_); rintro e w19_ ⟨rfl, hd_⟩; have hb := hd_.below; clear hd_; replace HB := Aside0.mk (below_step HB.out hb); replace Fo := Aside0.mk (Kd.C_below Fo.out hb); replace Fa := Aside0.mk (Kd.C_below Fa.out hb); replace Fb := Aside0.mk (Kd.C_below Fb.out hb); replace Fs := Aside0.mk (Kd.C_below Fs.out hb); replace Fq := Aside0.mk (Kd.C_below Fq.out hb); replace Fe := Aside0.mk (Kd.C_below Fe.out hb); replace Ff := Aside0.mk (Kd.C_below Ff.out hb); replace Fw := Aside0.mk (Kd.C_below Fw.out hb); replace Fv := Aside0.mk (Kd.C_below Fv.out hb); replace Fc := Aside0.mk (Kd.C_below Fc.out hb); replace Fl := Aside0.mk (Kd.C_below Fl.out hb); clear hb) | (go_at_call 22; (with_reducible refine (laws_vInts.calls k Ae ce en Af cf en' true _ Fe.out Le.out Ff.out Lf.out A21.out).mono ?_); rintro e w20_ ⟨rfl, hd_⟩; have hb := hd_.below; clear hd_; replace HB := Aside0.mk (below_step HB.out hb); replace Fo := Aside0.mk (Kd.C_below Fo.out hb); replace Fa := Aside0.mk (Kd.C_below Fa.out hb); replace Fb := Aside0.mk (Kd.C_below Fb.out hb); replace Fs := Aside0.mk (Kd.C_below Fs.out hb); replace Fq := Aside0.mk (Kd.C_below Fq.out hb); replace Fe := Aside0.mk (Kd.C_below Fe.out hb); replace Ff := Aside0.mk (Kd.C_below Ff.out hb); replace Fw := Aside0.mk (Kd.C_below Fw.out hb); replace Fv := Aside0.mk (Kd.C_below Fv.out hb); replace Fc := Aside0.mk (Kd.C_below Fc.out hb); replace Fl := Aside0.mk (Kd.C_below Fl.out hb); clear hb) | (go_at_call 22; (with_reducible refine (laws_vInts.calls k Aw cw wa Av cv wa' true _ Fw.out Lw.out Fv.out Lv.out A22.out).mono ?_); rintro e w21_ ⟨rfl, hd_⟩; have hb := hd_.below; clear hd_; replace HB := Aside0.mk (below_step HB.out hb); replace Fo := Aside0.mk (Kd.C_below Fo.out hb); replace Fa := Aside0.mk (Kd.C_below Fa.out hb); replace Fb := Aside0.mk (Kd.C_below Fb.out hb); replace Fs := Aside0.mk (Kd.C_below Fs.out hb); replace Fq := Aside0.mk (Kd.C_below Fq.out hb); replace Fe := Aside0.mk (Kd.C_below Fe.out hb); replace Ff := Aside0.mk (Kd.C_below Ff.out hb); replace Fw := Aside0.mk (Kd.C_below Fw.out hb); replace Fv := Aside0.mk (Kd.C_below Fv.out hb); replace Fc := Aside0.mk (Kd.C_below Fc.out hb); replace Fl := Aside0.mk (Kd.C_below Fl.out hb); clear hb))
       go_meet
       case rel => exact ⟨by first | rfl | (simp; done) | (simp [*]; done), HB, Fo, Fa, Fs, Fe, Fw, Fl⟩
     | false =>
      clear ci
      as_aux_lemma =>
       go_wp2_with (first | (go_at_call 22; (with_reducible refine (laws_vInts.calls k Aa ca aa Ab cb aa' true _ Fa.out La.out Fb.out Lb.out A19.out).mono ?_); rintro e w18_ ⟨rfl, hd_⟩; have hb := hd_.below; clear hd_; replace HB := Aside0.mk (below_step HB.out hb); replace Fo := Aside0.mk (Kd.C_below Fo.out hb); replace Fa := Aside0.mk (Kd.C_below Fa.out hb); replace Fb := Aside0.mk (Kd.C_below Fb.out hb); replace Fs := Aside0.mk (Kd.C_below Fs.out hb); replace Fq := Aside0.mk (Kd.C_below Fq.out hb); replace Fe := Aside0.mk (Kd.C_below Fe.out hb); replace Ff := Aside0.mk (Kd.C_below Ff.out hb); replace Fw := Aside0.mk (Kd.C_below Fw.out hb); replace Fv := Aside0.mk (Kd.C_below Fv.out hb); replace Fc := Aside0.mk (Kd.C_below Fc.out hb); replace Fl := Aside0.mk (Kd.C_below Fl.out hb); clear hb) | (go_at_call 22; (with_reducible refine (laws_vInts.calls k As cs sa Aq cq sa' true _ Fs.out Ls.out Fq.out Lq.out A20.out).mono ?_); rintro e w19_ ⟨rfl, hd_⟩; have hb := hd_.below; clear hd_; replace HB := Aside0.mk (below_step HB.out hb); replace Fo := Aside0.mk (Kd.C_below Fo.out hb); replace Fa := Aside0.mk (Kd.C_below Fa.out hb); replace Fb := Aside0.mk (Kd.C_below Fb.out hb); replace Fs := Aside0.mk (Kd.C_below Fs.out hb); replace Fq := Aside0.mk (Kd.C_below Fq.out hb); replace Fe := Aside0.mk (Kd.C_below Fe.out hb); replace Ff := Aside0.mk (Kd.C_below Ff.out hb); replace Fw := Aside0.mk (Kd.C_below Fw.out hb); replace Fv := Aside0.mk (Kd.C_below Fv.out hb); replace Fc := Aside0.mk (Kd.C_below Fc.out hb); replace Fl := Aside0.mk (Kd.C_below Fl.out hb); clear hb) | (go_at_call 22; (with_reducible refine (laws_vInts.calls k Ae ce en Af cf en' true _ Fe.out Le.out Ff.out Lf.out A21.out).mono ?_); rintro e w20_ ⟨rfl, hd_⟩; have hb := hd_.below; clear hd_; replace HB := Aside0.mk (below_step HB.out hb); replace Fo := Aside0.mk (Kd.C_below Fo.out hb); replace Fa := Aside0.mk (Kd.C_below Fa.out hb); replace Fb := Aside0.mk (Kd.C_below Fb.out hb); replace Fs := Aside0.mk (Kd.C_below Fs.out hb); replace Fq := Aside0.mk (Kd.C_below Fq.out hb); replace Fe := Aside0.mk (Kd.C_below Fe.out hb); replace Ff := Aside0.mk (Kd.C_below Ff.out hb); replace Fw := Aside0.mk (Kd.C_below Fw.out hb); replace Fv := Aside0.mk (Kd.C_below Fv.out hb); replace Fc := Aside0.mk (Kd.C_below Fc.out hb); replace Fl := Aside0.mk (Kd.C_below Fl.out hb); clear hb) | (go_at_call 22; (with_reducible refine (laws_vInts.calls k Aw cw wa Av cv wa' true _ Fw.out Lw.out Fv.out Lv.out A22.out).mono ?_); rintro e w21_ ⟨rfl, hd_⟩; have hb := hd_.below; clear hd_; replace HB := Aside0.mk (below_step HB.out hb); replace Fo := Aside0.mk (Kd.C_below Fo.out hb); replace Fa := Aside0.mk (Kd.C_below Fa.out hb); replace Fb := Aside0.mk (Kd.C_below Fb.out hb); replace Fs := Aside0.mk (Kd.C_below Fs.out hb); replace Fq := Aside0.mk (Kd.C_below Fq.out hb); replace Fe := Aside0.mk (Kd.C_below Fe.out hb); replace Ff := Aside0.mk (Kd.C_below Ff.out hb); replace Fw := Aside0.mk (Kd.C_below Fw.out hb); replace Fv := Aside0.mk (Kd.C_below Fv.out hb); replace Fc := Aside0.mk (Kd.C_below Fc.out hb); replace Fl := Aside0.mk (Kd.C_below Fl.out hb); clear hb))
       go_meet
       case rel => exact ⟨by first | rfl | (simp; done) | (simp [*]; done), HB, Fo, Fa, Fs, Fe, Fw, Fl⟩
  case rest =>
   as_aux_lemma =>
    clear HB Fo Fa Fb Fs Fq Fe Ff Fw Fv Fc Fl CI CO A2 A3 A4 A5 A6 A7 A8 A9 A10 A11 A12 A13 A14 A15 A16 A17 A18 A19 A20 A21 A22
    obtain ⟨rfl, HB, Fo, Fa, Fs, Fe, Fw, Fl⟩ := hcut
    go_upto_if 266 with (fail)
    go_cut [39] (fun v39 wc2 => Aside0 (Below w.heap.size w wc2) ∧ Aside0 (Kd.C (Kd.int .i64) wc2 Ao od.length od) ∧ Aside0 (Kd.C (Kd.int .i64) wc2 Aa aa.length aa) ∧ Aside0 (Kd.C (Kd.int .i64) wc2 As sa.length sa) ∧ Aside0 (Kd.C (Kd.int .i64) wc2 Ae en.length en) ∧ Aside0 (Kd.C (Kd.int .i64) wc2 Aw wa.length wa))
    case first =>
     as_aux_lemma =>
      have h := A23.out
      clear A23 HH
      unfold laws_FnBoarding.q at h
      cases fo with
      | false =>
       go_wp2
       go_meet
       case rel => exact ⟨HB, Fo, Fa, Fs, Fe, Fw⟩
      | true =>
       rw [if_pos rfl] at h
       by_cases c1 : 0 ≤ zi ∧ zi < (li.length : Int) ∧ 0 ≤ wrap64 (zi + 1) ∧ wrap64 (zi + 1) < (li.length : Int) ∧ li.length ≤ 1000000
       rotate_left
       ·rw [if_neg c1] at h; cases h
       rw [if_pos c1] at h
       obtain ⟨d1, d2, d3, d4, d5⟩ := c1
       obtain ⟨⟨sb, fb⟩, b1, h0⟩ := Option.bind_eq_some_iff.mp h
       clear h; have h := h0; clear h0
       have B1 := Aside0.mk b1; clear b1
       simp only at h
       by_cases c2 : fb = true ∧ sb = wrap64 (-sg)
       rotate_left
       ·rw [if_neg c2] at h; cases h
       clear h
       obtain ⟨rfl, rfl⟩ := c2
       have P1 := Aside0.mk d1
       have P2 := Aside0.mk d2
       have P3 := Aside0.mk d3
       have P4 := Aside0.mk d4
       have P5 := Aside0.mk d5
       clear d1 d2 d3 d4 d5
       have HQ := Aside0.mk (Below.refl wc.heap.size wc)
       go_upto_region 23 with (first | ((with_reducible refine gate_dst (N := 267) rfl ?_); refine Kd.R_lit (Kd.int .i64) _ 3 ?hg (N := 267) ?hd (xs := ([] : List Int)) (inner := []) (ok := fun _ => True) (okp := fun _ => True) ?hr ?hp (fun _ hk => hk) trivial (Below.refl _ _) (Nat.le_refl _) (by simp) ?_; (case hd => rfl); (case hg => rfl); (case hr => first | (go_simp; done) | (go_simp; rfl)); (case hp => exact (Reps.none _ _)); intro v6 w113 ho114 hb hg_ hnew_; clear hg_ hnew_; have HO := Aside0.mk ho114; replace HQ := Aside0.mk (below_step HQ.out hb); clear hb ho114) | ((with_reducible refine gate_builtin (b := .append) (xs := #[.tmp 267, .tmp 268]) rfl ?_); at_builtin; refine Kd.R_append_rows (Kd.int .i64) (w0 := wc) wc.heap.size rfl (.tmp 267) (.tmp 268) 24 3 (.int .i64 0) 8 rfl Try.underlying24 info3 rfl (by decide) (by omega) v6 [] li _ _ _ (fun _ => True) (fun _ => False) rfl rfl ?aO ?aR (fun _ _ h => h) (fun _ h => h.elim) ?aF ?aB ?aS ?aL ?_; (case aR => exact Kd.C_below Fl.out HQ.out); (case aB => exact HQ.out); (case aF => exact (fun k_ hk => trivial)); (case aO => exact HO.out); (case aS => exact HQ.out.size); (case aL => have := P5.out; rw [List.length_nil]; omega); intro v7 w115 ho hb hg hat; clear hg hat HO HQ; rw [List.nil_append] at ho; have HO := Aside0.mk ho; have HQ := Aside0.mk hb; clear ho hb))
       obtain ⟨go, co_, eo, gb, gl, cl_, HG⟩ := Kd.R_form HO.out (by have := P2.out; have := P1.out; omega)
       cases eo
       have GE := Aside0.mk gb
       clear gb gl HG
       obtain ⟨adl, el, hl0⟩ := Kd.at_int (Kd.C_below Fl.out HQ.out) (wrap64 (zi + 1)) P3.out P4.out
       cases el
       clear hl0
       have hl0 := pol_atC (Kd.C_below Fl.out HQ.out) (wrap64 (zi + 1)) P3.out P4.out
       obtain ⟨hy, hz⟩ := Kd.R_celln 0 HO.out zi P1.out P2.out
       have d1 := eq_true P1.out
       have d2 := eq_true P2.out
       have d3 := eq_true P3.out
       have d4 := eq_true P4.out
       go_upto_region 24 with ((with_reducible refine gate_store (t := 3) (p := 277) rfl ?_); refine store_event (t := 3) (p := 277) (v := ?vo_w117) (w1 := (w115.setCell ⟨go, (zi).toNat, none⟩ (.int .i64 (rd li (wrap64 (zi + 1)))))) ?hg ?ho ?hn ?hr ?_; (case ho => rfl); (case hg => rfl); (case hn => rfl); (case hr => first | (go_simp; done) | (go_simp; rfl)); intro w117 hw; have hp_ := (Kd.R_putg HO.out (zi) (rd li (wrap64 (zi + 1)))).1; have hq_ := below_set (j := (zi).toNat) (v := .int .i64 (rd li (wrap64 (zi + 1)))) HQ.out GE.out; rw [← hw] at hp_ hq_; clear HO HQ hw hy hz; have HO := Aside0.mk hp_; have HQ := Aside0.mk hq_; clear hp_ hq_)
       clear hl0
       have hl0 := pol_atC (Kd.C_below Fl.out HQ.out) zi P1.out P2.out
       have e5 : (li.set zi.toNat (rd li (wrap64 (zi + 1)))).length = li.length := List.length_set
       obtain ⟨hy, hz⟩ := Kd.R_celln 0 HO.out (wrap64 (zi + 1)) P3.out P4.out
       clear e5
       go_upto_region 25 with ((with_reducible refine gate_store (t := 3) (p := 285) rfl ?_); refine store_event (t := 3) (p := 285) (v := ?vo_w119) (w1 := (w117.setCell ⟨go, (wrap64 (zi + 1)).toNat, none⟩ (.int .i64 (rd li zi)))) ?hg ?ho ?hn ?hr ?_; (case ho => rfl); (case hg => rfl); (case hn => rfl); (case hr => first | (go_simp; done) | (go_simp; rfl)); intro w119 hw; have hp_ := (Kd.R_putg HO.out (wrap64 (zi + 1)) (rd li zi)).1; have hq_ := below_set (j := (wrap64 (zi + 1)).toNat) (v := .int .i64 (rd li zi)) HQ.out GE.out; rw [← hw] at hp_ hq_; clear HO HQ hw hy hz; have HO := Aside0.mk hp_; have HQ := Aside0.mk hq_; clear hp_ hq_)
       clear hl0
       obtain ⟨xo, hxo⟩ : ∃ x, x = ((li.set zi.toNat (rd li (wrap64 (zi + 1)))).set (wrap64 (zi + 1)).toNat (rd li zi)) := ⟨_, rfl⟩
       have hol := (Kd.R_reads' HO.out).1
       rw [← hxo] at hol
       have e6 := Aside0.mk (show li.length = xo.length from hol)
       clear hol
       have h7 := HO.out
       rw [← hxo] at h7
       have b7 := B1.out
       rw [← hxo] at b7
       clear HO B1
       have HO := Aside0.mk h7
       have B1 := Aside0.mk b7
       clear h7 b7 hxo
       rw [e6.out]
       have HX := Aside0.mk (show Kd.C (Kd.int .i64) w119 (some ⟨go, 0, none⟩) xo.length xo from (Kd.R_reads' HO.out).2.2)
       have HY := Aside0.mk (show xo.length ≤ co_ from by have h1_ := (Kd.R_reads' HO.out).1; have h2_ := (Kd.R_reads' HO.out).2.1; omega)
       have hC := impl_SwapGain.calls k zu zv (some ⟨go, 0, none⟩) co_ xo zi (wrap64 (-sg)) true w119 HX.out HY.out B1.out
       go_wp2_with (go_at_call 20; (with_reducible refine hC.mono ?_); rintro e w25 ⟨rfl, hb⟩; replace HQ := Aside0.mk (below_step HQ.out hb); clear hb)
       rw [← e6.out]
       go_meet
       case rel => exact ⟨⟨below_step HB.out HQ.out⟩, ⟨Kd.C_below Fo.out HQ.out⟩, ⟨Kd.C_below Fa.out HQ.out⟩, ⟨Kd.C_below Fs.out HQ.out⟩, ⟨Kd.C_below Fe.out HQ.out⟩, ⟨Kd.C_below Fw.out HQ.out⟩⟩
    case rest =>
     as_aux_lemma =>
      clear A23 HB Fo Fa Fs Fe Fw Fl
      obtain ⟨HB, Fo, Fa, Fs, Fe, Fw⟩ := hcut
      have H := HH.out
      clear HH
      cases fi with
      | false =>
       go_wp2
       go_ret
       exact ⟨rfl, HB.out⟩
      | true =>
       rw [if_pos rfl] at H
       unfold laws_FnBoarding.g at H
       by_cases c1 : ti < wrap64 (n + s)
       ·rw [if_pos c1] at H; cases H
       rw [if_neg c1] at H
       have c1b : decide (ti < wrap64 (n + s)) = false := decide_eq_false c1
       clear c1
       replace H := Option.bind_eq_some_iff.mp H
       obtain ⟨la, d1, H0⟩ := H
       have H := H0
       clear H0
       have D1 := Aside0.mk d1
       clear d1
       replace H := Option.bind_eq_some_iff.mp H
       obtain ⟨x1, d2, H0⟩ := H
       have H := H0
       clear H0
       have D2 := Aside0.mk d2
       clear d2
       replace H := Option.bind_eq_some_iff.mp H
       obtain ⟨x2, d3, H0⟩ := H
       have H := H0
       clear H0
       have D3 := Aside0.mk d3
       clear d3
       replace H := Option.bind_eq_some_iff.mp H
       obtain ⟨x3, d4, H0⟩ := H
       have H := H0
       clear H0
       have D4 := Aside0.mk d4
       clear d4
       have D5 := Aside0.mk H
       clear H
       have HQ0 := Aside0.mk (Below.refl wc.heap.size wc)
       go_wp2
       clear c1b
       go_loopg [42, 43] k (fun kq v42 v43 w' => ∃ la0 i : Int, v42 = .int .i64 la0 ∧ v43 = .int .i64 i ∧ Aside0 (laws_FnBoarding.l1 kq n s sa en wa i la0 = some la) ∧ Aside0 (kq ≤ k) ∧ Aside0 (Below wc.heap.size wc w'))
       case atStart => exact ⟨0, 0, rfl, rfl, D1, ⟨Nat.le_refl _⟩, HQ0⟩
       case round =>
        clear D1 HQ0
        obtain ⟨la0, i, rfl, rfl, HA, HK1, HQ⟩ := hrel
        cases gk with
        | zero => exact absurd HA.out (by simp [laws_FnBoarding.l1])
        | succ k1 =>
         have H := HA.out
         clear HA
         simp only [laws_FnBoarding.l1] at H
         by_cases c8 : i < n
         ·skip
          as_aux_lemma =>
           rw [if_pos c8] at H
           have c8b : decide (i < n) = true := decide_eq_true c8
           by_cases c9 : 0 ≤ i ∧ i < (sa.length : Int) ∧ i < (en.length : Int) ∧ i < (wa.length : Int) ∧ rd sa i = wrap64 (wrap64 (wrap64 (rd en i + i) + rd wa i) + s) ∧ ¬ rd wa i < 0
           rotate_left
           ·rw [if_neg c9] at H; cases H
           rw [if_pos c9] at H
           obtain ⟨d1, d2, d3, d4, d5, d6⟩ := c9
           have HH := Aside0.mk H
           clear H
           have CS := Aside0.mk (Kd.C_below Fs.out HQ.out)
           have CE := Aside0.mk (Kd.C_below Fe.out HQ.out)
           have CW := Aside0.mk (Kd.C_below Fw.out HQ.out)
           obtain ⟨ads, e_, h_⟩ := Kd.at_int CS.out (i) d1 d2
           cases e_
           clear h_
           obtain ⟨ade, e_, h_⟩ := Kd.at_int CE.out (i) d1 d3
           cases e_
           clear h_
           obtain ⟨adw, e_, h_⟩ := Kd.at_int CW.out (i) d1 d4
           cases e_
           clear h_
           have d5b : (rd sa i != wrap64 (wrap64 (wrap64 (rd en i + i) + rd wa i) + s)) = false := bne_eq_false_iff_eq.mpr d5
           have d6b : decide (rd wa i < 0) = false := decide_eq_false d6
           clear d5 d6
           replace d1 := eq_true d1
           replace d2 := eq_true d2
           replace d3 := eq_true d3
           replace d4 := eq_true d4
           go_upto_region 36 with (fail)
           refine start_ (n := 25) (S := fun w' => w'.cell? (ads.add i.toNat) = some (.int .i64 (rd sa i)) ∧ w'.cell? (ade.add i.toNat) = some (.int .i64 (rd en i)) ∧ w'.cell? (adw.add i.toNat) = some (.int .i64 (rd wa i))) (ds := []) #[false, false, false, false, false, false, false, false, false, false, false, false, false, false, false, false, false, false, false, false, false, false, false, false, false] (by kernel_rfl) rfl rfl ⟨pol_atC (Kd.C_below CS.out (below_drew1 (Below.refl _ _))) (i) (of_eq_true d1) (of_eq_true d2), pol_atC (Kd.C_below CE.out (below_drew1 (Below.refl _ _))) (i) (of_eq_true d1) (of_eq_true d3), pol_atC (Kd.C_below CW.out (below_drew1 (Below.refl _ _))) (i) (of_eq_true d1) (of_eq_true d4)⟩ (fun hHeld => ?_)
           refine with_tabW laws_FnBoarding.tab36 laws_FnBoarding.bits36 (fun HT_ HW_ => ?_)
           have n0_ := Aside0.mk (below_drew1 HQ.out)
           have n1_ := Aside0.mk (Kd.C_below CS.out (below_drew1 (Below.refl _ _)))
           have n2_ := Aside0.mk (Kd.C_below CE.out (below_drew1 (Below.refl _ _)))
           have n3_ := Aside0.mk (Kd.C_below CW.out (below_drew1 (Below.refl _ _)))
           clear HQ CS CE CW
           have HQ := n0_
           have CS := n1_
           have CE := n2_
           have CW := n3_
           clear n0_ n1_ n2_ n3_
           generalize World.drew _ = w36 at HQ CS CE CW hHeld ⊢
           refine pi_ (i := 0) (N := some 314) (v := ?_) (a' := ?_) (bm 25 1) rfl rfl HT_ (by kernel_rfl) (fun _ _ _ h => h) (Or.inl ⟨by rfl, ?_⟩) ?_ ?_
           rotate_left
           ·intro w'
            go_simp
            with_reducible rfl
           rotate_left
           ·simp only [Act.put, pp_]
            rfl
           refine pi_ (i := 1) (N := some 315) (v := ?_) (a' := ?_) (bm 25 3) rfl rfl HT_ (by kernel_rfl) (fun _ _ _ h => h) (Or.inl ⟨by rfl, ?_⟩) ?_ ?_
           rotate_left
           ·intro w'
            go_simp
            with_reducible rfl
           rotate_left
           ·simp only [Act.put, pp_]
            rfl
           refine pi_ (i := 2) (N := some 316) (v := ?_) (a' := ?_) (bm 25 7) rfl rfl HT_ (by kernel_rfl) (fun _ _ _ h => h) (Or.inl ⟨by rfl, ?_⟩) ?_ ?_
           rotate_left
           ·intro w'
            go_simp
            with_reducible rfl
           rotate_left
           ·simp only [Act.put, pp_]
            rfl
           refine pi_ (i := 4) (N := some 318) (v := ?_) (a' := ?_) (bm 25 23) rfl rfl HT_ (by kernel_rfl) (fun _ _ _ h => h) (Or.inl ⟨by rfl, ?_⟩) ?_ ?_
           rotate_left
           ·intro w'
            go_simp
            with_reducible rfl
           rotate_left
           ·simp only [Act.put, pp_]
            rfl
           refine pi_ (i := 5) (N := some 319) (v := ?_) (a' := ?_) (bm 25 55) rfl rfl HT_ (by kernel_rfl) (fun _ _ _ h => h) (Or.inl ⟨by rfl, ?_⟩) ?_ ?_
           rotate_left
           ·intro w'
            go_simp
            with_reducible rfl
           rotate_left
           ·simp only [Act.put, pp_]
            rfl
           refine pi_ (i := 6) (N := some 320) (v := ?_) (a' := ?_) (bm 25 119) rfl rfl HT_ (by kernel_rfl) (fun _ _ _ h => h) (Or.inl ⟨by rfl, ?_⟩) ?_ ?_
           rotate_left
           ·intro w'
            go_simp
            with_reducible rfl
           rotate_left
           ·simp only [Act.put, pp_]
            rfl
           refine pi_ (i := 8) (N := some 322) (v := ?_) (a' := ?_) (bm 25 375) rfl rfl HT_ (by kernel_rfl) (fun _ _ _ h => h) (Or.inl ⟨by rfl, ?_⟩) ?_ ?_
           rotate_left
           ·intro w'
            go_simp
            with_reducible rfl
           rotate_left
           ·simp only [Act.put, pp_]
            rfl
           refine pi_ (i := 10) (N := some 324) (v := ?_) (a' := ?_) (bm 25 1399) rfl rfl HT_ (by kernel_rfl) (fun _ _ _ h => h) (Or.inl ⟨by rfl, ?_⟩) ?_ ?_
           rotate_left
           ·intro w'
            go_simp
            with_reducible rfl
           rotate_left
           ·simp only [Act.put, pp_]
            rfl
           refine pi_ (i := 11) (N := some 325) (v := ?_) (a' := ?_) (bm 25 3447) rfl rfl HT_ (by kernel_rfl) (fun _ _ _ h => h) (Or.inl ⟨by rfl, ?_⟩) ?_ ?_
           rotate_left
           ·intro w'
            go_simp
            with_reducible rfl
           rotate_left
           ·simp only [Act.put, pp_]
            rfl
           refine pi_ (i := 12) (N := some 326) (v := ?_) (a' := ?_) (bm 25 7543) rfl rfl HT_ (by kernel_rfl) (fun _ _ _ h => h) (Or.inl ⟨by rfl, ?_⟩) ?_ ?_
           rotate_left
           ·intro w'
            go_simp
            with_reducible rfl
           rotate_left
           ·simp only [Act.put, pp_]
            rfl
           refine pi_ (i := 15) (N := some 329) (v := ?_) (a' := ?_) (bm 25 40311) rfl rfl HT_ (by kernel_rfl) (fun _ _ _ h => h) (Or.inl ⟨by rfl, ?_⟩) ?_ ?_
           rotate_left
           ·intro w'
            go_simp
            with_reducible rfl
           rotate_left
           ·simp only [Act.put, pp_]
            rfl
           refine take_ (i := 3) (N := some 317) (v := ?_) (a' := ?_) (bm 25 40319) rfl rfl (take_ofW HT_.out HW_.out (by kernel_rfl)) (fun _ _ _ h => h) (Or.inl ⟨by rfl, ?_⟩) hHeld ?_ ?_
           rotate_left
           ·rintro w' ⟨s0, s1, s2⟩
            go_simp
            with_reducible rfl
           rotate_left
           ·simp only [Act.put, pp_]
            rfl
           refine take_ (i := 7) (N := some 321) (v := ?_) (a' := ?_) (bm 25 40447) rfl rfl (take_ofW HT_.out HW_.out (by kernel_rfl)) (fun _ _ _ h => h) (Or.inl ⟨by rfl, ?_⟩) hHeld ?_ ?_
           rotate_left
           ·rintro w' ⟨s0, s1, s2⟩
            go_simp
            with_reducible rfl
           rotate_left
           ·simp only [Act.put, pp_]
            rfl
           refine pi_ (i := 9) (N := some 323) (v := ?_) (a' := ?_) (bm 25 40959) rfl rfl HT_ (by kernel_rfl) (fun _ _ _ h => h) (Or.inl ⟨by rfl, ?_⟩) ?_ ?_
           rotate_left
           ·intro w'
            go_simp
            with_reducible rfl
           rotate_left
           ·simp only [Act.put, pp_]
            rfl
           refine take_ (i := 13) (N := some 327) (v := ?_) (a' := ?_) (bm 25 49151) rfl rfl (take_ofW HT_.out HW_.out (by kernel_rfl)) (fun _ _ _ h => h) (Or.inl ⟨by rfl, ?_⟩) hHeld ?_ ?_
           rotate_left
           ·rintro w' ⟨s0, s1, s2⟩
            go_simp
            with_reducible rfl
           rotate_left
           ·simp only [Act.put, pp_]
            rfl
           refine pi_ (i := 14) (N := some 328) (v := ?_) (a' := ?_) (bm 25 65535) rfl rfl HT_ (by kernel_rfl) (fun _ _ _ h => h) (Or.inl ⟨by rfl, ?_⟩) ?_ ?_
           rotate_left
           ·intro w'
            go_simp
            with_reducible rfl
           rotate_left
           ·simp only [Act.put, pp_]
            rfl
           refine pi_ (i := 16) (N := some 330) (v := ?_) (a' := ?_) (bm 25 131071) rfl rfl HT_ (by kernel_rfl) (fun _ _ _ h => h) (Or.inl ⟨by rfl, ?_⟩) ?_ ?_
           rotate_left
           ·intro w'
            go_simp
            with_reducible rfl
           rotate_left
           ·simp only [Act.put, pp_]
            rfl
           refine pi_ (i := 17) (N := some 331) (v := ?_) (a' := ?_) (bm 25 262143) rfl rfl HT_ (by kernel_rfl) (fun _ _ _ h => h) (Or.inl ⟨by rfl, ?_⟩) ?_ ?_
           rotate_left
           ·intro w'
            go_simp
            with_reducible rfl
           rotate_left
           ·simp only [Act.put, pp_]
            rfl
           refine pi_ (i := 18) (N := some 332) (v := ?_) (a' := ?_) (bm 25 524287) rfl rfl HT_ (by kernel_rfl) (fun _ _ _ h => h) (Or.inl ⟨by rfl, ?_⟩) ?_ ?_
           rotate_left
           ·intro w'
            go_simp
            with_reducible rfl
           rotate_left
           ·simp only [Act.put, pp_]
            rfl
           refine pi_ (i := 19) (N := some 333) (v := ?_) (a' := ?_) (bm 25 1048575) rfl rfl HT_ (by kernel_rfl) (fun _ _ _ h => h) (Or.inl ⟨by rfl, ?_⟩) ?_ ?_
           rotate_left
           ·intro w'
            go_simp
            with_reducible rfl
           rotate_left
           ·simp only [Act.put, pp_]
            rfl
           refine pi_ (i := 20) (N := some 334) (v := ?_) (a' := ?_) (bm 25 2097151) rfl rfl HT_ (by kernel_rfl) (fun _ _ _ h => h) (Or.inl ⟨by rfl, ?_⟩) ?_ ?_
           rotate_left
           ·intro w'
            go_simp
            with_reducible rfl
           rotate_left
           ·simp only [Act.put, pp_]
            rfl
           refine pi_ (i := 21) (N := some 335) (v := ?_) (a' := ?_) (bm 25 4194303) rfl rfl HT_ (by kernel_rfl) (fun _ _ _ h => h) (Or.inl ⟨by rfl, ?_⟩) ?_ ?_
           rotate_left
           ·intro w'
            go_simp
            with_reducible rfl
           rotate_left
           ·simp only [Act.put, pp_]
            rfl
           refine take_ (i := 22) (N := some 336) (v := ?_) (a' := ?_) (bm 25 8388607) rfl rfl (take_ofW HT_.out HW_.out (by kernel_rfl)) (fun _ _ _ h => h) (Or.inl ⟨by rfl, ?_⟩) hHeld ?_ ?_
           rotate_left
           ·rintro w' ⟨s0, s1, s2⟩
            go_simp
            with_reducible rfl
           rotate_left
           ·simp only [Act.put, pp_]
            rfl
           refine pi_ (i := 23) (N := some 337) (v := ?_) (a' := ?_) (bm 25 16777215) rfl rfl HT_ (by kernel_rfl) (fun _ _ _ h => h) (Or.inl ⟨by rfl, ?_⟩) ?_ ?_
           rotate_left
           ·intro w'
            go_simp
            with_reducible rfl
           rotate_left
           ·simp only [Act.put, pp_]
            rfl
           refine pi_ (i := 24) (N := some 338) (v := ?_) (a' := ?_) (bm 25 33554431) rfl rfl HT_ (by kernel_rfl) (fun _ _ _ h => h) (Or.inl ⟨by rfl, ?_⟩) ?_ ?_
           rotate_left
           ·intro w'
            go_simp
            with_reducible rfl
           rotate_left
           ·simp only [Act.put, pp_]
            rfl
           refine done_ (done_of HT_.out (by kernel_rfl)) ?_

           have hs0 : w36.cell? (ads.add i.toNat) = some (.int .i64 (rd sa i)) := pol_atC CS.out (i) (of_eq_true d1) (of_eq_true d2)
           by_cases c10 : rd sa i > la0
           ·rw [if_pos c10] at HH
            have c10b : decide (la0 < rd sa i) = true := decide_eq_true c10
            clear c10
            go_wp2
            go_roundg k1
            case measure => have h_ := HK1.out; omega
            case rel => exact ⟨rd sa i, wrap64 (i + 1), (by first | rfl | (simp; done) | (simp [*]; done)), (by first | rfl | (simp; done) | (simp [*]; done)), HH, ⟨by have h_ := HK1.out; omega⟩, HQ⟩
           ·rw [if_neg c10] at HH
            have c10b : decide (la0 < rd sa i) = false := decide_eq_false c10
            clear c10
            go_wp2
            go_roundg k1
            case measure => have h_ := HK1.out; omega
            case rel => exact ⟨la0, wrap64 (i + 1), (by first | rfl | (simp; done) | (simp [*]; done)), (by first | rfl | (simp; done) | (simp [*]; done)), HH, ⟨by have h_ := HK1.out; omega⟩, HQ⟩
         ·rw [if_neg c8] at H
          obtain rfl := Option.some.inj H
          have c8b : decide (i < n) = false := decide_eq_false c8
          clear H c8
          as_aux_lemma =>
           go_wp2
           go_loopg [44] k (fun kq v44 w' => ∃ j : Int, v44 = .int .i64 j ∧ Aside0 (laws_FnBoarding.l2 kq n od en j = some x1) ∧ Aside0 (kq ≤ k) ∧ Aside0 (Below wc.heap.size wc w'))
           case atStart => exact ⟨1, rfl, D2, ⟨Nat.le_refl _⟩, HQ⟩
           case round =>
            clear D2 HQ
            obtain ⟨j, rfl, HA, HK2, HQ⟩ := hrel
            cases gk with
            | zero => exact absurd HA.out (by simp [laws_FnBoarding.l2])
            | succ k2 =>
             have H := HA.out
             clear HA
             simp only [laws_FnBoarding.l2] at H
             by_cases c8 : j < n
             ·skip
              as_aux_lemma =>
               rw [if_pos c8] at H
               have c8b : decide (j < n) = true := decide_eq_true c8
               by_cases c9 : 0 ≤ j ∧ j < (od.length : Int) ∧ 0 ≤ wrap64 (j - 1) ∧ wrap64 (j - 1) < (od.length : Int) ∧ 0 ≤ rd od j ∧ rd od j < (en.length : Int) ∧ 0 ≤ rd od (wrap64 (j - 1)) ∧ rd od (wrap64 (j - 1)) < (en.length : Int) ∧ ¬ rd en (rd od j) ≤ rd en (rd od (wrap64 (j - 1)))
               rotate_left
               ·rw [if_neg c9] at H; cases H
               rw [if_pos c9] at H
               obtain ⟨d1, d2, d3, d4, d5, d6, d7, d8, d9⟩ := c9
               have HH := Aside0.mk H
               clear H
               have CO := Aside0.mk (Kd.C_below Fo.out HQ.out)
               have CE := Aside0.mk (Kd.C_below Fe.out HQ.out)
               obtain ⟨ado, e_, h_⟩ := Kd.at_int CO.out (j) d1 d2
               cases e_
               clear h_
               obtain ⟨ade, e_, h_⟩ := Kd.at_int CE.out (rd od j) d5 d6
               cases e_
               clear h_
               have d9b : decide (rd en (rd od j) ≤ rd en (rd od (wrap64 (j - 1)))) = false := decide_eq_false d9
               clear d9
               replace d1 := eq_true d1
               replace d2 := eq_true d2
               replace d3 := eq_true d3
               replace d4 := eq_true d4
               replace d5 := eq_true d5
               replace d6 := eq_true d6
               replace d7 := eq_true d7
               replace d8 := eq_true d8
               go_upto_region 43 with (fail)
               refine start_ (n := 16) (S := fun w' => w'.cell? (ado.add j.toNat) = some (.int .i64 (rd od j)) ∧ w'.cell? (ade.add (rd od j).toNat) = some (.int .i64 (rd en (rd od j))) ∧ w'.cell? (ado.add (wrap64 (j - 1)).toNat) = some (.int .i64 (rd od (wrap64 (j - 1)))) ∧ w'.cell? (ade.add (rd od (wrap64 (j - 1))).toNat) = some (.int .i64 (rd en (rd od (wrap64 (j - 1)))))) (ds := []) #[false, false, false, false, false, false, false, false, false, false, false, false, false, false, false, false] (by kernel_rfl) rfl rfl ⟨pol_atC (Kd.C_below CO.out (below_drew1 (Below.refl _ _))) (j) (of_eq_true d1) (of_eq_true d2), pol_atC (Kd.C_below CE.out (below_drew1 (Below.refl _ _))) (rd od j) (of_eq_true d5) (of_eq_true d6), pol_atC (Kd.C_below CO.out (below_drew1 (Below.refl _ _))) (wrap64 (j - 1)) (of_eq_true d3) (of_eq_true d4), pol_atC (Kd.C_below CE.out (below_drew1 (Below.refl _ _))) (rd od (wrap64 (j - 1))) (of_eq_true d7) (of_eq_true d8)⟩ (fun hHeld => ?_)
               refine with_tabW laws_FnBoarding.tab43 laws_FnBoarding.bits43 (fun HT_ HW_ => ?_)
               have n0_ := Aside0.mk (below_drew1 HQ.out)
               have n1_ := Aside0.mk (Kd.C_below CO.out (below_drew1 (Below.refl _ _)))
               have n2_ := Aside0.mk (Kd.C_below CE.out (below_drew1 (Below.refl _ _)))
               clear HQ CO CE
               have HQ := n0_
               have CO := n1_
               have CE := n2_
               clear n0_ n1_ n2_
               generalize World.drew _ = w43 at HQ CO CE hHeld ⊢
               refine pi_ (i := 0) (N := some 354) (v := ?_) (a' := ?_) (bm 16 1) rfl rfl HT_ (by kernel_rfl) (fun _ _ _ h => h) (Or.inl ⟨by rfl, ?_⟩) ?_ ?_
               rotate_left
               ·intro w'
                go_simp
                with_reducible rfl
               rotate_left
               ·simp only [Act.put, pp_]
                rfl
               refine pi_ (i := 1) (N := some 355) (v := ?_) (a' := ?_) (bm 16 3) rfl rfl HT_ (by kernel_rfl) (fun _ _ _ h => h) (Or.inl ⟨by rfl, ?_⟩) ?_ ?_
               rotate_left
               ·intro w'
                go_simp
                with_reducible rfl
               rotate_left
               ·simp only [Act.put, pp_]
                rfl
               refine pi_ (i := 2) (N := some 356) (v := ?_) (a' := ?_) (bm 16 7) rfl rfl HT_ (by kernel_rfl) (fun _ _ _ h => h) (Or.inl ⟨by rfl, ?_⟩) ?_ ?_
               rotate_left
               ·intro w'
                go_simp
                with_reducible rfl
               rotate_left
               ·simp only [Act.put, pp_]
                rfl
               refine pi_ (i := 3) (N := some 357) (v := ?_) (a' := ?_) (bm 16 15) rfl rfl HT_ (by kernel_rfl) (fun _ _ _ h => h) (Or.inl ⟨by rfl, ?_⟩) ?_ ?_
               rotate_left
               ·intro w'
                go_simp
                with_reducible rfl
               rotate_left
               ·simp only [Act.put, pp_]
                rfl
               refine pi_ (i := 7) (N := some 361) (v := ?_) (a' := ?_) (bm 16 143) rfl rfl HT_ (by kernel_rfl) (fun _ _ _ h => h) (Or.inl ⟨by rfl, ?_⟩) ?_ ?_
               rotate_left
               ·intro w'
                go_simp
                with_reducible rfl
               rotate_left
               ·simp only [Act.put, pp_]
                rfl
               refine pi_ (i := 8) (N := some 362) (v := ?_) (a' := ?_) (bm 16 399) rfl rfl HT_ (by kernel_rfl) (fun _ _ _ h => h) (Or.inl ⟨by rfl, ?_⟩) ?_ ?_
               rotate_left
               ·intro w'
                go_simp
                with_reducible rfl
               rotate_left
               ·simp only [Act.put, pp_]
                rfl
               refine pi_ (i := 9) (N := some 363) (v := ?_) (a' := ?_) (bm 16 911) rfl rfl HT_ (by kernel_rfl) (fun _ _ _ h => h) (Or.inl ⟨by rfl, ?_⟩) ?_ ?_
               rotate_left
               ·intro w'
                go_simp
                with_reducible rfl
               rotate_left
               ·simp only [Act.put, pp_]
                rfl
               refine pi_ (i := 10) (N := some 364) (v := ?_) (a' := ?_) (bm 16 1935) rfl rfl HT_ (by kernel_rfl) (fun _ _ _ h => h) (Or.inl ⟨by rfl, ?_⟩) ?_ ?_
               rotate_left
               ·intro w'
                go_simp
                with_reducible rfl
               rotate_left
               ·simp only [Act.put, pp_]
                rfl
               refine pi_ (i := 11) (N := some 365) (v := ?_) (a' := ?_) (bm 16 3983) rfl rfl HT_ (by kernel_rfl) (fun _ _ _ h => h) (Or.inl ⟨by rfl, ?_⟩) ?_ ?_
               rotate_left
               ·intro w'
                go_simp
                with_reducible rfl
               rotate_left
               ·simp only [Act.put, pp_]
                rfl
               refine take_ (i := 4) (N := some 358) (v := ?_) (a' := ?_) (bm 16 3999) rfl rfl (take_ofW HT_.out HW_.out (by kernel_rfl)) (fun _ _ _ h => h) (Or.inl ⟨by rfl, ?_⟩) hHeld ?_ ?_
               rotate_left
               ·rintro w' ⟨s0, s1, s2, s3⟩
                go_simp
                with_reducible rfl
               rotate_left
               ·simp only [Act.put, pp_]
                rfl
               refine pi_ (i := 5) (N := some 359) (v := ?_) (a' := ?_) (bm 16 4031) rfl rfl HT_ (by kernel_rfl) (fun _ _ _ h => h) (Or.inl ⟨by rfl, ?_⟩) ?_ ?_
               rotate_left
               ·intro w'
                go_simp
                with_reducible rfl
               rotate_left
               ·simp only [Act.put, pp_]
                rfl
               refine take_ (i := 6) (N := some 360) (v := ?_) (a' := ?_) (bm 16 4095) rfl rfl (take_ofW HT_.out HW_.out (by kernel_rfl)) (fun _ _ _ h => h) (Or.inl ⟨by rfl, ?_⟩) hHeld ?_ ?_
               rotate_left
               ·rintro w' ⟨s0, s1, s2, s3⟩
                go_simp
                with_reducible rfl
               rotate_left
               ·simp only [Act.put, pp_]
                rfl
               refine take_ (i := 12) (N := some 366) (v := ?_) (a' := ?_) (bm 16 8191) rfl rfl (take_ofW HT_.out HW_.out (by kernel_rfl)) (fun _ _ _ h => h) (Or.inl ⟨by rfl, ?_⟩) hHeld ?_ ?_
               rotate_left
               ·rintro w' ⟨s0, s1, s2, s3⟩
                go_simp
                with_reducible rfl
               rotate_left
               ·simp only [Act.put, pp_]
                rfl
               refine pi_ (i := 13) (N := some 367) (v := ?_) (a' := ?_) (bm 16 16383) rfl rfl HT_ (by kernel_rfl) (fun _ _ _ h => h) (Or.inl ⟨by rfl, ?_⟩) ?_ ?_
               rotate_left
               ·intro w'
                go_simp
                with_reducible rfl
               rotate_left
               ·simp only [Act.put, pp_]
                rfl
               refine take_ (i := 14) (N := some 368) (v := ?_) (a' := ?_) (bm 16 32767) rfl rfl (take_ofW HT_.out HW_.out (by kernel_rfl)) (fun _ _ _ h => h) (Or.inl ⟨by rfl, ?_⟩) hHeld ?_ ?_
               rotate_left
               ·rintro w' ⟨s0, s1, s2, s3⟩
                go_simp
                with_reducible rfl
               rotate_left
               ·simp only [Act.put, pp_]
                rfl
               refine pi_ (i := 15) (N := some 369) (v := ?_) (a' := ?_) (bm 16 65535) rfl rfl HT_ (by kernel_rfl) (fun _ _ _ h => h) (Or.inl ⟨by rfl, ?_⟩) ?_ ?_
               rotate_left
               ·intro w'
                go_simp
                with_reducible rfl
               rotate_left
               ·simp only [Act.put, pp_]
                rfl
               refine done_ (done_of HT_.out (by kernel_rfl)) ?_

               go_wp2
               go_roundg k2
               case measure => have h_ := HK2.out; omega
               case rel => exact ⟨wrap64 (j + 1), (by first | rfl | (simp; done) | (simp [*]; done)), HH, ⟨by have h_ := HK2.out; omega⟩, HQ⟩
             ·have c8b : decide (j < n) = false := decide_eq_false c8
              clear H c8
              cases ok with
              | true =>
               as_aux_lemma =>
                go_wp2
                go_loopg [45, 46] k (fun kq v45 v46 w' => ∃ (v : Value) (p : Int), v46 = v ∧ v45 = .int .i64 p ∧ Aside0 (laws_FnBoarding.l3 kq true n t aa en sa p = some x2) ∧ Aside0 (kq ≤ k) ∧ Aside0 (Below wc.heap.size wc w'))
                case atStart => exact ⟨_, 0, rfl, rfl, D3, ⟨Nat.le_refl _⟩, HQ⟩
                case round =>
                 clear D3 HQ
                 obtain ⟨v46, p, rfl, rfl, HA, HK3, HQ⟩ := hrel
                 cases gk with
                 | zero => exact absurd HA.out (by simp [laws_FnBoarding.l3])
                 | succ k3 =>
                  have H := HA.out
                  clear HA
                  simp only [laws_FnBoarding.l3] at H
                  by_cases c8 : p < n
                  ·skip
                   as_aux_lemma =>
                    rw [if_pos ⟨trivial, c8⟩] at H
                    have c8b : decide (p < n) = true := decide_eq_true c8
                    by_cases c9 : 0 ≤ p ∧ p < (aa.length : Int) ∧ (0 ≤ rd aa p → ¬ rd aa p < p ∧ rd aa p < (en.length : Int) ∧ ¬ rd en (rd aa p) > t ∧ rd aa p < (sa.length : Int) ∧ ¬ rd sa (rd aa p) ≤ t)
                    rotate_left
                    ·rw [if_neg c9] at H; cases H
                    rw [if_pos c9] at H
                    obtain ⟨d1, d2, d3⟩ := c9
                    have HH := Aside0.mk H
                    clear H
                    have CA := Aside0.mk (Kd.C_below Fa.out HQ.out)
                    have CE := Aside0.mk (Kd.C_below Fe.out HQ.out)
                    have CS := Aside0.mk (Kd.C_below Fs.out HQ.out)
                    obtain ⟨ada, e_, h_⟩ := Kd.at_int CA.out (p) d1 d2
                    cases e_
                    clear h_
                    have ha0 := pol_atC CA.out p d1 d2
                    replace d1 := eq_true d1
                    replace d2 := eq_true d2
                    by_cases c10 : 0 ≤ rd aa p
                    ·obtain ⟨f1, f2, f3, f4, f5⟩ := d3 c10
                     obtain ⟨ade, e_, h_⟩ := Kd.at_int CE.out (rd aa p) c10 f2
                     cases e_
                     clear h_
                     obtain ⟨ads, e_, h_⟩ := Kd.at_int CS.out (rd aa p) c10 f4
                     cases e_
                     clear h_
                     have he0 := pol_atC CE.out (rd aa p) c10 f2
                     have hs0 := pol_atC CS.out (rd aa p) c10 f4
                     have f1b : decide (rd aa p < p) = false := decide_eq_false f1
                     have f3b : decide (t < rd en (rd aa p)) = false := decide_eq_false f3
                     have f5b : decide (rd sa (rd aa p) ≤ t) = false := decide_eq_false f5
                     have c10b : decide (0 ≤ rd aa p) = true := decide_eq_true c10
                     replace f2 := eq_true f2
                     replace f4 := eq_true f4
                     replace c10 := eq_true c10
                     clear f1 f3 f5 d3
                     go_wp2
                     go_roundg k3
                     case measure => have h_ := HK3.out; omega
                     case rel => exact ⟨_, wrap64 (p + 1), rfl, (by first | rfl | (simp; done) | (simp [*]; done)), HH, ⟨by have h_ := HK3.out; omega⟩, HQ⟩
                    ·have c10b : decide (0 ≤ rd aa p) = false := decide_eq_false c10
                     clear c10 d3
                     go_wp2
                     go_roundg k3
                     case measure => have h_ := HK3.out; omega
                     case rel => exact ⟨_, wrap64 (p + 1), rfl, (by first | rfl | (simp; done) | (simp [*]; done)), HH, ⟨by have h_ := HK3.out; omega⟩, HQ⟩
                  ·have c8b : decide (p < n) = false := decide_eq_false c8
                   clear H
                   as_aux_lemma =>
                    go_wp2
                    go_loopg [47] k (fun kq v47 w' => ∃ p : Int, v47 = .int .i64 p ∧ Aside0 (laws_FnBoarding.l4 kq true n t aa en sa p = some x3) ∧ Aside0 (kq ≤ k) ∧ Aside0 (Below wc.heap.size wc w'))
                    case atStart => exact ⟨0, rfl, D4, ⟨Nat.le_refl _⟩, HQ⟩
                    case round =>
                     clear D4 HQ
                     obtain ⟨p, rfl, HA, HK4, HQ⟩ := hrel
                     cases gk with
                     | zero => exact absurd HA.out (by simp [laws_FnBoarding.l4])
                     | succ k4 =>
                      have H := HA.out
                      clear HA
                      simp only [laws_FnBoarding.l4] at H
                      by_cases c8 : p < n
                      ·skip
                       rw [if_pos ⟨trivial, c8⟩] at H
                       have c8b : decide (p < n) = true := decide_eq_true c8
                       replace H := Option.bind_eq_some_iff.mp H
                       obtain ⟨hv, e1, H0⟩ := H
                       have H := H0
                       clear H0
                       have E1 := Aside0.mk e1
                       clear e1
                       by_cases c9 : 0 ≤ p ∧ p < (en.length : Int) ∧ p < (sa.length : Int) ∧ hv = (decide (rd en p ≤ t) && decide (t < rd sa p))
                       rotate_left
                       ·rw [if_neg c9] at H; cases H
                       rw [if_pos c9] at H
                       obtain ⟨d1, d2, d3, d4⟩ := c9
                       have HH := Aside0.mk H
                       clear H
                       have CA := Aside0.mk (Kd.C_below Fa.out HQ.out)
                       have CE := Aside0.mk (Kd.C_below Fe.out HQ.out)
                       have CS := Aside0.mk (Kd.C_below Fs.out HQ.out)
                       obtain ⟨ade, e_, h_⟩ := Kd.at_int CE.out (p) d1 d2
                       cases e_
                       clear h_
                       obtain ⟨ads, e_, h_⟩ := Kd.at_int CS.out (p) d1 d3
                       cases e_
                       clear h_
                       replace d1 := eq_true d1
                       replace d2 := eq_true d2
                       replace d3 := eq_true d3
                       by_cases c11 : rd en p ≤ t
                       ·by_cases c12 : t < rd sa p
                        ·skip
                         as_aux_lemma =>
                          have g1 : decide (rd en p ≤ t) = true := decide_eq_true c11
                          have g2 : decide (t < rd sa p) = true := decide_eq_true c12
                          rw [g1, g2] at d4
                          simp only [Bool.and_true, Bool.and_false, Bool.true_and, Bool.false_and] at d4
                          obtain rfl := d4
                          clear c11 c12
                          go_upto_region 54 with (fail)
                          refine start_ (n := 18) (S := fun w' => w'.cell? (ade.add p.toNat) = some (.int .i64 (rd en p)) ∧ w'.cell? (ads.add p.toNat) = some (.int .i64 (rd sa p))) (ds := []) #[false, false, false, false, false, false, false, false, false, false, false, false, false, false, false, false, false, false] (by kernel_rfl) rfl rfl ⟨pol_atC (Kd.C_below CE.out (below_drew1 (Below.refl _ _))) (p) (of_eq_true d1) (of_eq_true d2), pol_atC (Kd.C_below CS.out (below_drew1 (Below.refl _ _))) (p) (of_eq_true d1) (of_eq_true d3)⟩ (fun hHeld => ?_)
                          refine with_tabW laws_FnBoarding.tab54 laws_FnBoarding.bits54 (fun HT_ HW_ => ?_)
                          have n0_ := Aside0.mk (below_drew1 HQ.out)
                          have n1_ := Aside0.mk (Kd.C_below CA.out (below_drew1 (Below.refl _ _)))
                          have n2_ := Aside0.mk (Kd.C_below CE.out (below_drew1 (Below.refl _ _)))
                          have n3_ := Aside0.mk (Kd.C_below CS.out (below_drew1 (Below.refl _ _)))
                          clear HQ CA CE CS
                          have HQ := n0_
                          have CA := n1_
                          have CE := n2_
                          have CS := n3_
                          clear n0_ n1_ n2_ n3_
                          generalize World.drew _ = w53 at HQ CA CE CS hHeld ⊢
                          refine pi_ (i := 0) (N := some 413) (v := ?_) (a' := ?_) (bm 18 1) rfl rfl HT_ (by kernel_rfl) (fun _ _ _ h => h) (Or.inl ⟨by rfl, ?_⟩) ?_ ?_
                          rotate_left
                          ·intro w'
                           go_simp
                           with_reducible rfl
                          rotate_left
                          ·simp only [Act.put, pp_]
                           rfl
                          refine pi_ (i := 1) (N := some 414) (v := ?_) (a' := ?_) (bm 18 3) rfl rfl HT_ (by kernel_rfl) (fun _ _ _ h => h) (Or.inl ⟨by rfl, ?_⟩) ?_ ?_
                          rotate_left
                          ·intro w'
                           go_simp
                           with_reducible rfl
                          rotate_left
                          ·simp only [Act.put, pp_]
                           rfl
                          refine pi_ (i := 3) (N := some 416) (v := ?_) (a' := ?_) (bm 18 11) rfl rfl HT_ (by kernel_rfl) (fun _ _ _ h => h) (Or.inl ⟨by rfl, ?_⟩) ?_ ?_
                          rotate_left
                          ·intro w'
                           go_simp
                           with_reducible rfl
                          rotate_left
                          ·simp only [Act.put, pp_]
                           rfl
                          refine pi_ (i := 4) (N := some 417) (v := ?_) (a' := ?_) (bm 18 27) rfl rfl HT_ (by kernel_rfl) (fun _ _ _ h => h) (Or.inl ⟨by rfl, ?_⟩) ?_ ?_
                          rotate_left
                          ·intro w'
                           go_simp
                           with_reducible rfl
                          rotate_left
                          ·simp only [Act.put, pp_]
                           rfl
                          refine pi_ (i := 5) (N := some 418) (v := ?_) (a' := ?_) (bm 18 59) rfl rfl HT_ (by kernel_rfl) (fun _ _ _ h => h) (Or.inl ⟨by rfl, ?_⟩) ?_ ?_
                          rotate_left
                          ·intro w'
                           go_simp
                           with_reducible rfl
                          rotate_left
                          ·simp only [Act.put, pp_]
                           rfl
                          refine pi_ (i := 7) (N := some 420) (v := ?_) (a' := ?_) (bm 18 187) rfl rfl HT_ (by kernel_rfl) (fun _ _ _ h => h) (Or.inl ⟨by rfl, ?_⟩) ?_ ?_
                          rotate_left
                          ·intro w'
                           go_simp
                           with_reducible rfl
                          rotate_left
                          ·simp only [Act.put, pp_]
                           rfl
                          refine take_ (i := 6) (N := some 419) (v := ?_) (a' := ?_) (bm 18 251) rfl rfl (take_ofW HT_.out HW_.out (by kernel_rfl)) (fun _ _ _ h => h) (Or.inl ⟨by rfl, ?_⟩) hHeld ?_ ?_
                          rotate_left
                          ·rintro w' ⟨s0, s1⟩
                           go_simp
                           with_reducible rfl
                          rotate_left
                          ·simp only [Act.put, pp_]
                           rfl
                          refine pi_ (i := 8) (N := some 421) (v := ?_) (a' := ?_) (bm 18 507) rfl rfl HT_ (by kernel_rfl) (fun _ _ _ h => h) (Or.inl ⟨by rfl, ?_⟩) ?_ ?_
                          rotate_left
                          ·intro w'
                           go_simp
                           with_reducible rfl
                          rotate_left
                          ·simp only [Act.put, pp_]
                           rfl
                          refine one_ (i := 2) (N := some 415) (bm 18 511) rfl rfl (one_of HT_.out (by kernel_rfl)) (by decide) (fun K hK => ?_)
                          refine goes_ Try.func23 (by kernel_rfl) rfl #[.slice Aa aa.length ca, .int .i64 p] (by rfl) rfl rfl (by (try simp only [List.map_toArray, List.map_cons, List.map_nil]); first | done | rfl) ?_
                          with_reducible refine (laws_vHas.calls k4 Aa ca aa p true _ CA.out La.out E1.out).mono ?_
                          rintro e w54 ⟨rfl, hd⟩
                          refine ⟨_, rfl, ?_⟩
                          have hb := hd.below
                          clear hd
                          have n0_ := Aside0.mk (below_step HQ.out hb)
                          have n1_ := Aside0.mk (Kd.C_below CA.out hb)
                          have n2_ := Aside0.mk (Kd.C_below CE.out hb)
                          have n3_ := Aside0.mk (Kd.C_below CS.out hb)
                          clear HQ CA CE CS
                          have HQ := n0_
                          have CA := n1_
                          have CE := n2_
                          have CS := n3_
                          clear n0_ n1_ n2_ n3_ hb
                          refine hK.out _ _ ⟨pol_atC CE.out (p) (of_eq_true d1) (of_eq_true d2), pol_atC CS.out (p) (of_eq_true d1) (of_eq_true d3)⟩ (fun hHeld => ?_)
                          clear hK K
                          refine norm_ (a' := ?_) ?_ ?_
                          rotate_left
                          ·show Act.put _ (some 415) _ = _
                           simp only [Act.put, pp_]
                           rfl
                          refine pi_ (i := 9) (N := some 422) (v := ?_) (a' := ?_) (bm 18 1023) rfl rfl HT_ (by kernel_rfl) (fun _ _ _ h => h) (Or.inl ⟨by rfl, ?_⟩) ?_ ?_
                          rotate_left
                          ·intro w'
                           go_simp
                           with_reducible rfl
                          rotate_left
                          ·simp only [Act.put, pp_]
                           rfl
                          refine pi_ (i := 10) (N := some 423) (v := ?_) (a' := ?_) (bm 18 2047) rfl rfl HT_ (by kernel_rfl) (fun _ _ _ h => h) (Or.inl ⟨by rfl, ?_⟩) ?_ ?_
                          rotate_left
                          ·intro w'
                           go_simp
                           with_reducible rfl
                          rotate_left
                          ·simp only [Act.put, pp_]
                           rfl
                          refine pi_ (i := 11) (N := some 424) (v := ?_) (a' := ?_) (bm 18 4095) rfl rfl HT_ (by kernel_rfl) (fun _ _ _ h => h) (Or.inl ⟨by rfl, ?_⟩) ?_ ?_
                          rotate_left
                          ·intro w'
                           go_simp
                           with_reducible rfl
                          rotate_left
                          ·simp only [Act.put, pp_]
                           rfl
                          refine pi_ (i := 12) (N := some 425) (v := ?_) (a' := ?_) (bm 18 8191) rfl rfl HT_ (by kernel_rfl) (fun _ _ _ h => h) (Or.inl ⟨by rfl, ?_⟩) ?_ ?_
                          rotate_left
                          ·intro w'
                           go_simp
                           with_reducible rfl
                          rotate_left
                          ·simp only [Act.put, pp_]
                           rfl
                          refine pi_ (i := 13) (N := some 426) (v := ?_) (a' := ?_) (bm 18 16383) rfl rfl HT_ (by kernel_rfl) (fun _ _ _ h => h) (Or.inl ⟨by rfl, ?_⟩) ?_ ?_
                          rotate_left
                          ·intro w'
                           go_simp
                           with_reducible rfl
                          rotate_left
                          ·simp only [Act.put, pp_]
                           rfl
                          refine take_ (i := 14) (N := some 427) (v := ?_) (a' := ?_) (bm 18 32767) rfl rfl (take_ofW HT_.out HW_.out (by kernel_rfl)) (fun _ _ _ h => h) (Or.inl ⟨by rfl, ?_⟩) hHeld ?_ ?_
                          rotate_left
                          ·rintro w' ⟨s0, s1⟩
                           go_simp
                           with_reducible rfl
                          rotate_left
                          ·simp only [Act.put, pp_]
                           rfl
                          refine pi_ (i := 15) (N := some 428) (v := ?_) (a' := ?_) (bm 18 65535) rfl rfl HT_ (by kernel_rfl) (fun _ _ _ h => h) (Or.inl ⟨by rfl, ?_⟩) ?_ ?_
                          rotate_left
                          ·intro w'
                           go_simp
                           with_reducible rfl
                          rotate_left
                          ·simp only [Act.put, pp_]
                           rfl
                          refine pi_ (i := 16) (N := some 429) (v := ?_) (a' := ?_) (bm 18 131071) rfl rfl HT_ (by kernel_rfl) (fun _ _ _ h => h) (Or.inl ⟨by rfl, ?_⟩) ?_ ?_
                          rotate_left
                          ·intro w'
                           go_simp
                           with_reducible rfl
                          rotate_left
                          ·simp only [Act.put, pp_]
                           rfl
                          refine pi_ (i := 17) (N := some 430) (v := ?_) (a' := ?_) (bm 18 262143) rfl rfl HT_ (by kernel_rfl) (fun _ _ _ h => h) (Or.inl ⟨by rfl, ?_⟩) ?_ ?_
                          rotate_left
                          ·intro w'
                           go_simp
                           with_reducible rfl
                          rotate_left
                          ·simp only [Act.put, pp_]
                           rfl
                          refine done_ (done_of HT_.out (by kernel_rfl)) ?_

                          go_wp2
                          go_roundg k4
                          case measure => have h_ := HK4.out; omega
                          case rel => exact ⟨wrap64 (p + 1), (by first | rfl | (simp; done) | (simp [*]; done)), HH, ⟨by have h_ := HK4.out; omega⟩, HQ⟩
                        ·skip
                         as_aux_lemma =>
                          have g1 : decide (rd en p ≤ t) = true := decide_eq_true c11
                          have g2 : decide (t < rd sa p) = false := decide_eq_false c12
                          rw [g1, g2] at d4
                          simp only [Bool.and_true, Bool.and_false, Bool.true_and, Bool.false_and] at d4
                          obtain rfl := d4
                          clear c11 c12
                          go_upto_region 54 with (fail)
                          refine start_ (n := 18) (S := fun w' => w'.cell? (ade.add p.toNat) = some (.int .i64 (rd en p)) ∧ w'.cell? (ads.add p.toNat) = some (.int .i64 (rd sa p))) (ds := []) #[false, false, false, false, false, false, false, false, false, false, false, false, false, false, false, false, false, false] (by kernel_rfl) rfl rfl ⟨pol_atC (Kd.C_below CE.out (below_drew1 (Below.refl _ _))) (p) (of_eq_true d1) (of_eq_true d2), pol_atC (Kd.C_below CS.out (below_drew1 (Below.refl _ _))) (p) (of_eq_true d1) (of_eq_true d3)⟩ (fun hHeld => ?_)
                          refine with_tabW laws_FnBoarding.tab54 laws_FnBoarding.bits54 (fun HT_ HW_ => ?_)
                          have n0_ := Aside0.mk (below_drew1 HQ.out)
                          have n1_ := Aside0.mk (Kd.C_below CA.out (below_drew1 (Below.refl _ _)))
                          have n2_ := Aside0.mk (Kd.C_below CE.out (below_drew1 (Below.refl _ _)))
                          have n3_ := Aside0.mk (Kd.C_below CS.out (below_drew1 (Below.refl _ _)))
                          clear HQ CA CE CS
                          have HQ := n0_
                          have CA := n1_
                          have CE := n2_
                          have CS := n3_
                          clear n0_ n1_ n2_ n3_
                          generalize World.drew _ = w53 at HQ CA CE CS hHeld ⊢
                          refine pi_ (i := 0) (N := some 413) (v := ?_) (a' := ?_) (bm 18 1) rfl rfl HT_ (by kernel_rfl) (fun _ _ _ h => h) (Or.inl ⟨by rfl, ?_⟩) ?_ ?_
                          rotate_left
                          ·intro w'
                           go_simp
                           with_reducible rfl
                          rotate_left
                          ·simp only [Act.put, pp_]
                           rfl
                          refine pi_ (i := 1) (N := some 414) (v := ?_) (a' := ?_) (bm 18 3) rfl rfl HT_ (by kernel_rfl) (fun _ _ _ h => h) (Or.inl ⟨by rfl, ?_⟩) ?_ ?_
                          rotate_left
                          ·intro w'
                           go_simp
                           with_reducible rfl
                          rotate_left
                          ·simp only [Act.put, pp_]
                           rfl
                          refine pi_ (i := 3) (N := some 416) (v := ?_) (a' := ?_) (bm 18 11) rfl rfl HT_ (by kernel_rfl) (fun _ _ _ h => h) (Or.inl ⟨by rfl, ?_⟩) ?_ ?_
                          rotate_left
                          ·intro w'
                           go_simp
                           with_reducible rfl
                          rotate_left
                          ·simp only [Act.put, pp_]
                           rfl
                          refine pi_ (i := 4) (N := some 417) (v := ?_) (a' := ?_) (bm 18 27) rfl rfl HT_ (by kernel_rfl) (fun _ _ _ h => h) (Or.inl ⟨by rfl, ?_⟩) ?_ ?_
                          rotate_left
                          ·intro w'
                           go_simp
                           with_reducible rfl
                          rotate_left
                          ·simp only [Act.put, pp_]
                           rfl
                          refine pi_ (i := 5) (N := some 418) (v := ?_) (a' := ?_) (bm 18 59) rfl rfl HT_ (by kernel_rfl) (fun _ _ _ h => h) (Or.inl ⟨by rfl, ?_⟩) ?_ ?_
                          rotate_left
                          ·intro w'
                           go_simp
                           with_reducible rfl
                          rotate_left
                          ·simp only [Act.put, pp_]
                           rfl
                          refine pi_ (i := 7) (N := some 420) (v := ?_) (a' := ?_) (bm 18 187) rfl rfl HT_ (by kernel_rfl) (fun _ _ _ h => h) (Or.inl ⟨by rfl, ?_⟩) ?_ ?_
                          rotate_left
                          ·intro w'
                           go_simp
                           with_reducible rfl
                          rotate_left
                          ·simp only [Act.put, pp_]
                           rfl
                          refine take_ (i := 6) (N := some 419) (v := ?_) (a' := ?_) (bm 18 251) rfl rfl (take_ofW HT_.out HW_.out (by kernel_rfl)) (fun _ _ _ h => h) (Or.inl ⟨by rfl, ?_⟩) hHeld ?_ ?_
                          rotate_left
                          ·rintro w' ⟨s0, s1⟩
                           go_simp
                           with_reducible rfl
                          rotate_left
                          ·simp only [Act.put, pp_]
                           rfl
                          refine pi_ (i := 8) (N := some 421) (v := ?_) (a' := ?_) (bm 18 507) rfl rfl HT_ (by kernel_rfl) (fun _ _ _ h => h) (Or.inl ⟨by rfl, ?_⟩) ?_ ?_
                          rotate_left
                          ·intro w'
                           go_simp
                           with_reducible rfl
                          rotate_left
                          ·simp only [Act.put, pp_]
                           rfl
                          refine one_ (i := 2) (N := some 415) (bm 18 511) rfl rfl (one_of HT_.out (by kernel_rfl)) (by decide) (fun K hK => ?_)
                          refine goes_ Try.func23 (by kernel_rfl) rfl #[.slice Aa aa.length ca, .int .i64 p] (by rfl) rfl rfl (by (try simp only [List.map_toArray, List.map_cons, List.map_nil]); first | done | rfl) ?_
                          with_reducible refine (laws_vHas.calls k4 Aa ca aa p false _ CA.out La.out E1.out).mono ?_
                          rintro e w54 ⟨rfl, hd⟩
                          refine ⟨_, rfl, ?_⟩
                          have hb := hd.below
                          clear hd
                          have n0_ := Aside0.mk (below_step HQ.out hb)
                          have n1_ := Aside0.mk (Kd.C_below CA.out hb)
                          have n2_ := Aside0.mk (Kd.C_below CE.out hb)
                          have n3_ := Aside0.mk (Kd.C_below CS.out hb)
                          clear HQ CA CE CS
                          have HQ := n0_
                          have CA := n1_
                          have CE := n2_
                          have CS := n3_
                          clear n0_ n1_ n2_ n3_ hb
                          refine hK.out _ _ ⟨pol_atC CE.out (p) (of_eq_true d1) (of_eq_true d2), pol_atC CS.out (p) (of_eq_true d1) (of_eq_true d3)⟩ (fun hHeld => ?_)
                          clear hK K
                          refine norm_ (a' := ?_) ?_ ?_
                          rotate_left
                          ·show Act.put _ (some 415) _ = _
                           simp only [Act.put, pp_]
                           rfl
                          refine pi_ (i := 9) (N := some 422) (v := ?_) (a' := ?_) (bm 18 1023) rfl rfl HT_ (by kernel_rfl) (fun _ _ _ h => h) (Or.inl ⟨by rfl, ?_⟩) ?_ ?_
                          rotate_left
                          ·intro w'
                           go_simp
                           with_reducible rfl
                          rotate_left
                          ·simp only [Act.put, pp_]
                           rfl
                          refine pi_ (i := 10) (N := some 423) (v := ?_) (a' := ?_) (bm 18 2047) rfl rfl HT_ (by kernel_rfl) (fun _ _ _ h => h) (Or.inl ⟨by rfl, ?_⟩) ?_ ?_
                          rotate_left
                          ·intro w'
                           go_simp
                           with_reducible rfl
                          rotate_left
                          ·simp only [Act.put, pp_]
                           rfl
                          refine pi_ (i := 11) (N := some 424) (v := ?_) (a' := ?_) (bm 18 4095) rfl rfl HT_ (by kernel_rfl) (fun _ _ _ h => h) (Or.inl ⟨by rfl, ?_⟩) ?_ ?_
                          rotate_left
                          ·intro w'
                           go_simp
                           with_reducible rfl
                          rotate_left
                          ·simp only [Act.put, pp_]
                           rfl
                          refine pi_ (i := 12) (N := some 425) (v := ?_) (a' := ?_) (bm 18 8191) rfl rfl HT_ (by kernel_rfl) (fun _ _ _ h => h) (Or.inl ⟨by rfl, ?_⟩) ?_ ?_
                          rotate_left
                          ·intro w'
                           go_simp
                           with_reducible rfl
                          rotate_left
                          ·simp only [Act.put, pp_]
                           rfl
                          refine pi_ (i := 13) (N := some 426) (v := ?_) (a' := ?_) (bm 18 16383) rfl rfl HT_ (by kernel_rfl) (fun _ _ _ h => h) (Or.inl ⟨by rfl, ?_⟩) ?_ ?_
                          rotate_left
                          ·intro w'
                           go_simp
                           with_reducible rfl
                          rotate_left
                          ·simp only [Act.put, pp_]
                           rfl
                          refine take_ (i := 14) (N := some 427) (v := ?_) (a' := ?_) (bm 18 32767) rfl rfl (take_ofW HT_.out HW_.out (by kernel_rfl)) (fun _ _ _ h => h) (Or.inl ⟨by rfl, ?_⟩) hHeld ?_ ?_
                          rotate_left
                          ·rintro w' ⟨s0, s1⟩
                           go_simp
                           with_reducible rfl
                          rotate_left
                          ·simp only [Act.put, pp_]
                           rfl
                          refine pi_ (i := 15) (N := some 428) (v := ?_) (a' := ?_) (bm 18 65535) rfl rfl HT_ (by kernel_rfl) (fun _ _ _ h => h) (Or.inl ⟨by rfl, ?_⟩) ?_ ?_
                          rotate_left
                          ·intro w'
                           go_simp
                           with_reducible rfl
                          rotate_left
                          ·simp only [Act.put, pp_]
                           rfl
                          refine pi_ (i := 16) (N := some 429) (v := ?_) (a' := ?_) (bm 18 131071) rfl rfl HT_ (by kernel_rfl) (fun _ _ _ h => h) (Or.inl ⟨by rfl, ?_⟩) ?_ ?_
                          rotate_left
                          ·intro w'
                           go_simp
                           with_reducible rfl
                          rotate_left
                          ·simp only [Act.put, pp_]
                           rfl
                          refine pi_ (i := 17) (N := some 430) (v := ?_) (a' := ?_) (bm 18 262143) rfl rfl HT_ (by kernel_rfl) (fun _ _ _ h => h) (Or.inl ⟨by rfl, ?_⟩) ?_ ?_
                          rotate_left
                          ·intro w'
                           go_simp
                           with_reducible rfl
                          rotate_left
                          ·simp only [Act.put, pp_]
                           rfl
                          refine done_ (done_of HT_.out (by kernel_rfl)) ?_

                          go_wp2
                          go_roundg k4
                          case measure => have h_ := HK4.out; omega
                          case rel => exact ⟨wrap64 (p + 1), (by first | rfl | (simp; done) | (simp [*]; done)), HH, ⟨by have h_ := HK4.out; omega⟩, HQ⟩
                       ·skip
                        as_aux_lemma =>
                         have g1 : decide (rd en p ≤ t) = false := decide_eq_false c11
                         rw [g1] at d4
                         simp only [Bool.and_true, Bool.and_false, Bool.true_and, Bool.false_and] at d4
                         obtain rfl := d4
                         clear c11
                         go_upto_region 54 with (fail)
                         refine start_ (n := 18) (S := fun w' => w'.cell? (ade.add p.toNat) = some (.int .i64 (rd en p)) ∧ w'.cell? (ads.add p.toNat) = some (.int .i64 (rd sa p))) (ds := []) #[false, false, false, false, false, false, false, false, false, false, false, false, false, false, false, false, false, false] (by kernel_rfl) rfl rfl ⟨pol_atC (Kd.C_below CE.out (below_drew1 (Below.refl _ _))) (p) (of_eq_true d1) (of_eq_true d2), pol_atC (Kd.C_below CS.out (below_drew1 (Below.refl _ _))) (p) (of_eq_true d1) (of_eq_true d3)⟩ (fun hHeld => ?_)
                         refine with_tabW laws_FnBoarding.tab54 laws_FnBoarding.bits54 (fun HT_ HW_ => ?_)
                         have n0_ := Aside0.mk (below_drew1 HQ.out)
                         have n1_ := Aside0.mk (Kd.C_below CA.out (below_drew1 (Below.refl _ _)))
                         have n2_ := Aside0.mk (Kd.C_below CE.out (below_drew1 (Below.refl _ _)))
                         have n3_ := Aside0.mk (Kd.C_below CS.out (below_drew1 (Below.refl _ _)))
                         clear HQ CA CE CS
                         have HQ := n0_
                         have CA := n1_
                         have CE := n2_
                         have CS := n3_
                         clear n0_ n1_ n2_ n3_
                         generalize World.drew _ = w53 at HQ CA CE CS hHeld ⊢
                         refine pi_ (i := 0) (N := some 413) (v := ?_) (a' := ?_) (bm 18 1) rfl rfl HT_ (by kernel_rfl) (fun _ _ _ h => h) (Or.inl ⟨by rfl, ?_⟩) ?_ ?_
                         rotate_left
                         ·intro w'
                          go_simp
                          with_reducible rfl
                         rotate_left
                         ·simp only [Act.put, pp_]
                          rfl
                         refine pi_ (i := 1) (N := some 414) (v := ?_) (a' := ?_) (bm 18 3) rfl rfl HT_ (by kernel_rfl) (fun _ _ _ h => h) (Or.inl ⟨by rfl, ?_⟩) ?_ ?_
                         rotate_left
                         ·intro w'
                          go_simp
                          with_reducible rfl
                         rotate_left
                         ·simp only [Act.put, pp_]
                          rfl
                         refine pi_ (i := 3) (N := some 416) (v := ?_) (a' := ?_) (bm 18 11) rfl rfl HT_ (by kernel_rfl) (fun _ _ _ h => h) (Or.inl ⟨by rfl, ?_⟩) ?_ ?_
                         rotate_left
                         ·intro w'
                          go_simp
                          with_reducible rfl
                         rotate_left
                         ·simp only [Act.put, pp_]
                          rfl
                         refine pi_ (i := 4) (N := some 417) (v := ?_) (a' := ?_) (bm 18 27) rfl rfl HT_ (by kernel_rfl) (fun _ _ _ h => h) (Or.inl ⟨by rfl, ?_⟩) ?_ ?_
                         rotate_left
                         ·intro w'
                          go_simp
                          with_reducible rfl
                         rotate_left
                         ·simp only [Act.put, pp_]
                          rfl
                         refine pi_ (i := 5) (N := some 418) (v := ?_) (a' := ?_) (bm 18 59) rfl rfl HT_ (by kernel_rfl) (fun _ _ _ h => h) (Or.inl ⟨by rfl, ?_⟩) ?_ ?_
                         rotate_left
                         ·intro w'
                          go_simp
                          with_reducible rfl
                         rotate_left
                         ·simp only [Act.put, pp_]
                          rfl
                         refine pi_ (i := 7) (N := some 420) (v := ?_) (a' := ?_) (bm 18 187) rfl rfl HT_ (by kernel_rfl) (fun _ _ _ h => h) (Or.inl ⟨by rfl, ?_⟩) ?_ ?_
                         rotate_left
                         ·intro w'
                          go_simp
                          with_reducible rfl
                         rotate_left
                         ·simp only [Act.put, pp_]
                          rfl
                         refine take_ (i := 6) (N := some 419) (v := ?_) (a' := ?_) (bm 18 251) rfl rfl (take_ofW HT_.out HW_.out (by kernel_rfl)) (fun _ _ _ h => h) (Or.inl ⟨by rfl, ?_⟩) hHeld ?_ ?_
                         rotate_left
                         ·rintro w' ⟨s0, s1⟩
                          go_simp
                          with_reducible rfl
                         rotate_left
                         ·simp only [Act.put, pp_]
                          rfl
                         refine pi_ (i := 8) (N := some 421) (v := ?_) (a' := ?_) (bm 18 507) rfl rfl HT_ (by kernel_rfl) (fun _ _ _ h => h) (Or.inl ⟨by rfl, ?_⟩) ?_ ?_
                         rotate_left
                         ·intro w'
                          go_simp
                          with_reducible rfl
                         rotate_left
                         ·simp only [Act.put, pp_]
                          rfl
                         refine one_ (i := 2) (N := some 415) (bm 18 511) rfl rfl (one_of HT_.out (by kernel_rfl)) (by decide) (fun K hK => ?_)
                         refine goes_ Try.func23 (by kernel_rfl) rfl #[.slice Aa aa.length ca, .int .i64 p] (by rfl) rfl rfl (by (try simp only [List.map_toArray, List.map_cons, List.map_nil]); first | done | rfl) ?_
                         with_reducible refine (laws_vHas.calls k4 Aa ca aa p false _ CA.out La.out E1.out).mono ?_
                         rintro e w54 ⟨rfl, hd⟩
                         refine ⟨_, rfl, ?_⟩
                         have hb := hd.below
                         clear hd
                         have n0_ := Aside0.mk (below_step HQ.out hb)
                         have n1_ := Aside0.mk (Kd.C_below CA.out hb)
                         have n2_ := Aside0.mk (Kd.C_below CE.out hb)
                         have n3_ := Aside0.mk (Kd.C_below CS.out hb)
                         clear HQ CA CE CS
                         have HQ := n0_
                         have CA := n1_
                         have CE := n2_
                         have CS := n3_
                         clear n0_ n1_ n2_ n3_ hb
                         refine hK.out _ _ ⟨pol_atC CE.out (p) (of_eq_true d1) (of_eq_true d2), pol_atC CS.out (p) (of_eq_true d1) (of_eq_true d3)⟩ (fun hHeld => ?_)
                         clear hK K
                         refine norm_ (a' := ?_) ?_ ?_
                         rotate_left
                         ·show Act.put _ (some 415) _ = _
                          simp only [Act.put, pp_]
                          rfl
                         refine pi_ (i := 9) (N := some 422) (v := ?_) (a' := ?_) (bm 18 1023) rfl rfl HT_ (by kernel_rfl) (fun _ _ _ h => h) (Or.inl ⟨by rfl, ?_⟩) ?_ ?_
                         rotate_left
                         ·intro w'
                          go_simp
                          with_reducible rfl
                         rotate_left
                         ·simp only [Act.put, pp_]
                          rfl
                         refine pn_ (i := 10) (N := some 423) (a' := ?_) (bm 18 2047) rfl rfl HT_ (by kernel_rfl) (fun _ _ _ h => h) (by rfl) ?_ ?_
                         rotate_left
                         ·simp only [Act.put, pp_]
                          rfl
                         refine pn_ (i := 11) (N := some 424) (a' := ?_) (bm 18 4095) rfl rfl HT_ (by kernel_rfl) (fun _ _ _ h => h) (by rfl) ?_ ?_
                         rotate_left
                         ·simp only [Act.put, pp_]
                          rfl
                         refine pn_ (i := 12) (N := some 425) (a' := ?_) (bm 18 8191) rfl rfl HT_ (by kernel_rfl) (fun _ _ _ h => h) (by rfl) ?_ ?_
                         rotate_left
                         ·simp only [Act.put, pp_]
                          rfl
                         refine pn_ (i := 13) (N := some 426) (a' := ?_) (bm 18 16383) rfl rfl HT_ (by kernel_rfl) (fun _ _ _ h => h) (by rfl) ?_ ?_
                         rotate_left
                         ·simp only [Act.put, pp_]
                          rfl
                         refine pn_ (i := 14) (N := some 427) (a' := ?_) (bm 18 32767) rfl rfl HT_ (by kernel_rfl) (fun _ _ _ h => h) (by rfl) ?_ ?_
                         rotate_left
                         ·simp only [Act.put, pp_]
                          rfl
                         refine pn_ (i := 15) (N := some 428) (a' := ?_) (bm 18 65535) rfl rfl HT_ (by kernel_rfl) (fun _ _ _ h => h) (by rfl) ?_ ?_
                         rotate_left
                         ·simp only [Act.put, pp_]
                          rfl
                         refine pi_ (i := 16) (N := some 429) (v := ?_) (a' := ?_) (bm 18 131071) rfl rfl HT_ (by kernel_rfl) (fun _ _ _ h => h) (Or.inl ⟨by rfl, ?_⟩) ?_ ?_
                         rotate_left
                         ·intro w'
                          go_simp
                          with_reducible rfl
                         rotate_left
                         ·simp only [Act.put, pp_]
                          rfl
                         refine pi_ (i := 17) (N := some 430) (v := ?_) (a' := ?_) (bm 18 262143) rfl rfl HT_ (by kernel_rfl) (fun _ _ _ h => h) (Or.inl ⟨by rfl, ?_⟩) ?_ ?_
                         rotate_left
                         ·intro w'
                          go_simp
                          with_reducible rfl
                         rotate_left
                         ·simp only [Act.put, pp_]
                          rfl
                         refine done_ (done_of HT_.out (by kernel_rfl)) ?_

                         go_wp2
                         go_roundg k4
                         case measure => have h_ := HK4.out; omega
                         case rel => exact ⟨wrap64 (p + 1), (by first | rfl | (simp; done) | (simp [*]; done)), HH, ⟨by have h_ := HK4.out; omega⟩, HQ⟩
                      ·have c8b : decide (p < n) = false := decide_eq_false c8
                       clear H
                       as_aux_lemma =>
                        have H := D5.out
                        clear D5
                        by_cases c9 : la0 = ti ∧ 0 < od.length ∧ 0 ≤ rd od 0 ∧ rd od 0 < (en.length : Int) ∧ rd en (rd od 0) = 1
                        rotate_left
                        ·rw [if_neg c9] at H; cases H
                        clear H
                        obtain ⟨rfl, d1, d2, d3, d4⟩ := c9
                        have CO := Aside0.mk (Kd.C_below Fo.out HQ.out)
                        have CE := Aside0.mk (Kd.C_below Fe.out HQ.out)
                        obtain ⟨ado, e_, ho0⟩ := Kd.at_int CO.out 0 (by omega) (by omega)
                        cases e_
                        obtain ⟨ade, e_, h_⟩ := Kd.at_int CE.out (rd od 0) d2 d3
                        cases e_
                        clear h_
                        have he0 := pol_atC CE.out (rd od 0) d2 d3
                        have ho1 : wr.cell? (ado.add 0) = some (.int .i64 (rd od 0)) := ho0
                        have ho2 : wr.cell? ado = some (.int .i64 (rd od 0)) := by rw [← Addr.add_zero' ado]; exact ho0
                        have g1 : decide ((0 : Int) < (od.length : Int)) = true := decide_eq_true (by omega)
                        have g2 : decide (0 < od.length) = true := decide_eq_true d1
                        have g3 : (0 < od.length) = True := eq_true d1
                        rw [d4] at he0
                        replace d2 := eq_true d2
                        replace d3 := eq_true d3
                        have g4 : (od = []) = False := eq_false (fun e_ => by rw [e_] at d1; exact absurd d1 (by decide))
                        go_wp2
                        go_ret
                        exact ⟨by first | rfl | (simp; done) | (simp [*]; done), below_step HB.out HQ.out⟩
              | false =>
               as_aux_lemma =>
                go_wp2
                go_loopg [45, 46] k (fun kq v45 v46 w' => ∃ (v : Value) (p : Int), v46 = v ∧ v45 = .int .i64 p ∧ Aside0 (laws_FnBoarding.l3 kq false n t aa en sa p = some x2) ∧ Aside0 (kq ≤ k) ∧ Aside0 (Below wc.heap.size wc w'))
                case atStart => exact ⟨_, 0, rfl, rfl, D3, ⟨Nat.le_refl _⟩, HQ⟩
                case round =>
                 clear D3 HQ
                 obtain ⟨v46, p, rfl, rfl, HA, HK3, HQ⟩ := hrel
                 cases gk with
                 | zero => exact absurd HA.out (by simp [laws_FnBoarding.l3])
                 | succ k3 =>
                  clear HA
                  as_aux_lemma =>
                   go_wp2
                   go_loopg [47] k (fun kq v47 w' => ∃ p : Int, v47 = .int .i64 p ∧ Aside0 (laws_FnBoarding.l4 kq false n t aa en sa p = some x3) ∧ Aside0 (kq ≤ k) ∧ Aside0 (Below wc.heap.size wc w'))
                   case atStart => exact ⟨0, rfl, D4, ⟨Nat.le_refl _⟩, HQ⟩
                   case round =>
                    clear D4 HQ
                    obtain ⟨p, rfl, HA, HK4, HQ⟩ := hrel
                    cases gk with
                    | zero => exact absurd HA.out (by simp [laws_FnBoarding.l4])
                    | succ k4 =>
                     clear HA
                     as_aux_lemma =>
                      have H := D5.out
                      clear D5
                      by_cases c9 : la0 = ti ∧ 0 < od.length ∧ 0 ≤ rd od 0 ∧ rd od 0 < (en.length : Int) ∧ rd en (rd od 0) = 1
                      rotate_left
                      ·rw [if_neg c9] at H; cases H
                      clear H
                      obtain ⟨rfl, d1, d2, d3, d4⟩ := c9
                      have CO := Aside0.mk (Kd.C_below Fo.out HQ.out)
                      have CE := Aside0.mk (Kd.C_below Fe.out HQ.out)
                      obtain ⟨ado, e_, ho0⟩ := Kd.at_int CO.out 0 (by omega) (by omega)
                      cases e_
                      obtain ⟨ade, e_, h_⟩ := Kd.at_int CE.out (rd od 0) d2 d3
                      cases e_
                      clear h_
                      have he0 := pol_atC CE.out (rd od 0) d2 d3
                      have ho1 : wr.cell? (ado.add 0) = some (.int .i64 (rd od 0)) := ho0
                      have ho2 : wr.cell? ado = some (.int .i64 (rd od 0)) := by rw [← Addr.add_zero' ado]; exact ho0
                      have g1 : decide ((0 : Int) < (od.length : Int)) = true := decide_eq_true (by omega)
                      have g2 : decide (0 < od.length) = true := decide_eq_true d1
                      have g3 : (0 < od.length) = True := eq_true d1
                      rw [d4] at he0
                      replace d2 := eq_true d2
                      replace d3 := eq_true d3
                      have g4 : (od = []) = False := eq_false (fun e_ => by rw [e_] at d1; exact absurd d1 (by decide))
                      go_wp2
                      go_ret
                      exact ⟨by first | rfl | (simp; done) | (simp [*]; done), below_step HB.out HQ.out⟩

/-- THE ONE PURE STATEMENT of laws_FnBoarding: yours. -/
def laws_FnBoarding.Pure : Prop := ∀ (l0 : List Int), l0.length ≤ maxLen → l0.length * 1 ≤ 140737488351232 → (∀ x ∈ l0, (Lit.int .u8 x).wf = true) → ∃ k, laws_FnBoarding.f k l0 = some true
theorem laws_FnBoarding.walk (P : laws_FnBoarding.Pure) (a0 : Option Addr) (len0 cap0 : Nat) (z0 : List Int) (w : World) (w0 : (a0 = none ∧ len0 = 0 ∧ cap0 = 0 ∧ z0 = []) ∨ ∃ x, a0 = some x ∧ len0 ≤ cap0 ∧ cap0 ≤ maxLen ∧ z0.length = cap0 ∧ (∀ i, i < z0.length → w.cell? (x.add i) = some (.int .u8 (z0.getD i 0))) ∧ ∀ n ∈ z0, (Lit.int .u8 n).wf = true) (y0 : len0 * 1 ≤ 140737488351232) :
  Calls Try.prog 3 #[.slice a0 len0 cap0] w fun e w' => e = .returned (.bool true) ∧ Below w.heap.size w w' := by
 obtain ⟨l0, rfl, hr0, hm0, hw0, hc0⟩ := ReadsInt.ofRowC w0
 obtain ⟨k, h⟩ := P l0 hm0 y0 hw0
 exact laws_FnBoarding.calls k _ _ l0 w (Kd.C_of_reads (d := (0 : Int)) (h1 := fun _ => rfl) hr0) hc0 h

end Go.Proofs.Ytmlkajaaokhdaaa.PFnBoarding
