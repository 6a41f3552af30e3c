/- Proved: each Go function named here, called, comes to the answer of the Lean function beside it. Conditions: those that stand in each theorem. (Printed by this session's own turned copy of a printing program.) -/
import Derived.Test.YtaadhdlcdbaipaaZFnCouplesPFnCouplesx0
import Derived.Test.YtaadhdlcdbaipaaZFnCouplesPFnCouplesx1
import Derived.Test.YtaadhdlcdbaipaaZFnCouplesPFnCouplesx2
import Derived.Test.YtaadhdlcdbaipaaZFnCouplesPFnCouplesx4
import Derived.Test.YtaadhdlcdbaipaaZFnCouplesPFnCouplesx5
import Derived.Test.YtaadhdlcdbaipaaZFnCouplesPFnCouplesx6
import Derived.Test.YtaadhdlcdbaipaaZFnCouplesPFnCouplesx7
import Derived.Test.YtaadhdlcdbaipaaZFnCouplesPFnCouplesx8
import Derived.Test.YtaadhdlcdbaipaaZFnCouplesPFnCouplesx9
import Derived.Test.YtaadhdlcdbaipaaZFnCouplesPFnCouplesx10
import Derived.Test.YtaadhdlcdbaipaaZFnCouplesPFnCouplesx11
namespace Go.Proofs.Ytaadhdlcdbaipaa.PFnCouples
open Go.RowKit Go.Proofs.YtaadhdlcdbaipaaW.PrintWords Go.Proofs.YtaadhdlcdbaipaaW.PrintLast Go.Proofs.YtaadhdlcdbaipaaW.PrintMore
attribute [local go_sem] max2_int min2_int max_two min_two max_three min_three max_four min_four   -- for this text's walks alone
set_option linter.unusedVariables false
set_option linter.unusedSimpArgs false

set_option maxHeartbeats 8000000 in
set_option maxRecDepth 100000 in
theorem laws_FnCouples.calls (k : Nat) (A0 : Option Addr) (c0 : Nat) (l0 : List Int) (r : Bool) (w : World) (hr0 : Kd.C (Kd.int .u8) w A0 l0.length l0) (hc0 : l0.length ≤ c0) (hr1_ : r = true) (h : laws_FnCouples.f k l0 = some r) :
    Calls Try.prog 3 #[.slice A0 l0.length c0] w fun e w' => e = .returned (.bool r) ∧ Below w.heap.size w w' := by
  have HR0 := Aside0.mk hr0
  have HC0 := Aside0.mk hc0
  clear hr0 hc0
  have HRV := Aside0.mk hr1_
  clear hr1_
  have HB := Aside0.mk (Below.refl w.heap.size w)
  have H : ((laws_rBig.f l0).bind fun t365 => (if t365 = true then (some true) else ((spec_DrawCoupleCounts.f l0).bind fun bt366 => ((impl_CoupleCounts.f k bt366.1 bt366.2).bind fun bt368 => ((spec_CoupleCounts.f k bt366.1 bt366.2).bind fun bt372 => (if (bt368.2 != bt372.2) = true then (laws_FnCouples.j0 k l0 bt366.1 bt366.2 bt368.1 bt368.2 true) else ((laws_rInts.f k bt368.1 bt372.1).bind fun t376 => (laws_FnCouples.j0 k l0 bt366.1 bt366.2 bt368.1 bt368.2 (!t376))))))))) = some r := h
  clear h
  replace H := Option.bind_eq_some_iff.mp H
  obtain ⟨t365, A20, H⟩ := H
  replace H : (if t365 = true then (some true) else ((spec_DrawCoupleCounts.f l0).bind fun bt366 => ((impl_CoupleCounts.f k bt366.1 bt366.2).bind fun bt368 => ((spec_CoupleCounts.f k bt366.1 bt366.2).bind fun bt372 => (if (bt368.2 != bt372.2) = true then (laws_FnCouples.j0 k l0 bt366.1 bt366.2 bt368.1 bt368.2 true) else ((laws_rInts.f k bt368.1 bt372.1).bind fun t376 => (laws_FnCouples.j0 k l0 bt366.1 bt366.2 bt368.1 bt368.2 (!t376)))))))) = some r := H
  have A2 := Aside0.mk A20
  clear A20
  by_cases c3 : t365 = true
  · as_aux_lemma =>
    subst c3
    have H1 : (some true) = some r := by rw [if_pos rfl] at H; exact H
    clear H
    have H := H1
    clear H1
    obtain rfl := Option.some.inj H
    go_enter Try.func3, Try.ntmps3
    go_wp2_with (first | ((with_reducible refine gate_callee (f := 4) rfl ?_); refine goesL_ (some 55) rfl rfl Try.func4 (by kernel_rfl) rfl #[.slice A0 l0.length c0] rfl (by (try simp only [List.map_toArray, List.map_cons, List.map_nil]); first | done | rfl | (simp only [List.length_drop, List.length_take]; rfl)) ?_; (with_reducible refine (laws_rBig.calls _ _ l0 true _ ?side1 ?side2 A2.out).mono ?_); (case side1 => repeat (first | exact HR0.out | (with_reducible refine Kd.C_alloc ?_ _) | (with_reducible refine Kd.C_drewN ?_ _) | (with_reducible refine Kd.C_drew ?_))); (case side2 => exact HC0.out); rintro e w' ⟨rfl, ⟨nd, rfl⟩⟩; refine ⟨_, rfl, ?_⟩))
    go_ret
    exact ⟨by first | rfl | (simp [errW_none, errW_some] <;> rfl) | (simp [*, errW_none, errW_some] <;> rfl), by repeat (first | (with_reducible first | exact HB.out | apply below_alloc | apply pw_below_drewN | apply below_drew1) | exact HB.out)⟩
  · as_aux_lemma =>
    replace c3 := Bool.eq_false_iff.mpr c3
    subst c3
    have H1 : ((spec_DrawCoupleCounts.f l0).bind fun bt366 => ((impl_CoupleCounts.f k bt366.1 bt366.2).bind fun bt368 => ((spec_CoupleCounts.f k bt366.1 bt366.2).bind fun bt372 => (if (bt368.2 != bt372.2) = true then (laws_FnCouples.j0 k l0 bt366.1 bt366.2 bt368.1 bt368.2 true) else ((laws_rInts.f k bt368.1 bt372.1).bind fun t376 => (laws_FnCouples.j0 k l0 bt366.1 bt366.2 bt368.1 bt368.2 (!t376))))))) = some r := by rw [if_neg (show ¬ (false = true) by decide)] at H; exact H
    clear H
    have H := H1
    clear H1
    replace H := Option.bind_eq_some_iff.mp H
    obtain ⟨⟨t366, t367⟩, A40, H⟩ := H
    replace H : ((impl_CoupleCounts.f k t366 t367).bind fun bt368 => ((spec_CoupleCounts.f k t366 t367).bind fun bt372 => (if (bt368.2 != bt372.2) = true then (laws_FnCouples.j0 k l0 t366 t367 bt368.1 bt368.2 true) else ((laws_rInts.f k bt368.1 bt372.1).bind fun t376 => (laws_FnCouples.j0 k l0 t366 t367 bt368.1 bt368.2 (!t376)))))) = some r := H
    have A4 := Aside0.mk A40
    clear A40
    replace H := Option.bind_eq_some_iff.mp H
    obtain ⟨⟨t368, t369⟩, A50, H⟩ := H
    replace H : ((spec_CoupleCounts.f k t366 t367).bind fun bt372 => (if (t369 != bt372.2) = true then (laws_FnCouples.j0 k l0 t366 t367 t368 t369 true) else ((laws_rInts.f k t368 bt372.1).bind fun t376 => (laws_FnCouples.j0 k l0 t366 t367 t368 t369 (!t376))))) = some r := H
    have A5 := Aside0.mk A50
    clear A50
    replace H := Option.bind_eq_some_iff.mp H
    obtain ⟨⟨t372, t373⟩, A60, H⟩ := H
    replace H : (if (t369 != t373) = true then (laws_FnCouples.j0 k l0 t366 t367 t368 t369 true) else ((laws_rInts.f k t368 t372).bind fun t376 => (laws_FnCouples.j0 k l0 t366 t367 t368 t369 (!t376)))) = some r := H
    have A6 := Aside0.mk A60
    clear A60
    have HC7 := Aside0.mk H
    clear H
    go_enter Try.func3, Try.ntmps3
    go_upto_region 6 with (first | ((with_reducible refine gate_callee (f := 4) rfl ?_); refine goesL_ (some 55) rfl rfl Try.func4 (by kernel_rfl) rfl #[.slice A0 l0.length c0] rfl (by (try simp only [List.map_toArray, List.map_cons, List.map_nil]); first | done | rfl | (simp only [List.length_drop, List.length_take]; rfl)) ?_; (with_reducible refine (laws_rBig.calls _ _ l0 false _ ?side1 ?side2 A2.out).mono ?_); (case side1 => repeat (first | exact HR0.out | (with_reducible refine Kd.C_alloc ?_ _) | (with_reducible refine Kd.C_drewN ?_ _) | (with_reducible refine Kd.C_drew ?_))); (case side2 => exact HC0.out); rintro e w' ⟨rfl, ⟨nd, rfl⟩⟩; refine ⟨_, rfl, ?_⟩) | ((with_reducible refine gate_callee (f := 5) rfl ?_); refine goesL_ (some 58) rfl rfl Try.func5 (by kernel_rfl) rfl #[.slice A0 l0.length c0] rfl (by (try simp only [List.map_toArray, List.map_cons, List.map_nil]); first | done | rfl | (simp only [List.length_drop, List.length_take]; rfl)) ?_; (with_reducible refine (spec_DrawCoupleCounts.calls _ _ l0 t366 t367 _ ?side1 ?side2 A4.out).mono ?_); (case side1 => repeat (first | exact HR0.out | (with_reducible refine Kd.C_alloc ?_ _) | (with_reducible refine Kd.C_drewN ?_ _) | (with_reducible refine Kd.C_drew ?_))); (case side2 => exact HC0.out); rintro e w8 ⟨rfl, hb⟩; refine ⟨_, rfl, ?_⟩; have n0_ := Aside0.mk (below_step (by repeat (first | (with_reducible first | exact HB.out | apply below_alloc | apply pw_below_drewN | apply below_drew1) | exact HB.out)) hb); clear HB; have HB := n0_; clear n0_; (try clear hb); (try clear hb2); (try clear hk); (try clear hi)) | ((with_reducible refine gate_callee (f := 6) rfl ?_); refine goesL_ (some 64) rfl rfl Try.func6 (by kernel_rfl) rfl #[.int .i64 t366, .bool t367] rfl (by (try simp only [List.map_toArray, List.map_cons, List.map_nil]); first | done | rfl | (simp only [List.length_drop, List.length_take]; rfl)) ?_; (with_reducible refine (impl_CoupleCounts.calls k t366 t367 t368 t369 _ A5.out).mono ?_); rintro e w9 ⟨v370, rfl, ho0, hb⟩; refine ⟨_, rfl, ?_⟩; have n0_ := Aside0.mk (Kd.R_lower ho0 (below_size (by repeat (first | (with_reducible first | exact HB.out | apply below_alloc | apply pw_below_drewN | apply below_drew1) | exact HB.out)))); have n1_ := Aside0.mk (below_step (by repeat (first | (with_reducible first | exact HB.out | apply below_alloc | apply pw_below_drewN | apply below_drew1) | exact HB.out)) hb); clear HB; have HO371 := n0_; have HB := n1_; clear n0_ n1_; (try clear hb); (try clear hb2); (try clear hk); (try clear hi); (try clear ho0)) | ((with_reducible refine gate_callee (f := 7) rfl ?_); refine goesL_ (some 70) rfl rfl Try.func7 (by kernel_rfl) rfl #[.int .i64 t366, .bool t367] rfl (by (try simp only [List.map_toArray, List.map_cons, List.map_nil]); first | done | rfl | (simp only [List.length_drop, List.length_take]; rfl)) ?_; (with_reducible refine (spec_CoupleCounts.calls k t366 t367 t372 t373 _ A6.out).mono ?_); rintro e w10 ⟨v374, rfl, ho0, hb⟩; refine ⟨_, rfl, ?_⟩; have n0_ := Aside0.mk (Kd.R_elder' (by (with_reducible repeat (first | apply Kd.R_alloc | apply Kd.R_drewN | apply Kd.R_drew)); exact HO371.out) (Kd.R_base ho0) hb); have n1_ := Aside0.mk (Kd.R_lower (Kd.R_new' ho0 (Kd.R_lt (by (with_reducible repeat (first | apply Kd.R_alloc | apply Kd.R_drewN | apply Kd.R_drew)); exact HO371.out))) (below_size (by repeat (first | (with_reducible first | exact HB.out | apply below_alloc | apply pw_below_drewN | apply below_drew1) | exact HB.out)))); have n2_ := Aside0.mk (below_step (by repeat (first | (with_reducible first | exact HB.out | apply below_alloc | apply pw_below_drewN | apply below_drew1) | exact HB.out)) hb); clear HO371; clear HB; have HO371 := n0_; have HO375 := n1_; have HB := n2_; clear n0_ n1_ n2_; (try clear hb); (try clear hb2); (try clear hk); (try clear hi); (try clear ho0)))
    (try simp only [Act.put, List.setIfInBounds_toArray, List.set_cons_zero, List.set_cons_succ])
    go_cut [81] (fun v81 wc => ∃ (kq : Nat) (x81_6 : Bool), v81 = .bool x81_6 ∧ Aside0 (laws_FnCouples.j0 kq l0 t366 t367 t368 t369 x81_6 = some r) ∧ Aside0 (kq ≤ k) ∧ Aside0 (Kd.R (Kd.int .i64) 3 wc w.heap.size (fun _ => True) v370 t368) ∧ Aside0 (Below w.heap.size w wc))
    case first =>
      have H := HC7.out
      clear HC7
      by_cases c11 : (t369 != t373) = true
      · as_aux_lemma =>
        rw [if_pos c11] at H
        have c11b0 : (t369 != t373) = true := c11
        (try (have c11b1 : decide (t369 = t373) = false := by simpa using c11))
        (try (have c11b2 : (t369 == t373) = false := by simpa using c11))
        (try (have c11b3 : ¬ (t369 = t373) := by simpa using c11))
        clear c11
        (first | rw [c11b0] | (simp only [i64_w, i32_w]; rw [c11b0]) | rw [c11b1] | skip)
        exact absurd ((laws_FnCouples.j0_no _ _ _ _ _ _ _ H).trans HRV.out) (by decide)
      · as_aux_lemma =>
        rw [if_neg c11] at H
        have c11b0 : (t369 != t373) = false := by simpa using c11
        (try (have c11b1 : decide (t369 = t373) = true := by simpa using c11))
        (try (have c11b2 : (t369 == t373) = true := by simpa using c11))
        clear c11
        (first | rw [c11b0] | (simp only [i64_w, i32_w]; rw [c11b0]) | rw [c11b1] | skip)
        replace H := Option.bind_eq_some_iff.mp H
        obtain ⟨t376, A120, H⟩ := H
        replace H : (laws_FnCouples.j0 k l0 t366 t367 t368 t369 (!t376)) = some r := H
        have A12 := Aside0.mk A120
        clear A120
        have H' := Aside0.mk H
        clear H
        obtain ⟨Ao13, co13, eo13⟩ := Kd.R_slice HO371.out
        subst eo13
        obtain ⟨Ao14, co14, eo14⟩ := Kd.R_slice HO375.out
        subst eo14
        go_wp2_with (first | (go_at_call 8; (with_reducible refine (laws_rInts.calls k _ _ t368 _ _ t372 t376 _ ?side1 ?side2 ?side3 ?side4 A12.out).mono ?_); (case side1 => repeat (first | exact (Kd.R_reads' HO371.out).2.2 | (with_reducible refine Kd.C_alloc ?_ _) | (with_reducible refine Kd.C_drewN ?_ _) | (with_reducible refine Kd.C_drew ?_))); (case side2 => exact (Kd.R_reads' HO371.out).2.1); (case side3 => repeat (first | exact (Kd.R_reads' HO375.out).2.2 | (with_reducible refine Kd.C_alloc ?_ _) | (with_reducible refine Kd.C_drewN ?_ _) | (with_reducible refine Kd.C_drew ?_))); (case side4 => exact (Kd.R_reads' HO375.out).2.1); rintro e w' ⟨rfl, ⟨nd, rfl⟩⟩))
        go_meet
        case rel => exact ⟨_, (!t376), (by first | rfl | (simp; done) | (simp [*]; done)), H', ⟨by first | omega | exact Nat.le_refl _⟩, ⟨by (with_reducible repeat (first | apply Kd.R_alloc | apply Kd.R_drewN | apply Kd.R_drew)); exact Kd.R_mono HO371.out (fun _ hk => trivial)⟩, ⟨by repeat (first | (with_reducible first | exact HB.out | apply below_alloc | apply pw_below_drewN | apply below_drew1) | exact HB.out)⟩⟩
    case rest =>
      clear HC7
      (try clear c1); (try clear p2); (try clear c3); (try clear c4); (try clear c5); (try clear c6); (try clear c7); (try clear c11); (try clear c11b0); (try clear c11b1); (try clear c11b2)
      obtain ⟨kq, x81_6, rfl, HA, HJ6, HO_5, HB⟩ := hcut
      cases kq with
      | zero => exact absurd HA.out (by simp [laws_FnCouples.j0])
      | succ kj6 =>
        have H := HA.out
        clear HA
        simp only [laws_FnCouples.j0] at H
        by_cases c15 : x81_6 = true
        · as_aux_lemma =>
          subst c15
          have H1 : (some false) = some r := by rw [if_pos rfl] at H; exact H
          clear H
          have H := H1
          clear H1
          exact absurd ((Option.some.inj H).trans HRV.out) (by decide)
        · as_aux_lemma =>
          replace c15 := Bool.eq_false_iff.mpr c15
          subst c15
          have H1 : ((impl_FirstApart.f kj6 t366 t367).bind fun bt377 => ((spec_FirstApart.f kj6 t366 t367).bind fun bt381 => (if (bt377.2 != bt381.2) = true then (laws_FnCouples.j1 kj6 l0 t366 t367 t368 t369 bt377.1 bt377.2 true) else ((laws_rInts.f kj6 bt377.1 bt381.1).bind fun t385 => (if t385 = true then (if t369 = true then (if 0 < (t368.length : Int) then (laws_FnCouples.j1 kj6 l0 t366 t367 t368 t369 bt377.1 bt377.2 (bt377.2 != (decide ((rd t368 0) > 0)))) else (none)) else (laws_FnCouples.j1 kj6 l0 t366 t367 t368 t369 bt377.1 bt377.2 (bt377.2 != false))) else (laws_FnCouples.j1 kj6 l0 t366 t367 t368 t369 bt377.1 bt377.2 true)))))) = some r := by rw [if_neg (show ¬ (false = true) by decide)] at H; exact H
          clear H
          have H := H1
          clear H1
          replace H := Option.bind_eq_some_iff.mp H
          obtain ⟨⟨t377, t378⟩, A160, H⟩ := H
          replace H : ((spec_FirstApart.f kj6 t366 t367).bind fun bt381 => (if (t378 != bt381.2) = true then (laws_FnCouples.j1 kj6 l0 t366 t367 t368 t369 t377 t378 true) else ((laws_rInts.f kj6 t377 bt381.1).bind fun t385 => (if t385 = true then (if t369 = true then (if 0 < (t368.length : Int) then (laws_FnCouples.j1 kj6 l0 t366 t367 t368 t369 t377 t378 (t378 != (decide ((rd t368 0) > 0)))) else (none)) else (laws_FnCouples.j1 kj6 l0 t366 t367 t368 t369 t377 t378 (t378 != false))) else (laws_FnCouples.j1 kj6 l0 t366 t367 t368 t369 t377 t378 true))))) = some r := H
          have A16 := Aside0.mk A160
          clear A160
          replace H := Option.bind_eq_some_iff.mp H
          obtain ⟨⟨t381, t382⟩, A170, H⟩ := H
          replace H : (if (t378 != t382) = true then (laws_FnCouples.j1 kj6 l0 t366 t367 t368 t369 t377 t378 true) else ((laws_rInts.f kj6 t377 t381).bind fun t385 => (if t385 = true then (if t369 = true then (if 0 < (t368.length : Int) then (laws_FnCouples.j1 kj6 l0 t366 t367 t368 t369 t377 t378 (t378 != (decide ((rd t368 0) > 0)))) else (none)) else (laws_FnCouples.j1 kj6 l0 t366 t367 t368 t369 t377 t378 (t378 != false))) else (laws_FnCouples.j1 kj6 l0 t366 t367 t368 t369 t377 t378 true)))) = some r := H
          have A17 := Aside0.mk A170
          clear A170
          have HC18 := Aside0.mk H
          clear H
          go_upto_region 10 with (first | ((with_reducible refine gate_callee (f := 9) rfl ?_); refine goesL_ (some 85) rfl rfl Try.func9 (by kernel_rfl) rfl #[.int .i64 t366, .bool t367] rfl (by (try simp only [List.map_toArray, List.map_cons, List.map_nil]); first | done | rfl | (simp only [List.length_drop, List.length_take]; rfl)) ?_; (with_reducible refine (impl_FirstApart.calls kj6 t366 t367 t377 t378 _ A16.out).mono ?_); rintro e w19 ⟨v379, rfl, ho0, hb⟩; refine ⟨_, rfl, ?_⟩; have n0_ := Aside0.mk (Kd.R_elder' (by (with_reducible repeat (first | apply Kd.R_alloc | apply Kd.R_drewN | apply Kd.R_drew)); exact HO_5.out) (Kd.R_base ho0) hb); have n1_ := Aside0.mk (Kd.R_lower (Kd.R_new' ho0 (Kd.R_lt (by (with_reducible repeat (first | apply Kd.R_alloc | apply Kd.R_drewN | apply Kd.R_drew)); exact HO_5.out))) (below_size (by repeat (first | (with_reducible first | exact HB.out | apply below_alloc | apply pw_below_drewN | apply below_drew1) | exact HB.out)))); have n2_ := Aside0.mk (below_step (by repeat (first | (with_reducible first | exact HB.out | apply below_alloc | apply pw_below_drewN | apply below_drew1) | exact HB.out)) hb); clear HO_5; clear HB; have HO_5 := n0_; have HO380 := n1_; have HB := n2_; clear n0_ n1_ n2_; (try clear hb); (try clear hb2); (try clear hk); (try clear hi); (try clear ho0)) | ((with_reducible refine gate_callee (f := 10) rfl ?_); refine goesL_ (some 91) rfl rfl Try.func10 (by kernel_rfl) rfl #[.int .i64 t366, .bool t367] rfl (by (try simp only [List.map_toArray, List.map_cons, List.map_nil]); first | done | rfl | (simp only [List.length_drop, List.length_take]; rfl)) ?_; (with_reducible refine (spec_FirstApart.calls kj6 t366 t367 t381 t382 _ A17.out).mono ?_); rintro e w20 ⟨v383, rfl, ho0, hb⟩; refine ⟨_, rfl, ?_⟩; have n0_ := Aside0.mk (Kd.R_elder' (by (with_reducible repeat (first | apply Kd.R_alloc | apply Kd.R_drewN | apply Kd.R_drew)); exact HO_5.out) (Kd.R_base ho0) hb); have n1_ := Aside0.mk (Kd.R_elder' (by (with_reducible repeat (first | apply Kd.R_alloc | apply Kd.R_drewN | apply Kd.R_drew)); exact HO380.out) (Kd.R_base ho0) hb); have n2_ := Aside0.mk (Kd.R_lower (Kd.R_new' (Kd.R_new' ho0 (Kd.R_lt (by (with_reducible repeat (first | apply Kd.R_alloc | apply Kd.R_drewN | apply Kd.R_drew)); exact HO_5.out))) (Kd.R_lt (by (with_reducible repeat (first | apply Kd.R_alloc | apply Kd.R_drewN | apply Kd.R_drew)); exact HO380.out))) (below_size (by repeat (first | (with_reducible first | exact HB.out | apply below_alloc | apply pw_below_drewN | apply below_drew1) | exact HB.out)))); have n3_ := Aside0.mk (below_step (by repeat (first | (with_reducible first | exact HB.out | apply below_alloc | apply pw_below_drewN | apply below_drew1) | exact HB.out)) hb); clear HO_5; clear HO380; clear HB; have HO_5 := n0_; have HO380 := n1_; have HO384 := n2_; have HB := n3_; clear n0_ n1_ n2_ n3_; (try clear hb); (try clear hb2); (try clear hk); (try clear hi); (try clear ho0)))
          (try simp only [Act.put, List.setIfInBounds_toArray, List.set_cons_zero, List.set_cons_succ])
          go_cut [113] (fun v113 wc => ∃ (kq : Nat) (x113_17 : Bool), v113 = .bool x113_17 ∧ Aside0 (laws_FnCouples.j1 kq l0 t366 t367 t368 t369 t377 t378 x113_17 = some r) ∧ Aside0 (kq ≤ kj6) ∧ Aside0 (Kd.R (Kd.int .i64) 3 wc w.heap.size (fun k_ => some k_ ≠ (v379 : Value).ownBlock) v370 t368) ∧ Aside0 (Kd.R (Kd.int .i64) 3 wc w.heap.size (fun k_ => some k_ ≠ (v370 : Value).ownBlock) v379 t377) ∧ Aside0 (Below w.heap.size w wc))
          case first =>
            have H := HC18.out
            clear HC18
            by_cases c21 : (t378 != t382) = true
            · as_aux_lemma =>
              rw [if_pos c21] at H
              have c21b0 : (t378 != t382) = true := c21
              (try (have c21b1 : decide (t378 = t382) = false := by simpa using c21))
              (try (have c21b2 : (t378 == t382) = false := by simpa using c21))
              (try (have c21b3 : ¬ (t378 = t382) := by simpa using c21))
              clear c21
              (first | rw [c21b0] | (simp only [i64_w, i32_w]; rw [c21b0]) | rw [c21b1] | skip)
              exact absurd ((laws_FnCouples.j1_no _ _ _ _ _ _ _ _ _ H).trans HRV.out) (by decide)
            · as_aux_lemma =>
              rw [if_neg c21] at H
              have c21b0 : (t378 != t382) = false := by simpa using c21
              (try (have c21b1 : decide (t378 = t382) = true := by simpa using c21))
              (try (have c21b2 : (t378 == t382) = true := by simpa using c21))
              clear c21
              (first | rw [c21b0] | (simp only [i64_w, i32_w]; rw [c21b0]) | rw [c21b1] | skip)
              replace H := Option.bind_eq_some_iff.mp H
              obtain ⟨t385, A220, H⟩ := H
              replace H : (if t385 = true then (if t369 = true then (if 0 < (t368.length : Int) then (laws_FnCouples.j1 kj6 l0 t366 t367 t368 t369 t377 t378 (t378 != (decide ((rd t368 0) > 0)))) else (none)) else (laws_FnCouples.j1 kj6 l0 t366 t367 t368 t369 t377 t378 (t378 != false))) else (laws_FnCouples.j1 kj6 l0 t366 t367 t368 t369 t377 t378 true)) = some r := H
              have A22 := Aside0.mk A220
              clear A220
              by_cases c23 : t385 = true
              · as_aux_lemma =>
                subst c23
                have H1 : (if t369 = true then (if 0 < (t368.length : Int) then (laws_FnCouples.j1 kj6 l0 t366 t367 t368 t369 t377 t378 (t378 != (decide ((rd t368 0) > 0)))) else (none)) else (laws_FnCouples.j1 kj6 l0 t366 t367 t368 t369 t377 t378 (t378 != false))) = some r := by rw [if_pos rfl] at H; exact H
                clear H
                have H := H1
                clear H1
                by_cases c24 : t369 = true
                · as_aux_lemma =>
                  subst c24
                  have H1 : (if 0 < (t368.length : Int) then (laws_FnCouples.j1 kj6 l0 t366 t367 t368 true t377 t378 (t378 != (decide ((rd t368 0) > 0)))) else (none)) = some r := by rw [if_pos rfl] at H; exact H
                  clear H
                  have H := H1
                  clear H1
                  by_cases c25 : 0 < (t368.length : Int)
                  · as_aux_lemma =>
                    rw [if_pos c25] at H
                    have c25b0 : decide (0 < (t368.length : Int)) = true := decide_eq_true c25
                    have c25b1 : decide (0 < t368.length) = true := decide_eq_true (by omega)
                    clear c25
                    have H' := Aside0.mk H
                    clear H
                    obtain ⟨Ao26, co26, eo26⟩ := Kd.R_slice HO380.out
                    subst eo26
                    obtain ⟨Ao27, co27, eo27⟩ := Kd.R_slice HO384.out
                    subst eo27
                    go_wp2_with (first | (go_at_call 8; (with_reducible refine (laws_rInts.calls kj6 _ _ t377 _ _ t381 true _ ?side1 ?side2 ?side3 ?side4 A22.out).mono ?_); (case side1 => repeat (first | exact (Kd.R_reads' HO380.out).2.2 | (with_reducible refine Kd.C_alloc ?_ _) | (with_reducible refine Kd.C_drewN ?_ _) | (with_reducible refine Kd.C_drew ?_))); (case side2 => exact (Kd.R_reads' HO380.out).2.1); (case side3 => repeat (first | exact (Kd.R_reads' HO384.out).2.2 | (with_reducible refine Kd.C_alloc ?_ _) | (with_reducible refine Kd.C_drewN ?_ _) | (with_reducible refine Kd.C_drew ?_))); (case side4 => exact (Kd.R_reads' HO384.out).2.1); rintro e w' ⟨rfl, ⟨nd, rfl⟩⟩; obtain ⟨Ao28, co28, eo28⟩ := Kd.R_slice HO_5.out; subst eo28; have p386 : 0 ≤ (0 : Int) := (by omega); have q386 : 0 < (t368.length : Int) := of_decide_eq_true (by first | (with_reducible assumption) | assumption); obtain ⟨ad386, e386, hx386_0⟩ := Kd.at_int (Kd.R_reads' HO_5.out).2.2 0 p386 q386; cases e386; have qi386 : (0 < t368.length) = True := eq_true (by omega); (try rw [show ((0 : Int)).toNat = 0 from rfl] at hx386_0); (try rw [Addr.add_zero'] at hx386_0); replace p386 := eq_true p386; replace q386 := eq_true q386))
                    go_meet
                    case rel => exact ⟨_, ((t378 != (decide ((rd t368 0) > 0)))), (by first | rfl | (simp; done) | (simp [*]; done)), H', ⟨by have := HJ6.out; first | omega | exact Nat.le_refl _⟩, ⟨by (with_reducible repeat (first | apply Kd.R_alloc | apply Kd.R_drewN | apply Kd.R_drew)); exact Kd.R_mono HO_5.out (fun _ hk => hk.1.2)⟩, ⟨by (with_reducible repeat (first | apply Kd.R_alloc | apply Kd.R_drewN | apply Kd.R_drew)); exact Kd.R_mono HO380.out (fun _ hk => hk.1.2)⟩, ⟨by repeat (first | (with_reducible first | exact HB.out | apply below_alloc | apply pw_below_drewN | apply below_drew1) | exact HB.out)⟩⟩
                  · as_aux_lemma =>
                    rw [if_neg c25] at H
                    exact absurd H (by simp)
                · as_aux_lemma =>
                  replace c24 := Bool.eq_false_iff.mpr c24
                  subst c24
                  have H1 : (laws_FnCouples.j1 kj6 l0 t366 t367 t368 false t377 t378 (t378 != false)) = some r := by rw [if_neg (show ¬ (false = true) by decide)] at H; exact H
                  clear H
                  have H := H1
                  clear H1
                  have H' := Aside0.mk H
                  clear H
                  obtain ⟨Ao29, co29, eo29⟩ := Kd.R_slice HO380.out
                  subst eo29
                  obtain ⟨Ao30, co30, eo30⟩ := Kd.R_slice HO384.out
                  subst eo30
                  go_wp2_with (first | (go_at_call 8; (with_reducible refine (laws_rInts.calls kj6 _ _ t377 _ _ t381 true _ ?side1 ?side2 ?side3 ?side4 A22.out).mono ?_); (case side1 => repeat (first | exact (Kd.R_reads' HO380.out).2.2 | (with_reducible refine Kd.C_alloc ?_ _) | (with_reducible refine Kd.C_drewN ?_ _) | (with_reducible refine Kd.C_drew ?_))); (case side2 => exact (Kd.R_reads' HO380.out).2.1); (case side3 => repeat (first | exact (Kd.R_reads' HO384.out).2.2 | (with_reducible refine Kd.C_alloc ?_ _) | (with_reducible refine Kd.C_drewN ?_ _) | (with_reducible refine Kd.C_drew ?_))); (case side4 => exact (Kd.R_reads' HO384.out).2.1); rintro e w' ⟨rfl, ⟨nd, rfl⟩⟩))
                  go_meet
                  case rel => exact ⟨_, ((t378 != false)), (by first | rfl | (simp; done) | (simp [*]; done)), H', ⟨by have := HJ6.out; first | omega | exact Nat.le_refl _⟩, ⟨by (with_reducible repeat (first | apply Kd.R_alloc | apply Kd.R_drewN | apply Kd.R_drew)); exact Kd.R_mono HO_5.out (fun _ hk => hk.1.2)⟩, ⟨by (with_reducible repeat (first | apply Kd.R_alloc | apply Kd.R_drewN | apply Kd.R_drew)); exact Kd.R_mono HO380.out (fun _ hk => hk.1.2)⟩, ⟨by repeat (first | (with_reducible first | exact HB.out | apply below_alloc | apply pw_below_drewN | apply below_drew1) | exact HB.out)⟩⟩
              · as_aux_lemma =>
                replace c23 := Bool.eq_false_iff.mpr c23
                subst c23
                have H1 : (laws_FnCouples.j1 kj6 l0 t366 t367 t368 t369 t377 t378 true) = some r := by rw [if_neg (show ¬ (false = true) by decide)] at H; exact H
                clear H
                have H := H1
                clear H1
                exact absurd ((laws_FnCouples.j1_no _ _ _ _ _ _ _ _ _ H).trans HRV.out) (by decide)
          case rest =>
            clear HC18
            (try clear c1); (try clear c2); (try clear p2); (try clear c3); (try clear p3); (try clear q3); (try clear hx3); (try clear qi3); (try clear c4); (try clear c5); (try clear c6); (try clear c7); (try clear c9); (try clear c10); (try clear c11); (try clear c11b0); (try clear c11b1); (try clear c11b2); (try clear c15); (try clear c21); (try clear c21b0); (try clear c21b1); (try clear c21b2); (try clear c23); (try clear c24); (try clear c25); (try clear c25b0); (try clear c25b1); (try clear hx386_0); (try clear p2); (try clear p386); (try clear q386)
            obtain ⟨kq, x113_17, rfl, HA, HJ17, HO_5, HO_9, HB⟩ := hcut
            cases kq with
            | zero => exact absurd HA.out (by simp [laws_FnCouples.j1])
            | succ kj17 =>
              have H := HA.out
              clear HA
              simp only [laws_FnCouples.j1] at H
              by_cases c31 : x113_17 = true
              · as_aux_lemma =>
                subst c31
                have H1 : (some false) = some r := by rw [if_pos rfl] at H; exact H
                clear H
                have H := H1
                clear H1
                exact absurd ((Option.some.inj H).trans HRV.out) (by decide)
              · as_aux_lemma =>
                replace c31 := Bool.eq_false_iff.mpr c31
                subst c31
                have H1 : ((spec_DrawMenageCount.f l0).bind fun t387 => ((impl_MenageCount.f kj17 t387).bind fun bt388 => ((spec_MenageCount.f kj17 t387).bind fun bt390 => (if bt388.1 = bt390.1 then (laws_FnCouples.j2 kj17 l0 t366 t367 t368 t369 t377 t378 (bt388.2 != bt390.2)) else (laws_FnCouples.j2 kj17 l0 t366 t367 t368 t369 t377 t378 true))))) = some r := by rw [if_neg (show ¬ (false = true) by decide)] at H; exact H
                clear H
                have H := H1
                clear H1
                replace H := Option.bind_eq_some_iff.mp H
                obtain ⟨t387, A320, H⟩ := H
                replace H : ((impl_MenageCount.f kj17 t387).bind fun bt388 => ((spec_MenageCount.f kj17 t387).bind fun bt390 => (if bt388.1 = bt390.1 then (laws_FnCouples.j2 kj17 l0 t366 t367 t368 t369 t377 t378 (bt388.2 != bt390.2)) else (laws_FnCouples.j2 kj17 l0 t366 t367 t368 t369 t377 t378 true)))) = some r := H
                have A32 := Aside0.mk A320
                clear A320
                replace H := Option.bind_eq_some_iff.mp H
                obtain ⟨⟨t388, t389⟩, A330, H⟩ := H
                replace H : ((spec_MenageCount.f kj17 t387).bind fun bt390 => (if t388 = bt390.1 then (laws_FnCouples.j2 kj17 l0 t366 t367 t368 t369 t377 t378 (t389 != bt390.2)) else (laws_FnCouples.j2 kj17 l0 t366 t367 t368 t369 t377 t378 true))) = some r := H
                have A33 := Aside0.mk A330
                clear A330
                replace H := Option.bind_eq_some_iff.mp H
                obtain ⟨⟨t390, t391⟩, A340, H⟩ := H
                replace H : (if t388 = t390 then (laws_FnCouples.j2 kj17 l0 t366 t367 t368 t369 t377 t378 (t389 != t391)) else (laws_FnCouples.j2 kj17 l0 t366 t367 t368 t369 t377 t378 true)) = some r := H
                have A34 := Aside0.mk A340
                clear A340
                have HC35 := Aside0.mk H
                clear H
                go_upto_region 15 with (first | ((with_reducible refine gate_callee (f := 11) rfl ?_); refine goesL_ (some 115) rfl rfl Try.func11 (by kernel_rfl) rfl #[.slice A0 l0.length c0] rfl (by (try simp only [List.map_toArray, List.map_cons, List.map_nil]); first | done | rfl | (simp only [List.length_drop, List.length_take]; rfl)) ?_; (with_reducible refine (spec_DrawMenageCount.calls _ _ l0 t387 _ ?side1 ?side2 A32.out).mono ?_); (case side1 => repeat (first | exact (Kd.C_below HR0.out HB.out) | (with_reducible refine Kd.C_alloc ?_ _) | (with_reducible refine Kd.C_drewN ?_ _) | (with_reducible refine Kd.C_drew ?_))); (case side2 => exact HC0.out); rintro e w36 ⟨rfl, hb⟩; refine ⟨_, rfl, ?_⟩; have n0_ := Aside0.mk (Kd.R_below (by (with_reducible repeat (first | apply Kd.R_alloc | apply Kd.R_drewN | apply Kd.R_drew)); exact HO_5.out) hb); have n1_ := Aside0.mk (Kd.R_below (by (with_reducible repeat (first | apply Kd.R_alloc | apply Kd.R_drewN | apply Kd.R_drew)); exact HO_9.out) hb); have n2_ := Aside0.mk (below_step (by repeat (first | (with_reducible first | exact HB.out | apply below_alloc | apply pw_below_drewN | apply below_drew1) | exact HB.out)) hb); clear HO_5; clear HO_9; clear HB; have HO_5 := n0_; have HO_9 := n1_; have HB := n2_; clear n0_ n1_ n2_; (try clear hb); (try clear hb2); (try clear hk); (try clear hi)) | ((with_reducible refine gate_callee (f := 12) rfl ?_); refine goesL_ (some 118) rfl rfl Try.func12 (by kernel_rfl) rfl #[.int .i64 t387] rfl (by (try simp only [List.map_toArray, List.map_cons, List.map_nil]); first | done | rfl | (simp only [List.length_drop, List.length_take]; rfl)) ?_; (with_reducible refine (impl_MenageCount.calls kj17 t387 t388 t389 _ A33.out).mono ?_); rintro e w37 ⟨rfl, hb⟩; refine ⟨_, rfl, ?_⟩; have n0_ := Aside0.mk (Kd.R_below (by (with_reducible repeat (first | apply Kd.R_alloc | apply Kd.R_drewN | apply Kd.R_drew)); exact HO_5.out) hb); have n1_ := Aside0.mk (Kd.R_below (by (with_reducible repeat (first | apply Kd.R_alloc | apply Kd.R_drewN | apply Kd.R_drew)); exact HO_9.out) hb); have n2_ := Aside0.mk (below_step (by repeat (first | (with_reducible first | exact HB.out | apply below_alloc | apply pw_below_drewN | apply below_drew1) | exact HB.out)) hb); clear HO_5; clear HO_9; clear HB; have HO_5 := n0_; have HO_9 := n1_; have HB := n2_; clear n0_ n1_ n2_; (try clear hb); (try clear hb2); (try clear hk); (try clear hi)) | ((with_reducible refine gate_callee (f := 13) rfl ?_); refine goesL_ (some 123) rfl rfl Try.func13 (by kernel_rfl) rfl #[.int .i64 t387] rfl (by (try simp only [List.map_toArray, List.map_cons, List.map_nil]); first | done | rfl | (simp only [List.length_drop, List.length_take]; rfl)) ?_; (with_reducible refine (spec_MenageCount.calls kj17 t387 t390 t391 _ A34.out).mono ?_); rintro e w' ⟨rfl, ⟨nd, rfl⟩⟩; refine ⟨_, rfl, ?_⟩))
                (try simp only [Act.put, List.setIfInBounds_toArray, List.set_cons_zero, List.set_cons_succ])
                go_cut [133] (fun v133 wc => ∃ (kq : Nat) (x133_34 : Bool), v133 = .bool x133_34 ∧ Aside0 (laws_FnCouples.j2 kq l0 t366 t367 t368 t369 t377 t378 x133_34 = some r) ∧ Aside0 (kq ≤ kj17) ∧ Aside0 (Kd.R (Kd.int .i64) 3 wc w.heap.size (fun k_ => some k_ ≠ (v379 : Value).ownBlock) v370 t368) ∧ Aside0 (Kd.R (Kd.int .i64) 3 wc w.heap.size (fun k_ => some k_ ≠ (v370 : Value).ownBlock) v379 t377) ∧ Aside0 (Below w.heap.size w wc))
                case first =>
                  have H := HC35.out
                  clear HC35
                  by_cases c38 : t388 = t390
                  · as_aux_lemma =>
                    rw [if_pos c38] at H
                    have c38b0 : (t388 == t390) = true := beq_iff_eq.mpr c38
                    have c38b1 : (t388 != t390) = false := bne_eq_false_iff_eq.mpr c38
                    clear c38
                    (first | rw [c38b0] | (simp only [i64_w, i32_w]; rw [c38b0]) | rw [c38b1] | skip)
                    have H' := Aside0.mk H
                    clear H
                    go_wp2
                    go_meet
                    case rel => exact ⟨_, ((t389 != t391)), (by first | rfl | (simp; done) | (simp [*]; done)), H', ⟨by have := HJ6.out; have := HJ17.out; first | omega | exact Nat.le_refl _⟩, ⟨by (with_reducible repeat (first | apply Kd.R_alloc | apply Kd.R_drewN | apply Kd.R_drew)); exact HO_5.out⟩, ⟨by (with_reducible repeat (first | apply Kd.R_alloc | apply Kd.R_drewN | apply Kd.R_drew)); exact HO_9.out⟩, ⟨by repeat (first | (with_reducible first | exact HB.out | apply below_alloc | apply pw_below_drewN | apply below_drew1) | exact HB.out)⟩⟩
                  · as_aux_lemma =>
                    rw [if_neg c38] at H
                    have c38b0 : (t388 == t390) = false := beq_eq_false_iff_ne.mpr c38
                    have c38b1 : (t388 != t390) = true := bne_iff_ne.mpr c38
                    (first | rw [c38b0] | (simp only [i64_w, i32_w]; rw [c38b0]) | rw [c38b1] | skip)
                    exact absurd ((laws_FnCouples.j2_no _ _ _ _ _ _ _ _ _ H).trans HRV.out) (by decide)
                case rest =>
                  clear HC35
                  (try clear c1); (try clear c2); (try clear p2); (try clear c3); (try clear p3); (try clear q3); (try clear hx3); (try clear qi3); (try clear c4); (try clear c5); (try clear c6); (try clear c7); (try clear c9); (try clear c10); (try clear c11); (try clear c11b0); (try clear c11b1); (try clear c11b2); (try clear c12); (try clear c13); (try clear c15); (try clear c21); (try clear c21b0); (try clear c21b1); (try clear c21b2); (try clear c23); (try clear c24); (try clear c25); (try clear c25b0); (try clear c25b1); (try clear c31); (try clear c38); (try clear c38b0); (try clear c38b1); (try clear p38); (try clear q38); (try clear hx38); (try clear qi38); (try clear hx386_0); (try clear p2); (try clear p3); (try clear p386); (try clear q3); (try clear q386)
                  obtain ⟨kq, x133_34, rfl, HA, HJ34, HO_5, HO_9, HB⟩ := hcut
                  cases kq with
                  | zero => exact absurd HA.out (by simp [laws_FnCouples.j2])
                  | succ kj34 =>
                    have H := HA.out
                    clear HA
                    simp only [laws_FnCouples.j2] at H
                    by_cases c39 : x133_34 = true
                    · as_aux_lemma =>
                      subst c39
                      have H1 : (some false) = some r := by rw [if_pos rfl] at H; exact H
                      clear H
                      have H := H1
                      clear H1
                      exact absurd ((Option.some.inj H).trans HRV.out) (by decide)
                    · as_aux_lemma =>
                      replace c39 := Bool.eq_false_iff.mpr c39
                      subst c39
                      have H1 : ((spec_DrawFamilyCount.f kj34 l0).bind fun bt392 => ((impl_FamilyCount.f kj34 bt392.1 bt392.2).bind fun bt396 => ((spec_FamilyCount.f kj34 bt392.1 bt392.2).bind fun bt398 => (if bt396.1 = bt398.1 then (laws_FnCouples.j3 kj34 l0 t366 t367 t368 t369 t377 t378 (bt396.2 != bt398.2)) else (laws_FnCouples.j3 kj34 l0 t366 t367 t368 t369 t377 t378 true))))) = some r := by rw [if_neg (show ¬ (false = true) by decide)] at H; exact H
                      clear H
                      have H := H1
                      clear H1
                      replace H := Option.bind_eq_some_iff.mp H
                      obtain ⟨⟨t392, t393⟩, A400, H⟩ := H
                      replace H : ((impl_FamilyCount.f kj34 t392 t393).bind fun bt396 => ((spec_FamilyCount.f kj34 t392 t393).bind fun bt398 => (if bt396.1 = bt398.1 then (laws_FnCouples.j3 kj34 l0 t366 t367 t368 t369 t377 t378 (bt396.2 != bt398.2)) else (laws_FnCouples.j3 kj34 l0 t366 t367 t368 t369 t377 t378 true)))) = some r := H
                      have A40 := Aside0.mk A400
                      clear A400
                      replace H := Option.bind_eq_some_iff.mp H
                      obtain ⟨⟨t396, t397⟩, A410, H⟩ := H
                      replace H : ((spec_FamilyCount.f kj34 t392 t393).bind fun bt398 => (if t396 = bt398.1 then (laws_FnCouples.j3 kj34 l0 t366 t367 t368 t369 t377 t378 (t397 != bt398.2)) else (laws_FnCouples.j3 kj34 l0 t366 t367 t368 t369 t377 t378 true))) = some r := H
                      have A41 := Aside0.mk A410
                      clear A410
                      replace H := Option.bind_eq_some_iff.mp H
                      obtain ⟨⟨t398, t399⟩, A420, H⟩ := H
                      replace H : (if t396 = t398 then (laws_FnCouples.j3 kj34 l0 t366 t367 t368 t369 t377 t378 (t397 != t399)) else (laws_FnCouples.j3 kj34 l0 t366 t367 t368 t369 t377 t378 true)) = some r := H
                      have A42 := Aside0.mk A420
                      clear A420
                      have HC43 := Aside0.mk H
                      clear H
                      go_upto_region 20 with (first | ((with_reducible refine gate_callee (f := 14) rfl ?_); refine goesL_ (some 136) rfl rfl Try.func14 (by kernel_rfl) rfl #[.slice A0 l0.length c0] rfl (by (try simp only [List.map_toArray, List.map_cons, List.map_nil]); first | done | rfl | (simp only [List.length_drop, List.length_take]; rfl)) ?_; (with_reducible refine (spec_DrawFamilyCount.calls kj34 _ _ l0 t392 t393 _ ?side1 ?side2 A40.out).mono ?_); (case side1 => repeat (first | exact (Kd.C_below HR0.out HB.out) | (with_reducible refine Kd.C_alloc ?_ _) | (with_reducible refine Kd.C_drewN ?_ _) | (with_reducible refine Kd.C_drew ?_))); (case side2 => exact HC0.out); rintro e w44 ⟨v394, rfl, ho0, hb⟩; refine ⟨_, rfl, ?_⟩; have n0_ := Aside0.mk (Kd.R_elder' (by (with_reducible repeat (first | apply Kd.R_alloc | apply Kd.R_drewN | apply Kd.R_drew)); exact HO_5.out) (Kd.R_base ho0) hb); have n1_ := Aside0.mk (Kd.R_elder' (by (with_reducible repeat (first | apply Kd.R_alloc | apply Kd.R_drewN | apply Kd.R_drew)); exact HO_9.out) (Kd.R_base ho0) hb); have n2_ := Aside0.mk (Kd.R_lower (Kd.R_new' (Kd.R_new' ho0 (Kd.R_lt (by (with_reducible repeat (first | apply Kd.R_alloc | apply Kd.R_drewN | apply Kd.R_drew)); exact HO_5.out))) (Kd.R_lt (by (with_reducible repeat (first | apply Kd.R_alloc | apply Kd.R_drewN | apply Kd.R_drew)); exact HO_9.out))) (below_size (by repeat (first | (with_reducible first | exact HB.out | apply below_alloc | apply pw_below_drewN | apply below_drew1) | exact HB.out)))); have n3_ := Aside0.mk (below_step (by repeat (first | (with_reducible first | exact HB.out | apply below_alloc | apply pw_below_drewN | apply below_drew1) | exact HB.out)) hb); clear HO_5; clear HO_9; clear HB; have HO_5 := n0_; have HO_9 := n1_; have HO395 := n2_; have HB := n3_; clear n0_ n1_ n2_ n3_; (try clear hb); (try clear hb2); (try clear hk); (try clear hi); (try clear ho0); obtain ⟨Ao45, co45, eo45⟩ := Kd.R_slice HO395.out; subst eo45) | ((with_reducible refine gate_callee (f := 15) rfl ?_); refine goesL_ (some 142) rfl rfl Try.func15 (by kernel_rfl) rfl #[.slice Ao45 t392.length co45, .bool t393] rfl (by (try simp only [List.map_toArray, List.map_cons, List.map_nil]); first | done | rfl | (simp only [List.length_drop, List.length_take]; rfl)) ?_; (with_reducible refine (impl_FamilyCount.calls kj34 _ _ t392 t393 t396 t397 _ ?side1 ?side2 A41.out).mono ?_); (case side1 => repeat (first | exact (Kd.R_reads' HO395.out).2.2 | (with_reducible refine Kd.C_alloc ?_ _) | (with_reducible refine Kd.C_drewN ?_ _) | (with_reducible refine Kd.C_drew ?_))); (case side2 => exact (Kd.R_reads' HO395.out).2.1); rintro e w' ⟨rfl, ⟨nd, rfl⟩⟩; refine ⟨_, rfl, ?_⟩) | ((with_reducible refine gate_callee (f := 16) rfl ?_); refine goesL_ (some 148) rfl rfl Try.func16 (by kernel_rfl) rfl #[.slice Ao45 t392.length co45, .bool t393] rfl (by (try simp only [List.map_toArray, List.map_cons, List.map_nil]); first | done | rfl | (simp only [List.length_drop, List.length_take]; rfl)) ?_; (with_reducible refine (spec_FamilyCount.calls kj34 _ _ t392 t393 t398 t399 _ ?side1 ?side2 A42.out).mono ?_); (case side1 => repeat (first | exact (Kd.R_reads' HO395.out).2.2 | (with_reducible refine Kd.C_alloc ?_ _) | (with_reducible refine Kd.C_drewN ?_ _) | (with_reducible refine Kd.C_drew ?_))); (case side2 => exact (Kd.R_reads' HO395.out).2.1); rintro e w' ⟨rfl, ⟨nd, rfl⟩⟩; refine ⟨_, rfl, ?_⟩))
                      (try simp only [Act.put, List.setIfInBounds_toArray, List.set_cons_zero, List.set_cons_succ])
                      go_cut [158] (fun v158 wc => ∃ (kq : Nat) (x158_42 : Bool), v158 = .bool x158_42 ∧ Aside0 (laws_FnCouples.j3 kq l0 t366 t367 t368 t369 t377 t378 x158_42 = some r) ∧ Aside0 (kq ≤ kj34) ∧ Aside0 (Kd.R (Kd.int .i64) 3 wc w.heap.size (fun k_ => some k_ ≠ (v379 : Value).ownBlock) v370 t368) ∧ Aside0 (Kd.R (Kd.int .i64) 3 wc w.heap.size (fun k_ => some k_ ≠ (v370 : Value).ownBlock) v379 t377) ∧ Aside0 (Below w.heap.size w wc))
                      case first =>
                        have H := HC43.out
                        clear HC43
                        by_cases c46 : t396 = t398
                        · as_aux_lemma =>
                          rw [if_pos c46] at H
                          have c46b0 : (t396 == t398) = true := beq_iff_eq.mpr c46
                          have c46b1 : (t396 != t398) = false := bne_eq_false_iff_eq.mpr c46
                          clear c46
                          (first | rw [c46b0] | (simp only [i64_w, i32_w]; rw [c46b0]) | rw [c46b1] | skip)
                          have H' := Aside0.mk H
                          clear H
                          go_wp2
                          go_meet
                          case rel => exact ⟨_, ((t397 != t399)), (by first | rfl | (simp; done) | (simp [*]; done)), H', ⟨by have := HJ6.out; have := HJ17.out; have := HJ34.out; first | omega | exact Nat.le_refl _⟩, ⟨by (with_reducible repeat (first | apply Kd.R_alloc | apply Kd.R_drewN | apply Kd.R_drew)); exact Kd.R_mono HO_5.out (fun _ hk => hk.1)⟩, ⟨by (with_reducible repeat (first | apply Kd.R_alloc | apply Kd.R_drewN | apply Kd.R_drew)); exact Kd.R_mono HO_9.out (fun _ hk => hk.1)⟩, ⟨by repeat (first | (with_reducible first | exact HB.out | apply below_alloc | apply pw_below_drewN | apply below_drew1) | exact HB.out)⟩⟩
                        · as_aux_lemma =>
                          rw [if_neg c46] at H
                          have c46b0 : (t396 == t398) = false := beq_eq_false_iff_ne.mpr c46
                          have c46b1 : (t396 != t398) = true := bne_iff_ne.mpr c46
                          (first | rw [c46b0] | (simp only [i64_w, i32_w]; rw [c46b0]) | rw [c46b1] | skip)
                          exact absurd ((laws_FnCouples.j3_no _ _ _ _ _ _ _ _ _ H).trans HRV.out) (by decide)
                      case rest =>
                        clear HC43
                        (try clear c1); (try clear c2); (try clear p2); (try clear c3); (try clear p3); (try clear q3); (try clear hx3); (try clear qi3); (try clear c4); (try clear c5); (try clear c6); (try clear c7); (try clear c9); (try clear c10); (try clear c11); (try clear c11b0); (try clear c11b1); (try clear c11b2); (try clear c12); (try clear c13); (try clear c14); (try clear c15); (try clear c16); (try clear c21); (try clear c21b0); (try clear c21b1); (try clear c21b2); (try clear c23); (try clear c24); (try clear c25); (try clear c25b0); (try clear c25b1); (try clear c31); (try clear c38); (try clear c38b0); (try clear c38b1); (try clear p38); (try clear q38); (try clear hx38); (try clear qi38); (try clear c39); (try clear c46); (try clear c46b0); (try clear c46b1); (try clear hx386_0); (try clear p2); (try clear p3); (try clear p38); (try clear p386); (try clear q3); (try clear q38); (try clear q386)
                        obtain ⟨kq, x158_42, rfl, HA, HJ42, HO_5, HO_9, HB⟩ := hcut
                        cases kq with
                        | zero => exact absurd HA.out (by simp [laws_FnCouples.j3])
                        | succ kj42 =>
                          have H := HA.out
                          clear HA
                          simp only [laws_FnCouples.j3] at H
                          by_cases c47 : x158_42 = true
                          · as_aux_lemma =>
                            subst c47
                            have H1 : (some false) = some r := by rw [if_pos rfl] at H; exact H
                            clear H
                            have H := H1
                            clear H1
                            exact absurd ((Option.some.inj H).trans HRV.out) (by decide)
                          · as_aux_lemma =>
                            replace c47 := Bool.eq_false_iff.mpr c47
                            subst c47
                            have H1 : ((spec_DrawIsParty.f kj42 l0).bind fun bt400 => ((impl_IsParty.f kj42 bt400.1 bt400.2.1 bt400.2.2).bind fun bt405 => ((spec_IsParty.f kj42 bt400.1 bt400.2.1 bt400.2.2).bind fun bt407 => (if (bt405.1 != bt407.1) = true then (laws_FnCouples.j4 kj42 l0 t366 t367 t368 t369 t377 t378 bt400.1 bt400.2.1 bt400.2.2 bt405.1 bt405.2 true) else (laws_FnCouples.j4 kj42 l0 t366 t367 t368 t369 t377 t378 bt400.1 bt400.2.1 bt400.2.2 bt405.1 bt405.2 (bt405.2 != bt407.2)))))) = some r := by rw [if_neg (show ¬ (false = true) by decide)] at H; exact H
                            clear H
                            have H := H1
                            clear H1
                            replace H := Option.bind_eq_some_iff.mp H
                            obtain ⟨⟨t400, t401, t402⟩, A480, H⟩ := H
                            replace H : ((impl_IsParty.f kj42 t400 t401 t402).bind fun bt405 => ((spec_IsParty.f kj42 t400 t401 t402).bind fun bt407 => (if (bt405.1 != bt407.1) = true then (laws_FnCouples.j4 kj42 l0 t366 t367 t368 t369 t377 t378 t400 t401 t402 bt405.1 bt405.2 true) else (laws_FnCouples.j4 kj42 l0 t366 t367 t368 t369 t377 t378 t400 t401 t402 bt405.1 bt405.2 (bt405.2 != bt407.2))))) = some r := H
                            have A48 := Aside0.mk A480
                            clear A480
                            replace H := Option.bind_eq_some_iff.mp H
                            obtain ⟨⟨t405, t406⟩, A490, H⟩ := H
                            replace H : ((spec_IsParty.f kj42 t400 t401 t402).bind fun bt407 => (if (t405 != bt407.1) = true then (laws_FnCouples.j4 kj42 l0 t366 t367 t368 t369 t377 t378 t400 t401 t402 t405 t406 true) else (laws_FnCouples.j4 kj42 l0 t366 t367 t368 t369 t377 t378 t400 t401 t402 t405 t406 (t406 != bt407.2)))) = some r := H
                            have A49 := Aside0.mk A490
                            clear A490
                            replace H := Option.bind_eq_some_iff.mp H
                            obtain ⟨⟨t407, t408⟩, A500, H⟩ := H
                            replace H : (if (t405 != t407) = true then (laws_FnCouples.j4 kj42 l0 t366 t367 t368 t369 t377 t378 t400 t401 t402 t405 t406 true) else (laws_FnCouples.j4 kj42 l0 t366 t367 t368 t369 t377 t378 t400 t401 t402 t405 t406 (t406 != t408))) = some r := H
                            have A50 := Aside0.mk A500
                            clear A500
                            have HC51 := Aside0.mk H
                            clear H
                            go_upto_region 25 with (first | ((with_reducible refine gate_callee (f := 17) rfl ?_); refine goesL_ (some 161) rfl rfl Try.func17 (by kernel_rfl) rfl #[.slice A0 l0.length c0] rfl (by (try simp only [List.map_toArray, List.map_cons, List.map_nil]); first | done | rfl | (simp only [List.length_drop, List.length_take]; rfl)) ?_; (with_reducible refine (spec_DrawIsParty.calls kj42 _ _ l0 t400 t401 t402 _ ?side1 ?side2 A48.out).mono ?_); (case side1 => repeat (first | exact (Kd.C_below HR0.out HB.out) | (with_reducible refine Kd.C_alloc ?_ _) | (with_reducible refine Kd.C_drewN ?_ _) | (with_reducible refine Kd.C_drew ?_))); (case side2 => exact HC0.out); rintro e w52 ⟨v403, rfl, ho0, hb⟩; refine ⟨_, rfl, ?_⟩; have n0_ := Aside0.mk (Kd.R_elder' (by (with_reducible repeat (first | apply Kd.R_alloc | apply Kd.R_drewN | apply Kd.R_drew)); exact HO_5.out) (Kd.R_base ho0) hb); have n1_ := Aside0.mk (Kd.R_elder' (by (with_reducible repeat (first | apply Kd.R_alloc | apply Kd.R_drewN | apply Kd.R_drew)); exact HO_9.out) (Kd.R_base ho0) hb); have n2_ := Aside0.mk (Kd.R_lower (Kd.R_new' (Kd.R_new' ho0 (Kd.R_lt (by (with_reducible repeat (first | apply Kd.R_alloc | apply Kd.R_drewN | apply Kd.R_drew)); exact HO_5.out))) (Kd.R_lt (by (with_reducible repeat (first | apply Kd.R_alloc | apply Kd.R_drewN | apply Kd.R_drew)); exact HO_9.out))) (below_size (by repeat (first | (with_reducible first | exact HB.out | apply below_alloc | apply pw_below_drewN | apply below_drew1) | exact HB.out)))); have n3_ := Aside0.mk (below_step (by repeat (first | (with_reducible first | exact HB.out | apply below_alloc | apply pw_below_drewN | apply below_drew1) | exact HB.out)) hb); clear HO_5; clear HO_9; clear HB; have HO_5 := n0_; have HO_9 := n1_; have HO404 := n2_; have HB := n3_; clear n0_ n1_ n2_ n3_; (try clear hb); (try clear hb2); (try clear hk); (try clear hi); (try clear ho0); obtain ⟨Ao53, co53, eo53⟩ := Kd.R_slice HO404.out; subst eo53) | ((with_reducible refine gate_callee (f := 18) rfl ?_); refine goesL_ (some 169) rfl rfl Try.func18 (by kernel_rfl) rfl #[.int .i64 t400, .bool t401, .slice Ao53 t402.length co53] rfl (by (try simp only [List.map_toArray, List.map_cons, List.map_nil]); first | done | rfl | (simp only [List.length_drop, List.length_take]; rfl)) ?_; (with_reducible refine (impl_IsParty.calls kj42 t400 t401 _ _ t402 t405 t406 _ ?side1 ?side2 A49.out).mono ?_); (case side1 => repeat (first | exact (Kd.R_reads' HO404.out).2.2 | (with_reducible refine Kd.C_alloc ?_ _) | (with_reducible refine Kd.C_drewN ?_ _) | (with_reducible refine Kd.C_drew ?_))); (case side2 => exact (Kd.R_reads' HO404.out).2.1); rintro e w' ⟨rfl, ⟨nd, rfl⟩⟩; refine ⟨_, rfl, ?_⟩) | ((with_reducible refine gate_callee (f := 19) rfl ?_); refine goesL_ (some 176) rfl rfl Try.func19 (by kernel_rfl) rfl #[.int .i64 t400, .bool t401, .slice Ao53 t402.length co53] rfl (by (try simp only [List.map_toArray, List.map_cons, List.map_nil]); first | done | rfl | (simp only [List.length_drop, List.length_take]; rfl)) ?_; (with_reducible refine (spec_IsParty.calls kj42 t400 t401 _ _ t402 t407 t408 _ ?side1 ?side2 A50.out).mono ?_); (case side1 => repeat (first | exact (Kd.R_reads' HO404.out).2.2 | (with_reducible refine Kd.C_alloc ?_ _) | (with_reducible refine Kd.C_drewN ?_ _) | (with_reducible refine Kd.C_drew ?_))); (case side2 => exact (Kd.R_reads' HO404.out).2.1); rintro e w' ⟨rfl, ⟨nd, rfl⟩⟩; refine ⟨_, rfl, ?_⟩))
                            (try simp only [Act.put, List.setIfInBounds_toArray, List.set_cons_zero, List.set_cons_succ])
                            go_cut [186] (fun v186 wc => ∃ (kq : Nat) (x186_50 : Bool), v186 = .bool x186_50 ∧ Aside0 (laws_FnCouples.j4 kq l0 t366 t367 t368 t369 t377 t378 t400 t401 t402 t405 t406 x186_50 = some r) ∧ Aside0 (kq ≤ kj42) ∧ Aside0 (Kd.R (Kd.int .i64) 3 wc w.heap.size (fun k_ => some k_ ≠ (v379 : Value).ownBlock ∧ some k_ ≠ ((.slice Ao53 t402.length co53) : Value).ownBlock) v370 t368) ∧ Aside0 (Kd.R (Kd.int .i64) 3 wc w.heap.size (fun k_ => some k_ ≠ (v370 : Value).ownBlock ∧ some k_ ≠ ((.slice Ao53 t402.length co53) : Value).ownBlock) v379 t377) ∧ Aside0 (Kd.R (Kd.int .i64) 3 wc w.heap.size (fun k_ => some k_ ≠ (v370 : Value).ownBlock ∧ some k_ ≠ (v379 : Value).ownBlock) (.slice Ao53 t402.length co53) t402) ∧ Aside0 (Below w.heap.size w wc))
                            case first =>
                              have H := HC51.out
                              clear HC51
                              by_cases c54 : (t405 != t407) = true
                              · as_aux_lemma =>
                                rw [if_pos c54] at H
                                have c54b0 : (t405 != t407) = true := c54
                                (try (have c54b1 : decide (t405 = t407) = false := by simpa using c54))
                                (try (have c54b2 : (t405 == t407) = false := by simpa using c54))
                                (try (have c54b3 : ¬ (t405 = t407) := by simpa using c54))
                                clear c54
                                (first | rw [c54b0] | (simp only [i64_w, i32_w]; rw [c54b0]) | rw [c54b1] | skip)
                                exact absurd ((laws_FnCouples.j4_no _ _ _ _ _ _ _ _ _ _ _ _ _ _ H).trans HRV.out) (by decide)
                              · as_aux_lemma =>
                                rw [if_neg c54] at H
                                have c54b0 : (t405 != t407) = false := by simpa using c54
                                (try (have c54b1 : decide (t405 = t407) = true := by simpa using c54))
                                (try (have c54b2 : (t405 == t407) = true := by simpa using c54))
                                clear c54
                                (first | rw [c54b0] | (simp only [i64_w, i32_w]; rw [c54b0]) | rw [c54b1] | skip)
                                have H' := Aside0.mk H
                                clear H
                                go_wp2
                                go_meet
                                case rel => exact ⟨_, ((t406 != t408)), (by first | rfl | (simp; done) | (simp [*]; done)), H', ⟨by have := HJ6.out; have := HJ17.out; have := HJ34.out; have := HJ42.out; first | omega | exact Nat.le_refl _⟩, ⟨by (with_reducible repeat (first | apply Kd.R_alloc | apply Kd.R_drewN | apply Kd.R_drew)); exact HO_5.out⟩, ⟨by (with_reducible repeat (first | apply Kd.R_alloc | apply Kd.R_drewN | apply Kd.R_drew)); exact HO_9.out⟩, ⟨by (with_reducible repeat (first | apply Kd.R_alloc | apply Kd.R_drewN | apply Kd.R_drew)); exact Kd.R_mono HO404.out (fun _ hk => ⟨hk.1.2, hk.2⟩)⟩, ⟨by repeat (first | (with_reducible first | exact HB.out | apply below_alloc | apply pw_below_drewN | apply below_drew1) | exact HB.out)⟩⟩
                            case rest =>
                              clear HC51
                              (try clear c1); (try clear c2); (try clear p2); (try clear c3); (try clear p3); (try clear q3); (try clear hx3); (try clear qi3); (try clear c4); (try clear c5); (try clear c6); (try clear c7); (try clear c9); (try clear c10); (try clear c11); (try clear c11b0); (try clear c11b1); (try clear c11b2); (try clear c12); (try clear c13); (try clear c14); (try clear c15); (try clear c16); (try clear c17); (try clear c18); (try clear c19); (try clear c21); (try clear c21b0); (try clear c21b1); (try clear c21b2); (try clear c23); (try clear c24); (try clear c25); (try clear c25b0); (try clear c25b1); (try clear c31); (try clear c38); (try clear c38b0); (try clear c38b1); (try clear p38); (try clear q38); (try clear hx38); (try clear qi38); (try clear c39); (try clear c46); (try clear c46b0); (try clear c46b1); (try clear c47); (try clear c54); (try clear c54b0); (try clear c54b1); (try clear c54b2); (try clear hx386_0); (try clear p2); (try clear p3); (try clear p38); (try clear p386); (try clear q3); (try clear q38); (try clear q386)
                              obtain ⟨kq, x186_50, rfl, HA, HJ50, HO_5, HO_9, HO_26, HB⟩ := hcut
                              cases kq with
                              | zero => exact absurd HA.out (by simp [laws_FnCouples.j4])
                              | succ kj50 =>
                                have H := HA.out
                                clear HA
                                simp only [laws_FnCouples.j4] at H
                                by_cases c55 : x186_50 = true
                                · as_aux_lemma =>
                                  subst c55
                                  have H1 : (some false) = some r := by rw [if_pos rfl] at H; exact H
                                  clear H
                                  have H := H1
                                  clear H1
                                  exact absurd ((Option.some.inj H).trans HRV.out) (by decide)
                                · as_aux_lemma =>
                                  replace c55 := Bool.eq_false_iff.mpr c55
                                  subst c55
                                  have H1 : ((impl_CouplesTogether.f kj50 t400 t401 t402).bind fun bt409 => ((spec_CouplesTogether.f kj50 t400 t401 t402).bind fun bt411 => (if bt409.1 = bt411.1 then (if (bt409.2 != bt411.2) = true then (laws_FnCouples.j5 kj50 l0 t366 t367 t368 t369 t377 t378 t400 t401 bt409.1 bt409.2 true) else (if t406 = true then (laws_FnCouples.j5 kj50 l0 t366 t367 t368 t369 t377 t378 t400 t401 bt409.1 bt409.2 (bt409.2 != t405)) else (laws_FnCouples.j5 kj50 l0 t366 t367 t368 t369 t377 t378 t400 t401 bt409.1 bt409.2 (bt409.2 != false)))) else (laws_FnCouples.j5 kj50 l0 t366 t367 t368 t369 t377 t378 t400 t401 bt409.1 bt409.2 true)))) = some r := by rw [if_neg (show ¬ (false = true) by decide)] at H; exact H
                                  clear H
                                  have H := H1
                                  clear H1
                                  replace H := Option.bind_eq_some_iff.mp H
                                  obtain ⟨⟨t409, t410⟩, A560, H⟩ := H
                                  replace H : ((spec_CouplesTogether.f kj50 t400 t401 t402).bind fun bt411 => (if t409 = bt411.1 then (if (t410 != bt411.2) = true then (laws_FnCouples.j5 kj50 l0 t366 t367 t368 t369 t377 t378 t400 t401 t409 t410 true) else (if t406 = true then (laws_FnCouples.j5 kj50 l0 t366 t367 t368 t369 t377 t378 t400 t401 t409 t410 (t410 != t405)) else (laws_FnCouples.j5 kj50 l0 t366 t367 t368 t369 t377 t378 t400 t401 t409 t410 (t410 != false)))) else (laws_FnCouples.j5 kj50 l0 t366 t367 t368 t369 t377 t378 t400 t401 t409 t410 true))) = some r := H
                                  have A56 := Aside0.mk A560
                                  clear A560
                                  replace H := Option.bind_eq_some_iff.mp H
                                  obtain ⟨⟨t411, t412⟩, A570, H⟩ := H
                                  replace H : (if t409 = t411 then (if (t410 != t412) = true then (laws_FnCouples.j5 kj50 l0 t366 t367 t368 t369 t377 t378 t400 t401 t409 t410 true) else (if t406 = true then (laws_FnCouples.j5 kj50 l0 t366 t367 t368 t369 t377 t378 t400 t401 t409 t410 (t410 != t405)) else (laws_FnCouples.j5 kj50 l0 t366 t367 t368 t369 t377 t378 t400 t401 t409 t410 (t410 != false)))) else (laws_FnCouples.j5 kj50 l0 t366 t367 t368 t369 t377 t378 t400 t401 t409 t410 true)) = some r := H
                                  have A57 := Aside0.mk A570
                                  clear A570
                                  have HC58 := Aside0.mk H
                                  clear H
                                  go_upto_region 29 with (first | ((with_reducible refine gate_callee (f := 20) rfl ?_); refine goesL_ (some 191) rfl rfl Try.func20 (by kernel_rfl) rfl #[.int .i64 t400, .bool t401, .slice Ao53 t402.length co53] rfl (by (try simp only [List.map_toArray, List.map_cons, List.map_nil]); first | done | rfl | (simp only [List.length_drop, List.length_take]; rfl)) ?_; (with_reducible refine (impl_CouplesTogether.calls kj50 t400 t401 _ _ t402 t409 t410 _ ?side1 ?side2 A56.out).mono ?_); (case side1 => repeat (first | exact (Kd.R_reads' HO_26.out).2.2 | (with_reducible refine Kd.C_alloc ?_ _) | (with_reducible refine Kd.C_drewN ?_ _) | (with_reducible refine Kd.C_drew ?_))); (case side2 => exact (Kd.R_reads' HO_26.out).2.1); rintro e w' ⟨rfl, ⟨nd, rfl⟩⟩; refine ⟨_, rfl, ?_⟩) | ((with_reducible refine gate_callee (f := 21) rfl ?_); refine goesL_ (some 198) rfl rfl Try.func21 (by kernel_rfl) rfl #[.int .i64 t400, .bool t401, .slice Ao53 t402.length co53] rfl (by (try simp only [List.map_toArray, List.map_cons, List.map_nil]); first | done | rfl | (simp only [List.length_drop, List.length_take]; rfl)) ?_; (with_reducible refine (spec_CouplesTogether.calls kj50 t400 t401 _ _ t402 t411 t412 _ ?side1 ?side2 A57.out).mono ?_); (case side1 => repeat (first | exact (Kd.R_reads' HO_26.out).2.2 | (with_reducible refine Kd.C_alloc ?_ _) | (with_reducible refine Kd.C_drewN ?_ _) | (with_reducible refine Kd.C_drew ?_))); (case side2 => exact (Kd.R_reads' HO_26.out).2.1); rintro e w' ⟨rfl, ⟨nd, rfl⟩⟩; refine ⟨_, rfl, ?_⟩))
                                  (try simp only [Act.put, List.setIfInBounds_toArray, List.set_cons_zero, List.set_cons_succ])
                                  go_cut [216] (fun v216 wc => ∃ (kq : Nat) (x216_57 : Bool), v216 = .bool x216_57 ∧ Aside0 (laws_FnCouples.j5 kq l0 t366 t367 t368 t369 t377 t378 t400 t401 t409 t410 x216_57 = some r) ∧ Aside0 (kq ≤ kj50) ∧ Aside0 (Kd.R (Kd.int .i64) 3 wc w.heap.size (fun k_ => some k_ ≠ (v379 : Value).ownBlock) v370 t368) ∧ Aside0 (Kd.R (Kd.int .i64) 3 wc w.heap.size (fun k_ => some k_ ≠ (v370 : Value).ownBlock) v379 t377) ∧ Aside0 (Below w.heap.size w wc))
                                  case first =>
                                    have H := HC58.out
                                    clear HC58
                                    by_cases c59 : t409 = t411
                                    · as_aux_lemma =>
                                      rw [if_pos c59] at H
                                      have c59b0 : (t409 == t411) = true := beq_iff_eq.mpr c59
                                      have c59b1 : (t409 != t411) = false := bne_eq_false_iff_eq.mpr c59
                                      clear c59
                                      (first | rw [c59b0] | (simp only [i64_w, i32_w]; rw [c59b0]) | rw [c59b1] | skip)
                                      by_cases c60 : (t410 != t412) = true
                                      · as_aux_lemma =>
                                        rw [if_pos c60] at H
                                        have c60b0 : (t410 != t412) = true := c60
                                        (try (have c60b1 : decide (t410 = t412) = false := by simpa using c60))
                                        (try (have c60b2 : (t410 == t412) = false := by simpa using c60))
                                        (try (have c60b3 : ¬ (t410 = t412) := by simpa using c60))
                                        clear c60
                                        exact absurd ((laws_FnCouples.j5_no _ _ _ _ _ _ _ _ _ _ _ _ _ H).trans HRV.out) (by decide)
                                      · as_aux_lemma =>
                                        rw [if_neg c60] at H
                                        have c60b0 : (t410 != t412) = false := by simpa using c60
                                        (try (have c60b1 : decide (t410 = t412) = true := by simpa using c60))
                                        (try (have c60b2 : (t410 == t412) = true := by simpa using c60))
                                        clear c60
                                        by_cases c61 : t406 = true
                                        · as_aux_lemma =>
                                          subst c61
                                          have H1 : (laws_FnCouples.j5 kj50 l0 t366 t367 t368 t369 t377 t378 t400 t401 t409 t410 (t410 != t405)) = some r := by rw [if_pos rfl] at H; exact H
                                          clear H
                                          have H := H1
                                          clear H1
                                          have H' := Aside0.mk H
                                          clear H
                                          go_wp2
                                          go_meet
                                          case rel => exact ⟨_, ((t410 != t405)), (by first | rfl | (simp; done) | (simp [*]; done)), H', ⟨by have := HJ6.out; have := HJ17.out; have := HJ34.out; have := HJ42.out; have := HJ50.out; first | omega | exact Nat.le_refl _⟩, ⟨by (with_reducible repeat (first | apply Kd.R_alloc | apply Kd.R_drewN | apply Kd.R_drew)); exact Kd.R_mono HO_5.out (fun _ hk => hk.1)⟩, ⟨by (with_reducible repeat (first | apply Kd.R_alloc | apply Kd.R_drewN | apply Kd.R_drew)); exact Kd.R_mono HO_9.out (fun _ hk => hk.1)⟩, ⟨by repeat (first | (with_reducible first | exact HB.out | apply below_alloc | apply pw_below_drewN | apply below_drew1) | exact HB.out)⟩⟩
                                        · as_aux_lemma =>
                                          replace c61 := Bool.eq_false_iff.mpr c61
                                          subst c61
                                          have H1 : (laws_FnCouples.j5 kj50 l0 t366 t367 t368 t369 t377 t378 t400 t401 t409 t410 (t410 != false)) = some r := by rw [if_neg (show ¬ (false = true) by decide)] at H; exact H
                                          clear H
                                          have H := H1
                                          clear H1
                                          have H' := Aside0.mk H
                                          clear H
                                          go_wp2
                                          go_meet
                                          case rel => exact ⟨_, ((t410 != false)), (by first | rfl | (simp; done) | (simp [*]; done)), H', ⟨by have := HJ6.out; have := HJ17.out; have := HJ34.out; have := HJ42.out; have := HJ50.out; first | omega | exact Nat.le_refl _⟩, ⟨by (with_reducible repeat (first | apply Kd.R_alloc | apply Kd.R_drewN | apply Kd.R_drew)); exact Kd.R_mono HO_5.out (fun _ hk => hk.1)⟩, ⟨by (with_reducible repeat (first | apply Kd.R_alloc | apply Kd.R_drewN | apply Kd.R_drew)); exact Kd.R_mono HO_9.out (fun _ hk => hk.1)⟩, ⟨by repeat (first | (with_reducible first | exact HB.out | apply below_alloc | apply pw_below_drewN | apply below_drew1) | exact HB.out)⟩⟩
                                    · as_aux_lemma =>
                                      rw [if_neg c59] at H
                                      have c59b0 : (t409 == t411) = false := beq_eq_false_iff_ne.mpr c59
                                      have c59b1 : (t409 != t411) = true := bne_iff_ne.mpr c59
                                      (first | rw [c59b0] | (simp only [i64_w, i32_w]; rw [c59b0]) | rw [c59b1] | skip)
                                      exact absurd ((laws_FnCouples.j5_no _ _ _ _ _ _ _ _ _ _ _ _ _ H).trans HRV.out) (by decide)
                                  case rest =>
                                    clear HC58
                                    (try clear c1); (try clear c2); (try clear p2); (try clear c3); (try clear p3); (try clear q3); (try clear hx3); (try clear qi3); (try clear c4); (try clear c5); (try clear c6); (try clear c7); (try clear c9); (try clear c10); (try clear c11); (try clear c11b0); (try clear c11b1); (try clear c11b2); (try clear c12); (try clear c13); (try clear c14); (try clear c15); (try clear c16); (try clear c17); (try clear c18); (try clear c19); (try clear c20); (try clear c21); (try clear c21b0); (try clear c21b1); (try clear c21b2); (try clear c23); (try clear c24); (try clear c25); (try clear c25b0); (try clear c25b1); (try clear c31); (try clear c38); (try clear c38b0); (try clear c38b1); (try clear p38); (try clear q38); (try clear hx38); (try clear qi38); (try clear c39); (try clear c46); (try clear c46b0); (try clear c46b1); (try clear c47); (try clear c54); (try clear c54b0); (try clear c54b1); (try clear c54b2); (try clear c55); (try clear c59); (try clear c59b0); (try clear c59b1); (try clear c60); (try clear c60b0); (try clear c60b1); (try clear c60b2); (try clear c61); (try clear hx386_0); (try clear p2); (try clear p3); (try clear p38); (try clear p386); (try clear q3); (try clear q38); (try clear q386)
                                    obtain ⟨kq, x216_57, rfl, HA, HJ57, HO_5, HO_9, HB⟩ := hcut
                                    cases kq with
                                    | zero => exact absurd HA.out (by simp [laws_FnCouples.j5])
                                    | succ kj57 =>
                                      have H := HA.out
                                      clear HA
                                      simp only [laws_FnCouples.j5] at H
                                      by_cases c62 : x216_57 = true
                                      · as_aux_lemma =>
                                        subst c62
                                        have H1 : (some false) = some r := by rw [if_pos rfl] at H; exact H
                                        clear H
                                        have H := H1
                                        clear H1
                                        exact absurd ((Option.some.inj H).trans HRV.out) (by decide)
                                      · as_aux_lemma =>
                                        replace c62 := Bool.eq_false_iff.mpr c62
                                        subst c62
                                        have H1 : ((spec_DrawTurnParty.f kj57 l0).bind fun bt413 => ((impl_TurnParty.f kj57 bt413.1 bt413.2.1 bt413.2.2).bind fun bt418 => ((spec_TurnParty.f kj57 bt413.1 bt413.2.1 bt413.2.2).bind fun bt422 => (if (bt418.2 != bt422.2) = true then (laws_FnCouples.j6 kj57 t366 t367 t368 t369 t377 t378 t400 t401 t409 t410 bt413.1 bt413.2.1 bt418.1 bt418.2 true) else ((laws_rInts.f kj57 bt418.1 bt422.1).bind fun t426 => (laws_FnCouples.j6 kj57 t366 t367 t368 t369 t377 t378 t400 t401 t409 t410 bt413.1 bt413.2.1 bt418.1 bt418.2 (!t426))))))) = some r := by rw [if_neg (show ¬ (false = true) by decide)] at H; exact H
                                        clear H
                                        have H := H1
                                        clear H1
                                        replace H := Option.bind_eq_some_iff.mp H
                                        obtain ⟨⟨t413, t414, t415⟩, A630, H⟩ := H
                                        replace H : ((impl_TurnParty.f kj57 t413 t414 t415).bind fun bt418 => ((spec_TurnParty.f kj57 t413 t414 t415).bind fun bt422 => (if (bt418.2 != bt422.2) = true then (laws_FnCouples.j6 kj57 t366 t367 t368 t369 t377 t378 t400 t401 t409 t410 t413 t414 bt418.1 bt418.2 true) else ((laws_rInts.f kj57 bt418.1 bt422.1).bind fun t426 => (laws_FnCouples.j6 kj57 t366 t367 t368 t369 t377 t378 t400 t401 t409 t410 t413 t414 bt418.1 bt418.2 (!t426)))))) = some r := H
                                        have A63 := Aside0.mk A630
                                        clear A630
                                        replace H := Option.bind_eq_some_iff.mp H
                                        obtain ⟨⟨t418, t421⟩, A640, H⟩ := H
                                        replace H : ((spec_TurnParty.f kj57 t413 t414 t415).bind fun bt422 => (if (t421 != bt422.2) = true then (laws_FnCouples.j6 kj57 t366 t367 t368 t369 t377 t378 t400 t401 t409 t410 t413 t414 t418 t421 true) else ((laws_rInts.f kj57 t418 bt422.1).bind fun t426 => (laws_FnCouples.j6 kj57 t366 t367 t368 t369 t377 t378 t400 t401 t409 t410 t413 t414 t418 t421 (!t426))))) = some r := H
                                        have A64 := Aside0.mk A640
                                        clear A640
                                        replace H := Option.bind_eq_some_iff.mp H
                                        obtain ⟨⟨t422, t423⟩, A650, H⟩ := H
                                        replace H : (if (t421 != t423) = true then (laws_FnCouples.j6 kj57 t366 t367 t368 t369 t377 t378 t400 t401 t409 t410 t413 t414 t418 t421 true) else ((laws_rInts.f kj57 t418 t422).bind fun t426 => (laws_FnCouples.j6 kj57 t366 t367 t368 t369 t377 t378 t400 t401 t409 t410 t413 t414 t418 t421 (!t426)))) = some r := H
                                        have A65 := Aside0.mk A650
                                        clear A650
                                        have HC66 := Aside0.mk H
                                        clear H
                                        go_upto_region 34 with (first | ((with_reducible refine gate_callee (f := 22) rfl ?_); refine goesL_ (some 219) rfl rfl Try.func22 (by kernel_rfl) rfl #[.slice A0 l0.length c0] rfl (by (try simp only [List.map_toArray, List.map_cons, List.map_nil]); first | done | rfl | (simp only [List.length_drop, List.length_take]; rfl)) ?_; (with_reducible refine (spec_DrawTurnParty.calls kj57 _ _ l0 t413 t414 t415 _ ?side1 ?side2 A63.out).mono ?_); (case side1 => repeat (first | exact (Kd.C_below HR0.out HB.out) | (with_reducible refine Kd.C_alloc ?_ _) | (with_reducible refine Kd.C_drewN ?_ _) | (with_reducible refine Kd.C_drew ?_))); (case side2 => exact HC0.out); rintro e w67 ⟨v416, rfl, ho0, hb⟩; refine ⟨_, rfl, ?_⟩; have n0_ := Aside0.mk (Kd.R_elder' (by (with_reducible repeat (first | apply Kd.R_alloc | apply Kd.R_drewN | apply Kd.R_drew)); exact HO_5.out) (Kd.R_base ho0) hb); have n1_ := Aside0.mk (Kd.R_elder' (by (with_reducible repeat (first | apply Kd.R_alloc | apply Kd.R_drewN | apply Kd.R_drew)); exact HO_9.out) (Kd.R_base ho0) hb); have n2_ := Aside0.mk (Kd.R_lower (Kd.R_new' (Kd.R_new' ho0 (Kd.R_lt (by (with_reducible repeat (first | apply Kd.R_alloc | apply Kd.R_drewN | apply Kd.R_drew)); exact HO_5.out))) (Kd.R_lt (by (with_reducible repeat (first | apply Kd.R_alloc | apply Kd.R_drewN | apply Kd.R_drew)); exact HO_9.out))) (below_size (by repeat (first | (with_reducible first | exact HB.out | apply below_alloc | apply pw_below_drewN | apply below_drew1) | exact HB.out)))); have n3_ := Aside0.mk (below_step (by repeat (first | (with_reducible first | exact HB.out | apply below_alloc | apply pw_below_drewN | apply below_drew1) | exact HB.out)) hb); clear HO_5; clear HO_9; clear HB; have HO_5 := n0_; have HO_9 := n1_; have HO417 := n2_; have HB := n3_; clear n0_ n1_ n2_ n3_; (try clear hb); (try clear hb2); (try clear hk); (try clear hi); (try clear ho0); obtain ⟨Ao68, co68, eo68⟩ := Kd.R_slice HO417.out; subst eo68) | ((with_reducible refine gate_callee (f := 23) rfl ?_); refine goesL_ (some 227) rfl rfl Try.func23 (by kernel_rfl) rfl #[.int .i64 t413, .slice Ao68 t414.length co68, .int .i64 t415] rfl (by (try simp only [List.map_toArray, List.map_cons, List.map_nil]); first | done | rfl | (simp only [List.length_drop, List.length_take]; rfl)) ?_; (with_reducible refine (impl_TurnParty.calls kj57 t413 (fun k_ => some k_ = (.slice Ao68 t414.length co68 : Value).ownBlock) _ _ t414 t415 t418 t421 _ ?side1 A64.out).mono ?_); (case side1 => exact Kd.R_V (Kd.R_tight rfl (HO417.out))); rintro e w69 ⟨v419, rfl, ho0, hb⟩; refine ⟨_, rfl, ?_⟩; have n0_ := Aside0.mk (Kd.R_elder' (by (with_reducible repeat (first | apply Kd.R_alloc | apply Kd.R_drewN | apply Kd.R_drew)); exact HO_5.out) (Kd.R_base ho0) hb); have n1_ := Aside0.mk (Kd.R_elder' (by (with_reducible repeat (first | apply Kd.R_alloc | apply Kd.R_drewN | apply Kd.R_drew)); exact HO_9.out) (Kd.R_base ho0) hb); have n2_ := Aside0.mk (Kd.R_elder' (by (with_reducible repeat (first | apply Kd.R_alloc | apply Kd.R_drewN | apply Kd.R_drew)); exact HO417.out) (Kd.R_base ho0) hb); have n3_ := Aside0.mk (Kd.R_lower (Kd.R_new' (Kd.R_new' (Kd.R_new' (Kd.R_mono (ok' := fun k_ => True) ho0 (fun _ hk_ => trivial)) (Kd.R_lt (by (with_reducible repeat (first | apply Kd.R_alloc | apply Kd.R_drewN | apply Kd.R_drew)); exact HO_5.out))) (Kd.R_lt (by (with_reducible repeat (first | apply Kd.R_alloc | apply Kd.R_drewN | apply Kd.R_drew)); exact HO_9.out))) (Kd.R_lt (by (with_reducible repeat (first | apply Kd.R_alloc | apply Kd.R_drewN | apply Kd.R_drew)); exact HO417.out))) (below_size (by repeat (first | (with_reducible first | exact HB.out | apply below_alloc | apply pw_below_drewN | apply below_drew1) | exact HB.out)))); have n4_ := Aside0.mk (below_step (by repeat (first | (with_reducible first | exact HB.out | apply below_alloc | apply pw_below_drewN | apply below_drew1) | exact HB.out)) hb); clear HO_5; clear HO_9; clear HO417; clear HB; have HO_5 := n0_; have HO_9 := n1_; have HO417 := n2_; have HO420 := n3_; have HB := n4_; clear n0_ n1_ n2_ n3_ n4_; (try clear hb); (try clear hb2); (try clear hk); (try clear hi); (try clear ho0)) | ((with_reducible refine gate_callee (f := 24) rfl ?_); refine goesL_ (some 234) rfl rfl Try.func24 (by kernel_rfl) rfl #[.int .i64 t413, .slice Ao68 t414.length co68, .int .i64 t415] rfl (by (try simp only [List.map_toArray, List.map_cons, List.map_nil]); first | done | rfl | (simp only [List.length_drop, List.length_take]; rfl)) ?_; (with_reducible refine (spec_TurnParty.calls kj57 t413 _ _ t414 t415 t422 t423 _ ?side1 ?side2 A65.out).mono ?_); (case side1 => repeat (first | exact (Kd.R_reads' HO417.out).2.2 | (with_reducible refine Kd.C_alloc ?_ _) | (with_reducible refine Kd.C_drewN ?_ _) | (with_reducible refine Kd.C_drew ?_))); (case side2 => exact (Kd.R_reads' HO417.out).2.1); rintro e w70 ⟨v424, rfl, ho0, hb⟩; refine ⟨_, rfl, ?_⟩; have n0_ := Aside0.mk (Kd.R_elder' (by (with_reducible repeat (first | apply Kd.R_alloc | apply Kd.R_drewN | apply Kd.R_drew)); exact HO_5.out) (Kd.R_base ho0) hb); have n1_ := Aside0.mk (Kd.R_elder' (by (with_reducible repeat (first | apply Kd.R_alloc | apply Kd.R_drewN | apply Kd.R_drew)); exact HO_9.out) (Kd.R_base ho0) hb); have n2_ := Aside0.mk (Kd.R_elder' (by (with_reducible repeat (first | apply Kd.R_alloc | apply Kd.R_drewN | apply Kd.R_drew)); exact HO417.out) (Kd.R_base ho0) hb); have n3_ := Aside0.mk (Kd.R_elder' (by (with_reducible repeat (first | apply Kd.R_alloc | apply Kd.R_drewN | apply Kd.R_drew)); exact HO420.out) (Kd.R_base ho0) hb); have n4_ := Aside0.mk (Kd.R_lower (Kd.R_new' (Kd.R_new' (Kd.R_new' (Kd.R_new' ho0 (Kd.R_lt (by (with_reducible repeat (first | apply Kd.R_alloc | apply Kd.R_drewN | apply Kd.R_drew)); exact HO_5.out))) (Kd.R_lt (by (with_reducible repeat (first | apply Kd.R_alloc | apply Kd.R_drewN | apply Kd.R_drew)); exact HO_9.out))) (Kd.R_lt (by (with_reducible repeat (first | apply Kd.R_alloc | apply Kd.R_drewN | apply Kd.R_drew)); exact HO417.out))) (Kd.R_lt (by (with_reducible repeat (first | apply Kd.R_alloc | apply Kd.R_drewN | apply Kd.R_drew)); exact HO420.out))) (below_size (by repeat (first | (with_reducible first | exact HB.out | apply below_alloc | apply pw_below_drewN | apply below_drew1) | exact HB.out)))); have n5_ := Aside0.mk (below_step (by repeat (first | (with_reducible first | exact HB.out | apply below_alloc | apply pw_below_drewN | apply below_drew1) | exact HB.out)) hb); clear HO_5; clear HO_9; clear HO417; clear HO420; clear HB; have HO_5 := n0_; have HO_9 := n1_; have HO417 := n2_; have HO420 := n3_; have HO425 := n4_; have HB := n5_; clear n0_ n1_ n2_ n3_ n4_ n5_; (try clear hb); (try clear hb2); (try clear hk); (try clear hi); (try clear ho0)))
                                        (try simp only [Act.put, List.setIfInBounds_toArray, List.set_cons_zero, List.set_cons_succ])
                                        go_cut [245] (fun v245 wc => ∃ (kq : Nat) (x245_65 : Bool), v245 = .bool x245_65 ∧ Aside0 (laws_FnCouples.j6 kq t366 t367 t368 t369 t377 t378 t400 t401 t409 t410 t413 t414 t418 t421 x245_65 = some r) ∧ Aside0 (kq ≤ kj57) ∧ Aside0 (Kd.R (Kd.int .i64) 3 wc w.heap.size (fun k_ => some k_ ≠ (v379 : Value).ownBlock ∧ some k_ ≠ ((.slice Ao68 t414.length co68) : Value).ownBlock ∧ some k_ ≠ (v419 : Value).ownBlock) v370 t368) ∧ Aside0 (Kd.R (Kd.int .i64) 3 wc w.heap.size (fun k_ => some k_ ≠ (v370 : Value).ownBlock ∧ some k_ ≠ ((.slice Ao68 t414.length co68) : Value).ownBlock ∧ some k_ ≠ (v419 : Value).ownBlock) v379 t377) ∧ Aside0 (Kd.R (Kd.int .i64) 3 wc w.heap.size (fun k_ => some k_ ≠ (v370 : Value).ownBlock ∧ some k_ ≠ (v379 : Value).ownBlock ∧ some k_ ≠ (v419 : Value).ownBlock) (.slice Ao68 t414.length co68) t414) ∧ Aside0 (Kd.R (Kd.int .i64) 3 wc w.heap.size (fun k_ => some k_ ≠ (v370 : Value).ownBlock ∧ some k_ ≠ (v379 : Value).ownBlock ∧ some k_ ≠ ((.slice Ao68 t414.length co68) : Value).ownBlock) v419 t418) ∧ Aside0 (Below w.heap.size w wc))
                                        case first =>
                                          have H := HC66.out
                                          clear HC66
                                          by_cases c71 : (t421 != t423) = true
                                          · as_aux_lemma =>
                                            rw [if_pos c71] at H
                                            have c71b0 : (t421 != t423) = true := c71
                                            (try (have c71b1 : decide (t421 = t423) = false := by simpa using c71))
                                            (try (have c71b2 : (t421 == t423) = false := by simpa using c71))
                                            (try (have c71b3 : ¬ (t421 = t423) := by simpa using c71))
                                            clear c71
                                            (first | rw [c71b0] | (simp only [i64_w, i32_w]; rw [c71b0]) | rw [c71b1] | skip)
                                            exact absurd ((laws_FnCouples.j6_no _ _ _ _ _ _ _ _ _ _ _ _ _ _ _ _ H).trans HRV.out) (by decide)
                                          · as_aux_lemma =>
                                            rw [if_neg c71] at H
                                            have c71b0 : (t421 != t423) = false := by simpa using c71
                                            (try (have c71b1 : decide (t421 = t423) = true := by simpa using c71))
                                            (try (have c71b2 : (t421 == t423) = true := by simpa using c71))
                                            clear c71
                                            (first | rw [c71b0] | (simp only [i64_w, i32_w]; rw [c71b0]) | rw [c71b1] | skip)
                                            replace H := Option.bind_eq_some_iff.mp H
                                            obtain ⟨t426, A720, H⟩ := H
                                            replace H : (laws_FnCouples.j6 kj57 t366 t367 t368 t369 t377 t378 t400 t401 t409 t410 t413 t414 t418 t421 (!t426)) = some r := H
                                            have A72 := Aside0.mk A720
                                            clear A720
                                            have H' := Aside0.mk H
                                            clear H
                                            obtain ⟨Ao73, co73, eo73⟩ := Kd.R_slice HO420.out
                                            subst eo73
                                            obtain ⟨Ao74, co74, eo74⟩ := Kd.R_slice HO425.out
                                            subst eo74
                                            go_wp2_with (first | (go_at_call 8; (with_reducible refine (laws_rInts.calls kj57 _ _ t418 _ _ t422 t426 _ ?side1 ?side2 ?side3 ?side4 A72.out).mono ?_); (case side1 => repeat (first | exact (Kd.R_reads' HO420.out).2.2 | (with_reducible refine Kd.C_alloc ?_ _) | (with_reducible refine Kd.C_drewN ?_ _) | (with_reducible refine Kd.C_drew ?_))); (case side2 => exact (Kd.R_reads' HO420.out).2.1); (case side3 => repeat (first | exact (Kd.R_reads' HO425.out).2.2 | (with_reducible refine Kd.C_alloc ?_ _) | (with_reducible refine Kd.C_drewN ?_ _) | (with_reducible refine Kd.C_drew ?_))); (case side4 => exact (Kd.R_reads' HO425.out).2.1); rintro e w' ⟨rfl, ⟨nd, rfl⟩⟩))
                                            go_meet
                                            case rel => exact ⟨_, (!t426), (by first | rfl | (simp; done) | (simp [*]; done)), H', ⟨by have := HJ6.out; have := HJ17.out; have := HJ34.out; have := HJ42.out; have := HJ50.out; have := HJ57.out; first | omega | exact Nat.le_refl _⟩, ⟨by (with_reducible repeat (first | apply Kd.R_alloc | apply Kd.R_drewN | apply Kd.R_drew)); exact Kd.R_mono HO_5.out (fun _ hk => ⟨hk.1.1.1, ⟨hk.1.1.2, hk.1.2⟩⟩)⟩, ⟨by (with_reducible repeat (first | apply Kd.R_alloc | apply Kd.R_drewN | apply Kd.R_drew)); exact Kd.R_mono HO_9.out (fun _ hk => ⟨hk.1.1.1, ⟨hk.1.1.2, hk.1.2⟩⟩)⟩, ⟨by (with_reducible repeat (first | apply Kd.R_alloc | apply Kd.R_drewN | apply Kd.R_drew)); exact Kd.R_mono HO417.out (fun _ hk => ⟨hk.1.1.1.2, ⟨hk.1.1.2, hk.1.2⟩⟩)⟩, ⟨by (with_reducible repeat (first | apply Kd.R_alloc | apply Kd.R_drewN | apply Kd.R_drew)); exact Kd.R_mono HO420.out (fun _ hk => ⟨hk.1.1.1.2, ⟨hk.1.1.2, hk.1.2⟩⟩)⟩, ⟨by repeat (first | (with_reducible first | exact HB.out | apply below_alloc | apply pw_below_drewN | apply below_drew1) | exact HB.out)⟩⟩
                                        case rest =>
                                          clear HC66
                                          (try clear c1); (try clear c2); (try clear p2); (try clear c3); (try clear p3); (try clear q3); (try clear hx3); (try clear qi3); (try clear c4); (try clear c5); (try clear c6); (try clear c7); (try clear c9); (try clear c10); (try clear c11); (try clear c11b0); (try clear c11b1); (try clear c11b2); (try clear c12); (try clear c13); (try clear c14); (try clear c15); (try clear c16); (try clear c17); (try clear c18); (try clear c19); (try clear c20); (try clear c21); (try clear c21b0); (try clear c21b1); (try clear c21b2); (try clear c22); (try clear c23); (try clear c24); (try clear c25); (try clear c25b0); (try clear c25b1); (try clear c31); (try clear c38); (try clear c38b0); (try clear c38b1); (try clear p38); (try clear q38); (try clear hx38); (try clear qi38); (try clear c39); (try clear c46); (try clear c46b0); (try clear c46b1); (try clear c47); (try clear c54); (try clear c54b0); (try clear c54b1); (try clear c54b2); (try clear c55); (try clear c59); (try clear c59b0); (try clear c59b1); (try clear c60); (try clear c60b0); (try clear c60b1); (try clear c60b2); (try clear c61); (try clear c62); (try clear c71); (try clear c71b0); (try clear c71b1); (try clear c71b2); (try clear hx386_0); (try clear p2); (try clear p3); (try clear p38); (try clear p386); (try clear q3); (try clear q38); (try clear q386)
                                          obtain ⟨kq, x245_65, rfl, HA, HJ65, HO_5, HO_9, HO_36, HO_38, HB⟩ := hcut
                                          cases kq with
                                          | zero => exact absurd HA.out (by simp [laws_FnCouples.j6])
                                          | succ kj65 =>
                                            have H := HA.out
                                            clear HA
                                            simp only [laws_FnCouples.j6] at H
                                            by_cases c75 : x245_65 = true
                                            · as_aux_lemma =>
                                              subst c75
                                              have H1 : (some false) = some r := by rw [if_pos rfl] at H; exact H
                                              clear H
                                              have H := H1
                                              clear H1
                                              exact absurd ((Option.some.inj H).trans HRV.out) (by decide)
                                            · as_aux_lemma =>
                                              replace c75 := Bool.eq_false_iff.mpr c75
                                              subst c75
                                              have H1 : (if t421 = true then ((impl_CouplesTogether.f kj65 t413 true t414).bind fun bt427 => ((impl_CouplesTogether.f kj65 t413 true t418).bind fun bt429 => (if bt427.2 = true then (if bt429.2 = true then (if bt427.1 = bt429.1 then (laws_FnCouples.j7 kj65 t366 t367 t368 t369 t377 t378 t400 t401 t409 t410) else (some false)) else (some false)) else (some false)))) else (laws_FnCouples.j7 kj65 t366 t367 t368 t369 t377 t378 t400 t401 t409 t410)) = some r := by rw [if_neg (show ¬ (false = true) by decide)] at H; exact H
                                              clear H
                                              have H := H1
                                              clear H1
                                              have HC76 := Aside0.mk H
                                              clear H
                                              go_upto_if 246 with (fail)
                                              go_cut [] (fun wc => ∃ (kq : Nat), Aside0 (laws_FnCouples.j7 kq t366 t367 t368 t369 t377 t378 t400 t401 t409 t410 = some r) ∧ Aside0 (kq ≤ kj65) ∧ Aside0 (Kd.R (Kd.int .i64) 3 wc w.heap.size (fun k_ => some k_ ≠ (v379 : Value).ownBlock) v370 t368) ∧ Aside0 (Kd.R (Kd.int .i64) 3 wc w.heap.size (fun k_ => some k_ ≠ (v370 : Value).ownBlock) v379 t377) ∧ Aside0 (Below w.heap.size w wc))
                                              case first =>
                                                have H := HC76.out
                                                clear HC76
                                                by_cases c77 : t421 = true
                                                · as_aux_lemma =>
                                                  subst c77
                                                  have H1 : ((impl_CouplesTogether.f kj65 t413 true t414).bind fun bt427 => ((impl_CouplesTogether.f kj65 t413 true t418).bind fun bt429 => (if bt427.2 = true then (if bt429.2 = true then (if bt427.1 = bt429.1 then (laws_FnCouples.j7 kj65 t366 t367 t368 t369 t377 t378 t400 t401 t409 t410) else (some false)) else (some false)) else (some false)))) = some r := by rw [if_pos rfl] at H; exact H
                                                  clear H
                                                  have H := H1
                                                  clear H1
                                                  replace H := Option.bind_eq_some_iff.mp H
                                                  obtain ⟨⟨t427, t428⟩, A780, H⟩ := H
                                                  replace H : ((impl_CouplesTogether.f kj65 t413 true t418).bind fun bt429 => (if t428 = true then (if bt429.2 = true then (if t427 = bt429.1 then (laws_FnCouples.j7 kj65 t366 t367 t368 t369 t377 t378 t400 t401 t409 t410) else (some false)) else (some false)) else (some false))) = some r := H
                                                  have A78 := Aside0.mk A780
                                                  clear A780
                                                  replace H := Option.bind_eq_some_iff.mp H
                                                  obtain ⟨⟨t429, t430⟩, A790, H⟩ := H
                                                  replace H : (if t428 = true then (if t430 = true then (if t427 = t429 then (laws_FnCouples.j7 kj65 t366 t367 t368 t369 t377 t378 t400 t401 t409 t410) else (some false)) else (some false)) else (some false)) = some r := H
                                                  have A79 := Aside0.mk A790
                                                  clear A790
                                                  by_cases c80 : t428 = true
                                                  · as_aux_lemma =>
                                                    subst c80
                                                    have H1 : (if t430 = true then (if t427 = t429 then (laws_FnCouples.j7 kj65 t366 t367 t368 t369 t377 t378 t400 t401 t409 t410) else (some false)) else (some false)) = some r := by rw [if_pos rfl] at H; exact H
                                                    clear H
                                                    have H := H1
                                                    clear H1
                                                    by_cases c81 : t430 = true
                                                    · as_aux_lemma =>
                                                      subst c81
                                                      have H1 : (if t427 = t429 then (laws_FnCouples.j7 kj65 t366 t367 t368 t369 t377 t378 t400 t401 t409 t410) else (some false)) = some r := by rw [if_pos rfl] at H; exact H
                                                      clear H
                                                      have H := H1
                                                      clear H1
                                                      by_cases c82 : t427 = t429
                                                      · as_aux_lemma =>
                                                        rw [if_pos c82] at H
                                                        have c82b0 : (t427 == t429) = true := beq_iff_eq.mpr c82
                                                        have c82b1 : (t427 != t429) = false := bne_eq_false_iff_eq.mpr c82
                                                        clear c82
                                                        (first | rw [c82b0] | (simp only [i64_w, i32_w]; rw [c82b0]) | rw [c82b1] | skip)
                                                        have H' := Aside0.mk H
                                                        clear H
                                                        go_wp2_with (first | ((with_reducible refine gate_callee (f := 20) rfl ?_); refine goesL_ (some 250) rfl rfl Try.func20 (by kernel_rfl) rfl #[.int .i64 t413, .bool true, .slice Ao68 t414.length co68] rfl (by (try simp only [List.map_toArray, List.map_cons, List.map_nil]); first | done | rfl | (simp only [List.length_drop, List.length_take]; rfl)) ?_; (with_reducible refine (impl_CouplesTogether.calls kj65 t413 true _ _ t414 t427 true _ ?side1 ?side2 A78.out).mono ?_); (case side1 => repeat (first | exact (Kd.R_reads' HO_36.out).2.2 | (with_reducible refine Kd.C_alloc ?_ _) | (with_reducible refine Kd.C_drewN ?_ _) | (with_reducible refine Kd.C_drew ?_))); (case side2 => exact (Kd.R_reads' HO_36.out).2.1); rintro e w' ⟨rfl, ⟨nd, rfl⟩⟩; refine ⟨_, rfl, ?_⟩; obtain ⟨Ao83, co83, eo83⟩ := Kd.R_slice HO_38.out; subst eo83) | ((with_reducible refine gate_callee (f := 20) rfl ?_); refine goesL_ (some 256) rfl rfl Try.func20 (by kernel_rfl) rfl #[.int .i64 t413, .bool true, .slice Ao83 t418.length co83] rfl (by (try simp only [List.map_toArray, List.map_cons, List.map_nil]); first | done | rfl | (simp only [List.length_drop, List.length_take]; rfl)) ?_; (with_reducible refine (impl_CouplesTogether.calls kj65 t413 true _ _ t418 t429 true _ ?side1 ?side2 A79.out).mono ?_); (case side1 => repeat (first | exact (Kd.R_reads' HO_38.out).2.2 | (with_reducible refine Kd.C_alloc ?_ _) | (with_reducible refine Kd.C_drewN ?_ _) | (with_reducible refine Kd.C_drew ?_))); (case side2 => exact (Kd.R_reads' HO_38.out).2.1); rintro e w' ⟨rfl, ⟨nd, rfl⟩⟩; refine ⟨_, rfl, ?_⟩))
                                                        go_meet
                                                        case rel => exact ⟨_, H', ⟨by have := HJ6.out; have := HJ17.out; have := HJ34.out; have := HJ42.out; have := HJ50.out; have := HJ57.out; have := HJ65.out; first | omega | exact Nat.le_refl _⟩, ⟨by (with_reducible repeat (first | apply Kd.R_alloc | apply Kd.R_drewN | apply Kd.R_drew)); exact Kd.R_mono HO_5.out (fun _ hk => hk.1)⟩, ⟨by (with_reducible repeat (first | apply Kd.R_alloc | apply Kd.R_drewN | apply Kd.R_drew)); exact Kd.R_mono HO_9.out (fun _ hk => hk.1)⟩, ⟨by repeat (first | (with_reducible first | exact HB.out | apply below_alloc | apply pw_below_drewN | apply below_drew1) | exact HB.out)⟩⟩
                                                      · as_aux_lemma =>
                                                        rw [if_neg c82] at H
                                                        have c82b0 : (t427 == t429) = false := beq_eq_false_iff_ne.mpr c82
                                                        have c82b1 : (t427 != t429) = true := bne_iff_ne.mpr c82
                                                        (first | rw [c82b0] | (simp only [i64_w, i32_w]; rw [c82b0]) | rw [c82b1] | skip)
                                                        exact absurd ((Option.some.inj H).trans HRV.out) (by decide)
                                                    · as_aux_lemma =>
                                                      replace c81 := Bool.eq_false_iff.mpr c81
                                                      subst c81
                                                      have H1 : (some false) = some r := by rw [if_neg (show ¬ (false = true) by decide)] at H; exact H
                                                      clear H
                                                      have H := H1
                                                      clear H1
                                                      exact absurd ((Option.some.inj H).trans HRV.out) (by decide)
                                                  · as_aux_lemma =>
                                                    replace c80 := Bool.eq_false_iff.mpr c80
                                                    subst c80
                                                    have H1 : (some false) = some r := by rw [if_neg (show ¬ (false = true) by decide)] at H; exact H
                                                    clear H
                                                    have H := H1
                                                    clear H1
                                                    exact absurd ((Option.some.inj H).trans HRV.out) (by decide)
                                                · as_aux_lemma =>
                                                  replace c77 := Bool.eq_false_iff.mpr c77
                                                  subst c77
                                                  have H1 : (laws_FnCouples.j7 kj65 t366 t367 t368 t369 t377 t378 t400 t401 t409 t410) = some r := by rw [if_neg (show ¬ (false = true) by decide)] at H; exact H
                                                  clear H
                                                  have H := H1
                                                  clear H1
                                                  have H' := Aside0.mk H
                                                  clear H
                                                  go_wp2
                                                  go_meet
                                                  case rel => exact ⟨_, H', ⟨by have := HJ6.out; have := HJ17.out; have := HJ34.out; have := HJ42.out; have := HJ50.out; have := HJ57.out; have := HJ65.out; first | omega | exact Nat.le_refl _⟩, ⟨by (with_reducible repeat (first | apply Kd.R_alloc | apply Kd.R_drewN | apply Kd.R_drew)); exact Kd.R_mono HO_5.out (fun _ hk => hk.1)⟩, ⟨by (with_reducible repeat (first | apply Kd.R_alloc | apply Kd.R_drewN | apply Kd.R_drew)); exact Kd.R_mono HO_9.out (fun _ hk => hk.1)⟩, ⟨by repeat (first | (with_reducible first | exact HB.out | apply below_alloc | apply pw_below_drewN | apply below_drew1) | exact HB.out)⟩⟩
                                              case rest =>
                                                clear HC76
                                                (try clear c1); (try clear c2); (try clear p2); (try clear c3); (try clear p3); (try clear q3); (try clear hx3); (try clear qi3); (try clear c4); (try clear c5); (try clear c6); (try clear c7); (try clear c8); (try clear c9); (try clear c10); (try clear c11); (try clear c11b0); (try clear c11b1); (try clear c11b2); (try clear c12); (try clear c13); (try clear c14); (try clear c15); (try clear c16); (try clear c17); (try clear c18); (try clear c19); (try clear c20); (try clear c21); (try clear c21b0); (try clear c21b1); (try clear c21b2); (try clear c22); (try clear c23); (try clear c24); (try clear c25); (try clear c25b0); (try clear c25b1); (try clear c31); (try clear c38); (try clear c38b0); (try clear c38b1); (try clear p38); (try clear q38); (try clear hx38); (try clear qi38); (try clear c39); (try clear c46); (try clear c46b0); (try clear c46b1); (try clear c47); (try clear c54); (try clear c54b0); (try clear c54b1); (try clear c54b2); (try clear c55); (try clear c59); (try clear c59b0); (try clear c59b1); (try clear c60); (try clear c60b0); (try clear c60b1); (try clear c60b2); (try clear c61); (try clear c62); (try clear c71); (try clear c71b0); (try clear c71b1); (try clear c71b2); (try clear c75); (try clear c77); (try clear c80); (try clear c81); (try clear c82); (try clear c82b0); (try clear c82b1); (try clear hx386_0); (try clear p2); (try clear p3); (try clear p38); (try clear p386); (try clear q3); (try clear q38); (try clear q386)
                                                obtain ⟨kq, HA, HJ75, HO_5, HO_9, HB⟩ := hcut
                                                cases kq with
                                                | zero => exact absurd HA.out (by simp [laws_FnCouples.j7])
                                                | succ kj75 =>
                                                  have H := HA.out
                                                  clear HA
                                                  simp only [laws_FnCouples.j7] at H
                                                  have HC84 := Aside0.mk H
                                                  clear H
                                                  go_upto_if 270 with (fail)
                                                  go_cut [] (fun wc => ∃ (kq : Nat), Aside0 (laws_FnCouples.j8 kq t366 t367 t368 t369 t377 t378 = some r) ∧ Aside0 (kq ≤ kj75) ∧ Aside0 (Kd.R (Kd.int .i64) 3 wc w.heap.size (fun k_ => some k_ ≠ (v379 : Value).ownBlock) v370 t368) ∧ Aside0 (Kd.R (Kd.int .i64) 3 wc w.heap.size (fun k_ => some k_ ≠ (v370 : Value).ownBlock) v379 t377) ∧ Aside0 (Below w.heap.size w wc))
                                                  case first =>
                                                    have H := HC84.out
                                                    clear HC84
                                                    by_cases c85 : t410 = true
                                                    · as_aux_lemma =>
                                                      subst c85
                                                      have H1 : ((impl_CoupleCounts.f kj75 t400 t401).bind fun bt431 => (if bt431.2 = true then (if (bt431.1.length : Int) = (wrap64 (t400 + 1)) then (if 0 ≤ t409 then (if t409 < (bt431.1.length : Int) then (if (rd bt431.1 t409) < 1 then (some false) else (laws_FnCouples.j8 kj75 t366 t367 t368 t369 t377 t378)) else (none)) else (none)) else (some false)) else (some false))) = some r := by rw [if_pos rfl] at H; exact H
                                                      clear H
                                                      have H := H1
                                                      clear H1
                                                      replace H := Option.bind_eq_some_iff.mp H
                                                      obtain ⟨⟨t431, t432⟩, A860, H⟩ := H
                                                      replace H : (if t432 = true then (if (t431.length : Int) = (wrap64 (t400 + 1)) then (if 0 ≤ t409 then (if t409 < (t431.length : Int) then (if (rd t431 t409) < 1 then (some false) else (laws_FnCouples.j8 kj75 t366 t367 t368 t369 t377 t378)) else (none)) else (none)) else (some false)) else (some false)) = some r := H
                                                      have A86 := Aside0.mk A860
                                                      clear A860
                                                      by_cases c87 : t432 = true
                                                      · as_aux_lemma =>
                                                        subst c87
                                                        have H1 : (if (t431.length : Int) = (wrap64 (t400 + 1)) then (if 0 ≤ t409 then (if t409 < (t431.length : Int) then (if (rd t431 t409) < 1 then (some false) else (laws_FnCouples.j8 kj75 t366 t367 t368 t369 t377 t378)) else (none)) else (none)) else (some false)) = some r := by rw [if_pos rfl] at H; exact H
                                                        clear H
                                                        have H := H1
                                                        clear H1
                                                        by_cases c88 : (t431.length : Int) = (wrap64 (t400 + 1))
                                                        · as_aux_lemma =>
                                                          rw [if_pos c88] at H
                                                          have c88b0 : ((t431.length : Int) == (wrap64 (t400 + 1))) = true := beq_iff_eq.mpr c88
                                                          have c88b1 : ((t431.length : Int) != (wrap64 (t400 + 1))) = false := bne_eq_false_iff_eq.mpr c88
                                                          clear c88
                                                          (first | rw [c88b0] | (simp only [i64_w, i32_w]; rw [c88b0]) | rw [c88b1] | skip)
                                                          by_cases c89 : 0 ≤ t409
                                                          · as_aux_lemma =>
                                                            rw [if_pos c89] at H
                                                            have c89b0 : decide (0 ≤ t409) = true := decide_eq_true c89
                                                            clear c89
                                                            by_cases c90 : t409 < (t431.length : Int)
                                                            · as_aux_lemma =>
                                                              rw [if_pos c90] at H
                                                              have c90b0 : decide (t409 < (t431.length : Int)) = true := decide_eq_true c90
                                                              clear c90
                                                              by_cases c91 : (rd t431 t409) < 1
                                                              · as_aux_lemma =>
                                                                rw [if_pos c91] at H
                                                                have c91b0 : decide ((rd t431 t409) < 1) = true := decide_eq_true c91
                                                                clear c91
                                                                exact absurd ((Option.some.inj H).trans HRV.out) (by decide)
                                                              · as_aux_lemma =>
                                                                rw [if_neg c91] at H
                                                                have c91b0 : decide ((rd t431 t409) < 1) = false := decide_eq_false c91
                                                                clear c91
                                                                have H' := Aside0.mk H
                                                                clear H
                                                                go_wp2_with (first | ((with_reducible refine gate_callee (f := 6) rfl ?_); refine goesL_ (some 274) rfl rfl Try.func6 (by kernel_rfl) rfl #[.int .i64 t400, .bool t401] rfl (by (try simp only [List.map_toArray, List.map_cons, List.map_nil]); first | done | rfl | (simp only [List.length_drop, List.length_take]; rfl)) ?_; (with_reducible refine (impl_CoupleCounts.calls kj75 t400 t401 t431 true _ A86.out).mono ?_); rintro e w92 ⟨v433, rfl, ho0, hb⟩; refine ⟨_, rfl, ?_⟩; have n0_ := Aside0.mk (Kd.R_elder' (by (with_reducible repeat (first | apply Kd.R_alloc | apply Kd.R_drewN | apply Kd.R_drew)); exact HO_5.out) (Kd.R_base ho0) hb); have n1_ := Aside0.mk (Kd.R_elder' (by (with_reducible repeat (first | apply Kd.R_alloc | apply Kd.R_drewN | apply Kd.R_drew)); exact HO_9.out) (Kd.R_base ho0) hb); have n2_ := Aside0.mk (Kd.R_lower (Kd.R_new' (Kd.R_new' ho0 (Kd.R_lt (by (with_reducible repeat (first | apply Kd.R_alloc | apply Kd.R_drewN | apply Kd.R_drew)); exact HO_5.out))) (Kd.R_lt (by (with_reducible repeat (first | apply Kd.R_alloc | apply Kd.R_drewN | apply Kd.R_drew)); exact HO_9.out))) (below_size (by repeat (first | (with_reducible first | exact HB.out | apply below_alloc | apply pw_below_drewN | apply below_drew1) | exact HB.out)))); have n3_ := Aside0.mk (below_step (by repeat (first | (with_reducible first | exact HB.out | apply below_alloc | apply pw_below_drewN | apply below_drew1) | exact HB.out)) hb); clear HO_5; clear HO_9; clear HB; have HO_5 := n0_; have HO_9 := n1_; have HO434 := n2_; have HB := n3_; clear n0_ n1_ n2_ n3_; (try clear hb); (try clear hb2); (try clear hk); (try clear hi); (try clear ho0); obtain ⟨Ao93, co93, eo93⟩ := Kd.R_slice HO434.out; subst eo93; have p435 : 0 ≤ (t409 : Int) := of_decide_eq_true (by first | (with_reducible assumption) | assumption); have q435 : t409 < (t431.length : Int) := of_decide_eq_true (by first | (with_reducible assumption) | assumption); obtain ⟨ad435, e435, hx435_0⟩ := Kd.at_int (Kd.R_reads' HO434.out).2.2 t409 p435 q435; cases e435; replace p435 := eq_true p435; replace q435 := eq_true q435))
                                                                go_meet
                                                                case rel => exact ⟨_, H', ⟨by have := HJ6.out; have := HJ17.out; have := HJ34.out; have := HJ42.out; have := HJ50.out; have := HJ57.out; have := HJ65.out; have := HJ75.out; first | omega | exact Nat.le_refl _⟩, ⟨by (with_reducible repeat (first | apply Kd.R_alloc | apply Kd.R_drewN | apply Kd.R_drew)); exact Kd.R_mono HO_5.out (fun _ hk => hk.1)⟩, ⟨by (with_reducible repeat (first | apply Kd.R_alloc | apply Kd.R_drewN | apply Kd.R_drew)); exact Kd.R_mono HO_9.out (fun _ hk => hk.1)⟩, ⟨by repeat (first | (with_reducible first | exact HB.out | apply below_alloc | apply pw_below_drewN | apply below_drew1) | exact HB.out)⟩⟩
                                                            · as_aux_lemma =>
                                                              rw [if_neg c90] at H
                                                              exact absurd H (by simp)
                                                          · as_aux_lemma =>
                                                            rw [if_neg c89] at H
                                                            exact absurd H (by simp)
                                                        · as_aux_lemma =>
                                                          rw [if_neg c88] at H
                                                          have c88b0 : ((t431.length : Int) == (wrap64 (t400 + 1))) = false := beq_eq_false_iff_ne.mpr c88
                                                          have c88b1 : ((t431.length : Int) != (wrap64 (t400 + 1))) = true := bne_iff_ne.mpr c88
                                                          (first | rw [c88b0] | (simp only [i64_w, i32_w]; rw [c88b0]) | rw [c88b1] | skip)
                                                          exact absurd ((Option.some.inj H).trans HRV.out) (by decide)
                                                      · as_aux_lemma =>
                                                        replace c87 := Bool.eq_false_iff.mpr c87
                                                        subst c87
                                                        have H1 : (some false) = some r := by rw [if_neg (show ¬ (false = true) by decide)] at H; exact H
                                                        clear H
                                                        have H := H1
                                                        clear H1
                                                        exact absurd ((Option.some.inj H).trans HRV.out) (by decide)
                                                    · as_aux_lemma =>
                                                      replace c85 := Bool.eq_false_iff.mpr c85
                                                      subst c85
                                                      have H1 : (laws_FnCouples.j8 kj75 t366 t367 t368 t369 t377 t378) = some r := by rw [if_neg (show ¬ (false = true) by decide)] at H; exact H
                                                      clear H
                                                      have H := H1
                                                      clear H1
                                                      have H' := Aside0.mk H
                                                      clear H
                                                      go_wp2
                                                      go_meet
                                                      case rel => exact ⟨_, H', ⟨by have := HJ6.out; have := HJ17.out; have := HJ34.out; have := HJ42.out; have := HJ50.out; have := HJ57.out; have := HJ65.out; have := HJ75.out; first | omega | exact Nat.le_refl _⟩, ⟨by (with_reducible repeat (first | apply Kd.R_alloc | apply Kd.R_drewN | apply Kd.R_drew)); exact HO_5.out⟩, ⟨by (with_reducible repeat (first | apply Kd.R_alloc | apply Kd.R_drewN | apply Kd.R_drew)); exact HO_9.out⟩, ⟨by repeat (first | (with_reducible first | exact HB.out | apply below_alloc | apply pw_below_drewN | apply below_drew1) | exact HB.out)⟩⟩
                                                  case rest =>
                                                    clear HC84
                                                    (try clear c1); (try clear c2); (try clear p2); (try clear c3); (try clear p3); (try clear q3); (try clear hx3); (try clear qi3); (try clear c4); (try clear p4); (try clear q4); (try clear hx4); (try clear c5); (try clear c6); (try clear p6); (try clear c7); (try clear c8); (try clear c9); (try clear c10); (try clear c11); (try clear c11b0); (try clear c11b1); (try clear c11b2); (try clear c12); (try clear c13); (try clear c14); (try clear c15); (try clear c16); (try clear c17); (try clear c18); (try clear c19); (try clear c20); (try clear c21); (try clear c21b0); (try clear c21b1); (try clear c21b2); (try clear c22); (try clear c23); (try clear c24); (try clear c25); (try clear c25b0); (try clear c25b1); (try clear c31); (try clear c38); (try clear c38b0); (try clear c38b1); (try clear p38); (try clear q38); (try clear hx38); (try clear qi38); (try clear c39); (try clear p43); (try clear q43); (try clear hx43); (try clear c46); (try clear c46b0); (try clear c46b1); (try clear c47); (try clear c54); (try clear c54b0); (try clear c54b1); (try clear c54b2); (try clear c55); (try clear c59); (try clear c59b0); (try clear c59b1); (try clear c60); (try clear c60b0); (try clear c60b1); (try clear c60b2); (try clear c61); (try clear c62); (try clear p64); (try clear c71); (try clear c71b0); (try clear c71b1); (try clear c71b2); (try clear c75); (try clear c77); (try clear c80); (try clear c81); (try clear c82); (try clear c82b0); (try clear c82b1); (try clear c85); (try clear c87); (try clear c88); (try clear c88b0); (try clear c88b1); (try clear c89); (try clear c89b0); (try clear c90); (try clear c90b0); (try clear c91); (try clear c91b0); (try clear hx386_0); (try clear hx435_0); (try clear p2); (try clear p3); (try clear p38); (try clear p386); (try clear p435); (try clear q3); (try clear q38); (try clear q386); (try clear q435)
                                                    obtain ⟨kq, HA, HJ83, HO_5, HO_9, HB⟩ := hcut
                                                    cases kq with
                                                    | zero => exact absurd HA.out (by simp [laws_FnCouples.j8])
                                                    | succ kj83 =>
                                                      have H := HA.out
                                                      clear HA
                                                      simp only [laws_FnCouples.j8] at H
                                                      by_cases c94 : t369 = true
                                                      · as_aux_lemma =>
                                                        subst c94
                                                        have H1 : (laws_FnCouples.l0 kj83 t366 t367 t368 t377 t378 1 2) = some r := by rw [if_pos rfl] at H; exact H
                                                        clear H
                                                        have H := H1
                                                        clear H1
                                                        have H' := Aside0.mk H
                                                        clear H
                                                        go_wp2
                                                        go_loopg [48, 49] kj83 (fun kq v48 v49 w' => ∃ (x48_10 : Int) (x49_10 : Int), v48 = .int .i64 x48_10 ∧ v49 = .int .i64 x49_10 ∧ Aside0 (laws_FnCouples.l0 kq t366 t367 t368 t377 t378 x48_10 x49_10 = some r) ∧ Aside0 (kq ≤ kj83) ∧ Aside0 (Kd.R (Kd.int .i64) 3 w' w.heap.size (fun k_ => some k_ ≠ (v379 : Value).ownBlock) v370 t368) ∧ Aside0 (Kd.R (Kd.int .i64) 3 w' w.heap.size (fun k_ => some k_ ≠ (v370 : Value).ownBlock) v379 t377) ∧ Aside0 (Below w.heap.size w w'))
                                                        case atStart => exact ⟨(1), (2), (by first | rfl | (simp; done) | (simp [*]; done)), (by first | rfl | (simp; done) | (simp [*]; done)), H', ⟨Nat.le_refl _⟩, ⟨by (with_reducible repeat (first | apply Kd.R_alloc | apply Kd.R_drewN | apply Kd.R_drew)); exact HO_5.out⟩, ⟨by (with_reducible repeat (first | apply Kd.R_alloc | apply Kd.R_drewN | apply Kd.R_drew)); exact HO_9.out⟩, ⟨by repeat (first | (with_reducible first | exact HB.out | apply below_alloc | apply pw_below_drewN | apply below_drew1) | exact HB.out)⟩⟩
                                                        case round =>
                                                          clear H'
                                                          (try clear c1); (try clear c2); (try clear p2); (try clear c3); (try clear p3); (try clear q3); (try clear hx3); (try clear qi3); (try clear c4); (try clear p4); (try clear q4); (try clear hx4); (try clear c5); (try clear c6); (try clear p6); (try clear c7); (try clear c8); (try clear c9); (try clear c10); (try clear c11); (try clear c11b0); (try clear c11b1); (try clear c11b2); (try clear c12); (try clear c13); (try clear c14); (try clear c15); (try clear c16); (try clear c17); (try clear c18); (try clear c19); (try clear c20); (try clear c21); (try clear c21b0); (try clear c21b1); (try clear c21b2); (try clear c22); (try clear c23); (try clear c24); (try clear c25); (try clear c25b0); (try clear c25b1); (try clear c31); (try clear c38); (try clear c38b0); (try clear c38b1); (try clear p38); (try clear q38); (try clear hx38); (try clear qi38); (try clear c39); (try clear p43); (try clear q43); (try clear hx43); (try clear c46); (try clear c46b0); (try clear c46b1); (try clear c47); (try clear c54); (try clear c54b0); (try clear c54b1); (try clear c54b2); (try clear c55); (try clear c59); (try clear c59b0); (try clear c59b1); (try clear c60); (try clear c60b0); (try clear c60b1); (try clear c60b2); (try clear c61); (try clear c62); (try clear p64); (try clear c71); (try clear c71b0); (try clear c71b1); (try clear c71b2); (try clear c75); (try clear c77); (try clear c80); (try clear c81); (try clear c82); (try clear c82b0); (try clear c82b1); (try clear c85); (try clear c87); (try clear c88); (try clear c88b0); (try clear c88b1); (try clear c89); (try clear c89b0); (try clear c90); (try clear c90b0); (try clear c91); (try clear c91b0); (try clear c94); (try clear hx386_0); (try clear hx435_0); (try clear p2); (try clear p3); (try clear p38); (try clear p386); (try clear p4); (try clear p43); (try clear p435); (try clear p6); (try clear p64); (try clear q3); (try clear q38); (try clear q386); (try clear q4); (try clear q43); (try clear q435)
                                                          obtain ⟨x48_10, x49_10, rfl, rfl, HA, HK10, HO_5, HO_9, HB⟩ := hrel
                                                          cases gk with
                                                          | zero => exact absurd HA.out (by simp [laws_FnCouples.l0])
                                                          | succ k10 =>
                                                            have H := HA.out
                                                            clear HA
                                                            simp only [laws_FnCouples.l0] at H
                                                            by_cases c95 : x49_10 ≤ (wrap64 (2 * t366))
                                                            · as_aux_lemma =>
                                                              rw [if_pos c95] at H
                                                              have c95b0 : decide (x49_10 ≤ (wrap64 (2 * t366))) = true := decide_eq_true c95
                                                              clear c95
                                                              have H' := Aside0.mk H
                                                              clear H
                                                              go_wp2
                                                              go_roundg k10
                                                              case measure => have := HJ6.out; have := HJ17.out; have := HJ34.out; have := HJ42.out; have := HJ50.out; have := HJ57.out; have := HJ65.out; have := HJ75.out; have := HJ83.out; have := HK10.out; omega
                                                              case rel => exact ⟨(wrap64 (x48_10 * x49_10)), (wrap64 (x49_10 + 1)), (by first | rfl | (simp; done) | (simp [*]; done)), (by first | rfl | (simp; done) | (simp [*]; done)), H', ⟨by have := HJ6.out; have := HJ17.out; have := HJ34.out; have := HJ42.out; have := HJ50.out; have := HJ57.out; have := HJ65.out; have := HJ75.out; have := HJ83.out; have := HK10.out; omega⟩, ⟨by (with_reducible repeat (first | apply Kd.R_alloc | apply Kd.R_drewN | apply Kd.R_drew)); exact HO_5.out⟩, ⟨by (with_reducible repeat (first | apply Kd.R_alloc | apply Kd.R_drewN | apply Kd.R_drew)); exact HO_9.out⟩, ⟨by repeat (first | (with_reducible first | exact HB.out | apply below_alloc | apply pw_below_drewN | apply below_drew1) | exact HB.out)⟩⟩
                                                            · as_aux_lemma =>
                                                              rw [if_neg c95] at H
                                                              have c95b0 : decide (x49_10 ≤ (wrap64 (2 * t366))) = false := decide_eq_false c95
                                                              clear c95
                                                              have HC96 := Aside0.mk H
                                                              clear H
                                                              go_upto_region 52 with (fail)
                                                              go_cut [314] (fun v314 wc => ∃ (kq : Nat) (x314_95 : Bool), v314 = .bool x314_95 ∧ Aside0 (laws_FnCouples.j10 kq t366 t367 t368 t377 t378 x314_95 = some r) ∧ Aside0 (kq ≤ k10) ∧ Aside0 (Kd.R (Kd.int .i64) 3 wc w.heap.size (fun k_ => some k_ ≠ (v379 : Value).ownBlock) v370 t368) ∧ Aside0 (Kd.R (Kd.int .i64) 3 wc w.heap.size (fun k_ => some k_ ≠ (v370 : Value).ownBlock) v379 t377) ∧ Aside0 (Below w.heap.size w wc))
                                                              case first =>
                                                                have H := HC96.out
                                                                clear HC96
                                                                replace H := Option.bind_eq_some_iff.mp H
                                                                obtain ⟨t436, A970, H⟩ := H
                                                                replace H : (if t436 = x48_10 then (laws_FnCouples.j10 k10 t366 t367 t368 t377 t378 ((t368.length : Int) != (wrap64 (t366 + 1)))) else (laws_FnCouples.j10 k10 t366 t367 t368 t377 t378 true)) = some r := H
                                                                have A97 := Aside0.mk A970
                                                                clear A970
                                                                by_cases c98 : t436 = x48_10
                                                                · as_aux_lemma =>
                                                                  rw [if_pos c98] at H
                                                                  have c98b0 : (t436 == x48_10) = true := beq_iff_eq.mpr c98
                                                                  have c98b1 : (t436 != x48_10) = false := bne_eq_false_iff_eq.mpr c98
                                                                  clear c98
                                                                  (first | rw [c98b0] | (simp only [i64_w, i32_w]; rw [c98b0]) | rw [c98b1] | skip)
                                                                  have H' := Aside0.mk H
                                                                  clear H
                                                                  obtain ⟨Ao99, co99, eo99⟩ := Kd.R_slice HO_5.out
                                                                  subst eo99
                                                                  go_wp2_with (first | ((with_reducible refine gate_callee (f := 25) rfl ?_); refine goesL_ (some 305) rfl rfl Try.func25 (by kernel_rfl) rfl #[.slice Ao99 t368.length co99] rfl (by (try simp only [List.map_toArray, List.map_cons, List.map_nil]); first | done | rfl | (simp only [List.length_drop, List.length_take]; rfl)) ?_; (with_reducible refine (laws_rSum.calls k10 _ _ t368 t436 _ ?side1 ?side2 A97.out).mono ?_); (case side1 => repeat (first | exact (Kd.R_reads' HO_5.out).2.2 | (with_reducible refine Kd.C_alloc ?_ _) | (with_reducible refine Kd.C_drewN ?_ _) | (with_reducible refine Kd.C_drew ?_))); (case side2 => exact (Kd.R_reads' HO_5.out).2.1); rintro e w' ⟨rfl, ⟨nd, rfl⟩⟩; refine ⟨_, rfl, ?_⟩))
                                                                  go_meet
                                                                  case rel => exact ⟨_, (((t368.length : Int) != (wrap64 (t366 + 1)))), (by first | rfl | (simp; done) | (simp [*]; done)), H', ⟨by have := HJ6.out; have := HJ17.out; have := HJ34.out; have := HJ42.out; have := HJ50.out; have := HJ57.out; have := HJ65.out; have := HJ75.out; have := HJ83.out; have := HK10.out; first | omega | exact Nat.le_refl _⟩, ⟨by (with_reducible repeat (first | apply Kd.R_alloc | apply Kd.R_drewN | apply Kd.R_drew)); exact HO_5.out⟩, ⟨by (with_reducible repeat (first | apply Kd.R_alloc | apply Kd.R_drewN | apply Kd.R_drew)); exact HO_9.out⟩, ⟨by repeat (first | (with_reducible first | exact HB.out | apply below_alloc | apply pw_below_drewN | apply below_drew1) | exact HB.out)⟩⟩
                                                                · as_aux_lemma =>
                                                                  rw [if_neg c98] at H
                                                                  have c98b0 : (t436 == x48_10) = false := beq_eq_false_iff_ne.mpr c98
                                                                  have c98b1 : (t436 != x48_10) = true := bne_iff_ne.mpr c98
                                                                  (first | rw [c98b0] | (simp only [i64_w, i32_w]; rw [c98b0]) | rw [c98b1] | skip)
                                                                  exact absurd ((laws_FnCouples.j10_no _ _ _ _ _ _ _ H).trans HRV.out) (by decide)
                                                              case rest =>
                                                                clear HC96
                                                                (try clear c1); (try clear c2); (try clear p2); (try clear c3); (try clear p3); (try clear q3); (try clear hx3); (try clear qi3); (try clear c4); (try clear p4); (try clear q4); (try clear hx4); (try clear c5); (try clear c6); (try clear p6); (try clear c7); (try clear c8); (try clear c9); (try clear c10); (try clear c11); (try clear c11b0); (try clear c11b1); (try clear c11b2); (try clear c12); (try clear c13); (try clear c14); (try clear c15); (try clear c16); (try clear c17); (try clear c18); (try clear c19); (try clear c20); (try clear c21); (try clear c21b0); (try clear c21b1); (try clear c21b2); (try clear c22); (try clear c23); (try clear c24); (try clear c25); (try clear c25b0); (try clear c25b1); (try clear c31); (try clear c38); (try clear c38b0); (try clear c38b1); (try clear p38); (try clear q38); (try clear hx38); (try clear qi38); (try clear c39); (try clear p43); (try clear q43); (try clear hx43); (try clear c46); (try clear c46b0); (try clear c46b1); (try clear c47); (try clear c54); (try clear c54b0); (try clear c54b1); (try clear c54b2); (try clear c55); (try clear c59); (try clear c59b0); (try clear c59b1); (try clear c60); (try clear c60b0); (try clear c60b1); (try clear c60b2); (try clear c61); (try clear c62); (try clear p64); (try clear c71); (try clear c71b0); (try clear c71b1); (try clear c71b2); (try clear c75); (try clear c77); (try clear c80); (try clear c81); (try clear c82); (try clear c82b0); (try clear c82b1); (try clear c85); (try clear c87); (try clear c88); (try clear c88b0); (try clear c88b1); (try clear c89); (try clear c89b0); (try clear c90); (try clear c90b0); (try clear c91); (try clear c91b0); (try clear c94); (try clear c95); (try clear c95b0); (try clear c98); (try clear c98b0); (try clear c98b1); (try clear hx386_0); (try clear hx435_0); (try clear p2); (try clear p3); (try clear p38); (try clear p386); (try clear p4); (try clear p43); (try clear p435); (try clear p6); (try clear p64); (try clear q3); (try clear q38); (try clear q386); (try clear q4); (try clear q43); (try clear q435)
                                                                obtain ⟨kq, x314_95, rfl, HA, HJ95, HO_5, HO_9, HB⟩ := hcut
                                                                cases kq with
                                                                | zero => exact absurd HA.out (by simp [laws_FnCouples.j10])
                                                                | succ kj95 =>
                                                                  have H := HA.out
                                                                  clear HA
                                                                  simp only [laws_FnCouples.j10] at H
                                                                  by_cases c100 : x314_95 = true
                                                                  · as_aux_lemma =>
                                                                    subst c100
                                                                    have H1 : (some false) = some r := by rw [if_pos rfl] at H; exact H
                                                                    clear H
                                                                    have H := H1
                                                                    clear H1
                                                                    exact absurd ((Option.some.inj H).trans HRV.out) (by decide)
                                                                  · as_aux_lemma =>
                                                                    replace c100 := Bool.eq_false_iff.mpr c100
                                                                    subst c100
                                                                    have H1 : (if t367 = true then ((impl_MenageCount.f kj95 t366).bind fun bt437 => (if bt437.2 = true then (if 0 < (t368.length : Int) then (laws_FnCouples.j11 kj95 t366 t367 t377 t378 (decide (bt437.1 > (rd t368 0)))) else (none)) else (laws_FnCouples.j11 kj95 t366 t367 t377 t378 true))) else (if t378 = true then ((impl_CouplesTogether.f kj95 t366 t367 t377).bind fun bt442 => (if bt442.2 = true then (some (bt442.1 == 0)) else (some false))) else (some true))) = some r := by rw [if_neg (show ¬ (false = true) by decide)] at H; exact H
                                                                    clear H
                                                                    have H := H1
                                                                    clear H1
                                                                    by_cases c101 : t367 = true
                                                                    · as_aux_lemma =>
                                                                      subst c101
                                                                      have H1 : ((impl_MenageCount.f kj95 t366).bind fun bt437 => (if bt437.2 = true then (if 0 < (t368.length : Int) then (laws_FnCouples.j11 kj95 t366 true t377 t378 (decide (bt437.1 > (rd t368 0)))) else (none)) else (laws_FnCouples.j11 kj95 t366 true t377 t378 true))) = some r := by rw [if_pos rfl] at H; exact H
                                                                      clear H
                                                                      have H := H1
                                                                      clear H1
                                                                      replace H := Option.bind_eq_some_iff.mp H
                                                                      obtain ⟨⟨t437, t438⟩, A1020, H⟩ := H
                                                                      replace H : (if t438 = true then (if 0 < (t368.length : Int) then (laws_FnCouples.j11 kj95 t366 true t377 t378 (decide (t437 > (rd t368 0)))) else (none)) else (laws_FnCouples.j11 kj95 t366 true t377 t378 true)) = some r := H
                                                                      have A102 := Aside0.mk A1020
                                                                      clear A1020
                                                                      have HC103 := Aside0.mk H
                                                                      clear H
                                                                      go_upto_region 56 with (first | ((with_reducible refine gate_callee (f := 12) rfl ?_); refine goesL_ (some 318) rfl rfl Try.func12 (by kernel_rfl) rfl #[.int .i64 t366] rfl (by (try simp only [List.map_toArray, List.map_cons, List.map_nil]); first | done | rfl | (simp only [List.length_drop, List.length_take]; rfl)) ?_; (with_reducible refine (impl_MenageCount.calls kj95 t366 t437 t438 _ A102.out).mono ?_); rintro e w104 ⟨rfl, hb⟩; refine ⟨_, rfl, ?_⟩; have n0_ := Aside0.mk (Kd.R_below (by (with_reducible repeat (first | apply Kd.R_alloc | apply Kd.R_drewN | apply Kd.R_drew)); exact HO_5.out) hb); have n1_ := Aside0.mk (Kd.R_below (by (with_reducible repeat (first | apply Kd.R_alloc | apply Kd.R_drewN | apply Kd.R_drew)); exact HO_9.out) hb); have n2_ := Aside0.mk (below_step (by repeat (first | (with_reducible first | exact HB.out | apply below_alloc | apply pw_below_drewN | apply below_drew1) | exact HB.out)) hb); clear HO_5; clear HO_9; clear HB; have HO_5 := n0_; have HO_9 := n1_; have HB := n2_; clear n0_ n1_ n2_; (try clear hb); (try clear hb2); (try clear hk); (try clear hi)))
                                                                      (try simp only [Act.put, List.setIfInBounds_toArray, List.set_cons_zero, List.set_cons_succ])
                                                                      go_cut [329] (fun v329 wc => ∃ (kq : Nat) (x329_102 : Bool), v329 = .bool x329_102 ∧ Aside0 (laws_FnCouples.j11 kq t366 true t377 t378 x329_102 = some r) ∧ Aside0 (kq ≤ kj95) ∧ Aside0 (Kd.R (Kd.int .i64) 3 wc w.heap.size (fun _ => True) v379 t377) ∧ Aside0 (Below w.heap.size w wc))
                                                                      case first =>
                                                                        have H := HC103.out
                                                                        clear HC103
                                                                        by_cases c105 : t438 = true
                                                                        · as_aux_lemma =>
                                                                          subst c105
                                                                          have H1 : (if 0 < (t368.length : Int) then (laws_FnCouples.j11 kj95 t366 true t377 t378 (decide (t437 > (rd t368 0)))) else (none)) = some r := by rw [if_pos rfl] at H; exact H
                                                                          clear H
                                                                          have H := H1
                                                                          clear H1
                                                                          by_cases c106 : 0 < (t368.length : Int)
                                                                          · as_aux_lemma =>
                                                                            rw [if_pos c106] at H
                                                                            have c106b0 : decide (0 < (t368.length : Int)) = true := decide_eq_true c106
                                                                            have c106b1 : decide (0 < t368.length) = true := decide_eq_true (by omega)
                                                                            clear c106
                                                                            (first | rw [c106b0] | (simp only [i64_w, i32_w]; rw [c106b0]) | rw [c106b1] | skip)
                                                                            have H' := Aside0.mk H
                                                                            clear H
                                                                            obtain ⟨Ao107, co107, eo107⟩ := Kd.R_slice HO_5.out
                                                                            subst eo107
                                                                            have p439 : 0 ≤ (0 : Int) := (by omega)
                                                                            have q439 : 0 < (t368.length : Int) := of_decide_eq_true (by first | (with_reducible assumption) | assumption)
                                                                            obtain ⟨ad439, e439, hx439_0⟩ := Kd.at_int (Kd.R_reads' HO_5.out).2.2 0 p439 q439
                                                                            cases e439
                                                                            have qi439 : (0 < t368.length) = True := eq_true (by omega)
                                                                            (try rw [show ((0 : Int)).toNat = 0 from rfl] at hx439_0)
                                                                            (try rw [Addr.add_zero'] at hx439_0)
                                                                            replace p439 := eq_true p439
                                                                            replace q439 := eq_true q439
                                                                            go_wp2
                                                                            go_meet
                                                                            case rel => exact ⟨_, (decide (t437 > (rd t368 0))), (by first | rfl | (simp; done) | (simp [*]; done)), H', ⟨by have := HJ6.out; have := HJ17.out; have := HJ34.out; have := HJ42.out; have := HJ50.out; have := HJ57.out; have := HJ65.out; have := HJ75.out; have := HJ83.out; have := HK10.out; have := HJ95.out; first | omega | exact Nat.le_refl _⟩, ⟨by (with_reducible repeat (first | apply Kd.R_alloc | apply Kd.R_drewN | apply Kd.R_drew)); exact Kd.R_mono HO_9.out (fun _ hk => trivial)⟩, ⟨by repeat (first | (with_reducible first | exact HB.out | apply below_alloc | apply pw_below_drewN | apply below_drew1) | exact HB.out)⟩⟩
                                                                          · as_aux_lemma =>
                                                                            rw [if_neg c106] at H
                                                                            exact absurd H (by simp)
                                                                        · as_aux_lemma =>
                                                                          replace c105 := Bool.eq_false_iff.mpr c105
                                                                          subst c105
                                                                          have H1 : (laws_FnCouples.j11 kj95 t366 true t377 t378 true) = some r := by rw [if_neg (show ¬ (false = true) by decide)] at H; exact H
                                                                          clear H
                                                                          have H := H1
                                                                          clear H1
                                                                          exact absurd ((laws_FnCouples.j11_no _ _ _ _ _ _ H).trans HRV.out) (by decide)
                                                                      case rest =>
                                                                        clear HC103
                                                                        (try clear c1); (try clear c2); (try clear p2); (try clear c3); (try clear p3); (try clear q3); (try clear hx3); (try clear qi3); (try clear c4); (try clear p4); (try clear q4); (try clear hx4); (try clear qi4); (try clear c5); (try clear c6); (try clear p6); (try clear c7); (try clear c8); (try clear c9); (try clear c10); (try clear c11); (try clear c11b0); (try clear c11b1); (try clear c11b2); (try clear c12); (try clear c13); (try clear c14); (try clear c15); (try clear c16); (try clear c17); (try clear c18); (try clear c19); (try clear c20); (try clear c21); (try clear c21b0); (try clear c21b1); (try clear c21b2); (try clear c22); (try clear c23); (try clear c24); (try clear c25); (try clear c25b0); (try clear c25b1); (try clear c31); (try clear c38); (try clear c38b0); (try clear c38b1); (try clear p38); (try clear q38); (try clear hx38); (try clear qi38); (try clear c39); (try clear p43); (try clear q43); (try clear hx43); (try clear qi43); (try clear c46); (try clear c46b0); (try clear c46b1); (try clear c47); (try clear c54); (try clear c54b0); (try clear c54b1); (try clear c54b2); (try clear c55); (try clear c59); (try clear c59b0); (try clear c59b1); (try clear c60); (try clear c60b0); (try clear c60b1); (try clear c60b2); (try clear c61); (try clear c62); (try clear p64); (try clear c71); (try clear c71b0); (try clear c71b1); (try clear c71b2); (try clear c75); (try clear c77); (try clear c80); (try clear c81); (try clear c82); (try clear c82b0); (try clear c82b1); (try clear c85); (try clear c87); (try clear c88); (try clear c88b0); (try clear c88b1); (try clear c89); (try clear c89b0); (try clear c90); (try clear c90b0); (try clear c91); (try clear c91b0); (try clear c94); (try clear c95); (try clear c95b0); (try clear c98); (try clear c98b0); (try clear c98b1); (try clear c100); (try clear c101); (try clear c105); (try clear c106); (try clear c106b0); (try clear c106b1); (try clear hx386_0); (try clear hx435_0); (try clear hx439_0); (try clear p2); (try clear p3); (try clear p38); (try clear p386); (try clear p4); (try clear p43); (try clear p435); (try clear p439); (try clear p6); (try clear p64); (try clear q3); (try clear q38); (try clear q386); (try clear q4); (try clear q43); (try clear q435); (try clear q439)
                                                                        obtain ⟨kq, x329_102, rfl, HA, HJ102, HO_9, HB⟩ := hcut
                                                                        cases kq with
                                                                        | zero => exact absurd HA.out (by simp [laws_FnCouples.j11])
                                                                        | succ kj102 =>
                                                                          have H := HA.out
                                                                          clear HA
                                                                          simp only [laws_FnCouples.j11] at H
                                                                          by_cases c108 : x329_102 = true
                                                                          · as_aux_lemma =>
                                                                            subst c108
                                                                            have H1 : (some false) = some r := by rw [if_pos rfl] at H; exact H
                                                                            clear H
                                                                            have H := H1
                                                                            clear H1
                                                                            exact absurd ((Option.some.inj H).trans HRV.out) (by decide)
                                                                          · as_aux_lemma =>
                                                                            replace c108 := Bool.eq_false_iff.mpr c108
                                                                            subst c108
                                                                            have H1 : (if t378 = true then ((impl_CouplesTogether.f kj102 t366 true t377).bind fun bt440 => (if bt440.2 = true then (some (bt440.1 == 0)) else (some false))) else (some true)) = some r := by rw [if_neg (show ¬ (false = true) by decide)] at H; exact H
                                                                            clear H
                                                                            have H := H1
                                                                            clear H1
                                                                            by_cases c109 : t378 = true
                                                                            · as_aux_lemma =>
                                                                              subst c109
                                                                              have H1 : ((impl_CouplesTogether.f kj102 t366 true t377).bind fun bt440 => (if bt440.2 = true then (some (bt440.1 == 0)) else (some false))) = some r := by rw [if_pos rfl] at H; exact H
                                                                              clear H
                                                                              have H := H1
                                                                              clear H1
                                                                              replace H := Option.bind_eq_some_iff.mp H
                                                                              obtain ⟨⟨t440, t441⟩, A1100, H⟩ := H
                                                                              replace H : (if t441 = true then (some (t440 == 0)) else (some false)) = some r := H
                                                                              have A110 := Aside0.mk A1100
                                                                              clear A1100
                                                                              by_cases c111 : t441 = true
                                                                              · as_aux_lemma =>
                                                                                subst c111
                                                                                have H1 : (some (t440 == 0)) = some r := by rw [if_pos rfl] at H; exact H
                                                                                clear H
                                                                                have H := H1
                                                                                clear H1
                                                                                obtain rfl := Option.some.inj H
                                                                                obtain ⟨Ao112, co112, eo112⟩ := Kd.R_slice HO_9.out
                                                                                subst eo112
                                                                                go_wp2_with (first | ((with_reducible refine gate_callee (f := 20) rfl ?_); refine goesL_ (some 335) rfl rfl Try.func20 (by kernel_rfl) rfl #[.int .i64 t366, .bool true, .slice Ao112 t377.length co112] rfl (by (try simp only [List.map_toArray, List.map_cons, List.map_nil]); first | done | rfl | (simp only [List.length_drop, List.length_take]; rfl)) ?_; (with_reducible refine (impl_CouplesTogether.calls kj102 t366 true _ _ t377 t440 true _ ?side1 ?side2 A110.out).mono ?_); (case side1 => repeat (first | exact (Kd.R_reads' HO_9.out).2.2 | (with_reducible refine Kd.C_alloc ?_ _) | (with_reducible refine Kd.C_drewN ?_ _) | (with_reducible refine Kd.C_drew ?_))); (case side2 => exact (Kd.R_reads' HO_9.out).2.1); rintro e w' ⟨rfl, ⟨nd, rfl⟩⟩; refine ⟨_, rfl, ?_⟩))
                                                                                go_ret
                                                                                exact ⟨by first | rfl | (simp [errW_none, errW_some] <;> rfl) | (simp [*, errW_none, errW_some] <;> rfl), by repeat (first | (with_reducible first | exact HB.out | apply below_alloc | apply pw_below_drewN | apply below_drew1) | exact HB.out)⟩
                                                                              · as_aux_lemma =>
                                                                                replace c111 := Bool.eq_false_iff.mpr c111
                                                                                subst c111
                                                                                have H1 : (some false) = some r := by rw [if_neg (show ¬ (false = true) by decide)] at H; exact H
                                                                                clear H
                                                                                have H := H1
                                                                                clear H1
                                                                                exact absurd ((Option.some.inj H).trans HRV.out) (by decide)
                                                                            · as_aux_lemma =>
                                                                              replace c109 := Bool.eq_false_iff.mpr c109
                                                                              subst c109
                                                                              have H1 : (some true) = some r := by rw [if_neg (show ¬ (false = true) by decide)] at H; exact H
                                                                              clear H
                                                                              have H := H1
                                                                              clear H1
                                                                              obtain rfl := Option.some.inj H
                                                                              go_wp2
                                                                              go_ret
                                                                              exact ⟨by first | rfl | (simp [errW_none, errW_some] <;> rfl) | (simp [*, errW_none, errW_some] <;> rfl), by repeat (first | (with_reducible first | exact HB.out | apply below_alloc | apply pw_below_drewN | apply below_drew1) | exact HB.out)⟩
                                                                    · as_aux_lemma =>
                                                                      replace c101 := Bool.eq_false_iff.mpr c101
                                                                      subst c101
                                                                      have H1 : (if t378 = true then ((impl_CouplesTogether.f kj95 t366 false t377).bind fun bt442 => (if bt442.2 = true then (some (bt442.1 == 0)) else (some false))) else (some true)) = some r := by rw [if_neg (show ¬ (false = true) by decide)] at H; exact H
                                                                      clear H
                                                                      have H := H1
                                                                      clear H1
                                                                      by_cases c113 : t378 = true
                                                                      · as_aux_lemma =>
                                                                        subst c113
                                                                        have H1 : ((impl_CouplesTogether.f kj95 t366 false t377).bind fun bt442 => (if bt442.2 = true then (some (bt442.1 == 0)) else (some false))) = some r := by rw [if_pos rfl] at H; exact H
                                                                        clear H
                                                                        have H := H1
                                                                        clear H1
                                                                        replace H := Option.bind_eq_some_iff.mp H
                                                                        obtain ⟨⟨t442, t443⟩, A1140, H⟩ := H
                                                                        replace H : (if t443 = true then (some (t442 == 0)) else (some false)) = some r := H
                                                                        have A114 := Aside0.mk A1140
                                                                        clear A1140
                                                                        by_cases c115 : t443 = true
                                                                        · as_aux_lemma =>
                                                                          subst c115
                                                                          have H1 : (some (t442 == 0)) = some r := by rw [if_pos rfl] at H; exact H
                                                                          clear H
                                                                          have H := H1
                                                                          clear H1
                                                                          obtain rfl := Option.some.inj H
                                                                          obtain ⟨Ao116, co116, eo116⟩ := Kd.R_slice HO_9.out
                                                                          subst eo116
                                                                          go_wp2_with (first | ((with_reducible refine gate_callee (f := 20) rfl ?_); refine goesL_ (some 335) rfl rfl Try.func20 (by kernel_rfl) rfl #[.int .i64 t366, .bool false, .slice Ao116 t377.length co116] rfl (by (try simp only [List.map_toArray, List.map_cons, List.map_nil]); first | done | rfl | (simp only [List.length_drop, List.length_take]; rfl)) ?_; (with_reducible refine (impl_CouplesTogether.calls kj95 t366 false _ _ t377 t442 true _ ?side1 ?side2 A114.out).mono ?_); (case side1 => repeat (first | exact (Kd.R_reads' HO_9.out).2.2 | (with_reducible refine Kd.C_alloc ?_ _) | (with_reducible refine Kd.C_drewN ?_ _) | (with_reducible refine Kd.C_drew ?_))); (case side2 => exact (Kd.R_reads' HO_9.out).2.1); rintro e w' ⟨rfl, ⟨nd, rfl⟩⟩; refine ⟨_, rfl, ?_⟩))
                                                                          go_ret
                                                                          exact ⟨by first | rfl | (simp [errW_none, errW_some] <;> rfl) | (simp [*, errW_none, errW_some] <;> rfl), by repeat (first | (with_reducible first | exact HB.out | apply below_alloc | apply pw_below_drewN | apply below_drew1) | exact HB.out)⟩
                                                                        · as_aux_lemma =>
                                                                          replace c115 := Bool.eq_false_iff.mpr c115
                                                                          subst c115
                                                                          have H1 : (some false) = some r := by rw [if_neg (show ¬ (false = true) by decide)] at H; exact H
                                                                          clear H
                                                                          have H := H1
                                                                          clear H1
                                                                          exact absurd ((Option.some.inj H).trans HRV.out) (by decide)
                                                                      · as_aux_lemma =>
                                                                        replace c113 := Bool.eq_false_iff.mpr c113
                                                                        subst c113
                                                                        have H1 : (some true) = some r := by rw [if_neg (show ¬ (false = true) by decide)] at H; exact H
                                                                        clear H
                                                                        have H := H1
                                                                        clear H1
                                                                        obtain rfl := Option.some.inj H
                                                                        go_wp2
                                                                        go_ret
                                                                        exact ⟨by first | rfl | (simp [errW_none, errW_some] <;> rfl) | (simp [*, errW_none, errW_some] <;> rfl), by repeat (first | (with_reducible first | exact HB.out | apply below_alloc | apply pw_below_drewN | apply below_drew1) | exact HB.out)⟩
                                                      · as_aux_lemma =>
                                                        replace c94 := Bool.eq_false_iff.mpr c94
                                                        subst c94
                                                        have H1 : (some true) = some r := by rw [if_neg (show ¬ (false = true) by decide)] at H; exact H
                                                        clear H
                                                        have H := H1
                                                        clear H1
                                                        obtain rfl := Option.some.inj H
                                                        go_wp2
                                                        go_ret
                                                        exact ⟨by first | rfl | (simp [errW_none, errW_some] <;> rfl) | (simp [*, errW_none, errW_some] <;> rfl), by repeat (first | (with_reducible first | exact HB.out | apply below_alloc | apply pw_below_drewN | apply below_drew1) | exact HB.out)⟩

/-- THE ONE PURE STATEMENT of laws_FnCouples: yours. -/
def laws_FnCouples.Pure : Prop := ∀ (l0 : List Int), l0.length ≤ maxLen → l0.length * 1 ≤ 140737488351232 → (∀ x ∈ l0, (Lit.int .u8 x).wf = true) → ∃ k, laws_FnCouples.f k l0 = some true
theorem laws_FnCouples.walk (P : laws_FnCouples.Pure) (a0 : Option Addr) (len0 cap0 : Nat) (z0 : List Int) (w : World) (w0 : (a0 = none ∧ len0 = 0 ∧ cap0 = 0 ∧ z0 = []) ∨ ∃ x, a0 = some x ∧ len0 ≤ cap0 ∧ cap0 ≤ maxLen ∧ z0.length = cap0 ∧ (∀ i, i < z0.length → w.cell? (x.add i) = some (.int .u8 (z0.getD i 0))) ∧ ∀ n ∈ z0, (Lit.int .u8 n).wf = true) (y0 : len0 * 1 ≤ 140737488351232) :
    Calls Try.prog 3 #[.slice a0 len0 cap0] w fun e w' => e = .returned (.bool true) ∧ Below w.heap.size w w' := by
  obtain ⟨l0, rfl, hr0, hm0, hw0, hc0⟩ := ReadsInt.ofRowC w0
  obtain ⟨k, h⟩ := P l0 hm0 y0 hw0
  refine (laws_FnCouples.calls k _ _ l0 true w (Kd.C_of_reads (d := (0 : Int)) (h1 := fun _ => rfl) hr0) hc0 rfl h).mono ?_
  rintro e w' ⟨rfl, hd⟩
  exact ⟨rfl, hd⟩

end Go.Proofs.Ytaadhdlcdbaipaa.PFnCouples
