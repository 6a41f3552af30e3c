/- Proved: each Go function named here, called, comes to the answer of the Lean function beside it. Conditions: those that stand in each theorem. (Printed by this session's own turned copy of a printing program.) -/
import Derived.Test.YtnchmnkljneedaaPFnExactFewestGuardsx0
import Derived.Test.YtnchmnkljneedaaPFnExactFewestGuardsx4
import Derived.Test.YtnchmnkljneedaaPFnExactFewestGuardsx5
import Derived.Test.YtnchmnkljneedaaPFnExactFewestGuardsx6
namespace Go.Proofs.Ytnchmnkljneedaa.PFnExactFewestGuards
open Go.RowKit Go.Proofs.YtnchmnkljneedaaW.PrintWords Go.Proofs.YtnchmnkljneedaaW.PrintLast Go.Proofs.YtnchmnkljneedaaW.PrintMore
attribute [local go_sem] max2_int min2_int max_two min_two max_three min_three max_four min_four   -- for this text's walks alone
set_option linter.unusedVariables false
set_option linter.unusedSimpArgs false

/-! ### impl_FewestGuards: function 16 -/
def impl_FewestGuards.T4 : Bool × List (List Nat × List Nat) := (true, [([], []), ([0], [0]), ([], []), ([2], [2]), ([3], [3]), ([], []), ([], []), ([5, 1, 1, 0, 1, 5, 6], [1, 5]), ([6, 4, 7, 0, 1, 2, 3, 4, 5, 6, 7], [4, 6])])
def impl_FewestGuards.B4 : List Nat := [0, 1, 0, 4, 12, 0, 0, 99, 255]
theorem impl_FewestGuards.tab4 : rtab .any (opsOf Try.f16 4) = impl_FewestGuards.T4 := by kernel_rfl
theorem impl_FewestGuards.bits4 : waitsOk impl_FewestGuards.T4.2 impl_FewestGuards.B4 = true := by kernel_rfl
def impl_FewestGuards.T8 : Bool × List (List Nat × List Nat) := (true, [([], []), ([], []), ([], []), ([2], [2]), ([0, 1, 3, 3], [0, 1, 3]), ([4, 4, 0, 1, 2, 3, 4], [4])])
def impl_FewestGuards.B8 : List Nat := [0, 0, 0, 4, 15, 31]
theorem impl_FewestGuards.tab8 : rtab .any (opsOf Try.f16 8) = impl_FewestGuards.T8 := by kernel_rfl
theorem impl_FewestGuards.bits8 : waitsOk impl_FewestGuards.T8.2 impl_FewestGuards.B8 = true := by kernel_rfl
def impl_FewestGuards.f (k : Nat) (a0_0 : Int) (a0_1 : Bool) (l0_2 : List Int) (a1 : Int) : Option (Int × List Int × Bool) := (impl_IsRow.f k a0_0 a0_1 l0_2).bind fun t => if t = true then (if a1 < 0 then some (0, [], false) else if (1 ≤ a0_0 ∧ a0_0 ≤ 24) ∧ 0 ≤ mn a1 24 ∧ mn a1 24 ≤ 24 then (impl_bench_all.f a0_0 a0_1).bind fun al => (impl_FewestGuards_1.f k [] al (Int.tdiv (a0_0 + 2 * mn a1 24) (2 * mn a1 24 + 1)) (2 * mn a1 24 + 1) a0_0 a0_1 (mn a1 24)).bind fun o => some (Int.tdiv (a0_0 + 2 * mn a1 24) (2 * mn a1 24 + 1), o, !o.isEmpty) else none) else some (0, [], false)
theorem impl_FewestGuards.mono : ∀ a0_0 a0_1 l0_2 a1 k, LeO (impl_FewestGuards.f k a0_0 a0_1 l0_2 a1) (impl_FewestGuards.f (k + 1) a0_0 a0_1 l0_2 a1) := by
  intro a0_0 a0_1 l0_2 a1 k
  unfold impl_FewestGuards.f
  repeat' first
      | (with_reducible exact impl_FewestGuards_1.mono _ _ _ _ _ _ _ _)
      | (with_reducible exact impl_IsRow.mono _ _ _ _)
      | (with_reducible exact LeO.refl _)
      | (with_reducible exact LeO.none _)
      | (with_reducible refine LeO.ite ?_ ?_)
      | (with_reducible refine LeO.bind ?_ (fun _ => ?_))
set_option maxHeartbeats 8000000 in
set_option maxRecDepth 100000 in
theorem impl_FewestGuards.calls (k : Nat) (a0_0 : Int) (a0_1 : Bool) (A0_2 : Option Addr) (c0_2 : Nat) (l0_2 : List Int) (a1 : Int) (r1 : Int) (r2 : List Int) (r3 : Bool) (w : World) (hr0_2 : Kd.C (Kd.int .i64) w A0_2 l0_2.length l0_2) (hc0_2 : l0_2.length ≤ c0_2) (h : impl_FewestGuards.f k a0_0 a0_1 l0_2 a1 = some (r1, r2, r3)) :
    Calls Try.prog 16 #[.agg #[.int .i64 a0_0, .bool a0_1, .slice A0_2 l0_2.length c0_2], .int .i64 a1] w fun e w' => ∃ v1_ : Value, e = .returned (.tuple #[.int .i64 r1, v1_, .bool r3]) ∧ Kd.R (Kd.int .i64) 3 w' w.heap.size (fun _ => True) v1_ r2 ∧ Below w.heap.size w w' := by
  have hu28 := Try.underlying28
  have hu47 := Try.underlying47
  have HR := Aside0.mk hr0_2
  have HC := Aside0.mk hc0_2
  clear hr0_2 hc0_2
  have HB := Aside0.mk (Below.refl w.heap.size w)
  unfold impl_FewestGuards.f at h
  replace h := Option.bind_eq_some_iff.mp h
  obtain ⟨t, A10, H⟩ := h
  have A1 := Aside0.mk A10
  clear A10
  cases t with
  | false =>
    rw [if_neg (show ¬ (false = true) by decide)] at H
    simp only [Option.some.injEq, Prod.mk.injEq] at H
    obtain ⟨rfl, rfl, rfl⟩ := H
    go_enter Try.func16, Try.ntmps16
    go_wp2_with (first | ((with_reducible refine gate_dst (N := 2) rfl ?_); refine box_event ?hg (N := 2) ?hd (cs := #[.int .i64 a0_0, .bool a0_1, .slice A0_2 l0_2.length c0_2]) (t := 28) ?hr ?_; (case hd => rfl); (case hg => rfl); (case hr => first | (go_simp; done) | (go_simp; rfl)); intro gb hg_ w5 hbox hb; have GE := Aside0.mk (show w.heap.size ≤ gb by rw [hg_]; exact below_size HB.out); have n0_ := Aside0.mk (below_step HB.out hb); have B_ := Aside0.mk hbox; have BK := B_; have GB := GE; clear B_ GE; clear HB; have HB := n0_; clear n0_; clear hbox hb hg_) | ((with_reducible refine gate_dst (N := 3) rfl ?_); refine box_event ?hg (N := 3) ?hd (cs := #[.int .i64 a1]) (t := 3) ?hr ?_; (case hd => rfl); (case hg => rfl); (case hr => first | (go_simp; done) | (go_simp; rfl)); intro gh hg_ w6 hbox hb; have GE := Aside0.mk (show w.heap.size ≤ gh by rw [hg_]; exact below_size HB.out); have n0_ := Aside0.mk (below_step HB.out hb); have B_ := Aside0.mk hbox; have BH := B_; have GH := GE; clear B_ GE; have nk_ := Aside0.mk (blk_below BK.out hb); clear BK; have BK := nk_; clear nk_; have q0_ : w6.cell? ⟨gb, 0, none⟩ = some (.int .i64 a0_0) := (blk_cell BK.out 0).trans rfl; have q1_ : w6.cell? ⟨gb, 1, none⟩ = some (.bool a0_1) := (blk_cell BK.out 1).trans rfl; have q2_ : w6.cell? ⟨gb, 2, none⟩ = some (.slice A0_2 l0_2.length c0_2) := (blk_cell BK.out 2).trans rfl; have q3_ : w6.cell? ⟨gh, 0, none⟩ = some (.int .i64 a1) := (blk_cell BH.out 0).trans rfl; clear HB; have HB := n0_; clear n0_; clear hbox hb hg_) | (go_at_call 23; (with_reducible refine (impl_IsRow.calls k a0_0 a0_1 _ _ l0_2 false _ (Kd.C_below HR.out HB.out) HC.out A1.out).mono ?_); rintro e w7 ⟨rfl, hb⟩; have n0_ := Aside0.mk (below_step HB.out hb); have n1_ := Aside0.mk (blk_below BK.out hb); have n2_ := Aside0.mk (blk_below BH.out hb); clear HB BK BH q0_ q1_ q2_ q3_; have HB := n0_; have BK := n1_; have BH := n2_; clear n0_ n1_ n2_ hb; have q3_ : w7.cell? ⟨gh, 0, none⟩ = some (.int .i64 a1) := (blk_cell BH.out 0).trans rfl; have f3_ := blk_frozen BH.out 0))
    go_ret3
    exact ⟨_, rfl, Kd.R_nil _ _ _ _ _, HB.out⟩
  | true =>
    have hmf : ∀ (fn : Fn) (first cap : Array Value) (w : World), (Instr.makeFunc fn first cap).run Try.prog w = .ok (.func fn first cap) w := fun _ _ _ _ => rfl
    rw [if_pos rfl] at H
    by_cases c0 : a1 < 0
    · rw [if_pos c0] at H
      have c0b0 : decide (a1 < 0) = true := decide_eq_true c0
      simp only [Option.some.injEq, Prod.mk.injEq] at H
      obtain ⟨rfl, rfl, rfl⟩ := H
      go_enter Try.func16, Try.ntmps16
      go_wp2_with (first | ((with_reducible refine gate_dst (N := 2) rfl ?_); refine box_event ?hg (N := 2) ?hd (cs := #[.int .i64 a0_0, .bool a0_1, .slice A0_2 l0_2.length c0_2]) (t := 28) ?hr ?_; (case hd => rfl); (case hg => rfl); (case hr => first | (go_simp; done) | (go_simp; rfl)); intro gb hg_ w5 hbox hb; have GE := Aside0.mk (show w.heap.size ≤ gb by rw [hg_]; exact below_size HB.out); have n0_ := Aside0.mk (below_step HB.out hb); have B_ := Aside0.mk hbox; have BK := B_; have GB := GE; clear B_ GE; clear HB; have HB := n0_; clear n0_; clear hbox hb hg_) | ((with_reducible refine gate_dst (N := 3) rfl ?_); refine box_event ?hg (N := 3) ?hd (cs := #[.int .i64 a1]) (t := 3) ?hr ?_; (case hd => rfl); (case hg => rfl); (case hr => first | (go_simp; done) | (go_simp; rfl)); intro gh hg_ w6 hbox hb; have GE := Aside0.mk (show w.heap.size ≤ gh by rw [hg_]; exact below_size HB.out); have n0_ := Aside0.mk (below_step HB.out hb); have B_ := Aside0.mk hbox; have BH := B_; have GH := GE; clear B_ GE; have nk_ := Aside0.mk (blk_below BK.out hb); clear BK; have BK := nk_; clear nk_; have q0_ : w6.cell? ⟨gb, 0, none⟩ = some (.int .i64 a0_0) := (blk_cell BK.out 0).trans rfl; have q1_ : w6.cell? ⟨gb, 1, none⟩ = some (.bool a0_1) := (blk_cell BK.out 1).trans rfl; have q2_ : w6.cell? ⟨gb, 2, none⟩ = some (.slice A0_2 l0_2.length c0_2) := (blk_cell BK.out 2).trans rfl; have q3_ : w6.cell? ⟨gh, 0, none⟩ = some (.int .i64 a1) := (blk_cell BH.out 0).trans rfl; clear HB; have HB := n0_; clear n0_; clear hbox hb hg_) | (go_at_call 23; (with_reducible refine (impl_IsRow.calls k a0_0 a0_1 _ _ l0_2 true _ (Kd.C_below HR.out HB.out) HC.out A1.out).mono ?_); rintro e w7 ⟨rfl, hb⟩; have n0_ := Aside0.mk (below_step HB.out hb); have n1_ := Aside0.mk (blk_below BK.out hb); have n2_ := Aside0.mk (blk_below BH.out hb); clear HB BK BH q0_ q1_ q2_ q3_; have HB := n0_; have BK := n1_; have BH := n2_; clear n0_ n1_ n2_ hb; have q3_ : w7.cell? ⟨gh, 0, none⟩ = some (.int .i64 a1) := (blk_cell BH.out 0).trans rfl; have f3_ := blk_frozen BH.out 0))
      go_ret3
      exact ⟨_, rfl, Kd.R_nil _ _ _ _ _, HB.out⟩
    · rw [if_neg c0] at H
      have c0b0 : decide (a1 < 0) = false := decide_eq_false c0
      clear c0
      by_cases c1 : (1 ≤ a0_0 ∧ a0_0 ≤ 24) ∧ 0 ≤ mn a1 24 ∧ mn a1 24 ≤ 24
      · rw [if_pos c1] at H
        have HN := Aside0.mk c1
        clear c1
        replace H := Option.bind_eq_some_iff.mp H
        obtain ⟨al, A20, H⟩ := H
        have A2 := Aside0.mk A20
        clear A20
        replace H := Option.bind_eq_some_iff.mp H
        obtain ⟨o, A30, H⟩ := H
        simp only [Option.some.injEq, Prod.mk.injEq] at H
        obtain ⟨rfl, rfl, rfl⟩ := H
        obtain ⟨hh, hhe⟩ : ∃ x, x = mn a1 24 := ⟨_, rfl⟩
        rw [← hhe] at A30 ⊢
        have HH0 := Aside0.mk (show 0 ≤ hh ∧ hh ≤ 24 by rw [hhe]; exact HN.out.2)
        have HHE := Aside0.mk hhe
        clear hhe
        obtain ⟨mm, hmm⟩ : ∃ x, x = Int.tdiv (a0_0 + 2 * hh) (2 * hh + 1) := ⟨_, rfl⟩
        rw [← hmm] at A30 ⊢
        obtain ⟨wd, hwd⟩ : ∃ x, x = 2 * hh + 1 := ⟨_, rfl⟩
        rw [← hwd] at A30
        have EW := Aside0.mk (show wrap64 (wrap64 (2 * hh) + 1) = wd by have h_ := HH0.out; rw [hwd]; unfold wrap64; omega)
        have hs_ : wrap64 (wrap64 (a0_0 + wd) - 1) = a0_0 + 2 * hh := by have h_ := HH0.out; have h2_ := HN.out.1; rw [hwd]; unfold wrap64; omega
        have HMM := Aside0.mk (show 1 ≤ mm ∧ mm ≤ 1000 by have h_ := HH0.out; have h2_ := HN.out.1; rw [hmm, Int.tdiv_eq_ediv_of_nonneg (by omega)]; exact ⟨Int.le_ediv_of_mul_le (by omega) (by omega), Int.le_trans (Int.ediv_le_self _ (by omega)) (by omega)⟩)
        have E2 := Aside0.mk (show wrap64 (Int.tdiv (wrap64 (wrap64 (a0_0 + wd) - 1)) wd) = mm by have h_ := HMM.out; rw [hs_, hwd, ← hmm]; unfold wrap64; omega)
        have HZ := Aside0.mk (show ¬ (wd = 0) by have h_ := HH0.out; omega)
        clear hmm hwd hs_
        have A3 := Aside0.mk A30
        clear A30
        have heq_ := fun (a : Option Addr) (l c : Nat) (w : World) => impl_FewestGuards_1.neql a l c w
        go_enter Try.func16, Try.ntmps16
        go_wp2_with (first | ((with_reducible refine gate_dst (N := 2) rfl ?_); refine box_event ?hg (N := 2) ?hd (cs := #[.int .i64 a0_0, .bool a0_1, .slice A0_2 l0_2.length c0_2]) (t := 28) ?hr ?_; (case hd => rfl); (case hg => rfl); (case hr => first | (go_simp; done) | (go_simp; rfl)); intro gb hg_ w5 hbox hb; have GE := Aside0.mk (show w.heap.size ≤ gb by rw [hg_]; exact below_size HB.out); have n0_ := Aside0.mk (below_step HB.out hb); have B_ := Aside0.mk hbox; have BK := B_; have GB := GE; clear B_ GE; clear HB; have HB := n0_; clear n0_; clear hbox hb hg_) | ((with_reducible refine gate_dst (N := 3) rfl ?_); refine box_event ?hg (N := 3) ?hd (cs := #[.int .i64 a1]) (t := 3) ?hr ?_; (case hd => rfl); (case hg => rfl); (case hr => first | (go_simp; done) | (go_simp; rfl)); intro gh hg_ w6 hbox hb; have GE := Aside0.mk (show w.heap.size ≤ gh by rw [hg_]; exact below_size HB.out); have n0_ := Aside0.mk (below_step HB.out hb); have B_ := Aside0.mk hbox; have BH := B_; have GH := GE; clear B_ GE; have nk_ := Aside0.mk (blk_below BK.out hb); clear BK; have BK := nk_; clear nk_; have q0_ : w6.cell? ⟨gb, 0, none⟩ = some (.int .i64 a0_0) := (blk_cell BK.out 0).trans rfl; have q1_ : w6.cell? ⟨gb, 1, none⟩ = some (.bool a0_1) := (blk_cell BK.out 1).trans rfl; have q2_ : w6.cell? ⟨gb, 2, none⟩ = some (.slice A0_2 l0_2.length c0_2) := (blk_cell BK.out 2).trans rfl; have q3_ : w6.cell? ⟨gh, 0, none⟩ = some (.int .i64 a1) := (blk_cell BH.out 0).trans rfl; clear HB; have HB := n0_; clear n0_; clear hbox hb hg_) | (go_at_call 23; (with_reducible refine (impl_IsRow.calls k a0_0 a0_1 _ _ l0_2 true _ (Kd.C_below HR.out HB.out) HC.out A1.out).mono ?_); rintro e w7 ⟨rfl, hb⟩; have n0_ := Aside0.mk (below_step HB.out hb); have n1_ := Aside0.mk (blk_below BK.out hb); have n2_ := Aside0.mk (blk_below BH.out hb); clear HB BK BH q0_ q1_ q2_ q3_; have HB := n0_; have BK := n1_; have BH := n2_; clear n0_ n1_ n2_ hb; have q3_ : w7.cell? ⟨gh, 0, none⟩ = some (.int .i64 a1) := (blk_cell BH.out 0).trans rfl; have f3_ := blk_frozen BH.out 0) | ((with_reducible refine gate_store (t := 3) (p := 3) rfl ?_); refine store_event (t := 3) (p := 3) (v := ?vo_) (w1 := w7.setCell ⟨gh, 0, none⟩ (.int .i64 hh)) ?hg ?ho ?hn ?hr ?_; (case ho => rfl); (case hg => rfl); (case hn => rfl); (case hr => rw [HHE.out]; first | (go_simp; done) | (go_simp; rfl)); intro w8 hw; have ne_ := blk_ne BK.out BH.out (by decide); have n0_ := Aside0.mk (show Below w.heap.size w w8 by rw [hw]; exact below_set HB.out GH.out); have n1_ := Aside0.mk (show w8.heap[gb]? = some (.cells #[.int .i64 a0_0, .bool a0_1, .slice A0_2 l0_2.length c0_2] 28 (0, 0)) by rw [hw]; exact blk_far BK.out ne_ _); have n2_ := Aside0.mk (show w8.heap[gh]? = some (.cells #[.int .i64 hh] 3 (0, 0)) by rw [hw]; exact blk_set BH.out 0 _); clear HB BK BH q3_ f3_ ne_ hw; have HB := n0_; have BK := n1_; have BH := n2_; clear n0_ n1_ n2_))
        all_goals
          try go_wp2
          have n0_ := Aside0.mk (blk_drew BK.out)
          have n1_ := Aside0.mk (blk_drew BH.out)
          have n2_ := Aside0.mk (below_drew1 HB.out)
          clear BK BH HB
          have BK := n0_
          have BH := n1_
          have HB := n2_
          clear n0_ n1_ n2_
          refine start_ (n := 9) (S := fun w' => True) (ds := []) #[false, false, false, false, false, false, false, false, false] (by kernel_rfl) rfl rfl trivial (fun hHeld => ?_); refine with_tabW impl_FewestGuards.tab4 impl_FewestGuards.bits4 (fun HT_ HW_ => ?_)
          generalize w8.drew = w9 at BK BH HB ⊢
          refine inv_at [0, 1, 2, 3, 4, 5, 6, 7, 8] (fun a0_ b a w' => ∃ (g7 : Nat) (g8 : Nat) (m5_ : Value) (m6_ : Value), a = putSel a0_ b [(0, 21, .agg #[.int .i64 a0_0, .bool a0_1, .slice A0_2 l0_2.length c0_2]), (1, 22, .agg #[.int .i64 a0_0, .bool a0_1]), (2, 23, .int .i64 hh), (3, 24, .int .i64 (wrap64 (2 * hh))), (4, 25, .int .i64 (wrap64 ((wrap64 (2 * hh)) + 1))), (5, 7, m5_), (6, 8, m6_)] ∧ (w'.heap[gb]? = some (.cells #[.int .i64 a0_0, .bool a0_1, .slice A0_2 l0_2.length c0_2] 28 (0, 0))) ∧ (w'.heap[gh]? = some (.cells #[.int .i64 hh] 3 (0, 0))) ∧ (Below w.heap.size w w') ∧ (b 5 = true → b 7 = false → (w'.heap[g7]? = some (.cells #[.int .i64 0, .bool false] 47 (0, 0)) ∧ w.heap.size ≤ g7)) ∧ (b 7 = true → (w'.heap[g7]? = some (.cells #[.int .i64 a0_0, .bool a0_1] 47 (0, 0)) ∧ w.heap.size ≤ g7)) ∧ (b 6 = true → b 8 = false → ((w'.heap[g8]? = some (.cells #[.int .i64 0] 3 (0, 0)) ∧ w.heap.size ≤ g8) ∧ g8 ≠ gh)) ∧ (b 8 = true → ((w'.heap[g8]? = some (.cells #[.int .i64 (wrap64 ((wrap64 (2 * hh)) + 1))] 3 (0, 0)) ∧ w.heap.size ≤ g8) ∧ g8 ≠ gh)) ∧ (b 5 = true → (m5_ : Value) = .pointer (some ⟨g7, 0, none⟩)) ∧ (b 6 = true → (m6_ : Value) = .pointer (some ⟨g8, 0, none⟩))) HT_.out HW_.out (by kernel_rfl) (by kernel_rfl) ?_ ?_ ?_
          · exact ⟨0, 0, .bool false, .bool false, by simp only [putSel, Bool.false_eq_true, if_false], BK.out, BH.out, HB.out, fun h_ => absurd h_ (by decide), fun h_ => absurd h_ (by decide), fun h_ => absurd h_ (by decide), fun h_ => absurd h_ (by decide), fun h_ => absurd h_ (by decide), fun h_ => absurd h_ (by decide)⟩
          · skip
            clear BH BK HB
            refine steps_cons ?_ ?_
            · rintro b a w' ⟨g7, g8, m5_, m6_, ha, Q_BK, Q_BH, Q_HB, Q_F7a, Q_F7, Q_F8a, Q_F8, Q_X5_, Q_X6_⟩ hb_ hon hoff
              refine ⟨_, rfl, fun K hK => ?_⟩
              have e2 : a.tmps[2]? = some (.pointer (some ⟨gb, 0, none⟩)) := by rw [ha]; exact (putSel_off rfl).trans rfl
              replace ha := Aside0.mk ha
              have BK := Aside0.mk Q_BK
              have BH := Aside0.mk Q_BH
              have HB := Aside0.mk Q_HB
              have q0_ : w'.cell? ⟨gb, 0, none⟩ = some (.int .i64 a0_0) := (blk_cell BK.out 0).trans rfl
              have q1_ : w'.cell? ⟨gb, 1, none⟩ = some (.bool a0_1) := (blk_cell BK.out 1).trans rfl
              have q2_ : w'.cell? ⟨gb, 2, none⟩ = some (.slice A0_2 l0_2.length c0_2) := (blk_cell BK.out 2).trans rfl
              refine value_ (w1 := w') (v := .agg #[.int .i64 a0_0, .bool a0_1, .slice A0_2 l0_2.length c0_2]) (by rfl) rfl ?_ ?_
              · go_simp
                (try simp only [i64_w])
                try rfl
              refine hK.out _ _ ⟨g7, g8, m5_, m6_, (by rw [ha.out]; exact putSel_upk 0 hb_ rfl rfl rfl), Q_BK, Q_BH, Q_HB, Q_F7a, fun h0_ => absurd ((hoff 7 (by kernel_rfl)).symm.trans h0_) (by decide), Q_F8a, fun h0_ => absurd ((hoff 8 (by kernel_rfl)).symm.trans h0_) (by decide), Q_X5_, Q_X6_⟩
            refine steps_cons ?_ ?_
            · rintro b a w' ⟨g7, g8, m5_, m6_, ha, Q_BK, Q_BH, Q_HB, Q_F7a, Q_F7, Q_F8a, Q_F8, Q_X5_, Q_X6_⟩ hb_ hon hoff
              refine ⟨_, rfl, fun K hK => ?_⟩
              have e21 : a.tmps[21]? = some (.agg #[.int .i64 a0_0, .bool a0_1, .slice A0_2 l0_2.length c0_2]) := by rw [ha]; exact putSel_on (e := (0, 21, .agg #[.int .i64 a0_0, .bool a0_1, .slice A0_2 l0_2.length c0_2])) 0 rfl rfl (hon 0 (by kernel_rfl)) rfl
              replace ha := Aside0.mk ha
              have BK := Aside0.mk Q_BK
              have BH := Aside0.mk Q_BH
              have HB := Aside0.mk Q_HB
              refine goes_ Try.func24 (by kernel_rfl) rfl #[.agg #[.int .i64 a0_0, .bool a0_1, .slice A0_2 l0_2.length c0_2]] (by rfl) rfl rfl (by first | (simp only [List.map_toArray, List.map_cons, List.map_nil, Act.eval, Array.getD_eq_getD_getElem?, Option.getD_some, e21]; done) | (simp only [List.map_toArray, List.map_cons, List.map_nil, Act.eval, Array.getD_eq_getD_getElem?, Option.getD_some, e21]; rfl)) ?_
              with_reducible refine (impl_Row_bench.calls a0_0 a0_1 _ _ l0_2 a0_0 a0_1 _ (Kd.C_below HR.out HB.out) HC.out rfl).mono ?_
              rintro e w2 ⟨rfl, hb⟩
              refine ⟨_, rfl, ?_⟩
              refine hK.out _ _ ⟨g7, g8, m5_, m6_, (by rw [ha.out]; exact putSel_upk 1 hb_ rfl rfl rfl), blk_below BK.out hb, blk_below BH.out hb, below_step HB.out hb, fun h0_ h1_ => ⟨blk_below (Q_F7a h0_ h1_).1 hb, (Q_F7a h0_ h1_).2⟩, fun h0_ => absurd ((hoff 7 (by kernel_rfl)).symm.trans h0_) (by decide), fun h0_ h1_ => ⟨⟨blk_below (Q_F8a h0_ h1_).1.1 hb, (Q_F8a h0_ h1_).1.2⟩, (Q_F8a h0_ h1_).2⟩, fun h0_ => absurd ((hoff 8 (by kernel_rfl)).symm.trans h0_) (by decide), Q_X5_, Q_X6_⟩
            refine steps_cons ?_ ?_
            · rintro b a w' ⟨g7, g8, m5_, m6_, ha, Q_BK, Q_BH, Q_HB, Q_F7a, Q_F7, Q_F8a, Q_F8, Q_X5_, Q_X6_⟩ hb_ hon hoff
              refine ⟨_, rfl, fun K hK => ?_⟩
              have e3 : a.tmps[3]? = some (.pointer (some ⟨gh, 0, none⟩)) := by rw [ha]; exact (putSel_off rfl).trans rfl
              replace ha := Aside0.mk ha
              have BK := Aside0.mk Q_BK
              have BH := Aside0.mk Q_BH
              have HB := Aside0.mk Q_HB
              have q3_ : w'.cell? ⟨gh, 0, none⟩ = some (.int .i64 hh) := (blk_cell BH.out 0).trans rfl
              refine value_ (w1 := w') (v := .int .i64 hh) (by rfl) rfl ?_ ?_
              · go_simp
                (try simp only [i64_w])
                try rfl
              refine hK.out _ _ ⟨g7, g8, m5_, m6_, (by rw [ha.out]; exact putSel_upk 2 hb_ rfl rfl rfl), Q_BK, Q_BH, Q_HB, Q_F7a, Q_F7, Q_F8a, fun h0_ => absurd ((hoff 8 (by kernel_rfl)).symm.trans h0_) (by decide), Q_X5_, Q_X6_⟩
            refine steps_cons ?_ ?_
            · rintro b a w' ⟨g7, g8, m5_, m6_, ha, Q_BK, Q_BH, Q_HB, Q_F7a, Q_F7, Q_F8a, Q_F8, Q_X5_, Q_X6_⟩ hb_ hon hoff
              refine ⟨_, rfl, fun K hK => ?_⟩
              have e23 : a.tmps[23]? = some (.int .i64 hh) := by rw [ha]; exact putSel_on (e := (2, 23, .int .i64 hh)) 2 rfl rfl (hon 2 (by kernel_rfl)) rfl
              replace ha := Aside0.mk ha
              have BK := Aside0.mk Q_BK
              have BH := Aside0.mk Q_BH
              have HB := Aside0.mk Q_HB
              refine value_ (w1 := w') (v := .int .i64 (wrap64 (2 * hh))) (by rfl) rfl ?_ ?_
              · go_simp
                (try simp only [i64_w])
                try rfl
              refine hK.out _ _ ⟨g7, g8, m5_, m6_, (by rw [ha.out]; exact putSel_upk 3 hb_ rfl rfl rfl), Q_BK, Q_BH, Q_HB, Q_F7a, Q_F7, Q_F8a, fun h0_ => absurd ((hoff 8 (by kernel_rfl)).symm.trans h0_) (by decide), Q_X5_, Q_X6_⟩
            refine steps_cons ?_ ?_
            · rintro b a w' ⟨g7, g8, m5_, m6_, ha, Q_BK, Q_BH, Q_HB, Q_F7a, Q_F7, Q_F8a, Q_F8, Q_X5_, Q_X6_⟩ hb_ hon hoff
              refine ⟨_, rfl, fun K hK => ?_⟩
              have e24 : a.tmps[24]? = some (.int .i64 (wrap64 (2 * hh))) := by rw [ha]; exact putSel_on (e := (3, 24, .int .i64 (wrap64 (2 * hh)))) 3 rfl rfl (hon 3 (by kernel_rfl)) rfl
              replace ha := Aside0.mk ha
              have BK := Aside0.mk Q_BK
              have BH := Aside0.mk Q_BH
              have HB := Aside0.mk Q_HB
              refine value_ (w1 := w') (v := .int .i64 (wrap64 ((wrap64 (2 * hh)) + 1))) (by rfl) rfl ?_ ?_
              · go_simp
                (try simp only [i64_w])
                try rfl
              refine hK.out _ _ ⟨g7, g8, m5_, m6_, (by rw [ha.out]; exact putSel_upk 4 hb_ rfl rfl rfl), Q_BK, Q_BH, Q_HB, Q_F7a, Q_F7, Q_F8a, fun h0_ => absurd ((hoff 8 (by kernel_rfl)).symm.trans h0_) (by decide), Q_X5_, Q_X6_⟩
            refine steps_cons ?_ ?_
            · rintro b a w' ⟨g7, g8, m5_, m6_, ha, Q_BK, Q_BH, Q_HB, Q_F7a, Q_F7, Q_F8a, Q_F8, Q_X5_, Q_X6_⟩ hb_ hon hoff
              refine ⟨_, rfl, fun K hK => ?_⟩
              replace ha := Aside0.mk ha
              have BK := Aside0.mk Q_BK
              have BH := Aside0.mk Q_BH
              have HB := Aside0.mk Q_HB
              refine value_ (w1 := w'.alloc (.cells #[.int .i64 0, .bool false] 47 (0, 0))) (v := .pointer (some ⟨w'.heap.size, 0, none⟩)) (by rfl) rfl ?_ ?_
              · first | (go_simp; done) | (go_simp; rfl)
              refine hK.out _ _ ⟨w'.heap.size, g8, (.pointer (some ⟨w'.heap.size, 0, none⟩)), m6_, (by rw [ha.out]; exact putSel_upk 5 hb_ rfl rfl rfl), blk_alloc BK.out _, blk_alloc BH.out _, below_alloc HB.out _, fun _ _ => ⟨blk_new _ _, below_size HB.out⟩, fun h0_ => absurd ((hoff 7 (by kernel_rfl)).symm.trans h0_) (by decide), fun h0_ h1_ => ⟨⟨blk_alloc (Q_F8a h0_ h1_).1.1 _, (Q_F8a h0_ h1_).1.2⟩, (Q_F8a h0_ h1_).2⟩, fun h0_ => absurd ((hoff 8 (by kernel_rfl)).symm.trans h0_) (by decide), fun _ => rfl, Q_X6_⟩
            refine steps_cons ?_ ?_
            · rintro b a w' ⟨g7, g8, m5_, m6_, ha, Q_BK, Q_BH, Q_HB, Q_F7a, Q_F7, Q_F8a, Q_F8, Q_X5_, Q_X6_⟩ hb_ hon hoff
              refine ⟨_, rfl, fun K hK => ?_⟩
              replace ha := Aside0.mk ha
              have BK := Aside0.mk Q_BK
              have BH := Aside0.mk Q_BH
              have HB := Aside0.mk Q_HB
              refine value_ (w1 := w'.alloc (.cells #[.int .i64 0] 3 (0, 0))) (v := .pointer (some ⟨w'.heap.size, 0, none⟩)) (by rfl) rfl ?_ ?_
              · first | (go_simp; done) | (go_simp; rfl)
              refine hK.out _ _ ⟨g7, w'.heap.size, m5_, (.pointer (some ⟨w'.heap.size, 0, none⟩)), (by rw [ha.out]; exact putSel_upk 6 hb_ rfl rfl rfl), blk_alloc BK.out _, blk_alloc BH.out _, below_alloc HB.out _, fun h0_ h1_ => ⟨blk_alloc (Q_F7a h0_ h1_).1 _, (Q_F7a h0_ h1_).2⟩, fun h0_ => absurd ((hoff 7 (by kernel_rfl)).symm.trans h0_) (by decide), fun _ _ => ⟨⟨blk_new _ _, below_size HB.out⟩, fun e_ => absurd (blk_lt BH.out) (by omega)⟩, fun h0_ => absurd ((hoff 8 (by kernel_rfl)).symm.trans h0_) (by decide), Q_X5_, fun _ => rfl⟩
            refine steps_cons ?_ ?_
            · rintro b a w' ⟨g7, g8, m5_, m6_, ha, Q_BK, Q_BH, Q_HB, Q_F7a, Q_F7, Q_F8a, Q_F8, Q_X5_, Q_X6_⟩ hb_ hon hoff
              refine ⟨_, rfl, fun K hK => ?_⟩
              have e7 : a.tmps[7]? = some (m5_) := by rw [ha]; exact putSel_on (e := (5, 7, m5_)) 5 rfl rfl (hon 5 (by kernel_rfl)) rfl
              rw [Q_X5_ (hon 5 (by kernel_rfl))] at e7
              have e22 : a.tmps[22]? = some (.agg #[.int .i64 a0_0, .bool a0_1]) := by rw [ha]; exact putSel_on (e := (1, 22, .agg #[.int .i64 a0_0, .bool a0_1])) 1 rfl rfl (hon 1 (by kernel_rfl)) rfl
              replace ha := Aside0.mk ha
              have BK := Aside0.mk Q_BK
              have BH := Aside0.mk Q_BH
              have HB := Aside0.mk Q_HB
              have F7a := Aside0.mk (Q_F7a (hon 5 (by kernel_rfl)) hb_)
              have F8a := Aside0.mk (Q_F8a (hon 6 (by kernel_rfl)) (hoff 8 (by kernel_rfl)))
              have f0_ := blk_frozen F7a.out.1 0
              have f1_ := blk_frozen F7a.out.1 1
              have n0_ := blk_ne BK.out F7a.out.1 (by decide)
              have n1_ := blk_ne BH.out F7a.out.1 (by decide)
              have n2_ := blk_ne F8a.out.1.1 F7a.out.1 (by decide)
              have c0_ := (blk_cell F7a.out.1 0).trans rfl
              have c1_ := (blk_cell F7a.out.1 1).trans rfl
              refine skip_ (w1 := (w'.setCell ⟨g7, 0, none⟩ (.int .i64 a0_0)).setCell ⟨g7, 1, none⟩ (.bool a0_1)) (by rfl) rfl ?_ ?_
              · first | (go_simp; done) | (go_simp; rfl)
              refine hK.out _ _ ⟨g7, g8, m5_, m6_, (by rw [ha.out]; exact putSel_none (v := undef) rfl), blk_far (blk_far BK.out n0_ _) n0_ _, blk_far (blk_far BH.out n1_ _) n1_ _, below_set (below_set HB.out F7a.out.2) F7a.out.2, fun _ h1_ => absurd ((up_self b 7).symm.trans h1_) (by decide), fun _ => ⟨blk_set (blk_set F7a.out.1 0 _) 1 _, F7a.out.2⟩, fun _ _ => ⟨⟨blk_far (blk_far F8a.out.1.1 n2_ _) n2_ _, F8a.out.1.2⟩, F8a.out.2⟩, fun h0_ => absurd ((hoff 8 (by kernel_rfl)).symm.trans h0_) (by decide), Q_X5_, Q_X6_⟩
            refine steps_cons ?_ ?_
            · rintro b a w' ⟨g7, g8, m5_, m6_, ha, Q_BK, Q_BH, Q_HB, Q_F7a, Q_F7, Q_F8a, Q_F8, Q_X5_, Q_X6_⟩ hb_ hon hoff
              refine ⟨_, rfl, fun K hK => ?_⟩
              have e8 : a.tmps[8]? = some (m6_) := by rw [ha]; exact putSel_on (e := (6, 8, m6_)) 6 rfl rfl (hon 6 (by kernel_rfl)) rfl
              rw [Q_X6_ (hon 6 (by kernel_rfl))] at e8
              have e25 : a.tmps[25]? = some (.int .i64 (wrap64 ((wrap64 (2 * hh)) + 1))) := by rw [ha]; exact putSel_on (e := (4, 25, .int .i64 (wrap64 ((wrap64 (2 * hh)) + 1)))) 4 rfl rfl (hon 4 (by kernel_rfl)) rfl
              replace ha := Aside0.mk ha
              have BK := Aside0.mk Q_BK
              have BH := Aside0.mk Q_BH
              have HB := Aside0.mk Q_HB
              have F7 := Aside0.mk (Q_F7 (hon 7 (by kernel_rfl)))
              have F8a := Aside0.mk (Q_F8a (hon 6 (by kernel_rfl)) hb_)
              have f0_ := blk_frozen F8a.out.1.1 0
              have n0_ := blk_ne BK.out F8a.out.1.1 (by decide)
              have n2_ := blk_ne F7.out.1 F8a.out.1.1 (by decide)
              have c0_ := (blk_cell F8a.out.1.1 0).trans rfl
              refine skip_ (w1 := w'.setCell ⟨g8, 0, none⟩ (.int .i64 (wrap64 ((wrap64 (2 * hh)) + 1)))) (by rfl) rfl ?_ ?_
              · first | (go_simp; done) | (go_simp; rfl)
              refine hK.out _ _ ⟨g7, g8, m5_, m6_, (by rw [ha.out]; exact putSel_none (v := undef) rfl), blk_far BK.out n0_ _, blk_far BH.out (fun e_ => F8a.out.2 e_.symm) _, below_set HB.out F8a.out.1.2, fun _ h1_ => absurd ((hon 7 (by kernel_rfl)).symm.trans h1_) (by decide), fun _ => ⟨blk_far F7.out.1 n2_ _, F7.out.2⟩, fun _ h1_ => absurd ((up_self b 8).symm.trans h1_) (by decide), fun _ => ⟨⟨blk_set F8a.out.1.1 0 _, F8a.out.1.2⟩, F8a.out.2⟩, Q_X5_, Q_X6_⟩
            exact steps_nil
          · rintro b a w' hall ⟨g7, g8, m5_, m6_, ha, Q_BK, Q_BH, Q_HB, Q_F7a, Q_F7, Q_F8a, Q_F8, Q_X5_, Q_X6_⟩
            clear BH BK HB
            have hb0_ := hall 0 (by kernel_rfl)
            have hb1_ := hall 1 (by kernel_rfl)
            have hb2_ := hall 2 (by kernel_rfl)
            have hb3_ := hall 3 (by kernel_rfl)
            have hb4_ := hall 4 (by kernel_rfl)
            have hb5_ := hall 5 (by kernel_rfl)
            have hb6_ := hall 6 (by kernel_rfl)
            have hb7_ := hall 7 (by kernel_rfl)
            have hb8_ := hall 8 (by kernel_rfl)
            subst ha
            obtain rfl := Q_X5_ hb5_
            obtain rfl := Q_X6_ hb6_
            simp only [putSel, hb0_, hb1_, hb2_, hb3_, hb4_, hb5_, hb6_, hb7_, hb8_, if_true, Act.put, List.setIfInBounds_toArray, List.set_cons_zero, List.set_cons_succ]
            have BK := Aside0.mk Q_BK
            clear Q_BK
            have BH := Aside0.mk Q_BH
            clear Q_BH
            have HB := Aside0.mk Q_HB
            clear Q_HB
            clear Q_F7a
            have F7 := Aside0.mk (Q_F7 hb7_)
            clear Q_F7
            clear Q_F8a
            have F8 := Aside0.mk (Q_F8 hb8_)
            clear Q_F8
            clear hall hb0_ hb1_ hb2_ hb3_ hb4_ hb5_ hb6_ hb7_ hb8_
            clear Q_X5_ Q_X6_ BK hHeld
            rw [EW.out] at F8 ⊢
            have n0_ := Aside0.mk F7.out.1
            have n1_ := Aside0.mk F8.out.1.1
            clear F7 F8
            have F7 := n0_
            have F8 := n1_
            clear n0_ n1_
            have z1_ : (wd == 0) = false := by have h_ := HZ.out; simpa using h_
            have z2_ : decide (wd = 0) = false := decide_eq_false HZ.out
            have z3_ : ¬ (wd = 0) := HZ.out
            have q7_ : w'.cell? ⟨g7, 0, none⟩ = some (.int .i64 a0_0) := (blk_cell F7.out 0).trans rfl
            have q8_ : w'.cell? ⟨g8, 0, none⟩ = some (.int .i64 wd) := (blk_cell F8.out 0).trans rfl
            go_wp2_with (first | ((with_reducible refine gate_dst (N := 9) rfl ?_); refine box_event ?hg (N := 9) ?hd (cs := #[.int .i64 0]) (t := 3) ?hr ?_; (case hd => rfl); (case hg => rfl); (case hr => first | (go_simp; done) | (go_simp; rfl)); intro gm hg_ w10 hbox hb; have GM := Aside0.mk (show w.heap.size ≤ gm by rw [hg_]; exact below_size HB.out); have n0_ := Aside0.mk (below_step HB.out hb); have BM := Aside0.mk hbox; have n1_ := Aside0.mk (blk_below BH.out hb); have n2_ := Aside0.mk (blk_below F7.out hb); have n3_ := Aside0.mk (blk_below F8.out hb); have NH := Aside0.mk (show gh ≠ gm by have h_ := blk_lt BH.out; omega); have N8 := Aside0.mk (show g8 ≠ gm by have h_ := blk_lt F8.out; omega); clear HB BH F7 F8 q7_ q8_; have HB := n0_; have BH := n1_; have F7 := n2_; have F8 := n3_; clear n0_ n1_ n2_ n3_ hbox hb hg_; have f9_ := blk_frozen BM.out 0; have c9_ := (blk_cell BM.out 0).trans rfl) | ((with_reducible refine gate_store (t := 3) (p := 9) rfl ?_); refine store_event (t := 3) (p := 9) (v := ?vo_) (w1 := w10.setCell ⟨gm, 0, none⟩ (.int .i64 mm)) ?hg ?ho ?hn ?hr ?_; (case ho => rfl); (case hg => rfl); (case hn => rfl); (case hr => rw [← E2.out]; first | (go_simp; done) | (go_simp; rfl)); intro w11 hw; have ne_ := blk_ne F7.out BM.out (by decide); have n0_ := Aside0.mk (show Below w.heap.size w w11 by rw [hw]; exact below_set HB.out GM.out); have n1_ := Aside0.mk (show w11.heap[g7]? = some (.cells #[.int .i64 a0_0, .bool a0_1] 47 (0, 0)) by rw [hw]; exact blk_far F7.out ne_ _); have n2_ := Aside0.mk (show w11.heap[gh]? = some (.cells #[.int .i64 hh] 3 (0, 0)) by rw [hw]; exact blk_far BH.out NH.out _); have n3_ := Aside0.mk (show w11.heap[g8]? = some (.cells #[.int .i64 wd] 3 (0, 0)) by rw [hw]; exact blk_far F8.out N8.out _); have n4_ := Aside0.mk (show w11.heap[gm]? = some (.cells #[.int .i64 mm] 3 (0, 0)) by rw [hw]; exact blk_set BM.out 0 _); clear HB BH F7 F8 BM f9_ c9_ ne_ hw; have HB := n0_; have F7 := n1_; have BH := n2_; have F8 := n3_; have BM := n4_; clear n0_ n1_ n2_ n3_ n4_))
            rw [E2.out]
            (try clear q7_)
            (try clear q8_)
            (try clear f9_)
            (try clear c9_)
            clear z1_ z2_ z3_
            have ne_ := blk_ne F7.out BM.out (by decide)
            have es_ : (w10.setCell ⟨gm, 0, none⟩ (.int .i64 mm)).heap.size = w10.heap.size := by simp [World.setCell]
            have nf_ := blk_new (w10.setCell ⟨gm, 0, none⟩ (.int .i64 mm)) (.cells #[.func (.func 36) #[] #[.pointer (some ⟨gm, 0, none⟩), .pointer (some ⟨g8, 0, none⟩), .pointer (some ⟨g7, 0, none⟩), .pointer (some ⟨w10.heap.size, 0, none⟩), .pointer (some ⟨gh, 0, none⟩)]] 59 (0, 0))
            rw [es_] at nf_
            have HEO := Aside0.mk (show FgEnv ((w10.setCell ⟨gm, 0, none⟩ (.int .i64 mm)).alloc (.cells #[.func (.func 36) #[] #[.pointer (some ⟨gm, 0, none⟩), .pointer (some ⟨g8, 0, none⟩), .pointer (some ⟨g7, 0, none⟩), .pointer (some ⟨w10.heap.size, 0, none⟩), .pointer (some ⟨gh, 0, none⟩)]] 59 (0, 0))) ⟨gm, 0, none⟩ ⟨g8, 0, none⟩ ⟨w10.heap.size, 0, none⟩ ⟨gh, 0, none⟩ g7 mm wd a0_0 a0_1 hh from ⟨(blk_cell (blk_alloc (blk_set BM.out 0 _) _) 0).trans rfl, (blk_cell (blk_alloc (blk_far F8.out N8.out _) _) 0).trans rfl, (blk_cell (blk_alloc (blk_far F7.out ne_ _) _) 0).trans rfl, (blk_cell (blk_alloc (blk_far F7.out ne_ _) _) 1).trans rfl, (blk_cell nf_ 0).trans rfl, (blk_cell (blk_alloc (blk_far BH.out NH.out _) _) 0).trans rfl⟩)
            have HBO := Aside0.mk (show Below w.heap.size w ((w10.setCell ⟨gm, 0, none⟩ (.int .i64 mm)).alloc (.cells #[.func (.func 36) #[] #[.pointer (some ⟨gm, 0, none⟩), .pointer (some ⟨g8, 0, none⟩), .pointer (some ⟨g7, 0, none⟩), .pointer (some ⟨w10.heap.size, 0, none⟩), .pointer (some ⟨gh, 0, none⟩)]] 59 (0, 0))) from below_alloc (below_set HB.out GM.out) _)
            clear ne_ es_ nf_ BM F7 F8 BH HB NH N8 GM GH
            generalize w10.heap.size = gf at HEO HBO ⊢
            generalize World.alloc _ _ = w13 at HEO HBO ⊢
            have n0_ := Aside0.mk (show FgEnv w13.drew ⟨gm, 0, none⟩ ⟨g8, 0, none⟩ ⟨gf, 0, none⟩ ⟨gh, 0, none⟩ g7 mm wd a0_0 a0_1 hh from HEO.out)
            have n1_ := Aside0.mk (below_drew1 HBO.out)
            clear HEO HBO HT_ HW_
            have HEO := n0_
            have HBO := n1_
            clear n0_ n1_
            refine start_ (n := 6) (S := fun w' => True) (ds := []) #[false, false, false, false, false, false] (by kernel_rfl) rfl rfl trivial (fun hHeld => ?_); refine with_tabW impl_FewestGuards.tab8 impl_FewestGuards.bits8 (fun HT_ HW_ => ?_)
            generalize w13.drew = w14 at HEO HBO ⊢
            have HX := Aside0.mk (Below.refl w14.heap.size w14)
            refine inv_at [0, 1, 2, 3, 4, 5] (fun a0_ b a w' => ∃ (v35 : Value) (v38 : Value) (m5_ : Value), a = putSel a0_ b [(0, 34, .func (.func 36) #[] #[.pointer (some ⟨gm, 0, none⟩), .pointer (some ⟨g8, 0, none⟩), .pointer (some ⟨g7, 0, none⟩), .pointer (some ⟨gf, 0, none⟩), .pointer (some ⟨gh, 0, none⟩)]), (1, 35, v35), (2, 36, .agg #[.int .i64 a0_0, .bool a0_1]), (3, 37, .int .u32 al), (4, 38, v38), (5, 11, m5_)] ∧ (Below w14.heap.size w14 w') ∧ (b 1 = true → b 4 = false → Kd.R (Kd.int .i64) 3 w' w14.heap.size (fun _ => True) v35 []) ∧ (b 4 = true → (Kd.R (Kd.int .i64) 3 w' w14.heap.size (fun _ => True) v38 o ∧ (o = [] → v38 = .slice none 0 0))) ∧ (b 5 = true → (m5_ : Value) = v38)) HT_.out HW_.out (by kernel_rfl) (by kernel_rfl) ?_ ?_ ?_
            · exact ⟨.bool false, .bool false, .bool false, by simp only [putSel, Bool.false_eq_true, if_false], HX.out, fun h_ => absurd h_ (by decide), fun h_ => absurd h_ (by decide), fun h_ => absurd h_ (by decide)⟩
            · skip
              clear HX
              refine steps_cons ?_ ?_
              · rintro b a w' ⟨v35, v38, m5_, ha, Q_HX, Q_F35, Q_F38, Q_X5_⟩ hb_ hon hoff
                refine ⟨_, rfl, fun K hK => ?_⟩
                have e10 : a.tmps[10]? = some (.pointer (some ⟨gf, 0, none⟩)) := by rw [ha]; exact (putSel_off rfl).trans rfl
                replace ha := Aside0.mk ha
                have HX := Aside0.mk Q_HX
                obtain ⟨_, _, _, _, q5_, _⟩ := HEO.out.below HX.out
                refine value_ (w1 := w') (v := .func (.func 36) #[] #[.pointer (some ⟨gm, 0, none⟩), .pointer (some ⟨g8, 0, none⟩), .pointer (some ⟨g7, 0, none⟩), .pointer (some ⟨gf, 0, none⟩), .pointer (some ⟨gh, 0, none⟩)]) (by rfl) rfl ?_ ?_
                · go_simp
                  (try simp only [i64_w])
                  try rfl
                refine hK.out _ _ ⟨v35, v38, m5_, (by rw [ha.out]; exact putSel_upk 0 hb_ rfl rfl rfl), Q_HX, Q_F35, fun h0_ => absurd ((hoff 4 (by kernel_rfl)).symm.trans h0_) (by decide), fun h0_ => absurd ((hoff 5 (by kernel_rfl)).symm.trans h0_) (by decide)⟩
              refine steps_cons ?_ ?_
              · rintro b a w' ⟨v35, v38, m5_, ha, Q_HX, Q_F35, Q_F38, Q_X5_⟩ hb_ hon hoff
                refine ⟨_, rfl, fun K hK => ?_⟩
                replace ha := Aside0.mk ha
                have HX := Aside0.mk Q_HX
                refine Kd.R_lit_step (Kd.int .i64) _ 3 ?hg (N := 35) ?hd (xs := ([] : List Int)) (inner := []) (ok := fun _ => True) (okp := fun _ => True) ?hr ?hp (fun _ hk => hk) trivial (Below.refl _ _) (Nat.le_refl _) (by simp) ?_; (case hd => rfl); (case hg => rfl); (case hr => first | (go_simp; done) | (go_simp; rfl)); (case hp => exact (Reps.none _ _))
                intro v35n w2 ho21 hb hg_ hnew_
                refine hK.out _ _ ⟨v35n, v38, m5_, (by rw [ha.out]; exact putSel_upk 1 hb_ rfl rfl rfl), below_step HX.out hb, fun _ _ => Kd.R_lower ho21 (below_size HX.out), fun h0_ => absurd ((hoff 4 (by kernel_rfl)).symm.trans h0_) (by decide), fun h0_ => absurd ((hoff 5 (by kernel_rfl)).symm.trans h0_) (by decide)⟩
              refine steps_cons ?_ ?_
              · rintro b a w' ⟨v35, v38, m5_, ha, Q_HX, Q_F35, Q_F38, Q_X5_⟩ hb_ hon hoff
                refine ⟨_, rfl, fun K hK => ?_⟩
                have e7 : a.tmps[7]? = some (.pointer (some ⟨g7, 0, none⟩)) := by rw [ha]; exact (putSel_off rfl).trans rfl
                replace ha := Aside0.mk ha
                have HX := Aside0.mk Q_HX
                obtain ⟨_, _, q4a_, q4b_, _, _⟩ := HEO.out.below HX.out
                refine value_ (w1 := w') (v := .agg #[.int .i64 a0_0, .bool a0_1]) (by rfl) rfl ?_ ?_
                · go_simp
                  (try simp only [i64_w])
                  try rfl
                refine hK.out _ _ ⟨v35, v38, m5_, (by rw [ha.out]; exact putSel_upk 2 hb_ rfl rfl rfl), Q_HX, Q_F35, fun h0_ => absurd ((hoff 4 (by kernel_rfl)).symm.trans h0_) (by decide), fun h0_ => absurd ((hoff 5 (by kernel_rfl)).symm.trans h0_) (by decide)⟩
              refine steps_cons ?_ ?_
              · rintro b a w' ⟨v35, v38, m5_, ha, Q_HX, Q_F35, Q_F38, Q_X5_⟩ hb_ hon hoff
                refine ⟨_, rfl, fun K hK => ?_⟩
                have e36 : a.tmps[36]? = some (.agg #[.int .i64 a0_0, .bool a0_1]) := by rw [ha]; exact putSel_on (e := (2, 36, .agg #[.int .i64 a0_0, .bool a0_1])) 2 rfl rfl (hon 2 (by kernel_rfl)) rfl
                replace ha := Aside0.mk ha
                have HX := Aside0.mk Q_HX
                refine goes_ Try.func32 (by kernel_rfl) rfl #[.agg #[.int .i64 a0_0, .bool a0_1]] (by rfl) rfl rfl (by first | (simp only [List.map_toArray, List.map_cons, List.map_nil, Act.eval, Array.getD_eq_getD_getElem?, Option.getD_some, e36]; done) | (simp only [List.map_toArray, List.map_cons, List.map_nil, Act.eval, Array.getD_eq_getD_getElem?, Option.getD_some, e36]; rfl)) ?_
                with_reducible refine (impl_bench_all.calls a0_0 a0_1 al _ A2.out).mono ?_
                rintro e w2 ⟨rfl, hb⟩
                refine ⟨_, rfl, ?_⟩
                refine hK.out _ _ ⟨v35, v38, m5_, (by rw [ha.out]; exact putSel_upk 3 hb_ rfl rfl rfl), below_step HX.out hb, fun h0_ h1_ => Kd.R_below (Q_F35 h0_ h1_) hb, fun h0_ => absurd ((hoff 4 (by kernel_rfl)).symm.trans h0_) (by decide), fun h0_ => absurd ((hoff 5 (by kernel_rfl)).symm.trans h0_) (by decide)⟩
              refine steps_cons ?_ ?_
              · rintro b a w' ⟨v35, v38, m5_, ha, Q_HX, Q_F35, Q_F38, Q_X5_⟩ hb_ hon hoff
                refine ⟨_, rfl, fun K hK => ?_⟩
                have e34 : a.tmps[34]? = some (.func (.func 36) #[] #[.pointer (some ⟨gm, 0, none⟩), .pointer (some ⟨g8, 0, none⟩), .pointer (some ⟨g7, 0, none⟩), .pointer (some ⟨gf, 0, none⟩), .pointer (some ⟨gh, 0, none⟩)]) := by rw [ha]; exact putSel_on (e := (0, 34, .func (.func 36) #[] #[.pointer (some ⟨gm, 0, none⟩), .pointer (some ⟨g8, 0, none⟩), .pointer (some ⟨g7, 0, none⟩), .pointer (some ⟨gf, 0, none⟩), .pointer (some ⟨gh, 0, none⟩)])) 0 rfl rfl (hon 0 (by kernel_rfl)) rfl
                have e35 : a.tmps[35]? = some (v35) := by rw [ha]; exact putSel_on (e := (1, 35, v35)) 1 rfl rfl (hon 1 (by kernel_rfl)) rfl
                have e37 : a.tmps[37]? = some (.int .u32 al) := by rw [ha]; exact putSel_on (e := (3, 37, .int .u32 al)) 3 rfl rfl (hon 3 (by kernel_rfl)) rfl
                replace ha := Aside0.mk ha
                have HX := Aside0.mk Q_HX
                have F35 := Aside0.mk (Q_F35 (hon 1 (by kernel_rfl)) hb_)
                refine goesD_ (cap := #[.pointer (some ⟨gm, 0, none⟩), .pointer (some ⟨g8, 0, none⟩), .pointer (some ⟨g7, 0, none⟩), .pointer (some ⟨gf, 0, none⟩), .pointer (some ⟨gh, 0, none⟩)]) Try.func36 (by kernel_rfl) rfl #[v35, .int .u32 al] #[v35, .int .u32 al, .pointer (some ⟨gm, 0, none⟩), .pointer (some ⟨g8, 0, none⟩), .pointer (some ⟨g7, 0, none⟩), .pointer (some ⟨gf, 0, none⟩), .pointer (some ⟨gh, 0, none⟩)] rfl (by rfl) rfl rfl (eval_of e34) (by first | (simp only [List.map_toArray, List.map_cons, List.map_nil, Act.eval, Array.getD_eq_getD_getElem?, Option.getD_some, e34, e35, e37]; done) | (simp only [List.map_toArray, List.map_cons, List.map_nil, Act.eval, Array.getD_eq_getD_getElem?, Option.getD_some, e34, e35, e37]; rfl)) ?_
                refine (impl_FewestGuards_1.calls k (fun k_ => some k_ = (v35 : Value).ownBlock) v35 [] al mm wd a0_0 a0_1 hh o w14 _ _ _ _ _ _ HEO.out HMM.out HX.out (Kd.R_tight rfl F35.out) A3.out).mono ?_
                rintro e w2 ⟨v38n, rfl, ho0, hb, hkp, hnil⟩
                refine ⟨_, rfl, ?_⟩
                refine hK.out _ _ ⟨v35, v38n, m5_, (by rw [ha.out]; exact putSel_upk 4 hb_ rfl rfl rfl), hb, fun _ h1_ => absurd ((up_self b 4).symm.trans h1_) (by decide), fun _ => ⟨Kd.R_mono ho0 (fun _ _ => trivial), hnil⟩, fun h0_ => absurd ((hoff 5 (by kernel_rfl)).symm.trans h0_) (by decide)⟩
              refine steps_cons ?_ ?_
              · rintro b a w' ⟨v35, v38, m5_, ha, Q_HX, Q_F35, Q_F38, Q_X5_⟩ hb_ hon hoff
                refine ⟨_, rfl, fun K hK => ?_⟩
                have e38 : a.tmps[38]? = some (v38) := by rw [ha]; exact putSel_on (e := (4, 38, v38)) 4 rfl rfl (hon 4 (by kernel_rfl)) rfl
                replace ha := Aside0.mk ha
                have HX := Aside0.mk Q_HX
                have F38 := Aside0.mk (Q_F38 (hon 4 (by kernel_rfl)))
                refine value_ (w1 := w') (v := v38) (by rfl) rfl ?_ ?_
                · go_simp
                  (try simp only [i64_w])
                  try rfl
                refine hK.out _ _ ⟨v35, v38, (v38), (by rw [ha.out]; exact putSel_upk 5 hb_ rfl rfl rfl), Q_HX, fun _ h1_ => absurd ((hon 4 (by kernel_rfl)).symm.trans h1_) (by decide), Q_F38, fun _ => rfl⟩
              exact steps_nil
            · rintro b a w' hall ⟨v35, v38, m5_, ha, Q_HX, Q_F35, Q_F38, Q_X5_⟩
              clear HX
              have hb0_ := hall 0 (by kernel_rfl)
              have hb1_ := hall 1 (by kernel_rfl)
              have hb2_ := hall 2 (by kernel_rfl)
              have hb3_ := hall 3 (by kernel_rfl)
              have hb4_ := hall 4 (by kernel_rfl)
              have hb5_ := hall 5 (by kernel_rfl)
              subst ha
              obtain rfl := Q_X5_ hb5_
              simp only [putSel, hb0_, hb1_, hb2_, hb3_, hb4_, hb5_, if_true, Act.put, List.setIfInBounds_toArray, List.set_cons_zero, List.set_cons_succ]
              have HX := Aside0.mk Q_HX
              clear Q_HX
              clear Q_F35
              have F38 := Aside0.mk (Q_F38 hb4_)
              clear Q_F38
              clear hall hb0_ hb1_ hb2_ hb3_ hb4_ hb5_
              clear hHeld HT_ HW_
              obtain ⟨qm_, _, _, _, _, _⟩ := HEO.out.below HX.out
              have HO := Aside0.mk (Kd.R_lower F38.out.1 (below_size HBO.out))
              have hnil := F38.out.2
              have HB2 := Aside0.mk (below_step HBO.out HX.out)
              clear F38 HX HEO HBO
              by_cases ho0 : o = []
              · obtain rfl := hnil ho0
                subst ho0
                clear hnil
                go_wp2
                go_ret3
                exact ⟨_, rfl, HO.out, HB2.out⟩
              · clear hnil
                obtain ⟨Ao, co, eo⟩ := Kd.R_slice HO.out
                subst eo
                have hp : 0 < o.length := List.length_pos_iff.2 ho0
                obtain ⟨ad, ea, _⟩ := Kd.at_int (Kd.R_reads' HO.out).2.2 0 (by omega) (by omega)
                cases ea
                have HE := Aside0.mk (show (!o.isEmpty) = true by cases o with
                  | nil => exact absurd rfl ho0
                  | cons _ _ => rfl)
                clear hp ho0
                go_wp2
                go_ret3
                exact ⟨_, by first | (rw [HE.out]; rfl) | (simp [HE.out]; done), HO.out, HB2.out⟩
      · rw [if_neg c1] at H
        exact absurd H (by simp)


/-! ### laws_markIntS: function 18 -/
def laws_markIntS.l0 : Nat → List Int → Int → Int → Option (Int × List Int)
  | 0, _, _, _ => none
  | k + 1, x0, x1, x5 => if x5 < (x0.length : Int) then (if 0 ≤ x5 then (laws_markIntS.l0 k (x0.set (x5 : Int).toNat x1) (wrap64 (x1 + 1)) (wrap64 (x5 + 1))) else (none)) else (some (x1, x0))
def laws_markIntS.f (k : Nat) (l0 : List Int) (a1 : Int) : Option (Int × List Int) := laws_markIntS.l0 k l0 a1 0
theorem laws_markIntS.mono_l : ∀ k, (∀ y0 y1 y2, LeO (laws_markIntS.l0 k y0 y1 y2) (laws_markIntS.l0 (k + 1) y0 y1 y2))
  | 0 => fun _ _ _ r h => by simp [laws_markIntS.l0] at h
  | k + 1 => by
    have ih0 := laws_markIntS.mono_l k
    · intro y0 y1 y2
      unfold laws_markIntS.l0
      repeat' first
      | (with_reducible exact ih0 _ _ _)
      | (with_reducible exact LeO.refl _)
      | (with_reducible exact LeO.none _)
      | (with_reducible refine LeO.ite ?_ ?_)
      | (with_reducible refine LeO.bind ?_ (fun _ => ?_))
      | exact ih0 _ _ _
      | exact LeO.none _
      | refine LeO.ite ?_ ?_
      | refine LeO.bind ?_ (fun _ => ?_)
theorem laws_markIntS.mono : ∀ a0 a1 k, LeO (laws_markIntS.f k a0 a1) (laws_markIntS.f (k + 1) a0 a1) := by
  intro a0 a1 k
  have ih0 := laws_markIntS.mono_l k
  unfold laws_markIntS.f
  repeat' first
      | (with_reducible exact ih0 _ _ _)
      | (with_reducible exact LeO.refl _)
      | (with_reducible exact LeO.none _)
      | (with_reducible refine LeO.ite ?_ ?_)
      | (with_reducible refine LeO.bind ?_ (fun _ => ?_))
      | exact ih0 _ _ _
      | exact LeO.none _
      | refine LeO.ite ?_ ?_
      | refine LeO.bind ?_ (fun _ => ?_)
set_option maxHeartbeats 8000000 in
set_option maxRecDepth 100000 in
theorem laws_markIntS.calls (k : Nat) (P0_ : Nat → Prop) (u9000_ : Value) (l0 : List Int) (a1 : Int) (r1 : Int) (r2 : List Int) (w0 w : World) (hB : Below w0.heap.size w0 w) (ho0 : Kd.R (Kd.int .i64) 3 w w0.heap.size P0_ u9000_ l0) (h : laws_markIntS.f k l0 a1 = some (r1, r2)) :
    Calls Try.prog 18 #[u9000_, .int .i64 a1] w fun e w' => e = .returned (.int .i64 r1) ∧ Kd.R (Kd.int .i64) 3 w' w0.heap.size (fun k_ => (P0_ k_ ∨ w.heap.size ≤ k_)) u9000_ r2 ∧ Below w0.heap.size w0 w' ∧ Kept w w' (fun k_ => P0_ k_) := by
  have HO0 := Aside0.mk (show Kd.R (Kd.int .i64) 3 w w0.heap.size (fun k_ => (P0_ k_ ∨ w.heap.size ≤ k_)) u9000_ l0 from Kd.R_mono ho0 (fun k_ hk => (.inl hk)))
  have HK := Aside0.mk (Kept.refl w (fun k_ => P0_ k_))
  have HW0 := Aside0.mk hB.size
  have HB := Aside0.mk hB
  clear hB
  have H : (laws_markIntS.l0 k l0 a1 0) = some (r1, r2) := h
  clear h
  have H' := Aside0.mk H
  clear H
  go_enter Try.func18, Try.ntmps18
  go_wp2
  go_loopg [1, 5] k (fun kq v1 v5 w' => ∃ (x0_1 : List Int) (x1_1 : Int) (x5_1 : Int), v1 = .int .i64 x1_1 ∧ v5 = .int .i64 x5_1 ∧ Aside0 (laws_markIntS.l0 kq x0_1 x1_1 x5_1 = some (r1, r2)) ∧ Aside0 (kq ≤ k) ∧ Aside0 (Kd.R (Kd.int .i64) 3 w' w0.heap.size (fun k_ => (P0_ k_ ∨ w.heap.size ≤ k_)) u9000_ x0_1) ∧ Aside0 (Kept w w' (fun k_ => P0_ k_)) ∧ Aside0 (Below w0.heap.size w0 w'))
  case atStart => exact ⟨(l0), (a1), (0), (by first | rfl | (simp; done) | (simp [*]; done)), (by first | rfl | (simp; done) | (simp [*]; done)), H', ⟨Nat.le_refl _⟩, ⟨by (with_reducible repeat (first | apply Kd.R_alloc | apply Kd.R_drewN | apply Kd.R_drew)); exact HO0.out⟩, ⟨by repeat (first | (with_reducible first | exact HK.out | apply Kept.alloc | apply Kept.drewN | apply Kept.drew) | exact HK.out)⟩, ⟨by repeat (first | (with_reducible first | exact HB.out | apply below_alloc | apply pw_below_drewN | apply below_drew1) | exact HB.out)⟩⟩
  case round =>
    clear H'
    try clear c1
    try clear p2
    obtain ⟨x0_1, x1_1, x5_1, rfl, rfl, HA, HK1, HO_0, HK, HB⟩ := hrel
    cases gk with
    | zero => exact absurd HA.out (by simp [laws_markIntS.l0])
    | succ k1 =>
      have H := HA.out
      clear HA
      simp only [laws_markIntS.l0] at H
      by_cases c3 : x5_1 < (x0_1.length : Int)
      · rw [if_pos c3] at H
        have c3b0 : decide (x5_1 < (x0_1.length : Int)) = true := decide_eq_true c3
        clear c3
        by_cases c4 : 0 ≤ x5_1
        · rw [if_pos c4] at H
          have c4b0 : decide (0 ≤ x5_1) = true := decide_eq_true c4
          clear c4
          obtain ⟨y206, hy206⟩ : ∃ y_ : List Int, y_ = (x0_1.set (x5_1 : Int).toNat x1_1) := ⟨_, rfl⟩
          replace H : (laws_markIntS.l0 k1 y206 (wrap64 (x1_1 + 1)) (wrap64 (x5_1 + 1))) = some (r1, r2) := by first | (rw [hy206]; with_reducible exact H) | (have H2_ := (Option.bind_some _ _).symm.trans H; rw [hy206]; with_reducible exact H2_) | (have H2_ := (Option.bind_some _ _).symm.trans H; with_reducible exact H2_) | with_reducible exact H | (rw [hy206]; exact H) | exact H
          have Ny206 := Aside0.mk hy206
          clear hy206
          have H' := Aside0.mk H
          clear H
          obtain ⟨Ao6, co6, eo6⟩ := Kd.R_slice HO_0.out
          subst eo6
          have p5 : 0 ≤ (x5_1 : Int) := of_decide_eq_true (by first | (with_reducible assumption) | assumption)
          have q5 : (x5_1 : Int) < ((x0_1.length : Int) : Int) := of_decide_eq_true (by first | (with_reducible assumption) | assumption)
          obtain ⟨go5, co5, eo5, gb5, gl5, cl5, HG5⟩ := Kd.R_form HO_0.out (by omega)
          (first | cases eo5 | (injection eo5 with ea_ en_ ec_; (first | subst ea_ | (injection ea_ with ea_; subst ea_)); subst ec_; clear en_))
          have GB5 := Aside0.mk gb5
          have GG5 := Aside0.mk HG5
          clear gb5 gl5 HG5
          have HMgo5 := Aside0.mk (show (P0_ go5 ∨ w.heap.size ≤ go5) from (HO_0.out.1 _ rfl))
          obtain ⟨hx5_0, hf5_0⟩ := Kd.R_celln 0 HO_0.out (x5_1 : Int) p5 q5
          replace p5 := eq_true p5
          replace q5 := eq_true q5
          have HP7 := Kd.R_putg HO_0.out (x5_1 : Int) x1_1
          go_wp2_with (first | ((with_reducible refine gate_store (t := 3) (p := 15) rfl ?_); refine store_event (t := 3) (p := 15) (v := ?vo_w8) (w1 := (wr.setCell ⟨go5, (x5_1 : Int).toNat, none⟩ (.int .i64 x1_1))) ?hg ?ho ?hn ?hr ?_; (case ho => rfl); (case hg => rfl); (case hn => rfl); (case hr => first | (go_simp; done) | (go_simp; rfl)); intro w8 hw; have hg : wr.grownBy w8 (some go5) := (by rw [hw]; exact HP7.2); have hp_ : Kd.R (Kd.int .i64) 3 w8 w0.heap.size (fun k_ => (P0_ k_ ∨ w.heap.size ≤ k_)) (.slice (some ⟨go5, 0, none⟩) x0_1.length co6) y206 := (by rw [hw, Ny206.out]; exact HP7.1); clear HP7; have n0_ := Aside0.mk (hp_); have n1_ := Aside0.mk ((by rw [hw]; exact below_set (HB.out) GB5.out : Below w0.heap.size w0 w8)); have n2_ := Aside0.mk (Kept.of_grown (S := (fun k_ => P0_ k_)) hg (by repeat (first | (with_reducible first | exact HK.out | apply Kept.alloc | apply Kept.drewN | apply Kept.drew) | exact HK.out)) (fun k_ e_ => (HO_0.out.1 k_ e_))); clear HO_0; clear HB; clear HK; have HO_0 := n0_; have HB := n1_; have HK := n2_; clear n0_ n1_ n2_; clear hg hw hp_))
          go_roundg k1
          case measure => have := HK1.out; omega
          case rel => exact ⟨(y206), (wrap64 (x1_1 + 1)), (wrap64 (x5_1 + 1)), (by first | rfl | (simp; done) | (simp [*]; done)), (by first | rfl | (simp; done) | (simp [*]; done)), H', ⟨by have := HK1.out; omega⟩, ⟨by (with_reducible repeat (first | apply Kd.R_alloc | apply Kd.R_drewN | apply Kd.R_drew)); exact HO_0.out⟩, ⟨by repeat (first | (with_reducible first | exact HK.out | apply Kept.alloc | apply Kept.drewN | apply Kept.drew) | exact HK.out)⟩, ⟨by repeat (first | (with_reducible first | exact HB.out | apply below_alloc | apply pw_below_drewN | apply below_drew1) | exact HB.out)⟩⟩
        · rw [if_neg c4] at H
          exact absurd H (by simp)
      · rw [if_neg c3] at H
        have c3b0 : decide (x5_1 < (x0_1.length : Int)) = false := decide_eq_false c3
        clear c3
        simp only [Option.some.injEq, Prod.mk.injEq] at H
        obtain ⟨rfl, rfl⟩ := H
        obtain ⟨Ao9, co9, eo9⟩ := Kd.R_slice HO_0.out
        subst eo9
        go_wp2
        go_ret
        exact ⟨by first | rfl | (simp [errW_none, errW_some] <;> rfl) | (simp [*, errW_none, errW_some] <;> rfl), by (with_reducible repeat (first | apply Kd.R_alloc | apply Kd.R_drewN | apply Kd.R_drew)); exact HO_0.out, by repeat (first | (with_reducible first | exact HB.out | apply below_alloc | apply pw_below_drewN | apply below_drew1) | exact HB.out), by repeat (first | (with_reducible first | exact HK.out | apply Kept.alloc | apply Kept.drewN | apply Kept.drew) | exact HK.out)⟩

/-! ### laws_markRow: function 17 -/
def laws_markRow.f (k : Nat) (a0_0 : Int) (a0_1 : Bool) (l0_2 : List Int) (a1 : Int) : Option (Int × List Int) := (laws_markIntS.f k l0_2 a1).bind fun bt208 => (some (bt208.1, bt208.2))
theorem laws_markRow.mono : ∀ a0 a1 a2 a3 k, LeO (laws_markRow.f k a0 a1 a2 a3) (laws_markRow.f (k + 1) a0 a1 a2 a3) := by
  intro a0 a1 a2 a3 k
  unfold laws_markRow.f
  repeat' first
      | (with_reducible exact laws_markIntS.mono _ _ _)
      | (with_reducible exact LeO.refl _)
      | (with_reducible exact LeO.none _)
      | (with_reducible refine LeO.ite ?_ ?_)
      | (with_reducible refine LeO.bind ?_ (fun _ => ?_))
      | exact laws_markIntS.mono _ _ _
      | exact LeO.none _
      | refine LeO.ite ?_ ?_
      | refine LeO.bind ?_ (fun _ => ?_)
set_option maxHeartbeats 8000000 in
set_option maxRecDepth 100000 in
theorem laws_markRow.calls (k : Nat) (a0_0 : Int) (a0_1 : Bool) (P0_2_ : Nat → Prop) (u9000_ : Value) (l0_2 : List Int) (a1 : Int) (r1 : Int) (r2 : List Int) (w0 w : World) (hB : Below w0.heap.size w0 w) (ho0_2 : Kd.R (Kd.int .i64) 3 w w0.heap.size P0_2_ u9000_ l0_2) (h : laws_markRow.f k a0_0 a0_1 l0_2 a1 = some (r1, r2)) :
    Calls Try.prog 17 #[.agg #[.int .i64 a0_0, .bool a0_1, u9000_], .int .i64 a1] w fun e w' => e = .returned (.int .i64 r1) ∧ Kd.R (Kd.int .i64) 3 w' w0.heap.size (fun k_ => (P0_2_ k_ ∨ w.heap.size ≤ k_)) u9000_ r2 ∧ Below w0.heap.size w0 w' ∧ Kept w w' (fun k_ => P0_2_ k_) := by
  have hu28 := Try.underlying28
  have HO0_2 := Aside0.mk (show Kd.R (Kd.int .i64) 3 w w0.heap.size (fun k_ => (P0_2_ k_ ∨ w.heap.size ≤ k_)) u9000_ l0_2 from Kd.R_mono ho0_2 (fun k_ hk => (.inl hk)))
  have HK := Aside0.mk (Kept.refl w (fun k_ => P0_2_ k_))
  have HW0 := Aside0.mk hB.size
  have HB := Aside0.mk hB
  clear hB
  have H : ((laws_markIntS.f k l0_2 a1).bind fun bt208 => (some (bt208.1, bt208.2))) = some (r1, r2) := h
  clear h
  replace H := Option.bind_eq_some_iff.mp H
  obtain ⟨⟨t208, t209⟩, A30, H⟩ := H
  replace H : (some (t208, t209)) = some (r1, r2) := H
  have A3 := Aside0.mk A30
  clear A30
  simp only [Option.some.injEq, Prod.mk.injEq] at H
  obtain ⟨rfl, rfl⟩ := H
  obtain ⟨Ao4, co4, eo4⟩ := Kd.R_slice HO0_2.out
  subst eo4
  go_enter Try.func17, Try.ntmps17
  go_wp2_with (first | ((with_reducible refine gate_dst (N := 2) rfl ?_); refine box_event ?hg (N := 2) ?hd (cs := #[.int .i64 a0_0, .bool a0_1, .slice Ao4 l0_2.length co4]) (t := 28) ?hr ?_; (case hd => rfl); (case hg => rfl); (case hr => first | (go_simp; done) | (go_simp; rfl)); intro gb207 hg w5 hbox hb; have n0_ := Aside0.mk (Kd.R_below (by (with_reducible repeat (first | apply Kd.R_alloc | apply Kd.R_drewN | apply Kd.R_drew)); exact HO0_2.out) hb); have n1_ := Aside0.mk (Kept.below (S := (fun k_ => P0_2_ k_)) (by repeat (first | (with_reducible first | exact HK.out | apply Kept.alloc | apply Kept.drewN | apply Kept.drew) | exact HK.out)) hb); have n2_ := Aside0.mk (below_step (by repeat (first | (with_reducible first | exact HB.out | apply below_alloc | apply pw_below_drewN | apply below_drew1) | exact HB.out)) hb); have n3_ := Aside0.mk (hbox); have n4_ := Aside0.mk ((by rw [hg]; exact (by first | exact HK.out.1 | exact (show Kept w _ (fun k_ => P0_2_ k_) from by repeat (first | (with_reducible first | exact HK.out | apply Kept.alloc | apply Kept.drewN | apply Kept.drew) | exact HK.out)).1) : w.heap.size ≤ gb207)); have n5_ := Aside0.mk ((by rw [hg]; exact (below_size (by repeat (first | (with_reducible first | exact HB.out | apply below_alloc | apply pw_below_drewN | apply below_drew1) | exact HB.out))) : w0.heap.size ≤ gb207)); clear HO0_2; clear HK; clear HB; have HO0_2 := n0_; have HK := n1_; have HB := n2_; have BK207 := n3_; have GW207 := n4_; have GE207 := n5_; clear n0_ n1_ n2_ n3_ n4_ n5_; clear hb hbox hg; have hcz6_0 : w5.cell? ⟨gb207, 0, none⟩ = some (.int .i64 a0_0) := (blk_cell BK207.out 0).trans rfl; have hcz6_1 : w5.cell? ⟨gb207, 1, none⟩ = some (.bool a0_1) := (blk_cell BK207.out 1).trans rfl; have hcz6_2 : w5.cell? ⟨gb207, 2, none⟩ = some (.slice Ao4 l0_2.length co4) := (blk_cell BK207.out 2).trans rfl; have hfz6_0 := blk_frozen BK207.out 0; have hfz6_1 := blk_frozen BK207.out 1; have hfz6_2 := blk_frozen BK207.out 2) | ((with_reducible refine gate_callee (f := 18) rfl ?_); refine goesL_ (some 8) rfl rfl Try.func18 (by kernel_rfl) rfl #[.slice Ao4 l0_2.length co4, .int .i64 a1] rfl (by (try simp only [List.map_toArray, List.map_cons, List.map_nil]); first | done | rfl | (simp only [List.length_drop, List.length_take]; rfl)) ?_; (with_reducible refine (laws_markIntS.calls k (fun k_ => some k_ = (.slice Ao4 l0_2.length co4 : Value).ownBlock) (.slice Ao4 l0_2.length co4) l0_2 a1 t208 t209 w0 _ ?side1 ?side2 A3.out).mono ?_); (case side1 => repeat (first | (with_reducible first | exact HB.out | apply below_alloc | apply pw_below_drewN | apply below_drew1 | refine below_set ?_ GE207.out) | exact HB.out)); (case side2 => exact Kd.R_tight rfl HO0_2.out); rintro e w7 ⟨rfl, hy0, hb, hkp⟩; refine ⟨_, rfl, ?_⟩; have n0_ := Aside0.mk (Kd.R_reok rfl hy0 (fun k_ e_ => HO0_2.out.1 k_ e_)); have n1_ := Aside0.mk (blk_kept (by first | (with_reducible exact BK207.out) | ((with_reducible repeat (first | refine blk_drewN ?_ _ | refine blk_drew ?_ | refine blk_alloc ?_ _)); exact BK207.out)) hkp (fun hs_ => (fun e_ => (Kd.R_ne HO0_2.out BK207.out (by decide)) e_) hs_)); have n2_ := Aside0.mk (Kept.then_ (S := (fun k_ => P0_2_ k_)) (by repeat (first | (with_reducible first | exact HK.out | apply Kept.alloc | apply Kept.drewN | apply Kept.drew | refine Kept.setCell ?_ (.inr GW207.out) _) | exact HK.out)) hkp (fun k_ hs_ => (fun e_ => (HO0_2.out.1 k_ e_.symm)) hs_)); have n3_ := Aside0.mk (hb); clear HO0_2; clear BK207; clear HK; clear HB; have HO0_2 := n0_; have BK207 := n1_; have HK := n2_; have HB := n3_; clear n0_ n1_ n2_ n3_; (try clear hb); (try clear hkp); (try clear hy0)))
  go_ret
  exact ⟨by first | rfl | (simp [errW_none, errW_some] <;> rfl) | (simp [*, errW_none, errW_some] <;> rfl), by (with_reducible repeat (first | apply Kd.R_alloc | apply Kd.R_drewN | apply Kd.R_drew)); exact HO0_2.out, by repeat (first | (with_reducible first | exact HB.out | apply below_alloc | apply pw_below_drewN | apply below_drew1 | refine below_set ?_ GE207.out) | exact HB.out), by repeat (first | (with_reducible first | exact HK.out | apply Kept.alloc | apply Kept.drewN | apply Kept.drew | refine Kept.setCell ?_ (.inr GW207.out) _) | exact HK.out)⟩

/-! ### laws_heldIntS: function 19 -/
def laws_heldIntS.l0 : Nat → List Int → Int → Int → Option (Int)
  | 0, _, _, _ => none
  | k + 1, x0, x1, x5 => if x5 < (x0.length : Int) then (if 0 ≤ x5 then (if (rd x0 x5) = x1 then (laws_heldIntS.l0 k x0 (wrap64 (x1 + 1)) (wrap64 (x5 + 1))) else (some (-1))) else (none)) else (some x1)
def laws_heldIntS.f (k : Nat) (l0 : List Int) (a1 : Int) : Option (Int) := laws_heldIntS.l0 k l0 a1 0
theorem laws_heldIntS.mono_l : ∀ k, (∀ y0 y1 y2, LeO (laws_heldIntS.l0 k y0 y1 y2) (laws_heldIntS.l0 (k + 1) y0 y1 y2))
  | 0 => fun _ _ _ r h => by simp [laws_heldIntS.l0] at h
  | k + 1 => by
    have ih0 := laws_heldIntS.mono_l k
    · intro y0 y1 y2
      unfold laws_heldIntS.l0
      repeat' first
      | (with_reducible exact ih0 _ _ _)
      | (with_reducible exact LeO.refl _)
      | (with_reducible exact LeO.none _)
      | (with_reducible refine LeO.ite ?_ ?_)
      | (with_reducible refine LeO.bind ?_ (fun _ => ?_))
      | exact ih0 _ _ _
      | exact LeO.none _
      | refine LeO.ite ?_ ?_
      | refine LeO.bind ?_ (fun _ => ?_)
theorem laws_heldIntS.mono : ∀ a0 a1 k, LeO (laws_heldIntS.f k a0 a1) (laws_heldIntS.f (k + 1) a0 a1) := by
  intro a0 a1 k
  have ih0 := laws_heldIntS.mono_l k
  unfold laws_heldIntS.f
  repeat' first
      | (with_reducible exact ih0 _ _ _)
      | (with_reducible exact LeO.refl _)
      | (with_reducible exact LeO.none _)
      | (with_reducible refine LeO.ite ?_ ?_)
      | (with_reducible refine LeO.bind ?_ (fun _ => ?_))
      | exact ih0 _ _ _
      | exact LeO.none _
      | refine LeO.ite ?_ ?_
      | refine LeO.bind ?_ (fun _ => ?_)
set_option maxHeartbeats 8000000 in
set_option maxRecDepth 100000 in
theorem laws_heldIntS.calls (k : Nat) (A0 : Option Addr) (c0 : Nat) (l0 : List Int) (a1 : Int) (r : Int) (w : World) (hr0 : Kd.C (Kd.int .i64) w A0 l0.length l0) (hc0 : l0.length ≤ c0) (h : laws_heldIntS.f k l0 a1 = some r) :
    Calls Try.prog 19 #[.slice A0 l0.length c0, .int .i64 a1] w fun e w' => e = .returned (.int .i64 r) ∧ Drawn0 w w' := by
  have HR0 := Aside0.mk hr0
  have HC0 := Aside0.mk hc0
  clear hr0 hc0
  have H : (laws_heldIntS.l0 k l0 a1 0) = some r := h
  clear h
  have H' := Aside0.mk H
  clear H
  go_enter Try.func19, Try.ntmps19
  go_wp2
  go_loopg [1, 5] k (fun kq v1 v5 w' => ∃ (x1_1 : Int) (x5_1 : Int), v1 = .int .i64 x1_1 ∧ v5 = .int .i64 x5_1 ∧ Aside0 (laws_heldIntS.l0 kq l0 x1_1 x5_1 = some r) ∧ Aside0 (kq ≤ k) ∧ Drawn0 w w')
  case atStart => exact ⟨(a1), (0), (by first | rfl | (simp; done) | (simp [*]; done)), (by first | rfl | (simp; done) | (simp [*]; done)), H', ⟨Nat.le_refl _⟩, by repeat (first | exact Drawn0.refl _ | apply Drawn0.step)⟩
  case round =>
    clear H'
    try clear c1
    try clear p2
    obtain ⟨x1_1, x5_1, rfl, rfl, HA, HK1, ⟨m1, rfl⟩⟩ := hrel
    cases gk with
    | zero => exact absurd HA.out (by simp [laws_heldIntS.l0])
    | succ k1 =>
      have H := HA.out
      clear HA
      simp only [laws_heldIntS.l0] at H
      by_cases c3 : x5_1 < (l0.length : Int)
      · rw [if_pos c3] at H
        have c3b0 : decide (x5_1 < (l0.length : Int)) = true := decide_eq_true c3
        clear c3
        by_cases c4 : 0 ≤ x5_1
        · rw [if_pos c4] at H
          have c4b0 : decide (0 ≤ x5_1) = true := decide_eq_true c4
          clear c4
          by_cases c5 : (rd l0 x5_1) = x1_1
          · rw [if_pos c5] at H
            have c5b0 : ((rd l0 x5_1) == x1_1) = true := beq_iff_eq.mpr c5
            have c5b1 : ((rd l0 x5_1) != x1_1) = false := bne_eq_false_iff_eq.mpr c5
            clear c5
            have H' := Aside0.mk H
            clear H
            have p210 : 0 ≤ (x5_1 : Int) := of_decide_eq_true (by first | (with_reducible assumption) | assumption)
            have q210 : x5_1 < (l0.length : Int) := of_decide_eq_true (by first | (with_reducible assumption) | assumption)
            obtain ⟨ad210, e210, hx210_0⟩ := Kd.at_int HR0.out x5_1 p210 q210
            cases e210
            replace p210 := eq_true p210
            replace q210 := eq_true q210
            go_wp2
            go_roundg k1
            case measure => have := HK1.out; omega
            case rel => exact ⟨(wrap64 (x1_1 + 1)), (wrap64 (x5_1 + 1)), (by first | rfl | (simp; done) | (simp [*]; done)), (by first | rfl | (simp; done) | (simp [*]; done)), H', ⟨by have := HK1.out; omega⟩, by repeat (first | exact Drawn0.refl _ | apply Drawn0.step)⟩
          · rw [if_neg c5] at H
            have c5b0 : ((rd l0 x5_1) == x1_1) = false := beq_eq_false_iff_ne.mpr c5
            have c5b1 : ((rd l0 x5_1) != x1_1) = true := bne_iff_ne.mpr c5
            obtain rfl := Option.some.inj H
            have p210 : 0 ≤ (x5_1 : Int) := of_decide_eq_true (by first | (with_reducible assumption) | assumption)
            have q210 : x5_1 < (l0.length : Int) := of_decide_eq_true (by first | (with_reducible assumption) | assumption)
            obtain ⟨ad210, e210, hx210_0⟩ := Kd.at_int HR0.out x5_1 p210 q210
            cases e210
            replace p210 := eq_true p210
            replace q210 := eq_true q210
            go_wp2
            go_ret
            exact ⟨by first | rfl | (simp; done) | (simp [*]; done), by repeat (first | exact Drawn0.refl _ | apply Drawn0.step)⟩
        · rw [if_neg c4] at H
          exact absurd H (by simp)
      · rw [if_neg c3] at H
        have c3b0 : decide (x5_1 < (l0.length : Int)) = false := decide_eq_false c3
        clear c3
        obtain rfl := Option.some.inj H
        go_wp2
        go_ret
        exact ⟨by first | rfl | (simp; done) | (simp [*]; done), by repeat (first | exact Drawn0.refl _ | apply Drawn0.step)⟩

end Go.Proofs.Ytnchmnkljneedaa.PFnExactFewestGuards
