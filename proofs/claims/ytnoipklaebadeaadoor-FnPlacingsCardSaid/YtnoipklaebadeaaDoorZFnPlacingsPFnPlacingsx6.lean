import Derived.Test.YtnoipklaebadeaaDoorZFnPlacingsPFnPlacingsx0
import Derived.Test.YtnoipklaebadeaaDoorZFnPlacingsPFnPlacingsx1
import Derived.Test.YtnoipklaebadeaaDoorZFnPlacingsPFnPlacingsx4
import Derived.Test.YtnoipklaebadeaaDoorZFnPlacingsPFnPlacingsx5
namespace Go.Proofs.YtnoipklaebadeaaDoor.PFnPlacings
open Go.RowKit Go.Proofs.YtnoipklaebadeaaDoorW.PrintWords Go.Proofs.YtnoipklaebadeaaDoorW.PrintLast Go.Proofs.YtnoipklaebadeaaDoorW.PrintMore
attribute [local go_sem] max2_int min2_int max_two min_two max_three min_three max_four min_four   -- for this text's walks alone
set_option linter.unusedVariables false
set_option linter.unusedSimpArgs false

/-! ### spec_l2With: function 30 -/
def spec_l2With.f (k : Nat) (a0_0 : Int) (a0_1 : Bool) (l0_2 : List Int) (a1 : Int) : Option (Int × Bool × List Int) := (spec_l1Own.f l0_2).bind fun t227 => ((spec_l1Put.f k t227 a1).bind fun t230 => ((spec_l2Made.f a0_0 a0_1 l0_2 t230).bind fun bt233 => (some (bt233.1, bt233.2.1, bt233.2.2))))
def spec_l2With.T1 : Bool × List (List Nat × List Nat) := (true, [([], []), ([], []), ([1], [1]), ([2], [2]), ([], []), ([3, 4, 3], [3, 4]), ([0, 5, 5], [0, 5]), ([6, 6, 0, 1, 2, 3, 4, 5, 6], [6])])
def spec_l2With.B1 : List Nat := [0, 0, 2, 6, 0, 30, 63, 127]
theorem spec_l2With.tab1 : rtab .any (opsOf Tryd.f30 1) = spec_l2With.T1 := by kernel_rfl
theorem spec_l2With.bits1 : waitsOk spec_l2With.T1.2 spec_l2With.B1 = true := by kernel_rfl
set_option maxHeartbeats 8000000 in
set_option maxRecDepth 100000 in
theorem spec_l2With.calls (k : Nat) (a0_0 : Int) (a0_1 : Bool) (A0_2 : Option Addr) (c0_2 : Nat) (l0_2 : List Int) (a1 : Int) (r1 : Int) (r2 : Bool) (r3 : List Int) (w : World) (hr0_2 : Kd.C (Kd.int .i64) w A0_2 l0_2.length l0_2) (hc0_2 : l0_2.length ≤ c0_2) (h : spec_l2With.f k a0_0 a0_1 l0_2 a1 = some (r1, r2, r3)) :
  Calls Tryd.prog 30 #[.agg #[.int .i64 a0_0, .bool a0_1, .slice A0_2 l0_2.length c0_2], .int .i64 a1] w fun e w' => ∃ v2_ : Value, e = .returned (.agg #[.int .i64 r1, .bool r2, v2_]) ∧ Kd.V (Kd.int .i64) 3 w' w.heap.size (fun k_ => (w.heap.size ≤ k_)) v2_ r3 ∧ Below w.heap.size w w' := by
 have hu26 := Tryd.underlying26
 have HR0_2 := am hr0_2
 have HC0_2 := am hc0_2
 clear hr0_2 hc0_2
 have HB := am (Below.refl w.heap.size w)
 have H : ((spec_l1Own.f l0_2).bind fun t227 => ((spec_l1Put.f k t227 a1).bind fun t230 => ((spec_l2Made.f a0_0 a0_1 l0_2 t230).bind fun bt233 => (some (bt233.1, bt233.2.1, bt233.2.2))))) = some (r1, r2, r3) := h
 clear h
 replace H := Option.bind_eq_some_iff.mp H
 obtain ⟨t227, A30, H⟩ := H
 try dsimp only at H
 have A3 := am A30
 clear A30
 replace H := Option.bind_eq_some_iff.mp H
 obtain ⟨t230, A40, H⟩ := H
 try dsimp only at H
 have A4 := am A40
 clear A40
 replace H := Option.bind_eq_some_iff.mp H
 obtain ⟨⟨t233, t234, t235⟩, A50, H⟩ := H
 try dsimp only at H
 have A5 := am A50
 clear A50
 simp only [Option.some.injEq, Prod.mk.injEq] at H
 obtain ⟨rfl, rfl, rfl⟩ := H
 go_enter Tryd.func30, Tryd.ntmps30
 try go_wp2_with (first | ((with_reducible refine gate_dst (N := 2) rfl ?_); refine box_event ?hg (N := 2) ?hd (cs := #[.int .i64 a0_0, .bool a0_1, .slice A0_2 l0_2.length c0_2]) (t := 26) ?hr ?_; (case hd => rfl); (case hg => rfl); (case hr => first | (go_simp; done) | (go_simp; rfl)); intro gb225 hg w6 hbox hb; have BK225 := am (hbox); have GW225 := am ((by rw [hg]; exact (below_size (pkB HB)) : w.heap.size ≤ gb225)); have GE225 := am ((by rw [hg]; exact (below_size (pkB HB)) : w.heap.size ≤ gb225)); replace HB := am (below_step (pkB HB) hb); clear hb hbox hg) | ((with_reducible refine gate_dst (N := 4) rfl ?_); refine box_event ?hg (N := 4) ?hd (cs := #[.int .i64 0, .bool false, .slice none 0 0]) (t := 26) ?hr ?_; (case hd => rfl); (case hg => rfl); (case hr => first | (go_simp; done) | (go_simp; rfl)); intro gb226 hg w7 hbox hb; have BK226 := am (hbox); have GW226 := am ((by rw [hg]; exact (below_size (pkB HB)) : w.heap.size ≤ gb226)); have GE226 := am ((by rw [hg]; exact (below_size (pkB HB)) : w.heap.size ≤ gb226)); have NB225_226 := am ((by rw [hg]; exact Nat.ne_of_lt (blk_lt (pkC BK225)) : gb225 ≠ gb226)); have NB226_225 := am ((by rw [hg]; exact Nat.ne_of_gt (blk_lt (pkC BK225)) : gb226 ≠ gb225)); replace BK225 := am (blk_below (pkC BK225) hb); replace HB := am (below_step (pkB HB) hb); clear hb hbox hg))
 replace BK225 := am (blk_drew BK225.out)
 replace BK226 := am (blk_drew BK226.out)
 replace HB := am (below_drew1 HB.out)
 refine start_ (n := 8) (S := fun w' => w'.cell? ⟨gb225, 0, none⟩ = some (.int .i64 a0_0) ∧ w'.cell? ⟨gb225, 1, none⟩ = some (.bool a0_1) ∧ w'.cell? ⟨gb225, 2, none⟩ = some (.slice A0_2 l0_2.length c0_2)) (ds := []) #[false, false, false, false, false, false, false, false] (by kernel_rfl) rfl rfl ⟨(blk_cell BK225.out 0).trans rfl, (blk_cell BK225.out 1).trans rfl, (blk_cell BK225.out 2).trans rfl⟩ (fun hHeld => ?_); refine with_tabW spec_l2With.tab1 spec_l2With.bits1 (fun HT_ HW_ => ?_)
 generalize w7.drew = w8 at BK225 BK226 HB hHeld ⊢
 refine pi_ (i := 1) (N := some 6) (v := ?_) (a' := ?_) (bm 8 2) rfl rfl HT_ (by kernel_rfl) (fun _ _ _ h => h) (Or.inl ⟨by rfl, ?_⟩) ?_ ?_
 rotate_left
 ·intro w'
  go_simp
  with_reducible rfl
 rotate_left
 ·simp only [Act.put, pp_]
  rfl
 refine pi_ (i := 4) (N := some 9) (v := ?_) (a' := ?_) (bm 8 18) rfl rfl HT_ (by kernel_rfl) (fun _ _ _ h => h) (Or.inl ⟨by rfl, ?_⟩) ?_ ?_
 rotate_left
 ·intro w'
  go_simp
  with_reducible rfl
 rotate_left
 ·simp only [Act.put, pp_]
  rfl
 refine take_ (i := 0) (N := some 5) (v := ?_) (a' := ?_) (bm 8 19) rfl rfl (take_ofW HT_.out HW_.out (by kernel_rfl)) (fun _ _ _ h => h) (Or.inl ⟨by rfl, ?_⟩) hHeld ?_ ?_
 rotate_left
 ·rintro w' ⟨s0, s1, s2⟩
  go_simp
  with_reducible rfl
 rotate_left
 ·simp only [Act.put, pp_]
  rfl
 refine take_ (i := 2) (N := some 7) (v := ?_) (a' := ?_) (bm 8 23) rfl rfl (take_ofW HT_.out HW_.out (by kernel_rfl)) (fun _ _ _ h => h) (Or.inl ⟨by rfl, ?_⟩) hHeld ?_ ?_
 rotate_left
 ·rintro w' ⟨s0, s1, s2⟩
  go_simp
  with_reducible rfl
 rotate_left
 ·simp only [Act.put, pp_]
  rfl
 refine one_ (i := 3) (N := some 8) (bm 8 31) rfl rfl (one_of HT_.out (by kernel_rfl)) (by decide) (fun K hK => ?_)
 refine goes_ Tryd.func29 (by kernel_rfl) rfl #[.slice A0_2 l0_2.length c0_2] (by rfl) rfl rfl (by (try simp only [List.map_toArray, List.map_cons, List.map_nil]); first | done | rfl | (simp only [List.length_drop, List.length_take]; rfl)) ?_
 with_reducible refine (spec_l1Own.calls _ _ l0_2 t227 _ ?side1 ?side2 A3.out).mono ?_
 (case side1 => repeat (first | exact (Kd.C_below HR0_2.out HB.out) | (with_reducible refine Kd.C_alloc ?_ _) | (with_reducible refine Kd.C_drewN ?_ _) | (with_reducible refine Kd.C_drew ?_)))
 (case side2 => exact HC0_2.out)
 rintro e w9 ⟨v228, rfl, ho0, hb⟩
 refine ⟨_, rfl, ?_⟩
 have HO229 := am (Kd.R_lower (Kd.R_newM (M := fun k_ => (w.heap.size ≤ k_)) ho0 (below_size (pkB HB)) (fun k_ h_ => h_)) (below_size (pkB HB)))
 replace BK225 := am (blk_below (pkC BK225) hb)
 replace BK226 := am (blk_below (pkC BK226) hb)
 replace HB := am (below_step (pkB HB) hb)
 (try clear hb)
 (try clear hb2)
 (try clear hk)
 (try clear hi)
 (try clear ho0)
 obtain ⟨Ao10, co10, eo10⟩ := Kd.R_slice HO229.out
 (first | subst eo10 | (injection eo10 with f1_ f2_ f3_; have f4_ := f1_.symm; have f5_ := f3_.symm; clear f1_ f2_ f3_; subst f4_; subst f5_))
 refine hK.out _ _ ⟨(blk_cell BK225.out 0).trans rfl, (blk_cell BK225.out 1).trans rfl, (blk_cell BK225.out 2).trans rfl⟩ (fun hHeld => ?_)
 clear hK K
 refine norm_ (a' := ?_) ?_ ?_
 rotate_left
 ·show Act.put _ (some 8) _ = _
  simp only [Act.put, pp_]
  rfl
 refine one_ (i := 5) (N := some 10) (bm 8 63) rfl rfl (one_of HT_.out (by kernel_rfl)) (by decide) (fun K hK => ?_)
 refine goes_ Tryd.func48 (by kernel_rfl) rfl #[.slice Ao10 t227.length co10, .int .i64 a1] (by rfl) rfl rfl (by (try simp only [List.map_toArray, List.map_cons, List.map_nil]); first | done | rfl | (simp only [List.length_drop, List.length_take]; rfl)) ?_
 with_reducible refine (spec_l1Put.calls k (fun k_ => some k_ = (.slice Ao10 t227.length co10 : Value).ownBlock) _ _ t227 a1 t230 _ ?side1 A4.out).mono ?_
 (case side1 => exact Kd.R_V (Kd.R_tight rfl (Kd.R_types (Kd.R_types (HO229.out) BK225.out (by decide)) BK226.out (by decide))))
 rintro e w11 ⟨v231, rfl, ho0, hb⟩
 refine ⟨_, rfl, ?_⟩
 have HO232 := am (Kd.V_lower (Kd.V_mono (ok' := fun k_ => (w.heap.size ≤ k_) ∧ k_ ≠ gb225 ∧ k_ ≠ gb226) ho0 (fun k_ hk_ => ⟨Or.elim hk_ (fun hs_ => ((Kd.R_types (Kd.R_types (HO229.out) BK225.out (by decide)) BK226.out (by decide)).1 k_ hs_.symm).1.1.1) (fun hn_ => (Nat.le_trans (below_size (pkB HB)) hn_)), Or.elim hk_ (fun hs_ => ((Kd.R_types (Kd.R_types (HO229.out) BK225.out (by decide)) BK226.out (by decide)).1 k_ hs_.symm).1.2) (fun hn_ => (Kd.freshB (pkC BK225) k_ hn_)), Or.elim hk_ (fun hs_ => ((Kd.R_types (Kd.R_types (HO229.out) BK225.out (by decide)) BK226.out (by decide)).1 k_ hs_.symm).2) (fun hn_ => (Kd.freshB (pkC BK226) k_ hn_))⟩)) (below_size (pkB HB)))
 replace HO229 := am (Kd.R_below (pk HO229) hb)
 replace BK225 := am (blk_below (pkC BK225) hb)
 replace BK226 := am (blk_below (pkC BK226) hb)
 replace HB := am (below_step (pkB HB) hb)
 (try clear hb)
 (try clear hb2)
 (try clear hk)
 (try clear hi)
 (try clear ho0)
 obtain ⟨Ao12, co12, eo12⟩ := Kd.V_slice HO232.out
 (first | subst eo12 | (injection eo12 with f1_ f2_ f3_; have f4_ := f1_.symm; have f5_ := f3_.symm; clear f1_ f2_ f3_; subst f4_; subst f5_))
 refine hK.out _ _ ⟨(blk_cell BK225.out 0).trans rfl, (blk_cell BK225.out 1).trans rfl, (blk_cell BK225.out 2).trans rfl⟩ (fun hHeld => ?_)
 clear hK K
 refine norm_ (a' := ?_) ?_ ?_
 rotate_left
 ·show Act.put _ (some 10) _ = _
  simp only [Act.put, pp_]
  rfl
 refine one_ (i := 6) (N := some 11) (bm 8 127) rfl rfl (one_of HT_.out (by kernel_rfl)) (by decide) (fun K hK => ?_)
 refine goes_ Tryd.func28 (by kernel_rfl) rfl #[.agg #[.int .i64 a0_0, .bool a0_1, .slice A0_2 l0_2.length c0_2], .slice Ao12 t230.length co12] (by rfl) rfl rfl (by (try simp only [List.map_toArray, List.map_cons, List.map_nil]); first | done | rfl | (simp only [List.length_drop, List.length_take]; rfl)) ?_
 with_reducible refine (spec_l2Made.calls a0_0 a0_1 _ _ l0_2 (fun k_ => ((w.heap.size ≤ k_) ∧ (k_ ≠ gb225 ∧ k_ ≠ gb226))) _ _ t230 t233 t234 t235 _ ?side1 ?side2 ?side3 A5.out).mono ?_
 (case side1 => repeat (first | exact (Kd.C_below HR0_2.out HB.out) | (with_reducible refine Kd.C_alloc ?_ _) | (with_reducible refine Kd.C_drewN ?_ _) | (with_reducible refine Kd.C_drew ?_)))
 (case side2 => exact HC0_2.out)
 (case side3 => exact HO232.out)
 rintro e w13 ⟨v236, rfl, ho0, hb⟩
 refine ⟨_, rfl, ?_⟩
 have HO237 := am (Kd.V_lower (Kd.V_mono (ok' := fun k_ => (w.heap.size ≤ k_) ∧ k_ ≠ gb225 ∧ k_ ≠ gb226) ho0 (fun k_ hk_ => ⟨Or.elim hk_ (fun hs_ => hs_.1) (fun hn_ => (Nat.le_trans (below_size (pkB HB)) hn_)), Or.elim hk_ (fun hs_ => hs_.2.1) (fun hn_ => (Kd.freshB (pkC BK225) k_ hn_)), Or.elim hk_ (fun hs_ => hs_.2.2) (fun hn_ => (Kd.freshB (pkC BK226) k_ hn_))⟩)) (below_size (pkB HB)))
 replace HO229 := am (Kd.R_below (pk HO229) hb)
 replace HO232 := am (Kd.V_below (pk HO232) hb)
 replace BK225 := am (blk_below (pkC BK225) hb)
 replace BK226 := am (blk_below (pkC BK226) hb)
 replace HB := am (below_step (pkB HB) hb)
 (try clear hb)
 (try clear hb2)
 (try clear hk)
 (try clear hi)
 (try clear ho0)
 obtain ⟨Ao16, co16, eo16⟩ := Kd.V_slice HO237.out
 (first | subst eo16 | (injection eo16 with f1_ f2_ f3_; have f4_ := f1_.symm; have f5_ := f3_.symm; clear f1_ f2_ f3_; subst f4_; subst f5_))
 refine hK.out _ _ ⟨(blk_cell BK225.out 0).trans rfl, (blk_cell BK225.out 1).trans rfl, (blk_cell BK225.out 2).trans rfl⟩ (fun hHeld => ?_)
 clear hK K
 refine norm_ (a' := ?_) ?_ ?_
 rotate_left
 ·show Act.put _ (some 11) _ = _
  simp only [Act.put, pp_]
  rfl
 refine one_ (i := 7) (N := none) (bm 8 255) rfl rfl (one_of HT_.out (by kernel_rfl)) (by decide) (fun K hK => ?_)
 have hs14 : w13.cell? ⟨gb226, 0, none⟩ = some (.int .i64 0) := (blk_cell BK226.out 0).trans rfl
 have hfs14 := blk_frozen BK226.out 0
 have hns14_0 := NB225_226.out
 have hms14_0 := NB226_225.out
 have hs15 : w13.cell? ⟨gb226, 1, none⟩ = some (.bool false) := (blk_cell BK226.out 1).trans rfl
 have hfs15 := blk_frozen BK226.out 1
 have hns15_0 := NB225_226.out
 have hms15_0 := NB226_225.out
 have hs17 : w13.cell? ⟨gb226, 2, none⟩ = some (.slice none 0 0) := (blk_cell BK226.out 2).trans rfl
 have hfs17 := blk_frozen BK226.out 2
 have hns17_0 := NB225_226.out
 have hms17_0 := NB226_225.out
 refine skip_ (w1 := ?_) (by rfl) rfl ?_ ?_
 rotate_left
 ·go_simp
  rfl
 refine hK.out _ _ ⟨((cell_far (p := ⟨gb226, _, none⟩) NB225_226.out _).trans (((cell_far (p := ⟨gb226, _, none⟩) NB225_226.out _).trans (((cell_far (p := ⟨gb226, _, none⟩) NB225_226.out _).trans (hHeld.1)))))), ((cell_far (p := ⟨gb226, _, none⟩) NB225_226.out _).trans (((cell_far (p := ⟨gb226, _, none⟩) NB225_226.out _).trans (((cell_far (p := ⟨gb226, _, none⟩) NB225_226.out _).trans (hHeld.2.1)))))), ((cell_far (p := ⟨gb226, _, none⟩) NB225_226.out _).trans (((cell_far (p := ⟨gb226, _, none⟩) NB225_226.out _).trans (((cell_far (p := ⟨gb226, _, none⟩) NB225_226.out _).trans (hHeld.2.2))))))⟩ (fun hHeld => ?_)
 clear hK K
 refine done_ (done_of HT_.out (by kernel_rfl)) ?_
 try go_wp2
 refine bodyPost_ret (results_cell_row rfl _ _ gb226 26 #[.int .i64 t233, .bool t234, .slice Ao16 t235.length co16] (0, 0) _ rfl (by (with_reducible repeat (first | refine blk_drewN ?_ _ | refine blk_drew ?_ | refine blk_alloc ?_ _)); refine blk_put (cs := #[.int .i64 t233, .bool t234, .slice none 0 0]) ?_ 2 _ rfl; (with_reducible repeat (first | refine blk_drewN ?_ _ | refine blk_drew ?_ | refine blk_alloc ?_ _)); refine blk_put (cs := #[.int .i64 t233, .bool false, .slice none 0 0]) ?_ 1 _ rfl; (with_reducible repeat (first | refine blk_drewN ?_ _ | refine blk_drew ?_ | refine blk_alloc ?_ _)); refine blk_put (cs := #[.int .i64 0, .bool false, .slice none 0 0]) ?_ 0 _ rfl; (with_reducible repeat (first | refine blk_drewN ?_ _ | refine blk_drew ?_ | refine blk_alloc ?_ _)); exact BK226.out) Tryd.underlying26 rfl (by kernel_rfl)) rfl ?_
 exact ⟨_, by first | rfl | (simp [*]; done), by (with_reducible repeat (first | apply Kd.V_alloc | apply Kd.V_drewN | apply Kd.V_drew)); exact Kd.V_mono (Kd.V_far (p := ⟨gb226, 2, none⟩) (Kd.V_far (p := ⟨gb226, 1, none⟩) (Kd.V_far (p := ⟨gb226, 0, none⟩) (Kd.V_mono HO237.out (fun k_ hk => (⟨hk, hk.2.2⟩ : _ ∧ k_ ≠ gb226))) (fun _ hk => hk.2) (.int .i64 t233)) (fun _ hk => hk.2) (.bool t234)) (fun _ hk => hk.2) (.slice Ao16 t235.length co16)) (fun _ hk => hk.1.1), pkB HB⟩

/-! ### spec_l1Cur_among: function 51 -/
def spec_l1Cur_among.f (s0_0 : List Int) (s0_1 : Int) (s0_2 : Int) (l1 : List Int) : Option (Int × Int × Int) := (spec_l1Cur_pick.f s0_0 s0_1 s0_2 (l1.length : Int)).bind fun bt238 => (if 0 ≤ bt238.1 then (if bt238.1 < (l1.length : Int) then (some (rd l1 bt238.1, bt238.2.1, bt238.2.2)) else (none)) else (none))
set_option maxHeartbeats 8000000 in
set_option maxRecDepth 100000 in
theorem spec_l1Cur_among.calls (g : Nat) (s0_0 : List Int) (s0_1 : Int) (s0_2 : Int) (A1 : Option Addr) (c1 : Nat) (l1 : List Int) (r1 : Int) (r2 : Int) (r3 : Int) (w0 w : World) (hI : IsS65 w0 w g s0_0 s0_1 s0_2) (hB : Below w0.heap.size w0 w) (hr1 : Kd.C (Kd.int .i64) w A1 l1.length l1) (hc1 : l1.length ≤ c1) (hf1 : ∀ ad, A1 = some ad → 0 < l1.length → ad.block ≠ g) (h : spec_l1Cur_among.f s0_0 s0_1 s0_2 l1 = some (r1, r2, r3)) :
  Calls Tryd.prog 51 #[.pointer (some ⟨g, 0, none⟩), .slice A1 l1.length c1] w fun e w' => e = .returned (.int .i64 r1) ∧ IsS65 w0 w' g s0_0 r2 r3 ∧ Below w0.heap.size w0 w' ∧ KeepBut w w' g none := by
 have HR1 := am hr1
 have HC1 := am hc1
 clear hr1 hc1
 have HI0 := am hI
 have HK := am (KeepBut.refl w g none)
 have HL := am hB.size
 clear hI
 have HW0 := am hB.size
 have HB := am hB
 clear hB
 have H : ((spec_l1Cur_pick.f s0_0 s0_1 s0_2 (l1.length : Int)).bind fun bt238 => (if 0 ≤ bt238.1 then (if bt238.1 < (l1.length : Int) then (some (rd l1 bt238.1, bt238.2.1, bt238.2.2)) else (none)) else (none))) = some (r1, r2, r3) := h
 clear h
 replace H := Option.bind_eq_some_iff.mp H
 obtain ⟨⟨t238, t239, t240⟩, A30, H⟩ := H
 try dsimp only at H
 have A3 := am A30
 clear A30
 by_cases c4 : 0 ≤ t238
 ·rw [if_pos c4] at H
  have c4b0 : decide (0 ≤ t238) = true := decide_eq_true c4
  clear c4
  by_cases c5 : t238 < (l1.length : Int)
  ·rw [if_pos c5] at H
   have c5b0 : decide (t238 < (l1.length : Int)) = true := decide_eq_true c5
   clear c5
   simp only [Option.some.injEq, Prod.mk.injEq] at H
   obtain ⟨rfl, rfl, rfl⟩ := H
   go_enter Tryd.func51, Tryd.ntmps51
   go_wp2_with (first | (go_at_call 52; (with_reducible refine (spec_l1Cur_pick.calls g s0_0 s0_1 s0_2 (l1.length : Int) t238 t239 t240 w0 _ ?side1 ?side2 A3.out).mono ?_); (case side1 => exact pkS65 HI0); (case side2 => exact pkBS65 HB); rintro e w6 ⟨rfl, hi, hb, hk⟩; replace HK := am (ktk (pkK HK) hk); replace HB := am (hb); replace HI0 := am (hi); (try clear hb); (try clear hb2); (try clear hk); (try clear hi); have p241 : 0 ≤ (t238 : Int) := of_decide_eq_true (by first | (with_reducible assumption) | assumption); have q241 : t238 < (l1.length : Int) := of_decide_eq_true (by first | (with_reducible assumption) | assumption); obtain ⟨ad241, e241, hx241_0⟩ := Kd.at_int HR1.out t238 p241 q241; cases e241; replace hx241_0 := keep_cell HK.out hx241_0 (by first | (rw [add_block]; exact hf1 _ rfl (by omega)) | exact hf1 _ rfl (by omega) | exact hf1 ad241 rfl (by omega)); replace p241 := eq_true p241; replace q241 := eq_true q241))
   go_ret
   exact ⟨by first | rfl | (simp [*]; done), pkS65 HI0, pkBS65 HB, pkK HK⟩
  ·rw [if_neg c5] at H
   exact absurd H (by simp)
 ·rw [if_neg c4] at H
  exact absurd H (by simp)

/-! ### spec_l1Cur_seats: function 64 -/
def spec_l1Cur_seats.f (s0_0 : List Int) (s0_1 : Int) (s0_2 : Int) : Option (Int × Int × Int) := (spec_l1Cur_one.f s0_0 s0_1 s0_2 40).bind fun bt242 => (if bt242.1 = true then ((spec_l1Cur_among.f s0_0 bt242.2.1 bt242.2.2 (([1, 2, 24, 25, 0, (-1), 4611686018427387904] : List Int))).bind fun bt248 => (some (bt248.1, bt248.2.1, bt248.2.2))) else ((spec_l1Cur_among.f s0_0 bt242.2.1 bt242.2.2 (([6, 8, 5, 10, 7, 3, 12, 4, 20, 24] : List Int))).bind fun bt254 => (some (bt254.1, bt254.2.1, bt254.2.2))))
set_option maxHeartbeats 8000000 in
set_option maxRecDepth 100000 in
theorem spec_l1Cur_seats.calls (g : Nat) (s0_0 : List Int) (s0_1 : Int) (s0_2 : Int) (r1 : Int) (r2 : Int) (r3 : Int) (w0 w : World) (hI : IsS65 w0 w g s0_0 s0_1 s0_2) (hB : Below w0.heap.size w0 w) (h : spec_l1Cur_seats.f s0_0 s0_1 s0_2 = some (r1, r2, r3)) :
  Calls Tryd.prog 64 #[.pointer (some ⟨g, 0, none⟩)] w fun e w' => e = .returned (.int .i64 r1) ∧ IsS65 w0 w' g s0_0 r2 r3 ∧ Below w0.heap.size w0 w' ∧ KeepBut w w' g none := by
 have HI0 := am hI
 have HK := am (KeepBut.refl w g none)
 have HL := am hB.size
 clear hI
 have HW0 := am hB.size
 have HB := am hB
 clear hB
 have H : ((spec_l1Cur_one.f s0_0 s0_1 s0_2 40).bind fun bt242 => (if bt242.1 = true then ((spec_l1Cur_among.f s0_0 bt242.2.1 bt242.2.2 (([1, 2, 24, 25, 0, (-1), 4611686018427387904] : List Int))).bind fun bt248 => (some (bt248.1, bt248.2.1, bt248.2.2))) else ((spec_l1Cur_among.f s0_0 bt242.2.1 bt242.2.2 (([6, 8, 5, 10, 7, 3, 12, 4, 20, 24] : List Int))).bind fun bt254 => (some (bt254.1, bt254.2.1, bt254.2.2))))) = some (r1, r2, r3) := h
 clear h
 replace H := Option.bind_eq_some_iff.mp H
 obtain ⟨⟨t242, t243, t244⟩, A20, H⟩ := H
 try dsimp only at H
 have A2 := am A20
 clear A20
 by_cases c3 : t242 = true
 ·subst c3
  rw [if_pos rfl] at H
  obtain ⟨y245, hy245⟩ : ∃ y_ : List Int, y_ = (([1, 2, 24, 25, 0, (-1), 4611686018427387904] : List Int)) := ⟨_, rfl⟩
  replace H : ((spec_l1Cur_among.f s0_0 t243 t244 y245).bind fun bt248 => (some (bt248.1, bt248.2.1, bt248.2.2))) = some (r1, r2, r3) := by first | (rw [hy245]; with_reducible exact H) | (have H2_ := (Option.bind_some _ _).symm.trans H; rw [hy245]; with_reducible exact H2_) | (have H2_ := (Option.bind_some _ _).symm.trans H; with_reducible exact H2_) | with_reducible exact H | (rw [hy245]; exact H) | exact H
  have Ny245 := am hy245
  clear hy245
  replace H := Option.bind_eq_some_iff.mp H
  obtain ⟨⟨t248, t249, t250⟩, A40, H⟩ := H
  try dsimp only at H
  have A4 := am A40
  clear A40
  simp only [Option.some.injEq, Prod.mk.injEq] at H
  obtain ⟨rfl, rfl, rfl⟩ := H
  go_enter Tryd.func64, Tryd.ntmps64
  go_wp2_with (first | (go_at_call 38; (with_reducible refine (spec_l1Cur_one.calls g s0_0 s0_1 s0_2 40 true t243 t244 w0 _ ?side1 ?side2 A2.out).mono ?_); (case side1 => exact pkS65 HI0); (case side2 => exact pkBS65 HB); rintro e w5 ⟨rfl, hi, hb, hk⟩; replace HK := am (ktk (pkK HK) hk); replace HB := am (hb); replace HI0 := am (hi); (try clear hb); (try clear hb2); (try clear hk); (try clear hi)) | ((with_reducible refine gate_dst (N := 6) rfl ?_); refine Kd.R_lit (Kd.int .i64) _ 3 ?hg (N := 6) ?hd (xs := ([1, 2, 24, 25, 0, (-1), 4611686018427387904] : List Int)) (inner := [.int .i64 1, .int .i64 2, .int .i64 24, .int .i64 25, .int .i64 0, .int .i64 (-1), .int .i64 4611686018427387904]) (ok := fun _ => True) (okp := fun _ => True) ?hr ?hp (fun _ hk => hk) trivial (Below.refl _ _) (Nat.le_refl _) (by simp) ?_; (case hd => rfl); (case hg => rfl); (case hr => first | (go_simp; done) | (go_simp; rfl)); (case hp => exact (Reps.one (show Kd.M (Kd.int .i64) _ _ _ 1 [.int .i64 1] from rfl) (Reps.one (show Kd.M (Kd.int .i64) _ _ _ 2 [.int .i64 2] from rfl) (Reps.one (show Kd.M (Kd.int .i64) _ _ _ 24 [.int .i64 24] from rfl) (Reps.one (show Kd.M (Kd.int .i64) _ _ _ 25 [.int .i64 25] from rfl) (Reps.one (show Kd.M (Kd.int .i64) _ _ _ 0 [.int .i64 0] from rfl) (Reps.one (show Kd.M (Kd.int .i64) _ _ _ (-1) [.int .i64 (-1)] from rfl) (Reps.one (show Kd.M (Kd.int .i64) _ _ _ 4611686018427387904 [.int .i64 4611686018427387904] from rfl) (Reps.none _ _))))))))); intro v246 w6 ho7 hb hg_ hnew_; clear hg_ hnew_; (first | rw [← Ny245.out] at ho7 | (simp only [Int.reduceToNat] at ho7; rw [← Ny245.out] at ho7)); have HO247 := am (Kd.R_lower ho7 (keep_size (pkK HK))); replace HI0 := am (IsS65.below (pkS65 HI0) hb); replace HK := am (ktb (pkK HK) hb); replace HB := am (below_step (pkBS65 HB) hb); clear hb ho7; obtain ⟨Ao8, co8, eo8⟩ := Kd.R_slice HO247.out; subst eo8) | (go_at_call 51; (with_reducible refine (spec_l1Cur_among.calls g s0_0 t243 t244 _ _ y245 t248 t249 t250 w0 _ ?side1 ?side2 ?side3 ?side4 ?side5 A4.out).mono ?_); (case side1 => exact pkS65 HI0); (case side2 => exact pkBS65 HB); (case side3 => repeat (first | exact (Kd.R_reads' HO247.out).2.2 | (with_reducible refine Kd.C_alloc ?_ _) | (with_reducible refine Kd.C_drewN ?_ _) | (with_reducible refine Kd.C_drew ?_))); (case side4 => exact (Kd.R_reads' HO247.out).2.1); (case side5 => exact far_slice (IsS65.own_ne HI0.out HO247.out (by decide))); rintro e w9 ⟨rfl, hi, hb, hk⟩; replace HO247 := am (Kd.R_mono (Kd.R_keep (IsS65.apart (pkS65 HI0) (pk HO247) (by decide)) hk (fun _ h => h.2)) (fun _ h => h.1)); replace HK := am (ktk (pkK HK) hk); replace HB := am (hb); replace HI0 := am (hi); (try clear hb); (try clear hb2); (try clear hk); (try clear hi)))
  go_ret
  exact ⟨by first | rfl | (simp [*]; done), pkS65 HI0, pkBS65 HB, pkK HK⟩
 ·replace c3 := Bool.eq_false_iff.mpr c3
  subst c3
  rw [if_neg (show ¬ (false = true) by decide)] at H
  obtain ⟨y251, hy251⟩ : ∃ y_ : List Int, y_ = (([6, 8, 5, 10, 7, 3, 12, 4, 20, 24] : List Int)) := ⟨_, rfl⟩
  replace H : ((spec_l1Cur_among.f s0_0 t243 t244 y251).bind fun bt254 => (some (bt254.1, bt254.2.1, bt254.2.2))) = some (r1, r2, r3) := by first | (rw [hy251]; with_reducible exact H) | (have H2_ := (Option.bind_some _ _).symm.trans H; rw [hy251]; with_reducible exact H2_) | (have H2_ := (Option.bind_some _ _).symm.trans H; with_reducible exact H2_) | with_reducible exact H | (rw [hy251]; exact H) | exact H
  have Ny251 := am hy251
  clear hy251
  replace H := Option.bind_eq_some_iff.mp H
  obtain ⟨⟨t254, t255, t256⟩, A100, H⟩ := H
  try dsimp only at H
  have A10 := am A100
  clear A100
  simp only [Option.some.injEq, Prod.mk.injEq] at H
  obtain ⟨rfl, rfl, rfl⟩ := H
  go_enter Tryd.func64, Tryd.ntmps64
  go_wp2_with (first | (go_at_call 38; (with_reducible refine (spec_l1Cur_one.calls g s0_0 s0_1 s0_2 40 false t243 t244 w0 _ ?side1 ?side2 A2.out).mono ?_); (case side1 => exact pkS65 HI0); (case side2 => exact pkBS65 HB); rintro e w11 ⟨rfl, hi, hb, hk⟩; replace HK := am (ktk (pkK HK) hk); replace HB := am (hb); replace HI0 := am (hi); (try clear hb); (try clear hb2); (try clear hk); (try clear hi)) | ((with_reducible refine gate_dst (N := 9) rfl ?_); refine Kd.R_lit (Kd.int .i64) _ 3 ?hg (N := 9) ?hd (xs := ([6, 8, 5, 10, 7, 3, 12, 4, 20, 24] : List Int)) (inner := [.int .i64 6, .int .i64 8, .int .i64 5, .int .i64 10, .int .i64 7, .int .i64 3, .int .i64 12, .int .i64 4, .int .i64 20, .int .i64 24]) (ok := fun _ => True) (okp := fun _ => True) ?hr ?hp (fun _ hk => hk) trivial (Below.refl _ _) (Nat.le_refl _) (by simp) ?_; (case hd => rfl); (case hg => rfl); (case hr => first | (go_simp; done) | (go_simp; rfl)); (case hp => exact (Reps.one (show Kd.M (Kd.int .i64) _ _ _ 6 [.int .i64 6] from rfl) (Reps.one (show Kd.M (Kd.int .i64) _ _ _ 8 [.int .i64 8] from rfl) (Reps.one (show Kd.M (Kd.int .i64) _ _ _ 5 [.int .i64 5] from rfl) (Reps.one (show Kd.M (Kd.int .i64) _ _ _ 10 [.int .i64 10] from rfl) (Reps.one (show Kd.M (Kd.int .i64) _ _ _ 7 [.int .i64 7] from rfl) (Reps.one (show Kd.M (Kd.int .i64) _ _ _ 3 [.int .i64 3] from rfl) (Reps.one (show Kd.M (Kd.int .i64) _ _ _ 12 [.int .i64 12] from rfl) (Reps.one (show Kd.M (Kd.int .i64) _ _ _ 4 [.int .i64 4] from rfl) (Reps.one (show Kd.M (Kd.int .i64) _ _ _ 20 [.int .i64 20] from rfl) (Reps.one (show Kd.M (Kd.int .i64) _ _ _ 24 [.int .i64 24] from rfl) (Reps.none _ _)))))))))))); intro v252 w12 ho13 hb hg_ hnew_; clear hg_ hnew_; (first | rw [← Ny251.out] at ho13 | (simp only [Int.reduceToNat] at ho13; rw [← Ny251.out] at ho13)); have HO253 := am (Kd.R_lower ho13 (keep_size (pkK HK))); replace HI0 := am (IsS65.below (pkS65 HI0) hb); replace HK := am (ktb (pkK HK) hb); replace HB := am (below_step (pkBS65 HB) hb); clear hb ho13; obtain ⟨Ao14, co14, eo14⟩ := Kd.R_slice HO253.out; subst eo14) | (go_at_call 51; (with_reducible refine (spec_l1Cur_among.calls g s0_0 t243 t244 _ _ y251 t254 t255 t256 w0 _ ?side1 ?side2 ?side3 ?side4 ?side5 A10.out).mono ?_); (case side1 => exact pkS65 HI0); (case side2 => exact pkBS65 HB); (case side3 => repeat (first | exact (Kd.R_reads' HO253.out).2.2 | (with_reducible refine Kd.C_alloc ?_ _) | (with_reducible refine Kd.C_drewN ?_ _) | (with_reducible refine Kd.C_drew ?_))); (case side4 => exact (Kd.R_reads' HO253.out).2.1); (case side5 => exact far_slice (IsS65.own_ne HI0.out HO253.out (by decide))); rintro e w15 ⟨rfl, hi, hb, hk⟩; replace HO253 := am (Kd.R_mono (Kd.R_keep (IsS65.apart (pkS65 HI0) (pk HO253) (by decide)) hk (fun _ h => h.2)) (fun _ h => h.1)); replace HK := am (ktk (pkK HK) hk); replace HB := am (hb); replace HI0 := am (hi); (try clear hb); (try clear hb2); (try clear hk); (try clear hi)))
  go_ret
  exact ⟨by first | rfl | (simp [*]; done), pkS65 HI0, pkBS65 HB, pkK HK⟩

/-! ### spec_l1Cur_freeRow: function 60 -/
def spec_l1Cur_freeRow.f (s0_0 : List Int) (s0_1 : Int) (s0_2 : Int) : Option (Int × Bool × List Int × Int × Int) := (spec_l1Cur_seats.f s0_0 s0_1 s0_2).bind fun bt258 => ((spec_l1Cur_one.f s0_0 bt258.2.1 bt258.2.2 2).bind fun bt261 => ((some (([] : List Int) : List Int)).bind fun y264 => (if bt261.1 = true then (if bt258.1 = 2 then ((spec_l1Cur_one.f s0_0 bt261.2.1 bt261.2.2 4).bind fun bt268 => (if bt268.1 = true then (some (bt258.1, bt261.1, y264, bt268.2.1, bt268.2.2)) else (some (3, bt261.1, y264, bt268.2.1, bt268.2.2)))) else (some (bt258.1, bt261.1, y264, bt261.2.1, bt261.2.2))) else (some (bt258.1, bt261.1, y264, bt261.2.1, bt261.2.2)))))
set_option maxHeartbeats 8000000 in
set_option maxRecDepth 100000 in
theorem spec_l1Cur_freeRow.calls (g : Nat) (s0_0 : List Int) (s0_1 : Int) (s0_2 : Int) (r1 : Int) (r2 : Bool) (r3 : List Int) (r4 : Int) (r5 : Int) (w0 w : World) (hI : IsS65 w0 w g s0_0 s0_1 s0_2) (hB : Below w0.heap.size w0 w) (h : spec_l1Cur_freeRow.f s0_0 s0_1 s0_2 = some (r1, r2, r3, r4, r5)) :
  Calls Tryd.prog 60 #[.pointer (some ⟨g, 0, none⟩)] w fun e w' => ∃ v2_ : Value, e = .returned (.agg #[.int .i64 r1, .bool r2, v2_]) ∧ Kd.R (Kd.int .i64) 3 w' w.heap.size (fun _ => True) v2_ r3 ∧ IsS65 w0 w' g s0_0 r4 r5 ∧ Below w0.heap.size w0 w' ∧ KeepBut w w' g none := by
 have hu26 := Tryd.underlying26
 have HI0 := am hI
 have HK := am (KeepBut.refl w g none)
 have HL := am hB.size
 clear hI
 have HW0 := am hB.size
 have HB := am hB
 clear hB
 have H : ((spec_l1Cur_seats.f s0_0 s0_1 s0_2).bind fun bt258 => ((spec_l1Cur_one.f s0_0 bt258.2.1 bt258.2.2 2).bind fun bt261 => ((some (([] : List Int) : List Int)).bind fun y264 => (if bt261.1 = true then (if bt258.1 = 2 then ((spec_l1Cur_one.f s0_0 bt261.2.1 bt261.2.2 4).bind fun bt268 => (if bt268.1 = true then (some (bt258.1, bt261.1, y264, bt268.2.1, bt268.2.2)) else (some (3, bt261.1, y264, bt268.2.1, bt268.2.2)))) else (some (bt258.1, bt261.1, y264, bt261.2.1, bt261.2.2))) else (some (bt258.1, bt261.1, y264, bt261.2.1, bt261.2.2)))))) = some (r1, r2, r3, r4, r5) := h
 clear h
 replace H := Option.bind_eq_some_iff.mp H
 obtain ⟨⟨t258, t259, t260⟩, A20, H⟩ := H
 try dsimp only at H
 have A2 := am A20
 clear A20
 replace H := Option.bind_eq_some_iff.mp H
 obtain ⟨⟨t261, t262, t263⟩, A30, H⟩ := H
 try dsimp only at H
 have A3 := am A30
 clear A30
 obtain ⟨y264, hy264⟩ : ∃ y_ : List Int, y_ = (([] : List Int)) := ⟨_, rfl⟩
 replace H : (if t261 = true then (if t258 = 2 then ((spec_l1Cur_one.f s0_0 t262 t263 4).bind fun bt268 => (if bt268.1 = true then (some (t258, t261, y264, bt268.2.1, bt268.2.2)) else (some (3, t261, y264, bt268.2.1, bt268.2.2)))) else (some (t258, t261, y264, t262, t263))) else (some (t258, t261, y264, t262, t263))) = some (r1, r2, r3, r4, r5) := by first | (rw [hy264]; with_reducible exact H) | (have H2_ := (Option.bind_some _ _).symm.trans H; rw [hy264]; with_reducible exact H2_) | (have H2_ := (Option.bind_some _ _).symm.trans H; with_reducible exact H2_) | with_reducible exact H | (rw [hy264]; exact H) | exact H
 have Ny264 := am hy264
 clear hy264
 by_cases c4 : t261 = true
 ·subst c4
  rw [if_pos rfl] at H
  by_cases c5 : t258 = 2
  ·rw [if_pos c5] at H
   have c5b0 : (t258 == 2) = true := beq_iff_eq.mpr c5
   have c5b1 : (t258 != 2) = false := bne_eq_false_iff_eq.mpr c5
   clear c5
   replace H := Option.bind_eq_some_iff.mp H
   obtain ⟨⟨t268, t269, t270⟩, A60, H⟩ := H
   try dsimp only at H
   have A6 := am A60
   clear A60
   by_cases c7 : t268 = true
   ·subst c7
    rw [if_pos rfl] at H
    simp only [Option.some.injEq, Prod.mk.injEq] at H
    obtain ⟨rfl, rfl, rfl, rfl, rfl⟩ := H
    go_enter Tryd.func60, Tryd.ntmps60
    go_wp2_with (first | ((with_reducible refine gate_dst (N := 2) rfl ?_); refine box_event ?hg (N := 2) ?hd (cs := #[.int .i64 0, .bool false, .slice none 0 0]) (t := 26) ?hr ?_; (case hd => rfl); (case hg => rfl); (case hr => first | (go_simp; done) | (go_simp; rfl)); intro gb257 hg w8 hbox hb; have BK257 := am (hbox); have GW257 := am ((by rw [hg]; exact (keep_size (pkK HK)) : w.heap.size ≤ gb257)); have GE257 := am ((Nat.le_trans HW0.out (by rw [hg]; exact (keep_size (pkK HK)) : w.heap.size ≤ gb257) : w0.heap.size ≤ gb257)); have NB0_257 := am ((by rw [hg]; exact Nat.ne_of_lt (IsS65.lt (show IsS65 w0 _ g s0_0 s0_1 s0_2 from pkS65 HI0)) : g ≠ gb257)); have NB257_0 := am ((by rw [hg]; exact Nat.ne_of_gt (IsS65.lt (show IsS65 w0 _ g s0_0 s0_1 s0_2 from pkS65 HI0)) : gb257 ≠ g)); replace HI0 := am (IsS65.below (pkS65 HI0) hb); replace HK := am (ktb (pkK HK) hb); replace HB := am (below_step (pkBS65 HB) hb); clear hb hbox hg) | (go_at_call 64; (with_reducible refine (spec_l1Cur_seats.calls g s0_0 s0_1 s0_2 t258 t259 t260 w0 _ ?side1 ?side2 A2.out).mono ?_); (case side1 => exact pkS65 HI0); (case side2 => exact pkBS65 HB); rintro e w9 ⟨rfl, hi, hb, hk⟩; replace BK257 := am (KeepBut.blk hk (pkC BK257) NB257_0.out (by simp)); replace HK := am (ktk (pkK HK) hk); replace HB := am (hb); replace HI0 := am (hi); (try clear hb); (try clear hb2); (try clear hk); (try clear hi)) | (go_at_call 38; (with_reducible refine (spec_l1Cur_one.calls g s0_0 t259 t260 2 true t262 t263 w0 _ ?side1 ?side2 A3.out).mono ?_); (case side1 => exact pkS65 HI0); (case side2 => exact pkBS65 HB); rintro e w10 ⟨rfl, hi, hb, hk⟩; replace BK257 := am (KeepBut.blk hk (pkC BK257) NB257_0.out (by simp)); replace HK := am (ktk (pkK HK) hk); replace HB := am (hb); replace HI0 := am (hi); (try clear hb); (try clear hb2); (try clear hk); (try clear hi)) | ((with_reducible refine gate_dst (N := 8) rfl ?_); refine Kd.R_lit (Kd.int .i64) _ 3 ?hg (N := 8) ?hd (xs := ([] : List Int)) (inner := []) (ok := fun _ => True) (okp := fun _ => True) ?hr ?hp (fun _ hk => hk) trivial (Below.refl _ _) (Nat.le_refl _) (by simp) ?_; (case hd => rfl); (case hg => rfl); (case hr => first | (go_simp; done) | (go_simp; rfl)); (case hp => exact (Reps.none _ _)); intro v265 w11 ho12 hb hg_ hnew_; clear hg_ hnew_; (first | rw [← Ny264.out] at ho12 | (simp only [Int.reduceToNat] at ho12; rw [← Ny264.out] at ho12)); have HO266 := am (Kd.R_lower ho12 (keep_size (pkK HK))); replace HI0 := am (IsS65.below (pkS65 HI0) hb); replace BK257 := am (blk_below (pkC BK257) hb); replace HK := am (ktb (pkK HK) hb); replace HB := am (below_step (pkBS65 HB) hb); clear hb ho12; obtain ⟨Ao13, co13, eo13⟩ := Kd.R_slice HO266.out; subst eo13) | ((with_reducible refine gate_dst (N := 3) rfl ?_); refine box_event ?hg (N := 3) ?hd (cs := #[.int .i64 0, .bool false, .slice none 0 0]) (t := 26) ?hr ?_; (case hd => rfl); (case hg => rfl); (case hr => first | (go_simp; done) | (go_simp; rfl)); intro gb267 hg w14 hbox hb; have BK267 := am (hbox); have GW267 := am ((by rw [hg]; exact (keep_size (pkK HK)) : w.heap.size ≤ gb267)); have GE267 := am ((Nat.le_trans HW0.out (by rw [hg]; exact (keep_size (pkK HK)) : w.heap.size ≤ gb267) : w0.heap.size ≤ gb267)); have NB257_267 := am ((by rw [hg]; exact Nat.ne_of_lt (blk_lt (pkC BK257)) : gb257 ≠ gb267)); have NB267_257 := am ((by rw [hg]; exact Nat.ne_of_gt (blk_lt (pkC BK257)) : gb267 ≠ gb257)); have NB0_267 := am ((by rw [hg]; exact Nat.ne_of_lt (IsS65.lt (show IsS65 w0 _ g s0_0 t262 t263 from pkS65 HI0)) : g ≠ gb267)); have NB267_0 := am ((by rw [hg]; exact Nat.ne_of_gt (IsS65.lt (show IsS65 w0 _ g s0_0 t262 t263 from pkS65 HI0)) : gb267 ≠ g)); replace HO266 := am (Kd.R_below (pk HO266) hb); replace HI0 := am (IsS65.below (pkS65 HI0) hb); replace BK257 := am (blk_below (pkC BK257) hb); replace HK := am (ktb (pkK HK) hb); replace HB := am (below_step (pkBS65 HB) hb); clear hb hbox hg; have hnb15 := NB267_257.out; have hnc15 := NB257_267.out; have hnb16 := NB267_0.out; have hnc16 := NB0_267.out; obtain ⟨hcz17_0, hcz17_1, hcz17_2⟩ := bc3 BK267.out; obtain ⟨hfz17_0, hfz17_1, hfz17_2⟩ := bf3 BK267.out) | (go_at_call 38; (with_reducible refine (spec_l1Cur_one.calls g s0_0 t262 t263 4 true t269 t270 w0 _ ?side1 ?side2 A6.out).mono ?_); (case side1 => exact pkS65 HI0); (case side2 => exact pkBS65 HB); rintro e w18 ⟨rfl, hi, hb, hk⟩; replace BK257 := am (KeepBut.blk hk (g' := gb257) (o := .cells #[.int .i64 0, .bool false, .slice none 0 0] 26 (0, 0)) (by (with_reducible repeat (first | refine blk_drewN ?_ _ | refine blk_drew ?_ | refine blk_alloc ?_ _)); refine blk_far ?_ NB257_267.out _; (with_reducible repeat (first | refine blk_drewN ?_ _ | refine blk_drew ?_ | refine blk_alloc ?_ _)); refine blk_far ?_ NB257_267.out _; (with_reducible repeat (first | refine blk_drewN ?_ _ | refine blk_drew ?_ | refine blk_alloc ?_ _)); refine blk_far ?_ NB257_267.out _; (with_reducible repeat (first | refine blk_drewN ?_ _ | refine blk_drew ?_ | refine blk_alloc ?_ _)); exact BK257.out) NB257_0.out (by simp)); replace HO266 := am (Kd.R_mono (Kd.R_keep (IsS65.apart (show IsS65 w0 _ g s0_0 t262 t263 from pkS65 HI0) (by (with_reducible repeat (first | apply Kd.R_alloc | apply Kd.R_drewN | apply Kd.R_drew)); exact (Kd.R_mono (Kd.R_far (p := ⟨gb267, 2, none⟩) (Kd.R_far (p := ⟨gb267, 1, none⟩) (Kd.R_far (p := ⟨gb267, 0, none⟩) (Kd.R_types HO266.out BK267.out (by decide)) (fun _ hk => hk.2) (.int .i64 t258)) (fun _ hk => hk.2) (.bool true)) (fun _ hk => hk.2) (.slice Ao13 y264.length co13)) (fun _ h_ => h_.1))) (by decide)) hk (fun _ h => h.2)) (fun _ h => h.1)); replace BK267 := am (KeepBut.blk hk (g' := gb267) (o := .cells #[.int .i64 t258, .bool true, .slice Ao13 y264.length co13] 26 (0, 0)) (by (with_reducible repeat (first | refine blk_drewN ?_ _ | refine blk_drew ?_ | refine blk_alloc ?_ _)); refine blk_put (cs := #[.int .i64 t258, .bool true, .slice none 0 0]) ?_ 2 _ rfl; (with_reducible repeat (first | refine blk_drewN ?_ _ | refine blk_drew ?_ | refine blk_alloc ?_ _)); refine blk_put (cs := #[.int .i64 t258, .bool false, .slice none 0 0]) ?_ 1 _ rfl; (with_reducible repeat (first | refine blk_drewN ?_ _ | refine blk_drew ?_ | refine blk_alloc ?_ _)); refine blk_put (cs := #[.int .i64 0, .bool false, .slice none 0 0]) ?_ 0 _ rfl; (with_reducible repeat (first | refine blk_drewN ?_ _ | refine blk_drew ?_ | refine blk_alloc ?_ _)); exact BK267.out) NB267_0.out (by simp)); replace HK := am (ktk (pkK HK) hk); replace HB := am (hb); replace HI0 := am (hi); (try clear hb); (try clear hb2); (try clear hk); (try clear hi); obtain ⟨hcz19_0, hcz19_1, hcz19_2⟩ := bc3 BK267.out; obtain ⟨hfz19_0, hfz19_1, hfz19_2⟩ := bf3 BK267.out; have hnb20 := NB257_0.out; have hnc20 := NB0_257.out; obtain ⟨hcz21_0, hcz21_1, hcz21_2⟩ := bc3 BK257.out; obtain ⟨hfz21_0, hfz21_1, hfz21_2⟩ := bf3 BK257.out))
    refine bodyPost_ret (results_cell_row rfl _ _ gb257 26 #[.int .i64 t258, .bool true, .slice Ao13 y264.length co13] (0, 0) _ rfl (by (with_reducible repeat (first | refine blk_drewN ?_ _ | refine blk_drew ?_ | refine blk_alloc ?_ _)); refine blk_put (cs := #[.int .i64 t258, .bool true, .slice none 0 0]) ?_ 2 _ rfl; (with_reducible repeat (first | refine blk_drewN ?_ _ | refine blk_drew ?_ | refine blk_alloc ?_ _)); refine blk_put (cs := #[.int .i64 t258, .bool false, .slice none 0 0]) ?_ 1 _ rfl; (with_reducible repeat (first | refine blk_drewN ?_ _ | refine blk_drew ?_ | refine blk_alloc ?_ _)); refine blk_put (cs := #[.int .i64 0, .bool false, .slice none 0 0]) ?_ 0 _ rfl; (with_reducible repeat (first | refine blk_drewN ?_ _ | refine blk_drew ?_ | refine blk_alloc ?_ _)); exact BK257.out) Tryd.underlying26 rfl (by kernel_rfl)) rfl ?_
    exact ⟨_, by first | rfl | (simp [*]; done), by (with_reducible repeat (first | apply Kd.R_alloc | apply Kd.R_drewN | apply Kd.R_drew)); exact Kd.R_mono (Kd.R_far (p := ⟨gb257, 2, none⟩) (Kd.R_far (p := ⟨gb257, 1, none⟩) (Kd.R_far (p := ⟨gb257, 0, none⟩) (Kd.R_types HO266.out BK257.out (by decide)) (fun _ hk => hk.2) (.int .i64 t258)) (fun _ hk => hk.2) (.bool true)) (fun _ hk => hk.2) (.slice Ao13 y264.length co13)) (fun _ hk => trivial), pkS65 HI0, pkBS65 HB, pkK HK⟩
   ·replace c7 := Bool.eq_false_iff.mpr c7
    subst c7
    rw [if_neg (show ¬ (false = true) by decide)] at H
    simp only [Option.some.injEq, Prod.mk.injEq] at H
    obtain ⟨rfl, rfl, rfl, rfl, rfl⟩ := H
    go_enter Tryd.func60, Tryd.ntmps60
    go_wp2_with (first | ((with_reducible refine gate_dst (N := 2) rfl ?_); refine box_event ?hg (N := 2) ?hd (cs := #[.int .i64 0, .bool false, .slice none 0 0]) (t := 26) ?hr ?_; (case hd => rfl); (case hg => rfl); (case hr => first | (go_simp; done) | (go_simp; rfl)); intro gb257 hg w22 hbox hb; have BK257 := am (hbox); have GW257 := am ((by rw [hg]; exact (keep_size (pkK HK)) : w.heap.size ≤ gb257)); have GE257 := am ((Nat.le_trans HW0.out (by rw [hg]; exact (keep_size (pkK HK)) : w.heap.size ≤ gb257) : w0.heap.size ≤ gb257)); have NB0_257 := am ((by rw [hg]; exact Nat.ne_of_lt (IsS65.lt (show IsS65 w0 _ g s0_0 s0_1 s0_2 from pkS65 HI0)) : g ≠ gb257)); have NB257_0 := am ((by rw [hg]; exact Nat.ne_of_gt (IsS65.lt (show IsS65 w0 _ g s0_0 s0_1 s0_2 from pkS65 HI0)) : gb257 ≠ g)); replace HI0 := am (IsS65.below (pkS65 HI0) hb); replace HK := am (ktb (pkK HK) hb); replace HB := am (below_step (pkBS65 HB) hb); clear hb hbox hg) | (go_at_call 64; (with_reducible refine (spec_l1Cur_seats.calls g s0_0 s0_1 s0_2 t258 t259 t260 w0 _ ?side1 ?side2 A2.out).mono ?_); (case side1 => exact pkS65 HI0); (case side2 => exact pkBS65 HB); rintro e w23 ⟨rfl, hi, hb, hk⟩; replace BK257 := am (KeepBut.blk hk (pkC BK257) NB257_0.out (by simp)); replace HK := am (ktk (pkK HK) hk); replace HB := am (hb); replace HI0 := am (hi); (try clear hb); (try clear hb2); (try clear hk); (try clear hi)) | (go_at_call 38; (with_reducible refine (spec_l1Cur_one.calls g s0_0 t259 t260 2 true t262 t263 w0 _ ?side1 ?side2 A3.out).mono ?_); (case side1 => exact pkS65 HI0); (case side2 => exact pkBS65 HB); rintro e w24 ⟨rfl, hi, hb, hk⟩; replace BK257 := am (KeepBut.blk hk (pkC BK257) NB257_0.out (by simp)); replace HK := am (ktk (pkK HK) hk); replace HB := am (hb); replace HI0 := am (hi); (try clear hb); (try clear hb2); (try clear hk); (try clear hi)) | ((with_reducible refine gate_dst (N := 8) rfl ?_); refine Kd.R_lit (Kd.int .i64) _ 3 ?hg (N := 8) ?hd (xs := ([] : List Int)) (inner := []) (ok := fun _ => True) (okp := fun _ => True) ?hr ?hp (fun _ hk => hk) trivial (Below.refl _ _) (Nat.le_refl _) (by simp) ?_; (case hd => rfl); (case hg => rfl); (case hr => first | (go_simp; done) | (go_simp; rfl)); (case hp => exact (Reps.none _ _)); intro v265 w25 ho26 hb hg_ hnew_; clear hg_ hnew_; (first | rw [← Ny264.out] at ho26 | (simp only [Int.reduceToNat] at ho26; rw [← Ny264.out] at ho26)); have HO266 := am (Kd.R_lower ho26 (keep_size (pkK HK))); replace HI0 := am (IsS65.below (pkS65 HI0) hb); replace BK257 := am (blk_below (pkC BK257) hb); replace HK := am (ktb (pkK HK) hb); replace HB := am (below_step (pkBS65 HB) hb); clear hb ho26; obtain ⟨Ao27, co27, eo27⟩ := Kd.R_slice HO266.out; subst eo27) | ((with_reducible refine gate_dst (N := 3) rfl ?_); refine box_event ?hg (N := 3) ?hd (cs := #[.int .i64 0, .bool false, .slice none 0 0]) (t := 26) ?hr ?_; (case hd => rfl); (case hg => rfl); (case hr => first | (go_simp; done) | (go_simp; rfl)); intro gb267 hg w28 hbox hb; have BK267 := am (hbox); have GW267 := am ((by rw [hg]; exact (keep_size (pkK HK)) : w.heap.size ≤ gb267)); have GE267 := am ((Nat.le_trans HW0.out (by rw [hg]; exact (keep_size (pkK HK)) : w.heap.size ≤ gb267) : w0.heap.size ≤ gb267)); have NB257_267 := am ((by rw [hg]; exact Nat.ne_of_lt (blk_lt (pkC BK257)) : gb257 ≠ gb267)); have NB267_257 := am ((by rw [hg]; exact Nat.ne_of_gt (blk_lt (pkC BK257)) : gb267 ≠ gb257)); have NB0_267 := am ((by rw [hg]; exact Nat.ne_of_lt (IsS65.lt (show IsS65 w0 _ g s0_0 t262 t263 from pkS65 HI0)) : g ≠ gb267)); have NB267_0 := am ((by rw [hg]; exact Nat.ne_of_gt (IsS65.lt (show IsS65 w0 _ g s0_0 t262 t263 from pkS65 HI0)) : gb267 ≠ g)); replace HO266 := am (Kd.R_below (pk HO266) hb); replace HI0 := am (IsS65.below (pkS65 HI0) hb); replace BK257 := am (blk_below (pkC BK257) hb); replace HK := am (ktb (pkK HK) hb); replace HB := am (below_step (pkBS65 HB) hb); clear hb hbox hg; have hnb29 := NB267_257.out; have hnc29 := NB257_267.out; have hnb30 := NB267_0.out; have hnc30 := NB0_267.out; obtain ⟨hcz31_0, hcz31_1, hcz31_2⟩ := bc3 BK267.out; obtain ⟨hfz31_0, hfz31_1, hfz31_2⟩ := bf3 BK267.out) | (go_at_call 38; (with_reducible refine (spec_l1Cur_one.calls g s0_0 t262 t263 4 false t269 t270 w0 _ ?side1 ?side2 A6.out).mono ?_); (case side1 => exact pkS65 HI0); (case side2 => exact pkBS65 HB); rintro e w32 ⟨rfl, hi, hb, hk⟩; replace BK257 := am (KeepBut.blk hk (g' := gb257) (o := .cells #[.int .i64 0, .bool false, .slice none 0 0] 26 (0, 0)) (by (with_reducible repeat (first | refine blk_drewN ?_ _ | refine blk_drew ?_ | refine blk_alloc ?_ _)); refine blk_far ?_ NB257_267.out _; (with_reducible repeat (first | refine blk_drewN ?_ _ | refine blk_drew ?_ | refine blk_alloc ?_ _)); refine blk_far ?_ NB257_267.out _; (with_reducible repeat (first | refine blk_drewN ?_ _ | refine blk_drew ?_ | refine blk_alloc ?_ _)); refine blk_far ?_ NB257_267.out _; (with_reducible repeat (first | refine blk_drewN ?_ _ | refine blk_drew ?_ | refine blk_alloc ?_ _)); exact BK257.out) NB257_0.out (by simp)); replace HO266 := am (Kd.R_mono (Kd.R_keep (IsS65.apart (show IsS65 w0 _ g s0_0 t262 t263 from pkS65 HI0) (by (with_reducible repeat (first | apply Kd.R_alloc | apply Kd.R_drewN | apply Kd.R_drew)); exact (Kd.R_mono (Kd.R_far (p := ⟨gb267, 2, none⟩) (Kd.R_far (p := ⟨gb267, 1, none⟩) (Kd.R_far (p := ⟨gb267, 0, none⟩) (Kd.R_types HO266.out BK267.out (by decide)) (fun _ hk => hk.2) (.int .i64 t258)) (fun _ hk => hk.2) (.bool true)) (fun _ hk => hk.2) (.slice Ao27 y264.length co27)) (fun _ h_ => h_.1))) (by decide)) hk (fun _ h => h.2)) (fun _ h => h.1)); replace BK267 := am (KeepBut.blk hk (g' := gb267) (o := .cells #[.int .i64 t258, .bool true, .slice Ao27 y264.length co27] 26 (0, 0)) (by (with_reducible repeat (first | refine blk_drewN ?_ _ | refine blk_drew ?_ | refine blk_alloc ?_ _)); refine blk_put (cs := #[.int .i64 t258, .bool true, .slice none 0 0]) ?_ 2 _ rfl; (with_reducible repeat (first | refine blk_drewN ?_ _ | refine blk_drew ?_ | refine blk_alloc ?_ _)); refine blk_put (cs := #[.int .i64 t258, .bool false, .slice none 0 0]) ?_ 1 _ rfl; (with_reducible repeat (first | refine blk_drewN ?_ _ | refine blk_drew ?_ | refine blk_alloc ?_ _)); refine blk_put (cs := #[.int .i64 0, .bool false, .slice none 0 0]) ?_ 0 _ rfl; (with_reducible repeat (first | refine blk_drewN ?_ _ | refine blk_drew ?_ | refine blk_alloc ?_ _)); exact BK267.out) NB267_0.out (by simp)); replace HK := am (ktk (pkK HK) hk); replace HB := am (hb); replace HI0 := am (hi); (try clear hb); (try clear hb2); (try clear hk); (try clear hi); obtain ⟨hcz33_0, hcz33_1, hcz33_2⟩ := bc3 BK267.out; obtain ⟨hfz33_0, hfz33_1, hfz33_2⟩ := bf3 BK267.out; have hnb34 := NB257_0.out; have hnc34 := NB0_257.out; obtain ⟨hcz35_0, hcz35_1, hcz35_2⟩ := bc3 BK257.out; obtain ⟨hfz35_0, hfz35_1, hfz35_2⟩ := bf3 BK257.out))
    refine bodyPost_ret (results_cell_row rfl _ _ gb257 26 #[.int .i64 3, .bool true, .slice Ao27 y264.length co27] (0, 0) _ rfl (by (with_reducible repeat (first | refine blk_drewN ?_ _ | refine blk_drew ?_ | refine blk_alloc ?_ _)); refine blk_put (cs := #[.int .i64 3, .bool true, .slice none 0 0]) ?_ 2 _ rfl; (with_reducible repeat (first | refine blk_drewN ?_ _ | refine blk_drew ?_ | refine blk_alloc ?_ _)); refine blk_put (cs := #[.int .i64 3, .bool false, .slice none 0 0]) ?_ 1 _ rfl; (with_reducible repeat (first | refine blk_drewN ?_ _ | refine blk_drew ?_ | refine blk_alloc ?_ _)); refine blk_put (cs := #[.int .i64 0, .bool false, .slice none 0 0]) ?_ 0 _ rfl; (with_reducible repeat (first | refine blk_drewN ?_ _ | refine blk_drew ?_ | refine blk_alloc ?_ _)); refine blk_far ?_ NB257_267.out _; (with_reducible repeat (first | refine blk_drewN ?_ _ | refine blk_drew ?_ | refine blk_alloc ?_ _)); exact BK257.out) Tryd.underlying26 rfl (by kernel_rfl)) rfl ?_
    exact ⟨_, by first | rfl | (simp [*]; done), by (with_reducible repeat (first | apply Kd.R_alloc | apply Kd.R_drewN | apply Kd.R_drew)); exact Kd.R_mono (Kd.R_far (p := ⟨gb257, 2, none⟩) (Kd.R_far (p := ⟨gb257, 1, none⟩) (Kd.R_far (p := ⟨gb257, 0, none⟩) (Kd.R_far (p := ⟨gb267, 0, none⟩) (Kd.R_types (Kd.R_types HO266.out BK267.out (by decide)) BK257.out (by decide)) (fun _ hk => hk.1.2) (.int .i64 3)) (fun _ hk => hk.2) (.int .i64 3)) (fun _ hk => hk.2) (.bool true)) (fun _ hk => hk.2) (.slice Ao27 y264.length co27)) (fun _ hk => trivial), pkS65 HI0, pkBS65 HB, pkK HK⟩
  ·rw [if_neg c5] at H
   have c5b0 : (t258 == 2) = false := beq_eq_false_iff_ne.mpr c5
   have c5b1 : (t258 != 2) = true := bne_iff_ne.mpr c5
   simp only [Option.some.injEq, Prod.mk.injEq] at H
   obtain ⟨rfl, rfl, rfl, rfl, rfl⟩ := H
   go_enter Tryd.func60, Tryd.ntmps60
   go_wp2_with (first | ((with_reducible refine gate_dst (N := 2) rfl ?_); refine box_event ?hg (N := 2) ?hd (cs := #[.int .i64 0, .bool false, .slice none 0 0]) (t := 26) ?hr ?_; (case hd => rfl); (case hg => rfl); (case hr => first | (go_simp; done) | (go_simp; rfl)); intro gb257 hg w36 hbox hb; have BK257 := am (hbox); have GW257 := am ((by rw [hg]; exact (keep_size (pkK HK)) : w.heap.size ≤ gb257)); have GE257 := am ((Nat.le_trans HW0.out (by rw [hg]; exact (keep_size (pkK HK)) : w.heap.size ≤ gb257) : w0.heap.size ≤ gb257)); have NB0_257 := am ((by rw [hg]; exact Nat.ne_of_lt (IsS65.lt (show IsS65 w0 _ g s0_0 s0_1 s0_2 from pkS65 HI0)) : g ≠ gb257)); have NB257_0 := am ((by rw [hg]; exact Nat.ne_of_gt (IsS65.lt (show IsS65 w0 _ g s0_0 s0_1 s0_2 from pkS65 HI0)) : gb257 ≠ g)); replace HI0 := am (IsS65.below (pkS65 HI0) hb); replace HK := am (ktb (pkK HK) hb); replace HB := am (below_step (pkBS65 HB) hb); clear hb hbox hg) | (go_at_call 64; (with_reducible refine (spec_l1Cur_seats.calls g s0_0 s0_1 s0_2 t258 t259 t260 w0 _ ?side1 ?side2 A2.out).mono ?_); (case side1 => exact pkS65 HI0); (case side2 => exact pkBS65 HB); rintro e w37 ⟨rfl, hi, hb, hk⟩; replace BK257 := am (KeepBut.blk hk (pkC BK257) NB257_0.out (by simp)); replace HK := am (ktk (pkK HK) hk); replace HB := am (hb); replace HI0 := am (hi); (try clear hb); (try clear hb2); (try clear hk); (try clear hi)) | (go_at_call 38; (with_reducible refine (spec_l1Cur_one.calls g s0_0 t259 t260 2 true t262 t263 w0 _ ?side1 ?side2 A3.out).mono ?_); (case side1 => exact pkS65 HI0); (case side2 => exact pkBS65 HB); rintro e w38 ⟨rfl, hi, hb, hk⟩; replace BK257 := am (KeepBut.blk hk (pkC BK257) NB257_0.out (by simp)); replace HK := am (ktk (pkK HK) hk); replace HB := am (hb); replace HI0 := am (hi); (try clear hb); (try clear hb2); (try clear hk); (try clear hi)) | ((with_reducible refine gate_dst (N := 8) rfl ?_); refine Kd.R_lit (Kd.int .i64) _ 3 ?hg (N := 8) ?hd (xs := ([] : List Int)) (inner := []) (ok := fun _ => True) (okp := fun _ => True) ?hr ?hp (fun _ hk => hk) trivial (Below.refl _ _) (Nat.le_refl _) (by simp) ?_; (case hd => rfl); (case hg => rfl); (case hr => first | (go_simp; done) | (go_simp; rfl)); (case hp => exact (Reps.none _ _)); intro v265 w39 ho40 hb hg_ hnew_; clear hg_ hnew_; (first | rw [← Ny264.out] at ho40 | (simp only [Int.reduceToNat] at ho40; rw [← Ny264.out] at ho40)); have HO266 := am (Kd.R_lower ho40 (keep_size (pkK HK))); replace HI0 := am (IsS65.below (pkS65 HI0) hb); replace BK257 := am (blk_below (pkC BK257) hb); replace HK := am (ktb (pkK HK) hb); replace HB := am (below_step (pkBS65 HB) hb); clear hb ho40; obtain ⟨Ao41, co41, eo41⟩ := Kd.R_slice HO266.out; subst eo41) | ((with_reducible refine gate_dst (N := 3) rfl ?_); refine box_event ?hg (N := 3) ?hd (cs := #[.int .i64 0, .bool false, .slice none 0 0]) (t := 26) ?hr ?_; (case hd => rfl); (case hg => rfl); (case hr => first | (go_simp; done) | (go_simp; rfl)); intro gb267 hg w42 hbox hb; have BK267 := am (hbox); have GW267 := am ((by rw [hg]; exact (keep_size (pkK HK)) : w.heap.size ≤ gb267)); have GE267 := am ((Nat.le_trans HW0.out (by rw [hg]; exact (keep_size (pkK HK)) : w.heap.size ≤ gb267) : w0.heap.size ≤ gb267)); have NB257_267 := am ((by rw [hg]; exact Nat.ne_of_lt (blk_lt (pkC BK257)) : gb257 ≠ gb267)); have NB267_257 := am ((by rw [hg]; exact Nat.ne_of_gt (blk_lt (pkC BK257)) : gb267 ≠ gb257)); have NB0_267 := am ((by rw [hg]; exact Nat.ne_of_lt (IsS65.lt (show IsS65 w0 _ g s0_0 t262 t263 from pkS65 HI0)) : g ≠ gb267)); have NB267_0 := am ((by rw [hg]; exact Nat.ne_of_gt (IsS65.lt (show IsS65 w0 _ g s0_0 t262 t263 from pkS65 HI0)) : gb267 ≠ g)); replace HO266 := am (Kd.R_below (pk HO266) hb); replace HI0 := am (IsS65.below (pkS65 HI0) hb); replace BK257 := am (blk_below (pkC BK257) hb); replace HK := am (ktb (pkK HK) hb); replace HB := am (below_step (pkBS65 HB) hb); clear hb hbox hg; have hnb43 := NB267_257.out; have hnc43 := NB257_267.out; have hnb44 := NB267_0.out; have hnc44 := NB0_267.out; obtain ⟨hcz45_0, hcz45_1, hcz45_2⟩ := bc3 BK267.out; obtain ⟨hfz45_0, hfz45_1, hfz45_2⟩ := bf3 BK267.out; have hnb46 := NB257_0.out; have hnc46 := NB0_257.out; obtain ⟨hcz47_0, hcz47_1, hcz47_2⟩ := bc3 BK257.out; obtain ⟨hfz47_0, hfz47_1, hfz47_2⟩ := bf3 BK257.out))
   refine bodyPost_ret (results_cell_row rfl _ _ gb257 26 #[.int .i64 t258, .bool true, .slice Ao41 y264.length co41] (0, 0) _ rfl (by (with_reducible repeat (first | refine blk_drewN ?_ _ | refine blk_drew ?_ | refine blk_alloc ?_ _)); refine blk_put (cs := #[.int .i64 t258, .bool true, .slice none 0 0]) ?_ 2 _ rfl; (with_reducible repeat (first | refine blk_drewN ?_ _ | refine blk_drew ?_ | refine blk_alloc ?_ _)); refine blk_put (cs := #[.int .i64 t258, .bool false, .slice none 0 0]) ?_ 1 _ rfl; (with_reducible repeat (first | refine blk_drewN ?_ _ | refine blk_drew ?_ | refine blk_alloc ?_ _)); refine blk_put (cs := #[.int .i64 0, .bool false, .slice none 0 0]) ?_ 0 _ rfl; (with_reducible repeat (first | refine blk_drewN ?_ _ | refine blk_drew ?_ | refine blk_alloc ?_ _)); refine blk_far ?_ NB257_267.out _; (with_reducible repeat (first | refine blk_drewN ?_ _ | refine blk_drew ?_ | refine blk_alloc ?_ _)); refine blk_far ?_ NB257_267.out _; (with_reducible repeat (first | refine blk_drewN ?_ _ | refine blk_drew ?_ | refine blk_alloc ?_ _)); refine blk_far ?_ NB257_267.out _; (with_reducible repeat (first | refine blk_drewN ?_ _ | refine blk_drew ?_ | refine blk_alloc ?_ _)); exact BK257.out) Tryd.underlying26 rfl (by kernel_rfl)) rfl ?_
   exact ⟨_, by first | rfl | (simp [*]; done), by (with_reducible repeat (first | apply Kd.R_alloc | apply Kd.R_drewN | apply Kd.R_drew)); exact Kd.R_mono (Kd.R_far (p := ⟨gb257, 2, none⟩) (Kd.R_far (p := ⟨gb257, 1, none⟩) (Kd.R_far (p := ⟨gb257, 0, none⟩) (Kd.R_far (p := ⟨gb267, 2, none⟩) (Kd.R_far (p := ⟨gb267, 1, none⟩) (Kd.R_far (p := ⟨gb267, 0, none⟩) (Kd.R_types (Kd.R_types HO266.out BK267.out (by decide)) BK257.out (by decide)) (fun _ hk => hk.1.2) (.int .i64 t258)) (fun _ hk => hk.1.2) (.bool true)) (fun _ hk => hk.1.2) (.slice Ao41 y264.length co41)) (fun _ hk => hk.2) (.int .i64 t258)) (fun _ hk => hk.2) (.bool true)) (fun _ hk => hk.2) (.slice Ao41 y264.length co41)) (fun _ hk => trivial), pkS65 HI0, pkBS65 HB, pkK HK⟩
 ·replace c4 := Bool.eq_false_iff.mpr c4
  subst c4
  rw [if_neg (show ¬ (false = true) by decide)] at H
  simp only [Option.some.injEq, Prod.mk.injEq] at H
  obtain ⟨rfl, rfl, rfl, rfl, rfl⟩ := H
  go_enter Tryd.func60, Tryd.ntmps60
  go_wp2_with (first | ((with_reducible refine gate_dst (N := 2) rfl ?_); refine box_event ?hg (N := 2) ?hd (cs := #[.int .i64 0, .bool false, .slice none 0 0]) (t := 26) ?hr ?_; (case hd => rfl); (case hg => rfl); (case hr => first | (go_simp; done) | (go_simp; rfl)); intro gb257 hg w48 hbox hb; have BK257 := am (hbox); have GW257 := am ((by rw [hg]; exact (keep_size (pkK HK)) : w.heap.size ≤ gb257)); have GE257 := am ((Nat.le_trans HW0.out (by rw [hg]; exact (keep_size (pkK HK)) : w.heap.size ≤ gb257) : w0.heap.size ≤ gb257)); have NB0_257 := am ((by rw [hg]; exact Nat.ne_of_lt (IsS65.lt (show IsS65 w0 _ g s0_0 s0_1 s0_2 from pkS65 HI0)) : g ≠ gb257)); have NB257_0 := am ((by rw [hg]; exact Nat.ne_of_gt (IsS65.lt (show IsS65 w0 _ g s0_0 s0_1 s0_2 from pkS65 HI0)) : gb257 ≠ g)); replace HI0 := am (IsS65.below (pkS65 HI0) hb); replace HK := am (ktb (pkK HK) hb); replace HB := am (below_step (pkBS65 HB) hb); clear hb hbox hg) | (go_at_call 64; (with_reducible refine (spec_l1Cur_seats.calls g s0_0 s0_1 s0_2 t258 t259 t260 w0 _ ?side1 ?side2 A2.out).mono ?_); (case side1 => exact pkS65 HI0); (case side2 => exact pkBS65 HB); rintro e w49 ⟨rfl, hi, hb, hk⟩; replace BK257 := am (KeepBut.blk hk (pkC BK257) NB257_0.out (by simp)); replace HK := am (ktk (pkK HK) hk); replace HB := am (hb); replace HI0 := am (hi); (try clear hb); (try clear hb2); (try clear hk); (try clear hi)) | (go_at_call 38; (with_reducible refine (spec_l1Cur_one.calls g s0_0 t259 t260 2 false t262 t263 w0 _ ?side1 ?side2 A3.out).mono ?_); (case side1 => exact pkS65 HI0); (case side2 => exact pkBS65 HB); rintro e w50 ⟨rfl, hi, hb, hk⟩; replace BK257 := am (KeepBut.blk hk (pkC BK257) NB257_0.out (by simp)); replace HK := am (ktk (pkK HK) hk); replace HB := am (hb); replace HI0 := am (hi); (try clear hb); (try clear hb2); (try clear hk); (try clear hi)) | ((with_reducible refine gate_dst (N := 8) rfl ?_); refine Kd.R_lit (Kd.int .i64) _ 3 ?hg (N := 8) ?hd (xs := ([] : List Int)) (inner := []) (ok := fun _ => True) (okp := fun _ => True) ?hr ?hp (fun _ hk => hk) trivial (Below.refl _ _) (Nat.le_refl _) (by simp) ?_; (case hd => rfl); (case hg => rfl); (case hr => first | (go_simp; done) | (go_simp; rfl)); (case hp => exact (Reps.none _ _)); intro v265 w51 ho52 hb hg_ hnew_; clear hg_ hnew_; (first | rw [← Ny264.out] at ho52 | (simp only [Int.reduceToNat] at ho52; rw [← Ny264.out] at ho52)); have HO266 := am (Kd.R_lower ho52 (keep_size (pkK HK))); replace HI0 := am (IsS65.below (pkS65 HI0) hb); replace BK257 := am (blk_below (pkC BK257) hb); replace HK := am (ktb (pkK HK) hb); replace HB := am (below_step (pkBS65 HB) hb); clear hb ho52; obtain ⟨Ao53, co53, eo53⟩ := Kd.R_slice HO266.out; subst eo53) | ((with_reducible refine gate_dst (N := 3) rfl ?_); refine box_event ?hg (N := 3) ?hd (cs := #[.int .i64 0, .bool false, .slice none 0 0]) (t := 26) ?hr ?_; (case hd => rfl); (case hg => rfl); (case hr => first | (go_simp; done) | (go_simp; rfl)); intro gb267 hg w54 hbox hb; have BK267 := am (hbox); have GW267 := am ((by rw [hg]; exact (keep_size (pkK HK)) : w.heap.size ≤ gb267)); have GE267 := am ((Nat.le_trans HW0.out (by rw [hg]; exact (keep_size (pkK HK)) : w.heap.size ≤ gb267) : w0.heap.size ≤ gb267)); have NB257_267 := am ((by rw [hg]; exact Nat.ne_of_lt (blk_lt (pkC BK257)) : gb257 ≠ gb267)); have NB267_257 := am ((by rw [hg]; exact Nat.ne_of_gt (blk_lt (pkC BK257)) : gb267 ≠ gb257)); have NB0_267 := am ((by rw [hg]; exact Nat.ne_of_lt (IsS65.lt (show IsS65 w0 _ g s0_0 t262 t263 from pkS65 HI0)) : g ≠ gb267)); have NB267_0 := am ((by rw [hg]; exact Nat.ne_of_gt (IsS65.lt (show IsS65 w0 _ g s0_0 t262 t263 from pkS65 HI0)) : gb267 ≠ g)); replace HO266 := am (Kd.R_below (pk HO266) hb); replace HI0 := am (IsS65.below (pkS65 HI0) hb); replace BK257 := am (blk_below (pkC BK257) hb); replace HK := am (ktb (pkK HK) hb); replace HB := am (below_step (pkBS65 HB) hb); clear hb hbox hg; have hnb55 := NB267_257.out; have hnc55 := NB257_267.out; have hnb56 := NB267_0.out; have hnc56 := NB0_267.out; obtain ⟨hcz57_0, hcz57_1, hcz57_2⟩ := bc3 BK267.out; obtain ⟨hfz57_0, hfz57_1, hfz57_2⟩ := bf3 BK267.out; have hnb58 := NB257_0.out; have hnc58 := NB0_257.out; obtain ⟨hcz59_0, hcz59_1, hcz59_2⟩ := bc3 BK257.out; obtain ⟨hfz59_0, hfz59_1, hfz59_2⟩ := bf3 BK257.out))
  refine bodyPost_ret (results_cell_row rfl _ _ gb257 26 #[.int .i64 t258, .bool false, .slice Ao53 y264.length co53] (0, 0) _ rfl (by (with_reducible repeat (first | refine blk_drewN ?_ _ | refine blk_drew ?_ | refine blk_alloc ?_ _)); refine blk_put (cs := #[.int .i64 t258, .bool false, .slice none 0 0]) ?_ 2 _ rfl; (with_reducible repeat (first | refine blk_drewN ?_ _ | refine blk_drew ?_ | refine blk_alloc ?_ _)); refine blk_put (cs := #[.int .i64 t258, .bool false, .slice none 0 0]) ?_ 1 _ rfl; (with_reducible repeat (first | refine blk_drewN ?_ _ | refine blk_drew ?_ | refine blk_alloc ?_ _)); refine blk_put (cs := #[.int .i64 0, .bool false, .slice none 0 0]) ?_ 0 _ rfl; (with_reducible repeat (first | refine blk_drewN ?_ _ | refine blk_drew ?_ | refine blk_alloc ?_ _)); refine blk_far ?_ NB257_267.out _; (with_reducible repeat (first | refine blk_drewN ?_ _ | refine blk_drew ?_ | refine blk_alloc ?_ _)); refine blk_far ?_ NB257_267.out _; (with_reducible repeat (first | refine blk_drewN ?_ _ | refine blk_drew ?_ | refine blk_alloc ?_ _)); refine blk_far ?_ NB257_267.out _; (with_reducible repeat (first | refine blk_drewN ?_ _ | refine blk_drew ?_ | refine blk_alloc ?_ _)); exact BK257.out) Tryd.underlying26 rfl (by kernel_rfl)) rfl ?_
  exact ⟨_, by first | rfl | (simp [*]; done), by (with_reducible repeat (first | apply Kd.R_alloc | apply Kd.R_drewN | apply Kd.R_drew)); exact Kd.R_mono (Kd.R_far (p := ⟨gb257, 2, none⟩) (Kd.R_far (p := ⟨gb257, 1, none⟩) (Kd.R_far (p := ⟨gb257, 0, none⟩) (Kd.R_far (p := ⟨gb267, 2, none⟩) (Kd.R_far (p := ⟨gb267, 1, none⟩) (Kd.R_far (p := ⟨gb267, 0, none⟩) (Kd.R_types (Kd.R_types HO266.out BK267.out (by decide)) BK257.out (by decide)) (fun _ hk => hk.1.2) (.int .i64 t258)) (fun _ hk => hk.1.2) (.bool false)) (fun _ hk => hk.1.2) (.slice Ao53 y264.length co53)) (fun _ hk => hk.2) (.int .i64 t258)) (fun _ hk => hk.2) (.bool false)) (fun _ hk => hk.2) (.slice Ao53 y264.length co53)) (fun _ hk => trivial), pkS65 HI0, pkBS65 HB, pkK HK⟩

/-! ### spec_l1Has: function 68 -/
def spec_l1Has.l0 : Nat → List Int → Int → Int → Option (Bool)
 | 0, _, _, _ => none
 | k + 1, x0, x1, x5 => if x5 < (x0.length : Int) then (if 0 ≤ x5 then (if (rd x0 x5) = x1 then (some true) else (spec_l1Has.l0 k x0 x1 (wrap64 (x5 + 1)))) else (none)) else (some false)
def spec_l1Has.f (k : Nat) (l0 : List Int) (a1 : Int) : Option (Bool) := spec_l1Has.l0 k l0 a1 0
set_option maxHeartbeats 8000000 in
set_option maxRecDepth 100000 in
theorem spec_l1Has.calls (k : Nat) (A0 : Option Addr) (c0 : Nat) (l0 : List Int) (a1 : Int) (r : Bool) (w : World) (hr0 : Kd.C (Kd.int .i64) w A0 l0.length l0) (hc0 : l0.length ≤ c0) (h : spec_l1Has.f k l0 a1 = some r) :
  Calls Tryd.prog 68 #[.slice A0 l0.length c0, .int .i64 a1] w fun e w' => e = .returned (.bool r) ∧ Drawn0 w w' := by
 have HR0 := am hr0
 have HC0 := am hc0
 clear hr0 hc0
 have H : (spec_l1Has.l0 k l0 a1 0) = some r := h
 clear h
 have H' := am H
 clear H
 go_enter Tryd.func68, Tryd.ntmps68
 go_wp2
 go_loopg [5] k (fun kq v5 w' => ∃ (x5_1 : Int), v5 = .int .i64 x5_1 ∧ Aside0 (spec_l1Has.l0 kq l0 a1 x5_1 = some r) ∧ Aside0 (kq ≤ k) ∧ Drawn0 w w')
 case atStart => exact ⟨(0), (by first | rfl | (simp; done) | (simp [*]; done)), H', ⟨Nat.le_refl _⟩, by repeat (first | exact Drawn0.refl _ | apply Drawn0.step)⟩
 case round =>
  clear H'
  try clear p2
  obtain ⟨x5_1, rfl, HA, HK1, ⟨m1, rfl⟩⟩ := hrel
  cases gk with
  | zero => exact absurd HA.out (by simp [spec_l1Has.l0])
  | succ k1 =>
   have H := HA.out
   clear HA
   simp only [spec_l1Has.l0] at H
   by_cases c3 : x5_1 < (l0.length : Int)
   ·rw [if_pos c3] at H
    have c3b0 : decide (x5_1 < (l0.length : Int)) = true := decide_eq_true c3
    clear c3
    by_cases c4 : 0 ≤ x5_1
    ·rw [if_pos c4] at H
     have c4b0 : decide (0 ≤ x5_1) = true := decide_eq_true c4
     clear c4
     by_cases c5 : (rd l0 x5_1) = a1
     ·rw [if_pos c5] at H
      have c5b0 : ((rd l0 x5_1) == a1) = true := beq_iff_eq.mpr c5
      have c5b1 : ((rd l0 x5_1) != a1) = false := bne_eq_false_iff_eq.mpr c5
      clear c5
      obtain rfl := Option.some.inj H
      have p271 : 0 ≤ (x5_1 : Int) := of_decide_eq_true (by first | (with_reducible assumption) | assumption)
      have q271 : x5_1 < (l0.length : Int) := of_decide_eq_true (by first | (with_reducible assumption) | assumption)
      obtain ⟨ad271, e271, hx271_0⟩ := Kd.at_int HR0.out x5_1 p271 q271
      cases e271
      replace p271 := eq_true p271
      replace q271 := eq_true q271
      go_wp2
      go_ret
      exact ⟨by first | rfl | (simp; done) | (simp [*]; done), by repeat (first | exact Drawn0.refl _ | apply Drawn0.step)⟩
     ·rw [if_neg c5] at H
      have c5b0 : ((rd l0 x5_1) == a1) = false := beq_eq_false_iff_ne.mpr c5
      have c5b1 : ((rd l0 x5_1) != a1) = true := bne_iff_ne.mpr c5
      have H' := am H
      clear H
      have p271 : 0 ≤ (x5_1 : Int) := of_decide_eq_true (by first | (with_reducible assumption) | assumption)
      have q271 : x5_1 < (l0.length : Int) := of_decide_eq_true (by first | (with_reducible assumption) | assumption)
      obtain ⟨ad271, e271, hx271_0⟩ := Kd.at_int HR0.out x5_1 p271 q271
      cases e271
      replace p271 := eq_true p271
      replace q271 := eq_true q271
      go_wp2
      go_roundg k1
      case measure => have := HK1.out; omega
      case rel => exact ⟨(wrap64 (x5_1 + 1)), (by first | rfl | (simp; done) | (simp [*]; done)), H', ⟨by have := HK1.out; omega⟩, by repeat (first | exact Drawn0.refl _ | apply Drawn0.step)⟩
    ·rw [if_neg c4] at H
     exact absurd H (by simp)
   ·rw [if_neg c3] at H
    have c3b0 : decide (x5_1 < (l0.length : Int)) = false := decide_eq_false c3
    clear c3
    obtain rfl := Option.some.inj H
    go_wp2
    go_ret
    exact ⟨by first | rfl | (simp; done) | (simp [*]; done), by repeat (first | exact Drawn0.refl _ | apply Drawn0.step)⟩

/-! ### spec_l2Is: function 67 -/
def spec_l2Is.f (k : Nat) (a0_0 : Int) (a0_1 : Bool) (l0_2 : List Int) (a1 : Int) : Option (Bool) := (spec_l1Has.f k l0_2 a1).bind fun t273 => (some t273)
set_option maxHeartbeats 8000000 in
set_option maxRecDepth 100000 in
theorem spec_l2Is.calls (k : Nat) (a0_0 : Int) (a0_1 : Bool) (A0_2 : Option Addr) (c0_2 : Nat) (l0_2 : List Int) (a1 : Int) (r : Bool) (w : World) (hr0_2 : Kd.C (Kd.int .i64) w A0_2 l0_2.length l0_2) (hc0_2 : l0_2.length ≤ c0_2) (h : spec_l2Is.f k a0_0 a0_1 l0_2 a1 = some r) :
  Calls Tryd.prog 67 #[.agg #[.int .i64 a0_0, .bool a0_1, .slice A0_2 l0_2.length c0_2], .int .i64 a1] w fun e w' => e = .returned (.bool r) ∧ Below w.heap.size w w' := by
 have hu26 := Tryd.underlying26
 have HR0_2 := am hr0_2
 have HC0_2 := am hc0_2
 clear hr0_2 hc0_2
 have HB := am (Below.refl w.heap.size w)
 have H : ((spec_l1Has.f k l0_2 a1).bind fun t273 => (some t273)) = some r := h
 clear h
 replace H := Option.bind_eq_some_iff.mp H
 obtain ⟨t273, A30, H⟩ := H
 try dsimp only at H
 have A3 := am A30
 clear A30
 obtain rfl := Option.some.inj H
 go_enter Tryd.func67, Tryd.ntmps67
 go_wp2_with (first | ((with_reducible refine gate_dst (N := 2) rfl ?_); refine box_event ?hg (N := 2) ?hd (cs := #[.int .i64 a0_0, .bool a0_1, .slice A0_2 l0_2.length c0_2]) (t := 26) ?hr ?_; (case hd => rfl); (case hg => rfl); (case hr => first | (go_simp; done) | (go_simp; rfl)); intro gb272 hg w4 hbox hb; have BK272 := am (hbox); have GW272 := am ((by rw [hg]; exact (below_size (pkB HB)) : w.heap.size ≤ gb272)); have GE272 := am ((by rw [hg]; exact (below_size (pkB HB)) : w.heap.size ≤ gb272)); replace HB := am (below_step (pkB HB) hb); clear hb hbox hg; obtain ⟨hcz5_0, hcz5_1, hcz5_2⟩ := bc3 BK272.out; obtain ⟨hfz5_0, hfz5_1, hfz5_2⟩ := bf3 BK272.out) | ((with_reducible refine gate_callee (f := 68) rfl ?_); refine goesL_ (some 8) rfl rfl Tryd.func68 (by kernel_rfl) rfl #[.slice A0_2 l0_2.length c0_2, .int .i64 a1] rfl (by (try simp only [List.map_toArray, List.map_cons, List.map_nil]); first | done | rfl | (simp only [List.length_drop, List.length_take]; rfl)) ?_; (with_reducible refine (spec_l1Has.calls k _ _ l0_2 a1 t273 _ ?side1 ?side2 A3.out).mono ?_); (case side1 => repeat (first | exact (Kd.C_below HR0_2.out HB.out) | (with_reducible refine Kd.C_alloc ?_ _) | (with_reducible refine Kd.C_drewN ?_ _) | (with_reducible refine Kd.C_drew ?_))); (case side2 => exact HC0_2.out); rintro e w' ⟨rfl, ⟨nd, rfl⟩⟩; refine ⟨_, rfl, ?_⟩))
 go_ret
 exact ⟨by first | rfl | (simp [*]; done), pkB HB⟩

/-! ### spec_l2Free: function 66 -/
def spec_l2Free.l0 : Nat → List Int → Int → Int → Bool → List Int → Option (List Int)
 | 0, _, _, _, _, _ => none
 | k + 1, x3, x4, x275000, x275001, x275002 => if x4 < x275000 then ((spec_l2Is.f k x275000 x275001 x275002 x4).bind fun t278 => (if t278 = true then (spec_l2Free.l0 k x3 (wrap64 (x4 + 1)) x275000 x275001 x275002) else (if x3.length < 17592186044416 then (spec_l2Free.l0 k (x3 ++ [x4]) (wrap64 (x4 + 1)) x275000 x275001 x275002) else (none)))) else (some x3)
def spec_l2Free.f (k : Nat) (a0_0 : Int) (a0_1 : Bool) (l0_2 : List Int) : Option (List Int) := spec_l2Free.l0 k (([] : List Int)) 0 a0_0 a0_1 l0_2
set_option maxHeartbeats 8000000 in
set_option maxRecDepth 100000 in
theorem spec_l2Free.calls (k : Nat) (a0_0 : Int) (a0_1 : Bool) (A0_2 : Option Addr) (c0_2 : Nat) (l0_2 : List Int) (r : List Int) (w : World) (hr0_2 : Kd.C (Kd.int .i64) w A0_2 l0_2.length l0_2) (hc0_2 : l0_2.length ≤ c0_2) (h : spec_l2Free.f k a0_0 a0_1 l0_2 = some r) :
  Calls Tryd.prog 66 #[.agg #[.int .i64 a0_0, .bool a0_1, .slice A0_2 l0_2.length c0_2]] w fun e w' => ∃ v0_ : Value, e = .returned (v0_) ∧ Kd.R (Kd.int .i64) 3 w' w.heap.size (fun _ => True) v0_ r ∧ Below w.heap.size w w' := by
 have hu26 := Tryd.underlying26
 have HR0_2 := am hr0_2
 have HC0_2 := am hc0_2
 clear hr0_2 hc0_2
 have HB := am (Below.refl w.heap.size w)
 have H : (spec_l2Free.l0 k (([] : List Int)) 0 a0_0 a0_1 l0_2) = some r := h
 clear h
 obtain ⟨y275, hy275⟩ : ∃ y_ : List Int, y_ = (([] : List Int)) := ⟨_, rfl⟩
 replace H : (spec_l2Free.l0 k y275 0 a0_0 a0_1 l0_2) = some r := by first | (rw [hy275]; with_reducible exact H) | (have H2_ := (Option.bind_some _ _).symm.trans H; rw [hy275]; with_reducible exact H2_) | (have H2_ := (Option.bind_some _ _).symm.trans H; with_reducible exact H2_) | with_reducible exact H | (rw [hy275]; exact H) | exact H
 have Ny275 := am hy275
 clear hy275
 have H' := am H
 clear H
 go_enter Tryd.func66, Tryd.ntmps66
 go_wp2_with (first | ((with_reducible refine gate_dst (N := 1) rfl ?_); refine box_event ?hg (N := 1) ?hd (cs := #[.int .i64 a0_0, .bool a0_1, .slice A0_2 l0_2.length c0_2]) (t := 26) ?hr ?_; (case hd => rfl); (case hg => rfl); (case hr => first | (go_simp; done) | (go_simp; rfl)); intro gb274 hg w2 hbox hb; have BK274 := am (hbox); have GW274 := am ((by rw [hg]; exact (below_size (pkB HB)) : w.heap.size ≤ gb274)); have GE274 := am ((by rw [hg]; exact (below_size (pkB HB)) : w.heap.size ≤ gb274)); replace HB := am (below_step (pkB HB) hb); clear hb hbox hg) | ((with_reducible refine gate_dst (N := 5) rfl ?_); refine Kd.R_lit (Kd.int .i64) _ 3 ?hg (N := 5) ?hd (xs := ([] : List Int)) (inner := []) (ok := fun _ => True) (okp := fun _ => True) ?hr ?hp (fun _ hk => hk) trivial (Below.refl _ _) (Nat.le_refl _) (by simp) ?_; (case hd => rfl); (case hg => rfl); (case hr => first | (go_simp; done) | (go_simp; rfl)); (case hp => exact (Reps.none _ _)); intro v276 w3 ho4 hb hg_ hnew_; clear hg_ hnew_; (first | rw [← Ny275.out] at ho4 | (simp only [Int.reduceToNat] at ho4; rw [← Ny275.out] at ho4)); have HO277 := am (Kd.R_lower ho4 (below_size (pkB HB))); replace BK274 := am (blk_below (pkC BK274) hb); replace HB := am (below_step (pkB HB) hb); clear hb ho4))
 go_loopg [3, 4] k (fun kq v3 v4 w' => ∃ (x3_1 : List Int) (x4_1 : Int), v4 = .int .i64 x4_1 ∧ Aside0 (spec_l2Free.l0 kq x3_1 x4_1 a0_0 a0_1 l0_2 = some r) ∧ Aside0 (kq ≤ k) ∧ Aside0 (Kd.R (Kd.int .i64) 3 w' w.heap.size (fun _ => True) v3 x3_1) ∧ Aside0 (w'.heap[gb274]? = some (.cells #[.int .i64 a0_0, .bool a0_1, (.slice A0_2 l0_2.length c0_2)] 26 (0, 0))) ∧ Aside0 (Below w.heap.size w w'))
 case atStart => exact ⟨(y275), (0), (by first | rfl | (simp; done) | (simp [*]; done)), H', ⟨Nat.le_refl _⟩, ⟨by (with_reducible repeat (first | apply Kd.R_alloc | apply Kd.R_drewN | apply Kd.R_drew)); exact HO277.out⟩, ⟨pkC BK274⟩, ⟨pkB HB⟩⟩
 case round =>
  clear H'
  try clear p2
  obtain ⟨x3_1, x4_1, rfl, HA, HK1, HO_3, BK274, HB⟩ := hrel
  cases gk with
  | zero => exact absurd HA.out (by simp [spec_l2Free.l0])
  | succ k1 =>
   have H := HA.out
   clear HA
   simp only [spec_l2Free.l0] at H
   by_cases c5 : x4_1 < a0_0
   ·rw [if_pos c5] at H
    have c5b0 : decide (x4_1 < a0_0) = true := decide_eq_true c5
    clear c5
    replace H := Option.bind_eq_some_iff.mp H
    obtain ⟨t278, A60, H⟩ := H
    try dsimp only at H
    have A6 := am A60
    clear A60
    by_cases c7 : t278 = true
    ·subst c7
     rw [if_pos rfl] at H
     have H' := am H
     clear H
     obtain ⟨hcz8_0, hcz8_1, hcz8_2⟩ := bc3 BK274.out
     obtain ⟨hfz8_0, hfz8_1, hfz8_2⟩ := bf3 BK274.out
     go_wp2_with (first | (go_at_call 67; (with_reducible refine (spec_l2Is.calls k1 a0_0 a0_1 _ _ l0_2 x4_1 true _ ?side1 ?side2 A6.out).mono ?_); (case side1 => repeat (first | exact (Kd.C_below HR0_2.out HB.out) | (with_reducible refine Kd.C_alloc ?_ _) | (with_reducible refine Kd.C_drewN ?_ _) | (with_reducible refine Kd.C_drew ?_))); (case side2 => exact HC0_2.out); rintro e w9 ⟨rfl, hb⟩; replace HO_3 := am (Kd.R_below (pk HO_3) hb); replace BK274 := am (blk_below (pkC BK274) hb); replace HB := am (below_step (pkB HB) hb); (try clear hb); (try clear hb2); (try clear hk); (try clear hi)))
     go_roundg k1
     case measure => have := HK1.out; omega
     case rel => exact ⟨(x3_1), (wrap64 (x4_1 + 1)), (by first | rfl | (simp; done) | (simp [*]; done)), H', ⟨by have := HK1.out; omega⟩, ⟨by (with_reducible repeat (first | apply Kd.R_alloc | apply Kd.R_drewN | apply Kd.R_drew)); exact HO_3.out⟩, ⟨pkC BK274⟩, ⟨pkB HB⟩⟩
    ·replace c7 := Bool.eq_false_iff.mpr c7
     subst c7
     rw [if_neg (show ¬ (false = true) by decide)] at H
     by_cases c10 : x3_1.length < 17592186044416
     ·rw [if_pos c10] at H
      have LMc10 := am c10
      clear c10
      obtain ⟨y279, hy279⟩ : ∃ y_ : List Int, y_ = (x3_1 ++ [x4_1]) := ⟨_, rfl⟩
      replace H : (spec_l2Free.l0 k1 y279 (wrap64 (x4_1 + 1)) a0_0 a0_1 l0_2) = some r := by first | (rw [hy279]; with_reducible exact H) | (have H2_ := (Option.bind_some _ _).symm.trans H; rw [hy279]; with_reducible exact H2_) | (have H2_ := (Option.bind_some _ _).symm.trans H; with_reducible exact H2_) | with_reducible exact H | (rw [hy279]; exact H) | exact H
      have Ny279 := am hy279
      clear hy279
      have H' := am H
      clear H
      obtain ⟨hcz11_0, hcz11_1, hcz11_2⟩ := bc3 BK274.out
      obtain ⟨hfz11_0, hfz11_1, hfz11_2⟩ := bf3 BK274.out
      go_wp2_with (first | (go_at_call 67; (with_reducible refine (spec_l2Is.calls k1 a0_0 a0_1 _ _ l0_2 x4_1 false _ ?side1 ?side2 A6.out).mono ?_); (case side1 => repeat (first | exact (Kd.C_below HR0_2.out HB.out) | (with_reducible refine Kd.C_alloc ?_ _) | (with_reducible refine Kd.C_drewN ?_ _) | (with_reducible refine Kd.C_drew ?_))); (case side2 => exact HC0_2.out); rintro e w12 ⟨rfl, hb⟩; replace HO_3 := am (Kd.R_below (pk HO_3) hb); replace BK274 := am (blk_below (pkC BK274) hb); replace HB := am (below_step (pkB HB) hb); (try clear hb); (try clear hb2); (try clear hk); (try clear hi)) | ((with_reducible refine gate_builtin (b := .append) (xs := #[.tmp 16, .tmp 18]) rfl ?_); at_builtin; refine Kd.R_append (Kd.int .i64) (w0 := w) w.heap.size rfl (.tmp 16) (.tmp 18) 24 3 (.int .i64 0) 8 rfl Tryd.underlying24 info3 rfl (by decide) (by omega) u3 x3_1 x4_1 [.int .i64 x4_1] (fun _ => True) (fun _ => False) rfl rfl ?aP (fun _ hk => hk.elim) ?aF ?aO ?aB ?aS ?aL ?_; (case aP => exact rfl); (case aB => exact (pkB HB)); (case aF => exact (fun _ _ => trivial)); (case aO => exact (pk HO_3)); (case aS => exact (below_size (pkB HB))); (case aL => have := LMc10.out; omega); intro v280 w13 ho hb hg hat; rw [← Ny279.out] at ho; have HO281 := am (ho); replace BK274 := am (blk_grown (pkC BK274) hg (Kd.R_ne HO_3.out BK274.out (by decide))); replace HB := am (hb); clear HO_3 ho hb hg hat))
      go_roundg k1
      case measure => have := HK1.out; omega
      case rel => exact ⟨(y279), (wrap64 (x4_1 + 1)), (by first | rfl | (simp; done) | (simp [*]; done)), H', ⟨by have := HK1.out; omega⟩, ⟨by (with_reducible repeat (first | apply Kd.R_alloc | apply Kd.R_drewN | apply Kd.R_drew)); exact HO281.out⟩, ⟨pkC BK274⟩, ⟨pkB HB⟩⟩
     ·rw [if_neg c10] at H
      exact absurd H (by simp)
   ·rw [if_neg c5] at H
    have c5b0 : decide (x4_1 < a0_0) = false := decide_eq_false c5
    clear c5
    obtain rfl := Option.some.inj H
    obtain ⟨hcz14_0, hcz14_1, hcz14_2⟩ := bc3 BK274.out
    obtain ⟨hfz14_0, hfz14_1, hfz14_2⟩ := bf3 BK274.out
    go_wp2
    go_ret
    exact ⟨_, by first | rfl | (simp [*]; done), by (with_reducible repeat (first | apply Kd.R_alloc | apply Kd.R_drewN | apply Kd.R_drew)); exact HO_3.out, pkB HB⟩

end Go.Proofs.YtnoipklaebadeaaDoor.PFnPlacings
