import Derived.Test.YtaebbgkoaaigbaaDoorZFnSpreadPFnSpreadx0
import Derived.Test.YtaebbgkoaaigbaaDoorZFnSpreadPFnSpreadx6
import Derived.Test.YtaebbgkoaaigbaaDoorZFnSpreadPFnSpreadx7
import Derived.Test.YtaebbgkoaaigbaaDoorZFnSpreadPFnSpreadx15
namespace Go.Proofs.YtaebbgkoaaigbaaDoor.PFnSpread
open Go.RowKit Go.Proofs.YtaebbgkoaaigbaaDoorW.PrintWords Go.Proofs.YtaebbgkoaaigbaaDoorW.PrintLast Go.Proofs.YtaebbgkoaaigbaaDoorW.PrintMore
attribute [local go_sem] max2_int min2_int max_two min_two max_three min_three max_four min_four   -- for this text's walks alone
set_option linter.unusedVariables false
set_option linter.unusedSimpArgs false

/-! ### impl_spacing_follows: function 79 -/
theorem sp_drawn {w w' : World} (h : Drawn0 w w') : Below w.heap.size w w' := by
 obtain ⟨n, h⟩ := h.out
 rw [h]; exact pw_below_drewN (Below.refl _ _) n
theorem fostep {g gb : Nat} {s : Int} {r : Bool} {A : Option Addr} {n c : Nat} {d : Int} {Aw : Option Addr} {nw cw mb : Nat} {w0 w w' : World} {t : TypeId} {cs : Array Value} (HS : Aside0 (SpW w g s r A n c d Aw nw cw mb)) (BK : Aside0 (w.heap[gb]? = some (.cells cs t (0, 0)))) (HB : Aside0 (Below w0.heap.size w0 w)) (hb : Below w.heap.size w w') :
  Aside0 (SpW w' g s r A n c d Aw nw cw mb) ∧ Aside0 (w'.heap[gb]? = some (.cells cs t (0, 0))) ∧ Aside0 (Below w0.heap.size w0 w') :=
 ⟨⟨HS.out.below hb⟩, ⟨blk_below BK.out hb⟩, ⟨below_step HB.out hb⟩⟩
def impl_spacing_follows.f (k : Nat) (s : Int) (r : Bool) (l : List Int) (d first last p : Int) : Option Bool := (impl_spacing_can.f k s r l d p).bind fun t => if t = true then (if last < 0 then some true else if p > last then ((impl_bench_gap.f s r last p).bind fun q => if q ≥ d then ((impl_bench_gap.f s r first p).bind fun q2 => some (decide (q2 ≥ d))) else some false) else some false) else some false
theorem impl_spacing_follows.mono : ∀ s r l d first last p k, LeO (impl_spacing_follows.f k s r l d first last p) (impl_spacing_follows.f (k + 1) s r l d first last p) := fun _ _ _ _ _ _ _ _ =>
 LeO.bind (impl_spacing_can.mono _ _ _ _ _ _) fun _ => LeO.refl _
def impl_spacing_follows.T2 : Bool × List (List Nat × List Nat) := (true, [([], []), ([], []), ([0, 1], [0, 1]), ([2, 2], [2]), ([3], [3]), ([4, 3], [3, 4]), ([5, 3, 3], [3, 5]), ([6], [6]), ([6], [6]), ([7, 8, 6], [6, 7, 8]), ([9, 6, 6], [6, 9]), ([10], [10]), ([10], [10]), ([10], [10]), ([11, 12, 13, 10, 10], [10, 11, 12, 13]), ([10], [10]), ([15, 10], [10, 15]), ([16, 10], [10, 16]), ([17, 10], [10, 17]), ([14, 18, 10], [10, 14, 18]), ([10, 19, 6], [6, 10, 19]), ([20, 14, 6], [6, 20]), ([21], [21]), ([21], [21]), ([21], [21]), ([22, 23, 24, 21, 21], [21, 22, 23, 24]), ([21], [21]), ([26, 21], [21, 26]), ([27, 21], [21, 27]), ([28, 21], [21, 28]), ([25, 29, 21], [21, 25, 29]), ([21, 30, 6], [6, 21, 30]), ([6, 31, 3], [3, 6, 31]), ([3, 32], [3, 32]), ([33, 25, 0, 1, 2, 3, 4, 5, 6, 7, 8, 9, 10, 11, 12, 13, 14, 15, 16, 17, 18, 19, 20, 21, 22, 23, 24, 25, 26, 27, 28, 29, 30, 31, 32, 33], [33])])
def impl_spacing_follows.B2 : List Nat := [0, 0, 3, 7, 15, 31, 63, 127, 127, 511, 1023, 2047, 2047, 2047, 16383, 2047, 34815, 100351, 231423, 524287, 1048575, 2097151, 4194303, 4194303, 4194303, 33554431, 4194303, 71303167, 205520895, 473956351, 1073741823, 2147483647, 4294967295, 8589934591, 17179869183]
theorem impl_spacing_follows.tab2 : rtab .any (opsOf Tryd.f79 2) = impl_spacing_follows.T2 := by kernel_rfl
theorem impl_spacing_follows.bits2 : waitsOk impl_spacing_follows.T2.2 impl_spacing_follows.B2 = true := by kernel_rfl
set_option maxHeartbeats 8000000 in
set_option maxRecDepth 100000 in
theorem impl_spacing_follows.calls (k : Nat) (g : Nat) (s : Int) (r : Bool) (A : Option Addr) (c : Nat) (l : List Int) (d : Int) (Aw : Option Addr) (nw cw mb : Nat) (first last p : Int) (res : Bool) (w : World) (hT : GT w) (hS : SpW w g s r A l.length c d Aw nw cw mb) (hr : Kd.C (Kd.int .i64) w A l.length l) (hc : l.length ≤ c) (h : impl_spacing_follows.f k s r l d first last p = some res) :
  Calls Tryd.prog 79 #[.pointer (some ⟨g, 0, none⟩), .int .i64 first, .int .i64 last, .int .i64 p] w fun e w' => e = .returned (.bool res) ∧ Below w.heap.size w w' := by
 have hu28 := Tryd.underlying26
 have hu68 := Tryd.underlying54
 have HC := Aside0.mk hc
 have HR := Aside0.mk hr
 have HS := Aside0.mk hS
 have HTT := Aside0.mk hT
 have HB := Aside0.mk (Below.refl w.heap.size w)
 obtain ⟨c0, c1', c2, c3, _, _⟩ := hS.cell
 clear hc hr hS hT
 unfold impl_spacing_follows.f at h
 replace h := Option.bind_eq_some_iff.mp h
 obtain ⟨t, A10, h⟩ := h
 have A1 := Aside0.mk A10
 clear A10
 cases t with
 | false =>
  rw [if_neg (by decide)] at h
  obtain rfl := Option.some.inj h
  clear h
  go_enter Tryd.func79, Tryd.ntmps79
  go_wp2_with (go_at_call 42; refine (impl_Row_bench.calls _ _ _ _ l _ _ _ HR.out HC.out rfl).mono ?_; rintro e w1 ⟨rfl, hb⟩; have HBn := Aside0.mk (below_step HB.out hb); have HSn := Aside0.mk (HS.out.below hb); clear HB HS hb; have HB := HBn; have HS := HSn; clear HBn HSn)
  have hba := below_alloc (Below.refl w1.heap.size w1) (.cells #[.int .i64 s, .bool r] 54 (0, 0))
  have BK := Aside0.mk (blk_new w1 (.cells #[.int .i64 s, .bool r] 54 (0, 0)))
  have HBn := Aside0.mk (below_step HB.out hba)
  have HSn := Aside0.mk (HS.out.below hba)
  clear HB HS hba c0 c1' c2 c3
  have HB := HBn
  have HS := HSn
  clear HBn HSn
  generalize w1.heap.size = gb at BK ⊢
  generalize World.alloc _ _ = wa at BK HS HB ⊢
  have hq1 : wa.cell? ⟨gb, 0, none⟩ = some (.int .i64 s) := (blk_cell BK.out 0).trans rfl
  have hq2 : wa.cell? ⟨gb, 1, none⟩ = some (.bool r) := (blk_cell BK.out 1).trans rfl
  have hq3 := HS.out.cell.2.2.2.1
  refine start_ (n := 35) (S := fun w' => w'.cell? ⟨gb, 0, none⟩ = some (.int .i64 s) ∧ w'.cell? ⟨gb, 1, none⟩ = some (.bool r) ∧ w'.cell? ⟨g, 3, none⟩ = some (.int .i64 d)) (ds := [34]) #[false, false, false, false, false, false, false, false, false, false, false, false, false, false, false, false, false, false, false, false, false, false, false, false, false, false, false, false, false, false, false, false, false, false, false] (by kernel_rfl) rfl rfl ⟨((below_drew1 (Below.refl _ _)).cell (World.block_lt_of_cell? _ _ hq1)).trans hq1, ((below_drew1 (Below.refl _ _)).cell (World.block_lt_of_cell? _ _ hq2)).trans hq2, ((below_drew1 (Below.refl _ _)).cell (World.block_lt_of_cell? _ _ hq3)).trans hq3⟩ (fun hHeld => ?_)
  refine with_tabW impl_spacing_follows.tab2 impl_spacing_follows.bits2 (fun HT_ HW_ => ?_)
  obtain ⟨HS, BK, HB⟩ := fostep HS BK HB (below_drew1 (Below.refl _ _))
  generalize World.drew _ = w2 at HS BK HB hHeld ⊢
  refine pi_ (i := 0) (N := some 15) (v := ?_) (a' := ?_) (bm 35 1) rfl rfl HT_ (by kernel_rfl) (fun _ _ _ h => h) (Or.inl ⟨by rfl, ?_⟩) ?_ ?_
  rotate_left
  ·intro w'
   go_simp
   with_reducible rfl
  rotate_left
  ·simp only [Act.put, pp_]
   rfl
  refine pi_ (i := 1) (N := some 16) (v := ?_) (a' := ?_) (bm 35 3) rfl rfl HT_ (by kernel_rfl) (fun _ _ _ h => h) (Or.inl ⟨by rfl, ?_⟩) ?_ ?_
  rotate_left
  ·intro w'
   go_simp
   with_reducible rfl
  rotate_left
  ·simp only [Act.put, pp_]
   rfl
  refine one_ (i := 2) (N := some 17) (bm 35 7) rfl rfl (one_of HT_.out (by kernel_rfl)) (by decide) (fun K hK => ?_)
  refine goes_ Tryd.func90 (by kernel_rfl) rfl #[.pointer (some ⟨g, 0, none⟩), .int .i64 p] (by rfl) rfl rfl (by (try simp only [List.map_toArray, List.map_cons, List.map_nil]); first | done | rfl) ?_
  with_reducible refine (impl_spacing_can.calls k g s r A c l d Aw nw cw mb p false _ (HTT.out.below HB.out) HS.out (Kd.C_below HR.out HB.out) HC.out A1.out).mono ?_
  rintro e w3 ⟨rfl, hb⟩
  refine ⟨_, rfl, ?_⟩
  obtain ⟨HS, BK, HB⟩ := fostep HS BK HB hb
  clear hb
  refine hK.out _ _ ⟨(blk_cell BK.out 0).trans rfl, (blk_cell BK.out 1).trans rfl, HS.out.cell.2.2.2.1⟩ (fun hHeld => ?_)
  clear hK K
  refine norm_ (a' := ?_) ?_ ?_
  rotate_left
  ·show Act.put _ (some 17) _ = _
   simp only [Act.put, pp_]
   rfl
  refine pi_ (i := 3) (N := some 18) (v := ?_) (a' := ?_) (bm 35 15) rfl rfl HT_ (by kernel_rfl) (fun _ _ _ h => h) (Or.inl ⟨by rfl, ?_⟩) ?_ ?_
  rotate_left
  ·intro w'
   go_simp
   with_reducible rfl
  rotate_left
  ·simp only [Act.put, pp_]
   rfl
  refine pn_ (i := 4) (N := some 19) (a' := ?_) (bm 35 31) rfl rfl HT_ (by kernel_rfl) (fun _ _ _ h => h) (by rfl) ?_ ?_
  rotate_left
  ·simp only [Act.put, pp_]
   rfl
  refine pn_ (i := 5) (N := some 20) (a' := ?_) (bm 35 63) rfl rfl HT_ (by kernel_rfl) (fun _ _ _ h => h) (by rfl) ?_ ?_
  rotate_left
  ·simp only [Act.put, pp_]
   rfl
  refine pn_ (i := 6) (N := some 21) (a' := ?_) (bm 35 127) rfl rfl HT_ (by kernel_rfl) (fun _ _ _ h => h) (by rfl) ?_ ?_
  rotate_left
  ·simp only [Act.put, pp_]
   rfl
  refine pn_ (i := 7) (N := some 22) (a' := ?_) (bm 35 255) rfl rfl HT_ (by kernel_rfl) (fun _ _ _ h => h) (by rfl) ?_ ?_
  rotate_left
  ·simp only [Act.put, pp_]
   rfl
  refine pn_ (i := 8) (N := some 23) (a' := ?_) (bm 35 511) rfl rfl HT_ (by kernel_rfl) (fun _ _ _ h => h) (by rfl) ?_ ?_
  rotate_left
  ·simp only [Act.put, pp_]
   rfl
  refine pn_ (i := 9) (N := some 24) (a' := ?_) (bm 35 1023) rfl rfl HT_ (by kernel_rfl) (fun _ _ _ h => h) (by rfl) ?_ ?_
  rotate_left
  ·simp only [Act.put, pp_]
   rfl
  refine pn_ (i := 10) (N := some 25) (a' := ?_) (bm 35 2047) rfl rfl HT_ (by kernel_rfl) (fun _ _ _ h => h) (by rfl) ?_ ?_
  rotate_left
  ·simp only [Act.put, pp_]
   rfl
  refine pn_ (i := 11) (N := some 26) (a' := ?_) (bm 35 4095) rfl rfl HT_ (by kernel_rfl) (fun _ _ _ h => h) (by rfl) ?_ ?_
  rotate_left
  ·simp only [Act.put, pp_]
   rfl
  refine pn_ (i := 12) (N := some 27) (a' := ?_) (bm 35 8191) rfl rfl HT_ (by kernel_rfl) (fun _ _ _ h => h) (by rfl) ?_ ?_
  rotate_left
  ·simp only [Act.put, pp_]
   rfl
  refine pn_ (i := 13) (N := some 28) (a' := ?_) (bm 35 16383) rfl rfl HT_ (by kernel_rfl) (fun _ _ _ h => h) (by rfl) ?_ ?_
  rotate_left
  ·simp only [Act.put, pp_]
   rfl
  refine pn_ (i := 14) (N := some 29) (a' := ?_) (bm 35 32767) rfl rfl HT_ (by kernel_rfl) (fun _ _ _ h => h) (by rfl) ?_ ?_
  rotate_left
  ·simp only [Act.put, pp_]
   rfl
  refine pn_ (i := 15) (N := some 30) (a' := ?_) (bm 35 65535) rfl rfl HT_ (by kernel_rfl) (fun _ _ _ h => h) (by rfl) ?_ ?_
  rotate_left
  ·simp only [Act.put, pp_]
   rfl
  refine pn_ (i := 16) (N := some 31) (a' := ?_) (bm 35 131071) rfl rfl HT_ (by kernel_rfl) (fun _ _ _ h => h) (by rfl) ?_ ?_
  rotate_left
  ·simp only [Act.put, pp_]
   rfl
  refine pn_ (i := 17) (N := some 32) (a' := ?_) (bm 35 262143) rfl rfl HT_ (by kernel_rfl) (fun _ _ _ h => h) (by rfl) ?_ ?_
  rotate_left
  ·simp only [Act.put, pp_]
   rfl
  refine pn_ (i := 18) (N := some 33) (a' := ?_) (bm 35 524287) rfl rfl HT_ (by kernel_rfl) (fun _ _ _ h => h) (by rfl) ?_ ?_
  rotate_left
  ·simp only [Act.put, pp_]
   rfl
  refine pn_ (i := 19) (N := some 34) (a' := ?_) (bm 35 1048575) rfl rfl HT_ (by kernel_rfl) (fun _ _ _ h => h) (by rfl) ?_ ?_
  rotate_left
  ·simp only [Act.put, pp_]
   rfl
  refine pn_ (i := 20) (N := some 35) (a' := ?_) (bm 35 2097151) rfl rfl HT_ (by kernel_rfl) (fun _ _ _ h => h) (by rfl) ?_ ?_
  rotate_left
  ·simp only [Act.put, pp_]
   rfl
  refine pn_ (i := 21) (N := some 36) (a' := ?_) (bm 35 4194303) rfl rfl HT_ (by kernel_rfl) (fun _ _ _ h => h) (by rfl) ?_ ?_
  rotate_left
  ·simp only [Act.put, pp_]
   rfl
  refine pn_ (i := 22) (N := some 37) (a' := ?_) (bm 35 8388607) rfl rfl HT_ (by kernel_rfl) (fun _ _ _ h => h) (by rfl) ?_ ?_
  rotate_left
  ·simp only [Act.put, pp_]
   rfl
  refine pn_ (i := 23) (N := some 38) (a' := ?_) (bm 35 16777215) rfl rfl HT_ (by kernel_rfl) (fun _ _ _ h => h) (by rfl) ?_ ?_
  rotate_left
  ·simp only [Act.put, pp_]
   rfl
  refine pn_ (i := 24) (N := some 39) (a' := ?_) (bm 35 33554431) rfl rfl HT_ (by kernel_rfl) (fun _ _ _ h => h) (by rfl) ?_ ?_
  rotate_left
  ·simp only [Act.put, pp_]
   rfl
  refine pn_ (i := 25) (N := some 40) (a' := ?_) (bm 35 67108863) rfl rfl HT_ (by kernel_rfl) (fun _ _ _ h => h) (by rfl) ?_ ?_
  rotate_left
  ·simp only [Act.put, pp_]
   rfl
  refine pn_ (i := 26) (N := some 41) (a' := ?_) (bm 35 134217727) rfl rfl HT_ (by kernel_rfl) (fun _ _ _ h => h) (by rfl) ?_ ?_
  rotate_left
  ·simp only [Act.put, pp_]
   rfl
  refine pn_ (i := 27) (N := some 42) (a' := ?_) (bm 35 268435455) rfl rfl HT_ (by kernel_rfl) (fun _ _ _ h => h) (by rfl) ?_ ?_
  rotate_left
  ·simp only [Act.put, pp_]
   rfl
  refine pn_ (i := 28) (N := some 43) (a' := ?_) (bm 35 536870911) rfl rfl HT_ (by kernel_rfl) (fun _ _ _ h => h) (by rfl) ?_ ?_
  rotate_left
  ·simp only [Act.put, pp_]
   rfl
  refine pn_ (i := 29) (N := some 44) (a' := ?_) (bm 35 1073741823) rfl rfl HT_ (by kernel_rfl) (fun _ _ _ h => h) (by rfl) ?_ ?_
  rotate_left
  ·simp only [Act.put, pp_]
   rfl
  refine pn_ (i := 30) (N := some 45) (a' := ?_) (bm 35 2147483647) rfl rfl HT_ (by kernel_rfl) (fun _ _ _ h => h) (by rfl) ?_ ?_
  rotate_left
  ·simp only [Act.put, pp_]
   rfl
  refine pn_ (i := 31) (N := some 46) (a' := ?_) (bm 35 4294967295) rfl rfl HT_ (by kernel_rfl) (fun _ _ _ h => h) (by rfl) ?_ ?_
  rotate_left
  ·simp only [Act.put, pp_]
   rfl
  refine pn_ (i := 32) (N := some 47) (a' := ?_) (bm 35 8589934591) rfl rfl HT_ (by kernel_rfl) (fun _ _ _ h => h) (by rfl) ?_ ?_
  rotate_left
  ·simp only [Act.put, pp_]
   rfl
  refine pi_ (i := 33) (N := some 48) (v := ?_) (a' := ?_) (bm 35 17179869183) rfl rfl HT_ (by kernel_rfl) (fun _ _ _ h => h) (Or.inl ⟨by rfl, ?_⟩) ?_ ?_
  rotate_left
  ·intro w'
   go_simp
   with_reducible rfl
  rotate_left
  ·simp only [Act.put, pp_]
   rfl
  refine pi_ (i := 34) (N := some 8) (v := ?_) (a' := ?_) (bm 35 34359738367) rfl rfl HT_ (by kernel_rfl) (fun _ _ _ h => h) (Or.inl ⟨by rfl, ?_⟩) ?_ ?_
  rotate_left
  ·intro w'
   go_simp
   with_reducible rfl
  rotate_left
  ·simp only [Act.put, pp_]
   rfl
  refine done_ (done_of HT_.out (by kernel_rfl)) ?_

  try go_wp2
  go_ret
  exact ⟨rfl, HB.out⟩
 | true =>
  rw [if_pos rfl] at h
  by_cases cl : last < 0
  ·rw [if_pos cl] at h
   have cl1 : decide (last < 0) = true := decide_eq_true cl
   obtain rfl := Option.some.inj h
   clear h
   go_enter Tryd.func79, Tryd.ntmps79
   go_wp2_with (go_at_call 42; refine (impl_Row_bench.calls _ _ _ _ l _ _ _ HR.out HC.out rfl).mono ?_; rintro e w1 ⟨rfl, hb⟩; have HBn := Aside0.mk (below_step HB.out hb); have HSn := Aside0.mk (HS.out.below hb); clear HB HS hb; have HB := HBn; have HS := HSn; clear HBn HSn)
   have hba := below_alloc (Below.refl w1.heap.size w1) (.cells #[.int .i64 s, .bool r] 54 (0, 0))
   have BK := Aside0.mk (blk_new w1 (.cells #[.int .i64 s, .bool r] 54 (0, 0)))
   have HBn := Aside0.mk (below_step HB.out hba)
   have HSn := Aside0.mk (HS.out.below hba)
   clear HB HS hba c0 c1' c2 c3
   have HB := HBn
   have HS := HSn
   clear HBn HSn
   generalize w1.heap.size = gb at BK ⊢
   generalize World.alloc _ _ = wa at BK HS HB ⊢
   have hq1 : wa.cell? ⟨gb, 0, none⟩ = some (.int .i64 s) := (blk_cell BK.out 0).trans rfl
   have hq2 : wa.cell? ⟨gb, 1, none⟩ = some (.bool r) := (blk_cell BK.out 1).trans rfl
   have hq3 := HS.out.cell.2.2.2.1
   refine start_ (n := 35) (S := fun w' => w'.cell? ⟨gb, 0, none⟩ = some (.int .i64 s) ∧ w'.cell? ⟨gb, 1, none⟩ = some (.bool r) ∧ w'.cell? ⟨g, 3, none⟩ = some (.int .i64 d)) (ds := [34]) #[false, false, false, false, false, false, false, false, false, false, false, false, false, false, false, false, false, false, false, false, false, false, false, false, false, false, false, false, false, false, false, false, false, false, false] (by kernel_rfl) rfl rfl ⟨((below_drew1 (Below.refl _ _)).cell (World.block_lt_of_cell? _ _ hq1)).trans hq1, ((below_drew1 (Below.refl _ _)).cell (World.block_lt_of_cell? _ _ hq2)).trans hq2, ((below_drew1 (Below.refl _ _)).cell (World.block_lt_of_cell? _ _ hq3)).trans hq3⟩ (fun hHeld => ?_)
   refine with_tabW impl_spacing_follows.tab2 impl_spacing_follows.bits2 (fun HT_ HW_ => ?_)
   obtain ⟨HS, BK, HB⟩ := fostep HS BK HB (below_drew1 (Below.refl _ _))
   generalize World.drew _ = w2 at HS BK HB hHeld ⊢
   refine pi_ (i := 0) (N := some 15) (v := ?_) (a' := ?_) (bm 35 1) rfl rfl HT_ (by kernel_rfl) (fun _ _ _ h => h) (Or.inl ⟨by rfl, ?_⟩) ?_ ?_
   rotate_left
   ·intro w'
    go_simp
    with_reducible rfl
   rotate_left
   ·simp only [Act.put, pp_]
    rfl
   refine pi_ (i := 1) (N := some 16) (v := ?_) (a' := ?_) (bm 35 3) rfl rfl HT_ (by kernel_rfl) (fun _ _ _ h => h) (Or.inl ⟨by rfl, ?_⟩) ?_ ?_
   rotate_left
   ·intro w'
    go_simp
    with_reducible rfl
   rotate_left
   ·simp only [Act.put, pp_]
    rfl
   refine one_ (i := 2) (N := some 17) (bm 35 7) rfl rfl (one_of HT_.out (by kernel_rfl)) (by decide) (fun K hK => ?_)
   refine goes_ Tryd.func90 (by kernel_rfl) rfl #[.pointer (some ⟨g, 0, none⟩), .int .i64 p] (by rfl) rfl rfl (by (try simp only [List.map_toArray, List.map_cons, List.map_nil]); first | done | rfl) ?_
   with_reducible refine (impl_spacing_can.calls k g s r A c l d Aw nw cw mb p true _ (HTT.out.below HB.out) HS.out (Kd.C_below HR.out HB.out) HC.out A1.out).mono ?_
   rintro e w3 ⟨rfl, hb⟩
   refine ⟨_, rfl, ?_⟩
   obtain ⟨HS, BK, HB⟩ := fostep HS BK HB hb
   clear hb
   refine hK.out _ _ ⟨(blk_cell BK.out 0).trans rfl, (blk_cell BK.out 1).trans rfl, HS.out.cell.2.2.2.1⟩ (fun hHeld => ?_)
   clear hK K
   refine norm_ (a' := ?_) ?_ ?_
   rotate_left
   ·show Act.put _ (some 17) _ = _
    simp only [Act.put, pp_]
    rfl
   refine pi_ (i := 3) (N := some 18) (v := ?_) (a' := ?_) (bm 35 15) rfl rfl HT_ (by kernel_rfl) (fun _ _ _ h => h) (Or.inl ⟨by rfl, ?_⟩) ?_ ?_
   rotate_left
   ·intro w'
    go_simp
    with_reducible rfl
   rotate_left
   ·simp only [Act.put, pp_]
    rfl
   refine pi_ (i := 4) (N := some 19) (v := ?_) (a' := ?_) (bm 35 31) rfl rfl HT_ (by kernel_rfl) (fun _ _ _ h => h) (Or.inl ⟨by rfl, ?_⟩) ?_ ?_
   rotate_left
   ·intro w'
    go_simp
    with_reducible rfl
   rotate_left
   ·simp only [Act.put, pp_]
    rfl
   refine pi_ (i := 5) (N := some 20) (v := ?_) (a' := ?_) (bm 35 63) rfl rfl HT_ (by kernel_rfl) (fun _ _ _ h => h) (Or.inl ⟨by rfl, ?_⟩) ?_ ?_
   rotate_left
   ·intro w'
    go_simp
    with_reducible rfl
   rotate_left
   ·simp only [Act.put, pp_]
    rfl
   refine pi_ (i := 6) (N := some 21) (v := ?_) (a' := ?_) (bm 35 127) rfl rfl HT_ (by kernel_rfl) (fun _ _ _ h => h) (Or.inl ⟨by rfl, ?_⟩) ?_ ?_
   rotate_left
   ·intro w'
    go_simp
    with_reducible rfl
   rotate_left
   ·simp only [Act.put, pp_]
    rfl
   refine pn_ (i := 7) (N := some 22) (a' := ?_) (bm 35 255) rfl rfl HT_ (by kernel_rfl) (fun _ _ _ h => h) (by rfl) ?_ ?_
   rotate_left
   ·simp only [Act.put, pp_]
    rfl
   refine pn_ (i := 8) (N := some 23) (a' := ?_) (bm 35 511) rfl rfl HT_ (by kernel_rfl) (fun _ _ _ h => h) (by rfl) ?_ ?_
   rotate_left
   ·simp only [Act.put, pp_]
    rfl
   refine pn_ (i := 9) (N := some 24) (a' := ?_) (bm 35 1023) rfl rfl HT_ (by kernel_rfl) (fun _ _ _ h => h) (by rfl) ?_ ?_
   rotate_left
   ·simp only [Act.put, pp_]
    rfl
   refine pn_ (i := 10) (N := some 25) (a' := ?_) (bm 35 2047) rfl rfl HT_ (by kernel_rfl) (fun _ _ _ h => h) (by rfl) ?_ ?_
   rotate_left
   ·simp only [Act.put, pp_]
    rfl
   refine pn_ (i := 11) (N := some 26) (a' := ?_) (bm 35 4095) rfl rfl HT_ (by kernel_rfl) (fun _ _ _ h => h) (by rfl) ?_ ?_
   rotate_left
   ·simp only [Act.put, pp_]
    rfl
   refine pn_ (i := 12) (N := some 27) (a' := ?_) (bm 35 8191) rfl rfl HT_ (by kernel_rfl) (fun _ _ _ h => h) (by rfl) ?_ ?_
   rotate_left
   ·simp only [Act.put, pp_]
    rfl
   refine pn_ (i := 13) (N := some 28) (a' := ?_) (bm 35 16383) rfl rfl HT_ (by kernel_rfl) (fun _ _ _ h => h) (by rfl) ?_ ?_
   rotate_left
   ·simp only [Act.put, pp_]
    rfl
   refine pn_ (i := 14) (N := some 29) (a' := ?_) (bm 35 32767) rfl rfl HT_ (by kernel_rfl) (fun _ _ _ h => h) (by rfl) ?_ ?_
   rotate_left
   ·simp only [Act.put, pp_]
    rfl
   refine pn_ (i := 15) (N := some 30) (a' := ?_) (bm 35 65535) rfl rfl HT_ (by kernel_rfl) (fun _ _ _ h => h) (by rfl) ?_ ?_
   rotate_left
   ·simp only [Act.put, pp_]
    rfl
   refine pn_ (i := 16) (N := some 31) (a' := ?_) (bm 35 131071) rfl rfl HT_ (by kernel_rfl) (fun _ _ _ h => h) (by rfl) ?_ ?_
   rotate_left
   ·simp only [Act.put, pp_]
    rfl
   refine pn_ (i := 17) (N := some 32) (a' := ?_) (bm 35 262143) rfl rfl HT_ (by kernel_rfl) (fun _ _ _ h => h) (by rfl) ?_ ?_
   rotate_left
   ·simp only [Act.put, pp_]
    rfl
   refine pn_ (i := 18) (N := some 33) (a' := ?_) (bm 35 524287) rfl rfl HT_ (by kernel_rfl) (fun _ _ _ h => h) (by rfl) ?_ ?_
   rotate_left
   ·simp only [Act.put, pp_]
    rfl
   refine pn_ (i := 19) (N := some 34) (a' := ?_) (bm 35 1048575) rfl rfl HT_ (by kernel_rfl) (fun _ _ _ h => h) (by rfl) ?_ ?_
   rotate_left
   ·simp only [Act.put, pp_]
    rfl
   refine pn_ (i := 20) (N := some 35) (a' := ?_) (bm 35 2097151) rfl rfl HT_ (by kernel_rfl) (fun _ _ _ h => h) (by rfl) ?_ ?_
   rotate_left
   ·simp only [Act.put, pp_]
    rfl
   refine pn_ (i := 21) (N := some 36) (a' := ?_) (bm 35 4194303) rfl rfl HT_ (by kernel_rfl) (fun _ _ _ h => h) (by rfl) ?_ ?_
   rotate_left
   ·simp only [Act.put, pp_]
    rfl
   refine pn_ (i := 22) (N := some 37) (a' := ?_) (bm 35 8388607) rfl rfl HT_ (by kernel_rfl) (fun _ _ _ h => h) (by rfl) ?_ ?_
   rotate_left
   ·simp only [Act.put, pp_]
    rfl
   refine pn_ (i := 23) (N := some 38) (a' := ?_) (bm 35 16777215) rfl rfl HT_ (by kernel_rfl) (fun _ _ _ h => h) (by rfl) ?_ ?_
   rotate_left
   ·simp only [Act.put, pp_]
    rfl
   refine pn_ (i := 24) (N := some 39) (a' := ?_) (bm 35 33554431) rfl rfl HT_ (by kernel_rfl) (fun _ _ _ h => h) (by rfl) ?_ ?_
   rotate_left
   ·simp only [Act.put, pp_]
    rfl
   refine pn_ (i := 25) (N := some 40) (a' := ?_) (bm 35 67108863) rfl rfl HT_ (by kernel_rfl) (fun _ _ _ h => h) (by rfl) ?_ ?_
   rotate_left
   ·simp only [Act.put, pp_]
    rfl
   refine pn_ (i := 26) (N := some 41) (a' := ?_) (bm 35 134217727) rfl rfl HT_ (by kernel_rfl) (fun _ _ _ h => h) (by rfl) ?_ ?_
   rotate_left
   ·simp only [Act.put, pp_]
    rfl
   refine pn_ (i := 27) (N := some 42) (a' := ?_) (bm 35 268435455) rfl rfl HT_ (by kernel_rfl) (fun _ _ _ h => h) (by rfl) ?_ ?_
   rotate_left
   ·simp only [Act.put, pp_]
    rfl
   refine pn_ (i := 28) (N := some 43) (a' := ?_) (bm 35 536870911) rfl rfl HT_ (by kernel_rfl) (fun _ _ _ h => h) (by rfl) ?_ ?_
   rotate_left
   ·simp only [Act.put, pp_]
    rfl
   refine pn_ (i := 29) (N := some 44) (a' := ?_) (bm 35 1073741823) rfl rfl HT_ (by kernel_rfl) (fun _ _ _ h => h) (by rfl) ?_ ?_
   rotate_left
   ·simp only [Act.put, pp_]
    rfl
   refine pn_ (i := 30) (N := some 45) (a' := ?_) (bm 35 2147483647) rfl rfl HT_ (by kernel_rfl) (fun _ _ _ h => h) (by rfl) ?_ ?_
   rotate_left
   ·simp only [Act.put, pp_]
    rfl
   refine pn_ (i := 31) (N := some 46) (a' := ?_) (bm 35 4294967295) rfl rfl HT_ (by kernel_rfl) (fun _ _ _ h => h) (by rfl) ?_ ?_
   rotate_left
   ·simp only [Act.put, pp_]
    rfl
   refine pi_ (i := 32) (N := some 47) (v := ?_) (a' := ?_) (bm 35 8589934591) rfl rfl HT_ (by kernel_rfl) (fun _ _ _ h => h) (Or.inl ⟨by rfl, ?_⟩) ?_ ?_
   rotate_left
   ·intro w'
    go_simp
    with_reducible rfl
   rotate_left
   ·simp only [Act.put, pp_]
    rfl
   refine pi_ (i := 33) (N := some 48) (v := ?_) (a' := ?_) (bm 35 17179869183) rfl rfl HT_ (by kernel_rfl) (fun _ _ _ h => h) (Or.inl ⟨by rfl, ?_⟩) ?_ ?_
   rotate_left
   ·intro w'
    go_simp
    with_reducible rfl
   rotate_left
   ·simp only [Act.put, pp_]
    rfl
   refine pi_ (i := 34) (N := some 8) (v := ?_) (a' := ?_) (bm 35 34359738367) rfl rfl HT_ (by kernel_rfl) (fun _ _ _ h => h) (Or.inl ⟨by rfl, ?_⟩) ?_ ?_
   rotate_left
   ·intro w'
    go_simp
    with_reducible rfl
   rotate_left
   ·simp only [Act.put, pp_]
    rfl
   refine done_ (done_of HT_.out (by kernel_rfl)) ?_

   try go_wp2
   go_ret
   exact ⟨rfl, HB.out⟩
  ·rw [if_neg cl] at h
   have cl1 : decide (last < 0) = false := decide_eq_false cl
   by_cases cp : p > last
   ·rw [if_pos cp] at h
    have cp1 : decide (last < p) = true := decide_eq_true cp
    replace h := Option.bind_eq_some_iff.mp h
    obtain ⟨q1, A20, h⟩ := h
    have A2 := Aside0.mk A20
    clear A20
    by_cases cq : q1 ≥ d
    ·rw [if_pos cq] at h
     have cq1 : decide (d ≤ q1) = true := decide_eq_true cq
     replace h := Option.bind_eq_some_iff.mp h
     obtain ⟨q2, A30, h⟩ := h
     have A3 := Aside0.mk A30
     clear A30
     obtain rfl := Option.some.inj h
     clear h
     go_enter Tryd.func79, Tryd.ntmps79
     go_wp2_with (go_at_call 42; refine (impl_Row_bench.calls _ _ _ _ l _ _ _ HR.out HC.out rfl).mono ?_; rintro e w1 ⟨rfl, hb⟩; have HBn := Aside0.mk (below_step HB.out hb); have HSn := Aside0.mk (HS.out.below hb); clear HB HS hb; have HB := HBn; have HS := HSn; clear HBn HSn)
     have hba := below_alloc (Below.refl w1.heap.size w1) (.cells #[.int .i64 s, .bool r] 54 (0, 0))
     have BK := Aside0.mk (blk_new w1 (.cells #[.int .i64 s, .bool r] 54 (0, 0)))
     have HBn := Aside0.mk (below_step HB.out hba)
     have HSn := Aside0.mk (HS.out.below hba)
     clear HB HS hba c0 c1' c2 c3
     have HB := HBn
     have HS := HSn
     clear HBn HSn
     generalize w1.heap.size = gb at BK ⊢
     generalize World.alloc _ _ = wa at BK HS HB ⊢
     have hq1 : wa.cell? ⟨gb, 0, none⟩ = some (.int .i64 s) := (blk_cell BK.out 0).trans rfl
     have hq2 : wa.cell? ⟨gb, 1, none⟩ = some (.bool r) := (blk_cell BK.out 1).trans rfl
     have hq3 := HS.out.cell.2.2.2.1
     refine start_ (n := 35) (S := fun w' => w'.cell? ⟨gb, 0, none⟩ = some (.int .i64 s) ∧ w'.cell? ⟨gb, 1, none⟩ = some (.bool r) ∧ w'.cell? ⟨g, 3, none⟩ = some (.int .i64 d)) (ds := [34]) #[false, false, false, false, false, false, false, false, false, false, false, false, false, false, false, false, false, false, false, false, false, false, false, false, false, false, false, false, false, false, false, false, false, false, false] (by kernel_rfl) rfl rfl ⟨((below_drew1 (Below.refl _ _)).cell (World.block_lt_of_cell? _ _ hq1)).trans hq1, ((below_drew1 (Below.refl _ _)).cell (World.block_lt_of_cell? _ _ hq2)).trans hq2, ((below_drew1 (Below.refl _ _)).cell (World.block_lt_of_cell? _ _ hq3)).trans hq3⟩ (fun hHeld => ?_)
     refine with_tabW impl_spacing_follows.tab2 impl_spacing_follows.bits2 (fun HT_ HW_ => ?_)
     obtain ⟨HS, BK, HB⟩ := fostep HS BK HB (below_drew1 (Below.refl _ _))
     generalize World.drew _ = w2 at HS BK HB hHeld ⊢
     refine pi_ (i := 0) (N := some 15) (v := ?_) (a' := ?_) (bm 35 1) rfl rfl HT_ (by kernel_rfl) (fun _ _ _ h => h) (Or.inl ⟨by rfl, ?_⟩) ?_ ?_
     rotate_left
     ·intro w'
      go_simp
      with_reducible rfl
     rotate_left
     ·simp only [Act.put, pp_]
      rfl
     refine pi_ (i := 1) (N := some 16) (v := ?_) (a' := ?_) (bm 35 3) rfl rfl HT_ (by kernel_rfl) (fun _ _ _ h => h) (Or.inl ⟨by rfl, ?_⟩) ?_ ?_
     rotate_left
     ·intro w'
      go_simp
      with_reducible rfl
     rotate_left
     ·simp only [Act.put, pp_]
      rfl
     refine one_ (i := 2) (N := some 17) (bm 35 7) rfl rfl (one_of HT_.out (by kernel_rfl)) (by decide) (fun K hK => ?_)
     refine goes_ Tryd.func90 (by kernel_rfl) rfl #[.pointer (some ⟨g, 0, none⟩), .int .i64 p] (by rfl) rfl rfl (by (try simp only [List.map_toArray, List.map_cons, List.map_nil]); first | done | rfl) ?_
     with_reducible refine (impl_spacing_can.calls k g s r A c l d Aw nw cw mb p true _ (HTT.out.below HB.out) HS.out (Kd.C_below HR.out HB.out) HC.out A1.out).mono ?_
     rintro e w3 ⟨rfl, hb⟩
     refine ⟨_, rfl, ?_⟩
     obtain ⟨HS, BK, HB⟩ := fostep HS BK HB hb
     clear hb
     refine hK.out _ _ ⟨(blk_cell BK.out 0).trans rfl, (blk_cell BK.out 1).trans rfl, HS.out.cell.2.2.2.1⟩ (fun hHeld => ?_)
     clear hK K
     refine norm_ (a' := ?_) ?_ ?_
     rotate_left
     ·show Act.put _ (some 17) _ = _
      simp only [Act.put, pp_]
      rfl
     refine pi_ (i := 3) (N := some 18) (v := ?_) (a' := ?_) (bm 35 15) rfl rfl HT_ (by kernel_rfl) (fun _ _ _ h => h) (Or.inl ⟨by rfl, ?_⟩) ?_ ?_
     rotate_left
     ·intro w'
      go_simp
      with_reducible rfl
     rotate_left
     ·simp only [Act.put, pp_]
      rfl
     refine pi_ (i := 4) (N := some 19) (v := ?_) (a' := ?_) (bm 35 31) rfl rfl HT_ (by kernel_rfl) (fun _ _ _ h => h) (Or.inl ⟨by rfl, ?_⟩) ?_ ?_
     rotate_left
     ·intro w'
      go_simp
      with_reducible rfl
     rotate_left
     ·simp only [Act.put, pp_]
      rfl
     refine pi_ (i := 5) (N := some 20) (v := ?_) (a' := ?_) (bm 35 63) rfl rfl HT_ (by kernel_rfl) (fun _ _ _ h => h) (Or.inl ⟨by rfl, ?_⟩) ?_ ?_
     rotate_left
     ·intro w'
      go_simp
      with_reducible rfl
     rotate_left
     ·simp only [Act.put, pp_]
      rfl
     refine pi_ (i := 6) (N := some 21) (v := ?_) (a' := ?_) (bm 35 127) rfl rfl HT_ (by kernel_rfl) (fun _ _ _ h => h) (Or.inl ⟨by rfl, ?_⟩) ?_ ?_
     rotate_left
     ·intro w'
      go_simp
      with_reducible rfl
     rotate_left
     ·simp only [Act.put, pp_]
      rfl
     refine pi_ (i := 7) (N := some 22) (v := ?_) (a' := ?_) (bm 35 255) rfl rfl HT_ (by kernel_rfl) (fun _ _ _ h => h) (Or.inl ⟨by rfl, ?_⟩) ?_ ?_
     rotate_left
     ·intro w'
      go_simp
      with_reducible rfl
     rotate_left
     ·simp only [Act.put, pp_]
      rfl
     refine pi_ (i := 8) (N := some 23) (v := ?_) (a' := ?_) (bm 35 511) rfl rfl HT_ (by kernel_rfl) (fun _ _ _ h => h) (Or.inl ⟨by rfl, ?_⟩) ?_ ?_
     rotate_left
     ·intro w'
      go_simp
      with_reducible rfl
     rotate_left
     ·simp only [Act.put, pp_]
      rfl
     refine pi_ (i := 9) (N := some 24) (v := ?_) (a' := ?_) (bm 35 1023) rfl rfl HT_ (by kernel_rfl) (fun _ _ _ h => h) (Or.inl ⟨by rfl, ?_⟩) ?_ ?_
     rotate_left
     ·intro w'
      go_simp
      with_reducible rfl
     rotate_left
     ·simp only [Act.put, pp_]
      rfl
     refine pi_ (i := 10) (N := some 25) (v := ?_) (a' := ?_) (bm 35 2047) rfl rfl HT_ (by kernel_rfl) (fun _ _ _ h => h) (Or.inl ⟨by rfl, ?_⟩) ?_ ?_
     rotate_left
     ·intro w'
      go_simp
      with_reducible rfl
     rotate_left
     ·simp only [Act.put, pp_]
      rfl
     refine pi_ (i := 12) (N := some 27) (v := ?_) (a' := ?_) (bm 35 6143) rfl rfl HT_ (by kernel_rfl) (fun _ _ _ h => h) (Or.inl ⟨by rfl, ?_⟩) ?_ ?_
     rotate_left
     ·intro w'
      go_simp
      with_reducible rfl
     rotate_left
     ·simp only [Act.put, pp_]
      rfl
     refine pi_ (i := 13) (N := some 28) (v := ?_) (a' := ?_) (bm 35 14335) rfl rfl HT_ (by kernel_rfl) (fun _ _ _ h => h) (Or.inl ⟨by rfl, ?_⟩) ?_ ?_
     rotate_left
     ·intro w'
      go_simp
      with_reducible rfl
     rotate_left
     ·simp only [Act.put, pp_]
      rfl
     refine pi_ (i := 15) (N := some 30) (v := ?_) (a' := ?_) (bm 35 47103) rfl rfl HT_ (by kernel_rfl) (fun _ _ _ h => h) (Or.inl ⟨by rfl, ?_⟩) ?_ ?_
     rotate_left
     ·intro w'
      go_simp
      with_reducible rfl
     rotate_left
     ·simp only [Act.put, pp_]
      rfl
     refine pi_ (i := 16) (N := some 31) (v := ?_) (a' := ?_) (bm 35 112639) rfl rfl HT_ (by kernel_rfl) (fun _ _ _ h => h) (Or.inl ⟨by rfl, ?_⟩) ?_ ?_
     rotate_left
     ·intro w'
      go_simp
      with_reducible rfl
     rotate_left
     ·simp only [Act.put, pp_]
      rfl
     refine pi_ (i := 17) (N := some 32) (v := ?_) (a' := ?_) (bm 35 243711) rfl rfl HT_ (by kernel_rfl) (fun _ _ _ h => h) (Or.inl ⟨by rfl, ?_⟩) ?_ ?_
     rotate_left
     ·intro w'
      go_simp
      with_reducible rfl
     rotate_left
     ·simp only [Act.put, pp_]
      rfl
     refine take_ (i := 11) (N := some 26) (v := ?_) (a' := ?_) (bm 35 245759) rfl rfl (take_ofW HT_.out HW_.out (by kernel_rfl)) (fun _ _ _ h => h) (Or.inl ⟨by rfl, ?_⟩) hHeld ?_ ?_
     rotate_left
     ·rintro w' ⟨s0, s1, s2⟩
      go_simp
      with_reducible rfl
     rotate_left
     ·simp only [Act.put, pp_]
      rfl
     refine take_ (i := 18) (N := some 33) (v := ?_) (a' := ?_) (bm 35 507903) rfl rfl (take_ofW HT_.out HW_.out (by kernel_rfl)) (fun _ _ _ h => h) (Or.inl ⟨by rfl, ?_⟩) hHeld ?_ ?_
     rotate_left
     ·rintro w' ⟨s0, s1, s2⟩
      go_simp
      with_reducible rfl
     rotate_left
     ·simp only [Act.put, pp_]
      rfl
     refine one_ (i := 14) (N := some 29) (bm 35 524287) rfl rfl (one_of HT_.out (by kernel_rfl)) (by decide) (fun K hK => ?_)
     refine goes_ Tryd.func76 (by kernel_rfl) rfl #[.agg #[.int .i64 s, .bool r], .int .i64 last, .int .i64 p] (by rfl) rfl rfl (by (try simp only [List.map_toArray, List.map_cons, List.map_nil]); first | done | rfl) ?_
     with_reducible refine (impl_bench_gap.calls s r last p q1 _ A2.out).mono ?_
     rintro e w4 ⟨rfl, hb⟩
     refine ⟨_, rfl, ?_⟩
     obtain ⟨HS, BK, HB⟩ := fostep HS BK HB hb
     clear hb
     refine hK.out _ _ ⟨(blk_cell BK.out 0).trans rfl, (blk_cell BK.out 1).trans rfl, HS.out.cell.2.2.2.1⟩ (fun hHeld => ?_)
     clear hK K
     refine norm_ (a' := ?_) ?_ ?_
     rotate_left
     ·show Act.put _ (some 29) _ = _
      simp only [Act.put, pp_]
      rfl
     refine pi_ (i := 19) (N := some 34) (v := ?_) (a' := ?_) (bm 35 1048575) rfl rfl HT_ (by kernel_rfl) (fun _ _ _ h => h) (Or.inl ⟨by rfl, ?_⟩) ?_ ?_
     rotate_left
     ·intro w'
      go_simp
      with_reducible rfl
     rotate_left
     ·simp only [Act.put, pp_]
      rfl
     refine pi_ (i := 20) (N := some 35) (v := ?_) (a' := ?_) (bm 35 2097151) rfl rfl HT_ (by kernel_rfl) (fun _ _ _ h => h) (Or.inl ⟨by rfl, ?_⟩) ?_ ?_
     rotate_left
     ·intro w'
      go_simp
      with_reducible rfl
     rotate_left
     ·simp only [Act.put, pp_]
      rfl
     refine pi_ (i := 21) (N := some 36) (v := ?_) (a' := ?_) (bm 35 4194303) rfl rfl HT_ (by kernel_rfl) (fun _ _ _ h => h) (Or.inl ⟨by rfl, ?_⟩) ?_ ?_
     rotate_left
     ·intro w'
      go_simp
      with_reducible rfl
     rotate_left
     ·simp only [Act.put, pp_]
      rfl
     refine pi_ (i := 23) (N := some 38) (v := ?_) (a' := ?_) (bm 35 12582911) rfl rfl HT_ (by kernel_rfl) (fun _ _ _ h => h) (Or.inl ⟨by rfl, ?_⟩) ?_ ?_
     rotate_left
     ·intro w'
      go_simp
      with_reducible rfl
     rotate_left
     ·simp only [Act.put, pp_]
      rfl
     refine pi_ (i := 24) (N := some 39) (v := ?_) (a' := ?_) (bm 35 29360127) rfl rfl HT_ (by kernel_rfl) (fun _ _ _ h => h) (Or.inl ⟨by rfl, ?_⟩) ?_ ?_
     rotate_left
     ·intro w'
      go_simp
      with_reducible rfl
     rotate_left
     ·simp only [Act.put, pp_]
      rfl
     refine pi_ (i := 26) (N := some 41) (v := ?_) (a' := ?_) (bm 35 96468991) rfl rfl HT_ (by kernel_rfl) (fun _ _ _ h => h) (Or.inl ⟨by rfl, ?_⟩) ?_ ?_
     rotate_left
     ·intro w'
      go_simp
      with_reducible rfl
     rotate_left
     ·simp only [Act.put, pp_]
      rfl
     refine pi_ (i := 27) (N := some 42) (v := ?_) (a' := ?_) (bm 35 230686719) rfl rfl HT_ (by kernel_rfl) (fun _ _ _ h => h) (Or.inl ⟨by rfl, ?_⟩) ?_ ?_
     rotate_left
     ·intro w'
      go_simp
      with_reducible rfl
     rotate_left
     ·simp only [Act.put, pp_]
      rfl
     refine pi_ (i := 28) (N := some 43) (v := ?_) (a' := ?_) (bm 35 499122175) rfl rfl HT_ (by kernel_rfl) (fun _ _ _ h => h) (Or.inl ⟨by rfl, ?_⟩) ?_ ?_
     rotate_left
     ·intro w'
      go_simp
      with_reducible rfl
     rotate_left
     ·simp only [Act.put, pp_]
      rfl
     refine take_ (i := 22) (N := some 37) (v := ?_) (a' := ?_) (bm 35 503316479) rfl rfl (take_ofW HT_.out HW_.out (by kernel_rfl)) (fun _ _ _ h => h) (Or.inl ⟨by rfl, ?_⟩) hHeld ?_ ?_
     rotate_left
     ·rintro w' ⟨s0, s1, s2⟩
      go_simp
      with_reducible rfl
     rotate_left
     ·simp only [Act.put, pp_]
      rfl
     refine take_ (i := 29) (N := some 44) (v := ?_) (a' := ?_) (bm 35 1040187391) rfl rfl (take_ofW HT_.out HW_.out (by kernel_rfl)) (fun _ _ _ h => h) (Or.inl ⟨by rfl, ?_⟩) hHeld ?_ ?_
     rotate_left
     ·rintro w' ⟨s0, s1, s2⟩
      go_simp
      with_reducible rfl
     rotate_left
     ·simp only [Act.put, pp_]
      rfl
     refine one_ (i := 25) (N := some 40) (bm 35 1073741823) rfl rfl (one_of HT_.out (by kernel_rfl)) (by decide) (fun K hK => ?_)
     refine goes_ Tryd.func76 (by kernel_rfl) rfl #[.agg #[.int .i64 s, .bool r], .int .i64 first, .int .i64 p] (by rfl) rfl rfl (by (try simp only [List.map_toArray, List.map_cons, List.map_nil]); first | done | rfl) ?_
     with_reducible refine (impl_bench_gap.calls s r first p q2 _ A3.out).mono ?_
     rintro e w5 ⟨rfl, hb⟩
     refine ⟨_, rfl, ?_⟩
     obtain ⟨HS, BK, HB⟩ := fostep HS BK HB hb
     clear hb
     refine hK.out _ _ ⟨(blk_cell BK.out 0).trans rfl, (blk_cell BK.out 1).trans rfl, HS.out.cell.2.2.2.1⟩ (fun hHeld => ?_)
     clear hK K
     refine norm_ (a' := ?_) ?_ ?_
     rotate_left
     ·show Act.put _ (some 40) _ = _
      simp only [Act.put, pp_]
      rfl
     refine pi_ (i := 30) (N := some 45) (v := ?_) (a' := ?_) (bm 35 2147483647) rfl rfl HT_ (by kernel_rfl) (fun _ _ _ h => h) (Or.inl ⟨by rfl, ?_⟩) ?_ ?_
     rotate_left
     ·intro w'
      go_simp
      with_reducible rfl
     rotate_left
     ·simp only [Act.put, pp_]
      rfl
     refine pi_ (i := 31) (N := some 46) (v := ?_) (a' := ?_) (bm 35 4294967295) rfl rfl HT_ (by kernel_rfl) (fun _ _ _ h => h) (Or.inl ⟨by rfl, ?_⟩) ?_ ?_
     rotate_left
     ·intro w'
      go_simp
      with_reducible rfl
     rotate_left
     ·simp only [Act.put, pp_]
      rfl
     refine pi_ (i := 32) (N := some 47) (v := ?_) (a' := ?_) (bm 35 8589934591) rfl rfl HT_ (by kernel_rfl) (fun _ _ _ h => h) (Or.inl ⟨by rfl, ?_⟩) ?_ ?_
     rotate_left
     ·intro w'
      go_simp
      with_reducible rfl
     rotate_left
     ·simp only [Act.put, pp_]
      rfl
     refine pi_ (i := 33) (N := some 48) (v := ?_) (a' := ?_) (bm 35 17179869183) rfl rfl HT_ (by kernel_rfl) (fun _ _ _ h => h) (Or.inl ⟨by rfl, ?_⟩) ?_ ?_
     rotate_left
     ·intro w'
      go_simp
      with_reducible rfl
     rotate_left
     ·simp only [Act.put, pp_]
      rfl
     refine pi_ (i := 34) (N := some 8) (v := ?_) (a' := ?_) (bm 35 34359738367) rfl rfl HT_ (by kernel_rfl) (fun _ _ _ h => h) (Or.inl ⟨by rfl, ?_⟩) ?_ ?_
     rotate_left
     ·intro w'
      go_simp
      with_reducible rfl
     rotate_left
     ·simp only [Act.put, pp_]
      rfl
     refine done_ (done_of HT_.out (by kernel_rfl)) ?_

     try go_wp2
     go_ret
     exact ⟨rfl, HB.out⟩
    ·rw [if_neg cq] at h
     have cq1 : decide (d ≤ q1) = false := decide_eq_false cq
     obtain rfl := Option.some.inj h
     clear h
     go_enter Tryd.func79, Tryd.ntmps79
     go_wp2_with (go_at_call 42; refine (impl_Row_bench.calls _ _ _ _ l _ _ _ HR.out HC.out rfl).mono ?_; rintro e w1 ⟨rfl, hb⟩; have HBn := Aside0.mk (below_step HB.out hb); have HSn := Aside0.mk (HS.out.below hb); clear HB HS hb; have HB := HBn; have HS := HSn; clear HBn HSn)
     have hba := below_alloc (Below.refl w1.heap.size w1) (.cells #[.int .i64 s, .bool r] 54 (0, 0))
     have BK := Aside0.mk (blk_new w1 (.cells #[.int .i64 s, .bool r] 54 (0, 0)))
     have HBn := Aside0.mk (below_step HB.out hba)
     have HSn := Aside0.mk (HS.out.below hba)
     clear HB HS hba c0 c1' c2 c3
     have HB := HBn
     have HS := HSn
     clear HBn HSn
     generalize w1.heap.size = gb at BK ⊢
     generalize World.alloc _ _ = wa at BK HS HB ⊢
     have hq1 : wa.cell? ⟨gb, 0, none⟩ = some (.int .i64 s) := (blk_cell BK.out 0).trans rfl
     have hq2 : wa.cell? ⟨gb, 1, none⟩ = some (.bool r) := (blk_cell BK.out 1).trans rfl
     have hq3 := HS.out.cell.2.2.2.1
     refine start_ (n := 35) (S := fun w' => w'.cell? ⟨gb, 0, none⟩ = some (.int .i64 s) ∧ w'.cell? ⟨gb, 1, none⟩ = some (.bool r) ∧ w'.cell? ⟨g, 3, none⟩ = some (.int .i64 d)) (ds := [34]) #[false, false, false, false, false, false, false, false, false, false, false, false, false, false, false, false, false, false, false, false, false, false, false, false, false, false, false, false, false, false, false, false, false, false, false] (by kernel_rfl) rfl rfl ⟨((below_drew1 (Below.refl _ _)).cell (World.block_lt_of_cell? _ _ hq1)).trans hq1, ((below_drew1 (Below.refl _ _)).cell (World.block_lt_of_cell? _ _ hq2)).trans hq2, ((below_drew1 (Below.refl _ _)).cell (World.block_lt_of_cell? _ _ hq3)).trans hq3⟩ (fun hHeld => ?_)
     refine with_tabW impl_spacing_follows.tab2 impl_spacing_follows.bits2 (fun HT_ HW_ => ?_)
     obtain ⟨HS, BK, HB⟩ := fostep HS BK HB (below_drew1 (Below.refl _ _))
     generalize World.drew _ = w2 at HS BK HB hHeld ⊢
     refine pi_ (i := 0) (N := some 15) (v := ?_) (a' := ?_) (bm 35 1) rfl rfl HT_ (by kernel_rfl) (fun _ _ _ h => h) (Or.inl ⟨by rfl, ?_⟩) ?_ ?_
     rotate_left
     ·intro w'
      go_simp
      with_reducible rfl
     rotate_left
     ·simp only [Act.put, pp_]
      rfl
     refine pi_ (i := 1) (N := some 16) (v := ?_) (a' := ?_) (bm 35 3) rfl rfl HT_ (by kernel_rfl) (fun _ _ _ h => h) (Or.inl ⟨by rfl, ?_⟩) ?_ ?_
     rotate_left
     ·intro w'
      go_simp
      with_reducible rfl
     rotate_left
     ·simp only [Act.put, pp_]
      rfl
     refine one_ (i := 2) (N := some 17) (bm 35 7) rfl rfl (one_of HT_.out (by kernel_rfl)) (by decide) (fun K hK => ?_)
     refine goes_ Tryd.func90 (by kernel_rfl) rfl #[.pointer (some ⟨g, 0, none⟩), .int .i64 p] (by rfl) rfl rfl (by (try simp only [List.map_toArray, List.map_cons, List.map_nil]); first | done | rfl) ?_
     with_reducible refine (impl_spacing_can.calls k g s r A c l d Aw nw cw mb p true _ (HTT.out.below HB.out) HS.out (Kd.C_below HR.out HB.out) HC.out A1.out).mono ?_
     rintro e w3 ⟨rfl, hb⟩
     refine ⟨_, rfl, ?_⟩
     obtain ⟨HS, BK, HB⟩ := fostep HS BK HB hb
     clear hb
     refine hK.out _ _ ⟨(blk_cell BK.out 0).trans rfl, (blk_cell BK.out 1).trans rfl, HS.out.cell.2.2.2.1⟩ (fun hHeld => ?_)
     clear hK K
     refine norm_ (a' := ?_) ?_ ?_
     rotate_left
     ·show Act.put _ (some 17) _ = _
      simp only [Act.put, pp_]
      rfl
     refine pi_ (i := 3) (N := some 18) (v := ?_) (a' := ?_) (bm 35 15) rfl rfl HT_ (by kernel_rfl) (fun _ _ _ h => h) (Or.inl ⟨by rfl, ?_⟩) ?_ ?_
     rotate_left
     ·intro w'
      go_simp
      with_reducible rfl
     rotate_left
     ·simp only [Act.put, pp_]
      rfl
     refine pi_ (i := 4) (N := some 19) (v := ?_) (a' := ?_) (bm 35 31) rfl rfl HT_ (by kernel_rfl) (fun _ _ _ h => h) (Or.inl ⟨by rfl, ?_⟩) ?_ ?_
     rotate_left
     ·intro w'
      go_simp
      with_reducible rfl
     rotate_left
     ·simp only [Act.put, pp_]
      rfl
     refine pi_ (i := 5) (N := some 20) (v := ?_) (a' := ?_) (bm 35 63) rfl rfl HT_ (by kernel_rfl) (fun _ _ _ h => h) (Or.inl ⟨by rfl, ?_⟩) ?_ ?_
     rotate_left
     ·intro w'
      go_simp
      with_reducible rfl
     rotate_left
     ·simp only [Act.put, pp_]
      rfl
     refine pi_ (i := 6) (N := some 21) (v := ?_) (a' := ?_) (bm 35 127) rfl rfl HT_ (by kernel_rfl) (fun _ _ _ h => h) (Or.inl ⟨by rfl, ?_⟩) ?_ ?_
     rotate_left
     ·intro w'
      go_simp
      with_reducible rfl
     rotate_left
     ·simp only [Act.put, pp_]
      rfl
     refine pi_ (i := 7) (N := some 22) (v := ?_) (a' := ?_) (bm 35 255) rfl rfl HT_ (by kernel_rfl) (fun _ _ _ h => h) (Or.inl ⟨by rfl, ?_⟩) ?_ ?_
     rotate_left
     ·intro w'
      go_simp
      with_reducible rfl
     rotate_left
     ·simp only [Act.put, pp_]
      rfl
     refine pi_ (i := 8) (N := some 23) (v := ?_) (a' := ?_) (bm 35 511) rfl rfl HT_ (by kernel_rfl) (fun _ _ _ h => h) (Or.inl ⟨by rfl, ?_⟩) ?_ ?_
     rotate_left
     ·intro w'
      go_simp
      with_reducible rfl
     rotate_left
     ·simp only [Act.put, pp_]
      rfl
     refine pi_ (i := 9) (N := some 24) (v := ?_) (a' := ?_) (bm 35 1023) rfl rfl HT_ (by kernel_rfl) (fun _ _ _ h => h) (Or.inl ⟨by rfl, ?_⟩) ?_ ?_
     rotate_left
     ·intro w'
      go_simp
      with_reducible rfl
     rotate_left
     ·simp only [Act.put, pp_]
      rfl
     refine pi_ (i := 10) (N := some 25) (v := ?_) (a' := ?_) (bm 35 2047) rfl rfl HT_ (by kernel_rfl) (fun _ _ _ h => h) (Or.inl ⟨by rfl, ?_⟩) ?_ ?_
     rotate_left
     ·intro w'
      go_simp
      with_reducible rfl
     rotate_left
     ·simp only [Act.put, pp_]
      rfl
     refine pi_ (i := 12) (N := some 27) (v := ?_) (a' := ?_) (bm 35 6143) rfl rfl HT_ (by kernel_rfl) (fun _ _ _ h => h) (Or.inl ⟨by rfl, ?_⟩) ?_ ?_
     rotate_left
     ·intro w'
      go_simp
      with_reducible rfl
     rotate_left
     ·simp only [Act.put, pp_]
      rfl
     refine pi_ (i := 13) (N := some 28) (v := ?_) (a' := ?_) (bm 35 14335) rfl rfl HT_ (by kernel_rfl) (fun _ _ _ h => h) (Or.inl ⟨by rfl, ?_⟩) ?_ ?_
     rotate_left
     ·intro w'
      go_simp
      with_reducible rfl
     rotate_left
     ·simp only [Act.put, pp_]
      rfl
     refine pi_ (i := 15) (N := some 30) (v := ?_) (a' := ?_) (bm 35 47103) rfl rfl HT_ (by kernel_rfl) (fun _ _ _ h => h) (Or.inl ⟨by rfl, ?_⟩) ?_ ?_
     rotate_left
     ·intro w'
      go_simp
      with_reducible rfl
     rotate_left
     ·simp only [Act.put, pp_]
      rfl
     refine pi_ (i := 16) (N := some 31) (v := ?_) (a' := ?_) (bm 35 112639) rfl rfl HT_ (by kernel_rfl) (fun _ _ _ h => h) (Or.inl ⟨by rfl, ?_⟩) ?_ ?_
     rotate_left
     ·intro w'
      go_simp
      with_reducible rfl
     rotate_left
     ·simp only [Act.put, pp_]
      rfl
     refine pi_ (i := 17) (N := some 32) (v := ?_) (a' := ?_) (bm 35 243711) rfl rfl HT_ (by kernel_rfl) (fun _ _ _ h => h) (Or.inl ⟨by rfl, ?_⟩) ?_ ?_
     rotate_left
     ·intro w'
      go_simp
      with_reducible rfl
     rotate_left
     ·simp only [Act.put, pp_]
      rfl
     refine take_ (i := 11) (N := some 26) (v := ?_) (a' := ?_) (bm 35 245759) rfl rfl (take_ofW HT_.out HW_.out (by kernel_rfl)) (fun _ _ _ h => h) (Or.inl ⟨by rfl, ?_⟩) hHeld ?_ ?_
     rotate_left
     ·rintro w' ⟨s0, s1, s2⟩
      go_simp
      with_reducible rfl
     rotate_left
     ·simp only [Act.put, pp_]
      rfl
     refine take_ (i := 18) (N := some 33) (v := ?_) (a' := ?_) (bm 35 507903) rfl rfl (take_ofW HT_.out HW_.out (by kernel_rfl)) (fun _ _ _ h => h) (Or.inl ⟨by rfl, ?_⟩) hHeld ?_ ?_
     rotate_left
     ·rintro w' ⟨s0, s1, s2⟩
      go_simp
      with_reducible rfl
     rotate_left
     ·simp only [Act.put, pp_]
      rfl
     refine one_ (i := 14) (N := some 29) (bm 35 524287) rfl rfl (one_of HT_.out (by kernel_rfl)) (by decide) (fun K hK => ?_)
     refine goes_ Tryd.func76 (by kernel_rfl) rfl #[.agg #[.int .i64 s, .bool r], .int .i64 last, .int .i64 p] (by rfl) rfl rfl (by (try simp only [List.map_toArray, List.map_cons, List.map_nil]); first | done | rfl) ?_
     with_reducible refine (impl_bench_gap.calls s r last p q1 _ A2.out).mono ?_
     rintro e w4 ⟨rfl, hb⟩
     refine ⟨_, rfl, ?_⟩
     obtain ⟨HS, BK, HB⟩ := fostep HS BK HB hb
     clear hb
     refine hK.out _ _ ⟨(blk_cell BK.out 0).trans rfl, (blk_cell BK.out 1).trans rfl, HS.out.cell.2.2.2.1⟩ (fun hHeld => ?_)
     clear hK K
     refine norm_ (a' := ?_) ?_ ?_
     rotate_left
     ·show Act.put _ (some 29) _ = _
      simp only [Act.put, pp_]
      rfl
     refine pi_ (i := 19) (N := some 34) (v := ?_) (a' := ?_) (bm 35 1048575) rfl rfl HT_ (by kernel_rfl) (fun _ _ _ h => h) (Or.inl ⟨by rfl, ?_⟩) ?_ ?_
     rotate_left
     ·intro w'
      go_simp
      with_reducible rfl
     rotate_left
     ·simp only [Act.put, pp_]
      rfl
     refine pi_ (i := 20) (N := some 35) (v := ?_) (a' := ?_) (bm 35 2097151) rfl rfl HT_ (by kernel_rfl) (fun _ _ _ h => h) (Or.inl ⟨by rfl, ?_⟩) ?_ ?_
     rotate_left
     ·intro w'
      go_simp
      with_reducible rfl
     rotate_left
     ·simp only [Act.put, pp_]
      rfl
     refine pi_ (i := 21) (N := some 36) (v := ?_) (a' := ?_) (bm 35 4194303) rfl rfl HT_ (by kernel_rfl) (fun _ _ _ h => h) (Or.inl ⟨by rfl, ?_⟩) ?_ ?_
     rotate_left
     ·intro w'
      go_simp
      with_reducible rfl
     rotate_left
     ·simp only [Act.put, pp_]
      rfl
     refine pn_ (i := 22) (N := some 37) (a' := ?_) (bm 35 8388607) rfl rfl HT_ (by kernel_rfl) (fun _ _ _ h => h) (by rfl) ?_ ?_
     rotate_left
     ·simp only [Act.put, pp_]
      rfl
     refine pn_ (i := 23) (N := some 38) (a' := ?_) (bm 35 16777215) rfl rfl HT_ (by kernel_rfl) (fun _ _ _ h => h) (by rfl) ?_ ?_
     rotate_left
     ·simp only [Act.put, pp_]
      rfl
     refine pn_ (i := 24) (N := some 39) (a' := ?_) (bm 35 33554431) rfl rfl HT_ (by kernel_rfl) (fun _ _ _ h => h) (by rfl) ?_ ?_
     rotate_left
     ·simp only [Act.put, pp_]
      rfl
     refine pn_ (i := 25) (N := some 40) (a' := ?_) (bm 35 67108863) rfl rfl HT_ (by kernel_rfl) (fun _ _ _ h => h) (by rfl) ?_ ?_
     rotate_left
     ·simp only [Act.put, pp_]
      rfl
     refine pn_ (i := 26) (N := some 41) (a' := ?_) (bm 35 134217727) rfl rfl HT_ (by kernel_rfl) (fun _ _ _ h => h) (by rfl) ?_ ?_
     rotate_left
     ·simp only [Act.put, pp_]
      rfl
     refine pn_ (i := 27) (N := some 42) (a' := ?_) (bm 35 268435455) rfl rfl HT_ (by kernel_rfl) (fun _ _ _ h => h) (by rfl) ?_ ?_
     rotate_left
     ·simp only [Act.put, pp_]
      rfl
     refine pn_ (i := 28) (N := some 43) (a' := ?_) (bm 35 536870911) rfl rfl HT_ (by kernel_rfl) (fun _ _ _ h => h) (by rfl) ?_ ?_
     rotate_left
     ·simp only [Act.put, pp_]
      rfl
     refine pn_ (i := 29) (N := some 44) (a' := ?_) (bm 35 1073741823) rfl rfl HT_ (by kernel_rfl) (fun _ _ _ h => h) (by rfl) ?_ ?_
     rotate_left
     ·simp only [Act.put, pp_]
      rfl
     refine pn_ (i := 30) (N := some 45) (a' := ?_) (bm 35 2147483647) rfl rfl HT_ (by kernel_rfl) (fun _ _ _ h => h) (by rfl) ?_ ?_
     rotate_left
     ·simp only [Act.put, pp_]
      rfl
     refine pi_ (i := 31) (N := some 46) (v := ?_) (a' := ?_) (bm 35 4294967295) rfl rfl HT_ (by kernel_rfl) (fun _ _ _ h => h) (Or.inl ⟨by rfl, ?_⟩) ?_ ?_
     rotate_left
     ·intro w'
      go_simp
      with_reducible rfl
     rotate_left
     ·simp only [Act.put, pp_]
      rfl
     refine pi_ (i := 32) (N := some 47) (v := ?_) (a' := ?_) (bm 35 8589934591) rfl rfl HT_ (by kernel_rfl) (fun _ _ _ h => h) (Or.inl ⟨by rfl, ?_⟩) ?_ ?_
     rotate_left
     ·intro w'
      go_simp
      with_reducible rfl
     rotate_left
     ·simp only [Act.put, pp_]
      rfl
     refine pi_ (i := 33) (N := some 48) (v := ?_) (a' := ?_) (bm 35 17179869183) rfl rfl HT_ (by kernel_rfl) (fun _ _ _ h => h) (Or.inl ⟨by rfl, ?_⟩) ?_ ?_
     rotate_left
     ·intro w'
      go_simp
      with_reducible rfl
     rotate_left
     ·simp only [Act.put, pp_]
      rfl
     refine pi_ (i := 34) (N := some 8) (v := ?_) (a' := ?_) (bm 35 34359738367) rfl rfl HT_ (by kernel_rfl) (fun _ _ _ h => h) (Or.inl ⟨by rfl, ?_⟩) ?_ ?_
     rotate_left
     ·intro w'
      go_simp
      with_reducible rfl
     rotate_left
     ·simp only [Act.put, pp_]
      rfl
     refine done_ (done_of HT_.out (by kernel_rfl)) ?_

     try go_wp2
     go_ret
     exact ⟨rfl, HB.out⟩
   ·rw [if_neg cp] at h
    have cp1 : decide (last < p) = false := decide_eq_false cp
    obtain rfl := Option.some.inj h
    clear h
    go_enter Tryd.func79, Tryd.ntmps79
    go_wp2_with (go_at_call 42; refine (impl_Row_bench.calls _ _ _ _ l _ _ _ HR.out HC.out rfl).mono ?_; rintro e w1 ⟨rfl, hb⟩; have HBn := Aside0.mk (below_step HB.out hb); have HSn := Aside0.mk (HS.out.below hb); clear HB HS hb; have HB := HBn; have HS := HSn; clear HBn HSn)
    have hba := below_alloc (Below.refl w1.heap.size w1) (.cells #[.int .i64 s, .bool r] 54 (0, 0))
    have BK := Aside0.mk (blk_new w1 (.cells #[.int .i64 s, .bool r] 54 (0, 0)))
    have HBn := Aside0.mk (below_step HB.out hba)
    have HSn := Aside0.mk (HS.out.below hba)
    clear HB HS hba c0 c1' c2 c3
    have HB := HBn
    have HS := HSn
    clear HBn HSn
    generalize w1.heap.size = gb at BK ⊢
    generalize World.alloc _ _ = wa at BK HS HB ⊢
    have hq1 : wa.cell? ⟨gb, 0, none⟩ = some (.int .i64 s) := (blk_cell BK.out 0).trans rfl
    have hq2 : wa.cell? ⟨gb, 1, none⟩ = some (.bool r) := (blk_cell BK.out 1).trans rfl
    have hq3 := HS.out.cell.2.2.2.1
    refine start_ (n := 35) (S := fun w' => w'.cell? ⟨gb, 0, none⟩ = some (.int .i64 s) ∧ w'.cell? ⟨gb, 1, none⟩ = some (.bool r) ∧ w'.cell? ⟨g, 3, none⟩ = some (.int .i64 d)) (ds := [34]) #[false, false, false, false, false, false, false, false, false, false, false, false, false, false, false, false, false, false, false, false, false, false, false, false, false, false, false, false, false, false, false, false, false, false, false] (by kernel_rfl) rfl rfl ⟨((below_drew1 (Below.refl _ _)).cell (World.block_lt_of_cell? _ _ hq1)).trans hq1, ((below_drew1 (Below.refl _ _)).cell (World.block_lt_of_cell? _ _ hq2)).trans hq2, ((below_drew1 (Below.refl _ _)).cell (World.block_lt_of_cell? _ _ hq3)).trans hq3⟩ (fun hHeld => ?_)
    refine with_tabW impl_spacing_follows.tab2 impl_spacing_follows.bits2 (fun HT_ HW_ => ?_)
    obtain ⟨HS, BK, HB⟩ := fostep HS BK HB (below_drew1 (Below.refl _ _))
    generalize World.drew _ = w2 at HS BK HB hHeld ⊢
    refine pi_ (i := 0) (N := some 15) (v := ?_) (a' := ?_) (bm 35 1) rfl rfl HT_ (by kernel_rfl) (fun _ _ _ h => h) (Or.inl ⟨by rfl, ?_⟩) ?_ ?_
    rotate_left
    ·intro w'
     go_simp
     with_reducible rfl
    rotate_left
    ·simp only [Act.put, pp_]
     rfl
    refine pi_ (i := 1) (N := some 16) (v := ?_) (a' := ?_) (bm 35 3) rfl rfl HT_ (by kernel_rfl) (fun _ _ _ h => h) (Or.inl ⟨by rfl, ?_⟩) ?_ ?_
    rotate_left
    ·intro w'
     go_simp
     with_reducible rfl
    rotate_left
    ·simp only [Act.put, pp_]
     rfl
    refine one_ (i := 2) (N := some 17) (bm 35 7) rfl rfl (one_of HT_.out (by kernel_rfl)) (by decide) (fun K hK => ?_)
    refine goes_ Tryd.func90 (by kernel_rfl) rfl #[.pointer (some ⟨g, 0, none⟩), .int .i64 p] (by rfl) rfl rfl (by (try simp only [List.map_toArray, List.map_cons, List.map_nil]); first | done | rfl) ?_
    with_reducible refine (impl_spacing_can.calls k g s r A c l d Aw nw cw mb p true _ (HTT.out.below HB.out) HS.out (Kd.C_below HR.out HB.out) HC.out A1.out).mono ?_
    rintro e w3 ⟨rfl, hb⟩
    refine ⟨_, rfl, ?_⟩
    obtain ⟨HS, BK, HB⟩ := fostep HS BK HB hb
    clear hb
    refine hK.out _ _ ⟨(blk_cell BK.out 0).trans rfl, (blk_cell BK.out 1).trans rfl, HS.out.cell.2.2.2.1⟩ (fun hHeld => ?_)
    clear hK K
    refine norm_ (a' := ?_) ?_ ?_
    rotate_left
    ·show Act.put _ (some 17) _ = _
     simp only [Act.put, pp_]
     rfl
    refine pi_ (i := 3) (N := some 18) (v := ?_) (a' := ?_) (bm 35 15) rfl rfl HT_ (by kernel_rfl) (fun _ _ _ h => h) (Or.inl ⟨by rfl, ?_⟩) ?_ ?_
    rotate_left
    ·intro w'
     go_simp
     with_reducible rfl
    rotate_left
    ·simp only [Act.put, pp_]
     rfl
    refine pi_ (i := 4) (N := some 19) (v := ?_) (a' := ?_) (bm 35 31) rfl rfl HT_ (by kernel_rfl) (fun _ _ _ h => h) (Or.inl ⟨by rfl, ?_⟩) ?_ ?_
    rotate_left
    ·intro w'
     go_simp
     with_reducible rfl
    rotate_left
    ·simp only [Act.put, pp_]
     rfl
    refine pi_ (i := 5) (N := some 20) (v := ?_) (a' := ?_) (bm 35 63) rfl rfl HT_ (by kernel_rfl) (fun _ _ _ h => h) (Or.inl ⟨by rfl, ?_⟩) ?_ ?_
    rotate_left
    ·intro w'
     go_simp
     with_reducible rfl
    rotate_left
    ·simp only [Act.put, pp_]
     rfl
    refine pi_ (i := 6) (N := some 21) (v := ?_) (a' := ?_) (bm 35 127) rfl rfl HT_ (by kernel_rfl) (fun _ _ _ h => h) (Or.inl ⟨by rfl, ?_⟩) ?_ ?_
    rotate_left
    ·intro w'
     go_simp
     with_reducible rfl
    rotate_left
    ·simp only [Act.put, pp_]
     rfl
    refine pi_ (i := 7) (N := some 22) (v := ?_) (a' := ?_) (bm 35 255) rfl rfl HT_ (by kernel_rfl) (fun _ _ _ h => h) (Or.inl ⟨by rfl, ?_⟩) ?_ ?_
    rotate_left
    ·intro w'
     go_simp
     with_reducible rfl
    rotate_left
    ·simp only [Act.put, pp_]
     rfl
    refine pi_ (i := 8) (N := some 23) (v := ?_) (a' := ?_) (bm 35 511) rfl rfl HT_ (by kernel_rfl) (fun _ _ _ h => h) (Or.inl ⟨by rfl, ?_⟩) ?_ ?_
    rotate_left
    ·intro w'
     go_simp
     with_reducible rfl
    rotate_left
    ·simp only [Act.put, pp_]
     rfl
    refine pi_ (i := 9) (N := some 24) (v := ?_) (a' := ?_) (bm 35 1023) rfl rfl HT_ (by kernel_rfl) (fun _ _ _ h => h) (Or.inl ⟨by rfl, ?_⟩) ?_ ?_
    rotate_left
    ·intro w'
     go_simp
     with_reducible rfl
    rotate_left
    ·simp only [Act.put, pp_]
     rfl
    refine pi_ (i := 10) (N := some 25) (v := ?_) (a' := ?_) (bm 35 2047) rfl rfl HT_ (by kernel_rfl) (fun _ _ _ h => h) (Or.inl ⟨by rfl, ?_⟩) ?_ ?_
    rotate_left
    ·intro w'
     go_simp
     with_reducible rfl
    rotate_left
    ·simp only [Act.put, pp_]
     rfl
    refine pn_ (i := 11) (N := some 26) (a' := ?_) (bm 35 4095) rfl rfl HT_ (by kernel_rfl) (fun _ _ _ h => h) (by rfl) ?_ ?_
    rotate_left
    ·simp only [Act.put, pp_]
     rfl
    refine pn_ (i := 12) (N := some 27) (a' := ?_) (bm 35 8191) rfl rfl HT_ (by kernel_rfl) (fun _ _ _ h => h) (by rfl) ?_ ?_
    rotate_left
    ·simp only [Act.put, pp_]
     rfl
    refine pn_ (i := 13) (N := some 28) (a' := ?_) (bm 35 16383) rfl rfl HT_ (by kernel_rfl) (fun _ _ _ h => h) (by rfl) ?_ ?_
    rotate_left
    ·simp only [Act.put, pp_]
     rfl
    refine pn_ (i := 14) (N := some 29) (a' := ?_) (bm 35 32767) rfl rfl HT_ (by kernel_rfl) (fun _ _ _ h => h) (by rfl) ?_ ?_
    rotate_left
    ·simp only [Act.put, pp_]
     rfl
    refine pn_ (i := 15) (N := some 30) (a' := ?_) (bm 35 65535) rfl rfl HT_ (by kernel_rfl) (fun _ _ _ h => h) (by rfl) ?_ ?_
    rotate_left
    ·simp only [Act.put, pp_]
     rfl
    refine pn_ (i := 16) (N := some 31) (a' := ?_) (bm 35 131071) rfl rfl HT_ (by kernel_rfl) (fun _ _ _ h => h) (by rfl) ?_ ?_
    rotate_left
    ·simp only [Act.put, pp_]
     rfl
    refine pn_ (i := 17) (N := some 32) (a' := ?_) (bm 35 262143) rfl rfl HT_ (by kernel_rfl) (fun _ _ _ h => h) (by rfl) ?_ ?_
    rotate_left
    ·simp only [Act.put, pp_]
     rfl
    refine pn_ (i := 18) (N := some 33) (a' := ?_) (bm 35 524287) rfl rfl HT_ (by kernel_rfl) (fun _ _ _ h => h) (by rfl) ?_ ?_
    rotate_left
    ·simp only [Act.put, pp_]
     rfl
    refine pn_ (i := 19) (N := some 34) (a' := ?_) (bm 35 1048575) rfl rfl HT_ (by kernel_rfl) (fun _ _ _ h => h) (by rfl) ?_ ?_
    rotate_left
    ·simp only [Act.put, pp_]
     rfl
    refine pi_ (i := 20) (N := some 35) (v := ?_) (a' := ?_) (bm 35 2097151) rfl rfl HT_ (by kernel_rfl) (fun _ _ _ h => h) (Or.inl ⟨by rfl, ?_⟩) ?_ ?_
    rotate_left
    ·intro w'
     go_simp
     with_reducible rfl
    rotate_left
    ·simp only [Act.put, pp_]
     rfl
    refine pi_ (i := 21) (N := some 36) (v := ?_) (a' := ?_) (bm 35 4194303) rfl rfl HT_ (by kernel_rfl) (fun _ _ _ h => h) (Or.inl ⟨by rfl, ?_⟩) ?_ ?_
    rotate_left
    ·intro w'
     go_simp
     with_reducible rfl
    rotate_left
    ·simp only [Act.put, pp_]
     rfl
    refine pn_ (i := 22) (N := some 37) (a' := ?_) (bm 35 8388607) rfl rfl HT_ (by kernel_rfl) (fun _ _ _ h => h) (by rfl) ?_ ?_
    rotate_left
    ·simp only [Act.put, pp_]
     rfl
    refine pn_ (i := 23) (N := some 38) (a' := ?_) (bm 35 16777215) rfl rfl HT_ (by kernel_rfl) (fun _ _ _ h => h) (by rfl) ?_ ?_
    rotate_left
    ·simp only [Act.put, pp_]
     rfl
    refine pn_ (i := 24) (N := some 39) (a' := ?_) (bm 35 33554431) rfl rfl HT_ (by kernel_rfl) (fun _ _ _ h => h) (by rfl) ?_ ?_
    rotate_left
    ·simp only [Act.put, pp_]
     rfl
    refine pn_ (i := 25) (N := some 40) (a' := ?_) (bm 35 67108863) rfl rfl HT_ (by kernel_rfl) (fun _ _ _ h => h) (by rfl) ?_ ?_
    rotate_left
    ·simp only [Act.put, pp_]
     rfl
    refine pn_ (i := 26) (N := some 41) (a' := ?_) (bm 35 134217727) rfl rfl HT_ (by kernel_rfl) (fun _ _ _ h => h) (by rfl) ?_ ?_
    rotate_left
    ·simp only [Act.put, pp_]
     rfl
    refine pn_ (i := 27) (N := some 42) (a' := ?_) (bm 35 268435455) rfl rfl HT_ (by kernel_rfl) (fun _ _ _ h => h) (by rfl) ?_ ?_
    rotate_left
    ·simp only [Act.put, pp_]
     rfl
    refine pn_ (i := 28) (N := some 43) (a' := ?_) (bm 35 536870911) rfl rfl HT_ (by kernel_rfl) (fun _ _ _ h => h) (by rfl) ?_ ?_
    rotate_left
    ·simp only [Act.put, pp_]
     rfl
    refine pn_ (i := 29) (N := some 44) (a' := ?_) (bm 35 1073741823) rfl rfl HT_ (by kernel_rfl) (fun _ _ _ h => h) (by rfl) ?_ ?_
    rotate_left
    ·simp only [Act.put, pp_]
     rfl
    refine pn_ (i := 30) (N := some 45) (a' := ?_) (bm 35 2147483647) rfl rfl HT_ (by kernel_rfl) (fun _ _ _ h => h) (by rfl) ?_ ?_
    rotate_left
    ·simp only [Act.put, pp_]
     rfl
    refine pi_ (i := 31) (N := some 46) (v := ?_) (a' := ?_) (bm 35 4294967295) rfl rfl HT_ (by kernel_rfl) (fun _ _ _ h => h) (Or.inl ⟨by rfl, ?_⟩) ?_ ?_
    rotate_left
    ·intro w'
     go_simp
     with_reducible rfl
    rotate_left
    ·simp only [Act.put, pp_]
     rfl
    refine pi_ (i := 32) (N := some 47) (v := ?_) (a' := ?_) (bm 35 8589934591) rfl rfl HT_ (by kernel_rfl) (fun _ _ _ h => h) (Or.inl ⟨by rfl, ?_⟩) ?_ ?_
    rotate_left
    ·intro w'
     go_simp
     with_reducible rfl
    rotate_left
    ·simp only [Act.put, pp_]
     rfl
    refine pi_ (i := 33) (N := some 48) (v := ?_) (a' := ?_) (bm 35 17179869183) rfl rfl HT_ (by kernel_rfl) (fun _ _ _ h => h) (Or.inl ⟨by rfl, ?_⟩) ?_ ?_
    rotate_left
    ·intro w'
     go_simp
     with_reducible rfl
    rotate_left
    ·simp only [Act.put, pp_]
     rfl
    refine pi_ (i := 34) (N := some 8) (v := ?_) (a' := ?_) (bm 35 34359738367) rfl rfl HT_ (by kernel_rfl) (fun _ _ _ h => h) (Or.inl ⟨by rfl, ?_⟩) ?_ ?_
    rotate_left
    ·intro w'
     go_simp
     with_reducible rfl
    rotate_left
    ·simp only [Act.put, pp_]
     rfl
    refine done_ (done_of HT_.out (by kernel_rfl)) ?_

    try go_wp2
    go_ret
    exact ⟨rfl, HB.out⟩


end Go.Proofs.YtaebbgkoaaigbaaDoor.PFnSpread
