import Derived.Test.YtnoipklaebadeaaDoorZFnPlacingsPFnPlacingsx0
import Derived.Test.YtnoipklaebadeaaDoorZFnPlacingsPFnPlacingsx1
import Derived.Test.YtnoipklaebadeaaDoorZFnPlacingsPFnPlacingsx3
import Derived.Test.YtnoipklaebadeaaDoorZFnPlacingsPFnPlacingsx12
import Derived.Test.YtnoipklaebadeaaDoorZFnPlacingsPFnPlacingsx17
namespace Go.Proofs.YtnoipklaebadeaaDoor.PFnPlacings
open Go.RowKit Go.Proofs.YtnoipklaebadeaaDoorW.PrintWords Go.Proofs.YtnoipklaebadeaaDoorW.PrintLast Go.Proofs.YtnoipklaebadeaaDoorW.PrintMore
attribute [local go_sem] max2_int min2_int max_two min_two max_three min_three max_four min_four   -- for this text's walks alone
set_option linter.unusedVariables false
set_option linter.unusedSimpArgs false

/-! ### impl_Row_placings: function 32 -/
def impl_Row_placings.f {σ : Type} (vis : List Int → σ → Bool × σ) (k : Nat) (a4 : Int) (a3 : Bool) (l6 l2 : List Int) (a5 : Int) (s : σ) : Option (Bool × σ) := (impl_Row_taken.f k a4 a3 l6).bind fun tk => impl_Row_placings_1.f vis k [] tk l2 a3 a4 a5 l6 s
def impl_Row_placings.T3 : Bool × List (List Nat × List Nat) := (true, [([], []), ([], []), ([1], [1]), ([0, 2, 2], [0, 2])])
def impl_Row_placings.B3 : List Nat := [0, 0, 2, 7]
theorem impl_Row_placings.tab3 : rtab .any (opsOf Tryd.f32 3) = impl_Row_placings.T3 := by kernel_rfl
theorem impl_Row_placings.bits3 : waitsOk impl_Row_placings.T3.2 impl_Row_placings.B3 = true := by kernel_rfl
def PlEnd {σ : Type} (VI : World → (Nat → Prop) → σ → Prop) (w0 w : World) (F : Nat → Prop) (s' : σ) (e : Ending) (w' : World) : Prop :=
 ∃ F' : Nat → Prop, e = .returned (.tuple #[]) ∧ VI w' F' s' ∧ (∀ k, F' k → F k ∨ w.heap.size ≤ k) ∧ Kept w w' F ∧ Below w0.heap.size w0 w'
set_option maxHeartbeats 8000000 in
set_option maxRecDepth 100000 in
theorem impl_Row_placings.calls {σ : Type} {nv : Nat} {caps : Array Value} {w0 : World} {VI : World → (Nat → Prop) → σ → Prop} {vis : List Int → σ → Bool × σ} (V : Vis nv caps w0 VI vis) (hdyn : ∀ (args : Array Value) (w : World), (callFunc nv args).run Tryd.prog w = .ok (.enter nv args) w) (k : Nat) (a4 : Int) (a3 : Bool) (A6 : Option Addr) (c6 : Nat) (l6 : List Int) (A2 : Option Addr) (c2 : Nat) (l2 : List Int) (a5 : Int) (s : σ) (r : Bool) (s' : σ) (w : World) (F : Nat → Prop)
  (hr2 : Kd.C (Kd.int .i64) w0 A2 l2.length l2) (hr6 : Kd.C (Kd.int .i64) w0 A6 l6.length l6) (hc6 : l6.length ≤ c6) (hl2 : 1 ≤ l2.length ∧ l2.length ≤ 1000) (hV : VI w F s) (hB : Below w0.heap.size w0 w) (h : impl_Row_placings.f vis k a4 a3 l6 l2 a5 s = some (r, s')) :
  Calls Tryd.prog 32 #[.agg #[.int .i64 a4, .bool a3, .slice A6 l6.length c6], .slice A2 l2.length c2, .int .i64 a5, .func (.func nv) #[] caps] w (PlEnd VI w0 w F s') := by
 have hu28 := Tryd.underlying26
 have hmf : ∀ (fn : Fn) (first cap : Array Value) (w : World), (Instr.makeFunc fn first cap).run Tryd.prog w = .ok (.func fn first cap) w := fun _ _ _ _ => rfl
 have VV0 := am hV
 have HB1 := am hB
 have HB := am (Below.refl w.heap.size w)
 unfold impl_Row_placings.f at h
 replace h := Option.bind_eq_some_iff.mp h
 obtain ⟨tk, A10, h⟩ := h
 have A1 := am A10
 have A2_ := am h
 clear A10 h hV hB
 go_enter Tryd.func32, Tryd.ntmps32
 go_wp2_with (first | ((with_reducible refine gate_dst (N := 4) rfl ?_); refine box_event ?hg (N := 4) ?hd (cs := #[.int .i64 a4, .bool a3, .slice A6 l6.length c6]) (t := 26) ?hr ?_; (case hd => rfl); (case hg => rfl); (case hr => first | (go_simp; done) | (go_simp; rfl)); intro e4 hg_ w_e4 hbox hb; have Ge4 := am (show w.heap.size ≤ e4 by rw [hg_]; exact below_size HB.out); have n0_ := am (below_step HB.out hb); have B4 := am hbox;  clear HB; have HB := n0_; clear n0_ hbox hb hg_) | ((with_reducible refine gate_dst (N := 5) rfl ?_); refine box_event ?hg (N := 5) ?hd (cs := #[.slice A2 l2.length c2]) (t := 24) ?hr ?_; (case hd => rfl); (case hg => rfl); (case hr => first | (go_simp; done) | (go_simp; rfl)); intro e2 hg_ w_e2 hbox hb; have Ge2 := am (show w.heap.size ≤ e2 by rw [hg_]; exact below_size HB.out); have n0_ := am (below_step HB.out hb); have B2 := am hbox; have m_ := am (blk_below B4.out hb); clear B4; have B4 := m_; clear m_;  clear HB; have HB := n0_; clear n0_ hbox hb hg_) | ((with_reducible refine gate_dst (N := 6) rfl ?_); refine box_event ?hg (N := 6) ?hd (cs := #[.int .i64 a5]) (t := 3) ?hr ?_; (case hd => rfl); (case hg => rfl); (case hr => first | (go_simp; done) | (go_simp; rfl)); intro e5 hg_ w_e5 hbox hb; have Ge5 := am (show w.heap.size ≤ e5 by rw [hg_]; exact below_size HB.out); have n0_ := am (below_step HB.out hb); have B5 := am hbox; have m_ := am (blk_below B4.out hb); clear B4; have B4 := m_; clear m_; have m_ := am (blk_below B2.out hb); clear B2; have B2 := m_; clear m_;  clear HB; have HB := n0_; clear n0_ hbox hb hg_) | ((with_reducible refine gate_dst (N := 7) rfl ?_); refine box_event ?hg (N := 7) ?hd (cs := #[.func (.func nv) #[] caps]) (t := 58) ?hr ?_; (case hd => rfl); (case hg => rfl); (case hr => first | (go_simp; done) | (go_simp; rfl)); intro e3 hg_ w_e3 hbox hb; have Ge3 := am (show w.heap.size ≤ e3 by rw [hg_]; exact below_size HB.out); have n0_ := am (below_step HB.out hb); have B3 := am hbox; have m_ := am (blk_below B4.out hb); clear B4; have B4 := m_; clear m_; have m_ := am (blk_below B2.out hb); clear B2; have B2 := m_; clear m_; have m_ := am (blk_below B5.out hb); clear B5; have B5 := m_; clear m_;  clear HB; have HB := n0_; clear n0_ hbox hb hg_))
 have HEO := am (show PlEnv nv caps e2 e3 e4 e5 w_e3.heap.size A2 c2 l2 a3 a4 a5 A6 c6 l6 (w_e3.alloc (.cells #[.func (.func 49) #[] #[.pointer (some ⟨e2, 0, none⟩), .pointer (some ⟨e3, 0, none⟩), .pointer (some ⟨e4, 0, none⟩), .pointer (some ⟨e5, 0, none⟩), .pointer (some ⟨w_e3.heap.size, 0, none⟩)]] 76 (0, 0))) from ⟨blk_alloc B2.out _, blk_alloc B3.out _, blk_alloc B4.out _, blk_alloc B5.out _, blk_new _ _⟩)
 have HBO := am (show Below w.heap.size w (w_e3.alloc (.cells #[.func (.func 49) #[] #[.pointer (some ⟨e2, 0, none⟩), .pointer (some ⟨e3, 0, none⟩), .pointer (some ⟨e4, 0, none⟩), .pointer (some ⟨e5, 0, none⟩), .pointer (some ⟨w_e3.heap.size, 0, none⟩)]] 76 (0, 0))) from below_alloc HB.out _)
 have HG6 := am (below_size HB.out)
 clear B2 B3 B4 B5 HB
 generalize w_e3.heap.size = e6 at HEO HBO HG6 ⊢
 generalize World.alloc _ _ = w1 at HEO HBO ⊢
 have EN := HEO
 have VV := am (V.frame VV0.out (fun k_ hk_ => HBO.out.block k_ (V.lt VV0.out k_ hk_)))
 have KK := am (Kept.of_below HBO.out F)
 have RR := am (Kd.R_nil (Kd.int .i64) 3 w1 w0.heap.size (fun k_ => ¬ F k_ ∧ ¬ PlE e2 e3 e4 e5 e6 k_))
 have HB0 := am (below_step HB1.out HBO.out)
 have FE := am (show ∀ k_, F k_ → ¬ PlE e2 e3 e4 e5 e6 k_ from fun k_ hk_ he_ => by
  have h1_ := V.lt VV0.out k_ hk_
  have h2_ := Ge2.out; have h3_ := Ge3.out; have h4_ := Ge4.out; have h5_ := Ge5.out; have h6_ := HG6.out
  rcases he_ with h_ | h_ | h_ | h_ | h_ <;> omega)
 clear HEO HBO HG6 Ge2 Ge3 Ge4 Ge5 VV0 HB1
 refine start_ (n := 4) (S := fun w' => w'.cell? ⟨e6, 0, none⟩ = some (.func (.func 49) #[] #[.pointer (some ⟨e2, 0, none⟩), .pointer (some ⟨e3, 0, none⟩), .pointer (some ⟨e4, 0, none⟩), .pointer (some ⟨e5, 0, none⟩), .pointer (some ⟨e6, 0, none⟩)]) ∧ w'.cell? ⟨e4, 0, none⟩ = some (.int .i64 a4) ∧ w'.cell? ⟨e4, 1, none⟩ = some (.bool a3) ∧ w'.cell? ⟨e4, 2, none⟩ = some (.slice A6 l6.length c6)) (ds := [3]) #[false, false, false, false] (by kernel_rfl) rfl rfl ⟨((EN.out.below (below_drew1 (Below.refl _ _))).cells).2.2.2.2.2.2, ((EN.out.below (below_drew1 (Below.refl _ _))).cells).2.2.1, ((EN.out.below (below_drew1 (Below.refl _ _))).cells).2.2.2.1, ((EN.out.below (below_drew1 (Below.refl _ _))).cells).2.2.2.2.1⟩ (fun hHeld => ?_)
 refine with_tabW impl_Row_placings.tab3 impl_Row_placings.bits3 (fun HT_ HW_ => ?_)
 obtain ⟨EN, VV, KK, RR, HB0⟩ := plstep V EN VV KK RR HB0 (below_drew1 (Below.refl _ _))
 generalize World.drew _ = w2 at EN VV KK RR HB0 hHeld ⊢
 refine take_ (i := 0) (N := some 10) (v := ?_) (a' := ?_) (bm 4 1) rfl rfl (take_ofW HT_.out HW_.out (by kernel_rfl)) (fun _ _ _ h => h) (Or.inl ⟨by rfl, ?_⟩) hHeld ?_ ?_
 rotate_left
 ·rintro w' ⟨s0, s1, s2, s3⟩
  go_simp
  with_reducible rfl
 rotate_left
 ·simp only [Act.put, pp_]
  rfl
 refine take_ (i := 1) (N := some 11) (v := ?_) (a' := ?_) (bm 4 3) rfl rfl (take_ofW HT_.out HW_.out (by kernel_rfl)) (fun _ _ _ h => h) (Or.inl ⟨by rfl, ?_⟩) hHeld ?_ ?_
 rotate_left
 ·rintro w' ⟨s0, s1, s2, s3⟩
  go_simp
  with_reducible rfl
 rotate_left
 ·simp only [Act.put, pp_]
  rfl
 refine one_ (i := 2) (N := some 12) (bm 4 7) rfl rfl (one_of HT_.out (by kernel_rfl)) (by decide) (fun K hK => ?_)
 refine goes_ Tryd.func42 (by kernel_rfl) rfl #[.agg #[.int .i64 a4, .bool a3, .slice A6 l6.length c6]] (by rfl) rfl rfl (by (try simp only [List.map_toArray, List.map_cons, List.map_nil]); first | done | rfl) ?_
 with_reducible refine (impl_Row_taken.calls k a4 a3 _ _ l6 tk _ (Kd.C_below hr6 HB0.out) hc6 A1.out).mono ?_
 rintro e w3 ⟨rfl, hb⟩
 refine ⟨_, rfl, ?_⟩
 obtain ⟨EN, VV, KK, RR, HB0⟩ := plstep V EN VV KK RR HB0 hb
 clear hb
 refine hK.out _ _ ⟨(EN.out.cells).2.2.2.2.2.2, (EN.out.cells).2.2.1, (EN.out.cells).2.2.2.1, (EN.out.cells).2.2.2.2.1⟩ (fun hHeld => ?_)
 clear hK K
 refine norm_ (a' := ?_) ?_ ?_
 rotate_left
 ·show Act.put _ (some 12) _ = _
  simp only [Act.put, pp_]
  rfl
 refine last_ (i := 3) (N := some 13) (bm 4 15) rfl rfl (one_of HT_.out (by kernel_rfl)) (by decide) (fun K hK => ?_)
 refine goesD_ (cap := #[.pointer (some ⟨e2, 0, none⟩), .pointer (some ⟨e3, 0, none⟩), .pointer (some ⟨e4, 0, none⟩), .pointer (some ⟨e5, 0, none⟩), .pointer (some ⟨e6, 0, none⟩)]) Tryd.func49 (by kernel_rfl) rfl #[.slice none 0 0, .int .u32 tk] #[.slice none 0 0, .int .u32 tk, .pointer (some ⟨e2, 0, none⟩), .pointer (some ⟨e3, 0, none⟩), .pointer (some ⟨e4, 0, none⟩), .pointer (some ⟨e5, 0, none⟩), .pointer (some ⟨e6, 0, none⟩)] rfl (by rfl) rfl rfl (by rfl) (by (try simp only [List.map_toArray, List.map_cons, List.map_nil]); first | done | rfl) ?_
 with_reducible refine (impl_Row_placings_1.calls V hdyn e2 e3 e4 e5 e6 A2 c2 l2 a3 a4 a5 A6 c6 l6 hr2 hr6 hc6 hl2 k _ _ _ _ _ _ _ _ EN.out VV.out FE.out HB0.out RR.out A2_.out).mono ?_
 rintro e w4 ⟨F2, rfl, hV2, hF2, hFE2, hK2, hB2, hR2⟩
 refine ⟨_, rfl, ?_⟩
 have KK2 := am (KK.out.then_ hK2 (fun k_ hk_ => hk_.elim .inl (fun h_ => by simp [Value.ownBlock] at h_)))
 have FW := am (fun k_ hk_ => (hF2 k_ hk_).imp id (fun h_ => Nat.le_trans KK.out.1 h_))
 have V2 := am hV2
 have HB2 := am hB2
 clear EN VV KK RR HB0
 refine hK.out _ _ ?_
 clear hK K
 refine norm_ (a' := ?_) ?_ ?_
 rotate_left
 ·show Act.put _ (some 13) _ = _
  simp only [Act.put, pp_]
  rfl
 refine done_ (done_of HT_.out (by kernel_rfl)) ?_

 try go_wp2
 go_end0
 exact ⟨F2, rfl, V2.out, FW.out, KK2.out, HB2.out⟩


/-! ### impl_CountPlacings_1: function 33 -/
/-- The visitor that counts. -/
def visCount (_ : List Int) (c : Int) : Bool × Int := (true, wrap64 (c + 1))
def VICount (g : Nat) (w : World) (F : Nat → Prop) (c : Int) : Prop := F = (fun k => k = g) ∧ w.heap[g]? = some (.cells #[.int .i64 c] 3 (0, 0))
theorem impl_CountPlacings_1.calls (g : Nat) (c : Int) (v : Value) (w : World) (hb : w.heap[g]? = some (.cells #[.int .i64 c] 3 (0, 0))) :
  Calls Tryd.prog 33 #[v, .pointer (some ⟨g, 0, none⟩)] w fun e w' => e = .returned (.bool true) ∧ w' = w.setCell ⟨g, 0, none⟩ (.int .i64 (wrap64 (c + 1))) := by
 have q_ : w.cell? ⟨g, 0, none⟩ = some (.int .i64 c) := (blk_cell hb 0).trans rfl
 have f_ := blk_frozen hb 0
 clear hb
 go_enter Tryd.func33, Tryd.ntmps33
 go_wp2
 go_ret
 exact ⟨rfl, by first | rfl | simp [i64_w]⟩
theorem impl_CountPlacings_1.vis (w0 : World) (g : Nat) (hg : w0.heap.size ≤ g) : Vis 33 #[.pointer (some ⟨g, 0, none⟩)] w0 (VICount g) visCount where
 frame := fun h hk => by obtain ⟨rfl, h⟩ := h; exact ⟨rfl, (hk g rfl).trans h⟩
 lt := fun h k hk => by obtain ⟨rfl, h⟩ := h; subst hk; exact blk_lt h
 call := fun {w F s v l} h hB _ _ _ => by
  obtain ⟨rfl, h⟩ := h
  refine (impl_CountPlacings_1.calls g s v w h).mono ?_
  rintro e w' ⟨rfl, rfl⟩
  exact ⟨_, rfl, ⟨rfl, blk_set h 0 _⟩, fun k hk => .inl hk, Kept.setCell (S := fun k => k = g) (Kept.refl w _) (p := ⟨g, 0, none⟩) (.inl rfl) _, below_set hB hg⟩


/-! ### impl_CountPlacings: function 12 -/
def impl_CountPlacings.f (k : Nat) (a0_0 : Int) (a0_1 : Bool) (l0_2 l1 : List Int) (a2 : Int) : Option (Int × Bool) := (impl_isGrouped.f k a0_0 a0_1 l0_2 l1 a2).bind fun t => if t = true then (if 1 ≤ l1.length ∧ l1.length ≤ 1000 then (impl_Row_placings.f visCount k a0_0 a0_1 l0_2 l1 a2 0).bind fun o => some (o.2, true) else none) else some (0, false)
set_option maxHeartbeats 8000000 in
set_option maxRecDepth 100000 in
theorem impl_CountPlacings.calls (k : Nat) (a0_0 : Int) (a0_1 : Bool) (A0_2 : Option Addr) (c0_2 : Nat) (l0_2 : List Int) (A1 : Option Addr) (c1 : Nat) (l1 : List Int) (a2 : Int) (r1 : Int) (r2 : Bool) (w : World) (hr0_2 : Kd.C (Kd.int .i64) w A0_2 l0_2.length l0_2) (hc0_2 : l0_2.length ≤ c0_2) (hr1 : Kd.C (Kd.int .i64) w A1 l1.length l1) (hc1 : l1.length ≤ c1) (h : impl_CountPlacings.f k a0_0 a0_1 l0_2 l1 a2 = some (r1, r2)) :
  Calls Tryd.prog 12 #[.agg #[.int .i64 a0_0, .bool a0_1, .slice A0_2 l0_2.length c0_2], .slice A1 l1.length c1, .int .i64 a2] w fun e w' => e = .returned (.tuple #[.int .i64 r1, .bool r2]) ∧ Below w.heap.size w w' := by
 have hu28 := Tryd.underlying26
 have hdyn : ∀ (args : Array Value) (w : World), (callFunc 33 args).run Tryd.prog w = .ok (.enter 33 args) w := fun args w => enters_ Tryd.func33 rfl rfl args w
 have hmf : ∀ (fn : Fn) (first cap : Array Value) (w : World), (Instr.makeFunc fn first cap).run Tryd.prog w = .ok (.func fn first cap) w := fun _ _ _ _ => rfl
 have HR := am hr0_2
 have HC := am hc0_2
 have HR1 := am hr1
 have HC1 := am hc1
 clear hr0_2 hc0_2 hr1 hc1
 have HB := am (Below.refl w.heap.size w)
 unfold impl_CountPlacings.f at h
 replace h := Option.bind_eq_some_iff.mp h
 obtain ⟨t, A10, H⟩ := h
 have A1 := am A10
 clear A10
 cases t with
 | false =>
  rw [if_neg (show ¬ (false = true) by decide)] at H
  simp only [Option.some.injEq, Prod.mk.injEq] at H
  obtain ⟨rfl, rfl⟩ := H
  go_enter Tryd.func12, Tryd.ntmps12
  go_wp2_with (first | ((with_reducible refine gate_dst (N := 3) rfl ?_); refine box_event ?hg (N := 3) ?hd (cs := #[.int .i64 a0_0, .bool a0_1, .slice A0_2 l0_2.length c0_2]) (t := 26) ?hr ?_; (case hd => rfl); (case hg => rfl); (case hr => first | (go_simp; done) | (go_simp; rfl)); intro gb hg_ w5 hbox hb; have n0_ := am (below_step HB.out hb); have BK := am hbox; clear HB; have HB := n0_; clear n0_; have q0_ : w5.cell? ⟨gb, 0, none⟩ = some (.int .i64 a0_0) := (blk_cell BK.out 0).trans rfl; have q1_ : w5.cell? ⟨gb, 1, none⟩ = some (.bool a0_1) := (blk_cell BK.out 1).trans rfl; have q2_ : w5.cell? ⟨gb, 2, none⟩ = some (.slice A0_2 l0_2.length c0_2) := (blk_cell BK.out 2).trans rfl; clear hbox hb hg_) | (go_at_call 22; (with_reducible refine (impl_isGrouped.calls k a0_0 a0_1 _ _ l0_2 _ _ l1 a2 false _ (Kd.C_below HR.out HB.out) HC.out (Kd.C_below HR1.out HB.out) HC1.out A1.out).mono ?_); rintro e w7 ⟨rfl, hb⟩; replace HB := am (below_step HB.out hb); replace BK := am (blk_below BK.out hb); clear q0_ q1_ q2_ hb))
  go_ret2
  exact ⟨rfl, HB.out⟩
 | true =>
  rw [if_pos rfl] at H
  by_cases hl : 1 ≤ l1.length ∧ l1.length ≤ 1000
  ·rw [if_pos hl] at H
   replace H := Option.bind_eq_some_iff.mp H
   obtain ⟨⟨o1, o2⟩, A20, H⟩ := H
   simp only [Option.some.injEq, Prod.mk.injEq] at H
   obtain ⟨rfl, rfl⟩ := H
   have A2 := am A20
   have HL := am hl
   clear A20 hl
   go_enter Tryd.func12, Tryd.ntmps12
   go_wp2_with (first | ((with_reducible refine gate_dst (N := 3) rfl ?_); refine box_event ?hg (N := 3) ?hd (cs := #[.int .i64 a0_0, .bool a0_1, .slice A0_2 l0_2.length c0_2]) (t := 26) ?hr ?_; (case hd => rfl); (case hg => rfl); (case hr => first | (go_simp; done) | (go_simp; rfl)); intro gb hg_ w5 hbox hb; have n0_ := am (below_step HB.out hb); have BK := am hbox; clear HB; have HB := n0_; clear n0_; have q0_ : w5.cell? ⟨gb, 0, none⟩ = some (.int .i64 a0_0) := (blk_cell BK.out 0).trans rfl; have q1_ : w5.cell? ⟨gb, 1, none⟩ = some (.bool a0_1) := (blk_cell BK.out 1).trans rfl; have q2_ : w5.cell? ⟨gb, 2, none⟩ = some (.slice A0_2 l0_2.length c0_2) := (blk_cell BK.out 2).trans rfl; clear hbox hb hg_) | (go_at_call 22; (with_reducible refine (impl_isGrouped.calls k a0_0 a0_1 _ _ l0_2 _ _ l1 a2 true _ (Kd.C_below HR.out HB.out) HC.out (Kd.C_below HR1.out HB.out) HC1.out A1.out).mono ?_); rintro e w7 ⟨rfl, hb⟩; replace HB := am (below_step HB.out hb); replace BK := am (blk_below BK.out hb); clear q0_ q1_ q2_ hb) | ((with_reducible refine gate_dst (N := 8) rfl ?_); refine box_event ?hg (N := 8) ?hd (cs := #[.int .i64 0]) (t := 3) ?hr ?_; (case hd => rfl); (case hg => rfl); (case hr => first | (go_simp; done) | (go_simp; rfl)); intro gc hg_ w8 hbox hb; have GC := am (show w.heap.size ≤ gc by rw [hg_]; exact below_size HB.out); have n0_ := am (below_step HB.out hb); have n1_ := am (blk_below BK.out hb); have BC := am hbox; have NE_ := am (show gb ≠ gc by have h_ := blk_lt BK.out; omega); clear HB BK; have HB := n0_; have BK := n1_; clear n0_ n1_ hbox hb hg_; have c8_ := (blk_cell BC.out 0).trans rfl; have f8_ := blk_frozen BC.out 0) | ((with_reducible refine gate_store (t := 3) (p := 8) rfl ?_); refine store_event (t := 3) (p := 8) (v := ?vo_) (w1 := w8.setCell ⟨gc, 0, none⟩ (.int .i64 0)) ?hg ?ho ?hn ?hr ?_; (case ho => rfl); (case hg => rfl); (case hn => rfl); (case hr => first | (go_simp; done) | (go_simp; rfl)); intro w9 hw; replace HB := am (show Below w.heap.size w w9 by rw [hw]; exact below_set HB.out GC.out); replace BK := am (show w9.heap[gb]? = some (.cells #[.int .i64 a0_0, .bool a0_1, .slice A0_2 l0_2.length c0_2] 26 (0, 0)) by rw [hw]; exact blk_far BK.out NE_.out _); replace BC := am (show w9.heap[gc]? = some (.cells #[.int .i64 0] 3 (0, 0)) by rw [hw]; exact blk_set BC.out 0 _); clear c8_ f8_ hw; have q0_ : w9.cell? ⟨gb, 0, none⟩ = some (.int .i64 a0_0) := (blk_cell BK.out 0).trans rfl; have q1_ : w9.cell? ⟨gb, 1, none⟩ = some (.bool a0_1) := (blk_cell BK.out 1).trans rfl; have q2_ : w9.cell? ⟨gb, 2, none⟩ = some (.slice A0_2 l0_2.length c0_2) := (blk_cell BK.out 2).trans rfl) | (go_at_call 32; (refine (impl_Row_placings.calls (impl_CountPlacings_1.vis w gc GC.out) hdyn k a0_0 a0_1 A0_2 c0_2 l0_2 _ _ l1 a2 0 o1 o2 _ (fun k_ => k_ = gc) HR1.out HR.out HC.out HL.out ⟨rfl, BC.out⟩ HB.out A2.out).mono ?_); rintro e w10 ⟨F2, rfl, hV2, hF2, hK2, hB2⟩; have BC2 := am hV2.2; clear HB BK BC q0_ q1_ q2_ hV2 hF2 hK2; have HB := am hB2; clear hB2; have c10_ : w10.cell? ⟨gc, 0, none⟩ = some (.int .i64 o2) := (blk_cell BC2.out 0).trans rfl))
   go_ret2
   exact ⟨rfl, HB.out⟩
  ·rw [if_neg hl] at H
   exact absurd H (by simp)


/-! ### spec_CountPlacings: function 13 -/
def spec_CountPlacings.f (k : Nat) (a0_0 : Int) (a0_1 : Bool) (l0_2 : List Int) (l1 : List Int) (a2 : Int) : Option (Int × Bool) := (spec_l9Groups.f k a0_0 a0_1 l0_2 l1 a2).bind fun t639 => (if t639 = true then ((spec_l9Place.f k a0_0 a0_1 l0_2 l1 a2 (([] : List Int)) false (([] : List Int)) 0).bind fun bt646 => (some (bt646.2, true))) else (some (0, false)))
set_option maxHeartbeats 8000000 in
set_option maxRecDepth 100000 in
theorem spec_CountPlacings.calls (k : Nat) (a0_0 : Int) (a0_1 : Bool) (A0_2 : Option Addr) (c0_2 : Nat) (l0_2 : List Int) (A1 : Option Addr) (c1 : Nat) (l1 : List Int) (a2 : Int) (r1 : Int) (r2 : Bool) (w : World) (hr0_2 : Kd.C (Kd.int .i64) w A0_2 l0_2.length l0_2) (hc0_2 : l0_2.length ≤ c0_2) (hr1 : Kd.C (Kd.int .i64) w A1 l1.length l1) (hc1 : l1.length ≤ c1) (h : spec_CountPlacings.f k a0_0 a0_1 l0_2 l1 a2 = some (r1, r2)) :
  Calls Tryd.prog 13 #[.agg #[.int .i64 a0_0, .bool a0_1, .slice A0_2 l0_2.length c0_2], .slice A1 l1.length c1, .int .i64 a2] w fun e w' => e = .returned (.tuple #[.int .i64 r1, .bool r2]) ∧ Below w.heap.size w w' := by
 have hu26 := Tryd.underlying26
 have hu60 := Tryd.underlying60
 have hfd60_1 : ∀ (x0_ x1_ : Value) (W : World), (Instr.field 60 (.agg #[x0_, x1_]) 1).run Tryd.prog W = .ok x1_ W := fun x0_ x1_ W => by rfl
 have HR0_2 := am hr0_2
 have HC0_2 := am hc0_2
 clear hr0_2 hc0_2
 have HR1 := am hr1
 have HC1 := am hc1
 clear hr1 hc1
 have HB := am (Below.refl w.heap.size w)
 have H : ((spec_l9Groups.f k a0_0 a0_1 l0_2 l1 a2).bind fun t639 => (if t639 = true then ((spec_l9Place.f k a0_0 a0_1 l0_2 l1 a2 (([] : List Int)) false (([] : List Int)) 0).bind fun bt646 => (some (bt646.2, true))) else (some (0, false)))) = some (r1, r2) := h
 clear h
 replace H := Option.bind_eq_some_iff.mp H
 obtain ⟨t639, A40, H⟩ := H
 try dsimp only at H
 have A4 := am A40
 clear A40
 by_cases c5 : t639 = true
 ·subst c5
  rw [if_pos rfl] at H
  obtain ⟨y640, hy640⟩ : ∃ y_ : List Int, y_ = (([] : List Int)) := ⟨_, rfl⟩
  replace H : ((spec_l9Place.f k a0_0 a0_1 l0_2 l1 a2 y640 false (([] : List Int)) 0).bind fun bt646 => (some (bt646.2, true))) = some (r1, r2) := by first | (rw [hy640]; with_reducible exact H) | (have H2_ := (Option.bind_some _ _).symm.trans H; rw [hy640]; with_reducible exact H2_) | (have H2_ := (Option.bind_some _ _).symm.trans H; with_reducible exact H2_) | with_reducible exact H | (rw [hy640]; exact H) | exact H
  have Ny640 := am hy640
  clear hy640
  obtain ⟨y643, hy643⟩ : ∃ y_ : List Int, y_ = (([] : List Int)) := ⟨_, rfl⟩
  replace H : ((spec_l9Place.f k a0_0 a0_1 l0_2 l1 a2 y640 false y643 0).bind fun bt646 => (some (bt646.2, true))) = some (r1, r2) := by first | (rw [hy643]; with_reducible exact H) | (have H2_ := (Option.bind_some _ _).symm.trans H; rw [hy643]; with_reducible exact H2_) | (have H2_ := (Option.bind_some _ _).symm.trans H; with_reducible exact H2_) | with_reducible exact H | (rw [hy643]; exact H) | exact H
  have Ny643 := am hy643
  clear hy643
  replace H := Option.bind_eq_some_iff.mp H
  obtain ⟨⟨t646, t649⟩, A60, H⟩ := H
  try dsimp only at H
  have A6 := am A60
  clear A60
  simp only [Option.some.injEq, Prod.mk.injEq] at H
  obtain ⟨rfl, rfl⟩ := H
  go_enter Tryd.func13, Tryd.ntmps13
  go_wp2_with (first | ((with_reducible refine gate_dst (N := 3) rfl ?_); refine box_event ?hg (N := 3) ?hd (cs := #[.int .i64 a0_0, .bool a0_1, .slice A0_2 l0_2.length c0_2]) (t := 26) ?hr ?_; (case hd => rfl); (case hg => rfl); (case hr => first | (go_simp; done) | (go_simp; rfl)); intro gb638 hg w7 hbox hb; have BK638 := am (hbox); have GW638 := am ((by rw [hg]; exact (below_size (pkB HB)) : w.heap.size ≤ gb638)); have GE638 := am ((by rw [hg]; exact (below_size (pkB HB)) : w.heap.size ≤ gb638)); replace HB := am (below_step (pkB HB) hb); clear hb hbox hg; obtain ⟨hcz8_0, hcz8_1, hcz8_2⟩ := bc3 BK638.out; obtain ⟨hfz8_0, hfz8_1, hfz8_2⟩ := bf3 BK638.out) | (go_at_call 26; (with_reducible refine (spec_l9Groups.calls k a0_0 a0_1 _ _ l0_2 _ _ l1 a2 true _ ?side1 ?side2 ?side3 ?side4 A4.out).mono ?_); (case side1 => repeat (first | exact (Kd.C_below HR0_2.out HB.out) | (with_reducible refine Kd.C_alloc ?_ _) | (with_reducible refine Kd.C_drewN ?_ _) | (with_reducible refine Kd.C_drew ?_))); (case side2 => exact HC0_2.out); (case side3 => repeat (first | exact (Kd.C_below HR1.out HB.out) | (with_reducible refine Kd.C_alloc ?_ _) | (with_reducible refine Kd.C_drewN ?_ _) | (with_reducible refine Kd.C_drew ?_))); (case side4 => exact HC1.out); rintro e w9 ⟨rfl, hb⟩; replace BK638 := am (blk_below (pkC BK638) hb); replace HB := am (below_step (pkB HB) hb); (try clear hb); (try clear hb2); (try clear hk); (try clear hi); obtain ⟨hcz10_0, hcz10_1, hcz10_2⟩ := bc3 BK638.out; obtain ⟨hfz10_0, hfz10_1, hfz10_2⟩ := bf3 BK638.out) | ((with_reducible refine gate_dst (N := 16) rfl ?_); refine Kd.R_lit (Kd.int .i64) _ 3 ?hg (N := 16) ?hd (xs := ([] : List Int)) (inner := []) (ok := fun _ => True) (okp := fun _ => True) ?hr ?hp (fun _ hk => hk) trivial (Below.refl _ _) (Nat.le_refl _) (by simp) ?_; (case hd => rfl); (case hg => rfl); (case hr => first | (go_simp; done) | (go_simp; rfl)); (case hp => exact (Reps.none _ _)); intro v641 w11 ho12 hb hg_ hnew_; clear hg_ hnew_; (first | rw [← Ny640.out] at ho12 | (simp only [Int.reduceToNat] at ho12; rw [← Ny640.out] at ho12)); have HO642 := am (Kd.R_lower ho12 (below_size (pkB HB))); replace BK638 := am (blk_below (pkC BK638) hb); replace HB := am (below_step (pkB HB) hb); clear hb ho12) | ((with_reducible refine gate_dst (N := 17) rfl ?_); refine Kd.R_lit (Kd.int .i64) _ 3 ?hg (N := 17) ?hd (xs := ([] : List Int)) (inner := []) (ok := fun _ => True) (okp := fun _ => True) ?hr ?hp (fun _ hk => hk) trivial (Below.refl _ _) (Nat.le_refl _) (by simp) ?_; (case hd => rfl); (case hg => rfl); (case hr => first | (go_simp; done) | (go_simp; rfl)); (case hp => exact (Reps.none _ _)); intro v644 w13 ho14 hb hg_ hnew_; clear hg_ hnew_; (first | rw [← Ny643.out] at ho14 | (simp only [Int.reduceToNat] at ho14; rw [← Ny643.out] at ho14)); have HO645 := am (Kd.R_lower (Kd.R_new' ho14 (Kd.R_lt (pk HO642))) (below_size (pkB HB))); replace HO642 := am (Kd.R_elder' (pk HO642) (Kd.R_base ho14) hb); replace BK638 := am (blk_below (pkC BK638) hb); replace HB := am (below_step (pkB HB) hb); clear hb ho14; obtain ⟨Ao15, co15, eo15⟩ := Kd.R_slice HO645.out; subst eo15; obtain ⟨Ao16, co16, eo16⟩ := Kd.R_slice HO642.out; subst eo16) | (go_at_call 34; (with_reducible refine (spec_l9Place.calls k a0_0 a0_1 _ _ l0_2 _ _ l1 a2 (fun k_ => some k_ = (.slice Ao16 y640.length co16 : Value).ownBlock) (.slice Ao16 y640.length co16) y640 false (fun k_ => some k_ = (.slice Ao15 y643.length co15 : Value).ownBlock) _ _ y643 0 t646 t649 w _ ?side1 ?side2 ?side3 ?side4 ?side5 ?side6 ?side7 A6.out).mono ?_); (case side1 => exact pkB HB); (case side2 => exact Kd.C_kept_came (Kd.heap_int .i64) HR0_2.out (pkB HB) (fun k_ hs_ => (fun e_ => Kd.R_base HO642.out k_ e_.symm) hs_)); (case side3 => exact HC0_2.out); (case side4 => exact Kd.C_kept_came (Kd.heap_int .i64) HR1.out (pkB HB) (fun k_ hs_ => (fun e_ => Kd.R_base HO642.out k_ e_.symm) hs_)); (case side5 => exact HC1.out); (case side6 => exact Kd.R_tight rfl HO642.out); (case side7 => exact Kd.V_mono (Kd.R_V (Kd.R_tight rfl (Kd.R_types (HO645.out) BK638.out (by decide)))) (fun k_ hk_ => ⟨hk_, ((Kd.R_types (HO645.out) BK638.out (by decide)).1 k_ hk_.symm).1.2⟩)); rintro e w17 ⟨v647, rfl, ho0, hb, hkp⟩; have HO648 := am (Kd.V_mono (ok' := fun k_ => k_ ≠ gb638) ho0 (fun k_ hk_ => Or.elim hk_ (fun hs_ => Or.elim hs_ (fun hs_ => fun e_ => (Kd.R_ne HO642.out BK638.out (by decide)) (by rw [← e_]; exact hs_)) (fun hs_ => ((Kd.R_types (HO645.out) BK638.out (by decide)).1 k_ hs_.symm).2)) (fun hn_ => (Kd.freshB (pkC BK638) k_ hn_)))); replace BK638 := am (blk_kept (pkC BK638) hkp (fun hs_ => (fun e_ => (Kd.R_ne HO642.out BK638.out (by decide)) e_) hs_)); replace HO645 := am (Kd.R_mono (ok' := fun k_ => True) (Kd.R_keptB (HO645.out) hkp (fun k_ hk_ hs_ => (hk_.2) hs_)) (fun k_ hk_ => trivial)); replace HB := am (hb); clear HO642; (try clear hb); (try clear hkp); (try clear ho0)))
  go_ret2
  exact ⟨by first | rfl | (simp [*]; done), pkB HB⟩
 ·replace c5 := Bool.eq_false_iff.mpr c5
  subst c5
  rw [if_neg (show ¬ (false = true) by decide)] at H
  simp only [Option.some.injEq, Prod.mk.injEq] at H
  obtain ⟨rfl, rfl⟩ := H
  go_enter Tryd.func13, Tryd.ntmps13
  go_wp2_with (first | ((with_reducible refine gate_dst (N := 3) rfl ?_); refine box_event ?hg (N := 3) ?hd (cs := #[.int .i64 a0_0, .bool a0_1, .slice A0_2 l0_2.length c0_2]) (t := 26) ?hr ?_; (case hd => rfl); (case hg => rfl); (case hr => first | (go_simp; done) | (go_simp; rfl)); intro gb638 hg w18 hbox hb; have BK638 := am (hbox); have GW638 := am ((by rw [hg]; exact (below_size (pkB HB)) : w.heap.size ≤ gb638)); have GE638 := am ((by rw [hg]; exact (below_size (pkB HB)) : w.heap.size ≤ gb638)); replace HB := am (below_step (pkB HB) hb); clear hb hbox hg; obtain ⟨hcz19_0, hcz19_1, hcz19_2⟩ := bc3 BK638.out; obtain ⟨hfz19_0, hfz19_1, hfz19_2⟩ := bf3 BK638.out) | (go_at_call 26; (with_reducible refine (spec_l9Groups.calls k a0_0 a0_1 _ _ l0_2 _ _ l1 a2 false _ ?side1 ?side2 ?side3 ?side4 A4.out).mono ?_); (case side1 => repeat (first | exact (Kd.C_below HR0_2.out HB.out) | (with_reducible refine Kd.C_alloc ?_ _) | (with_reducible refine Kd.C_drewN ?_ _) | (with_reducible refine Kd.C_drew ?_))); (case side2 => exact HC0_2.out); (case side3 => repeat (first | exact (Kd.C_below HR1.out HB.out) | (with_reducible refine Kd.C_alloc ?_ _) | (with_reducible refine Kd.C_drewN ?_ _) | (with_reducible refine Kd.C_drew ?_))); (case side4 => exact HC1.out); rintro e w20 ⟨rfl, hb⟩; replace BK638 := am (blk_below (pkC BK638) hb); replace HB := am (below_step (pkB HB) hb); (try clear hb); (try clear hb2); (try clear hk); (try clear hi)))
  go_ret2
  exact ⟨by first | rfl | (simp [*]; done), pkB HB⟩

/-! ### slices_Clone_int_int: function 36 -/
def slices_Clone_int_int.f (l0 : List Int) : Option (List Int) := if l0.length < 17592186044416 then some l0 else none
theorem slices_Clone_int_int.eql (a : Option Addr) (l c : Nat) (w : World) : (binOp .eql 24 (.slice a l c) (.slice none 0 0)).run Tryd.prog w = .ok (.bool a.isNone) w := by
 simp only [binOp]
 simp [run_equal_slice_nil w _ _ a l c Tryd.underlying24]
set_option maxHeartbeats 8000000 in
set_option maxRecDepth 100000 in
theorem slices_Clone_int_int.calls (A0 : Option Addr) (c0 : Nat) (l0 : List Int) (r : List Int) (w : World) (hr0 : Kd.C (Kd.int .i64) w A0 l0.length l0) (hc0 : l0.length ≤ c0) (h : slices_Clone_int_int.f l0 = some r) :
  Calls Tryd.prog 36 #[.slice A0 l0.length c0] w fun e w' => ∃ v0_ : Value, e = .returned (v0_) ∧ Kd.R (Kd.int .i64) 3 w' w.heap.size (fun _ => True) v0_ r ∧ Below w.heap.size w w' := by
 unfold slices_Clone_int_int.f at h
 by_cases c2 : l0.length < 17592186044416
 ·rw [if_pos c2] at h
  have LMc2 := am c2
  clear c2
  obtain rfl := Option.some.inj h
  clear h
  cases A0 with
  | none =>
   have e0 : l0 = [] := by
    cases l0 with
    | nil => rfl
    | cons x l =>
     obtain ⟨ad, e, _⟩ := hr0.2.2 (by simp)
     cases e
   subst e0
   have heq := fun (a : Option Addr) (l c : Nat) (w : World) => slices_Clone_int_int.eql a l c w
   go_enter Tryd.func36, Tryd.ntmps36
   go_wp2
   go_ret
   exact ⟨_, rfl, Kd.R_nil _ _ _ _ _, Below.refl _ _⟩
  | some ad =>
   have HR0 := am hr0
   have HC0 := am hc0
   clear hr0 hc0
   have HB := am (Below.refl w.heap.size w)
   obtain ⟨y157, hy157⟩ : ∃ y_ : List Int, y_ = (([] : List Int)) := ⟨_, rfl⟩
   have Ny157 := am hy157
   have LMc3 := am (show y157.length + l0.length < 17592186044416 by have := LMc2.out; rw [hy157, List.length_nil]; omega)
   have Ny160 := am (show l0 = y157 ++ l0 by rw [hy157, List.nil_append])
   clear hy157
   have heq := fun (a : Option Addr) (l c : Nat) (w : World) => slices_Clone_int_int.eql a l c w
   go_enter Tryd.func36, Tryd.ntmps36
   go_wp2_with (first | ((with_reducible refine gate_dst (N := 5) rfl ?_); refine Kd.R_lit (Kd.int .i64) _ 3 ?hg (N := 5) ?hd (xs := ([] : List Int)) (inner := []) (ok := fun _ => True) (okp := fun _ => True) ?hr ?hp (fun _ hk => hk) trivial (Below.refl _ _) (Nat.le_refl _) (by simp) ?_; (case hd => rfl); (case hg => rfl); (case hr => first | (go_simp; done) | (go_simp; rfl)); (case hp => exact (Reps.none _ _)); intro v158 w3 ho4 hb hg_ hnew_; clear hg_ hnew_; (first | rw [← Ny157.out] at ho4 | (simp only [Int.reduceToNat] at ho4; rw [← Ny157.out] at ho4)); have HO159 := am (Kd.R_lower ho4 (below_size (pkB HB))); replace HB := am (below_step (pkB HB) hb); clear hb ho4) | ((with_reducible refine gate_builtin (b := .append) (xs := #[.tmp 5, .tmp 6]) rfl ?_); at_builtin; refine Kd.R_append_rows (Kd.int .i64) (w0 := w) w.heap.size rfl (.tmp 5) (.tmp 6) 24 3 (.int .i64 0) 8 rfl Tryd.underlying24 info3 rfl (by decide) (by omega) v158 y157 l0 _ _ _ (fun _ => True) (fun _ => False) rfl rfl ?aO ?aR (fun _ _ h => h) (fun _ h => h.elim) ?aF ?aB ?aS ?aL ?_; (case aR => repeat (first | exact (Kd.C_below HR0.out HB.out) | (with_reducible refine Kd.C_alloc ?_ _) | (with_reducible refine Kd.C_drewN ?_ _) | (with_reducible refine Kd.C_drew ?_))); (case aB => exact (pkB HB)); (case aF => exact (fun _ _ => trivial)); (case aO => exact (pk HO159)); (case aS => exact (below_size (pkB HB))); (case aL => have := LMc3.out; omega); intro v161 w5 ho hb hg hat; rw [← Ny160.out] at ho; have HO162 := am (ho); replace HB := am (hb); clear HO159 ho hb hg hat))
   go_ret
   exact ⟨_, by first | rfl | (simp [*]; done), by (with_reducible repeat (first | apply Kd.R_alloc | apply Kd.R_drewN | apply Kd.R_drew)); exact HO162.out, pkB HB⟩
 ·rw [if_neg c2] at h
  exact absurd h (by simp)


/-! ### impl_FirstPlacing_1: function 35 -/
/-- The visitor that keeps the first list. -/
def visFirst (l : List Int) (_ : List Int) : Bool × List Int := (false, l)
def VIFirst (g : Nat) (w0 : World) (w : World) (F : Nat → Prop) (l : List Int) : Prop :=
 ∃ v : Value, F = (fun k => k = g ∨ some k = v.ownBlock) ∧ w.heap[g]? = some (.cells #[v] 24 (0, 0)) ∧ Kd.R (Kd.int .i64) 3 w w0.heap.size (fun k => some k = v.ownBlock) v l ∧ (l = [] → v = .slice none 0 0)
set_option maxHeartbeats 8000000 in
theorem impl_FirstPlacing_1.calls (g : Nat) (A : Option Addr) (c : Nat) (l : List Int) (u : Value) (w : World) (hb : w.heap[g]? = some (.cells #[u] 24 (0, 0))) (hC : Kd.C (Kd.int .i64) w A l.length l) (hc : l.length ≤ c) (hl : l.length ≤ 1000) :
  Calls Tryd.prog 35 #[.slice A l.length c, .pointer (some ⟨g, 0, none⟩)] w fun e w' => ∃ (v' : Value) (w2 : World), e = .returned (.bool false) ∧ Kd.R (Kd.int .i64) 3 w2 w.heap.size (fun _ => True) v' l ∧ Below w.heap.size w w2 ∧ w' = w2.setCell ⟨g, 0, none⟩ v' := by
 have BK := am hb
 have HC := am hC
 have HL := am hc
 have HF := am (show slices_Clone_int_int.f l = some l by unfold slices_Clone_int_int.f; rw [if_pos (by omega)])
 clear hb hC hc hl
 go_enter Tryd.func35, Tryd.ntmps35
 go_wp2_with (go_at_call 36; (with_reducible refine (slices_Clone_int_int.calls _ _ l l _ HC.out HL.out HF.out).mono ?_); rintro e w2 ⟨v', rfl, hR, hb⟩; obtain ⟨A', c', rfl⟩ := Kd.R_slice hR; have q_ : w2.cell? ⟨g, 0, none⟩ = some u := (blk_cell (blk_below BK.out hb) 0).trans rfl; have f_ := blk_frozen (blk_below BK.out hb) 0; have RV := am hR; have HB := am hb; clear hR hb)
 go_ret
 exact ⟨_, _, rfl, RV.out, HB.out, rfl⟩
theorem impl_FirstPlacing_1.vis (w0 : World) (g : Nat) (hg : w0.heap.size ≤ g) : Vis 35 #[.pointer (some ⟨g, 0, none⟩)] w0 (VIFirst g w0) visFirst where
 frame := fun h hk => by
  obtain ⟨v, rfl, hb, hR, hn⟩ := h
  exact ⟨v, rfl, (hk g (.inl rfl)).trans hb, Kd.R_move hR (fun k h_ => hk k (.inr h_)), hn⟩
 lt := fun h k hk => by
  obtain ⟨v, rfl, hb, hR, hn⟩ := h
  rcases hk with rfl | hk
  ·exact blk_lt hb
  ·exact Kd.R_lt hR k hk.symm
 call := fun {w F s v l} h hB ho h0 hl => by
  obtain ⟨u, rfl, hb, hR, hn⟩ := h
  obtain ⟨A, c, rfl⟩ := Kd.R_slice ho
  refine (impl_FirstPlacing_1.calls g A c l u w hb (Kd.R_reads' ho).2.2 (Kd.R_reads' ho).2.1 hl).mono ?_
  rintro e w' ⟨v', w2, rfl, hR', hB', rfl⟩
  have hgl := blk_lt hb
  have hge : ∀ k, v'.ownBlock = some k → w.heap.size ≤ k := Kd.R_base hR'
  refine ⟨_, rfl, ⟨v', rfl, blk_set (blk_below hb hB') 0 _, Kd.R_far (Kd.R_lower (Kd.R_tight rfl hR') hB.size) (fun k hk => by have := hge k hk.symm; show k ≠ g; omega) _, fun h_ => by subst h_; simp at h0⟩, fun k hk => hk.elim (fun h_ => .inl (.inl h_)) (fun h_ => .inr (hge k h_.symm)), Kept.setCell (S := fun k => k = g ∨ some k = u.ownBlock) (Kept.of_below hB' _) (p := ⟨g, 0, none⟩) (.inl (.inl rfl)) _, below_set (below_step hB hB') hg⟩


/-! ### impl_FirstPlacing: function 14 -/
def impl_FirstPlacing.f (k : Nat) (a0_0 : Int) (a0_1 : Bool) (l0_2 l1 : List Int) (a2 : Int) : Option (List Int × Bool) := (impl_isGrouped.f k a0_0 a0_1 l0_2 l1 a2).bind fun t => if t = true then (if 1 ≤ l1.length ∧ l1.length ≤ 1000 then (impl_Row_placings.f visFirst k a0_0 a0_1 l0_2 l1 a2 []).bind fun o => some (o.2, !o.2.isEmpty) else none) else some ([], false)
def impl_FirstPlacing.T5 : Bool × List (List Nat × List Nat) := (true, [([], []), ([], []), ([1], [1]), ([0, 0], [0]), ([2, 3, 0, 1, 2, 3], [2])])
def impl_FirstPlacing.B5 : List Nat := [0, 0, 2, 1, 15]
theorem impl_FirstPlacing.tab5 : rtab .any (opsOf Tryd.f14 5) = impl_FirstPlacing.T5 := by kernel_rfl
theorem impl_FirstPlacing.bits5 : waitsOk impl_FirstPlacing.T5.2 impl_FirstPlacing.B5 = true := by kernel_rfl
theorem impl_FirstPlacing.neql (a : Option Addr) (l c : Nat) (w : World) : (binOp .neq 24 (.slice a l c) (.slice none 0 0)).run Tryd.prog w = .ok (.bool (!a.isNone)) w := by
 simp only [binOp]
 simp [run_equal_slice_nil w _ _ a l c Tryd.underlying24]
set_option maxHeartbeats 8000000 in
set_option maxRecDepth 100000 in
theorem impl_FirstPlacing.calls (k : Nat) (a0_0 : Int) (a0_1 : Bool) (A0_2 : Option Addr) (c0_2 : Nat) (l0_2 : List Int) (A1 : Option Addr) (c1 : Nat) (l1 : List Int) (a2 : Int) (r1 : List Int) (r2 : Bool) (w : World) (hr0_2 : Kd.C (Kd.int .i64) w A0_2 l0_2.length l0_2) (hc0_2 : l0_2.length ≤ c0_2) (hr1 : Kd.C (Kd.int .i64) w A1 l1.length l1) (hc1 : l1.length ≤ c1) (h : impl_FirstPlacing.f k a0_0 a0_1 l0_2 l1 a2 = some (r1, r2)) :
  Calls Tryd.prog 14 #[.agg #[.int .i64 a0_0, .bool a0_1, .slice A0_2 l0_2.length c0_2], .slice A1 l1.length c1, .int .i64 a2] w fun e w' => ∃ v0_ : Value, e = .returned (.tuple #[v0_, .bool r2]) ∧ Kd.R (Kd.int .i64) 3 w' w.heap.size (fun _ => True) v0_ r1 ∧ Below w.heap.size w w' := by
 have hu28 := Tryd.underlying26
 have hdyn : ∀ (args : Array Value) (w : World), (callFunc 35 args).run Tryd.prog w = .ok (.enter 35 args) w := fun args w => enters_ Tryd.func35 rfl rfl args w
 have hmf : ∀ (fn : Fn) (first cap : Array Value) (w : World), (Instr.makeFunc fn first cap).run Tryd.prog w = .ok (.func fn first cap) w := fun _ _ _ _ => rfl
 have HR := am hr0_2
 have HC := am hc0_2
 have HR1 := am hr1
 have HC1 := am hc1
 clear hr0_2 hc0_2 hr1 hc1
 have HB := am (Below.refl w.heap.size w)
 unfold impl_FirstPlacing.f at h
 replace h := Option.bind_eq_some_iff.mp h
 obtain ⟨t, A10, H⟩ := h
 have A1 := am A10
 clear A10
 cases t with
 | false =>
  rw [if_neg (show ¬ (false = true) by decide)] at H
  simp only [Option.some.injEq, Prod.mk.injEq] at H
  obtain ⟨rfl, rfl⟩ := H
  go_enter Tryd.func14, Tryd.ntmps14
  go_wp2_with (first | ((with_reducible refine gate_dst (N := 3) rfl ?_); refine box_event ?hg (N := 3) ?hd (cs := #[.int .i64 a0_0, .bool a0_1, .slice A0_2 l0_2.length c0_2]) (t := 26) ?hr ?_; (case hd => rfl); (case hg => rfl); (case hr => first | (go_simp; done) | (go_simp; rfl)); intro gb hg_ w5 hbox hb; have n0_ := am (below_step HB.out hb); have BK := am hbox; clear HB; have HB := n0_; clear n0_; have q0_ : w5.cell? ⟨gb, 0, none⟩ = some (.int .i64 a0_0) := (blk_cell BK.out 0).trans rfl; have q1_ : w5.cell? ⟨gb, 1, none⟩ = some (.bool a0_1) := (blk_cell BK.out 1).trans rfl; have q2_ : w5.cell? ⟨gb, 2, none⟩ = some (.slice A0_2 l0_2.length c0_2) := (blk_cell BK.out 2).trans rfl; clear hbox hb hg_) | (go_at_call 22; (with_reducible refine (impl_isGrouped.calls k a0_0 a0_1 _ _ l0_2 _ _ l1 a2 false _ (Kd.C_below HR.out HB.out) HC.out (Kd.C_below HR1.out HB.out) HC1.out A1.out).mono ?_); rintro e w7 ⟨rfl, hb⟩; replace HB := am (below_step HB.out hb); replace BK := am (blk_below BK.out hb); clear q0_ q1_ q2_ hb))
  go_ret2
  exact ⟨_, rfl, Kd.R_nil _ _ _ _ _, HB.out⟩
 | true =>
  rw [if_pos rfl] at H
  by_cases hl : 1 ≤ l1.length ∧ l1.length ≤ 1000
  ·rw [if_pos hl] at H
   replace H := Option.bind_eq_some_iff.mp H
   obtain ⟨⟨o1, o2⟩, A20, H⟩ := H
   simp only [Option.some.injEq, Prod.mk.injEq] at H
   obtain ⟨rfl, rfl⟩ := H
   have A2 := am A20
   have HL := am hl
   clear A20 hl
   go_enter Tryd.func14, Tryd.ntmps14
   go_wp2_with (first | ((with_reducible refine gate_dst (N := 3) rfl ?_); refine box_event ?hg (N := 3) ?hd (cs := #[.int .i64 a0_0, .bool a0_1, .slice A0_2 l0_2.length c0_2]) (t := 26) ?hr ?_; (case hd => rfl); (case hg => rfl); (case hr => first | (go_simp; done) | (go_simp; rfl)); intro gb hg_ w5 hbox hb; have n0_ := am (below_step HB.out hb); have BK := am hbox; clear HB; have HB := n0_; clear n0_; have q0_ : w5.cell? ⟨gb, 0, none⟩ = some (.int .i64 a0_0) := (blk_cell BK.out 0).trans rfl; have q1_ : w5.cell? ⟨gb, 1, none⟩ = some (.bool a0_1) := (blk_cell BK.out 1).trans rfl; have q2_ : w5.cell? ⟨gb, 2, none⟩ = some (.slice A0_2 l0_2.length c0_2) := (blk_cell BK.out 2).trans rfl; clear hbox hb hg_) | (go_at_call 22; (with_reducible refine (impl_isGrouped.calls k a0_0 a0_1 _ _ l0_2 _ _ l1 a2 true _ (Kd.C_below HR.out HB.out) HC.out (Kd.C_below HR1.out HB.out) HC1.out A1.out).mono ?_); rintro e w7 ⟨rfl, hb⟩; replace HB := am (below_step HB.out hb); replace BK := am (blk_below BK.out hb); clear q0_ q1_ q2_ hb) | ((with_reducible refine gate_dst (N := 8) rfl ?_); refine box_event ?hg (N := 8) ?hd (cs := #[.slice none 0 0]) (t := 24) ?hr ?_; (case hd => rfl); (case hg => rfl); (case hr => first | (go_simp; done) | (go_simp; rfl)); intro gc hg_ w8 hbox hb; have GC := am (show w.heap.size ≤ gc by rw [hg_]; exact below_size HB.out); have n0_ := am (below_step HB.out hb); have n1_ := am (blk_below BK.out hb); have BC := am hbox; have NE_ := am (show gb ≠ gc by have h_ := blk_lt BK.out; omega); clear HB BK; have HB := n0_; have BK := n1_; clear n0_ n1_ hbox hb hg_; have c8_ := (blk_cell BC.out 0).trans rfl; have f8_ := blk_frozen BC.out 0) | ((with_reducible refine gate_store (t := 24) (p := 8) rfl ?_); refine store_event (t := 24) (p := 8) (v := ?vo_) (w1 := w8.setCell ⟨gc, 0, none⟩ (.slice none 0 0)) ?hg ?ho ?hn ?hr ?_; (case ho => rfl); (case hg => rfl); (case hn => rfl); (case hr => first | (go_simp; done) | (go_simp; rfl)); intro w9 hw; replace HB := am (show Below w.heap.size w w9 by rw [hw]; exact below_set HB.out GC.out); replace BK := am (show w9.heap[gb]? = some (.cells #[.int .i64 a0_0, .bool a0_1, .slice A0_2 l0_2.length c0_2] 26 (0, 0)) by rw [hw]; exact blk_far BK.out NE_.out _); replace BC := am (show w9.heap[gc]? = some (.cells #[.slice none 0 0] 24 (0, 0)) by rw [hw]; exact blk_set BC.out 0 _); clear c8_ f8_ hw; have q0_ : w9.cell? ⟨gb, 0, none⟩ = some (.int .i64 a0_0) := (blk_cell BK.out 0).trans rfl; have q1_ : w9.cell? ⟨gb, 1, none⟩ = some (.bool a0_1) := (blk_cell BK.out 1).trans rfl; have q2_ : w9.cell? ⟨gb, 2, none⟩ = some (.slice A0_2 l0_2.length c0_2) := (blk_cell BK.out 2).trans rfl) | (go_at_call 32; (refine (impl_Row_placings.calls (impl_FirstPlacing_1.vis w gc GC.out) hdyn k a0_0 a0_1 A0_2 c0_2 l0_2 _ _ l1 a2 [] o1 o2 _ (fun k_ => k_ = gc ∨ some k_ = (Value.slice none 0 0).ownBlock) HR1.out HR.out HC.out HL.out ⟨.slice none 0 0, rfl, BC.out, Kd.R_nil _ _ _ _ _, fun _ => rfl⟩ HB.out A2.out).mono ?_); rintro e w10 ⟨F2, rfl, hV2, hF2, hK2, hB2⟩; have BC2 := am hV2; clear HB BK BC q0_ q1_ q2_ hV2 hF2 hK2; have HB := am hB2; clear hB2))
   have heq_ := fun (a : Option Addr) (l c : Nat) (w : World) => impl_FirstPlacing.neql a l c w
   obtain ⟨vo, _, hbo, hRo, hno⟩ := BC2.out
   clear BC2
   cases o2 with
   | nil =>
    obtain rfl := hno rfl
    have c10_ : w10.drew.cell? ⟨gc, 0, none⟩ = some (.slice none 0 0) := (blk_cell hbo 0).trans rfl
    have RO := am hRo
    clear hno hbo hRo
    refine start_ (n := 5) (S := fun w' => w'.cell? ⟨gc, 0, none⟩ = some (.slice none 0 0)) (ds := []) #[false, false, false, false, false] (by kernel_rfl) rfl rfl (c10_) (fun hHeld => ?_)
    refine with_tabW impl_FirstPlacing.tab5 impl_FirstPlacing.bits5 (fun HT_ HW_ => ?_)
    clear c10_
    replace HB := am (below_drew1 HB.out)
    replace RO := am (Kd.R_drew RO.out)
    generalize World.drew _ = w11 at HB RO hHeld ⊢
    refine take_ (i := 0) (N := some 19) (v := ?_) (a' := ?_) (bm 5 1) rfl rfl (take_ofW HT_.out HW_.out (by kernel_rfl)) (fun _ _ _ h => h) (Or.inl ⟨by rfl, ?_⟩) hHeld ?_ ?_
    rotate_left
    ·intro w' s0
     go_simp
     with_reducible rfl
    rotate_left
    ·simp only [Act.put, pp_]
     rfl
    refine pi_ (i := 3) (N := some 6) (v := ?_) (a' := ?_) (bm 5 9) rfl rfl HT_ (by kernel_rfl) (fun _ _ _ h => h) (Or.inl ⟨by rfl, ?_⟩) ?_ ?_
    rotate_left
    ·intro w'
     go_simp
     with_reducible rfl
    rotate_left
    ·simp only [Act.put, pp_]
     rfl
    refine take_ (i := 1) (N := some 20) (v := ?_) (a' := ?_) (bm 5 11) rfl rfl (take_ofW HT_.out HW_.out (by kernel_rfl)) (fun _ _ _ h => h) (Or.inl ⟨by rfl, ?_⟩) hHeld ?_ ?_
    rotate_left
    ·intro w' s0
     go_simp
     with_reducible rfl
    rotate_left
    ·simp only [Act.put, pp_]
     rfl
    refine pi_ (i := 2) (N := some 21) (v := ?_) (a' := ?_) (bm 5 15) rfl rfl HT_ (by kernel_rfl) (fun _ _ _ h => h) (Or.inl ⟨by rfl, ?_⟩) ?_ ?_
    rotate_left
    ·intro w'
     go_simp
     with_reducible rfl
    rotate_left
    ·simp only [Act.put, pp_]
     rfl
    refine pi_ (i := 4) (N := some 7) (v := ?_) (a' := ?_) (bm 5 31) rfl rfl HT_ (by kernel_rfl) (fun _ _ _ h => h) (Or.inl ⟨by rfl, ?_⟩) ?_ ?_
    rotate_left
    ·intro w'
     go_simp
     with_reducible rfl
    rotate_left
    ·simp only [Act.put, pp_]
     rfl
    refine done_ (done_of HT_.out (by kernel_rfl)) ?_

    go_wp2
    go_ret2
    exact ⟨_, rfl, Kd.R_mono RO.out (fun _ _ => trivial), HB.out⟩
   | cons x0 xs =>
    obtain ⟨gv, cv, rfl, _, _, _⟩ := Kd.R_form hRo (by simp)
    have c10_ : w10.drew.cell? ⟨gc, 0, none⟩ = some (.slice (some ⟨gv, 0, none⟩) (x0 :: xs).length cv) := (blk_cell hbo 0).trans rfl
    have RO := am hRo
    clear hno hbo hRo
    refine start_ (n := 5) (S := fun w' => w'.cell? ⟨gc, 0, none⟩ = some (.slice (some ⟨gv, 0, none⟩) (x0 :: xs).length cv)) (ds := []) #[false, false, false, false, false] (by kernel_rfl) rfl rfl (c10_) (fun hHeld => ?_)
    refine with_tabW impl_FirstPlacing.tab5 impl_FirstPlacing.bits5 (fun HT_ HW_ => ?_)
    clear c10_
    replace HB := am (below_drew1 HB.out)
    replace RO := am (Kd.R_drew RO.out)
    generalize World.drew _ = w11 at HB RO hHeld ⊢
    refine take_ (i := 0) (N := some 19) (v := ?_) (a' := ?_) (bm 5 1) rfl rfl (take_ofW HT_.out HW_.out (by kernel_rfl)) (fun _ _ _ h => h) (Or.inl ⟨by rfl, ?_⟩) hHeld ?_ ?_
    rotate_left
    ·intro w' s0
     go_simp
     with_reducible rfl
    rotate_left
    ·simp only [Act.put, pp_]
     rfl
    refine pi_ (i := 3) (N := some 6) (v := ?_) (a' := ?_) (bm 5 9) rfl rfl HT_ (by kernel_rfl) (fun _ _ _ h => h) (Or.inl ⟨by rfl, ?_⟩) ?_ ?_
    rotate_left
    ·intro w'
     go_simp
     with_reducible rfl
    rotate_left
    ·simp only [Act.put, pp_]
     rfl
    refine take_ (i := 1) (N := some 20) (v := ?_) (a' := ?_) (bm 5 11) rfl rfl (take_ofW HT_.out HW_.out (by kernel_rfl)) (fun _ _ _ h => h) (Or.inl ⟨by rfl, ?_⟩) hHeld ?_ ?_
    rotate_left
    ·intro w' s0
     go_simp
     with_reducible rfl
    rotate_left
    ·simp only [Act.put, pp_]
     rfl
    refine pi_ (i := 2) (N := some 21) (v := ?_) (a' := ?_) (bm 5 15) rfl rfl HT_ (by kernel_rfl) (fun _ _ _ h => h) (Or.inl ⟨by rfl, ?_⟩) ?_ ?_
    rotate_left
    ·intro w'
     go_simp
     with_reducible rfl
    rotate_left
    ·simp only [Act.put, pp_]
     rfl
    refine pi_ (i := 4) (N := some 7) (v := ?_) (a' := ?_) (bm 5 31) rfl rfl HT_ (by kernel_rfl) (fun _ _ _ h => h) (Or.inl ⟨by rfl, ?_⟩) ?_ ?_
    rotate_left
    ·intro w'
     go_simp
     with_reducible rfl
    rotate_left
    ·simp only [Act.put, pp_]
     rfl
    refine done_ (done_of HT_.out (by kernel_rfl)) ?_

    go_wp2
    go_ret2
    exact ⟨_, rfl, Kd.R_mono RO.out (fun _ _ => trivial), HB.out⟩
  ·rw [if_neg hl] at H
   exact absurd H (by simp)


/-! ### laws_vInts: function 17 -/
def laws_vInts.l0 : Nat → List Int → List Int → Int → Option (Bool)
 | 0, _, _, _ => none
 | k + 1, x0, x1, x5 => if x5 < (x0.length : Int) then (if 0 ≤ x5 then (if x5 < (x1.length : Int) then (if (rd x0 x5) = (rd x1 x5) then (laws_vInts.l0 k x0 x1 (wrap64 (x5 + 1))) else (some false)) else (none)) else (none)) else (some true)
def laws_vInts.f (k : Nat) (l0 : List Int) (l1 : List Int) : Option (Bool) := if (l0.length : Int) = (l1.length : Int) then (laws_vInts.l0 k l0 l1 0) else (some false)
set_option maxHeartbeats 8000000 in
set_option maxRecDepth 100000 in
theorem laws_vInts.calls (k : Nat) (A0 : Option Addr) (c0 : Nat) (l0 : List Int) (A1 : Option Addr) (c1 : Nat) (l1 : List Int) (r : Bool) (w : World) (hr0 : Kd.C (Kd.int .i64) w A0 l0.length l0) (hc0 : l0.length ≤ c0) (hr1 : Kd.C (Kd.int .i64) w A1 l1.length l1) (hc1 : l1.length ≤ c1) (h : laws_vInts.f k l0 l1 = some r) :
  Calls Tryd.prog 17 #[.slice A0 l0.length c0, .slice A1 l1.length c1] w fun e w' => e = .returned (.bool r) ∧ Drawn0 w w' := by
 have HR0 := am hr0
 have HC0 := am hc0
 clear hr0 hc0
 have HR1 := am hr1
 have HC1 := am hc1
 clear hr1 hc1
 have H : (if (l0.length : Int) = (l1.length : Int) then (laws_vInts.l0 k l0 l1 0) else (some false)) = some r := h
 clear h
 by_cases c3 : (l0.length : Int) = (l1.length : Int)
 ·rw [if_pos c3] at H
  have c3b0 : ((l0.length : Int) == (l1.length : Int)) = true := beq_iff_eq.mpr c3
  have c3b1 : ((l0.length : Int) != (l1.length : Int)) = false := bne_eq_false_iff_eq.mpr c3
  have c3b2 : (l0.length == l1.length) = true := by first | simpa using c3 | (simp at c3 ⊢; omega)
  clear c3
  have H' := am H
  clear H
  go_enter Tryd.func17, Tryd.ntmps17
  go_wp2
  repeat (go_quiet (fail); try go_wp2)
  go_loopg [5] k (fun kq v5 w' => ∃ (x5_1 : Int), v5 = .int .i64 x5_1 ∧ Aside0 (laws_vInts.l0 kq l0 l1 x5_1 = some r) ∧ Aside0 (kq ≤ k) ∧ Drawn0 w w')
  case atStart => exact ⟨(0), (by first | rfl | (simp; done) | (simp [*]; done)), H', ⟨Nat.le_refl _⟩, by repeat (first | exact Drawn0.refl _ | apply Drawn0.step)⟩
  case round =>
   clear H'
   try clear c1
   try clear p2
   try clear c3
   try clear c3b0
   try clear c3b1
   try clear c3b2
   obtain ⟨x5_1, rfl, HA, HK1, ⟨m1, rfl⟩⟩ := hrel
   cases gk with
   | zero => exact absurd HA.out (by simp [laws_vInts.l0])
   | succ k1 =>
    have H := HA.out
    clear HA
    simp only [laws_vInts.l0] at H
    by_cases c4 : x5_1 < (l0.length : Int)
    ·rw [if_pos c4] at H
     have c4b0 : decide (x5_1 < (l0.length : Int)) = true := decide_eq_true c4
     clear c4
     by_cases c5 : 0 ≤ x5_1
     ·rw [if_pos c5] at H
      have c5b0 : decide (0 ≤ x5_1) = true := decide_eq_true c5
      clear c5
      by_cases c6 : x5_1 < (l1.length : Int)
      ·rw [if_pos c6] at H
       have c6b0 : decide (x5_1 < (l1.length : Int)) = true := decide_eq_true c6
       clear c6
       by_cases c7 : (rd l0 x5_1) = (rd l1 x5_1)
       ·rw [if_pos c7] at H
        have c7b0 : ((rd l0 x5_1) == (rd l1 x5_1)) = true := beq_iff_eq.mpr c7
        have c7b1 : ((rd l0 x5_1) != (rd l1 x5_1)) = false := bne_eq_false_iff_eq.mpr c7
        clear c7
        have H' := am H
        clear H
        have p650 : 0 ≤ (x5_1 : Int) := of_decide_eq_true (by first | (with_reducible assumption) | assumption)
        have q650 : x5_1 < (l0.length : Int) := of_decide_eq_true (by first | (with_reducible assumption) | assumption)
        obtain ⟨ad650, e650, hx650_0⟩ := Kd.at_int HR0.out x5_1 p650 q650
        cases e650
        replace p650 := eq_true p650
        replace q650 := eq_true q650
        have p651 : 0 ≤ (x5_1 : Int) := of_decide_eq_true (by first | (with_reducible assumption) | assumption)
        have q651 : x5_1 < (l1.length : Int) := of_decide_eq_true (by first | (with_reducible assumption) | assumption)
        obtain ⟨ad651, e651, hx651_0⟩ := Kd.at_int HR1.out x5_1 p651 q651
        cases e651
        replace p651 := eq_true p651
        replace q651 := eq_true q651
        go_wp2
        repeat (go_quiet (fail); try go_wp2)
        go_roundg k1
        case measure => have := HK1.out; omega
        case rel => exact ⟨(wrap64 (x5_1 + 1)), (by first | rfl | (simp; done) | (simp [*]; done)), H', ⟨by have := HK1.out; omega⟩, by repeat (first | exact Drawn0.refl _ | apply Drawn0.step)⟩
       ·rw [if_neg c7] at H
        have c7b0 : ((rd l0 x5_1) == (rd l1 x5_1)) = false := beq_eq_false_iff_ne.mpr c7
        have c7b1 : ((rd l0 x5_1) != (rd l1 x5_1)) = true := bne_iff_ne.mpr c7
        obtain rfl := Option.some.inj H
        have p650 : 0 ≤ (x5_1 : Int) := of_decide_eq_true (by first | (with_reducible assumption) | assumption)
        have q650 : x5_1 < (l0.length : Int) := of_decide_eq_true (by first | (with_reducible assumption) | assumption)
        obtain ⟨ad650, e650, hx650_0⟩ := Kd.at_int HR0.out x5_1 p650 q650
        cases e650
        replace p650 := eq_true p650
        replace q650 := eq_true q650
        have p651 : 0 ≤ (x5_1 : Int) := of_decide_eq_true (by first | (with_reducible assumption) | assumption)
        have q651 : x5_1 < (l1.length : Int) := of_decide_eq_true (by first | (with_reducible assumption) | assumption)
        obtain ⟨ad651, e651, hx651_0⟩ := Kd.at_int HR1.out x5_1 p651 q651
        cases e651
        replace p651 := eq_true p651
        replace q651 := eq_true q651
        go_wp2
        repeat (go_quiet (fail); try go_wp2)
        go_ret
        exact ⟨by first | rfl | (simp; done) | (simp [*]; done), by repeat (first | exact Drawn0.refl _ | apply Drawn0.step)⟩
      ·rw [if_neg c6] at H
       exact absurd H (by simp)
     ·rw [if_neg c5] at H
      exact absurd H (by simp)
    ·rw [if_neg c4] at H
     have c4b0 : decide (x5_1 < (l0.length : Int)) = false := decide_eq_false c4
     clear c4
     obtain rfl := Option.some.inj H
     go_wp2
     repeat (go_quiet (fail); try go_wp2)
     go_ret
     exact ⟨by first | rfl | (simp; done) | (simp [*]; done), by repeat (first | exact Drawn0.refl _ | apply Drawn0.step)⟩
 ·rw [if_neg c3] at H
  have c3b0 : ((l0.length : Int) == (l1.length : Int)) = false := beq_eq_false_iff_ne.mpr c3
  have c3b1 : ((l0.length : Int) != (l1.length : Int)) = true := bne_iff_ne.mpr c3
  have c3b2 : (l0.length == l1.length) = false := by first | simpa using c3 | (simp at c3 ⊢; omega)
  obtain rfl := Option.some.inj H
  go_enter Tryd.func17, Tryd.ntmps17
  go_wp2
  repeat (go_quiet (fail); try go_wp2)
  go_ret
  exact ⟨by first | rfl | (simp; done) | (simp [*]; done), by repeat (first | exact Drawn0.refl _ | apply Drawn0.step)⟩

/-! ### laws_vRow: function 16 -/
def laws_vRow.f (k : Nat) (a0_0 : Int) (a0_1 : Bool) (l0_2 : List Int) (a1_0 : Int) (a1_1 : Bool) (l1_2 : List Int) : Option (Bool) := if a0_0 = a1_0 then (if (a0_1 == a1_1) = true then ((laws_vInts.f k l0_2 l1_2).bind fun t654 => (some t654)) else (some false)) else (some false)
set_option maxHeartbeats 8000000 in
set_option maxRecDepth 100000 in
theorem laws_vRow.calls (k : Nat) (a0_0 : Int) (a0_1 : Bool) (A0_2 : Option Addr) (c0_2 : Nat) (l0_2 : List Int) (a1_0 : Int) (a1_1 : Bool) (A1_2 : Option Addr) (c1_2 : Nat) (l1_2 : List Int) (r : Bool) (w : World) (hr0_2 : Kd.C (Kd.int .i64) w A0_2 l0_2.length l0_2) (hc0_2 : l0_2.length ≤ c0_2) (hr1_2 : Kd.C (Kd.int .i64) w A1_2 l1_2.length l1_2) (hc1_2 : l1_2.length ≤ c1_2) (h : laws_vRow.f k a0_0 a0_1 l0_2 a1_0 a1_1 l1_2 = some r) :
  Calls Tryd.prog 16 #[.agg #[.int .i64 a0_0, .bool a0_1, .slice A0_2 l0_2.length c0_2], .agg #[.int .i64 a1_0, .bool a1_1, .slice A1_2 l1_2.length c1_2]] w fun e w' => e = .returned (.bool r) ∧ Below w.heap.size w w' := by
 have hu26 := Tryd.underlying26
 have HR0_2 := am hr0_2
 have HC0_2 := am hc0_2
 clear hr0_2 hc0_2
 have HR1_2 := am hr1_2
 have HC1_2 := am hc1_2
 clear hr1_2 hc1_2
 have HB := am (Below.refl w.heap.size w)
 have H : (if a0_0 = a1_0 then (if (a0_1 == a1_1) = true then ((laws_vInts.f k l0_2 l1_2).bind fun t654 => (some t654)) else (some false)) else (some false)) = some r := h
 clear h
 by_cases c3 : a0_0 = a1_0
 ·rw [if_pos c3] at H
  have c3b0 : (a0_0 == a1_0) = true := beq_iff_eq.mpr c3
  have c3b1 : (a0_0 != a1_0) = false := bne_eq_false_iff_eq.mpr c3
  clear c3
  by_cases c4 : (a0_1 == a1_1) = true
  ·rw [if_pos c4] at H
   have c4b0 : (a0_1 == a1_1) = true := c4
   (try (have c4b1 : decide (a0_1 = a1_1) = true := by simpa using c4))
   (try (have c4b2 : (a0_1 == a1_1) = true := by simpa using c4))
   clear c4
   replace H := Option.bind_eq_some_iff.mp H
   obtain ⟨t654, A50, H⟩ := H
   try dsimp only at H
   have A5 := am A50
   clear A50
   obtain rfl := Option.some.inj H
   go_enter Tryd.func16, Tryd.ntmps16
   go_wp2_with (first | ((with_reducible refine gate_dst (N := 2) rfl ?_); refine box_event ?hg (N := 2) ?hd (cs := #[.int .i64 a0_0, .bool a0_1, .slice A0_2 l0_2.length c0_2]) (t := 26) ?hr ?_; (case hd => rfl); (case hg => rfl); (case hr => first | (go_simp; done) | (go_simp; rfl)); intro gb652 hg w6 hbox hb; have BK652 := am (hbox); have GW652 := am ((by rw [hg]; exact (below_size (pkB HB)) : w.heap.size ≤ gb652)); have GE652 := am ((by rw [hg]; exact (below_size (pkB HB)) : w.heap.size ≤ gb652)); replace HB := am (below_step (pkB HB) hb); clear hb hbox hg) | ((with_reducible refine gate_dst (N := 3) rfl ?_); refine box_event ?hg (N := 3) ?hd (cs := #[.int .i64 a1_0, .bool a1_1, .slice A1_2 l1_2.length c1_2]) (t := 26) ?hr ?_; (case hd => rfl); (case hg => rfl); (case hr => first | (go_simp; done) | (go_simp; rfl)); intro gb653 hg w7 hbox hb; have BK653 := am (hbox); have GW653 := am ((by rw [hg]; exact (below_size (pkB HB)) : w.heap.size ≤ gb653)); have GE653 := am ((by rw [hg]; exact (below_size (pkB HB)) : w.heap.size ≤ gb653)); have NB652_653 := am ((by rw [hg]; exact Nat.ne_of_lt (blk_lt (pkC BK652)) : gb652 ≠ gb653)); have NB653_652 := am ((by rw [hg]; exact Nat.ne_of_gt (blk_lt (pkC BK652)) : gb653 ≠ gb652)); replace BK652 := am (blk_below (pkC BK652) hb); replace HB := am (below_step (pkB HB) hb); clear hb hbox hg; have hnb8 := NB652_653.out; have hnc8 := NB653_652.out; obtain ⟨hcz9_0, hcz9_1, hcz9_2⟩ := bc3 BK652.out; obtain ⟨hfz9_0, hfz9_1, hfz9_2⟩ := bf3 BK652.out; obtain ⟨hcz10_0, hcz10_1, hcz10_2⟩ := bc3 BK653.out; obtain ⟨hfz10_0, hfz10_1, hfz10_2⟩ := bf3 BK653.out) | (go_at_call 17; (with_reducible refine (laws_vInts.calls k _ _ l0_2 _ _ l1_2 t654 _ ?side1 ?side2 ?side3 ?side4 A5.out).mono ?_); (case side1 => repeat (first | exact (Kd.C_below HR0_2.out HB.out) | (with_reducible refine Kd.C_alloc ?_ _) | (with_reducible refine Kd.C_drewN ?_ _) | (with_reducible refine Kd.C_drew ?_))); (case side2 => exact HC0_2.out); (case side3 => repeat (first | exact (Kd.C_below HR1_2.out HB.out) | (with_reducible refine Kd.C_alloc ?_ _) | (with_reducible refine Kd.C_drewN ?_ _) | (with_reducible refine Kd.C_drew ?_))); (case side4 => exact HC1_2.out); rintro e w' ⟨rfl, ⟨nd, rfl⟩⟩))
   go_ret
   exact ⟨by first | rfl | (simp [*]; done), pkB HB⟩
  ·rw [if_neg c4] at H
   have c4b0 : (a0_1 == a1_1) = false := by simpa using c4
   (try (have c4b1 : decide (a0_1 = a1_1) = false := by simpa using c4))
   (try (have c4b2 : (a0_1 == a1_1) = false := by simpa using c4))
   (try (have c4b3 : ¬ (a0_1 = a1_1) := by simpa using c4))
   clear c4
   obtain rfl := Option.some.inj H
   go_enter Tryd.func16, Tryd.ntmps16
   go_wp2_with (first | ((with_reducible refine gate_dst (N := 2) rfl ?_); refine box_event ?hg (N := 2) ?hd (cs := #[.int .i64 a0_0, .bool a0_1, .slice A0_2 l0_2.length c0_2]) (t := 26) ?hr ?_; (case hd => rfl); (case hg => rfl); (case hr => first | (go_simp; done) | (go_simp; rfl)); intro gb652 hg w11 hbox hb; have BK652 := am (hbox); have GW652 := am ((by rw [hg]; exact (below_size (pkB HB)) : w.heap.size ≤ gb652)); have GE652 := am ((by rw [hg]; exact (below_size (pkB HB)) : w.heap.size ≤ gb652)); replace HB := am (below_step (pkB HB) hb); clear hb hbox hg) | ((with_reducible refine gate_dst (N := 3) rfl ?_); refine box_event ?hg (N := 3) ?hd (cs := #[.int .i64 a1_0, .bool a1_1, .slice A1_2 l1_2.length c1_2]) (t := 26) ?hr ?_; (case hd => rfl); (case hg => rfl); (case hr => first | (go_simp; done) | (go_simp; rfl)); intro gb653 hg w12 hbox hb; have BK653 := am (hbox); have GW653 := am ((by rw [hg]; exact (below_size (pkB HB)) : w.heap.size ≤ gb653)); have GE653 := am ((by rw [hg]; exact (below_size (pkB HB)) : w.heap.size ≤ gb653)); have NB652_653 := am ((by rw [hg]; exact Nat.ne_of_lt (blk_lt (pkC BK652)) : gb652 ≠ gb653)); have NB653_652 := am ((by rw [hg]; exact Nat.ne_of_gt (blk_lt (pkC BK652)) : gb653 ≠ gb652)); replace BK652 := am (blk_below (pkC BK652) hb); replace HB := am (below_step (pkB HB) hb); clear hb hbox hg; have hnb13 := NB652_653.out; have hnc13 := NB653_652.out; obtain ⟨hcz14_0, hcz14_1, hcz14_2⟩ := bc3 BK652.out; obtain ⟨hfz14_0, hfz14_1, hfz14_2⟩ := bf3 BK652.out; obtain ⟨hcz15_0, hcz15_1, hcz15_2⟩ := bc3 BK653.out; obtain ⟨hfz15_0, hfz15_1, hfz15_2⟩ := bf3 BK653.out))
   go_ret
   exact ⟨by first | rfl | (simp [*]; done), pkB HB⟩
 ·rw [if_neg c3] at H
  have c3b0 : (a0_0 == a1_0) = false := beq_eq_false_iff_ne.mpr c3
  have c3b1 : (a0_0 != a1_0) = true := bne_iff_ne.mpr c3
  obtain rfl := Option.some.inj H
  go_enter Tryd.func16, Tryd.ntmps16
  go_wp2_with (first | ((with_reducible refine gate_dst (N := 2) rfl ?_); refine box_event ?hg (N := 2) ?hd (cs := #[.int .i64 a0_0, .bool a0_1, .slice A0_2 l0_2.length c0_2]) (t := 26) ?hr ?_; (case hd => rfl); (case hg => rfl); (case hr => first | (go_simp; done) | (go_simp; rfl)); intro gb652 hg w16 hbox hb; have BK652 := am (hbox); have GW652 := am ((by rw [hg]; exact (below_size (pkB HB)) : w.heap.size ≤ gb652)); have GE652 := am ((by rw [hg]; exact (below_size (pkB HB)) : w.heap.size ≤ gb652)); replace HB := am (below_step (pkB HB) hb); clear hb hbox hg) | ((with_reducible refine gate_dst (N := 3) rfl ?_); refine box_event ?hg (N := 3) ?hd (cs := #[.int .i64 a1_0, .bool a1_1, .slice A1_2 l1_2.length c1_2]) (t := 26) ?hr ?_; (case hd => rfl); (case hg => rfl); (case hr => first | (go_simp; done) | (go_simp; rfl)); intro gb653 hg w17 hbox hb; have BK653 := am (hbox); have GW653 := am ((by rw [hg]; exact (below_size (pkB HB)) : w.heap.size ≤ gb653)); have GE653 := am ((by rw [hg]; exact (below_size (pkB HB)) : w.heap.size ≤ gb653)); have NB652_653 := am ((by rw [hg]; exact Nat.ne_of_lt (blk_lt (pkC BK652)) : gb652 ≠ gb653)); have NB653_652 := am ((by rw [hg]; exact Nat.ne_of_gt (blk_lt (pkC BK652)) : gb653 ≠ gb652)); replace BK652 := am (blk_below (pkC BK652) hb); replace HB := am (below_step (pkB HB) hb); clear hb hbox hg; have hnb18 := NB652_653.out; have hnc18 := NB653_652.out; obtain ⟨hcz19_0, hcz19_1, hcz19_2⟩ := bc3 BK652.out; obtain ⟨hfz19_0, hfz19_1, hfz19_2⟩ := bf3 BK652.out; obtain ⟨hcz20_0, hcz20_1, hcz20_2⟩ := bc3 BK653.out; obtain ⟨hfz20_0, hfz20_1, hfz20_2⟩ := bf3 BK653.out))
  go_ret
  exact ⟨by first | rfl | (simp [*]; done), pkB HB⟩

/-! ### laws_vAdd: function 18 -/
def laws_vAdd.l0 : Nat → List Int → Int → Int → Option (Int)
 | 0, _, _, _ => none
 | k + 1, x0, x3, x4 => if x4 < (x0.length : Int) then (if 0 ≤ x4 then (laws_vAdd.l0 k x0 (wrap64 (x3 + (rd x0 x4))) (wrap64 (x4 + 1))) else (none)) else (some x3)
def laws_vAdd.f (k : Nat) (l0 : List Int) : Option (Int) := laws_vAdd.l0 k l0 0 0
set_option maxHeartbeats 8000000 in
set_option maxRecDepth 100000 in
theorem laws_vAdd.calls (k : Nat) (A0 : Option Addr) (c0 : Nat) (l0 : List Int) (r : Int) (w : World) (hr0 : Kd.C (Kd.int .i64) w A0 l0.length l0) (hc0 : l0.length ≤ c0) (h : laws_vAdd.f k l0 = some r) :
  Calls Tryd.prog 18 #[.slice A0 l0.length c0] w fun e w' => e = .returned (.int .i64 r) ∧ Drawn0 w w' := by
 have HR0 := am hr0
 have HC0 := am hc0
 clear hr0 hc0
 have H : (laws_vAdd.l0 k l0 0 0) = some r := h
 clear h
 have H' := am H
 clear H
 go_enter Tryd.func18, Tryd.ntmps18
 go_wp2
 go_loopg [3, 4] k (fun kq v3 v4 w' => ∃ (x3_1 : Int) (x4_1 : Int), v3 = .int .i64 x3_1 ∧ v4 = .int .i64 x4_1 ∧ Aside0 (laws_vAdd.l0 kq l0 x3_1 x4_1 = some r) ∧ Aside0 (kq ≤ k) ∧ Drawn0 w w')
 case atStart => exact ⟨(0), (0), (by first | rfl | (simp; done) | (simp [*]; done)), (by first | rfl | (simp; done) | (simp [*]; done)), H', ⟨Nat.le_refl _⟩, by repeat (first | exact Drawn0.refl _ | apply Drawn0.step)⟩
 case round =>
  clear H'
  try clear c1
  obtain ⟨x3_1, x4_1, rfl, rfl, HA, HK1, ⟨m1, rfl⟩⟩ := hrel
  cases gk with
  | zero => exact absurd HA.out (by simp [laws_vAdd.l0])
  | succ k1 =>
   have H := HA.out
   clear HA
   simp only [laws_vAdd.l0] at H
   by_cases c2 : x4_1 < (l0.length : Int)
   ·rw [if_pos c2] at H
    have c2b0 : decide (x4_1 < (l0.length : Int)) = true := decide_eq_true c2
    clear c2
    by_cases c3 : 0 ≤ x4_1
    ·rw [if_pos c3] at H
     have c3b0 : decide (0 ≤ x4_1) = true := decide_eq_true c3
     clear c3
     have H' := am H
     clear H
     have p655 : 0 ≤ (x4_1 : Int) := of_decide_eq_true (by first | (with_reducible assumption) | assumption)
     have q655 : x4_1 < (l0.length : Int) := of_decide_eq_true (by first | (with_reducible assumption) | assumption)
     obtain ⟨ad655, e655, hx655_0⟩ := Kd.at_int HR0.out x4_1 p655 q655
     cases e655
     replace p655 := eq_true p655
     replace q655 := eq_true q655
     go_wp2
     go_roundg k1
     case measure => have := HK1.out; omega
     case rel => exact ⟨(wrap64 (x3_1 + (rd l0 x4_1))), (wrap64 (x4_1 + 1)), (by first | rfl | (simp; done) | (simp [*]; done)), (by first | rfl | (simp; done) | (simp [*]; done)), H', ⟨by have := HK1.out; omega⟩, by repeat (first | exact Drawn0.refl _ | apply Drawn0.step)⟩
    ·rw [if_neg c3] at H
     exact absurd H (by simp)
   ·rw [if_neg c2] at H
    have c2b0 : decide (x4_1 < (l0.length : Int)) = false := decide_eq_false c2
    clear c2
    obtain rfl := Option.some.inj H
    go_wp2
    go_ret
    exact ⟨by first | rfl | (simp; done) | (simp [*]; done), by repeat (first | exact Drawn0.refl _ | apply Drawn0.step)⟩

end Go.Proofs.YtnoipklaebadeaaDoor.PFnPlacings
