import Derived.Test.YtaebbgkoaaigbaaDoorZFnSpreadPFnSpreadx0
import Derived.Test.YtaebbgkoaaigbaaDoorZFnSpreadPFnSpreadx6
import Derived.Test.YtaebbgkoaaigbaaDoorZFnSpreadPFnSpreadx7
import Derived.Test.YtaebbgkoaaigbaaDoorZFnSpreadPFnSpreadx15
import Derived.Test.YtaebbgkoaaigbaaDoorZFnSpreadPFnSpreadx16
namespace Go.Proofs.YtaebbgkoaaigbaaDoor.PFnSpread
open Go.RowKit Go.Proofs.YtaebbgkoaaigbaaDoorW.PrintWords Go.Proofs.YtaebbgkoaaigbaaDoorW.PrintLast Go.Proofs.YtaebbgkoaaigbaaDoorW.PrintMore
attribute [local go_sem] max2_int min2_int max_two min_two max_three min_three max_four min_four   -- for this text's walks alone
set_option linter.unusedVariables false
set_option linter.unusedSimpArgs false

/-! ### impl_spacing_head: function 80 -/
def impl_spacing_head.f (first p : Int) : Option Int := some (if first < 0 then p else first)
set_option maxHeartbeats 8000000 in
set_option maxRecDepth 100000 in
theorem impl_spacing_head.calls (g : Nat) (first p : Int) (w : World) :
  Calls Tryd.prog 80 #[.pointer (some ⟨g, 0, none⟩), .int .i64 first, .int .i64 p] w fun e w' => e = .returned (.int .i64 (if first < 0 then p else first)) ∧ Drawn0 w w' := by
 by_cases c : first < 0
 ·rw [if_pos c]
  have c0 : decide (first < 0) = true := decide_eq_true c
  clear c
  go_enter Tryd.func80, Tryd.ntmps80
  go_wp2
  go_ret
  exact ⟨by first | rfl | (simp; done) | (simp [*]; done), by repeat (first | exact Drawn0.refl _ | apply Drawn0.step)⟩
 ·rw [if_neg c]
  have c0 : decide (first < 0) = false := decide_eq_false c
  clear c
  go_enter Tryd.func80, Tryd.ntmps80
  go_wp2
  go_ret
  exact ⟨by first | rfl | (simp; done) | (simp [*]; done), by repeat (first | exact Drawn0.refl _ | apply Drawn0.step)⟩


/-! ### impl_spacing_count: function 50 -/
/-! memo maps: a map of the call's own, whose elements are integers; what it holds is right -/
theorem memo_ph : ∀ (m : Nat) (l : List Nat), l.Nodup → (∀ x ∈ l, x < m) → l.length ≤ m := by
 intro m
 induction m with
 | zero => intro l _ h; cases l with
  | nil => exact Nat.le_refl _
  | cons x xs => exact absurd (h x (by simp)) (by omega)
 | succ m ih =>
  intro l hn h
  have h1 := ih (l.erase m) (hn.erase _) (fun x hx => by
   have h2 := (List.Nodup.mem_erase_iff hn).mp hx
   have := h x h2.2
   have := h2.1
   omega)
  have h2 := List.length_erase (a := m) (l := l)
  split at h2 <;> omega
section
variable {P : Program} {kt e t : TypeId} {R : Value → Option (DataW Unit × List MemPlace)} {w w' : World} {b n : Nat} {D : DataW Unit}
theorem own_tight (h : w.ownsMap P kt R b n D) : w.ownsMap P kt R b (Maps.size D) D := by
 obtain ⟨es, clock, hb, F, hs, rfl⟩ := h
 exact ⟨es, clock, hb, F, Nat.le_of_eq (Go.length_read es).symm, rfl⟩
/-- Keys that stand for numbers below N: no more than N of them. -/
theorem memo_size (K : Maps.Keyed P kt) (h : w.ownsMap P kt R b n D) (num : Lit → Nat) (N : Nat) (hN : ∀ l, Maps.has D l = true → num l < N) (hinj : ∀ l l', Maps.has D l = true → Maps.has D l' = true → num l = num l' → l = l') : Maps.size D ≤ N := by
 obtain ⟨es, rfl, hp⟩ := h.tidy K
 have hk : ∀ p ∈ es, Maps.has (.map es : DataW Unit) p.1 = true := fun p hp' => by
  rw [Maps.has_eq, List.any_eq_true]
  refine ⟨p, hp', ?_⟩
  obtain ⟨es2, clock, _, F, _, he⟩ := h
  injection he with he
  have hp2 : p ∈ es2.toList.map (WideElems.rg P kt R) := by
   have := (WideShapes.sorted_perm (es2.toList.map (WideElems.rg P kt R))).mem_iff (a := p)
   rw [he] at hp'
   exact this.mp hp'
  obtain ⟨v, hv⟩ := Maps.fit_keys F p hp2
  have := K.key hv
  revert this
  cases hl : p.1 <;> simp [WideAt.IsKeyLit, Lit.sameKey]
 rw [Maps.size_eq]
 have hnd : (es.map fun p => num p.1).Nodup := by
  rw [List.nodup_iff_pairwise_ne, List.pairwise_map]
  exact List.Pairwise.imp_of_mem (fun {a b} ha hb hab he => hab (hinj _ _ (hk a ha) (hk b hb) he)) hp
 have := memo_ph N _ hnd (fun x hx => by
  rw [List.mem_map] at hx
  obtain ⟨p, hp', rfl⟩ := hx
  exact hN _ (hk p hp'))
 rwa [List.length_map] at this
end
/-- Block b is a map from keys (enc) to int whose entries are right. -/
def Memo {κ : Type} (P : Program) (kt et : TypeId) (enc : κ → Lit) (dom : κ → Prop) (good : κ → Int → Prop) (w : World) (b : Nat) : Prop :=
 ∃ D : DataW Unit, w.ownsMap P kt (plainElem P et) b (Maps.size D) D ∧ (∀ l, Maps.has D l = true → ∃ x, dom x ∧ l = enc x) ∧ ∀ x, dom x → Maps.has D (enc x) = true → ∃ c : Int, D.atKey (enc x) (.lit (.int .i64 0)) = .lit (.int .i64 c) ∧ good x c
section
variable {κ : Type} {P : Program} {kt et t : TypeId} {enc : κ → Lit} {dom : κ → Prop} {good : κ → Int → Prop} {w w' : World} {b : Nat}
theorem Memo.move (h : Memo P kt et enc dom good w b) (hm : w'.heap[b]? = w.heap[b]?) : Memo P kt et enc dom good w' b := by
 obtain ⟨D, ⟨es, clock, hb, r⟩, h2⟩ := h
 exact ⟨D, ⟨es, clock, hm.trans hb, r⟩, h2⟩
theorem Memo.lt (h : Memo P kt et enc dom good w b) : b < w.heap.size := by
 obtain ⟨D, h1, _⟩ := h
 exact h1.lt
theorem Memo.store {D : DataW Unit} {x : κ} {c : Int} {n : Nat} (K : Maps.Keyed P kt) (hk : WideAt.IsKeyLit (enc x)) (hx : dom x) (hinj : ∀ y, dom y → enc y = enc x → y = x) (hD : Maps.IsMap D) (h1 : ∀ l, Maps.has D l = true → ∃ x, dom x ∧ l = enc x) (h2 : ∀ x, dom x → Maps.has D (enc x) = true → ∃ c : Int, D.atKey (enc x) (.lit (.int .i64 0)) = .lit (.int .i64 c) ∧ good x c) (hc : good x c)
  (h : w'.ownsMap P kt (plainElem P et) b n (D.put (enc x) (.lit (.int .i64 c)))) : Memo P kt et enc dom good w' b := by
 refine ⟨_, own_tight h, fun l hl => ?_, fun y hdy hy => ?_⟩
 ·by_cases e : l = enc x
  ·exact ⟨x, hx, e⟩
  ·rw [Maps.has_put_other e] at hl; exact h1 l hl
 ·by_cases e : enc y = enc x
  ·obtain rfl := hinj y hdy e
   exact ⟨c, Maps.atKey_put_same hD hk _ _, hc⟩
  ·rw [Maps.has_put_other e] at hy
   obtain ⟨c', h3, h4⟩ := h2 y hdy hy
   exact ⟨c', by rw [Maps.atKey_put_other e]; exact h3, h4⟩
end
mutual
def impl_spacing_count.l0 : Nat → Int → Bool → List Int → Int → Int → Int → Int → Int → Int → Option Int
 | 0, _, _, _, _, _, _, _, _, _ => none
 | k + 1, s, r, l, d, first, last, more, p, acc => if p < s then ((impl_spacing_follows.f k s r l d first last p).bind fun t => if t = true then ((impl_spacing_head.f first p).bind fun h => (impl_spacing_count.f k s r l d h p (wrap64 (more - 1))).bind fun n => impl_spacing_count.l0 k s r l d first last more (wrap64 (p + 1)) (wrap64 (acc + n))) else impl_spacing_count.l0 k s r l d first last more (wrap64 (p + 1)) acc) else some acc
def impl_spacing_count.f : Nat → Int → Bool → List Int → Int → Int → Int → Int → Option Int
 | 0, _, _, _, _, _, _, _ => none
 | k + 1, s, r, l, d, first, last, more => if more = 0 then some 1 else if (-1 ≤ first ∧ first < 1000) ∧ (-1 ≤ last ∧ last < 1000) ∧ -1 ≤ more ∧ more < 1000 then impl_spacing_count.l0 k s r l d first last more (wrap64 (last + 1)) 0 else none
end
theorem impl_spacing_count.mono_l : ∀ k, (∀ y0 y1 y2 y3 y4 y5 y6, LeO (impl_spacing_count.f k y0 y1 y2 y3 y4 y5 y6) (impl_spacing_count.f (k + 1) y0 y1 y2 y3 y4 y5 y6)) ∧ (∀ y0 y1 y2 y3 y4 y5 y6 y7 y8, LeO (impl_spacing_count.l0 k y0 y1 y2 y3 y4 y5 y6 y7 y8) (impl_spacing_count.l0 (k + 1) y0 y1 y2 y3 y4 y5 y6 y7 y8))
 | 0 => ⟨fun _ _ _ _ _ _ _ r h => by simp [impl_spacing_count.f] at h, fun _ _ _ _ _ _ _ _ _ r h => by simp [impl_spacing_count.l0] at h⟩
 | k + 1 => by
  obtain ⟨ih0, ih1⟩ := impl_spacing_count.mono_l k
  refine ⟨?_, ?_⟩
  ·intro y0 y1 y2 y3 y4 y5 y6
   unfold impl_spacing_count.f
   exact LeO.ite (LeO.refl _) (LeO.ite (ih1 _ _ _ _ _ _ _ _ _) (LeO.none _))
  ·intro y0 y1 y2 y3 y4 y5 y6 y7 y8
   unfold impl_spacing_count.l0
   exact LeO.ite (LeO.bind (impl_spacing_follows.mono _ _ _ _ _ _ _ _) fun _ => LeO.ite (LeO.bind (LeO.refl _) fun _ => LeO.bind (ih0 _ _ _ _ _ _ _) fun _ => ih1 _ _ _ _ _ _ _ _ _) (ih1 _ _ _ _ _ _ _ _ _)) (LeO.refl _)
theorem impl_spacing_count.same {k k' : Nat} {s : Int} {r : Bool} {l : List Int} {d f la m : Int} {a b : Int} (h : impl_spacing_count.f k s r l d f la m = some a) (h' : impl_spacing_count.f k' s r l d f la m = some b) : a = b := by
 have h1 := at_rounds (g := fun k => impl_spacing_count.f k s r l d f la m) (fun k => (impl_spacing_count.mono_l k).1 s r l d f la m) (Nat.le_max_left k k') h
 have h2 := at_rounds (g := fun k => impl_spacing_count.f k s r l d f la m) (fun k => (impl_spacing_count.mono_l k).1 s r l d f la m) (Nat.le_max_right k k') h'
 rw [h1] at h2
 exact Option.some.inj h2
def spKey (x : Int × Int × Int) : Value := .agg #[.int .i64 x.1, .int .i64 x.2.1, .int .i64 x.2.2]
def spEnc (x : Int × Int × Int) : Lit := .string (keyBytes [.int .i64 x.1, .int .i64 x.2.1, .int .i64 x.2.2])
theorem sp_law : Maps.Keyed Tryd.prog 92 :=
 Maps.Keyed.of_law (deep_law_laid (m := 2) (by kernel_rfl) (by decide) (of_decide_eq_true (by kernel_rfl)) (by kernel_rfl) (by rw [Tryd.underlying92]))
def spDom (x : Int × Int × Int) : Prop := (-1 ≤ x.1 ∧ x.1 < 1000) ∧ (-1 ≤ x.2.1 ∧ x.2.1 < 1000) ∧ -1 ≤ x.2.2 ∧ x.2.2 < 1000
theorem sp_wf (n : Int) (h : -1 ≤ n ∧ n < 1000) : (Lit.int .i64 n).wf = true := by
 simp [Lit.wf, IntKind.min, IntKind.max, IntKind.bits, IntKind.signed]; omega
theorem sp_wrap (x : Int) : (Lit.int .i64 (wrap64 x)).wf = true := by
 simp [Lit.wf, IntKind.min, IntKind.max, IntKind.bits, IntKind.signed]; unfold wrap64; omega
theorem sp_lits (d : Nat) (a : Int) (h : (Lit.int .i64 a).wf = true) : Tryd.prog.keyLits (d + 1) 3 [.int .i64 a] = some [.int .i64 a] := by
 unfold Program.keyLits
 rw [Tryd.underlying3]
 simp [h]
theorem sp_keyOf (x : Int × Int × Int) (h : spDom x) : keyOf Tryd.prog 92 (spKey x) = some (spEnc x) := by
 have h1 := sp_wf _ h.1
 have h2 := sp_wf _ h.2.1
 have h3 := sp_wf _ h.2.2
 unfold keyOf
 rw [Tryd.underlying92]
 have hk : Tryd.prog.keyType 92 = true := by kernel_rfl
 have hf : (spKey x).formed Tryd.prog 92 = true := by
  unfold Value.formed spKey
  rw [Tryd.underlying92]
  show (3 == Tryd.prog.cellsOf 92) = true
  kernel_rfl
 simp only [hk, hf, Bool.and_self, if_true]
 have hl : Tryd.prog.keyLits (Tryd.prog.types.size + 1) 92 (spKey x).cells.toList = some [.int .i64 x.1, .int .i64 x.2.1, .int .i64 x.2.2] := by
  unfold Program.keyLits
  rw [Tryd.underlying92]
  have hc : Tryd.prog.cellsOf 92 = 3 := by kernel_rfl
  have he : Tryd.prog.cellsOf 3 = 1 := by kernel_rfl
  obtain ⟨m, hm⟩ : ∃ m, Tryd.prog.types.size = m + 1 := ⟨Tryd.prog.types.size - 1, by have h_ : 0 < Tryd.prog.types.size := of_decide_eq_true (by kernel_rfl); omega⟩
  rw [hm]
  simp [hc, he, spKey, Value.cells, List.range, List.range.loop, sp_lits _ _ h1, sp_lits _ _ h2, sp_lits _ _ h3]
 rw [hl]
 rfl
theorem sp_inj (x y : Int × Int × Int) (hx : spDom x) (hy : spDom y) (h : spEnc x = spEnc y) : x = y := by
 have h1 := sp_keyOf x hx
 have h2 := sp_keyOf y hy
 rw [← h] at h2
 have := sp_law.inj h1 h2
 obtain ⟨a, b, c⟩ := x
 obtain ⟨a', b', c'⟩ := y
 simp [spKey] at this
 obtain ⟨rfl, rfl, rfl⟩ := this
 rfl
theorem sp_zero (w : World) : (zeroValue 3).run Tryd.prog w = .ok (.int .i64 0) w := by kernel_rfl
def spGood (s : Int) (r : Bool) (l : List Int) (d : Int) (x : Int × Int × Int) (c : Int) : Prop := ∃ k, impl_spacing_count.f k s r l d x.1 x.2.1 x.2.2 = some c
theorem own_move {P : Program} {kt : TypeId} {R : Value → Option (DataW Unit × List MemPlace)} {w w' : World} {b n : Nat} {D : DataW Unit} (h : w.ownsMap P kt R b n D) (hm : w'.heap[b]? = w.heap[b]?) : w'.ownsMap P kt R b n D := by
 obtain ⟨es, clock, hb, r⟩ := h
 exact ⟨es, clock, hm.trans hb, r⟩
theorem sp_look {w : World} {b n : Nat} {D : DataW Unit} (x : Int × Int × Int) (hx : spDom x) (h : w.ownsMap Tryd.prog 92 (plainElem Tryd.prog 3) b n D) : ∃ c : Int, (Instr.lookup 89 (.map (some b)) (.agg #[.int .i64 x.1, .int .i64 x.2.1, .int .i64 x.2.2]) true).run Tryd.prog w = .ok (.tuple #[.int .i64 c, .bool (Maps.has D (spEnc x))]) w ∧ D.atKey (spEnc x) (.lit (.int .i64 0)) = .lit (.int .i64 c) := by
 obtain ⟨v, ps, hrun, hv⟩ := h.look_ok sp_law Tryd.underlying89 (sp_zero w) (zd := .lit (.int .i64 0)) (zp := []) (plainElem_int Tryd.underlying3 (by decide)) (sp_keyOf x hx)
 obtain ⟨c, rfl, hc, hwc⟩ := plainElem_int_inv Tryd.underlying3 hv
 exact ⟨c, hrun, congrArg Prod.fst hc⟩
theorem SpW.kept {w w1 : World} {g : Nat} {s : Int} {r : Bool} {A : Option Addr} {n c : Nat} {d : Int} {Aw : Option Addr} {nw cw mb : Nat} {S : Nat → Prop} (h : SpW w g s r A n c d Aw nw cw mb) (hk : Kept w w1 S) (hg : ¬ S g) : SpW w1 g s r A n c d Aw nw cw mb := by
 unfold SpW at h ⊢
 exact (hk.2 _ (blk_lt h) hg).trans h
abbrev SpMemo (s : Int) (r : Bool) (l : List Int) (d : Int) (w : World) (mb : Nat) : Prop := Memo Tryd.prog 92 3 spEnc spDom (spGood s r l d) w mb
theorem spstep {g gk : Nat} {s : Int} {r : Bool} {A : Option Addr} {n c : Nat} {d d' : Int} {l : List Int} {Aw : Option Addr} {nw cw mb : Nat} {u w0 w w' : World} {t : TypeId} {cs : Array Value} (HS : Aside0 (SpW w g s r A n c d Aw nw cw mb)) (BK : Aside0 (w.heap[gk]? = some (.cells cs t (0, 0)))) (MM : Aside0 (SpMemo s r l d' w mb)) (KK : Aside0 (Kept u w (fun k => k = mb))) (HB : Aside0 (Below w0.heap.size w0 w)) (hb : Below w.heap.size w w') :
  Aside0 (SpW w' g s r A n c d Aw nw cw mb) ∧ Aside0 (w'.heap[gk]? = some (.cells cs t (0, 0))) ∧ Aside0 (SpMemo s r l d' w' mb) ∧ Aside0 (Kept u w' (fun k => k = mb)) ∧ Aside0 (Below w0.heap.size w0 w') :=
 ⟨⟨HS.out.below hb⟩, ⟨blk_below BK.out hb⟩, ⟨MM.out.move (hb.block _ MM.out.lt)⟩, ⟨KK.out.below hb⟩, ⟨below_step HB.out hb⟩⟩
def spIdx (x : Int × Int × Int) : Nat := (((x.1 + 1) * 1001 + (x.2.1 + 1)) * 1001 + (x.2.2 + 1)).toNat
theorem sp_size {R : Value → Option (DataW Unit × List MemPlace)} {w : World} {b n : Nat} {D : DataW Unit} (hown : w.ownsMap Tryd.prog 92 R b n D) (hdom : ∀ l, Maps.has D l = true → ∃ x, spDom x ∧ l = spEnc x) : Maps.size D ≤ 1003003002 := by
 have hf : ∃ f : Lit → Nat, ∀ l x, spDom x → l = spEnc x → f l = spIdx x := by
  classical
  refine ⟨fun l => if h : ∃ x, spDom x ∧ l = spEnc x then spIdx (Classical.choose h) else 0, fun l x hx hl => ?_⟩
  have h : ∃ x, spDom x ∧ l = spEnc x := ⟨x, hx, hl⟩
  have h2 := Classical.choose_spec h
  simp only [dif_pos h]
  rw [sp_inj _ x h2.1 hx (h2.2.symm.trans hl)]
 obtain ⟨f, hf⟩ := hf
 refine memo_size sp_law hown f _ (fun l hl => ?_) (fun l l' hl hl' he => ?_)
 ·obtain ⟨x, hx, rfl⟩ := hdom l hl
  rw [hf _ x hx rfl]
  unfold spDom at hx
  unfold spIdx
  omega
 ·obtain ⟨x, hx, rfl⟩ := hdom l hl
  obtain ⟨y, hy, rfl⟩ := hdom l' hl'
  rw [hf _ x hx rfl, hf _ y hy rfl] at he
  obtain ⟨x1, x2, x3⟩ := x
  obtain ⟨y1, y2, y3⟩ := y
  unfold spDom at hx hy
  unfold spIdx at he
  simp only at hx hy he
  obtain rfl : x1 = y1 := by omega
  obtain rfl : x2 = y2 := by omega
  obtain rfl : x3 = y3 := by omega
  rfl
def impl_spacing_count.T4 : Bool × List (List Nat × List Nat) := (true, [([], []), ([0], [0]), ([1], [1]), ([2], [2]), ([], []), ([3, 4], [3, 4]), ([5], [5]), ([6], [6]), ([6], [6]), ([7, 0, 1, 2, 3, 4, 5, 6, 7], [7]), ([8, 9, 0, 1, 2, 3, 4, 5, 6, 7, 8, 9], [8])])
def impl_spacing_count.B4 : List Nat := [0, 1, 3, 7, 0, 31, 63, 127, 127, 255, 1023]
theorem impl_spacing_count.tab4 : rtab .any (opsOf Tryd.f50 4) = impl_spacing_count.T4 := by kernel_rfl
theorem impl_spacing_count.bits4 : waitsOk impl_spacing_count.T4.2 impl_spacing_count.B4 = true := by kernel_rfl
def impl_spacing_count.T13 : Bool × List (List Nat × List Nat) := (true, [([], []), ([0], [0]), ([1], [1]), ([2], [2]), ([], []), ([], []), ([3, 4, 5, 0, 1, 2, 3, 4, 5], [3, 4, 5])])
def impl_spacing_count.B13 : List Nat := [0, 1, 3, 7, 0, 0, 63]
theorem impl_spacing_count.tab13 : rtab .any (opsOf Tryd.f50 13) = impl_spacing_count.T13 := by kernel_rfl
theorem impl_spacing_count.bits13 : waitsOk impl_spacing_count.T13.2 impl_spacing_count.B13 = true := by kernel_rfl
set_option maxHeartbeats 8000000 in
set_option maxRecDepth 100000 in
theorem impl_spacing_count.calls {w0 : World} (hT0 : GT w0) (g : Nat) (s : Int) (r : Bool) (A : Option Addr) (c : Nat) (l : List Int) (d : Int) (Aw : Option Addr) (nw cw mb : Nat) (hm : g ≠ mb) (hmb : w0.heap.size ≤ mb) (hr : Kd.C (Kd.int .i64) w0 A l.length l) (hc : l.length ≤ c) (k : Nat) :
  ∀ (first last more res : Int) (w : World), SpW w g s r A l.length c d Aw nw cw mb → SpMemo s r l d w mb → Below w0.heap.size w0 w → impl_spacing_count.f k s r l d first last more = some res →
  Calls Tryd.prog 50 #[.pointer (some ⟨g, 0, none⟩), .int .i64 first, .int .i64 last, .int .i64 more] w fun e w' => e = .returned (.int .i64 res) ∧ SpMemo s r l d w' mb ∧ Kept w w' (fun k => k = mb) ∧ Below w0.heap.size w0 w' := by
 induction k using Nat.strongRecOn with
 | _ k ih =>
 intro first last more res w hS hM hB h
 have AGood := Aside0.mk (show spGood s r l d (first, last, more) res from ⟨k, h⟩)
 cases k with
 | zero => exact absurd h (by simp [impl_spacing_count.f])
 | succ k =>
 simp only [impl_spacing_count.f] at h
 have HS := Aside0.mk hS
 have HB := Aside0.mk hB
 have MM := Aside0.mk hM
 have KK := Aside0.mk (Kept.refl w (fun k_ => k_ = mb))
 have HC := Aside0.mk hc
 have HR := Aside0.mk hr
 have HTT := Aside0.mk hT0
 clear hS hB hM hc hr hT0
 by_cases c0 : more = 0
 ·rw [if_pos c0] at h
  have c0b : (more == 0) = true := beq_iff_eq.mpr c0
  obtain rfl := Option.some.inj h
  clear h c0
  go_enter Tryd.func50, Tryd.ntmps50
  go_wp2
  go_ret
  exact ⟨rfl, MM.out, KK.out, HB.out⟩
 ·rw [if_neg c0] at h
  have c0b : (more == 0) = false := beq_eq_false_iff_ne.mpr c0
  clear c0
  by_cases cx : (-1 ≤ first ∧ first < 1000) ∧ (-1 ≤ last ∧ last < 1000) ∧ -1 ≤ more ∧ more < 1000
  ·rw [if_pos cx] at h
   have DOM := Aside0.mk (show spDom (first, last, more) from cx)
   clear cx
   have HH := Aside0.mk h
   clear h
   obtain ⟨D, hown0, hdom0, hgood0⟩ := MM.out
   have HO := Aside0.mk hown0
   have HD := Aside0.mk hdom0
   have HG := Aside0.mk hgood0
   clear hown0 hdom0 hgood0
   cases hh : Maps.has D (spEnc (first, last, more)) with
   | true =>
    obtain ⟨cv, hc1, hc2⟩ := HG.out (first, last, more) DOM.out hh
    obtain rfl : cv = res := by obtain ⟨k1, h1⟩ := hc2; obtain ⟨k2, h2⟩ := AGood.out; exact impl_spacing_count.same h1 h2
    have HAT := Aside0.mk hc1
    have HHAS := Aside0.mk hh
    clear hc1 hc2 hh HH
    go_enter Tryd.func50, Tryd.ntmps50
    go_wp2
    have hba := below_alloc (Below.refl w.heap.size w) (.cells #[.int .i64 first, .int .i64 last, .int .i64 more] 92 (0, 0))
    have BK := Aside0.mk (blk_new w (.cells #[.int .i64 first, .int .i64 last, .int .i64 more] 92 (0, 0)))
    have GK := Aside0.mk (show w.heap.size ≠ mb by have h_ := MM.out.lt; omega)
    have HSn := Aside0.mk (HS.out.below hba)
    have MMn := Aside0.mk (MM.out.move (hba.block _ MM.out.lt))
    have KKn := Aside0.mk (KK.out.below hba)
    have HBn := Aside0.mk (below_step HB.out hba)
    have HOn := Aside0.mk (own_move HO.out (hba.block _ HO.out.lt))
    clear HS MM KK HB HO hba
    have HS := HSn
    have MM := MMn
    have KK := KKn
    have HB := HBn
    have HO := HOn
    clear HSn MMn KKn HBn HOn
    generalize w.heap.size = gy at BK GK ⊢
    generalize World.alloc _ _ = wa at BK HS MM KK HB HO ⊢
    have hq1 : wa.cell? ⟨gy, 0, none⟩ = some (.int .i64 first) := (blk_cell BK.out 0).trans rfl
    have hq2 : wa.cell? ⟨gy, 1, none⟩ = some (.int .i64 last) := (blk_cell BK.out 1).trans rfl
    have hq3 : wa.cell? ⟨gy, 2, none⟩ = some (.int .i64 more) := (blk_cell BK.out 2).trans rfl
    have hq4 := HS.out.cell.2.2.2.2.2
    have hu73 := Tryd.underlying92
    refine start_ (n := 11) (S := fun w' => w'.cell? ⟨gy, 0, none⟩ = some (.int .i64 first) ∧ w'.cell? ⟨gy, 1, none⟩ = some (.int .i64 last) ∧ w'.cell? ⟨gy, 2, none⟩ = some (.int .i64 more) ∧ w'.cell? ⟨g, 5, none⟩ = some (.map (some mb))) (ds := []) #[false, false, false, false, false, false, false, false, false, false, false] (by kernel_rfl) rfl rfl ⟨((below_drew1 (Below.refl _ _)).cell (World.block_lt_of_cell? _ _ hq1)).trans hq1, ((below_drew1 (Below.refl _ _)).cell (World.block_lt_of_cell? _ _ hq2)).trans hq2, ((below_drew1 (Below.refl _ _)).cell (World.block_lt_of_cell? _ _ hq3)).trans hq3, ((below_drew1 (Below.refl _ _)).cell (World.block_lt_of_cell? _ _ hq4)).trans hq4⟩ (fun hHeld => ?_)
    refine with_tabW impl_spacing_count.tab4 impl_spacing_count.bits4 (fun HT_ HW_ => ?_)
    obtain ⟨HS, BK, MM, KK, HB⟩ := spstep HS BK MM KK HB (below_drew1 (Below.refl _ _))
    have HO2 := Aside0.mk (own_move HO.out ((below_drew1 (Below.refl _ _)).block _ HO.out.lt))
    clear HO
    have HO := HO2
    clear HO2 hq1 hq2 hq3 hq4
    generalize World.drew _ = w2 at HS BK MM KK HB HO hHeld ⊢
    refine pi_ (i := 0) (N := some 21) (v := ?_) (a' := ?_) (bm 11 1) rfl rfl HT_ (by kernel_rfl) (fun _ _ _ h => h) (Or.inl ⟨by rfl, ?_⟩) ?_ ?_
    rotate_left
    ·intro w'
     go_simp
     with_reducible rfl
    rotate_left
    ·simp only [Act.put, pp_]
     rfl
    refine pi_ (i := 1) (N := some 22) (v := ?_) (a' := ?_) (bm 11 3) rfl rfl HT_ (by kernel_rfl) (fun _ _ _ h => h) (Or.inl ⟨by rfl, ?_⟩) ?_ ?_
    rotate_left
    ·intro w'
     go_simp
     with_reducible rfl
    rotate_left
    ·simp only [Act.put, pp_]
     rfl
    refine pi_ (i := 2) (N := some 23) (v := ?_) (a' := ?_) (bm 11 7) rfl rfl HT_ (by kernel_rfl) (fun _ _ _ h => h) (Or.inl ⟨by rfl, ?_⟩) ?_ ?_
    rotate_left
    ·intro w'
     go_simp
     with_reducible rfl
    rotate_left
    ·simp only [Act.put, pp_]
     rfl
    refine take_ (i := 3) (N := some 24) (v := ?_) (a' := ?_) (bm 11 15) rfl rfl (take_ofW HT_.out HW_.out (by kernel_rfl)) (fun _ _ _ h => h) (Or.inl ⟨by rfl, ?_⟩) hHeld ?_ ?_
    rotate_left
    ·rintro w' ⟨s0, s1, s2, s3⟩
     go_simp
     with_reducible rfl
    rotate_left
    ·simp only [Act.put, pp_]
     rfl
    refine take_ (i := 4) (N := some 25) (v := ?_) (a' := ?_) (bm 11 31) rfl rfl (take_ofW HT_.out HW_.out (by kernel_rfl)) (fun _ _ _ h => h) (Or.inl ⟨by rfl, ?_⟩) hHeld ?_ ?_
    rotate_left
    ·rintro w' ⟨s0, s1, s2, s3⟩
     go_simp
     with_reducible rfl
    rotate_left
    ·simp only [Act.put, pp_]
     rfl
    refine one_ (i := 5) (N := some 26) (bm 11 63) rfl rfl (one_of HT_.out (by kernel_rfl)) (by decide) (fun K hK => ?_)
    obtain ⟨cw_, hrun, hat⟩ := sp_look (first, last, more) DOM.out HO.out
    rw [HHAS.out] at hrun
    obtain rfl : cw_ = cv := (by have h_ := hat.symm.trans HAT.out; injection h_ with h_; injection h_)
    refine value_ (w1 := w2) (v := .tuple #[.int .i64 cw_, .bool true]) (by rfl) rfl ?_ ?_
    ·first | (go_simp; done) | (go_simp; simp only [hrun]; done) | (go_simp; simp only [hrun]; rfl)
    clear hrun hat
    refine hK.out _ _ ⟨(blk_cell BK.out 0).trans rfl, (blk_cell BK.out 1).trans rfl, (blk_cell BK.out 2).trans rfl, HS.out.cell.2.2.2.2.2⟩ (fun hHeld => ?_)
    clear hK K
    refine norm_ (a' := ?_) ?_ ?_
    rotate_left
    ·show Act.put _ (some 26) _ = _
     simp only [Act.put, pp_]
     rfl
    refine pi_ (i := 6) (N := some 20) (v := ?_) (a' := ?_) (bm 11 127) rfl rfl HT_ (by kernel_rfl) (fun _ _ _ h => h) (Or.inl ⟨by rfl, ?_⟩) ?_ ?_
    rotate_left
    ·intro w'
     go_simp
     with_reducible rfl
    rotate_left
    ·simp only [Act.put, pp_]
     rfl
    refine pi_ (i := 7) (N := some 27) (v := ?_) (a' := ?_) (bm 11 255) rfl rfl HT_ (by kernel_rfl) (fun _ _ _ h => h) (Or.inl ⟨by rfl, ?_⟩) ?_ ?_
    rotate_left
    ·intro w'
     go_simp
     with_reducible rfl
    rotate_left
    ·simp only [Act.put, pp_]
     rfl
    refine pi_ (i := 8) (N := some 28) (v := ?_) (a' := ?_) (bm 11 511) rfl rfl HT_ (by kernel_rfl) (fun _ _ _ h => h) (Or.inl ⟨by rfl, ?_⟩) ?_ ?_
    rotate_left
    ·intro w'
     go_simp
     with_reducible rfl
    rotate_left
    ·simp only [Act.put, pp_]
     rfl
    refine pi_ (i := 9) (N := some 10) (v := ?_) (a' := ?_) (bm 11 1023) rfl rfl HT_ (by kernel_rfl) (fun _ _ _ h => h) (Or.inl ⟨by rfl, ?_⟩) ?_ ?_
    rotate_left
    ·intro w'
     go_simp
     with_reducible rfl
    rotate_left
    ·simp only [Act.put, pp_]
     rfl
    refine pi_ (i := 10) (N := some 11) (v := ?_) (a' := ?_) (bm 11 2047) rfl rfl HT_ (by kernel_rfl) (fun _ _ _ h => h) (Or.inl ⟨by rfl, ?_⟩) ?_ ?_
    rotate_left
    ·intro w'
     go_simp
     with_reducible rfl
    rotate_left
    ·simp only [Act.put, pp_]
     rfl
    refine done_ (done_of HT_.out (by kernel_rfl)) ?_

    try go_wp2
    go_ret
    exact ⟨rfl, MM.out, KK.out, HB.out⟩
   | false =>
    have HHAS := Aside0.mk hh
    clear hh
    go_enter Tryd.func50, Tryd.ntmps50
    go_wp2
    have hba := below_alloc (Below.refl w.heap.size w) (.cells #[.int .i64 first, .int .i64 last, .int .i64 more] 92 (0, 0))
    have BK := Aside0.mk (blk_new w (.cells #[.int .i64 first, .int .i64 last, .int .i64 more] 92 (0, 0)))
    have GK := Aside0.mk (show w.heap.size ≠ mb by have h_ := MM.out.lt; omega)
    have HSn := Aside0.mk (HS.out.below hba)
    have MMn := Aside0.mk (MM.out.move (hba.block _ MM.out.lt))
    have KKn := Aside0.mk (KK.out.below hba)
    have HBn := Aside0.mk (below_step HB.out hba)
    have HOn := Aside0.mk (own_move HO.out (hba.block _ HO.out.lt))
    clear HS MM KK HB HO hba
    have HS := HSn
    have MM := MMn
    have KK := KKn
    have HB := HBn
    have HO := HOn
    clear HSn MMn KKn HBn HOn
    generalize w.heap.size = gy at BK GK ⊢
    generalize World.alloc _ _ = wa at BK HS MM KK HB HO ⊢
    have hq1 : wa.cell? ⟨gy, 0, none⟩ = some (.int .i64 first) := (blk_cell BK.out 0).trans rfl
    have hq2 : wa.cell? ⟨gy, 1, none⟩ = some (.int .i64 last) := (blk_cell BK.out 1).trans rfl
    have hq3 : wa.cell? ⟨gy, 2, none⟩ = some (.int .i64 more) := (blk_cell BK.out 2).trans rfl
    have hq4 := HS.out.cell.2.2.2.2.2
    have hu73 := Tryd.underlying92
    refine start_ (n := 11) (S := fun w' => w'.cell? ⟨gy, 0, none⟩ = some (.int .i64 first) ∧ w'.cell? ⟨gy, 1, none⟩ = some (.int .i64 last) ∧ w'.cell? ⟨gy, 2, none⟩ = some (.int .i64 more) ∧ w'.cell? ⟨g, 5, none⟩ = some (.map (some mb))) (ds := []) #[false, false, false, false, false, false, false, false, false, false, false] (by kernel_rfl) rfl rfl ⟨((below_drew1 (Below.refl _ _)).cell (World.block_lt_of_cell? _ _ hq1)).trans hq1, ((below_drew1 (Below.refl _ _)).cell (World.block_lt_of_cell? _ _ hq2)).trans hq2, ((below_drew1 (Below.refl _ _)).cell (World.block_lt_of_cell? _ _ hq3)).trans hq3, ((below_drew1 (Below.refl _ _)).cell (World.block_lt_of_cell? _ _ hq4)).trans hq4⟩ (fun hHeld => ?_)
    refine with_tabW impl_spacing_count.tab4 impl_spacing_count.bits4 (fun HT_ HW_ => ?_)
    obtain ⟨HS, BK, MM, KK, HB⟩ := spstep HS BK MM KK HB (below_drew1 (Below.refl _ _))
    have HO2 := Aside0.mk (own_move HO.out ((below_drew1 (Below.refl _ _)).block _ HO.out.lt))
    clear HO
    have HO := HO2
    clear HO2 hq1 hq2 hq3 hq4
    generalize World.drew _ = w2 at HS BK MM KK HB HO hHeld ⊢
    refine pi_ (i := 0) (N := some 21) (v := ?_) (a' := ?_) (bm 11 1) rfl rfl HT_ (by kernel_rfl) (fun _ _ _ h => h) (Or.inl ⟨by rfl, ?_⟩) ?_ ?_
    rotate_left
    ·intro w'
     go_simp
     with_reducible rfl
    rotate_left
    ·simp only [Act.put, pp_]
     rfl
    refine pi_ (i := 1) (N := some 22) (v := ?_) (a' := ?_) (bm 11 3) rfl rfl HT_ (by kernel_rfl) (fun _ _ _ h => h) (Or.inl ⟨by rfl, ?_⟩) ?_ ?_
    rotate_left
    ·intro w'
     go_simp
     with_reducible rfl
    rotate_left
    ·simp only [Act.put, pp_]
     rfl
    refine pi_ (i := 2) (N := some 23) (v := ?_) (a' := ?_) (bm 11 7) rfl rfl HT_ (by kernel_rfl) (fun _ _ _ h => h) (Or.inl ⟨by rfl, ?_⟩) ?_ ?_
    rotate_left
    ·intro w'
     go_simp
     with_reducible rfl
    rotate_left
    ·simp only [Act.put, pp_]
     rfl
    refine take_ (i := 3) (N := some 24) (v := ?_) (a' := ?_) (bm 11 15) rfl rfl (take_ofW HT_.out HW_.out (by kernel_rfl)) (fun _ _ _ h => h) (Or.inl ⟨by rfl, ?_⟩) hHeld ?_ ?_
    rotate_left
    ·rintro w' ⟨s0, s1, s2, s3⟩
     go_simp
     with_reducible rfl
    rotate_left
    ·simp only [Act.put, pp_]
     rfl
    refine take_ (i := 4) (N := some 25) (v := ?_) (a' := ?_) (bm 11 31) rfl rfl (take_ofW HT_.out HW_.out (by kernel_rfl)) (fun _ _ _ h => h) (Or.inl ⟨by rfl, ?_⟩) hHeld ?_ ?_
    rotate_left
    ·rintro w' ⟨s0, s1, s2, s3⟩
     go_simp
     with_reducible rfl
    rotate_left
    ·simp only [Act.put, pp_]
     rfl
    refine one_ (i := 5) (N := some 26) (bm 11 63) rfl rfl (one_of HT_.out (by kernel_rfl)) (by decide) (fun K hK => ?_)
    obtain ⟨cw_, hrun, hat⟩ := sp_look (first, last, more) DOM.out HO.out
    rw [HHAS.out] at hrun
    refine value_ (w1 := w2) (v := .tuple #[.int .i64 cw_, .bool false]) (by rfl) rfl ?_ ?_
    ·first | (go_simp; done) | (go_simp; simp only [hrun]; done) | (go_simp; simp only [hrun]; rfl)
    clear hrun hat
    refine hK.out _ _ ⟨(blk_cell BK.out 0).trans rfl, (blk_cell BK.out 1).trans rfl, (blk_cell BK.out 2).trans rfl, HS.out.cell.2.2.2.2.2⟩ (fun hHeld => ?_)
    clear hK K
    refine norm_ (a' := ?_) ?_ ?_
    rotate_left
    ·show Act.put _ (some 26) _ = _
     simp only [Act.put, pp_]
     rfl
    refine pi_ (i := 6) (N := some 20) (v := ?_) (a' := ?_) (bm 11 127) rfl rfl HT_ (by kernel_rfl) (fun _ _ _ h => h) (Or.inl ⟨by rfl, ?_⟩) ?_ ?_
    rotate_left
    ·intro w'
     go_simp
     with_reducible rfl
    rotate_left
    ·simp only [Act.put, pp_]
     rfl
    refine pi_ (i := 7) (N := some 27) (v := ?_) (a' := ?_) (bm 11 255) rfl rfl HT_ (by kernel_rfl) (fun _ _ _ h => h) (Or.inl ⟨by rfl, ?_⟩) ?_ ?_
    rotate_left
    ·intro w'
     go_simp
     with_reducible rfl
    rotate_left
    ·simp only [Act.put, pp_]
     rfl
    refine pi_ (i := 8) (N := some 28) (v := ?_) (a' := ?_) (bm 11 511) rfl rfl HT_ (by kernel_rfl) (fun _ _ _ h => h) (Or.inl ⟨by rfl, ?_⟩) ?_ ?_
    rotate_left
    ·intro w'
     go_simp
     with_reducible rfl
    rotate_left
    ·simp only [Act.put, pp_]
     rfl
    refine pi_ (i := 9) (N := some 10) (v := ?_) (a' := ?_) (bm 11 1023) rfl rfl HT_ (by kernel_rfl) (fun _ _ _ h => h) (Or.inl ⟨by rfl, ?_⟩) ?_ ?_
    rotate_left
    ·intro w'
     go_simp
     with_reducible rfl
    rotate_left
    ·simp only [Act.put, pp_]
     rfl
    refine pi_ (i := 10) (N := some 11) (v := ?_) (a' := ?_) (bm 11 2047) rfl rfl HT_ (by kernel_rfl) (fun _ _ _ h => h) (Or.inl ⟨by rfl, ?_⟩) ?_ ?_
    rotate_left
    ·intro w'
     go_simp
     with_reducible rfl
    rotate_left
    ·simp only [Act.put, pp_]
     rfl
    refine done_ (done_of HT_.out (by kernel_rfl)) ?_

    have H' := HH
    clear HH HO HD HG HHAS
    go_wp2
    go_loopg [12, 13] k (fun kq v12 v13 w' => ∃ (acc x : Int), v12 = .int .i64 acc ∧ v13 = .int .i64 x ∧ Aside0 ((Lit.int .i64 acc).wf = true) ∧ Aside0 (impl_spacing_count.l0 kq s r l d first last more x acc = some res) ∧ Aside0 (kq ≤ k) ∧ Aside0 (SpW w' g s r A l.length c d Aw nw cw mb) ∧ Aside0 (w'.heap[gy]? = some (.cells #[.int .i64 first, .int .i64 last, .int .i64 more] 92 (0, 0))) ∧ Aside0 (SpMemo s r l d w' mb) ∧ Aside0 (Kept w w' (fun k_ => k_ = mb)) ∧ Aside0 (Below w0.heap.size w0 w'))
    case atStart => exact ⟨0, _, rfl, rfl, ⟨by decide⟩, H', ⟨Nat.le_refl _⟩, HS, BK, MM, KK, HB⟩
    case round =>
     clear H' HS BK MM KK HB
     obtain ⟨acc, x, rfl, rfl, HWF, HA, HK1, HS, BK, MM, KK, HB⟩ := hrel
     cases gk with
     | zero => exact absurd HA.out (by simp [impl_spacing_count.l0])
     | succ k1 =>
      have H := HA.out
      clear HA
      simp only [impl_spacing_count.l0] at H
      obtain ⟨e0, _, _, _, _, e5⟩ := HS.out.cell
      by_cases c9 : x < s
      ·rw [if_pos c9] at H
       have c9b0 : decide (x < s) = true := decide_eq_true c9
       clear c9
       replace H := Option.bind_eq_some_iff.mp H
       obtain ⟨t, A40, H⟩ := H
       have AF := Aside0.mk A40
       clear A40
       cases t with
       | false =>
        rw [if_neg (by decide)] at H
        have H' := Aside0.mk H
        clear H
        go_wp2_with (first | (go_at_call 79; (with_reducible refine (impl_spacing_follows.calls k1 g s r A c l d Aw nw cw mb first last x _ _ (HTT.out.below HB.out) HS.out (Kd.C_below HR.out HB.out) HC.out AF.out).mono ?_); rintro e w3 ⟨rfl, hb⟩; obtain ⟨HS, BK, MM, KK, HB⟩ := spstep HS BK MM KK HB hb; clear hb e0 e5))
        go_roundg k1
        case measure => have h_ := HK1.out; omega
        case rel => exact ⟨_, (wrap64 (x + 1)), (by first | rfl | (simp [i64_w]; done)), (by first | rfl | (simp; done) | (simp [*]; done)), ⟨HWF.out⟩, H', ⟨by have h_ := HK1.out; omega⟩, HS, BK, MM, KK, HB⟩
       | true =>
        rw [if_pos rfl] at H
        simp only [impl_spacing_head.f, Option.bind_some] at H
        obtain ⟨hv, hhv⟩ : ∃ hv, (if first < 0 then x else first) = hv := ⟨_, rfl⟩
        rw [hhv] at H
        have HV := Aside0.mk hhv
        clear hhv
        replace H := Option.bind_eq_some_iff.mp H
        obtain ⟨n1, A50, H⟩ := H
        have AC := Aside0.mk A50
        have H' := Aside0.mk H
        clear A50 H
        go_wp2_with (first | (go_at_call 79; (with_reducible refine (impl_spacing_follows.calls k1 g s r A c l d Aw nw cw mb first last x _ _ (HTT.out.below HB.out) HS.out (Kd.C_below HR.out HB.out) HC.out AF.out).mono ?_); rintro e w3 ⟨rfl, hb⟩; obtain ⟨HS, BK, MM, KK, HB⟩ := spstep HS BK MM KK HB hb; clear hb e0 e5) | (go_at_call 80; (with_reducible refine (impl_spacing_head.calls g first x _).mono ?_); rintro e w4 ⟨he_, hd_⟩; rw [HV.out] at he_; subst he_; have hb := sp_drawn hd_; clear hd_; obtain ⟨HS, BK, MM, KK, HB⟩ := spstep HS BK MM KK HB hb; clear hb) | (go_at_call 50; (with_reducible refine (ih k1 (by have h_ := HK1.out; omega) hv x (wrap64 (more - 1)) n1 _ HS.out MM.out HB.out AC.out).mono ?_); rintro e w8 ⟨rfl, hM2, hK2, hB2⟩; have HS2 := Aside0.mk (HS.out.kept hK2 hm); have BK2 := Aside0.mk (blk_kept BK.out hK2 GK.out); have KK2 := Aside0.mk (KK.out.then_ hK2 (fun _ h_ => .inl h_)); clear HS BK MM KK HB; have HS := HS2; have BK := BK2; have KK := KK2; have MM := Aside0.mk hM2; have HB := Aside0.mk hB2; clear HS2 BK2 KK2 hM2 hK2 hB2))
        go_roundg k1
        case measure => have h_ := HK1.out; omega
        case rel => exact ⟨_, (wrap64 (x + 1)), (by first | rfl | (simp [i64_w]; done)), (by first | rfl | (simp; done) | (simp [*]; done)), ⟨sp_wrap _⟩, H', ⟨by have h_ := HK1.out; omega⟩, HS, BK, MM, KK, HB⟩
      ·rw [if_neg c9] at H
       have c9b0 : decide (x < s) = false := decide_eq_false c9
       clear c9
       obtain rfl := Option.some.inj H
       clear H
       have hq1 := (blk_cell BK.out 0).trans (show (#[.int .i64 first, .int .i64 last, .int .i64 more] : Array Value)[0]? = some (.int .i64 first) from rfl)
       have hq2 := (blk_cell BK.out 1).trans (show (#[.int .i64 first, .int .i64 last, .int .i64 more] : Array Value)[1]? = some (.int .i64 last) from rfl)
       have hq3 := (blk_cell BK.out 2).trans (show (#[.int .i64 first, .int .i64 last, .int .i64 more] : Array Value)[2]? = some (.int .i64 more) from rfl)
       have hq4 := HS.out.cell.2.2.2.2.2
       have hu73 := Tryd.underlying92
       go_wp2
       refine start_ (n := 7) (S := fun w' => w'.cell? ⟨gy, 0, none⟩ = some (.int .i64 first) ∧ w'.cell? ⟨gy, 1, none⟩ = some (.int .i64 last) ∧ w'.cell? ⟨gy, 2, none⟩ = some (.int .i64 more) ∧ w'.cell? ⟨g, 5, none⟩ = some (.map (some mb))) (ds := [6]) #[false, false, false, false, false, false, false] (by kernel_rfl) rfl rfl ⟨((below_drew1 (Below.refl _ _)).cell (World.block_lt_of_cell? _ _ hq1)).trans hq1, ((below_drew1 (Below.refl _ _)).cell (World.block_lt_of_cell? _ _ hq2)).trans hq2, ((below_drew1 (Below.refl _ _)).cell (World.block_lt_of_cell? _ _ hq3)).trans hq3, ((below_drew1 (Below.refl _ _)).cell (World.block_lt_of_cell? _ _ hq4)).trans hq4⟩ (fun hHeld => ?_)
       refine with_tabW impl_spacing_count.tab13 impl_spacing_count.bits13 (fun HT_ HW_ => ?_)
       obtain ⟨HS, BK, MM, KK, HB⟩ := spstep HS BK MM KK HB (below_drew1 (Below.refl _ _))
       clear hq1 hq2 hq3 hq4
       generalize World.drew _ = w8 at HS BK MM KK HB hHeld ⊢
       refine pi_ (i := 0) (N := some 58) (v := ?_) (a' := ?_) (bm 7 1) rfl rfl HT_ (by kernel_rfl) (fun _ _ _ h => h) (Or.inl ⟨by rfl, ?_⟩) ?_ ?_
       rotate_left
       ·intro w'
        go_simp
        with_reducible rfl
       rotate_left
       ·simp only [Act.put, pp_]
        rfl
       refine pi_ (i := 1) (N := some 59) (v := ?_) (a' := ?_) (bm 7 3) rfl rfl HT_ (by kernel_rfl) (fun _ _ _ h => h) (Or.inl ⟨by rfl, ?_⟩) ?_ ?_
       rotate_left
       ·intro w'
        go_simp
        with_reducible rfl
       rotate_left
       ·simp only [Act.put, pp_]
        rfl
       refine pi_ (i := 2) (N := some 60) (v := ?_) (a' := ?_) (bm 7 7) rfl rfl HT_ (by kernel_rfl) (fun _ _ _ h => h) (Or.inl ⟨by rfl, ?_⟩) ?_ ?_
       rotate_left
       ·intro w'
        go_simp
        with_reducible rfl
       rotate_left
       ·simp only [Act.put, pp_]
        rfl
       refine pi_ (i := 5) (N := some 63) (v := ?_) (a' := ?_) (bm 7 39) rfl rfl HT_ (by kernel_rfl) (fun _ _ _ h => h) (Or.inl ⟨by rfl, ?_⟩) ?_ ?_
       rotate_left
       ·intro w'
        go_simp
        with_reducible rfl
       rotate_left
       ·simp only [Act.put, pp_]
        rfl
       refine take_ (i := 3) (N := some 61) (v := ?_) (a' := ?_) (bm 7 47) rfl rfl (take_ofW HT_.out HW_.out (by kernel_rfl)) (fun _ _ _ h => h) (Or.inl ⟨by rfl, ?_⟩) hHeld ?_ ?_
       rotate_left
       ·rintro w' ⟨s0, s1, s2, s3⟩
        go_simp
        with_reducible rfl
       rotate_left
       ·simp only [Act.put, pp_]
        rfl
       refine take_ (i := 4) (N := some 62) (v := ?_) (a' := ?_) (bm 7 63) rfl rfl (take_ofW HT_.out HW_.out (by kernel_rfl)) (fun _ _ _ h => h) (Or.inl ⟨by rfl, ?_⟩) hHeld ?_ ?_
       rotate_left
       ·rintro w' ⟨s0, s1, s2, s3⟩
        go_simp
        with_reducible rfl
       rotate_left
       ·simp only [Act.put, pp_]
        rfl
       refine last_ (i := 6) (N := none) (bm 7 127) rfl rfl (one_of HT_.out (by kernel_rfl)) (by decide) (fun K hK => ?_)
       obtain ⟨D2, hown0, hdom0, hgood0⟩ := MM.out
       obtain ⟨w9, hrun, hown9, hgrow9⟩ := hown0.update sp_law Tryd.underlying89 (Nat.lt_of_le_of_lt (sp_size hown0 hdom0) (by unfold maxLen; omega)) (key := .agg #[.int .i64 first, .int .i64 last, .int .i64 more]) (sp_keyOf (first, last, more) DOM.out) (plainElem_int Tryd.underlying3 HWF.out)
       have hM9 := Memo.store (good := spGood s r l d) sp_law (show WideAt.IsKeyLit (spEnc (first, last, more)) from trivial) DOM.out (fun y hdy hy => sp_inj y _ hdy DOM.out hy) hown0.isMap hdom0 hgood0 AGood.out hown9
       refine skip_ (w1 := w9) (by rfl) rfl ?_ ?_
       ·first | (go_simp; done) | (go_simp; simp only [hrun]; done) | (go_simp; simp only [hrun]; rfl)
       have MM9 := Aside0.mk hM9
       have KK9 := Aside0.mk (KK.out.of_grown hgrow9 (fun k_ hk_ => .inl (Option.some.inj hk_).symm))
       have HB9 := Aside0.mk (HB.out.grown hgrow9 HB.out.size (fun k_ hk_ => by have h_ := Option.some.inj hk_; omega))
       clear HS BK MM KK HB hrun hown9 hgrow9 hown0 hdom0 hgood0 hM9
       have MM := MM9
       have KK := KK9
       have HB := HB9
       clear MM9 KK9 HB9
       refine hK.out _ _ ?_
       clear hK K
       refine done_ (done_of HT_.out (by kernel_rfl)) ?_

       try go_wp2
       go_ret
       exact ⟨rfl, MM.out, KK.out, HB.out⟩
  ·rw [if_neg cx] at h
   exact absurd h (by simp)
theorem sp_new {w : World} {b : Nat} (s : Int) (r : Bool) (l : List Int) (d : Int) (h : w.heap[b]? = some (.map #[] 0)) : SpMemo s r l d w b :=
 ⟨.map [], own_tight (n := 0) ⟨#[], 0, h, ⟨by simp, MapKept.stamped_empty 0, by simp⟩, Nat.le_refl _, rfl⟩, fun l h => by simp [Maps.has_eq] at h, fun x _ h => by simp [Maps.has_eq] at h⟩
theorem sp_made2 {w W w1 : World} {e : Ending} {s : Int} {r : Bool} {A : Option Addr} {n c : Nat} {d : Int} {Aw : Option Addr} {nw cw gb : Nat} {cs : Array Value} {t : TypeId} (l : List Int) (HB : Aside0 (Below w.heap.size w W)) (BK : Aside0 (W.heap[gb]? = some (.cells cs t (0, 0)))) (h : NewSp s r A n c d Aw nw cw W e w1) :
  ∃ g mb, e = .returned (.pointer (some ⟨g, 0, none⟩)) ∧ Aside0 (SpW w1 g s r A n c (mn d 25) Aw nw cw mb) ∧ Aside0 (SpMemo s r l (mn d 25) w1 mb) ∧ Aside0 (g ≠ mb) ∧ Aside0 (w.heap.size ≤ mb) ∧ Aside0 (Below w.heap.size w w1) ∧ Aside0 (w1.heap[gb]? = some (.cells cs t (0, 0))) ∧ Aside0 (gb ≠ mb) := by
 obtain ⟨g, mb, rfl, h1, h2, h3, h4, h5, h6, h7⟩ := h
 have h8 := HB.out.size
 have h9 := blk_lt BK.out
 exact ⟨g, mb, rfl, ⟨h1⟩, ⟨sp_new _ _ _ _ h2⟩, ⟨by omega⟩, ⟨by omega⟩, ⟨below_step HB.out h7⟩, ⟨blk_below BK.out h7⟩, ⟨by omega⟩⟩


/-! ### impl_GreatestSpread: function 19 -/
def impl_GreatestSpread.l0 : Nat → Int → Bool → List Int → Int → Int → Option (Int × Bool)
 | 0, _, _, _, _, _ => none
 | k + 1, s, r, l, m, x => if x ≥ 1 then ((impl_spacing_count.f k s r l (mn x 25) (-1) (-1) m).bind fun c => if c > 0 then some (x, true) else impl_GreatestSpread.l0 k s r l m (wrap64 (x - 1))) else some (0, false)
def impl_GreatestSpread.f (k : Nat) (s : Int) (r : Bool) (l : List Int) (m : Int) : Option (Int × Bool) := (impl_IsRow.f k s r l).bind fun t => if t = true then ((impl_within.f m 1 24).bind fun t2 => if t2 = true then impl_GreatestSpread.l0 k s r l m s else some (0, false)) else some (0, false)
set_option maxHeartbeats 8000000 in
set_option maxRecDepth 100000 in
theorem impl_GreatestSpread.calls (k : Nat) (a0_0 : Int) (a0_1 : Bool) (A0_2 : Option Addr) (c0_2 : Nat) (l0_2 : List Int) (a1 : Int) (r1 : Int) (r2 : Bool) (w : World) (hr0_2 : Kd.C (Kd.int .i64) w A0_2 l0_2.length l0_2) (hc0_2 : l0_2.length ≤ c0_2) (hrT : GT w) (h : impl_GreatestSpread.f k a0_0 a0_1 l0_2 a1 = some (r1, r2)) :
  Calls Tryd.prog 19 #[.agg #[.int .i64 a0_0, .bool a0_1, .slice A0_2 l0_2.length c0_2], .int .i64 a1] w fun e w' => e = .returned (.tuple #[.int .i64 r1, .bool r2]) ∧ Below w.heap.size w w' := by
 have hu28 := Tryd.underlying26
 have HTT := Aside0.mk hrT
 have HR := Aside0.mk hr0_2
 have HC := Aside0.mk hc0_2
 clear hrT hr0_2 hc0_2
 have HB := Aside0.mk (Below.refl w.heap.size w)
 unfold impl_GreatestSpread.f at h
 replace h := Option.bind_eq_some_iff.mp h
 obtain ⟨t, A10, H⟩ := h
 have A1 := Aside0.mk A10
 clear A10
 cases t with
 | false =>
  rw [if_neg (show ¬ (false = true) by decide)] at H
  simp only [Option.some.injEq, Prod.mk.injEq] at H
  obtain ⟨rfl, rfl⟩ := H
  go_enter Tryd.func19, Tryd.ntmps19
  go_wp2_with (first | ((with_reducible refine gate_dst (N := 2) rfl ?_); refine box_event ?hg (N := 2) ?hd (cs := #[.int .i64 a0_0, .bool a0_1, .slice A0_2 l0_2.length c0_2]) (t := 26) ?hr ?_; (case hd => rfl); (case hg => rfl); (case hr => first | (go_simp; done) | (go_simp; rfl)); intro gb hg_ w5 hbox hb; have n0_ := Aside0.mk (below_step HB.out hb); have BK := Aside0.mk hbox; clear HB; have HB := n0_; clear n0_; have q0_ : w5.cell? ⟨gb, 0, none⟩ = some (.int .i64 a0_0) := (blk_cell BK.out 0).trans rfl; have q1_ : w5.cell? ⟨gb, 1, none⟩ = some (.bool a0_1) := (blk_cell BK.out 1).trans rfl; have q2_ : w5.cell? ⟨gb, 2, none⟩ = some (.slice A0_2 l0_2.length c0_2) := (blk_cell BK.out 2).trans rfl; clear hbox hb hg_) | (go_at_call 38; (with_reducible refine (impl_IsRow.calls k a0_0 a0_1 _ _ l0_2 false _ (Kd.C_below HR.out HB.out) HC.out A1.out).mono ?_); rintro e w6 ⟨rfl, hb⟩; have n0_ := Aside0.mk (below_step HB.out hb); have n1_ := Aside0.mk (blk_below BK.out hb); clear HB BK q0_ q1_ q2_; have HB := n0_; have BK := n1_; clear n0_ n1_ hb; have q0_ : w6.cell? ⟨gb, 0, none⟩ = some (.int .i64 a0_0) := (blk_cell BK.out 0).trans rfl; have q1_ : w6.cell? ⟨gb, 1, none⟩ = some (.bool a0_1) := (blk_cell BK.out 1).trans rfl; have q2_ : w6.cell? ⟨gb, 2, none⟩ = some (.slice A0_2 l0_2.length c0_2) := (blk_cell BK.out 2).trans rfl))
  go_ret2
  exact ⟨rfl, HB.out⟩
 | true =>
  rw [if_pos rfl] at H
  replace H := Option.bind_eq_some_iff.mp H
  obtain ⟨t2, A20, H⟩ := H
  have A2 := Aside0.mk A20
  clear A20
  cases t2 with
  | false =>
   rw [if_neg (show ¬ (false = true) by decide)] at H
   simp only [Option.some.injEq, Prod.mk.injEq] at H
   obtain ⟨rfl, rfl⟩ := H
   go_enter Tryd.func19, Tryd.ntmps19
   go_wp2_with (first | ((with_reducible refine gate_dst (N := 2) rfl ?_); refine box_event ?hg (N := 2) ?hd (cs := #[.int .i64 a0_0, .bool a0_1, .slice A0_2 l0_2.length c0_2]) (t := 26) ?hr ?_; (case hd => rfl); (case hg => rfl); (case hr => first | (go_simp; done) | (go_simp; rfl)); intro gb hg_ w5 hbox hb; have n0_ := Aside0.mk (below_step HB.out hb); have BK := Aside0.mk hbox; clear HB; have HB := n0_; clear n0_; have q0_ : w5.cell? ⟨gb, 0, none⟩ = some (.int .i64 a0_0) := (blk_cell BK.out 0).trans rfl; have q1_ : w5.cell? ⟨gb, 1, none⟩ = some (.bool a0_1) := (blk_cell BK.out 1).trans rfl; have q2_ : w5.cell? ⟨gb, 2, none⟩ = some (.slice A0_2 l0_2.length c0_2) := (blk_cell BK.out 2).trans rfl; clear hbox hb hg_) | (go_at_call 38; (with_reducible refine (impl_IsRow.calls k a0_0 a0_1 _ _ l0_2 true _ (Kd.C_below HR.out HB.out) HC.out A1.out).mono ?_); rintro e w6 ⟨rfl, hb⟩; have n0_ := Aside0.mk (below_step HB.out hb); have n1_ := Aside0.mk (blk_below BK.out hb); clear HB BK q0_ q1_ q2_; have HB := n0_; have BK := n1_; clear n0_ n1_ hb; have q0_ : w6.cell? ⟨gb, 0, none⟩ = some (.int .i64 a0_0) := (blk_cell BK.out 0).trans rfl; have q1_ : w6.cell? ⟨gb, 1, none⟩ = some (.bool a0_1) := (blk_cell BK.out 1).trans rfl; have q2_ : w6.cell? ⟨gb, 2, none⟩ = some (.slice A0_2 l0_2.length c0_2) := (blk_cell BK.out 2).trans rfl) | (go_at_call 39; (with_reducible refine (impl_within.calls a1 1 24 false _ A2.out).mono ?_); rintro e w7 ⟨rfl, hd_⟩; have hb := sp_drawn hd_; clear hd_; have n0_ := Aside0.mk (below_step HB.out hb); have n1_ := Aside0.mk (blk_below BK.out hb); clear HB BK q0_ q1_ q2_; have HB := n0_; have BK := n1_; clear n0_ n1_ hb; have q0_ : w7.cell? ⟨gb, 0, none⟩ = some (.int .i64 a0_0) := (blk_cell BK.out 0).trans rfl; have q1_ : w7.cell? ⟨gb, 1, none⟩ = some (.bool a0_1) := (blk_cell BK.out 1).trans rfl; have q2_ : w7.cell? ⟨gb, 2, none⟩ = some (.slice A0_2 l0_2.length c0_2) := (blk_cell BK.out 2).trans rfl))
   go_ret2
   exact ⟨rfl, HB.out⟩
  | true =>
   rw [if_pos rfl] at H
   have HH := Aside0.mk H
   clear H
   go_enter Tryd.func19, Tryd.ntmps19
   go_wp2_with (first | ((with_reducible refine gate_dst (N := 2) rfl ?_); refine box_event ?hg (N := 2) ?hd (cs := #[.int .i64 a0_0, .bool a0_1, .slice A0_2 l0_2.length c0_2]) (t := 26) ?hr ?_; (case hd => rfl); (case hg => rfl); (case hr => first | (go_simp; done) | (go_simp; rfl)); intro gb hg_ w5 hbox hb; have n0_ := Aside0.mk (below_step HB.out hb); have BK := Aside0.mk hbox; clear HB; have HB := n0_; clear n0_; have q0_ : w5.cell? ⟨gb, 0, none⟩ = some (.int .i64 a0_0) := (blk_cell BK.out 0).trans rfl; have q1_ : w5.cell? ⟨gb, 1, none⟩ = some (.bool a0_1) := (blk_cell BK.out 1).trans rfl; have q2_ : w5.cell? ⟨gb, 2, none⟩ = some (.slice A0_2 l0_2.length c0_2) := (blk_cell BK.out 2).trans rfl; clear hbox hb hg_) | (go_at_call 38; (with_reducible refine (impl_IsRow.calls k a0_0 a0_1 _ _ l0_2 true _ (Kd.C_below HR.out HB.out) HC.out A1.out).mono ?_); rintro e w6 ⟨rfl, hb⟩; have n0_ := Aside0.mk (below_step HB.out hb); have n1_ := Aside0.mk (blk_below BK.out hb); clear HB BK q0_ q1_ q2_; have HB := n0_; have BK := n1_; clear n0_ n1_ hb; have q0_ : w6.cell? ⟨gb, 0, none⟩ = some (.int .i64 a0_0) := (blk_cell BK.out 0).trans rfl; have q1_ : w6.cell? ⟨gb, 1, none⟩ = some (.bool a0_1) := (blk_cell BK.out 1).trans rfl; have q2_ : w6.cell? ⟨gb, 2, none⟩ = some (.slice A0_2 l0_2.length c0_2) := (blk_cell BK.out 2).trans rfl) | (go_at_call 39; (with_reducible refine (impl_within.calls a1 1 24 true _ A2.out).mono ?_); rintro e w7 ⟨rfl, hd_⟩; have hb := sp_drawn hd_; clear hd_; have n0_ := Aside0.mk (below_step HB.out hb); have n1_ := Aside0.mk (blk_below BK.out hb); clear HB BK q0_ q1_ q2_; have HB := n0_; have BK := n1_; clear n0_ n1_ hb; have q0_ : w7.cell? ⟨gb, 0, none⟩ = some (.int .i64 a0_0) := (blk_cell BK.out 0).trans rfl; have q1_ : w7.cell? ⟨gb, 1, none⟩ = some (.bool a0_1) := (blk_cell BK.out 1).trans rfl; have q2_ : w7.cell? ⟨gb, 2, none⟩ = some (.slice A0_2 l0_2.length c0_2) := (blk_cell BK.out 2).trans rfl))
   go_loopg [6] k (fun kq v6 w' => ∃ (x : Int), v6 = .int .i64 x ∧ Aside0 (impl_GreatestSpread.l0 kq a0_0 a0_1 l0_2 a1 x = some (r1, r2)) ∧ Aside0 (kq ≤ k) ∧ Aside0 (w'.heap[gb]? = some (.cells #[.int .i64 a0_0, .bool a0_1, .slice A0_2 l0_2.length c0_2] 26 (0, 0))) ∧ Aside0 (Below w.heap.size w w'))
   case atStart => exact ⟨_, rfl, HH, ⟨Nat.le_refl _⟩, BK, HB⟩
   case round =>
    clear HH BK HB q0_ q1_ q2_
    obtain ⟨x, rfl, HA, HK1, BK, HB⟩ := hrel
    cases gk with
    | zero => exact absurd HA.out (by simp [impl_GreatestSpread.l0])
    | succ k1 =>
     have H := HA.out
     clear HA
     simp only [impl_GreatestSpread.l0] at H
     have q0_ : wr.cell? ⟨gb, 0, none⟩ = some (.int .i64 a0_0) := (blk_cell BK.out 0).trans rfl
     have q1_ : wr.cell? ⟨gb, 1, none⟩ = some (.bool a0_1) := (blk_cell BK.out 1).trans rfl
     have q2_ : wr.cell? ⟨gb, 2, none⟩ = some (.slice A0_2 l0_2.length c0_2) := (blk_cell BK.out 2).trans rfl
     by_cases c8 : x ≥ 1
     ·rw [if_pos c8] at H
      have c8b : decide (1 ≤ x) = true := decide_eq_true c8
      replace H := Option.bind_eq_some_iff.mp H
      obtain ⟨cv, A50, H⟩ := H
      have AC := Aside0.mk A50
      clear A50 c8
      by_cases c9 : cv > 0
      ·rw [if_pos c9] at H
       have c9b0 : decide (0 < cv) = true := decide_eq_true c9
       simp only [Option.some.injEq, Prod.mk.injEq] at H
       obtain ⟨rfl, rfl⟩ := H
       clear c9
       go_wp2_with (first | (go_at_call 49; (with_reducible refine (impl_newSpacing.calls a0_0 a0_1 A0_2 l0_2.length c0_2 x none 0 0 _).mono ?_); rintro e w7 hns_; obtain ⟨g, mb, rfl, HS, MM, HNE, HMB, HB2, BK2, HGB⟩ := sp_made2 l0_2 HB BK hns_; clear hns_ HB BK q0_ q1_ q2_; have HB := HB2; have BK := BK2; clear HB2 BK2) | (go_at_call 50; (with_reducible refine (impl_spacing_count.calls HTT.out g a0_0 a0_1 A0_2 c0_2 l0_2 (mn x 25) none 0 0 mb HNE.out HMB.out HR.out HC.out k1 (-1) (-1) a1 cv _ HS.out MM.out HB.out AC.out).mono ?_); rintro e w8 ⟨rfl, hM2, hK2, hB2⟩; have BK2 := Aside0.mk (blk_kept BK.out hK2 HGB.out); clear HS MM HB BK; have BK := BK2; have HB := Aside0.mk hB2; clear BK2 hM2 hK2 hB2))
       go_ret2
       exact ⟨rfl, HB.out⟩
      ·rw [if_neg c9] at H
       have c9b0 : decide (0 < cv) = false := decide_eq_false c9
       have HH := Aside0.mk H
       clear c9 H
       go_wp2_with (first | (go_at_call 49; (with_reducible refine (impl_newSpacing.calls a0_0 a0_1 A0_2 l0_2.length c0_2 x none 0 0 _).mono ?_); rintro e w7 hns_; obtain ⟨g, mb, rfl, HS, MM, HNE, HMB, HB2, BK2, HGB⟩ := sp_made2 l0_2 HB BK hns_; clear hns_ HB BK q0_ q1_ q2_; have HB := HB2; have BK := BK2; clear HB2 BK2) | (go_at_call 50; (with_reducible refine (impl_spacing_count.calls HTT.out g a0_0 a0_1 A0_2 c0_2 l0_2 (mn x 25) none 0 0 mb HNE.out HMB.out HR.out HC.out k1 (-1) (-1) a1 cv _ HS.out MM.out HB.out AC.out).mono ?_); rintro e w8 ⟨rfl, hM2, hK2, hB2⟩; have BK2 := Aside0.mk (blk_kept BK.out hK2 HGB.out); clear HS MM HB BK; have BK := BK2; have HB := Aside0.mk hB2; clear BK2 hM2 hK2 hB2))
       go_roundg k1
       case measure => have h_ := HK1.out; omega
       case rel => exact ⟨wrap64 (x - 1), (by first | rfl | (simp; done) | (simp [*]; done)), HH, ⟨by have h_ := HK1.out; omega⟩, BK, HB⟩
     ·rw [if_neg c8] at H
      have c8b : decide (1 ≤ x) = false := decide_eq_false c8
      simp only [Option.some.injEq, Prod.mk.injEq] at H
      obtain ⟨rfl, rfl⟩ := H
      clear c8
      go_wp2
      go_ret2
      exact ⟨rfl, HB.out⟩


end Go.Proofs.YtaebbgkoaaigbaaDoor.PFnSpread
