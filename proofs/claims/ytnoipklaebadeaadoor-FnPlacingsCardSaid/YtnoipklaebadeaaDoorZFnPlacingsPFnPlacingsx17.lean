import Derived.Test.YtnoipklaebadeaaDoorZFnPlacingsPFnPlacingsx0
import Derived.Test.YtnoipklaebadeaaDoorZFnPlacingsPFnPlacingsx13
namespace Go.Proofs.YtnoipklaebadeaaDoor.PFnPlacings
open Go.RowKit Go.Proofs.YtnoipklaebadeaaDoorW.PrintWords Go.Proofs.YtnoipklaebadeaaDoorW.PrintLast Go.Proofs.YtnoipklaebadeaaDoorW.PrintMore
attribute [local go_sem] max2_int min2_int max_two min_two max_three min_three max_four min_four   -- for this text's walks alone
set_option linter.unusedVariables false
set_option linter.unusedSimpArgs false

/-! ### impl_Row_placings_1: function 49 -/
theorem own_front {w : World} {base : Nat} {e : TypeId} {size g n m cap : Nat} {xs ys : List Value} (h : w.ownsRow base e size (.slice (some ⟨g, 0, none⟩) (n + m) cap) (n + m) (xs ++ ys)) (hx : xs.length = n * size) : w.ownsRow base e size (.slice (some ⟨g, 0, none⟩) n cap) n xs := by
 obtain ⟨h1, h2⟩ := h
 rcases h2 with ⟨h0, _⟩ | ⟨g', cap', cur, hv, hbg, hg, hnc, hcm, hcs, htake⟩
 ·cases h0
 ·cases hv
  refine ⟨hx, .inr ⟨g, cap, cur, rfl, hbg, hg, by omega, hcm, hcs, ?_⟩⟩
  have h3 : (cur.toList.take ((n + m) * size)).take (n * size) = (xs ++ ys).take (n * size) := by rw [htake]
  rw [List.take_take, Nat.min_eq_left (Nat.mul_le_mul_right _ (by omega)), ← hx, List.take_left] at h3
  exact hx ▸ h3
/-- An append that leaves what was there: the elder slice is told on, in its own array or in the one that was left. -/
theorem run_append_keep {P : Program} (w : World) (base : Nat) (t ty e : TypeId) (i : TypeInfo) (z : Value) (size bytes : Nat) (ht : P.underlying t = some (.slice e)) (hi : P.info? e = some i) (hz : i.zero = some z)
  (hsize : i.size = size) (hby : i.bytes = bytes) (hzs : z.cells.size = size) (hsz : 0 < size)
  (v : Value) (n : Nat) (xs : List Value) (hown : w.ownsRow base e size v n xs)
  (a : Addr) (m c : Nat) (news : List Value) (hl : news.length = m * size) (hnews : ∀ j u, news[j]? = some u → w.cell? (a.add j) = some u) (h1 : ∀ u ∈ news, u.oneCell' = true)
  (h63 : n + m ≤ maxLen) (hbytes : ((n + m) + (n + m) / 4 + 192) * bytes ≤ 281474976710656) (hbase : base ≤ w.heap.size) :
  ∃ v' w', (Builtin.append_ #[t, t] ty #[v, .slice (some a) m c]).run P w = .ok v' w' ∧ w'.ownsRow base e size v' (n + m) (xs ++ news) ∧ w.grownBy w' v.ownBlock ∧ w'.ownsRow base e size v n xs ∧
   (∀ k, v.ownBlock = some k → v'.ownBlock = some k ∨ w'.heap[k]? = w.heap[k]?) := by
 obtain ⟨v', w', hr, ho, hg, _⟩ := run_append_own_wide (P := P) w base t ty e i z size bytes ht hi hz hsize hby hzs hsz v n xs hown a m c news hl hnews h1 h63 hbytes hbase
 refine ⟨v', w', hr, ho, hg, ?_⟩
 rcases hown.2 with ⟨rfl, rfl⟩ | ⟨g, cap, cur, rfl, hbg, hgc, hnc, hcm, hcs, htake⟩
 ·exact ⟨⟨hown.1, .inl ⟨rfl, rfl⟩⟩, fun k hk => by simp [Value.ownBlock] at hk⟩
 ·by_cases hroom : n + m ≤ cap
  ·obtain ⟨w2, hr2, ho2, _⟩ := run_append_own_spare (P := P) w base t ty e i size ht hi hsize g n cap xs hown a m c news hl hnews h1 hroom
   rw [hr] at hr2
   injection hr2 with hv hw
   subst hv hw
   exact ⟨own_front ho2 hown.1, fun k hk => .inl hk⟩
  ·have hr2 := run_append_grow (P := P) w t ty e i z ht hi hz ⟨g, 0, none⟩ n cap xs (by rw [hsize]; exact hown.1) (fun j u hu => by
    have := hown.cellAt j (by
     have := (List.getElem?_eq_some_iff.1 hu).1
     rw [hown.1] at this; exact this)
    rw [add_plain]
    rw [this]; exact hu) a m c news (by rw [hsize]; exact hl) hnews (by omega) (by simp only [maxLen] at h63; omega) (by rw [hby]; exact growslice_fits_wide (by omega) hbytes)
   rw [hr] at hr2
   injection hr2 with hv hw
   have hk : w'.heap[g]? = w.heap[g]? := by rw [hw]; exact heap_alloc_old w.drew _ (blk_lt hgc)
   exact ⟨⟨hown.1, .inr ⟨g, cap, cur, rfl, hbg, hk.trans hgc, hnc, hcm, hcs, htake⟩⟩, fun k hk2 => .inr (by
    simp only [Value.ownBlock, Option.some.injEq] at hk2
    subst hk2; exact hk)⟩
section
variable {P : Program} {md : Region.Mode} {ops : Array Oper} {Q : Exit → Act → World → Prop} {α : Type}
/-- R_append_step, and the elder slice is told on. -/
theorem Kd.R_append_keep {o : Oper} {a : Act} {Kc : Act → World → Prop} (d : Kd α) {w0 W : World} (base : Nat) (hw : Region.wanted o (yielded ops a.tmps) = true) (s x : Operand) (t e : TypeId) (z : Value) (bytes : Nat)
  (ho : o.op = .call { callee := .builtin .append, args := #[s, x], argTypes := #[t, t] })
  (ht : P.underlying t = some (.slice e)) (hinfo : (P.info? e).map (fun i => (i.zero, i.size, i.bytes)) = some (some z, d.sz, bytes)) (hz : z.cells.size = d.sz) (hs0 : 0 < d.sz)
  (v : Value) (xs : List α) (p : α) (cs : List Value) (ok okp : Nat → Prop) (ad : Addr) (cx : Nat) (hs : a.eval s = v) (hx : a.eval x = .slice (some ad) 1 cx) (hcell : ∀ j u, cs[j]? = some u → W.cell? (ad.add j) = some u) (hp : d.M W base okp p cs) (hokp : ∀ k, okp k → ok k ∧ some k ≠ v.ownBlock) (hfresh : ∀ k, W.heap.size ≤ k → ok k)
  (HO : d.R e W base ok v xs) (HB : Below base w0 W) (hbase : base ≤ W.heap.size) (hl : xs.length ≤ 1000000) (hby : bytes ≤ 64)
  (h : ∀ v1 w1, d.R e w1 base ok v1 (xs ++ [p]) → d.R e w1 base ok v xs → Below base w0 w1 → W.grownBy w1 v.ownBlock → (v1.ownBlock = v.ownBlock ∨ ∃ b, v1.ownBlock = some b ∧ W.heap.size ≤ b) → Kc (a.put o.dst v1) w1) :
  if Region.wanted o (yielded ops a.tmps) = true then Oper.wp P o a W Kc Q else Kc (a.put o.dst undef) W := by
 obtain ⟨h0, inner, hown, hr⟩ := HO
 obtain ⟨i0, hi, hzz⟩ := Option.map_eq_some_iff.1 hinfo
 simp only [Prod.mk.injEq] at hzz
 obtain ⟨hz0, hz1, hz2⟩ := hzz
 have hcl : cs.length = d.sz := d.K_len (d.K_of_M hp)
 have hbt : ((xs.length + 1) + (xs.length + 1) / 4 + 192) * bytes ≤ 281474976710656 := Nat.le_trans (Nat.mul_le_mul_left _ hby) (by omega)
 rw [if_pos hw]
 obtain ⟨v1, w1, hrun, hown1, hg, hold, hat⟩ := run_append_keep (P := P) W base t o.type e i0 z d.sz bytes ht hi hz0 hz1 hz2 hz hs0 v xs.length inner hown ad 1 cx cs (by rw [hcl]; omega) hcell (d.K_one (d.K_of_M hp)) (by simp only [maxLen]; omega) hbt hbase
 obtain ⟨v2, w2, hrun2, _, _, _, hat2⟩ := run_append_own_at (P := P) W base t o.type e i0 z d.sz bytes ht hi hz0 hz1 hz2 hz hs0 v xs.length inner hown ad 1 cx cs (by rw [hcl]; omega) hcell (d.K_one (d.K_of_M hp)) (by simp only [maxLen]; omega) (Nat.le_trans (Nat.mul_le_mul_left _ hby) (by omega)) hbase
 rw [hrun] at hrun2
 injection hrun2 with hv2 hw2
 subst hv2 hw2
 unfold Oper.wp execOp
 simp only [ho, resolve, invoke, builtin, Sem.run_bind, Sem.run_pure, Result.andThen_ok, List.map_toArray, List.map_cons, List.map_nil, hs, hx, hrun]
 have hat' : v1.ownBlock = v.ownBlock ∨ ∃ b, v1.ownBlock = some b ∧ W.heap.size ≤ b := by
  rcases hat2 with hat2 | hat2
  ·exact .inl hat2
  ·exact .inr ⟨_, hat2, Nat.le_refl _⟩
 refine h v1 w1 (Kd.R_appended h0 hr hp hokp hfresh hown1 hg hat') ⟨h0, inner, hold, hr.imp_ (fun q c hq => ?_)⟩ (HB.grown hg hbase (own_base hown)) hg hat'
 exact d.M_mono (fun k hk => hk.1) (d.M_move (fun k hk => hg.block k hk.2.2.1 hk.1.2) (d.M_bound hq))
end
def impl_Row_placings_1.T6 : Bool × List (List Nat × List Nat) := (true, [([], []), ([], []), ([], []), ([], []), ([3], [3]), ([2, 4], [2, 4]), ([5], [5]), ([], []), ([], []), ([0, 1, 6, 7, 8], [0, 1, 6, 7, 8]), ([9], [9]), ([10], [10]), ([10], [10]), ([11, 9, 0, 1, 2, 3, 4, 5, 6, 7, 8, 9, 10, 11], [11]), ([12, 13, 0, 1, 2, 3, 4, 5, 6, 7, 8, 9, 10, 11, 12, 13], [12])])
def impl_Row_placings_1.B6 : List Nat := [0, 0, 0, 0, 8, 28, 60, 0, 0, 511, 1023, 2047, 2047, 4095, 16383]
theorem impl_Row_placings_1.tab6 : rtab .any (opsOf Tryd.f49 6) = impl_Row_placings_1.T6 := by kernel_rfl
theorem impl_Row_placings_1.bits6 : waitsOk impl_Row_placings_1.T6.2 impl_Row_placings_1.B6 = true := by kernel_rfl
def impl_Row_placings_1.T7 : Bool × List (List Nat × List Nat) := (true, [([], []), ([0], [0]), ([1], [1]), ([1], [1]), ([1], [1]), ([4, 1], [1, 4]), ([3, 5, 1, 1], [1, 3, 5]), ([1], [1]), ([1], [1]), ([7, 8, 1], [1, 7, 8]), ([2, 6, 9, 6, 1], [1, 2, 6, 9]), ([10, 1], [1, 10]), ([1, 11], [1, 11])])
def impl_Row_placings_1.B7 : List Nat := [0, 1, 3, 3, 3, 19, 59, 3, 3, 387, 1023, 2047, 4095]
theorem impl_Row_placings_1.tab7 : rtab .any (opsOf Tryd.f49 7) = impl_Row_placings_1.T7 := by kernel_rfl
theorem impl_Row_placings_1.bits7 : waitsOk impl_Row_placings_1.T7.2 impl_Row_placings_1.B7 = true := by kernel_rfl
mutual
def impl_Row_placings_1.l0 {σ : Type} (vis : List Int → σ → Bool × σ) : Nat → List Int → Int → List Int → Bool → Int → Int → List Int → Int → Int → σ → Option (Bool × σ)
 | 0, _, _, _, _, _, _, _, _, _, _ => none
 | k + 1, x0, x1, x2, x3, x4, x5, x6, x22, x23, s => if x23 < x22 then (if (x0.length : Int) < (x2.length : Int) then ((impl_Row_group.f k x4 x3 x6 x1 (rd x2 (x0.length : Int)) x5 x23).bind fun bt => (if bt.2 = true then ((impl_Row_placings_1.f vis k (x0 ++ [x23]) (Go.bits .or .u32 x1 bt.1) x2 x3 x4 x5 x6 s).bind fun o => (if o.1 = true then (impl_Row_placings_1.l0 vis k x0 x1 x2 x3 x4 x5 x6 x22 (wrap64 (x23 + 1)) o.2) else (some (false, o.2)))) else (impl_Row_placings_1.l0 vis k x0 x1 x2 x3 x4 x5 x6 x22 (wrap64 (x23 + 1)) s))) else none) else (some (true, s))
def impl_Row_placings_1.f {σ : Type} (vis : List Int → σ → Bool × σ) : Nat → List Int → Int → List Int → Bool → Int → Int → List Int → σ → Option (Bool × σ)
 | 0, _, _, _, _, _, _, _, _ => none
 | k + 1, l0, a1, l2, a3, a4, a5, l6, s => if (l0.length : Int) = (l2.length : Int) then (some (vis l0 s)) else (impl_Row_placings_1.l0 vis k l0 a1 l2 a3 a4 a5 l6 a4 0 s)
end
section
variable {P : Program} {md : Mode} {ops : Array Oper} {Q : Exit → Act → World → Prop}
theorem goesD_ {oi : Oper} {N : Option Tmp} {a : Act} {w : World} {K : Act → World → Prop} {f : FuncId} {fn : Func} {ax : Array Operand} {ts : Array TypeId} {s : Operand} {cap : Array Value} (hf : P.funcs[f]? = some fn) (hname : (fn.name == "runtime.NumGoroutine") = false) (hb : fn.body.isSome = true) (args all : Array Value) (hall : args ++ cap = all)
  (hw : Region.wanted oi (yielded ops a.tmps) = true) (hN : oi.dst = N) (hop : oi.op = .call { callee := .value s, args := ax, argTypes := ts }) (hs : a.eval s = .func (.func f) #[] cap) (hargs : ax.map a.eval = args)
  (h : Calls P f all w fun e w' => ∃ v, e = .returned v ∧ K (a.put N v) w') : if Region.wanted oi (yielded ops a.tmps) = true then Oper.wp P oi a w K Q else K (a.put N undef) w := by
 subst hall
 refine call_ f (args ++ cap) hw hN ?_ h
 have he := enters_ hf hname hb (args ++ cap) w
 unfold execOp
 simp [hop, resolve, Deferred.ofValue, invoke, hs, hargs, he]
end
/-- What a visitor that keeps a state s (in the blocks F) does with a list. -/
structure Vis {σ : Type} (n : Nat) (caps : Array Value) (w0 : World) (VI : World → (Nat → Prop) → σ → Prop) (vis : List Int → σ → Bool × σ) : Prop where
 frame : ∀ {w w' : World} {F : Nat → Prop} {s : σ}, VI w F s → (∀ k, F k → w'.heap[k]? = w.heap[k]?) → VI w' F s
 lt : ∀ {w : World} {F : Nat → Prop} {s : σ}, VI w F s → ∀ k, F k → k < w.heap.size
 call : ∀ {w : World} {F : Nat → Prop} {s : σ} {v : Value} {l : List Int}, VI w F s → Below w0.heap.size w0 w → Kd.R (Kd.int .i64) 3 w w0.heap.size (fun k => ¬ F k) v l → 0 < l.length → l.length ≤ 1000 →
  Calls Tryd.prog n (#[v] ++ caps) w fun e w' => ∃ F' : Nat → Prop, e = .returned (.bool (vis l s).1) ∧ VI w' F' (vis l s).2 ∧ (∀ k, F' k → F k ∨ w.heap.size ≤ k) ∧ Kept w w' F ∧ Below w0.heap.size w0 w'
/-- What the literal's variables hold. -/
structure PlEnv (nv : Nat) (caps : Array Value) (e2 e3 e4 e5 e6 : Nat) (A2 : Option Addr) (c2 : Nat) (l2 : List Int) (a3 : Bool) (a4 a5 : Int) (A6 : Option Addr) (c6 : Nat) (l6 : List Int) (w : World) : Prop where
 b2 : w.heap[e2]? = some (.cells #[.slice A2 l2.length c2] 24 (0, 0))
 b3 : w.heap[e3]? = some (.cells #[.func (.func nv) #[] caps] 58 (0, 0))
 b4 : w.heap[e4]? = some (.cells #[.int .i64 a4, .bool a3, .slice A6 l6.length c6] 26 (0, 0))
 b5 : w.heap[e5]? = some (.cells #[.int .i64 a5] 3 (0, 0))
 b6 : w.heap[e6]? = some (.cells #[.func (.func 49) #[] #[.pointer (some ⟨e2, 0, none⟩), .pointer (some ⟨e3, 0, none⟩), .pointer (some ⟨e4, 0, none⟩), .pointer (some ⟨e5, 0, none⟩), .pointer (some ⟨e6, 0, none⟩)]] 76 (0, 0))
def PlE (e2 e3 e4 e5 e6 k : Nat) : Prop := k = e2 ∨ k = e3 ∨ k = e4 ∨ k = e5 ∨ k = e6
section
variable {nv : Nat} {caps : Array Value} {e2 e3 e4 e5 e6 : Nat} {A2 : Option Addr} {c2 : Nat} {l2 : List Int} {a3 : Bool} {a4 a5 : Int} {A6 : Option Addr} {c6 : Nat} {l6 : List Int} {w w' : World}
theorem PlEnv.cells (h : PlEnv nv caps e2 e3 e4 e5 e6 A2 c2 l2 a3 a4 a5 A6 c6 l6 w) : w.cell? ⟨e2, 0, none⟩ = some (.slice A2 l2.length c2) ∧ w.cell? ⟨e3, 0, none⟩ = some (.func (.func nv) #[] caps) ∧ w.cell? ⟨e4, 0, none⟩ = some (.int .i64 a4) ∧ w.cell? ⟨e4, 1, none⟩ = some (.bool a3) ∧ w.cell? ⟨e4, 2, none⟩ = some (.slice A6 l6.length c6) ∧ w.cell? ⟨e5, 0, none⟩ = some (.int .i64 a5) ∧ w.cell? ⟨e6, 0, none⟩ = some (.func (.func 49) #[] #[.pointer (some ⟨e2, 0, none⟩), .pointer (some ⟨e3, 0, none⟩), .pointer (some ⟨e4, 0, none⟩), .pointer (some ⟨e5, 0, none⟩), .pointer (some ⟨e6, 0, none⟩)]) :=
 ⟨(blk_cell h.b2 0).trans rfl, (blk_cell h.b3 0).trans rfl, (blk_cell h.b4 0).trans rfl, (blk_cell h.b4 1).trans rfl, (blk_cell h.b4 2).trans rfl, (blk_cell h.b5 0).trans rfl, (blk_cell h.b6 0).trans rfl⟩
theorem PlEnv.lt (h : PlEnv nv caps e2 e3 e4 e5 e6 A2 c2 l2 a3 a4 a5 A6 c6 l6 w) : ∀ k, PlE e2 e3 e4 e5 e6 k → k < w.heap.size := by
 rintro k (rfl | rfl | rfl | rfl | rfl)
 ·exact blk_lt h.b2
 ·exact blk_lt h.b3
 ·exact blk_lt h.b4
 ·exact blk_lt h.b5
 ·exact blk_lt h.b6
theorem PlEnv.move (h : PlEnv nv caps e2 e3 e4 e5 e6 A2 c2 l2 a3 a4 a5 A6 c6 l6 w) (hm : ∀ k, PlE e2 e3 e4 e5 e6 k → w'.heap[k]? = w.heap[k]?) : PlEnv nv caps e2 e3 e4 e5 e6 A2 c2 l2 a3 a4 a5 A6 c6 l6 w' :=
 ⟨(hm _ (.inl rfl)).trans h.b2, (hm _ (.inr (.inl rfl))).trans h.b3, (hm _ (.inr (.inr (.inl rfl)))).trans h.b4, (hm _ (.inr (.inr (.inr (.inl rfl))))).trans h.b5, (hm _ (.inr (.inr (.inr (.inr rfl))))).trans h.b6⟩
theorem PlEnv.below (h : PlEnv nv caps e2 e3 e4 e5 e6 A2 c2 l2 a3 a4 a5 A6 c6 l6 w) (hb : Below w.heap.size w w') : PlEnv nv caps e2 e3 e4 e5 e6 A2 c2 l2 a3 a4 a5 A6 c6 l6 w' := h.move fun k hk => hb.block k (h.lt k hk)
variable {σ : Type} {w0 u : World} {VI : World → (Nat → Prop) → σ → Prop} {vis : List Int → σ → Bool × σ} {F S F0 : Nat → Prop} {s : σ} {v : Value} {l : List Int} {ok : Nat → Prop}
/-- Where nothing but new blocks turns up, all is as it was. -/
theorem plstep (V : Vis nv caps w0 VI vis) (EN : Aside0 (PlEnv nv caps e2 e3 e4 e5 e6 A2 c2 l2 a3 a4 a5 A6 c6 l6 w)) (VV : Aside0 (VI w F s)) (KK : Aside0 (Kept u w S)) (RR : Aside0 (Kd.R (Kd.int .i64) 3 w w0.heap.size ok v l)) (HB : Aside0 (Below w0.heap.size w0 w)) (hb : Below w.heap.size w w') :
  Aside0 (PlEnv nv caps e2 e3 e4 e5 e6 A2 c2 l2 a3 a4 a5 A6 c6 l6 w') ∧ Aside0 (VI w' F s) ∧ Aside0 (Kept u w' S) ∧ Aside0 (Kd.R (Kd.int .i64) 3 w' w0.heap.size ok v l) ∧ Aside0 (Below w0.heap.size w0 w') :=
 ⟨⟨EN.out.below hb⟩, ⟨V.frame VV.out (fun k hk => hb.block k (V.lt VV.out k hk))⟩, ⟨KK.out.below hb⟩, ⟨Kd.R_below RR.out hb⟩, ⟨below_step HB.out hb⟩⟩
/-- Behind an append to the list, where it lies or anew. -/
theorem plapp (V : Vis nv caps w0 VI vis) (EN : Aside0 (PlEnv nv caps e2 e3 e4 e5 e6 A2 c2 l2 a3 a4 a5 A6 c6 l6 w)) (VV : Aside0 (VI w F s)) (KK : Aside0 (Kept u w (fun k => F0 k ∨ some k = v.ownBlock)))
  (RR : Aside0 (Kd.R (Kd.int .i64) 3 w w0.heap.size (fun k => ¬ F k ∧ ¬ PlE e2 e3 e4 e5 e6 k) v l)) (hg : w.grownBy w' v.ownBlock) :
  Aside0 (PlEnv nv caps e2 e3 e4 e5 e6 A2 c2 l2 a3 a4 a5 A6 c6 l6 w') ∧ Aside0 (VI w' F s) ∧ Aside0 (Kept u w' (fun k => F0 k ∨ some k = v.ownBlock)) :=
 ⟨⟨EN.out.move fun k hk => hg.block k (EN.out.lt k hk) (fun he => (RR.out.1 k he.symm).2 hk)⟩, ⟨V.frame VV.out (fun k hk => hg.block k (V.lt VV.out k hk) (fun he => (RR.out.1 k he.symm).1 hk))⟩, ⟨KK.out.of_grown hg (fun k hk => .inl (.inr hk.symm))⟩⟩
theorem own_same {base n n1 : Nat} {e : TypeId} {xs ys zs : List Value} {v v1 : Value} (h : w.ownsRow base e 1 v n xs) (hm : w.ownsRow base e 1 v1 n1 zs) (h1 : w'.ownsRow base e 1 v1 n1 (xs ++ ys)) (he : v1.ownBlock = v.ownBlock) : w'.ownsRow base e 1 v n xs := by
 obtain ⟨hx, h2⟩ := h
 rcases h2 with ⟨rfl, hn⟩ | ⟨g, cap, cur, rfl, hbg, hg, hnc, hcm, hcs, htake⟩
 ·exact ⟨hx, .inl ⟨rfl, hn⟩⟩
 ·obtain ⟨hx1, h3⟩ := h1
  obtain ⟨_, h4⟩ := hm
  rcases h3 with ⟨rfl, _⟩ | ⟨g1, cap1, cur1, rfl, hbg1, hg1, hnc1, hcm1, hcs1, htake1⟩
  ·simp [Value.ownBlock] at he
  ·have e1 : g1 = g := by simpa [Value.ownBlock] using he
   subst e1
   rcases h4 with ⟨h5, _⟩ | ⟨g2, cap2, cur2, h5, _, hg2, _, _, hcs2, _⟩
   ·cases h5
   ·injection h5 with h5 h6 h7
    injection h5 with h5
    injection h5 with h5
    subst h5 h7
    rw [hg] at hg2
    injection hg2 with hg2
    injection hg2 with hg2
    subst hg2
    refine ⟨hx, .inr ⟨g1, cap, cur1, rfl, hbg, hg1, hnc, hcm, by omega, ?_⟩⟩
    have hl : xs.length + ys.length = n1 * 1 := by rw [← List.length_append]; exact hx1
    have h3 : (cur1.toList.take (n1 * 1)).take (n * 1) = (xs ++ ys).take (n * 1) := by rw [htake1]
    rw [List.take_take, Nat.min_eq_left (by omega), ← hx, List.take_left] at h3
    exact hx ▸ h3
/-- Behind a call that was handed the longer list. -/
theorem plback {W W1 W2 : World} {F2 F1 : Nat → Prop} {v1 : Value} {x : Int} {s2 : σ} (V : Vis nv caps w0 VI vis) (EN : Aside0 (PlEnv nv caps e2 e3 e4 e5 e6 A2 c2 l2 a3 a4 a5 A6 c6 l6 W1)) (V2 : VI W2 F2 s2) (VV : Aside0 (VI W1 F1 s)) (KK : Aside0 (Kept u W1 (fun k => F0 k ∨ some k = v.ownBlock)))
  (hFE : ∀ k, F1 k → ¬ PlE e2 e3 e4 e5 e6 k) (hF0 : ∀ k, F1 k → F0 k ∨ u.heap.size ≤ k) (huW : u.heap.size ≤ W.heap.size)
  (RR : Kd.R (Kd.int .i64) 3 W1 w0.heap.size (fun k => ¬ F1 k ∧ ¬ PlE e2 e3 e4 e5 e6 k) v l) (R1 : Kd.R (Kd.int .i64) 3 W1 w0.heap.size (fun k => ¬ F1 k ∧ ¬ PlE e2 e3 e4 e5 e6 k) v1 (l ++ [x]))
  (R2 : Kd.R (Kd.int .i64) 3 W2 w0.heap.size (fun k => ¬ F2 k ∧ ¬ PlE e2 e3 e4 e5 e6 k) v1 (l ++ [x])) (hK : Kept W1 W2 (fun k => F1 k ∨ some k = v1.ownBlock)) (hF2 : ∀ k, F2 k → F1 k ∨ W1.heap.size ≤ k)
  (hat : v1.ownBlock = v.ownBlock ∨ ∃ b, v1.ownBlock = some b ∧ W.heap.size ≤ b) :
  Aside0 (PlEnv nv caps e2 e3 e4 e5 e6 A2 c2 l2 a3 a4 a5 A6 c6 l6 W2) ∧ Aside0 (VI W2 F2 s2) ∧ Aside0 (Kept u W2 (fun k => F0 k ∨ some k = v.ownBlock)) ∧ Aside0 (Kd.R (Kd.int .i64) 3 W2 w0.heap.size (fun k => ¬ F2 k ∧ ¬ PlE e2 e3 e4 e5 e6 k) v l) ∧ (∀ k, F2 k → ¬ PlE e2 e3 e4 e5 e6 k) ∧ (∀ k, F2 k → F0 k ∨ u.heap.size ≤ k) := by
 have hvk : ∀ k, v.ownBlock = some k → k < W1.heap.size := Kd.R_lt RR
 have hF2v : ∀ k, v.ownBlock = some k → ¬ F2 k := fun k hk h2 => (hF2 k h2).elim (fun h => (RR.1 k hk).1 h) (fun h => by have := hvk k hk; omega)
 refine ⟨⟨EN.out.move fun k hk => hK.2 k (EN.out.lt k hk) (fun h => h.elim (fun h1 => hFE k h1 hk) (fun h1 => (R1.1 k h1.symm).2 hk))⟩, ⟨V2⟩, ⟨KK.out.then_ hK (fun k hk => hk.elim (fun h1 => (hF0 k h1).imp (fun h => .inl h) id) (fun h1 => ?_))⟩, ⟨?_⟩, fun k hk => (hF2 k hk).elim (hFE k) (fun h h1 => by have := EN.out.lt k h1; omega), fun k hk => (hF2 k hk).elim (hF0 k) (fun h => .inr (by have := KK.out.1; omega))⟩
 ·rcases hat with h | ⟨b, hb, hbW⟩
  ·exact .inl (.inr (h1.trans h))
  ·rw [hb] at h1; injection h1 with h1; subst h1; exact .inr (by omega)
 ·obtain ⟨hk0, inner, hown, hr⟩ := RR
  obtain ⟨hk1, inner1, hown1, hr1⟩ := R2
  have e1 : inner = encs (Value.int .i64) l := Kd.reps_encs hr
  have e2' : inner1 = encs (Value.int .i64) l ++ [.int .i64 x] := by have := Kd.reps_encs hr1; simpa [encs] using this
  subst e1 e2'
  have hown2 : W2.ownsRow w0.heap.size 3 1 v l.length (encs (Value.int .i64) l) := by
   by_cases he : v1.ownBlock = v.ownBlock
   ·obtain ⟨_, inner3, hown3, _⟩ := R1
    exact own_same hown hown3 hown1 he
   ·rcases hat with h | ⟨b, hb, hbW⟩
    ·exact absurd h he
    ·rcases hown.2 with ⟨rfl, hn⟩ | ⟨g, cap, cur, rfl, hbg, hg, hnc, hcm, hcs, htake⟩
     ·exact ⟨hown.1, .inl ⟨rfl, hn⟩⟩
     ·exact ⟨hown.1, .inr ⟨g, cap, cur, rfl, hbg, (hK.2 g (blk_lt hg) (fun h => h.elim (hk0 g rfl).1 (fun h1 => he h1.symm))).trans hg, hnc, hcm, hcs, htake⟩⟩
  exact ⟨fun k hk => ⟨hF2v k hk, (hk0 k hk).2⟩, _, hown2, Kd.reps_scalar l⟩
end
/-- What a visit leaves behind. -/
def PlPost {σ : Type} (VI : World → (Nat → Prop) → σ → Prop) (w0 w : World) (F : Nat → Prop) (e2 e3 e4 e5 e6 : Nat) (v : Value) (l : List Int) (r : Bool) (s' : σ) (e : Ending) (w' : World) : Prop :=
 ∃ F' : Nat → Prop, e = .returned (.bool r) ∧ VI w' F' s' ∧ (∀ k, F' k → F k ∨ w.heap.size ≤ k) ∧ (∀ k, F' k → ¬ PlE e2 e3 e4 e5 e6 k) ∧ Kept w w' (fun k => F k ∨ some k = v.ownBlock) ∧ Below w0.heap.size w0 w' ∧ Kd.R (Kd.int .i64) 3 w' w0.heap.size (fun k => ¬ F' k ∧ ¬ PlE e2 e3 e4 e5 e6 k) v l
theorem plvis {σ : Type} {nv : Nat} {caps : Array Value} {e2 e3 e4 e5 e6 : Nat} {A2 : Option Addr} {c2 : Nat} {l2 : List Int} {a3 : Bool} {a4 a5 : Int} {A6 : Option Addr} {c6 : Nat} {l6 : List Int} {VI : World → (Nat → Prop) → σ → Prop} {w0 w w2 : World} {F F2 : Nat → Prop} {v : Value} {l : List Int} {r : Bool} {s' : σ}
  (EN : Aside0 (PlEnv nv caps e2 e3 e4 e5 e6 A2 c2 l2 a3 a4 a5 A6 c6 l6 w)) (hFE : ∀ k, F k → ¬ PlE e2 e3 e4 e5 e6 k) (RR : Aside0 (Kd.R (Kd.int .i64) 3 w w0.heap.size (fun k => ¬ F k ∧ ¬ PlE e2 e3 e4 e5 e6 k) v l))
  (h1 : VI w2 F2 s') (h2 : ∀ k, F2 k → F k ∨ w.heap.size ≤ k) (h3 : Kept w w2 F) (h4 : Below w0.heap.size w0 w2) : PlPost VI w0 w F e2 e3 e4 e5 e6 v l r s' (.returned (.bool r)) w2 := by
 refine ⟨F2, rfl, h1, h2, fun k hk he => (h2 k hk).elim (fun h => hFE k h he) (fun h => by have := EN.out.lt k he; omega), h3.mono (fun _ h => .inl h), h4, ?_⟩
 obtain ⟨hk0, inner, hown, hr⟩ := RR.out
 have e1 : inner = encs (Value.int .i64) l := Kd.reps_encs hr
 subst e1
 refine ⟨fun k hk => ⟨fun h => (h2 k h).elim (hk0 k hk).1 (fun h => ?_), (hk0 k hk).2⟩, _, ?_, Kd.reps_scalar l⟩
 ·have := Kd.R_lt RR.out k hk; omega
 ·rcases hown.2 with ⟨rfl, hn⟩ | ⟨g, cap, cur, rfl, hbg, hg, hnc, hcm, hcs, htake⟩
  ·exact ⟨hown.1, .inl ⟨rfl, hn⟩⟩
  ·exact ⟨hown.1, .inr ⟨g, cap, cur, rfl, hbg, (h3.2 g (blk_lt hg) (hk0 g rfl).1).trans hg, hnc, hcm, hcs, htake⟩⟩
set_option maxHeartbeats 8000000 in
set_option maxRecDepth 100000 in
theorem impl_Row_placings_1.calls {σ : Type} {nv : Nat} {caps : Array Value} {w0 : World} {VI : World → (Nat → Prop) → σ → Prop} {vis : List Int → σ → Bool × σ} (V : Vis nv caps w0 VI vis) (hdyn : ∀ (args : Array Value) (w : World), (callFunc nv args).run Tryd.prog w = .ok (.enter nv args) w) (e2 e3 e4 e5 e6 : Nat) (A2 : Option Addr) (c2 : Nat) (l2 : List Int) (a3 : Bool) (a4 a5 : Int) (A6 : Option Addr) (c6 : Nat) (l6 : List Int)
  (hr2 : Kd.C (Kd.int .i64) w0 A2 l2.length l2) (hr6 : Kd.C (Kd.int .i64) w0 A6 l6.length l6) (hc6 : l6.length ≤ c6) (hl2 : 1 ≤ l2.length ∧ l2.length ≤ 1000) (k : Nat) :
  ∀ (v : Value) (l0 : List Int) (a1 : Int) (s : σ) (r : Bool) (s' : σ) (w : World) (F : Nat → Prop), PlEnv nv caps e2 e3 e4 e5 e6 A2 c2 l2 a3 a4 a5 A6 c6 l6 w → VI w F s → (∀ k_, F k_ → ¬ PlE e2 e3 e4 e5 e6 k_) → Below w0.heap.size w0 w → Kd.R (Kd.int .i64) 3 w w0.heap.size (fun k_ => ¬ F k_ ∧ ¬ PlE e2 e3 e4 e5 e6 k_) v l0 → impl_Row_placings_1.f vis k l0 a1 l2 a3 a4 a5 l6 s = some (r, s') →
  Calls Tryd.prog 49 #[v, .int .u32 a1, .pointer (some ⟨e2, 0, none⟩), .pointer (some ⟨e3, 0, none⟩), .pointer (some ⟨e4, 0, none⟩), .pointer (some ⟨e5, 0, none⟩), .pointer (some ⟨e6, 0, none⟩)] w (PlPost VI w0 w F e2 e3 e4 e5 e6 v l0 r s') := by
 induction k using Nat.strongRecOn with
 | _ k ih =>
 intro v l0 a1 s r s' w F henv hV hFE hB ho h
 cases k with
 | zero => exact absurd h (by simp [impl_Row_placings_1.f])
 | succ k =>
 simp only [impl_Row_placings_1.f] at h
 have hu28 := Tryd.underlying26
 obtain ⟨A0, c0, rfl⟩ := Kd.R_slice ho
 have EN := am henv
 have VV := am hV
 have HB := am hB
 have RR := am ho
 have KK := am (Kept.refl w (fun k_ => F k_ ∨ some k_ = (Value.slice A0 l0.length c0).ownBlock))
 have FE := am hFE
 have HH := am h
 have HL2 := am hl2
 clear henv hV hB ho hFE h hl2
 by_cases c8 : (l0.length : Int) = (l2.length : Int)
 ·have H := HH.out
  rw [if_pos c8] at H
  have c8b0 : ((l0.length : Int) == (l2.length : Int)) = true := beq_iff_eq.mpr c8
  have c8b1 : ((l0.length : Int) != (l2.length : Int)) = false := bne_eq_false_iff_eq.mpr c8
  have c8b2 : (l0.length == l2.length) = true := by first | simpa using c8 | (simp at c8 ⊢; omega)
  have HL := am (show l0.length ≤ 1000 by have h_ := HL2.out; omega)
  have HL1 := am (show 0 < l0.length by have h_ := HL2.out; omega)
  clear c8
  have HE := am (Option.some.inj H)
  clear H HH
  obtain ⟨q2, q3, _, _, _, _, _⟩ := EN.out.cells
  go_enter Tryd.func49, Tryd.ntmps49
  go_wp2_with (first | ((with_reducible refine (V.call VV.out HB.out (Kd.R_mono RR.out (fun _ h_ => h_.1)) HL1.out HL.out).mono ?_); (rintro e w2 ⟨F2, rfl, h1, h2, h3, h4⟩)))
  go_ret
  have he := HE.out
  rw [he] at h1 ⊢
  exact plvis EN FE.out RR h1 h2 h3 h4
 ·have H := HH.out
  rw [if_neg c8] at H
  have c8b0 : ((l0.length : Int) == (l2.length : Int)) = false := beq_eq_false_iff_ne.mpr c8
  have c8b1 : ((l0.length : Int) != (l2.length : Int)) = true := bne_iff_ne.mpr c8
  have c8b2 : (l0.length == l2.length) = false := by first | simpa using c8 | (simp at c8 ⊢; omega)
  have H' := am H
  clear H HH
  obtain ⟨q2, q3, q4a, _, _, _, _⟩ := EN.out.cells
  go_enter Tryd.func49, Tryd.ntmps49
  go_wp2
  clear q2 q3 q4a
  go_loopg [23] k (fun kq v23 w' => ∃ (x : Int) (F1 : Nat → Prop) (s1 : σ), v23 = .int .i64 x ∧ Aside0 (impl_Row_placings_1.l0 vis kq l0 a1 l2 a3 a4 a5 l6 a4 x s1 = some (r, s')) ∧ Aside0 (kq ≤ k) ∧ Aside0 (PlEnv nv caps e2 e3 e4 e5 e6 A2 c2 l2 a3 a4 a5 A6 c6 l6 w') ∧ Aside0 (VI w' F1 s1) ∧ Aside0 (∀ k_, F1 k_ → ¬ PlE e2 e3 e4 e5 e6 k_) ∧ Aside0 (∀ k_, F1 k_ → F k_ ∨ w.heap.size ≤ k_) ∧ Aside0 (Kept w w' (fun k_ => F k_ ∨ some k_ = (Value.slice A0 l0.length c0).ownBlock)) ∧ Aside0 (Kd.R (Kd.int .i64) 3 w' w0.heap.size (fun k_ => ¬ F1 k_ ∧ ¬ PlE e2 e3 e4 e5 e6 k_) (.slice A0 l0.length c0) l0) ∧ Aside0 (Below w0.heap.size w0 w'))
  case atStart => exact ⟨0, F, s, rfl, H', ⟨Nat.le_refl _⟩, EN, VV, FE, ⟨fun _ h_ => .inl h_⟩, KK, RR, HB⟩
  case round =>
   clear H' EN VV FE KK RR HB
   clear c8 c8b0 c8b1 c8b2
   obtain ⟨x, F1, s1, rfl, HA, HK1, EN, VV, FE, FF, KK, RR, HB⟩ := hrel
   cases gk with
   | zero => exact absurd HA.out (by simp [impl_Row_placings_1.l0])
   | succ k1 =>
    have H := HA.out
    clear HA
    simp only [impl_Row_placings_1.l0] at H
    by_cases c9 : x < a4
    ·rw [if_pos c9] at H
     have c9b0 : decide (x < a4) = true := decide_eq_true c9
     clear c9
     by_cases c11 : (l0.length : Int) < (l2.length : Int)
     ·rw [if_pos c11] at H
      have c11b0 : decide ((l0.length : Int) < (l2.length : Int)) = true := decide_eq_true c11
      have c11b1 : decide (l0.length < l2.length) = true := decide_eq_true (Int.ofNat_lt.mp c11)
      have c10b0 : decide (0 ≤ (l0.length : Int)) = true := decide_eq_true (by omega)
      have c10b1 : decide (0 ≤ l0.length) = true := decide_eq_true (by omega)
      obtain ⟨ad, ead, hg_⟩ := Kd.at_int hr2 (l0.length : Int) (by omega) c11
      cases ead
      replace hg_ : w0.cell? (ad.add l0.length) = some (.int .i64 (rd l2 (l0.length : Int))) := hg_
      have HL := am (show l0.length ≤ 1000 by have h_ := HL2.out; omega)
      have p203 := eq_true (show 0 ≤ (l0.length : Int) by omega)
      have q203 := eq_true c11
      clear c11
      replace H := Option.bind_eq_some_iff.mp H
      obtain ⟨⟨t204, t205⟩, A120, H⟩ := H
      have AG := am A120
      clear A120
      replace H := am H
      go_wp2
      refine start_ (n := 15) (S := fun w' => w'.cell? ⟨e4, 0, none⟩ = some (.int .i64 a4) ∧ w'.cell? ⟨e4, 1, none⟩ = some (.bool a3) ∧ w'.cell? ⟨e4, 2, none⟩ = some (.slice A6 l6.length c6) ∧ w'.cell? ⟨e2, 0, none⟩ = some (.slice (some ad) l2.length c2) ∧ w'.cell? (ad.add l0.length) = some (.int .i64 (rd l2 (l0.length : Int))) ∧ w'.cell? ⟨e5, 0, none⟩ = some (.int .i64 a5)) (ds := []) #[false, false, false, false, false, false, false, false, false, false, false, false, false, false, false] (by kernel_rfl) rfl rfl ⟨((EN.out.below (below_drew1 (Below.refl _ _))).cells).2.2.1, ((EN.out.below (below_drew1 (Below.refl _ _))).cells).2.2.2.1, ((EN.out.below (below_drew1 (Below.refl _ _))).cells).2.2.2.2.1, ((EN.out.below (below_drew1 (Below.refl _ _))).cells).1, (((below_drew1 HB.out).cell (World.block_lt_of_cell? w0 _ hg_)).trans hg_), ((EN.out.below (below_drew1 (Below.refl _ _))).cells).2.2.2.2.2.1⟩ (fun hHeld => ?_)
      refine with_tabW impl_Row_placings_1.tab6 impl_Row_placings_1.bits6 (fun HT_ HW_ => ?_)
      obtain ⟨EN, VV, KK, RR, HB⟩ := plstep V EN VV KK RR HB (below_drew1 (Below.refl _ _))
      generalize World.drew _ = w2 at EN VV KK RR HB hHeld ⊢
      refine pi_ (i := 1) (N := some 28) (v := ?_) (a' := ?_) (bm 15 2) rfl rfl HT_ (by kernel_rfl) (fun _ _ _ h => h) (Or.inl ⟨by rfl, ?_⟩) ?_ ?_
      rotate_left
      ·intro w'
       go_simp
       with_reducible rfl
      rotate_left
      ·simp only [Act.put, pp_]
       rfl
      refine pi_ (i := 3) (N := some 30) (v := ?_) (a' := ?_) (bm 15 10) rfl rfl HT_ (by kernel_rfl) (fun _ _ _ h => h) (Or.inl ⟨by rfl, ?_⟩) ?_ ?_
      rotate_left
      ·intro w'
       go_simp
       with_reducible rfl
      rotate_left
      ·simp only [Act.put, pp_]
       rfl
      refine pi_ (i := 4) (N := some 31) (v := ?_) (a' := ?_) (bm 15 26) rfl rfl HT_ (by kernel_rfl) (fun _ _ _ h => h) (Or.inl ⟨by rfl, ?_⟩) ?_ ?_
      rotate_left
      ·intro w'
       go_simp
       with_reducible rfl
      rotate_left
      ·simp only [Act.put, pp_]
       rfl
      refine pi_ (i := 8) (N := some 35) (v := ?_) (a' := ?_) (bm 15 282) rfl rfl HT_ (by kernel_rfl) (fun _ _ _ h => h) (Or.inl ⟨by rfl, ?_⟩) ?_ ?_
      rotate_left
      ·intro w'
       go_simp
       with_reducible rfl
      rotate_left
      ·simp only [Act.put, pp_]
       rfl
      refine take_ (i := 0) (N := some 27) (v := ?_) (a' := ?_) (bm 15 283) rfl rfl (take_ofW HT_.out HW_.out (by kernel_rfl)) (fun _ _ _ h => h) (Or.inl ⟨by rfl, ?_⟩) hHeld ?_ ?_
      rotate_left
      ·rintro w' ⟨s0, s1, s2, s3, s4, s5⟩
       go_simp
       with_reducible rfl
      rotate_left
      ·simp only [Act.put, pp_]
       rfl
      refine take_ (i := 2) (N := some 29) (v := ?_) (a' := ?_) (bm 15 287) rfl rfl (take_ofW HT_.out HW_.out (by kernel_rfl)) (fun _ _ _ h => h) (Or.inl ⟨by rfl, ?_⟩) hHeld ?_ ?_
      rotate_left
      ·rintro w' ⟨s0, s1, s2, s3, s4, s5⟩
       go_simp
       with_reducible rfl
      rotate_left
      ·simp only [Act.put, pp_]
       rfl
      refine pi_ (i := 5) (N := some 32) (v := ?_) (a' := ?_) (bm 15 319) rfl rfl HT_ (by kernel_rfl) (fun _ _ _ h => h) (Or.inl ⟨by rfl, ?_⟩) ?_ ?_
      rotate_left
      ·intro w'
       go_simp
       with_reducible rfl
      rotate_left
      ·simp only [Act.put, pp_]
       rfl
      refine take_ (i := 6) (N := some 33) (v := ?_) (a' := ?_) (bm 15 383) rfl rfl (take_ofW HT_.out HW_.out (by kernel_rfl)) (fun _ _ _ h => h) (Or.inl ⟨by rfl, ?_⟩) hHeld ?_ ?_
      rotate_left
      ·rintro w' ⟨s0, s1, s2, s3, s4, s5⟩
       go_simp
       with_reducible rfl
      rotate_left
      ·simp only [Act.put, pp_]
       rfl
      refine take_ (i := 7) (N := some 34) (v := ?_) (a' := ?_) (bm 15 511) rfl rfl (take_ofW HT_.out HW_.out (by kernel_rfl)) (fun _ _ _ h => h) (Or.inl ⟨by rfl, ?_⟩) hHeld ?_ ?_
      rotate_left
      ·rintro w' ⟨s0, s1, s2, s3, s4, s5⟩
       go_simp
       with_reducible rfl
      rotate_left
      ·simp only [Act.put, pp_]
       rfl
      refine one_ (i := 9) (N := some 36) (bm 15 1023) rfl rfl (one_of HT_.out (by kernel_rfl)) (by decide) (fun K hK => ?_)
      refine goes_ Tryd.func43 (by kernel_rfl) rfl #[.agg #[.int .i64 a4, .bool a3, .slice A6 l6.length c6], .int .u32 a1, .int .i64 (rd l2 (l0.length : Int)), .int .i64 a5, .int .i64 x] (by rfl) rfl rfl (by (try simp only [List.map_toArray, List.map_cons, List.map_nil]); first | done | rfl) ?_
      with_reducible refine (impl_Row_group.calls k1 a4 a3 _ _ l6 a1 (rd l2 (l0.length : Int)) a5 x t204 t205 _ (Kd.C_below hr6 HB.out) hc6 AG.out).mono ?_
      rintro e w3 ⟨rfl, hb⟩
      refine ⟨_, rfl, ?_⟩
      obtain ⟨EN, VV, KK, RR, HB⟩ := plstep V EN VV KK RR HB hb
      clear hb
      refine hK.out _ _ ⟨(EN.out.cells).2.2.1, (EN.out.cells).2.2.2.1, (EN.out.cells).2.2.2.2.1, (EN.out.cells).1, ((HB.out.cell (World.block_lt_of_cell? w0 _ hg_)).trans hg_), (EN.out.cells).2.2.2.2.2.1⟩ (fun hHeld => ?_)
      clear hK K
      refine norm_ (a' := ?_) ?_ ?_
      rotate_left
      ·show Act.put _ (some 36) _ = _
       simp only [Act.put, pp_]
       rfl
      refine pi_ (i := 10) (N := some 26) (v := ?_) (a' := ?_) (bm 15 2047) rfl rfl HT_ (by kernel_rfl) (fun _ _ _ h => h) (Or.inl ⟨by rfl, ?_⟩) ?_ ?_
      rotate_left
      ·intro w'
       go_simp
       with_reducible rfl
      rotate_left
      ·simp only [Act.put, pp_]
       rfl
      refine pi_ (i := 11) (N := some 37) (v := ?_) (a' := ?_) (bm 15 4095) rfl rfl HT_ (by kernel_rfl) (fun _ _ _ h => h) (Or.inl ⟨by rfl, ?_⟩) ?_ ?_
      rotate_left
      ·intro w'
       go_simp
       with_reducible rfl
      rotate_left
      ·simp only [Act.put, pp_]
       rfl
      refine pi_ (i := 12) (N := some 38) (v := ?_) (a' := ?_) (bm 15 8191) rfl rfl HT_ (by kernel_rfl) (fun _ _ _ h => h) (Or.inl ⟨by rfl, ?_⟩) ?_ ?_
      rotate_left
      ·intro w'
       go_simp
       with_reducible rfl
      rotate_left
      ·simp only [Act.put, pp_]
       rfl
      refine pi_ (i := 13) (N := some 11) (v := ?_) (a' := ?_) (bm 15 16383) rfl rfl HT_ (by kernel_rfl) (fun _ _ _ h => h) (Or.inl ⟨by rfl, ?_⟩) ?_ ?_
      rotate_left
      ·intro w'
       go_simp
       with_reducible rfl
      rotate_left
      ·simp only [Act.put, pp_]
       rfl
      refine pi_ (i := 14) (N := some 12) (v := ?_) (a' := ?_) (bm 15 32767) rfl rfl HT_ (by kernel_rfl) (fun _ _ _ h => h) (Or.inl ⟨by rfl, ?_⟩) ?_ ?_
      rotate_left
      ·intro w'
       go_simp
       with_reducible rfl
      rotate_left
      ·simp only [Act.put, pp_]
       rfl
      refine done_ (done_of HT_.out (by kernel_rfl)) ?_

      cases t205 with
      | false =>
       have H1 : impl_Row_placings_1.l0 vis k1 l0 a1 l2 a3 a4 a5 l6 a4 (wrap64 (x + 1)) s1 = some (r, s') := by have h_ := H.out; rw [if_neg (show ¬ (false = true) by decide)] at h_; exact h_
       have H' := am H1
       clear H H1
       try go_wp2
       refine start_ (n := 13) (S := fun w' => True) (ds := []) #[false, false, false, false, false, false, false, false, false, false, false, false, false] (by kernel_rfl) rfl rfl trivial (fun hHeld => ?_)
       refine with_tabW impl_Row_placings_1.tab7 impl_Row_placings_1.bits7 (fun HT_ HW_ => ?_)
       obtain ⟨EN, VV, KK, RR, HB⟩ := plstep V EN VV KK RR HB (below_drew1 (Below.refl _ _))
       generalize World.drew _ = w4 at EN VV KK RR HB hHeld ⊢
       refine pi_ (i := 0) (N := some 39) (v := ?_) (a' := ?_) (bm 13 1) rfl rfl HT_ (by kernel_rfl) (fun _ _ _ h => h) (Or.inl ⟨by rfl, ?_⟩) ?_ ?_
       rotate_left
       ·intro w'
        go_simp
        with_reducible rfl
       rotate_left
       ·simp only [Act.put, pp_]
        rfl
       refine pi_ (i := 1) (N := some 40) (v := ?_) (a' := ?_) (bm 13 3) rfl rfl HT_ (by kernel_rfl) (fun _ _ _ h => h) (Or.inl ⟨by rfl, ?_⟩) ?_ ?_
       rotate_left
       ·intro w'
        go_simp
        with_reducible rfl
       rotate_left
       ·simp only [Act.put, pp_]
        rfl
       refine pn_ (i := 2) (N := some 41) (a' := ?_) (bm 13 7) rfl rfl HT_ (by kernel_rfl) (fun _ _ _ h => h) (by rfl) ?_ ?_
       rotate_left
       ·simp only [Act.put, pp_]
        rfl
       refine pn_ (i := 3) (N := some 42) (a' := ?_) (bm 13 15) rfl rfl HT_ (by kernel_rfl) (fun _ _ _ h => h) (by rfl) ?_ ?_
       rotate_left
       ·simp only [Act.put, pp_]
        rfl
       refine pn_ (i := 4) (N := some 43) (a' := ?_) (bm 13 31) rfl rfl HT_ (by kernel_rfl) (fun _ _ _ h => h) (by rfl) ?_ ?_
       rotate_left
       ·simp only [Act.put, pp_]
        rfl
       refine pn_ (i := 5) (N := some 44) (a' := ?_) (bm 13 63) rfl rfl HT_ (by kernel_rfl) (fun _ _ _ h => h) (by rfl) ?_ ?_
       rotate_left
       ·simp only [Act.put, pp_]
        rfl
       refine pn_ (i := 6) (N := some 45) (a' := ?_) (bm 13 127) rfl rfl HT_ (by kernel_rfl) (fun _ _ _ h => h) (by rfl) ?_ ?_
       rotate_left
       ·simp only [Act.put, pp_]
        rfl
       refine pn_ (i := 7) (N := some 46) (a' := ?_) (bm 13 255) rfl rfl HT_ (by kernel_rfl) (fun _ _ _ h => h) (by rfl) ?_ ?_
       rotate_left
       ·simp only [Act.put, pp_]
        rfl
       refine pn_ (i := 8) (N := some 47) (a' := ?_) (bm 13 511) rfl rfl HT_ (by kernel_rfl) (fun _ _ _ h => h) (by rfl) ?_ ?_
       rotate_left
       ·simp only [Act.put, pp_]
        rfl
       refine pn_ (i := 9) (N := some 48) (a' := ?_) (bm 13 1023) rfl rfl HT_ (by kernel_rfl) (fun _ _ _ h => h) (by rfl) ?_ ?_
       rotate_left
       ·simp only [Act.put, pp_]
        rfl
       refine pn_ (i := 10) (N := some 49) (a' := ?_) (bm 13 2047) rfl rfl HT_ (by kernel_rfl) (fun _ _ _ h => h) (by rfl) ?_ ?_
       rotate_left
       ·simp only [Act.put, pp_]
        rfl
       refine pn_ (i := 11) (N := some 50) (a' := ?_) (bm 13 4095) rfl rfl HT_ (by kernel_rfl) (fun _ _ _ h => h) (by rfl) ?_ ?_
       rotate_left
       ·simp only [Act.put, pp_]
        rfl
       refine pi_ (i := 12) (N := some 51) (v := ?_) (a' := ?_) (bm 13 8191) rfl rfl HT_ (by kernel_rfl) (fun _ _ _ h => h) (Or.inl ⟨by rfl, ?_⟩) ?_ ?_
       rotate_left
       ·intro w'
        go_simp
        with_reducible rfl
       rotate_left
       ·simp only [Act.put, pp_]
        rfl
       refine done_ (done_of HT_.out (by kernel_rfl)) ?_

       try go_wp2
       go_roundg k1
       case measure => have := HK1.out; omega
       case rel => exact ⟨(wrap64 (x + 1)), F1, s1, (by first | rfl | (simp; done) | (simp [*]; done)), H', ⟨by have := HK1.out; omega⟩, EN, VV, FE, FF, KK, RR, HB⟩
      | true =>
       have H1 := H.out
       rw [if_pos rfl] at H1
       clear H
       replace H1 := Option.bind_eq_some_iff.mp H1
       obtain ⟨⟨r2, s2⟩, A160, H1⟩ := H1
       have AF := am A160
       clear A160
       have H := am H1
       clear H1
       cases r2 with
       | true =>
        have H1 : impl_Row_placings_1.l0 vis k1 l0 a1 l2 a3 a4 a5 l6 a4 (wrap64 (x + 1)) s2 = some (r, s') := by have h_ := H.out; rw [if_pos rfl] at h_; exact h_
        have H' := am H1
        clear H H1
        try go_wp2
        refine start_ (n := 13) (S := fun w' => w'.cell? ⟨e6, 0, none⟩ = some (.func (.func 49) #[] #[.pointer (some ⟨e2, 0, none⟩), .pointer (some ⟨e3, 0, none⟩), .pointer (some ⟨e4, 0, none⟩), .pointer (some ⟨e5, 0, none⟩), .pointer (some ⟨e6, 0, none⟩)])) (ds := []) #[false, false, false, false, false, false, false, false, false, false, false, false, false] (by kernel_rfl) rfl rfl (((EN.out.below (below_drew1 (Below.refl _ _))).cells).2.2.2.2.2.2) (fun hHeld => ?_)
        refine with_tabW impl_Row_placings_1.tab7 impl_Row_placings_1.bits7 (fun HT_ HW_ => ?_)
        obtain ⟨EN, VV, KK, RR, HB⟩ := plstep V EN VV KK RR HB (below_drew1 (Below.refl _ _))
        generalize World.drew _ = w5 at EN VV KK RR HB hHeld ⊢
        refine pi_ (i := 0) (N := some 39) (v := ?_) (a' := ?_) (bm 13 1) rfl rfl HT_ (by kernel_rfl) (fun _ _ _ h => h) (Or.inl ⟨by rfl, ?_⟩) ?_ ?_
        rotate_left
        ·intro w'
         go_simp
         with_reducible rfl
        rotate_left
        ·simp only [Act.put, pp_]
         rfl
        refine pi_ (i := 1) (N := some 40) (v := ?_) (a' := ?_) (bm 13 3) rfl rfl HT_ (by kernel_rfl) (fun _ _ _ h => h) (Or.inl ⟨by rfl, ?_⟩) ?_ ?_
        rotate_left
        ·intro w'
         go_simp
         with_reducible rfl
        rotate_left
        ·simp only [Act.put, pp_]
         rfl
        refine pi_ (i := 3) (N := some 42) (v := ?_) (a' := ?_) (bm 13 11) rfl rfl HT_ (by kernel_rfl) (fun _ _ _ h => h) (Or.inl ⟨by rfl, ?_⟩) ?_ ?_
        rotate_left
        ·intro w'
         go_simp
         with_reducible rfl
        rotate_left
        ·simp only [Act.put, pp_]
         rfl
        refine pi_ (i := 4) (N := some 43) (v := ?_) (a' := ?_) (bm 13 27) rfl rfl HT_ (by kernel_rfl) (fun _ _ _ h => h) (Or.inl ⟨by rfl, ?_⟩) ?_ ?_
        rotate_left
        ·intro w'
         go_simp
         with_reducible rfl
        rotate_left
        ·simp only [Act.put, pp_]
         rfl
        refine pi_ (i := 7) (N := some 46) (v := ?_) (a' := ?_) (bm 13 155) rfl rfl HT_ (by kernel_rfl) (fun _ _ _ h => h) (Or.inl ⟨by rfl, ?_⟩) ?_ ?_
        rotate_left
        ·intro w'
         go_simp
         with_reducible rfl
        rotate_left
        ·simp only [Act.put, pp_]
         rfl
        refine pi_ (i := 8) (N := some 47) (v := ?_) (a' := ?_) (bm 13 411) rfl rfl HT_ (by kernel_rfl) (fun _ _ _ h => h) (Or.inl ⟨by rfl, ?_⟩) ?_ ?_
        rotate_left
        ·intro w'
         go_simp
         with_reducible rfl
        rotate_left
        ·simp only [Act.put, pp_]
         rfl
        refine pi_ (i := 9) (N := some 48) (v := ?_) (a' := ?_) (bm 13 923) rfl rfl HT_ (by kernel_rfl) (fun _ _ _ h => h) (Or.inl ⟨by rfl, ?_⟩) ?_ ?_
        rotate_left
        ·intro w'
         go_simp
         with_reducible rfl
        rotate_left
        ·simp only [Act.put, pp_]
         rfl
        refine take_ (i := 2) (N := some 41) (v := ?_) (a' := ?_) (bm 13 927) rfl rfl (take_ofW HT_.out HW_.out (by kernel_rfl)) (fun _ _ _ h => h) (Or.inl ⟨by rfl, ?_⟩) hHeld ?_ ?_
        rotate_left
        ·intro w' s0
         go_simp
         with_reducible rfl
        rotate_left
        ·simp only [Act.put, pp_]
         rfl
        refine one_ (i := 5) (N := some 44) (bm 13 959) rfl rfl (one_of HT_.out (by kernel_rfl)) (by decide) (fun K hK => ?_)
        refine value_ (w1 := w5.alloc (.cells #[.int .i64 x] 3 (0, 0))) (v := .slice (some ⟨w5.heap.size, 0, none⟩) 1 1) (by rfl) rfl ?_ ?_
        ·first | (go_simp; done) | (go_simp; rfl)
        have hbx := below_alloc (Below.refl w5.heap.size w5) (.cells #[.int .i64 x] 3 (0, 0))
        have hcx : (w5.alloc (.cells #[.int .i64 x] 3 (0, 0))).cell? ⟨w5.heap.size, 0, none⟩ = some (.int .i64 x) := (blk_cell (blk_new w5 (.cells #[.int .i64 x] 3 (0, 0))) 0).trans rfl
        obtain ⟨EN, VV, KK, RR, HB⟩ := plstep V EN VV KK RR HB hbx
        clear hbx
        have HCX := am hcx
        clear hcx
        generalize w5.heap.size = gx at HCX ⊢
        generalize World.alloc _ _ = w6 at EN VV KK RR HB HCX hHeld ⊢
        refine hK.out _ _ ((EN.out.cells).2.2.2.2.2.2) (fun hHeld => ?_)
        clear hK K
        refine norm_ (a' := ?_) ?_ ?_
        rotate_left
        ·show Act.put _ (some 44) _ = _
         simp only [Act.put, pp_]
         rfl
        refine one_ (i := 6) (N := some 45) (bm 13 1023) rfl rfl (one_of HT_.out (by kernel_rfl)) (by decide) (fun K hK => ?_)
        refine Kd.R_append_keep (Kd.int .i64) (w0 := w0) (W := w6) w0.heap.size (by rfl) (.tmp 42) (.tmp 44) 24 3 (.int .i64 0) 8 (by rfl) Tryd.underlying24 (by kernel_rfl) rfl (by decide) (.slice A0 l0.length c0) l0 x [.int .i64 x] (fun k_ => ¬ F1 k_ ∧ ¬ PlE e2 e3 e4 e5 e6 k_) (fun _ => False) ⟨gx, 0, none⟩ 1 (by rfl) (by rfl) (fun j u hj => by cases j with | zero => (simp at hj; subst hj; exact HCX.out) | succ j => simp at hj) rfl (fun _ h_ => h_.elim) (fun k_ hk_ => ⟨fun h_ => by have := V.lt VV.out k_ h_; omega, fun h_ => by have := EN.out.lt k_ h_; omega⟩) RR.out HB.out HB.out.size (by have := HL.out; omega) (by decide) ?_
        intro v1 w7 ho1 hoE hb7 hg7 hat7
        have HG := am (show w.heap.size ≤ w6.heap.size from KK.out.1)
        obtain ⟨EN, VV, KK⟩ := plapp V EN VV KK RR hg7
        have RR7 := am hoE
        have R1 := am ho1
        have HAT := am hat7
        clear RR HB
        have RR := RR7
        have HB := am hb7
        clear RR7 ho1 hoE hb7 hg7 hat7 HCX
        refine hK.out _ _ ((EN.out.cells).2.2.2.2.2.2) (fun hHeld => ?_)
        clear hK K
        refine norm_ (a' := ?_) ?_ ?_
        rotate_left
        ·show Act.put _ (some 45) _ = _
         simp only [Act.put, pp_]
         rfl
        refine one_ (i := 10) (N := some 49) (bm 13 2047) rfl rfl (one_of HT_.out (by kernel_rfl)) (by decide) (fun K hK => ?_)
        refine goesD_ (cap := #[.pointer (some ⟨e2, 0, none⟩), .pointer (some ⟨e3, 0, none⟩), .pointer (some ⟨e4, 0, none⟩), .pointer (some ⟨e5, 0, none⟩), .pointer (some ⟨e6, 0, none⟩)]) Tryd.func49 (by kernel_rfl) rfl #[v1, .int .u32 (Go.bits .or .u32 a1 t204)] #[v1, .int .u32 (Go.bits .or .u32 a1 t204), .pointer (some ⟨e2, 0, none⟩), .pointer (some ⟨e3, 0, none⟩), .pointer (some ⟨e4, 0, none⟩), .pointer (some ⟨e5, 0, none⟩), .pointer (some ⟨e6, 0, none⟩)] rfl (by rfl) rfl rfl (by rfl) (by (try simp only [List.map_toArray, List.map_cons, List.map_nil]); first | done | rfl) ?_
        with_reducible refine (ih k1 (by have := HK1.out; omega) v1 (l0 ++ [x]) _ s1 _ s2 w7 F1 EN.out VV.out FE.out HB.out R1.out AF.out).mono ?_
        rintro e w8 hpost
        obtain ⟨F2, rfl, hV2, hF2, hFE2, hK2, hB2, hR2⟩ := hpost
        refine ⟨_, rfl, ?_⟩
        have hh_ := plback V EN hV2 VV KK FE.out FF.out HG.out RR.out R1.out hR2 hK2 hF2 HAT.out
        clear EN VV KK RR HB FE FF R1 HAT
        obtain ⟨EN, VV, KK, RR, hFE3, hFF3⟩ := hh_
        have FE := am hFE3
        have FF := am hFF3
        have HB := am hB2
        clear hV2 hF2 hFE2 hK2 hB2 hR2 hFE3 hFF3
        refine hK.out _ _ ((EN.out.cells).2.2.2.2.2.2) (fun hHeld => ?_)
        clear hK K
        refine norm_ (a' := ?_) ?_ ?_
        rotate_left
        ·show Act.put _ (some 49) _ = _
         simp only [Act.put, pp_]
         rfl
        refine pi_ (i := 11) (N := some 50) (v := ?_) (a' := ?_) (bm 13 4095) rfl rfl HT_ (by kernel_rfl) (fun _ _ _ h => h) (Or.inl ⟨by rfl, ?_⟩) ?_ ?_
        rotate_left
        ·intro w'
         go_simp
         with_reducible rfl
        rotate_left
        ·simp only [Act.put, pp_]
         rfl
        refine pi_ (i := 12) (N := some 51) (v := ?_) (a' := ?_) (bm 13 8191) rfl rfl HT_ (by kernel_rfl) (fun _ _ _ h => h) (Or.inl ⟨by rfl, ?_⟩) ?_ ?_
        rotate_left
        ·intro w'
         go_simp
         with_reducible rfl
        rotate_left
        ·simp only [Act.put, pp_]
         rfl
        refine done_ (done_of HT_.out (by kernel_rfl)) ?_

        try go_wp2
        go_roundg k1
        case measure => have := HK1.out; omega
        case rel => exact ⟨(wrap64 (x + 1)), F2, s2, (by first | rfl | (simp; done) | (simp [*]; done)), H', ⟨by have := HK1.out; omega⟩, EN, VV, FE, FF, KK, RR, HB⟩
       | false =>
        have H1 : false = r ∧ s2 = s' := by have h_ := H.out; rw [if_neg (show ¬ (false = true) by decide)] at h_; simpa using h_
        obtain ⟨rfl, rfl⟩ := H1
        clear H
        try go_wp2
        refine start_ (n := 13) (S := fun w' => w'.cell? ⟨e6, 0, none⟩ = some (.func (.func 49) #[] #[.pointer (some ⟨e2, 0, none⟩), .pointer (some ⟨e3, 0, none⟩), .pointer (some ⟨e4, 0, none⟩), .pointer (some ⟨e5, 0, none⟩), .pointer (some ⟨e6, 0, none⟩)])) (ds := []) #[false, false, false, false, false, false, false, false, false, false, false, false, false] (by kernel_rfl) rfl rfl (((EN.out.below (below_drew1 (Below.refl _ _))).cells).2.2.2.2.2.2) (fun hHeld => ?_)
        refine with_tabW impl_Row_placings_1.tab7 impl_Row_placings_1.bits7 (fun HT_ HW_ => ?_)
        obtain ⟨EN, VV, KK, RR, HB⟩ := plstep V EN VV KK RR HB (below_drew1 (Below.refl _ _))
        generalize World.drew _ = w5 at EN VV KK RR HB hHeld ⊢
        refine pi_ (i := 0) (N := some 39) (v := ?_) (a' := ?_) (bm 13 1) rfl rfl HT_ (by kernel_rfl) (fun _ _ _ h => h) (Or.inl ⟨by rfl, ?_⟩) ?_ ?_
        rotate_left
        ·intro w'
         go_simp
         with_reducible rfl
        rotate_left
        ·simp only [Act.put, pp_]
         rfl
        refine pi_ (i := 1) (N := some 40) (v := ?_) (a' := ?_) (bm 13 3) rfl rfl HT_ (by kernel_rfl) (fun _ _ _ h => h) (Or.inl ⟨by rfl, ?_⟩) ?_ ?_
        rotate_left
        ·intro w'
         go_simp
         with_reducible rfl
        rotate_left
        ·simp only [Act.put, pp_]
         rfl
        refine pi_ (i := 3) (N := some 42) (v := ?_) (a' := ?_) (bm 13 11) rfl rfl HT_ (by kernel_rfl) (fun _ _ _ h => h) (Or.inl ⟨by rfl, ?_⟩) ?_ ?_
        rotate_left
        ·intro w'
         go_simp
         with_reducible rfl
        rotate_left
        ·simp only [Act.put, pp_]
         rfl
        refine pi_ (i := 4) (N := some 43) (v := ?_) (a' := ?_) (bm 13 27) rfl rfl HT_ (by kernel_rfl) (fun _ _ _ h => h) (Or.inl ⟨by rfl, ?_⟩) ?_ ?_
        rotate_left
        ·intro w'
         go_simp
         with_reducible rfl
        rotate_left
        ·simp only [Act.put, pp_]
         rfl
        refine pi_ (i := 7) (N := some 46) (v := ?_) (a' := ?_) (bm 13 155) rfl rfl HT_ (by kernel_rfl) (fun _ _ _ h => h) (Or.inl ⟨by rfl, ?_⟩) ?_ ?_
        rotate_left
        ·intro w'
         go_simp
         with_reducible rfl
        rotate_left
        ·simp only [Act.put, pp_]
         rfl
        refine pi_ (i := 8) (N := some 47) (v := ?_) (a' := ?_) (bm 13 411) rfl rfl HT_ (by kernel_rfl) (fun _ _ _ h => h) (Or.inl ⟨by rfl, ?_⟩) ?_ ?_
        rotate_left
        ·intro w'
         go_simp
         with_reducible rfl
        rotate_left
        ·simp only [Act.put, pp_]
         rfl
        refine pi_ (i := 9) (N := some 48) (v := ?_) (a' := ?_) (bm 13 923) rfl rfl HT_ (by kernel_rfl) (fun _ _ _ h => h) (Or.inl ⟨by rfl, ?_⟩) ?_ ?_
        rotate_left
        ·intro w'
         go_simp
         with_reducible rfl
        rotate_left
        ·simp only [Act.put, pp_]
         rfl
        refine take_ (i := 2) (N := some 41) (v := ?_) (a' := ?_) (bm 13 927) rfl rfl (take_ofW HT_.out HW_.out (by kernel_rfl)) (fun _ _ _ h => h) (Or.inl ⟨by rfl, ?_⟩) hHeld ?_ ?_
        rotate_left
        ·intro w' s0
         go_simp
         with_reducible rfl
        rotate_left
        ·simp only [Act.put, pp_]
         rfl
        refine one_ (i := 5) (N := some 44) (bm 13 959) rfl rfl (one_of HT_.out (by kernel_rfl)) (by decide) (fun K hK => ?_)
        refine value_ (w1 := w5.alloc (.cells #[.int .i64 x] 3 (0, 0))) (v := .slice (some ⟨w5.heap.size, 0, none⟩) 1 1) (by rfl) rfl ?_ ?_
        ·first | (go_simp; done) | (go_simp; rfl)
        have hbx := below_alloc (Below.refl w5.heap.size w5) (.cells #[.int .i64 x] 3 (0, 0))
        have hcx : (w5.alloc (.cells #[.int .i64 x] 3 (0, 0))).cell? ⟨w5.heap.size, 0, none⟩ = some (.int .i64 x) := (blk_cell (blk_new w5 (.cells #[.int .i64 x] 3 (0, 0))) 0).trans rfl
        obtain ⟨EN, VV, KK, RR, HB⟩ := plstep V EN VV KK RR HB hbx
        clear hbx
        have HCX := am hcx
        clear hcx
        generalize w5.heap.size = gx at HCX ⊢
        generalize World.alloc _ _ = w6 at EN VV KK RR HB HCX hHeld ⊢
        refine hK.out _ _ ((EN.out.cells).2.2.2.2.2.2) (fun hHeld => ?_)
        clear hK K
        refine norm_ (a' := ?_) ?_ ?_
        rotate_left
        ·show Act.put _ (some 44) _ = _
         simp only [Act.put, pp_]
         rfl
        refine one_ (i := 6) (N := some 45) (bm 13 1023) rfl rfl (one_of HT_.out (by kernel_rfl)) (by decide) (fun K hK => ?_)
        refine Kd.R_append_keep (Kd.int .i64) (w0 := w0) (W := w6) w0.heap.size (by rfl) (.tmp 42) (.tmp 44) 24 3 (.int .i64 0) 8 (by rfl) Tryd.underlying24 (by kernel_rfl) rfl (by decide) (.slice A0 l0.length c0) l0 x [.int .i64 x] (fun k_ => ¬ F1 k_ ∧ ¬ PlE e2 e3 e4 e5 e6 k_) (fun _ => False) ⟨gx, 0, none⟩ 1 (by rfl) (by rfl) (fun j u hj => by cases j with | zero => (simp at hj; subst hj; exact HCX.out) | succ j => simp at hj) rfl (fun _ h_ => h_.elim) (fun k_ hk_ => ⟨fun h_ => by have := V.lt VV.out k_ h_; omega, fun h_ => by have := EN.out.lt k_ h_; omega⟩) RR.out HB.out HB.out.size (by have := HL.out; omega) (by decide) ?_
        intro v1 w7 ho1 hoE hb7 hg7 hat7
        have HG := am (show w.heap.size ≤ w6.heap.size from KK.out.1)
        obtain ⟨EN, VV, KK⟩ := plapp V EN VV KK RR hg7
        have RR7 := am hoE
        have R1 := am ho1
        have HAT := am hat7
        clear RR HB
        have RR := RR7
        have HB := am hb7
        clear RR7 ho1 hoE hb7 hg7 hat7 HCX
        refine hK.out _ _ ((EN.out.cells).2.2.2.2.2.2) (fun hHeld => ?_)
        clear hK K
        refine norm_ (a' := ?_) ?_ ?_
        rotate_left
        ·show Act.put _ (some 45) _ = _
         simp only [Act.put, pp_]
         rfl
        refine one_ (i := 10) (N := some 49) (bm 13 2047) rfl rfl (one_of HT_.out (by kernel_rfl)) (by decide) (fun K hK => ?_)
        refine goesD_ (cap := #[.pointer (some ⟨e2, 0, none⟩), .pointer (some ⟨e3, 0, none⟩), .pointer (some ⟨e4, 0, none⟩), .pointer (some ⟨e5, 0, none⟩), .pointer (some ⟨e6, 0, none⟩)]) Tryd.func49 (by kernel_rfl) rfl #[v1, .int .u32 (Go.bits .or .u32 a1 t204)] #[v1, .int .u32 (Go.bits .or .u32 a1 t204), .pointer (some ⟨e2, 0, none⟩), .pointer (some ⟨e3, 0, none⟩), .pointer (some ⟨e4, 0, none⟩), .pointer (some ⟨e5, 0, none⟩), .pointer (some ⟨e6, 0, none⟩)] rfl (by rfl) rfl rfl (by rfl) (by (try simp only [List.map_toArray, List.map_cons, List.map_nil]); first | done | rfl) ?_
        with_reducible refine (ih k1 (by have := HK1.out; omega) v1 (l0 ++ [x]) _ s1 _ s2 w7 F1 EN.out VV.out FE.out HB.out R1.out AF.out).mono ?_
        rintro e w8 hpost
        obtain ⟨F2, rfl, hV2, hF2, hFE2, hK2, hB2, hR2⟩ := hpost
        refine ⟨_, rfl, ?_⟩
        have hh_ := plback V EN hV2 VV KK FE.out FF.out HG.out RR.out R1.out hR2 hK2 hF2 HAT.out
        clear EN VV KK RR HB FE FF R1 HAT
        obtain ⟨EN, VV, KK, RR, hFE3, hFF3⟩ := hh_
        have FE := am hFE3
        have FF := am hFF3
        have HB := am hB2
        clear hV2 hF2 hFE2 hK2 hB2 hR2 hFE3 hFF3
        refine hK.out _ _ ((EN.out.cells).2.2.2.2.2.2) (fun hHeld => ?_)
        clear hK K
        refine norm_ (a' := ?_) ?_ ?_
        rotate_left
        ·show Act.put _ (some 49) _ = _
         simp only [Act.put, pp_]
         rfl
        refine pi_ (i := 11) (N := some 50) (v := ?_) (a' := ?_) (bm 13 4095) rfl rfl HT_ (by kernel_rfl) (fun _ _ _ h => h) (Or.inl ⟨by rfl, ?_⟩) ?_ ?_
        rotate_left
        ·intro w'
         go_simp
         with_reducible rfl
        rotate_left
        ·simp only [Act.put, pp_]
         rfl
        refine pi_ (i := 12) (N := some 51) (v := ?_) (a' := ?_) (bm 13 8191) rfl rfl HT_ (by kernel_rfl) (fun _ _ _ h => h) (Or.inl ⟨by rfl, ?_⟩) ?_ ?_
        rotate_left
        ·intro w'
         go_simp
         with_reducible rfl
        rotate_left
        ·simp only [Act.put, pp_]
         rfl
        refine done_ (done_of HT_.out (by kernel_rfl)) ?_

        try go_wp2
        go_ret
        exact ⟨F2, rfl, VV.out, FF.out, FE.out, KK.out, HB.out, RR.out⟩
     ·rw [if_neg c11] at H
      exact absurd H (by simp)
    ·rw [if_neg c9] at H
     have c9b0 : decide (x < a4) = false := decide_eq_false c9
     clear c9
     obtain ⟨rfl, rfl⟩ : true = r ∧ s1 = s' := by simpa using H
     clear H
     go_wp2
     go_ret
     exact ⟨F1, rfl, VV.out, FF.out, FE.out, KK.out, HB.out, RR.out⟩


end Go.Proofs.YtnoipklaebadeaaDoor.PFnPlacings
