/- Chances of own seats are those of all ways in which seats can be taken; the mean of wrong ones is what they leave. -/
import Derived.Test.YtlpfmaodbiidoaaPFnOwnSeatsx9
namespace Go.Proofs.Ytlpfmaodbiidoaa.Pure
open Go.RowKit Go.Proofs.Ytlpfmaodbiidoaa.PFnOwnSeats Go.Proofs.YtlpfmaodbiidoaaW.PrintWords Go.Proofs.YtlpfmaodbiidoaaW.PrintLast Go.Proofs.YtlpfmaodbiidoaaW.PrintMore
set_option linter.unusedVariables false

theorem Ev.pos {α : Type} {c : Prop} [Decidable c] {f g : Nat → Option α} {r : α} (h : c) (k : Ev f r) : Ev (fun m => if c then f m else g m) r :=
  Ev.congr (fun _ => if_pos h) k
theorem Ev.neg {α : Type} {c : Prop} [Decidable c] {f g : Nat → Option α} {r : α} (h : ¬ c) (k : Ev g r) : Ev (fun m => if c then f m else g m) r :=
  Ev.congr (fun _ => if_neg h) k
theorem Ev.bindc {α β : Type} {x : Option α} {f : Nat → α → Option β} {a : α} {r : β} (h : x = some a) (k : Ev (fun n => f n a) r) : Ev (fun n => x.bind (f n)) r := by
  subst h; exact k
theorem Ev.succ {α : Type} {g : Nat → Option α} {r : α} (k : Ev (fun n => g (n + 1)) r) : Ev g r := Ev.step (fun _ => rfl) k
theorem Ev.unique {α : Type} {g : Nat → Option α} {r q : α} (h : Ev g r) (k : Ev g q) : r = q := by
  obtain ⟨K, hK⟩ := h; obtain ⟨L, hL⟩ := k
  have := (hK (max K L) (Nat.le_max_left _ _)).symm.trans (hL (max K L) (Nat.le_max_right _ _))
  exact Option.some.inj this
theorem w64 {n : Int} (h0 : -9223372036854775808 ≤ n) (h1 : n < 9223372036854775808) : wrap64 n = n := by unfold wrap64; omega
theorem rd_nat (l : List Int) (i : Nat) (h : i < l.length) : rd l (i : Int) = l[i] := by
  unfold rd; rw [Int.toNat_natCast, List.getD_eq_getElem?_getD, List.getElem?_eq_getElem h]; rfl
theorem lit_i64 {x : Int} (h : (Lit.int .i64 x).wf = true) : -9223372036854775808 ≤ x ∧ x < 9223372036854775808 := by
  simp [Lit.wf, IntKind.min, IntKind.max, IntKind.bits, IntKind.signed] at h; omega
/-- a list of bytes -/
def Bytes8 (l : List Int) : Prop := ∀ x ∈ l, 0 ≤ x ∧ x ≤ 255
theorem and255 (x : Int) (h0 : 0 ≤ x) (h1 : x < 4294967296) : 0 ≤ Go.bits .and .u64 x 255 ∧ Go.bits .and .u64 x 255 ≤ 255 := by
  have h := (bits_nat .u64 64 (by decide) (fun n h0 h1 => by rw [IntKind.wrap_u64]; omega) x.toNat 255 (by omega) (by omega)).1
  rw [Int.toNat_of_nonneg h0] at h
  rw [show (255 : Int) = ((255 : Nat) : Int) from rfl, h]
  have := Nat.and_le_right (n := x.toNat) (m := 255)
  omega
theorem u64_range (x : Int) : 0 ≤ IntKind.u64.wrap x ∧ IntKind.u64.wrap x < 18446744073709551616 := by
  rw [IntKind.wrap_u64]; omega
theorem next_ok (s : List Int) (hs : Bytes8 s) (hl : s.length ≤ 1000000) (p st : Int) (h0 : 0 ≤ p) (h1 : p ≤ 1000000) :
    ∃ v q, spec_l1Cur_next.f s p st = some (v, p + 1, q) ∧ 0 ≤ v ∧ v ≤ 255 := by
  unfold spec_l1Cur_next.f
  have hw : wrap64 (p + 1) = p + 1 := w64 (by omega) (by omega)
  rw [hw]
  have hand : ∀ y : Int, 0 ≤ wrap64 (Go.bits .and .u64 (IntKind.u64.wrap y / 1099511627776) 255) ∧ wrap64 (Go.bits .and .u64 (IntKind.u64.wrap y / 1099511627776) 255) ≤ 255 := fun y => by
    have h := u64_range y
    have := and255 (IntKind.u64.wrap y / 1099511627776) (by omega) (by omega)
    rw [w64 (by omega) (by omega)]; exact this
  by_cases c : p < (s.length : Int)
  · rw [if_pos c, if_pos h0]
    have hm : rd s p ∈ s := by
      obtain ⟨n, rfl⟩ : ∃ n : Nat, p = (n : Int) := ⟨p.toNat, by omega⟩
      rw [rd_nat s n (by omega)]; exact List.getElem_mem _
    have hv := hs _ hm
    by_cases d : p + 1 ≤ (s.length : Int)
    · rw [if_pos d]; exact ⟨_, _, rfl, by rw [w64 (by omega) (by omega)]; exact hv⟩
    · rw [if_neg d]; exact ⟨_, _, rfl, hand _⟩
  · rw [if_neg c]
    by_cases d : p + 1 ≤ (s.length : Int)
    · rw [if_pos d]; exact ⟨_, _, rfl, by omega, by omega⟩
    · rw [if_neg d]; exact ⟨_, _, rfl, hand _⟩
theorem pick_ok (s : List Int) (hs : Bytes8 s) (hl : s.length ≤ 1000000) (p st a : Int) (h0 : 0 ≤ p) (h1 : p ≤ 1000000) (ha : a ≤ 200) :
    ∃ v p' q, spec_l1Cur_pick.f s p st a = some (v, p', q) ∧ 0 ≤ v ∧ (v < a ∨ v = 0) ∧ p ≤ p' ∧ p' ≤ p + 1 := by
  unfold spec_l1Cur_pick.f
  by_cases c : a ≤ 1
  · rw [if_pos c]; exact ⟨_, _, _, rfl, by omega, .inr rfl, by omega, by omega⟩
  · rw [if_neg c]
    obtain ⟨v, q, e, hv0, hv1⟩ := next_ok s hs hl p st h0 h1
    rw [e]
    simp only [Option.bind_some]
    rw [if_neg (by omega), if_neg (by omega)]
    refine ⟨_, _, _, rfl, Int.tmod_nonneg _ hv0, .inl ?_, by omega, by omega⟩
    exact Int.tmod_lt_of_pos _ (by omega)
theorem among_ok (s : List Int) (hs : Bytes8 s) (hl : s.length ≤ 1000000) (p st : Int) (l : List Int) (h0 : 0 ≤ p) (h1 : p ≤ 1000000) (hn : 0 < l.length) (hm : l.length ≤ 200) :
    ∃ v p' q, spec_l1Cur_among.f s p st l = some (v, p', q) ∧ v ∈ l ∧ p ≤ p' ∧ p' ≤ p + 1 := by
  unfold spec_l1Cur_among.f
  obtain ⟨v, p', q, e, hv0, hv1, hp0, hp1⟩ := pick_ok s hs hl p st (l.length : Int) h0 h1 (by omega)
  rw [e]
  simp only [Option.bind_some]
  have hv : v < (l.length : Int) := by omega
  rw [if_pos hv0, if_pos hv]
  refine ⟨_, _, _, rfl, ?_, hp0, hp1⟩
  obtain ⟨n, rfl⟩ : ∃ n : Nat, v = (n : Int) := ⟨v.toNat, by omega⟩
  rw [rd_nat l n (by omega)]; exact List.getElem_mem _
theorem tdiv_small (v d : Int) (h0 : 0 ≤ v) (hd : 0 < d) : Int.tdiv v d = v / d := by
  rw [Int.tdiv_eq_ediv_of_nonneg h0]
theorem few5_ok (s : List Int) (hs : Bytes8 s) (hl : s.length ≤ 1000000) :
    ∃ n t p q, spec_l1Cur_few5.f s 0 0 = some (n, t, p, q) ∧ n ∈ ([4, 5, 3, 2, 1, 6, 7, 8, 0, (-1)] : List Int) ∧ t ∈ ([1, 2, 3, 0] : List Int) ∧ (5 < n → t ≤ 2) := by
  unfold spec_l1Cur_few5.f
  simp only [Option.bind_some]
  obtain ⟨v, p1, q1, e1, hv0, hv1, hp0, hp1⟩ := pick_ok s hs hl 0 0 24 (by omega) (by omega) (by omega)
  rw [e1]
  simp only [Option.bind_some]
  have ht : Int.tdiv v 8 = v / 8 := tdiv_small v 8 hv0 (by omega)
  rw [ht, w64 (n := v / 8) (by omega) (by omega), w64 (n := 7 + v / 8) (by omega) (by omega), if_pos (by omega), if_pos (by simp; omega)]
  have hlen : (([4, 5, 3, 2, 1, 6, 7, 8, 0, (-1)] : List Int).take (7 + v / 8 : Int).toNat).length = (7 + v / 8 : Int).toNat := by
    rw [List.length_take]; simp; omega
  obtain ⟨n, p2, q2, e2, hn, hp2, hp3⟩ := among_ok s hs hl p1 q1 (([4, 5, 3, 2, 1, 6, 7, 8, 0, (-1)] : List Int).take (7 + v / 8 : Int).toNat) (by omega) (by omega) (by omega) (by omega)
  rw [e2]
  simp only [Option.bind_some]
  obtain ⟨t, p3, q3, e3, ht3, hp4, hp5⟩ := among_ok s hs hl p2 q2 ([1, 2, 1, 3, 0] : List Int) (by omega) (by omega) (by simp) (by simp)
  rw [e3]
  simp only [Option.bind_some]
  have ht4 : t ∈ ([1, 2, 3, 0] : List Int) := by simp at ht3 ⊢; omega
  have hn4 := List.mem_of_mem_take hn
  by_cases c : n > 5
  · rw [if_pos c]
    unfold spec_l1Least.f
    by_cases d : t < 2
    · rw [if_pos d]; exact ⟨n, t, _, _, rfl, hn4, ht4, fun _ => by omega⟩
    · rw [if_neg d]; exact ⟨n, 2, _, _, rfl, hn4, by simp, fun _ => by omega⟩
  · rw [if_neg c]; exact ⟨n, t, _, _, rfl, hn4, ht4, fun h => absurd h (by omega)⟩
theorem plane5_ok (s : List Int) (hs : Bytes8 s) (hl : s.length ≤ 1000000) :
    ∃ n t p q, spec_l1Cur_plane5.f s 0 0 = some (n, t, p, q) ∧ (-1 ≤ n ∧ n ≤ 13) ∧ (-1 ≤ t ∧ t ≤ 14) ∧ 0 ≤ p ∧ p ≤ 10 := by
  unfold spec_l1Cur_plane5.f
  simp only [Option.bind_some]
  obtain ⟨v, p1, q1, e1, hv0, hv1, hp0, hp1⟩ := pick_ok s hs hl 0 0 24 (by omega) (by omega) (by omega)
  rw [e1]
  simp only [Option.bind_some]
  have ht : Int.tdiv v 8 = v / 8 := tdiv_small v 8 hv0 (by omega)
  rw [ht, w64 (n := v / 8) (by omega) (by omega), w64 (n := 9 + v / 8) (by omega) (by omega), if_pos (by omega), if_pos (by simp; omega)]
  have hlen : (([4, 5, 3, 6, 2, 1, 7, 10, 12, 0, 13, (-1)] : List Int).take (9 + v / 8 : Int).toNat).length = (9 + v / 8 : Int).toNat := by
    rw [List.length_take]; simp; omega
  obtain ⟨n, p2, q2, e2, hn, hp2, hp3⟩ := among_ok s hs hl p1 q1 (([4, 5, 3, 6, 2, 1, 7, 10, 12, 0, 13, (-1)] : List Int).take (9 + v / 8 : Int).toNat) (by omega) (by omega) (by omega) (by omega)
  rw [e2]
  simp only [Option.bind_some]
  obtain ⟨t, p3, q3, e3, ht3, hp4, hp5⟩ := among_ok s hs hl p2 q2 ([1, 2, 1, 3, 0, 4] : List Int) (by omega) (by omega) (by simp) (by simp)
  rw [e3]
  simp only [Option.bind_some]
  have ht4 : 0 ≤ t ∧ t ≤ 4 := by simp at ht3; omega
  have hn4 : -1 ≤ n ∧ n ≤ 13 := by have h := List.mem_of_mem_take hn; simp at h; omega
  unfold spec_l1Cur_one.f
  obtain ⟨u, p4, q4, e4, hu0, hu1, hp6, hp7⟩ := pick_ok s hs hl p3 q3 16 (by omega) (by omega) (by omega)
  rw [e4]
  simp only [Option.bind_some]
  by_cases c : (u == 0) = true
  · rw [if_pos c]
    obtain ⟨r, p5, q5, e5, hr, hp8, hp9⟩ := among_ok s hs hl p4 q4 ([n, wrap64 (n + 1), (-1)] : List Int) (by omega) (by omega) (by simp) (by simp)
    rw [e5]
    simp only [Option.bind_some]
    rw [w64 (by omega) (by omega)] at hr
    exact ⟨n, r, _, _, rfl, hn4, by simp at hr; omega, by omega, by omega⟩
  · rw [if_neg c]; exact ⟨n, t, _, _, rfl, hn4, by omega, by omega, by omega⟩
theorem drawChance_ok (s : List Int) (hs : Bytes8 s) (hl : s.length ≤ 1000000) :
    ∃ n t i, spec_DrawOwnChance.f s = some (n, t, i) ∧ (-1 ≤ n ∧ n ≤ 13) ∧ (-1 ≤ t ∧ t ≤ 14) ∧ (-1 ≤ i ∧ i ≤ 13) := by
  unfold spec_DrawOwnChance.f
  obtain ⟨n, t, p, q, e, hn, ht, hp0, hp1⟩ := plane5_ok s hs hl
  rw [e]
  simp only [Option.bind_some]
  obtain ⟨m, hm, hm1⟩ : ∃ m, spec_l1Most.f 1 n = some m ∧ m ≤ 13 := by
    unfold spec_l1Most.f
    by_cases c : (1 : Int) > n
    · rw [if_pos c]; exact ⟨_, rfl, by omega⟩
    · rw [if_neg c]; exact ⟨_, rfl, by omega⟩
  rw [hm]
  simp only [Option.bind_some]
  obtain ⟨v, p1, q1, e1, hv0, hv1, hp2, hp3⟩ := pick_ok s hs hl p q m (by omega) (by omega) (by omega)
  rw [e1]
  simp only [Option.bind_some]
  obtain ⟨u, p2, q2, e2, hu0, hu1, hp4, hp5⟩ := pick_ok s hs hl p1 q1 24 (by omega) (by omega) (by omega)
  rw [e2]
  simp only [Option.bind_some]
  have hd : Int.tdiv u 23 = u / 23 := tdiv_small u 23 hu0 (by omega)
  rw [hd, w64 (n := u / 23) (by omega) (by omega), w64 (by omega) (by omega)]
  exact ⟨n, t, _, rfl, hn, ht, by omega, by omega⟩
theorem vCut_ok (l : List Int) (hl : Bytes8 l) (hn : l.length ≤ 65536) : ∃ s, laws_vCut.f l 1 = some s ∧ Bytes8 s ∧ s.length ≤ 1000000 := by
  unfold laws_vCut.f
  by_cases c : (1 : Int) > (l.length : Int)
  · rw [if_pos c]
    simp only [Option.bind_some]
    rw [if_pos (by omega), if_pos (by omega), if_pos (by simp)]
    rw [if_pos (by simp)]
    refine ⟨_, rfl, ?_, by simp⟩
    intro x hx
    simp at hx
    omega
  · rw [if_neg c]
    simp only [Option.bind_some]
    rw [if_pos (by omega), if_pos (by omega), if_pos (by simp; omega)]
    rw [if_pos (by simp; omega)]
    refine ⟨_, rfl, ?_, by simp; omega⟩
    intro x hx
    simp only [List.nil_append, List.mem_append, List.mem_singleton] at hx
    rcases hx with hx | hx
    · exact hl x (List.mem_of_mem_drop hx)
    · omega

/-- what a law's loops come to, told with nothing behind them, they come to with what is behind them -/
theorem j2_true (k : Nat) (n t : Int) (T : List S32) (ok : Bool) (m lo a b : Int) : laws_FnOwnSeats.j2 k n t T ok m lo true a b ≠ some true := by
  cases k with
  | zero => simp [laws_FnOwnSeats.j2]
  | succ k => simp [laws_FnOwnSeats.j2]
theorem tail1 (n t : Int) (T : List S32) (ok : Bool) (hj : Ev (fun k => laws_FnOwnSeats.j4 k n t T ok) true) (m lo : Int) : ∀ k x a b,
    laws_FnOwnSeats.l1 k 0 0 [] false m lo x a b = some true → Ev (fun k => laws_FnOwnSeats.l1 k n t T ok m lo x a b) true := by
  intro k
  induction k with
  | zero => intro x a b h; simp [laws_FnOwnSeats.l1] at h
  | succ k ih =>
    intro x a b h
    simp only [laws_FnOwnSeats.l1] at h
    refine Ev.succ ?_
    simp only [laws_FnOwnSeats.l1]
    by_cases c : x < m
    · rw [if_pos c] at h
      obtain ⟨u, h1, h⟩ := Option.bind_eq_some_iff.mp h
      by_cases d : u.2.2 = true
      · rw [if_pos d] at h
        obtain ⟨q, h2, h⟩ := Option.bind_eq_some_iff.mp h
        exact Ev.pos c (Ev.bind (Ev.of (impl_OwnChance.mono m lo x) h1) (Ev.pos d (Ev.bind (Ev.of (laws_vPlus.mono a b u.1 u.2.1) h2) (ih _ _ _ h))))
      · rw [if_neg d] at h; simp at h
    · rw [if_neg c] at h
      by_cases d : a = m
      · rw [if_pos d] at h
        by_cases e : b = 1
        · exact Ev.neg c (Ev.pos d (Ev.pos e hj))
        · rw [if_neg e] at h; simp at h
      · rw [if_neg d] at h; simp at h
theorem tail0 (n t : Int) (T : List S32) (ok : Bool) (hj : Ev (fun k => laws_FnOwnSeats.j4 k n t T ok) true) (m lo : Int) (L : List S32) (A B : Int) : ∀ k x a b,
    laws_FnOwnSeats.l0 k 0 0 [] false m lo L x A B a b = some true → Ev (fun k => laws_FnOwnSeats.l0 k n t T ok m lo L x A B a b) true := by
  intro k
  induction k with
  | zero => intro x a b h; simp [laws_FnOwnSeats.l0] at h
  | succ k ih =>
    intro x a b h
    simp only [laws_FnOwnSeats.l0] at h
    refine Ev.succ ?_
    simp only [laws_FnOwnSeats.l0]
    by_cases c : x < m
    · rw [if_pos c] at h
      by_cases c1 : 0 ≤ x
      · rw [if_pos c1] at h
        by_cases c2 : x < (L.length : Int)
        · rw [if_pos c2] at h
          obtain ⟨q, h2, h⟩ := Option.bind_eq_some_iff.mp h
          exact Ev.pos c (Ev.pos c1 (Ev.pos c2 (Ev.bind (Ev.of (laws_vPlus.mono a b _ _) h2) (ih _ _ _ h))))
        · rw [if_neg c2] at h; simp at h
      · rw [if_neg c1] at h; simp at h
    · rw [if_neg c] at h
      obtain ⟨u, h1, h⟩ := Option.bind_eq_some_iff.mp h
      refine Ev.neg c (Ev.bind (Ev.of (impl_OwnChance.mono m lo _) h1) ?_)
      by_cases d : u.2.2 = true
      · rw [if_pos d] at h
        by_cases e : a = 1
        · rw [if_pos e] at h
          by_cases e2 : b = 1
          · rw [if_pos e2] at h
            by_cases e3 : 0 ≤ wrap64 (m - 1)
            · rw [if_pos e3] at h
              by_cases e4 : wrap64 (m - 1) < (L.length : Int)
              · rw [if_pos e4] at h
                by_cases e5 : (rd_T32 L (wrap64 (m - 1))).f0 = u.1
                · rw [if_pos e5] at h
                  by_cases e6 : (rd_T32 L (wrap64 (m - 1))).f1 = u.2.1
                  · rw [if_pos e6] at h
                    refine Ev.pos d (Ev.pos e (Ev.pos e2 (Ev.pos e3 (Ev.pos e4 (Ev.pos e5 (Ev.pos e6 (Ev.succ ?_)))))))
                    simp only [laws_FnOwnSeats.j2]
                    refine Ev.neg (by decide) ?_
                    cases k with
                    | zero => simp [laws_FnOwnSeats.j2] at h
                    | succ k =>
                      simp only [laws_FnOwnSeats.j2] at h
                      rw [if_neg (by decide)] at h
                      exact tail1 n t T ok hj m lo k _ _ _ h
                  · rw [if_neg e6] at h; exact absurd h (j2_true _ _ _ _ _ _ _ _ _)
                · rw [if_neg e5] at h; exact absurd h (j2_true _ _ _ _ _ _ _ _ _)
              · rw [if_neg e4] at h; simp at h
            · rw [if_neg e3] at h; simp at h
          · rw [if_neg e2] at h; exact absurd h (j2_true _ _ _ _ _ _ _ _ _)
        · rw [if_neg e] at h; exact absurd h (j2_true _ _ _ _ _ _ _ _ _)
      · rw [if_neg d] at h; exact absurd h (j2_true _ _ _ _ _ _ _ _ _)

def chkA (n t : Int) : Bool := match impl_OwnTable.f 6000 n t, spec_OwnTable.f 6000 n t with
  | some a, some b => (a.2 == b.2) && (laws_vPairs.f 6000 a.1 b.1 == some true) && (laws_FnOwnSeats.j4 6000 n t a.1 a.2 == some true)
  | _, _ => false
def chkB (m lo : Int) : Bool := match impl_WrongMean.f 300 m lo, spec_WrongMean.f 300 m lo, impl_LastSeats.f 300 m lo, spec_LastSeats.f 300 m lo with
  | some a, some b, some c, some d => (a.1 == b.1) && (a.2.1 == b.2.1) && (a.2.2 == b.2.2) && (c.2 == d.2) && (laws_vPairs.f 300 c.1 d.1 == some true) && (a.2.2 == c.2) && (!c.2 || laws_FnOwnSeats.l0 300 0 0 [] false m lo c.1 0 a.1 a.2.1 0 1 == some true)
  | _, _, _, _ => false
def chkC (m lo i : Int) : Bool := match impl_OwnChance.f 300 m lo i, spec_OwnChance.f 300 m lo i, impl_WrongMean.f 300 m lo with
  | some a, some b, some c => (a.1 == b.1) && (a.2.1 == b.2.1) && (a.2.2 == b.2.2) && (!a.2.2 || c.2.2)
  | _, _, _ => false
theorem chkB_all : (List.range 15).all (fun m => (List.range 16).all fun lo => chkB ((m : Int) - 1) ((lo : Int) - 1)) = true := by decide +kernel
theorem chkC_all : (List.range 15).all (fun m => (List.range 16).all fun lo => (List.range 15).all fun i => chkC ((m : Int) - 1) ((lo : Int) - 1) ((i : Int) - 1)) = true := by decide +kernel
theorem chkA_all : ([4, 5, 3, 2, 1, 6, 7, 8, 0, (-1)] : List Int).all (fun n => ([1, 2, 3, 0] : List Int).all fun t => (decide (5 < n) && decide (2 < t)) || chkA n t) = true := by decide +kernel
theorem chkB_at (m lo : Int) (hm : -1 ≤ m ∧ m ≤ 13) (hl : -1 ≤ lo ∧ lo ≤ 14) : chkB m lo = true := by
  have h := List.all_eq_true.mp (List.all_eq_true.mp chkB_all (m + 1).toNat (List.mem_range.mpr (by omega))) (lo + 1).toNat (List.mem_range.mpr (by omega))
  rwa [show (((m + 1).toNat : Nat) : Int) - 1 = m by omega, show (((lo + 1).toNat : Nat) : Int) - 1 = lo by omega] at h
theorem chkC_at (m lo i : Int) (hm : -1 ≤ m ∧ m ≤ 13) (hl : -1 ≤ lo ∧ lo ≤ 14) (hi : -1 ≤ i ∧ i ≤ 13) : chkC m lo i = true := by
  have h := List.all_eq_true.mp (List.all_eq_true.mp (List.all_eq_true.mp chkC_all (m + 1).toNat (List.mem_range.mpr (by omega))) (lo + 1).toNat (List.mem_range.mpr (by omega))) (i + 1).toNat (List.mem_range.mpr (by omega))
  rwa [show (((m + 1).toNat : Nat) : Int) - 1 = m by omega, show (((lo + 1).toNat : Nat) : Int) - 1 = lo by omega, show (((i + 1).toNat : Nat) : Int) - 1 = i by omega] at h
theorem chkA_at (n t : Int) (hn : n ∈ ([4, 5, 3, 2, 1, 6, 7, 8, 0, (-1)] : List Int)) (ht : t ∈ ([1, 2, 3, 0] : List Int)) (h : 5 < n → t ≤ 2) : chkA n t = true := by
  have h1 := List.all_eq_true.mp (List.all_eq_true.mp chkA_all n hn) t ht
  rw [Bool.or_eq_true, Bool.and_eq_true, decide_eq_true_eq, decide_eq_true_eq] at h1
  rcases h1 with h1 | h1
  · exact absurd (h h1.1) (by omega)
  · exact h1
theorem FnOwnSeats : laws_FnOwnSeats.Pure := by
  intro l0 _ _ hwf
  have hb : Bytes8 l0 := fun x hx => by
    have h := hwf x hx
    simp [Lit.wf, IntKind.min, IntKind.max, IntKind.bits, IntKind.signed] at h; omega
  refine Ev.rounds (g := fun k => laws_FnOwnSeats.f k l0) ?_
  unfold laws_FnOwnSeats.f laws_vBig.f
  by_cases hbig : (l0.length : Int) > 65536
  · exact Ev.bindc rfl (Ev.pos (decide_eq_true hbig) (Ev.now _))
  refine Ev.bindc rfl (Ev.neg (by simpa using hbig) ?_)
  obtain ⟨n, t, p, q, e1, hn, ht, hnt⟩ := few5_ok l0 hb (by omega)
  refine Ev.bindc (a := (n, t)) (by unfold spec_DrawOwnTable.f; rw [e1]; rfl) ?_
  have hA := chkA_at n t hn ht hnt
  unfold chkA at hA
  split at hA
  next a b ea eb =>
    simp only [Bool.and_eq_true, beq_iff_eq] at hA
    obtain ⟨⟨hA1, hA2⟩, hA3⟩ := hA
    have hj : Ev (fun k => laws_FnOwnSeats.j4 k n t a.1 a.2) true := Ev.of (fun k => (laws_FnOwnSeats.mono_l k).2.1 n t a.1 a.2) hA3
    refine Ev.bind (Ev.of (impl_OwnTable.mono n t) ea) (Ev.bind (Ev.of (spec_OwnTable.mono n t) eb) ?_)
    obtain ⟨s, e2, hs, hsl⟩ := vCut_ok l0 hb (by omega)
    obtain ⟨m, lo, i, e3, hm, hlo, hi⟩ := drawChance_ok s hs hsl
    refine Ev.bindc e2 (Ev.bindc e3 ?_)
    have hB := chkB_at m lo hm hlo
    have hC := chkC_at m lo i hm hlo hi
    unfold chkB at hB
    unfold chkC at hC
    split at hB
    next wa wb la lb ewa ewb ela elb =>
      split at hC
      next oa ob oc eoa eob eoc =>
        rw [ewa] at eoc
        obtain rfl := Option.some.inj eoc
        simp only [Bool.and_eq_true, beq_iff_eq, Bool.or_eq_true, Bool.not_eq_true'] at hB hC
        obtain ⟨⟨⟨⟨⟨⟨hB1, hB2⟩, hB3⟩, hB4⟩, hB5⟩, hB6⟩, hB7⟩ := hB
        obtain ⟨⟨⟨hC1, hC2⟩, hC3⟩, hC4⟩ := hC
        refine Ev.bind (Ev.of (impl_OwnChance.mono m lo i) eoa) (Ev.bind (Ev.of (spec_OwnChance.mono m lo i) eob) ?_)
        refine Ev.bind (Ev.of (impl_WrongMean.mono m lo) ewa) (Ev.bind (Ev.of (spec_WrongMean.mono m lo) ewb) ?_)
        refine Ev.bind (Ev.of (impl_LastSeats.mono m lo) ela) (Ev.bind (Ev.of (spec_LastSeats.mono m lo) elb) ?_)
        have hend : Ev (fun k => laws_FnOwnSeats.j0 k n t a.1 a.2 m lo la.1 la.2 false wa.1 wa.2.1) true := by
          refine Ev.succ ?_
          simp only [laws_FnOwnSeats.j0]
          refine Ev.neg (by decide) ?_
          rcases hB7 with h | h
          · exact Ev.neg (by rw [h]; decide) hj
          · by_cases c : la.2 = true
            · exact Ev.pos c (tail0 n t a.1 a.2 hj m lo la.1 wa.1 wa.2.1 _ _ _ _ h)
            · exact Ev.neg c hj
        refine Ev.neg (by rw [hA1]; simp) (Ev.bind (Ev.of (laws_vPairs.mono a.1 b.1) hA2) (Ev.pos rfl (Ev.pos hC1 (Ev.pos hC2 (Ev.neg (by rw [hC3]; simp) (Ev.pos hB1 (Ev.pos hB2 (Ev.neg (by rw [hB3]; simp) (Ev.neg (by rw [hB4]; simp) ?_)))))))))
        refine Ev.bind (Ev.of (laws_vPairs.mono la.1 lb.1) hB5) (Ev.pos rfl (Ev.neg (by rw [hB6]; simp) ?_))
        by_cases c : oa.2.2 = true
        · rcases hC4 with h | h
          · rw [c] at h; exact absurd h (by decide)
          · rw [h]; exact Ev.pos c hend
        · exact Ev.neg c hend
      next => exact absurd hC (by decide)
    next => exact absurd hB (by decide)
  next => exact absurd hA (by decide)

end Go.Proofs.Ytlpfmaodbiidoaa.Pure
