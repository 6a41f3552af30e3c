/- Proved: the mean boarding time, as the program returns it, is the reference's, for all arguments. Conditions: those of the statement. -/
import Derived.Test.YthaaakijekkkaaaZMeanTimePx7
namespace Go.Proofs.Ythaaakijekkkaaa.Pure
open Go.RowKit Go.Proofs.Ythaaakijekkkaaa.PFnExactMeanTime Go.Proofs.YthaaakijekkkaaaW.PrintWords Go.Proofs.YthaaakijekkkaaaW.PrintLast Go.Proofs.YthaaakijekkkaaaW.PrintMore
set_option linter.unusedVariables false

theorem Ev.pos {α : Type} {c : Prop} [Decidable c] {f g : Nat → Option α} {r : α} (h : c) (k : Ev f r) : Ev (fun m => if c then f m else g m) r :=
  Ev.congr (fun _ => if_pos h) k
theorem Ev.neg {α : Type} {c : Prop} [Decidable c] {f g : Nat → Option α} {r : α} (h : ¬ c) (k : Ev g r) : Ev (fun m => if c then f m else g m) r :=
  Ev.congr (fun _ => if_neg h) k
theorem Ev.bindc {α β : Type} {x : Option α} {f : Nat → α → Option β} {a : α} {r : β} (h : x = some a) (k : Ev (fun n => f n a) r) : Ev (fun n => x.bind (f n)) r := by
  subst h; exact k
theorem Ev.succ {α : Type} {g : Nat → Option α} {r : α} (k : Ev (fun n => g (n + 1)) r) : Ev g r := Ev.step (fun _ => rfl) k
theorem w64 {n : Int} (h0 : -9223372036854775808 ≤ n) (h1 : n < 9223372036854775808) : wrap64 n = n := by unfold wrap64; omega
theorem rd_nat (l : List Int) (i : Nat) (h : i < l.length) : rd l (i : Int) = l[i] := by
  unfold rd; rw [Int.toNat_natCast, List.getD_eq_getElem?_getD, List.getElem?_eq_getElem h]; rfl
/-- a loop that ends early, with one answer, where P fails -/
theorem ev_all {α : Type} (L : Nat → Nat → Option α) (n : Nat) (P : Nat → Prop) (rEnd : α)
    (hend : Ev (fun k => L k n) rEnd) (hgood : ∀ i, i < n → P i → ∀ r, Ev (fun k => L k (i + 1)) r → Ev (fun k => L k i) r)
    (i : Nat) (hi : i ≤ n) (h : ∀ j, i ≤ j → j < n → P j) : Ev (fun k => L k i) rEnd := by
  obtain ⟨d, hd⟩ : ∃ d, i + d = n := ⟨n - i, by omega⟩
  induction d generalizing i with
  | zero => rw [show i = n by omega]; exact hend
  | succ d ih => exact hgood i (by omega) (h i (by omega) (by omega)) _ (ih (i + 1) (by omega) (fun j h1 h2 => h j (by omega) h2) (by omega))
theorem within_eq (a b c : Int) : impl_within.f a b c = some (decide (b ≤ a ∧ a ≤ c)) := by
  unfold impl_within.f
  by_cases h : a ≥ b
  · rw [if_pos h]; simp [show b ≤ a from h]
  · rw [if_neg h]; simp [show ¬ b ≤ a from h]
theorem l1In_eq (a b c : Int) : spec_l1In.f a b c = some (decide (b ≤ a ∧ a ≤ c)) := by
  unfold spec_l1In.f
  by_cases h : a ≥ b
  · rw [if_pos h]; simp [show b ≤ a from h]
  · rw [if_neg h]; simp [show ¬ b ≤ a from h]
theorem has_loop (l : List Int) (x : Int) (hl : l.length ≤ 35184372088832) : ∀ (d i : Nat), i + d = l.length → Ev (fun k => spec_l1Has.l0 k l x (i : Int)) (decide (x ∈ l.drop i)) := by
  intro d
  induction d with
  | zero =>
    intro i hi
    refine Ev.succ ?_
    simp only [spec_l1Has.l0.eq_2]
    rw [List.drop_of_length_le (by omega)]
    exact Ev.neg (by omega) (Ev.now _)
  | succ d ih =>
    intro i hi
    refine Ev.succ ?_
    simp only [spec_l1Has.l0.eq_2]
    refine Ev.pos (by omega) (Ev.pos (by omega) ?_)
    have hd : l.drop i = l[i] :: l.drop (i + 1) := (List.drop_eq_getElem_cons (by omega))
    rw [rd_nat l i (by omega)]
    by_cases e : l[i] = x
    · rw [show decide (x ∈ l.drop i) = true by rw [hd]; simp [e]]
      exact Ev.pos e (Ev.now _)
    · refine Ev.neg e ?_
      rw [w64 (by omega) (by omega)]
      have := ih (i + 1) (by omega)
      rw [show decide (x ∈ l.drop i) = decide (x ∈ l.drop (i + 1)) by rw [hd]; simp only [List.mem_cons, Ne.symm e, false_or]]
      exact this
theorem has_ev (l : List Int) (x : Int) (hl : l.length ≤ 35184372088832) : Ev (fun k => spec_l1Has.f k l x) (decide (x ∈ l)) := has_loop l x hl l.length 0 (by omega)
/-- a list that has each number less than n once -/
def IsOrd (l : List Int) (n : Int) : Prop := (l.length : Int) = n ∧ ∀ i : Nat, (i : Int) < n → (i : Int) ∈ l
theorem ph_len : ∀ (n : Nat) (l : List Int), (∀ i : Nat, i < n → (i : Int) ∈ l) → n ≤ l.length := by
  intro n
  induction n with
  | zero => intro l _; omega
  | succ n ih =>
    intro l h
    have hm := h n (by omega)
    have := ih (l.erase (n : Int)) (fun i hi => (List.mem_erase_of_ne (by omega)).mpr (h i (by omega)))
    rw [List.length_erase_of_mem hm] at this
    have : 0 < l.length := List.length_pos_of_mem hm
    omega
theorem ph_range : ∀ (n : Nat) (l : List Int), l.length = n → (∀ i : Nat, i < n → (i : Int) ∈ l) → ∀ x ∈ l, 0 ≤ x ∧ x < (n : Int) := by
  intro n
  induction n with
  | zero => intro l hl _ x hx; rw [List.length_eq_zero_iff.mp hl] at hx; cases hx
  | succ n ih =>
    intro l hl h x hx
    have hm := h n (by omega)
    by_cases e : x = (n : Int)
    · omega
    · have := ih (l.erase (n : Int)) (by rw [List.length_erase_of_mem hm]; omega) (fun i hi => (List.mem_erase_of_ne (by omega)).mpr (h i (by omega))) x ((List.mem_erase_of_ne e).mpr hx)
      omega
theorem ph_nodup_len : ∀ (m : Nat) (l : List Int), l.Nodup → (∀ x ∈ l, 0 ≤ x ∧ x < (m : Int)) → l.length ≤ m := by
  intro m
  induction m with
  | zero =>
    intro l _ h
    cases l with
    | nil => simp
    | cons x l => have := h x (by simp); omega
  | succ m ih =>
    intro l hn h
    by_cases hm : (m : Int) ∈ l
    · have := ih (l.erase (m : Int)) (hn.erase _) (fun x hx => by
        have h1 := h x (List.mem_of_mem_erase hx)
        have h2 : x ≠ (m : Int) := fun e => by subst e; exact (List.Nodup.not_mem_erase hn) hx
        omega)
      rw [List.length_erase_of_mem hm] at this
      omega
    · have := ih l hn (fun x hx => by
        have h1 := h x hx
        have h2 : x ≠ (m : Int) := fun e => by subst e; exact hm hx
        omega)
      omega
theorem ord_range {l : List Int} {n : Int} (h : IsOrd l n) : ∀ x ∈ l, 0 ≤ x ∧ x < n := by
  obtain ⟨h1, h2⟩ := h
  have := ph_range l.length l rfl (fun i hi => h2 i (by omega))
  intro x hx; have := this x hx; omega
theorem ord_of_nodup {l : List Int} {n : Int} (hl : (l.length : Int) = n) (hn : l.Nodup) (hr : ∀ x ∈ l, 0 ≤ x ∧ x < n) : IsOrd l n := by
  refine ⟨hl, fun i hi => ?_⟩
  by_cases hm : (i : Int) ∈ l
  · exact hm
  · have := ph_nodup_len l.length ((i : Int) :: l) (List.nodup_cons.mpr ⟨hm, hn⟩) (fun x hx => by
      rcases List.mem_cons.mp hx with rfl | hx
      · omega
      · have := hr x hx; omega)
    rw [List.length_cons] at this; omega
instance (l : List Int) (n : Int) : Decidable (IsOrd l n) := decidable_of_iff ((l.length : Int) = n ∧ ∀ i : Fin l.length, (i.val : Int) ∈ l) (by
  unfold IsOrd
  constructor
  · rintro ⟨h1, h2⟩; exact ⟨h1, fun i hi => h2 ⟨i, by omega⟩⟩
  · rintro ⟨h1, h2⟩; exact ⟨h1, fun i => h2 i.val (by have := i.isLt; omega)⟩)
theorem l2Gcd_ev (b : Nat) : ∀ a : Nat, a < 9223372036854775808 → b < 9223372036854775808 → Ev (fun k => spec_l2Gcd.f k (a : Int) (b : Int)) ((Nat.gcd a b : Nat) : Int) := by
  unfold spec_l2Gcd.f
  induction b using Nat.strongRecOn with
  | _ b ih =>
    intro a ha hb
    refine Ev.succ ?_
    simp only [spec_l2Gcd.l0.eq_2]
    by_cases h : b = 0
    · subst h; rw [Nat.gcd_zero_right]; exact Ev.neg (by omega) (Ev.now _)
    · refine Ev.pos (by omega) (Ev.neg (by omega) ?_)
      rw [show Int.tmod (a : Int) (b : Int) = ((a % b : Nat) : Int) by rw [Int.tmod_eq_emod_of_nonneg (by omega)]; rfl]
      have := ih (a % b) (Nat.mod_lt _ (by omega)) b hb (Nat.lt_trans (Nat.mod_lt _ (by omega)) hb)
      rw [show Nat.gcd a b = Nat.gcd b (a % b) by rw [Nat.gcd_comm a b, Nat.gcd_rec b a, Nat.gcd_comm]]
      exact this
/-- a fraction of numbers of at least 0 in lowest terms -/
def cutN (a b : Nat) : Int × Int := (((a / Nat.gcd a b : Nat) : Int), ((b / Nat.gcd a b : Nat) : Int))
theorem l2Cut_ev (a b : Nat) (ha : a < 9223372036854775808) (hb : b < 9223372036854775808) (h0 : 0 < b) : Ev (fun k => spec_l2Cut.f k (a : Int) (b : Int)) (cutN a b) := by
  unfold spec_l2Cut.f
  have e : spec_l1Most.f (a : Int) (wrap64 (-(a : Int))) = some (a : Int) := by
    unfold spec_l1Most.f
    rw [w64 (by omega) (by omega)]
    by_cases h : (a : Int) > -(a : Int)
    · rw [if_pos h]
    · rw [if_neg h]; congr 1; omega
  have hg : 0 < Nat.gcd a b := Nat.gcd_pos_of_pos_right a h0
  refine Ev.bindc e (Ev.bind (l2Gcd_ev b a ha hb) (Ev.neg (by omega) ?_))
  have h1 := Nat.div_le_self a (Nat.gcd a b)
  have h2 := Nat.div_le_self b (Nat.gcd a b)
  rw [Int.tdiv_eq_ediv_of_nonneg (by omega), Int.tdiv_eq_ediv_of_nonneg (by omega), ← Int.natCast_ediv, ← Int.natCast_ediv]
  unfold cutN
  generalize a / Nat.gcd a b = x at *
  generalize b / Nat.gcd a b = y at *
  rw [w64 (by omega) (by omega), w64 (by omega) (by omega)]
  exact Ev.now _
theorem eqA2_ev (x y : Int) : Ev (fun k => laws_eqIntA2.f k x y x y) true := by
  unfold laws_eqIntA2.f
  refine Ev.succ ?_
  simp only [laws_eqIntA2.l0.eq_2]
  refine Ev.pos (by decide) (Ev.pos (by trivial) (Ev.pos (by trivial) ?_))
  rw [show wrap64 (0 + 1) = 1 by rw [w64 (by omega) (by omega)]; rfl]
  refine Ev.succ ?_
  simp only [laws_eqIntA2.l0.eq_2]
  refine Ev.pos (by decide) (Ev.neg (by decide) (Ev.pos (by trivial) (Ev.pos (by trivial) ?_)))
  rw [show wrap64 (1 + 1) = 2 by rw [w64 (by omega) (by omega)]; rfl]
  refine Ev.succ ?_
  simp only [laws_eqIntA2.l0.eq_2]
  exact Ev.neg (by decide) (Ev.now _)
/-! boarding: who stands where; one traveler's act, a unit, all units -/
structure BC where
  ai : List Int
  at_ : List Int
  sw : List Int
  en : List Int
  sa : List Int
  wa : List Int
theorem rd_set (l : List Int) (i j : Nat) (v : Int) (hi : i < l.length) : rd (l.set i v) (j : Int) = if i = j then v else rd l (j : Int) := by
  unfold rd
  simp only [Int.toNat_natCast, List.getD_eq_getElem?_getD, List.getElem?_set]
  by_cases e : i = j
  · rw [if_pos e, if_pos e, if_pos (by omega)]; rfl
  · rw [if_neg e, if_neg e]
def act (c : BC) (r : Nat) (t s : Int) : BC :=
  if rd c.sa r > 0 then c
  else if rd c.at_ r < 0 then
    if rd c.ai 0 < 0 then { c with ai := c.ai.set 0 r, at_ := c.at_.set r 0, en := c.en.set r t } else c
  else if rd c.at_ r = r then
    if rd c.sw r + 1 = s then { c with sw := c.sw.set r (rd c.sw r + 1), sa := c.sa.set r t, ai := c.ai.set r (-1) }
    else { c with sw := c.sw.set r (rd c.sw r + 1) }
  else if rd c.ai (rd c.at_ r + 1) < 0 then
    { c with ai := (c.ai.set (rd c.at_ r).toNat (-1)).set (rd c.at_ r + 1).toNat r, at_ := c.at_.set r (rd c.at_ r + 1) }
  else { c with wa := c.wa.set r (wrap64 (rd c.wa r + 1)) }
structure BW (n : Nat) (s : Int) (c : BC) : Prop where
  lai : c.ai.length = n
  lat : c.at_.length = n
  lsw : c.sw.length = n
  len : c.en.length = n
  lsa : c.sa.length = n
  lwa : c.wa.length = n
  lo : ∀ r : Nat, r < n → -1 ≤ rd c.at_ r
  hi : ∀ r : Nat, r < n → rd c.at_ r ≤ r
  sn : ∀ r : Nat, r < n → 0 ≤ rd c.sa r
  s0 : ∀ r : Nat, r < n → 0 ≤ rd c.sw r
  s1 : ∀ r : Nat, r < n → rd c.sa r = 0 → rd c.sw r < s
  occ : ∀ q : Nat, q < n → 0 ≤ rd c.ai q → ∃ r : Nat, r < n ∧ rd c.sa r = 0 ∧ rd c.at_ r = q
theorem act_spec {n : Nat} {s : Int} {c : BC} (h : BW n s c) (r : Nat) (hr : r < n) (t : Int) (hs : s ≤ 5) (hn : n ≤ 10) :
    spec_l7Act.f c.ai c.at_ c.sw c.en c.sa c.wa r t s = some ((act c r t s).ai, (act c r t s).at_, (act c r t s).sw, (act c r t s).en, (act c r t s).sa, (act c r t s).wa) := by
  have h1 := h.lo r hr
  have h2 := h.hi r hr
  have h3 := h.sn r hr
  have h4 := h.s0 r hr
  have h5 := h.s1 r hr
  have := h.lai; have := h.lat; have := h.lsw; have := h.len; have := h.lsa; have := h.lwa
  unfold spec_l7Act.f act
  rw [if_pos (by omega), if_pos (by omega), if_pos (by omega)]
  by_cases c1 : rd c.sa r > 0
  · rw [if_pos c1, if_pos c1]
  · rw [if_neg c1, if_neg c1]
    have h6 := h5 (by omega)
    by_cases c2 : rd c.at_ r < 0
    · rw [if_pos c2, if_pos c2, if_pos (by omega)]
      by_cases c3 : rd c.ai 0 < 0
      · rw [if_pos c3, if_pos c3, if_pos (by omega)]; rfl
      · rw [if_neg c3, if_neg c3]
    · rw [if_neg c2, if_neg c2]
      by_cases c3 : rd c.at_ r = r
      · rw [if_pos c3, if_pos c3, if_pos (by omega)]
        simp only [Option.bind_some, Int.toNat_natCast]
        rw [rd_set _ _ _ _ (by omega), if_pos rfl, w64 (by omega) (by omega)]
        by_cases c4 : rd c.sw r + 1 = s
        · rw [if_pos c4, if_pos c4, if_pos (by omega), if_pos (by omega), c3]; rfl
        · rw [if_neg c4, if_neg c4]
      · rw [if_neg c3, if_neg c3, w64 (n := rd c.at_ r + 1) (by omega) (by omega), if_pos (by omega), if_pos (by omega)]
        by_cases c4 : rd c.ai (rd c.at_ r + 1) < 0
        · rw [if_pos c4, if_pos c4, if_pos (by omega), if_pos (by omega)]; rfl
        · rw [if_neg c4, if_neg c4, if_pos (by omega)]; rfl
theorem act_wf {n : Nat} {s : Int} {c : BC} (h : BW n s c) (r : Nat) (hr : r < n) (t : Int) (ht : 1 ≤ t) : BW n s (act c r t s) := by
  have h1 := h.lo r hr
  have h2 := h.hi r hr
  have h3 := h.sn r hr
  have h4 := h.s0 r hr
  have h5 := h.s1 r hr
  obtain ⟨a1, a2, a3, a4, a5, a6, lo, hi, sn, s0, s1, occ⟩ := h
  unfold act
  by_cases c1 : rd c.sa r > 0
  · rw [if_pos c1]; exact ⟨a1, a2, a3, a4, a5, a6, lo, hi, sn, s0, s1, occ⟩
  · rw [if_neg c1]
    have h6 := h5 (by omega)
    by_cases c2 : rd c.at_ r < 0
    · rw [if_pos c2]
      by_cases c3 : rd c.ai 0 < 0
      · rw [if_pos c3]
        refine ⟨by simpa using a1, by simpa using a2, a3, by simpa using a4, a5, a6, ?_, ?_, sn, s0, s1, ?_⟩
        · intro q hq; dsimp only; rw [rd_set _ _ _ _ (by omega)]; split
          · omega
          · exact lo q hq
        · intro q hq; dsimp only; rw [rd_set _ _ _ _ (by omega)]; split
          · omega
          · exact hi q hq
        · intro q hq; dsimp only; rw [rd_set _ _ _ _ (by omega)]
          intro hx
          by_cases e : 0 = q
          · refine ⟨r, hr, by omega, ?_⟩
            rw [rd_set _ _ _ _ (by omega), if_pos rfl]; omega
          · rw [if_neg e] at hx
            obtain ⟨x, x1, x2, x3⟩ := occ q hq hx
            refine ⟨x, x1, x2, ?_⟩
            rw [rd_set _ _ _ _ (by omega), if_neg (by rintro rfl; omega)]; exact x3
      · rw [if_neg c3]; exact ⟨a1, a2, a3, a4, a5, a6, lo, hi, sn, s0, s1, occ⟩
    · rw [if_neg c2]
      by_cases c3 : rd c.at_ r = r
      · rw [if_pos c3]
        by_cases c4 : rd c.sw r + 1 = s
        · rw [if_pos c4]
          refine ⟨by simpa using a1, a2, by simpa using a3, a4, by simpa using a5, a6, lo, hi, ?_, ?_, ?_, ?_⟩
          · intro q hq; dsimp only; rw [rd_set _ _ _ _ (by omega)]; split
            · omega
            · exact sn q hq
          · intro q hq; dsimp only; rw [rd_set _ _ _ _ (by omega)]; split
            · omega
            · exact s0 q hq
          · intro q hq; dsimp only; rw [rd_set _ _ _ _ (by omega), rd_set _ _ _ _ (by omega)]
            by_cases e : r = q
            · rw [if_pos e, if_pos e]; omega
            · rw [if_neg e, if_neg e]; exact s1 q hq
          · intro q hq; dsimp only; rw [rd_set _ _ _ _ (by omega)]
            intro hx
            by_cases e : r = q
            · rw [if_pos e] at hx; omega
            · rw [if_neg e] at hx
              obtain ⟨x, x1, x2, x3⟩ := occ q hq hx
              refine ⟨x, x1, ?_, x3⟩
              rw [rd_set _ _ _ _ (by omega), if_neg (by rintro rfl; omega)]; exact x2
        · rw [if_neg c4]
          refine ⟨a1, a2, by simpa using a3, a4, a5, a6, lo, hi, sn, ?_, ?_, occ⟩
          · intro q hq; dsimp only; rw [rd_set _ _ _ _ (by omega)]; split
            · omega
            · exact s0 q hq
          · intro q hq hz; dsimp only; rw [rd_set _ _ _ _ (by omega)]; split
            · omega
            · exact s1 q hq hz
      · rw [if_neg c3]
        obtain ⟨p, hp⟩ := Int.eq_ofNat_of_zero_le (show 0 ≤ rd c.at_ r by omega)
        rw [hp] at h1 h2 c3 ⊢
        rw [show ((p : Int) + 1) = ((p + 1 : Nat) : Int) by omega, Int.toNat_natCast, Int.toNat_natCast]
        by_cases c4 : rd c.ai ((p + 1 : Nat) : Int) < 0
        · rw [if_pos c4]
          refine ⟨by simpa using a1, by simpa using a2, a3, a4, a5, a6, ?_, ?_, sn, s0, s1, ?_⟩
          · intro q hq; dsimp only; rw [rd_set _ _ _ _ (by omega)]; split
            · omega
            · exact lo q hq
          · intro q hq; dsimp only; rw [rd_set _ _ _ _ (by omega)]; split
            · omega
            · exact hi q hq
          · intro q hq; dsimp only; rw [rd_set _ _ _ _ (by simp; omega), rd_set _ _ _ _ (by omega)]
            intro hx
            by_cases e : p + 1 = q
            · refine ⟨r, hr, by omega, ?_⟩
              rw [rd_set _ _ _ _ (by omega), if_pos rfl]; omega
            · rw [if_neg e] at hx
              by_cases e2 : p = q
              · rw [if_pos e2] at hx; omega
              · rw [if_neg e2] at hx
                obtain ⟨x, x1, x2, x3⟩ := occ q hq hx
                refine ⟨x, x1, x2, ?_⟩
                rw [rd_set _ _ _ _ (by omega), if_neg (by rintro rfl; omega)]; exact x3
        · rw [if_neg c4]
          exact ⟨a1, a2, a3, a4, a5, by simpa using a6, lo, hi, sn, s0, s1, occ⟩
theorem rd_ext {a b : List Int} {n : Nat} (ha : a.length = n) (hb : b.length = n) (h : ∀ i : Nat, i < n → rd a i = rd b i) : a = b := by
  refine List.ext_getElem (by omega) (fun i h1 h2 => ?_)
  have := h i (by omega)
  rwa [rd_nat a i h1, rd_nat b i h2] at this
def plOf (n : Nat) (c : BC) : List Int := (List.range n).map fun (i : Nat) => if rd c.sa (i : Int) > 0 then (n : Int) else rd c.at_ (i : Int)
theorem plOf_len (n : Nat) (c : BC) : (plOf n c).length = n := by simp [plOf]
theorem plOf_rd (n : Nat) (c : BC) (r : Nat) (hr : r < n) : rd (plOf n c) (r : Int) = if rd c.sa (r : Int) > 0 then (n : Int) else rd c.at_ (r : Int) := by
  rw [rd_nat _ _ (by rw [plOf_len]; exact hr)]; simp [plOf]
def zc (l : List Int) : Nat := l.countP (fun x => x == 0)
theorem zc_set : ∀ (l : List Int) (i : Nat) (v : Int), i < l.length → rd l (i : Int) = 0 → v ≠ 0 → zc (l.set i v) + 1 = zc l := by
  intro l
  induction l with
  | nil => intro i v h; simp at h
  | cons a l ih =>
    intro i v hi h0 hv
    cases i with
    | zero =>
      obtain rfl : a = 0 := by simpa [rd] using h0
      simp [zc, hv]
    | succ i =>
      have := ih i v (by simpa using hi) (by simpa [rd, show ((i : Int) + 1).toNat = i + 1 by omega] using h0) hv
      simp only [zc, List.set_cons_succ, List.countP_cons] at this ⊢
      omega
theorem zc_pos (l : List Int) : 0 < zc l ↔ (0 : Int) ∈ l := by
  unfold zc; rw [List.countP_pos_iff]; simp
theorem l1_act {n : Nat} {s : Int} {order : List Int} {c : BC} (h : BW n s c) (j r : Nat) (hr : r < n) (hj : j < order.length) (hol : order.length ≤ 10) (hrd : rd order (j : Int) = (r : Int)) (t : Int) (ht : 1 ≤ t) (hs : s ≤ 5) (hn : n ≤ 10) (ax : List (List Int)) (k : Nat) :
    impl_board.l1 (k + 1) (n : Int) s order (plOf n c) c.sw c.ai ((zc c.sa : Nat) : Int) t order (order.length : Int) (j : Int) c.sa c.en c.wa ax =
    impl_board.l1 k (n : Int) s order (plOf n (act c r t s)) (act c r t s).sw (act c r t s).ai ((zc (act c r t s).sa : Nat) : Int) t order (order.length : Int) ((j + 1 : Nat) : Int) (act c r t s).sa (act c r t s).en (act c r t s).wa ax := by
  have h1 := h.lo r hr
  have h2 := h.hi r hr
  have h3 := h.sn r hr
  have h4 := h.s0 r hr
  have h5 := h.s1 r hr
  have l1 := h.lai; have l2 := h.lat; have l3 := h.lsw; have l4 := h.len; have l5 := h.lsa; have l6 := h.lwa
  have lp := plOf_len n c
  have hp := plOf_rd n c r hr
  rw [impl_board.l1.eq_2, hrd, hp, w64 (n := (j : Int) + 1) (by omega) (by omega), if_pos (by omega), if_pos (by omega), if_pos (by omega), if_pos (by omega), if_pos (by omega)]
  rw [show ((j : Int) + 1) = ((j + 1 : Nat) : Int) by omega]
  unfold act
  by_cases c1 : rd c.sa r > 0
  · rw [if_pos c1, if_pos rfl, if_pos c1]
  · rw [if_neg c1, if_neg c1, if_neg (by omega)]
    have h6 := h5 (by omega)
    by_cases c2 : rd c.at_ r < 0
    · rw [if_neg (show ¬ rd c.at_ r = r by omega), if_pos c2]
      rw [show wrap64 (rd c.at_ r + 1) = 0 by unfold wrap64; omega, if_pos (by omega), if_pos (by omega)]
      by_cases c3 : rd c.ai 0 < 0
      · rw [if_pos c3, if_pos c3, if_pos (by omega), if_pos (by omega)]
        simp only [Int.toNat_natCast]
        have e : plOf n { c with ai := c.ai.set 0 (r : Int), at_ := c.at_.set r 0, en := c.en.set r t } = (plOf n c).set r 0 := by
          refine rd_ext (plOf_len _ _) (by simpa using lp) (fun i hi => ?_)
          rw [plOf_rd _ _ _ hi, rd_set _ _ _ _ (by omega)]
          dsimp only
          rw [rd_set _ _ _ _ (by omega), plOf_rd _ _ _ hi]
          by_cases e : r = i
          · subst e; rw [if_neg c1, if_pos rfl, if_pos rfl]
          · rw [if_neg e, if_neg e]
        rw [e]; rfl
      · rw [if_neg c3, if_neg c3, if_neg (by omega), if_pos c2]
    · by_cases c3 : rd c.at_ r = r
      · rw [if_pos c3, if_neg c2, if_pos c3, if_pos (by omega)]
        simp only [Option.bind_some, Int.toNat_natCast]
        rw [rd_set _ _ _ _ (by omega), if_pos rfl, w64 (n := rd c.sw r + 1) (by omega) (by omega)]
        by_cases c4 : rd c.sw r + 1 = s
        · rw [if_pos c4, if_pos c4, c3, if_pos (by omega), if_pos (by omega), if_pos (by omega)]
          have e : plOf n { c with sw := c.sw.set r (rd c.sw r + 1), sa := c.sa.set r t, ai := c.ai.set r (-1) } = (plOf n c).set r n := by
            refine rd_ext (plOf_len _ _) (by simpa using lp) (fun i hi => ?_)
            rw [plOf_rd _ _ _ hi, rd_set _ _ _ _ (by omega)]
            dsimp only
            rw [rd_set _ _ _ _ (by omega), plOf_rd _ _ _ hi]
            by_cases e : r = i
            · subst e; rw [if_pos rfl, if_pos (by omega), if_pos rfl]
            · rw [if_neg e, if_neg e]
          rw [e]
          have hz := zc_set c.sa r t (by omega) (by omega) (by omega)
          have hle : zc c.sa ≤ c.sa.length := List.countP_le_length
          rw [w64 (by omega) (by omega), show ((zc c.sa : Nat) : Int) - 1 = ((zc (c.sa.set r t) : Nat) : Int) by omega]
          rfl
        · rw [if_neg c4, if_neg c4]; rfl
      · rw [if_neg c3, if_neg c2, if_neg c3, w64 (n := rd c.at_ r + 1) (by omega) (by omega), if_pos (by omega), if_pos (by omega)]
        by_cases c4 : rd c.ai (rd c.at_ r + 1) < 0
        · rw [if_pos c4, if_pos c4, if_neg c2, if_pos (by omega), if_pos (by omega)]
          have e : plOf n { c with ai := (c.ai.set (rd c.at_ r).toNat (-1)).set (rd c.at_ r + 1).toNat (r : Int), at_ := c.at_.set r (rd c.at_ r + 1) } = (plOf n c).set r (rd c.at_ r + 1) := by
            refine rd_ext (plOf_len _ _) (by simpa using lp) (fun i hi => ?_)
            rw [plOf_rd _ _ _ hi, rd_set _ _ _ _ (by omega)]
            dsimp only
            rw [rd_set _ _ _ _ (by omega), plOf_rd _ _ _ hi]
            by_cases e : r = i
            · subst e; rw [if_neg c1, if_pos rfl, if_pos rfl]
            · rw [if_neg e, if_neg e]
          rw [e]; rfl
        · rw [if_neg c4, if_neg c4, if_pos (by omega), if_pos (by omega), if_neg c2]; rfl
/-! the units: each brings somebody on, as long as somebody stands -/
def phi (s : Int) (c : BC) (r : Nat) : Nat := if rd c.sa (r : Int) > 0 then 0 else ((r : Int) - rd c.at_ (r : Int)).toNat + (s - rd c.sw (r : Int)).toNat
def Phi (n : Nat) (s : Int) (c : BC) : Nat := ((List.range n).map (phi s c)).sum
theorem sum_same (f g : Nat → Nat) : ∀ (n : Nat), (∀ i, i < n → f i = g i) → ((List.range n).map f).sum = ((List.range n).map g).sum := by
  intro n h
  rw [List.map_congr_left (fun i hi => h i (List.mem_range.mp hi))]
theorem sum_one (f g : Nat → Nat) (r : Nat) (hfg : ∀ i, i ≠ r → f i = g i) (hr : f r < g r) : ∀ (n : Nat), r < n → ((List.range n).map f).sum < ((List.range n).map g).sum := by
  intro n
  induction n with
  | zero => intro h; omega
  | succ n ih =>
    intro h
    simp only [List.range_succ, List.map_append, List.sum_append, List.map_cons, List.map_nil, List.sum_cons, List.sum_nil]
    by_cases e : r = n
    · subst e
      rw [sum_same f g r (fun i hi => hfg i (by omega))]; omega
    · have := ih (by omega)
      rw [hfg n (fun h => e h.symm)]; omega
def Blk (c : BC) (r : Nat) : Prop := rd c.sa (r : Int) > 0 ∨ (rd c.at_ (r : Int) < 0 ∧ ¬ rd c.ai 0 < 0) ∨ (¬ rd c.at_ (r : Int) < 0 ∧ rd c.at_ (r : Int) ≠ (r : Int) ∧ ¬ rd c.ai (rd c.at_ (r : Int) + 1) < 0)
def Same (a b : BC) : Prop := a.ai = b.ai ∧ a.at_ = b.at_ ∧ a.sw = b.sw ∧ a.sa = b.sa
theorem Same.Blk {a b : BC} (h : Same a b) {r : Nat} (hb : Blk a r) : Blk b r := by
  obtain ⟨h1, h2, h3, h4⟩ := h; unfold Pure.Blk at hb ⊢; rw [← h1, ← h2, ← h4]; exact hb
theorem Same.Phi {a b : BC} (h : Same a b) (n : Nat) (s : Int) : Phi n s a = Phi n s b := by
  obtain ⟨h1, h2, h3, h4⟩ := h; unfold Pure.Phi; refine sum_same _ _ n (fun i _ => ?_); unfold phi; rw [h2, h3, h4]
theorem act_eff {n : Nat} {s : Int} {c : BC} (h : BW n s c) (r : Nat) (hr : r < n) (t : Int) (ht : 1 ≤ t) : (Same (act c r t s) c ∧ Blk c r) ∨ Phi n s (act c r t s) < Phi n s c := by
  have h1 := h.lo r hr
  have h2 := h.hi r hr
  have h3 := h.sn r hr
  have h4 := h.s0 r hr
  have h5 := h.s1 r hr
  have l1 := h.lai; have l2 := h.lat; have l3 := h.lsw; have l4 := h.len; have l5 := h.lsa; have l6 := h.lwa
  unfold act
  by_cases c1 : rd c.sa r > 0
  · rw [if_pos c1]; exact .inl ⟨⟨rfl, rfl, rfl, rfl⟩, .inl c1⟩
  · rw [if_neg c1]
    have h6 := h5 (by omega)
    by_cases c2 : rd c.at_ r < 0
    · rw [if_pos c2]
      by_cases c3 : rd c.ai 0 < 0
      · rw [if_pos c3]
        refine .inr (sum_one _ _ r (fun i hi => ?_) ?_ n hr)
        · unfold phi; dsimp only; rw [rd_set _ _ _ _ (by omega), if_neg (Ne.symm hi)]
        · unfold phi; dsimp only; rw [rd_set _ _ _ _ (by omega), if_pos rfl, if_neg c1, if_neg c1]; omega
      · rw [if_neg c3]; exact .inl ⟨⟨rfl, rfl, rfl, rfl⟩, .inr (.inl ⟨c2, c3⟩)⟩
    · rw [if_neg c2]
      by_cases c3 : rd c.at_ r = r
      · rw [if_pos c3]
        by_cases c4 : rd c.sw r + 1 = s
        · rw [if_pos c4]
          refine .inr (sum_one _ _ r (fun i hi => ?_) ?_ n hr)
          · unfold phi; dsimp only; rw [rd_set _ _ _ _ (by omega), if_neg (Ne.symm hi), rd_set _ _ _ _ (by omega), if_neg (Ne.symm hi)]
          · unfold phi; dsimp only; rw [rd_set _ _ _ _ (by omega), if_pos rfl, if_pos (by omega), if_neg c1]; omega
        · rw [if_neg c4]
          refine .inr (sum_one _ _ r (fun i hi => ?_) ?_ n hr)
          · unfold phi; dsimp only; rw [rd_set _ _ _ _ (by omega), if_neg (Ne.symm hi)]
          · unfold phi; dsimp only; rw [rd_set _ _ _ _ (by omega), if_pos rfl, if_neg c1, if_neg c1]; omega
      · rw [if_neg c3]
        by_cases c4 : rd c.ai (rd c.at_ r + 1) < 0
        · rw [if_pos c4]
          refine .inr (sum_one _ _ r (fun i hi => ?_) ?_ n hr)
          · unfold phi; dsimp only; rw [rd_set _ _ _ _ (by omega), if_neg (Ne.symm hi)]
          · unfold phi; dsimp only; rw [rd_set _ _ _ _ (by omega), if_pos rfl, if_neg c1, if_neg c1]; omega
        · rw [if_neg c4]; exact .inl ⟨⟨rfl, rfl, rfl, rfl⟩, .inr (.inr ⟨c2, c3, c4⟩)⟩
def unitOf (l : List Int) (t s : Int) (c : BC) : BC := l.foldl (fun c x => act c x.toNat t s) c
theorem unit_eff {n : Nat} {s t : Int} (ht : 1 ≤ t) : ∀ (l : List Int) (c : BC), BW n s c → (∀ x ∈ l, 0 ≤ x ∧ x < (n : Int)) →
    BW n s (unitOf l t s c) ∧ ((Same (unitOf l t s c) c ∧ ∀ x ∈ l, Blk c x.toNat) ∨ Phi n s (unitOf l t s c) < Phi n s c) := by
  intro l
  induction l with
  | nil => intro c h _; exact ⟨h, .inl ⟨⟨rfl, rfl, rfl, rfl⟩, by simp⟩⟩
  | cons x l ih =>
    intro c h hx
    have hx0 := hx x (by simp)
    have hw := act_wf h x.toNat (by omega) t ht
    obtain ⟨i1, i2⟩ := ih (act c x.toNat t s) hw (fun y hy => hx y (by simp [hy]))
    refine ⟨i1, ?_⟩
    show (Same (unitOf l t s (act c x.toNat t s)) c ∧ _) ∨ Phi n s (unitOf l t s (act c x.toNat t s)) < _
    rcases act_eff h x.toNat (by omega) t ht with ⟨e1, e2⟩ | e
    · rcases i2 with ⟨j1, j2⟩ | j
      · refine .inl ⟨⟨j1.1.trans e1.1, j1.2.1.trans e1.2.1, j1.2.2.1.trans e1.2.2.1, j1.2.2.2.trans e1.2.2.2⟩, ?_⟩
        intro y hy
        rcases List.mem_cons.mp hy with rfl | hy
        · exact e2
        · exact e1.Blk (j2 y hy)
      · rw [e1.Phi] at j; exact .inr j
    · rcases i2 with ⟨j1, j2⟩ | j
      · rw [j1.Phi]; exact .inr e
      · exact .inr (by omega)
theorem no_stand {n : Nat} {s : Int} {c : BC} (h : BW n s c) (hb : ∀ r : Nat, r < n → Blk c r) : ∀ (d p : Nat), n ≤ p + d → ¬ ∃ r : Nat, r < n ∧ rd c.sa r = 0 ∧ rd c.at_ r = (p : Int) := by
  intro d
  induction d with
  | zero => rintro p hp ⟨r, h1, h2, h3⟩; have := h.hi r h1; omega
  | succ d ih =>
    rintro p hp ⟨r, h1, h2, h3⟩
    have h4 := h.hi r h1
    rcases hb r h1 with e | ⟨e, _⟩ | ⟨_, e1, e2⟩
    · omega
    · omega
    · rw [h3] at e1 e2
      obtain ⟨x, x1, x2, x3⟩ := h.occ (p + 1) (by omega) (by rw [show ((p + 1 : Nat) : Int) = (p : Int) + 1 by omega]; omega)
      exact ih (p + 1) (by omega) ⟨x, x1, x2, x3⟩
theorem goes_on {n : Nat} {s : Int} {c : BC} (h : BW n s c) (hb : ∀ r : Nat, r < n → Blk c r) : ∀ r : Nat, r < n → rd c.sa r ≠ 0 := by
  intro r hr h0
  by_cases hp : rd c.at_ r < 0
  · rcases hb r hr with e | ⟨_, e⟩ | ⟨e, _⟩
    · omega
    · obtain ⟨x, x1, x2, x3⟩ := h.occ 0 (by omega) (by show 0 ≤ rd c.ai 0; omega)
      exact no_stand h hb n 0 (by omega) ⟨x, x1, x2, x3⟩
    · omega
  · exact no_stand h hb n (rd c.at_ r).toNat (by omega) ⟨r, hr, h0, by omega⟩
theorem unit_less {n : Nat} {s t : Int} {c : BC} {l : List Int} (ht : 1 ≤ t) (h : BW n s c) (hl : IsOrd l n) (h0 : ¬ ∀ r : Nat, r < n → rd c.sa r ≠ 0) : Phi n s (unitOf l t s c) < Phi n s c := by
  rcases (unit_eff ht l c h (ord_range hl)).2 with ⟨_, e⟩ | e
  · refine absurd (goes_on h (fun r hr => ?_)) h0
    have := e r (hl.2 r (by omega)); simpa using this
  · exact e
/-! the whole of it: the states behind each unit, and what both programs come to -/
def bstart (n : Nat) : BC := ⟨List.replicate n (-1), List.replicate n (-1), List.replicate n 0, List.replicate n 0, List.replicate n 0, List.replicate n 0⟩
theorem rd_rep (n : Nat) (v : Int) (r : Nat) (hr : r < n) : rd (List.replicate n v) (r : Int) = v := by
  rw [rd_nat _ _ (by simpa using hr)]; simp
theorem bstart_wf (n : Nat) (s : Int) (hs : 1 ≤ s) : BW n s (bstart n) := by
  unfold bstart
  refine ⟨by simp, by simp, by simp, by simp, by simp, by simp, ?_, ?_, ?_, ?_, ?_, ?_⟩ <;> intro r hr
  · rw [rd_rep _ _ _ hr]; omega
  · rw [rd_rep _ _ _ hr]; omega
  · rw [rd_rep _ _ _ hr]; omega
  · rw [rd_rep _ _ _ hr]; omega
  · intro _; rw [rd_rep _ _ _ hr]; omega
  · rw [rd_rep _ _ _ hr]; intro h; omega
def traj (n : Nat) (order : List Int) (s : Int) : Nat → BC
  | 0 => bstart n
  | u + 1 => unitOf order ((u + 1 : Nat) : Int) s (traj n order s u)
theorem traj_wf {n : Nat} {order : List Int} {s : Int} (hs : 1 ≤ s) (ho : IsOrd order n) : ∀ u, BW n s (traj n order s u)
  | 0 => bstart_wf n s hs
  | u + 1 => (unit_eff (by omega) order _ (traj_wf hs ho u) (ord_range ho)).1
def Done (n : Nat) (c : BC) : Prop := ∀ r : Nat, r < n → rd c.sa (r : Int) ≠ 0
theorem done_mem {n : Nat} {c : BC} (hl : c.sa.length = n) : Done n c ↔ ¬ (0 : Int) ∈ c.sa := by
  constructor
  · intro h hm
    obtain ⟨i, hi, he⟩ := List.getElem_of_mem hm
    exact h i (by omega) (by rw [rd_nat _ _ hi]; exact he)
  · intro h r hr he
    rw [rd_nat _ _ (by omega)] at he
    exact h (he ▸ List.getElem_mem (by omega))
theorem sum_le (f : Nat → Nat) (B : Nat) : ∀ n : Nat, (∀ i, i < n → f i ≤ B) → ((List.range n).map f).sum ≤ n * B := by
  intro n
  induction n with
  | zero => intro _; simp
  | succ n ih =>
    intro h
    simp only [List.range_succ, List.map_append, List.sum_append, List.map_cons, List.map_nil, List.sum_cons, List.sum_nil]
    have := ih (fun i hi => h i (by omega)); have := h n (by omega)
    rw [Nat.succ_mul]; omega
theorem phi_start (n : Nat) (s : Int) (hn : n ≤ 10) (hs : 1 ≤ s) (hs5 : s ≤ 5) : Phi n s (bstart n) ≤ 160 := by
  have := sum_le (phi s (bstart n)) 16 n (fun i hi => by
    unfold phi bstart; dsimp only
    rw [rd_rep _ _ _ hi, rd_rep _ _ _ hi]
    rw [if_neg (by omega)]; omega)
  unfold Phi
  have : n * 16 ≤ 10 * 16 := Nat.mul_le_mul_right 16 hn
  omega
theorem phi_traj {n : Nat} {order : List Int} {s : Int} (hn : n ≤ 10) (hs : 1 ≤ s) (hs5 : s ≤ 5) (ho : IsOrd order n) : ∀ u, (∀ i, i < u → ¬ Done n (traj n order s i)) → Phi n s (traj n order s u) + u ≤ 160 := by
  intro u
  induction u with
  | zero => intro _; have := phi_start n s hn hs hs5; exact this
  | succ u ih =>
    intro h
    have h1 := ih (fun i hi => h i (by omega))
    have h2 := unit_less (t := ((u + 1 : Nat) : Int)) (by omega) (traj_wf hs ho u) ho (h u (by omega))
    have h3 : Phi n s (traj n order s (u + 1)) < Phi n s (traj n order s u) := h2
    omega
theorem least_done {n : Nat} {order : List Int} {s : Int} (hn : n ≤ 10) (hs : 1 ≤ s) (hs5 : s ≤ 5) (ho : IsOrd order n) :
    ∃ T, T ≤ 160 ∧ Done n (traj n order s T) ∧ ∀ u, u < T → ¬ Done n (traj n order s u) := by
  have key : ∀ d u, u + d = 161 → (∀ i, i < u → ¬ Done n (traj n order s i)) → ∃ T, T ≤ 160 ∧ Done n (traj n order s T) ∧ ∀ u, u < T → ¬ Done n (traj n order s u) := by
    intro d
    induction d with
    | zero => intro u hu h; have := phi_traj hn hs hs5 ho u h; omega
    | succ d ih =>
      intro u hu h
      by_cases hd : Done n (traj n order s u)
      · exact ⟨u, by omega, hd, h⟩
      · refine ih (u + 1) (by omega) (fun i hi => ?_)
        by_cases e : i = u
        · rw [e]; exact hd
        · exact h i (by omega)
  exact key 161 0 (by omega) (fun i hi => by omega)
abbrev BT := List Int × List Int × List Int × List Int × List Int × List Int
def BC.t (c : BC) : BT := (c.ai, c.at_, c.sw, c.en, c.sa, c.wa)
theorem run_unit {n : Nat} {order : List Int} {s : Int} (hn : n ≤ 10) (hs5 : s ≤ 5) (ho : IsOrd order n) (t : Int) (u : Nat) (hu : u ≤ 200) (r : BT) (c' : BC)
    (hk : Ev (fun k => spec_l7Run.l0 k (n : Int) s order t (((u + 1) + 1 : Nat) : Int) c'.ai c'.at_ c'.sw c'.en c'.sa c'.wa) r) :
    ∀ (d j : Nat) (c : BC), j + d = order.length → BW n s c → unitOf (order.drop j) ((u + 1 : Nat) : Int) s c = c' →
      Ev (fun k => spec_l7Run.l1 k (n : Int) s order t ((u + 1 : Nat) : Int) (j : Int) c.ai c.at_ c.sw c.en c.sa c.wa) r := by
  have hol := ho.1
  intro d
  induction d with
  | zero =>
    intro j c hj hc he
    rw [List.drop_of_length_le (by omega)] at he
    obtain rfl : c = c' := he
    refine Ev.succ ?_
    simp only [spec_l7Run.l1.eq_2]
    refine Ev.neg (by omega) ?_
    rw [w64 (by omega) (by omega)]
    exact hk
  | succ d ih =>
    intro j c hj hc he
    have hx := ord_range ho order[j] (List.getElem_mem (by omega))
    obtain ⟨q, hq⟩ := Int.eq_ofNat_of_zero_le hx.1
    rw [List.drop_eq_getElem_cons (by omega)] at he
    refine Ev.succ ?_
    simp only [spec_l7Run.l1.eq_2]
    refine Ev.pos (by omega) (Ev.pos (by omega) (Ev.pos (by omega) ?_))
    rw [rd_nat order j (by omega), hq]
    refine Ev.bindc (act_spec hc q (by omega) ((u + 1 : Nat) : Int) hs5 hn) ?_
    rw [w64 (by omega) (by omega)]
    refine ih (j + 1) (act c q ((u + 1 : Nat) : Int) s) (by omega) (act_wf hc q (by omega) _ (by omega)) ?_
    rw [← he, hq]; rfl
theorem run_ev {n : Nat} {order : List Int} {s : Int} (hn : n ≤ 10) (hs : 1 ≤ s) (hs5 : s ≤ 5) (ho : IsOrd order n) {T : Nat} (hT : T ≤ 160) (hd : Done n (traj n order s T)) (hu : ∀ u, u < T → ¬ Done n (traj n order s u)) (t : Int) :
    ∀ (d u : Nat), u + d = T → (0 ≤ t → (u : Int) ≤ t) → Ev (fun k => spec_l7Run.l0 k (n : Int) s order t ((u + 1 : Nat) : Int) (traj n order s u).ai (traj n order s u).at_ (traj n order s u).sw (traj n order s u).en (traj n order s u).sa (traj n order s u).wa) (traj n order s (if t < 0 then T else min t.toNat T)).t := by
  intro d
  induction d with
  | zero =>
    intro u hj ht
    obtain rfl : u = T := by omega
    have hw := traj_wf hs ho u
    have hm := (done_mem hw.lsa).mp hd
    have hx := has_ev (traj n order s u).sa 0 (by have := hw.lsa; omega)
    rw [show decide ((0 : Int) ∈ (traj n order s u).sa) = false from decide_eq_false hm] at hx
    refine Ev.succ ?_
    simp only [spec_l7Run.l0.eq_2]
    by_cases c1 : t < 0
    · rw [if_pos c1]
      refine Ev.pos c1 (Ev.bind hx (Ev.succ ?_))
      simp only [spec_l7Run.j1.eq_2]
      exact Ev.neg (by decide) (Ev.now _)
    · rw [if_neg c1, show min t.toNat u = u by have := ht (by omega); omega]
      refine Ev.neg c1 ?_
      by_cases c2 : ((u + 1 : Nat) : Int) ≤ t
      · refine Ev.pos c2 (Ev.bind hx (Ev.succ ?_))
        simp only [spec_l7Run.j1.eq_2]
        exact Ev.neg (by decide) (Ev.now _)
      · refine Ev.neg c2 (Ev.succ ?_)
        simp only [spec_l7Run.j1.eq_2]
        exact Ev.neg (by decide) (Ev.now _)
  | succ d ih =>
    intro u hj ht
    have hw := traj_wf hs ho u
    have hm : (0 : Int) ∈ (traj n order s u).sa := Classical.byContradiction fun h => hu u (by omega) ((done_mem hw.lsa).mpr h)
    have hx := has_ev (traj n order s u).sa 0 (by have := hw.lsa; omega)
    rw [show decide ((0 : Int) ∈ (traj n order s u).sa) = true from decide_eq_true hm] at hx
    refine Ev.succ ?_
    simp only [spec_l7Run.l0.eq_2]
    have go : (0 ≤ t → ((u + 1 : Nat) : Int) ≤ t) → Ev (fun k => spec_l7Run.j1 k (n : Int) s order t ((u + 1 : Nat) : Int) true (traj n order s u).ai (traj n order s u).at_ (traj n order s u).sw (traj n order s u).en (traj n order s u).sa (traj n order s u).wa) (traj n order s (if t < 0 then T else min t.toNat T)).t := by
      intro h
      refine Ev.succ ?_
      simp only [spec_l7Run.j1.eq_2]
      refine Ev.pos (by trivial) ?_
      exact run_unit hn hs5 ho t u (by omega) _ (traj n order s (u + 1)) (ih (u + 1) (by omega) h) order.length 0 _ (by omega) hw rfl
    by_cases c1 : t < 0
    · exact Ev.pos c1 (Ev.bind hx (go (fun h => by omega)))
    · refine Ev.neg c1 ?_
      by_cases c2 : ((u + 1 : Nat) : Int) ≤ t
      · exact Ev.pos c2 (Ev.bind hx (go (fun _ => c2)))
      · refine Ev.neg c2 (Ev.succ ?_)
        simp only [spec_l7Run.j1.eq_2]
        rw [if_neg c1, show min t.toNat T = u by have := ht (by omega); omega]
        exact Ev.neg (by decide) (Ev.now _)
theorem start_loop (n : Nat) (hn : n ≤ 10) (a b c d : List Int) : ∀ (m i : Nat), i + m = n → Ev (fun k => spec_l7Start.l0 k (n : Int) (i : Int) (List.replicate i (-1)) (List.replicate i (-1)) a b c d) (List.replicate n (-1), List.replicate n (-1), a, b, c, d) := by
  intro m
  induction m with
  | zero =>
    intro i hi
    refine Ev.succ ?_
    simp only [spec_l7Start.l0.eq_2]
    rw [show i = n by omega]
    exact Ev.neg (by omega) (Ev.now _)
  | succ m ih =>
    intro i hi
    refine Ev.succ ?_
    simp only [spec_l7Start.l0.eq_2]
    refine Ev.pos (by omega) (Ev.pos (by simp; omega) (Ev.pos (by simp; omega) ?_))
    rw [w64 (by omega) (by omega), ← List.replicate_succ']
    exact ih (i + 1) (by omega)
theorem l7Run_ev {n : Nat} {order : List Int} {s : Int} (hn : n ≤ 10) (hs : 1 ≤ s) (hs5 : s ≤ 5) (ho : IsOrd order n) {T : Nat} (hT : T ≤ 160) (hd : Done n (traj n order s T)) (hu : ∀ u, u < T → ¬ Done n (traj n order s u)) (t : Int) :
    Ev (fun k => spec_l7Run.f k (n : Int) s order t) (traj n order s (if t < 0 then T else min t.toNat T)).t := by
  unfold spec_l7Run.f
  refine Ev.bind (a := (bstart n).t) ?_ (run_ev hn hs hs5 ho hT hd hu t T 0 (by omega) (fun h => h))
  unfold spec_l7Start.f
  exact Ev.pos (by omega) (Ev.pos (by omega) (start_loop n hn _ _ _ _ n 0 (by omega)))
abbrev BO := List Int × List Int × List Int × List (List Int)
def aisles (n : Nat) (order : List Int) (s : Int) (u : Nat) : List (List Int) := (List.range (u + 1)).map fun i => (traj n order s i).ai
theorem board_unit {n : Nat} {order : List Int} {s : Int} (hn : n ≤ 10) (hs5 : s ≤ 5) (ho : IsOrd order n) (u : Nat) (hu : u ≤ 200) (r : BO) (c' : BC) (hc'l : c'.ai.length = n) (ax : List (List Int)) (hax : ax.length ≤ 300)
    (hk : Ev (fun k => impl_board.l0 k (n : Int) s order (plOf n c') c'.sw c'.ai ((zc c'.sa : Nat) : Int) (((u + 1) + 1 : Nat) : Int) c'.sa c'.en c'.wa (ax ++ [c'.ai])) r) :
    ∀ (d j : Nat) (c : BC), j + d = order.length → BW n s c → unitOf (order.drop j) ((u + 1 : Nat) : Int) s c = c' →
      Ev (fun k => impl_board.l1 k (n : Int) s order (plOf n c) c.sw c.ai ((zc c.sa : Nat) : Int) ((u + 1 : Nat) : Int) order (order.length : Int) (j : Int) c.sa c.en c.wa ax) r := by
  have hol := ho.1
  intro d
  induction d with
  | zero =>
    intro j c hj hc he
    rw [List.drop_of_length_le (by omega)] at he
    obtain rfl : c = c' := he
    refine Ev.succ ?_
    simp only [impl_board.l1.eq_2]
    refine Ev.neg (by omega) (Ev.bindc (a := c.ai) (by unfold slices_Clone_int_int.f; rw [if_pos (by omega)]) (Ev.pos (by omega) ?_))
    rw [w64 (by omega) (by omega)]
    exact hk
  | succ d ih =>
    intro j c hj hc he
    have hx := ord_range ho order[j] (List.getElem_mem (by omega))
    obtain ⟨q, hq⟩ := Int.eq_ofNat_of_zero_le hx.1
    rw [List.drop_eq_getElem_cons (by omega)] at he
    refine Ev.step (fun k => l1_act hc j q (by omega) (by omega) (by omega) (by rw [rd_nat order j (by omega), hq]) ((u + 1 : Nat) : Int) (by omega) hs5 hn ax k) ?_
    refine ih (j + 1) (act c q ((u + 1 : Nat) : Int) s) (by omega) (act_wf hc q (by omega) _ (by omega)) ?_
    rw [← he, hq]; rfl
theorem board_loop {n : Nat} {order : List Int} {s : Int} (hn : n ≤ 10) (hs : 1 ≤ s) (hs5 : s ≤ 5) (ho : IsOrd order n) {T : Nat} (hT : T ≤ 160) (hd : Done n (traj n order s T)) (hu : ∀ u, u < T → ¬ Done n (traj n order s u)) :
    ∀ (d u : Nat), u + d = T → Ev (fun k => impl_board.l0 k (n : Int) s order (plOf n (traj n order s u)) (traj n order s u).sw (traj n order s u).ai ((zc (traj n order s u).sa : Nat) : Int) ((u + 1 : Nat) : Int) (traj n order s u).sa (traj n order s u).en (traj n order s u).wa (aisles n order s u))
      ((traj n order s T).sa, (traj n order s T).en, (traj n order s T).wa, aisles n order s T) := by
  intro d
  induction d with
  | zero =>
    intro u hj
    obtain rfl : u = T := by omega
    have hm := (done_mem (traj_wf hs ho u).lsa).mp hd
    refine Ev.succ ?_
    simp only [impl_board.l0.eq_2]
    have := mt (zc_pos (traj n order s u).sa).mp hm
    exact Ev.neg (by omega) (Ev.now _)
  | succ d ih =>
    intro u hj
    have hw := traj_wf hs ho u
    have hm : (0 : Int) ∈ (traj n order s u).sa := Classical.byContradiction fun h => hu u (by omega) ((done_mem hw.lsa).mpr h)
    have hz := (zc_pos (traj n order s u).sa).mpr hm
    refine Ev.succ ?_
    simp only [impl_board.l0.eq_2]
    refine Ev.pos (by omega) ?_
    refine board_unit hn hs5 ho u (by omega) _ (traj n order s (u + 1)) (traj_wf hs ho (u + 1)).lai (aisles n order s u) (by simp [aisles]; omega) ?_ order.length 0 _ (by omega) hw rfl
    have := ih (u + 1) (by omega)
    rw [show aisles n order s (u + 1) = aisles n order s u ++ [(traj n order s (u + 1)).ai] by unfold aisles; rw [List.range_succ, List.map_append]; rfl] at this
    exact this
theorem board_ev {n : Nat} {order : List Int} {s : Int} (hn1 : 1 ≤ n) (hn : n ≤ 10) (hs : 1 ≤ s) (hs5 : s ≤ 5) (ho : IsOrd order n) {T : Nat} (hT : T ≤ 160) (hd : Done n (traj n order s T)) (hu : ∀ u, u < T → ¬ Done n (traj n order s u)) :
    Ev (fun k => impl_board.f k (n : Int) s order) ((traj n order s T).sa, (traj n order s T).en, (traj n order s T).wa, aisles n order s T) := by
  have hr : slices_Repeat_int_int.f [(-1)] (n : Int) = some (List.replicate n (-1)) := by
    unfold slices_Repeat_int_int.f; rw [if_pos (by simp; omega)]; rfl
  unfold impl_board.f
  refine Ev.pos (by omega) (Ev.pos (by omega) (Ev.bindc hr (Ev.bindc hr (Ev.bindc (a := List.replicate n (-1)) (by unfold slices_Clone_int_int.f; rw [if_pos (by simp; omega)]) (Ev.pos (by simp) ?_)))))
  have hp : plOf n (bstart n) = List.replicate n (-1) := rd_ext (plOf_len _ _) (by simp) (fun i hi => by
    rw [plOf_rd _ _ _ hi]; unfold bstart; dsimp only; rw [rd_rep _ _ _ hi, rd_rep _ _ _ hi, if_neg (by omega)])
  have hz : zc (bstart n).sa = n := by unfold zc bstart; simp [List.countP_replicate]
  have := board_loop hn hs hs5 ho hT hd hu T 0 (by omega)
  have e0 : traj n order s 0 = bstart n := rfl
  rw [e0, hp, hz] at this
  exact this
theorem act_sat {n : Nat} {s : Int} {c : BC} (h : BW n s c) (r : Nat) (hr : r < n) (t : Int) (q : Nat) : rd (act c r t s).sa (q : Int) = rd c.sa (q : Int) ∨ rd (act c r t s).sa (q : Int) = t := by
  have := h.lsa
  unfold act
  split
  · exact .inl rfl
  · split
    · split <;> exact .inl rfl
    · split
      · split
        · dsimp only
          rw [rd_set _ _ _ _ (by omega)]
          split
          · exact .inr rfl
          · exact .inl rfl
        · exact .inl rfl
      · split <;> exact .inl rfl
theorem unit_sat {n : Nat} {s t : Int} (ht : 1 ≤ t) (q : Nat) : ∀ (l : List Int) (c : BC), BW n s c → (∀ x ∈ l, 0 ≤ x ∧ x < (n : Int)) → rd (unitOf l t s c).sa (q : Int) = rd c.sa (q : Int) ∨ rd (unitOf l t s c).sa (q : Int) = t := by
  intro l
  induction l with
  | nil => intro c _ _; exact .inl rfl
  | cons x l ih =>
    intro c h hx
    have hx0 := hx x (by simp)
    have hw := act_wf h x.toNat (by omega) t ht
    show rd (unitOf l t s (act c x.toNat t s)).sa (q : Int) = _ ∨ rd (unitOf l t s (act c x.toNat t s)).sa (q : Int) = _
    rcases ih (act c x.toNat t s) hw (fun y hy => hx y (by simp [hy])) with e | e
    · rw [e]; exact act_sat h _ (by omega) t q
    · exact .inr e
theorem sat_le {n : Nat} {order : List Int} {s : Int} (hs : 1 ≤ s) (ho : IsOrd order n) (q : Nat) (hq : q < n) : ∀ u : Nat, rd (traj n order s u).sa (q : Int) ≤ u
  | 0 => by show rd (bstart n).sa (q : Int) ≤ _; unfold bstart; dsimp only; rw [rd_rep _ _ _ hq]; omega
  | u + 1 => by
    have := sat_le hs ho q hq u
    rcases unit_sat (n := n) (s := s) (t := ((u + 1 : Nat) : Int)) (by omega) q order _ (traj_wf hs ho u) (ord_range ho) with e | e
    · show rd (unitOf order ((u + 1 : Nat) : Int) s (traj n order s u)).sa (q : Int) ≤ _; rw [e]; omega
    · show rd (unitOf order ((u + 1 : Nat) : Int) s (traj n order s u)).sa (q : Int) ≤ _; rw [e]; omega
theorem sat_last {n : Nat} {order : List Int} {s : Int} (hn : 1 ≤ n) (hs : 1 ≤ s) (ho : IsOrd order n) {T : Nat} (hd : Done n (traj n order s T)) (hu : ∀ u, u < T → ¬ Done n (traj n order s u)) : ∃ q : Nat, q < n ∧ rd (traj n order s T).sa (q : Int) = T := by
  cases T with
  | zero => exact absurd (by show rd (bstart n).sa ((0 : Nat) : Int) = 0; unfold bstart; dsimp only; rw [rd_rep _ _ _ (by omega)]) (hd 0 (by omega))
  | succ u =>
    have h := hu u (by omega)
    obtain ⟨q, hq⟩ := Classical.not_forall.mp h
    have hq1 : q < n := Classical.byContradiction fun c => hq (fun h => absurd h c)
    have hq2 : rd (traj n order s u).sa (q : Int) = 0 := Classical.byContradiction fun c => hq (fun _ => c)
    refine ⟨q, hq1, ?_⟩
    rcases unit_sat (n := n) (s := s) (t := ((u + 1 : Nat) : Int)) (by omega) q order _ (traj_wf hs ho u) (ord_range ho) with e | e
    · exact absurd (e.trans hq2) (hd q hq1)
    · exact e
theorem l1Most_eq (a b : Int) : spec_l1Most.f a b = some (max a b) := by
  unfold spec_l1Most.f
  by_cases h : a > b
  · rw [if_pos h, Int.max_eq_left (by omega)]
  · rw [if_neg h, Int.max_eq_right (by omega)]
theorem time_loop (n : Nat) (hn : n ≤ 10) (l : List Int) (hl : l.length = n) (M : Int) (hM : ∀ i : Nat, i < n → rd l (i : Int) ≤ M) : ∀ (d i : Nat) (acc : Int), i + d = n → acc ≤ M → (acc = M ∨ ∃ j : Nat, i ≤ j ∧ j < n ∧ rd l (j : Int) = M) →
    Ev (fun k => spec_l7Time.l0 k (n : Int) acc l (i : Int)) M := by
  intro d
  induction d with
  | zero =>
    intro i acc hi h1 h2
    have : acc = M := by
      rcases h2 with h | ⟨j, a, b, _⟩
      · exact h
      · omega
    subst this
    refine Ev.succ ?_
    simp only [spec_l7Time.l0.eq_2]
    exact Ev.neg (by omega) (Ev.now _)
  | succ d ih =>
    intro i acc hi h1 h2
    have h3 := hM i (by omega)
    refine Ev.succ ?_
    simp only [spec_l7Time.l0.eq_2]
    refine Ev.pos (by omega) (Ev.pos (by omega) (Ev.pos (by omega) (Ev.bindc (l1Most_eq _ _) ?_)))
    rw [w64 (by omega) (by omega)]
    refine ih (i + 1) _ (by omega) (by omega) ?_
    rcases h2 with h | ⟨j, a, b, c⟩
    · exact .inl (by omega)
    · by_cases e : j = i
      · subst e; exact .inl (by omega)
      · exact .inr ⟨j, by omega, b, c⟩
theorem l7Time_ev {n : Nat} {order : List Int} {s : Int} (hn1 : 1 ≤ n) (hn : n ≤ 10) (hs : 1 ≤ s) (hs5 : s ≤ 5) (ho : IsOrd order n) {T : Nat} (hT : T ≤ 160) (hd : Done n (traj n order s T)) (hu : ∀ u, u < T → ¬ Done n (traj n order s u)) :
    Ev (fun k => spec_l7Time.f k (n : Int) s order) (T : Int) := by
  unfold spec_l7Time.f
  have h := l7Run_ev hn hs hs5 ho hT hd hu (-1)
  rw [if_pos (by omega)] at h
  refine Ev.bind h ?_
  obtain ⟨q, h1, h2⟩ := sat_last hn1 hs ho hd hu
  exact time_loop n hn _ (traj_wf hs ho T).lsa (T : Int) (fun i hi => sat_le hs ho i hi T) n 0 0 (by omega) (by omega) (.inr ⟨q, by omega, h1, h2⟩)
/-- all enterings that begin with some rows, in order -/
def alls (n : Nat) : Nat → List Int → List (List Int)
  | 0, b => [b]
  | e + 1, b => (List.range' 0 n).flatMap fun r : Nat => if (r : Int) ∈ b then [] else alls n e (b ++ [(r : Int)])
theorem alls_mem (n : Nat) : ∀ (e : Nat) (b c : List Int), b.length + e = n → b.Nodup → (∀ x ∈ b, 0 ≤ x ∧ x < (n : Int)) → c ∈ alls n e b → IsOrd c (n : Int) := by
  intro e
  induction e with
  | zero =>
    intro b c hl hn hr hc
    simp only [alls, List.mem_singleton] at hc
    subst hc
    exact ord_of_nodup (by omega) hn hr
  | succ e ih =>
    intro b c hl hn hr hc
    simp only [alls, List.mem_flatMap, List.mem_range'_1] at hc
    obtain ⟨r, ⟨_, hr2⟩, hc⟩ := hc
    split at hc
    · simp at hc
    · rename_i hm
      refine ih (b ++ [(r : Int)]) c (by simp; omega) ?_ ?_ hc
      · rw [List.nodup_append]
        exact ⟨hn, by simp, fun a ha b' hb' => by simp at hb'; subst hb'; intro h; subst h; exact hm ha⟩
      · intro x hx
        simp only [List.mem_append, List.mem_singleton] at hx
        rcases hx with h | h
        · exact hr x h
        · subst h; omega
theorem flatMap_len {α β : Type} (f : α → List β) (B : Nat) : ∀ (l : List α), (∀ x ∈ l, (f x).length ≤ B) → (l.flatMap f).length ≤ l.length * B := by
  intro l
  induction l with
  | nil => intro _; simp
  | cons x l ih =>
    intro h
    rw [List.flatMap_cons, List.length_append, List.length_cons, Nat.succ_mul]
    have h1 := h x (by simp)
    have h2 := ih (fun y hy => h y (by simp [hy]))
    omega
theorem alls_len (n : Nat) (hn : n ≤ 6) : ∀ (e : Nat) (b : List Int), (alls n e b).length ≤ 6 ^ e := by
  intro e
  induction e with
  | zero => intro b; simp [alls]
  | succ e ih =>
    intro b
    have h := flatMap_len (fun r : Nat => if (r : Int) ∈ b then [] else alls n e (b ++ [(r : Int)])) (6 ^ e) (List.range' 0 n) (fun r _ => by
      show (if (r : Int) ∈ b then ([] : List (List Int)) else alls n e (b ++ [(r : Int)])).length ≤ 6 ^ e
      split
      · exact Nat.zero_le _
      · exact ih _)
    rw [List.length_range'] at h
    have : n * 6 ^ e ≤ 6 * 6 ^ e := Nat.mul_le_mul_right _ hn
    rw [Nat.pow_succ]
    show ((List.range' 0 n).flatMap fun r : Nat => if (r : Int) ∈ b then [] else alls n e (b ++ [(r : Int)])).length ≤ _
    omega
theorem pow6 (e : Nat) (he : e ≤ 6) : 6 ^ e ≤ 46656 := Nat.le_trans (Nat.pow_le_pow_right (by decide) he) (by decide)
theorem own7_eq (l : List Int) (h : l.length ≤ 1000) : spec_l1Own.f l = some l := by
  unfold spec_l1Own.f
  simp only [Option.bind_some, List.nil_append]
  rw [if_pos (by simp; omega)]
theorem all_ev (n : Nat) (hn : n ≤ 6) : ∀ (e : Nat) (b : List Int), b.length + e = n → Ev (fun k => spec_l7All.f k (n : Int) b) (alls n e b) := by
  intro e
  induction e with
  | zero =>
    intro b hl
    refine Ev.succ ?_
    simp only [spec_l7All.f.eq_2]
    exact Ev.pos (by omega) (Ev.now _)
  | succ e ih =>
    intro b hl
    refine Ev.succ ?_
    simp only [spec_l7All.f.eq_2]
    refine Ev.neg (by omega) ?_
    have hp6 := pow6 e (by omega)
    have loop : ∀ (m p : Nat) (acc : List (List Int)), p + m = n → acc.length ≤ p * 6 ^ e → Ev (fun k => spec_l7All.l0 k (n : Int) b acc (p : Int)) (acc ++ (List.range' p m).flatMap fun r : Nat => if (r : Int) ∈ b then [] else alls n e (b ++ [(r : Int)])) := by
      intro m
      induction m with
      | zero =>
        intro p acc hp ha
        refine Ev.succ ?_
        simp only [spec_l7All.l0.eq_2]
        refine Ev.neg (by omega) ?_
        simp only [List.range'_zero, List.flatMap_nil, List.append_nil]
        exact Ev.now _
      | succ m ihm =>
        intro p acc hp ha
        refine Ev.succ ?_
        simp only [spec_l7All.l0.eq_2]
        rw [List.range'_succ, List.flatMap_cons, w64 (by omega) (by omega), show (p : Int) + 1 = ((p + 1 : Nat) : Int) by omega]
        have hp1 : p * 6 ^ e ≤ 6 * 6 ^ e := Nat.mul_le_mul_right _ (by omega)
        have hp2 : (p + 1) * 6 ^ e = p * 6 ^ e + 6 ^ e := Nat.succ_mul _ _
        refine Ev.pos (by omega) (Ev.bind (has_ev b (p : Int) (by omega)) ?_)
        by_cases hm : (p : Int) ∈ b
        · rw [if_pos hm, List.nil_append]
          exact Ev.pos (by simpa using hm) (ihm (p + 1) acc (by omega) (by omega))
        · rw [if_neg hm, ← List.append_assoc]
          have hlen := alls_len n hn e (b ++ [(p : Int)])
          refine Ev.neg (by simpa using hm) (Ev.bindc (own7_eq b (by omega)) (Ev.pos (by omega) (Ev.bind (ih (b ++ [(p : Int)]) (by simp; omega)) (Ev.pos (by omega) ?_))))
          exact ihm (p + 1) _ (by omega) (by rw [List.length_append]; omega)
    have h := loop n 0 [] (by omega) (by simp)
    simp only [List.nil_append] at h
    exact h
theorem index7_loop (l : List Int) (x : Int) (hl : l.length ≤ 1000) : ∀ (d i : Nat), i + d = l.length → ∃ r : Int, decide (r ≥ 0) = decide (x ∈ l.drop i) ∧ Ev (fun k => slices_Index_int_int.l0 k l x (l.length : Int) (i : Int)) r := by
  intro d
  induction d with
  | zero =>
    intro i hi
    refine ⟨-1, by rw [List.drop_of_length_le (by omega)]; simp, Ev.succ ?_⟩
    simp only [slices_Index_int_int.l0.eq_2]
    exact Ev.neg (by omega) (Ev.now _)
  | succ d ih =>
    intro i hi
    rw [List.drop_eq_getElem_cons (by omega)]
    by_cases hx : x = l[i]'(by omega)
    · refine ⟨(i : Int), by rw [decide_eq_decide]; exact ⟨fun _ => by rw [hx]; exact List.mem_cons_self, fun _ => by omega⟩, Ev.succ ?_⟩
      simp only [slices_Index_int_int.l0.eq_2]
      rw [rd_nat l i (by omega)]
      exact Ev.pos (by omega) (Ev.pos (by omega) (Ev.pos (by omega) (Ev.pos hx (Ev.now _))))
    · obtain ⟨r, hr, hev⟩ := ih (i + 1) (by omega)
      refine ⟨r, by rw [hr, decide_eq_decide, List.mem_cons]; exact ⟨fun h => .inr h, fun h => h.resolve_left hx⟩, Ev.succ ?_⟩
      simp only [slices_Index_int_int.l0.eq_2]
      rw [rd_nat l i (by omega), w64 (by omega) (by omega)]
      exact Ev.pos (by omega) (Ev.pos (by omega) (Ev.pos (by omega) (Ev.neg hx hev)))
theorem contains7_ev (l : List Int) (x : Int) (hl : l.length ≤ 1000) : Ev (fun k => slices_Contains_int_int.f k l x) (decide (x ∈ l)) := by
  obtain ⟨r, hr, hev⟩ := index7_loop l x hl l.length 0 (by omega)
  unfold slices_Contains_int_int.f slices_Index_int_int.f
  rw [List.drop_zero] at hr
  rw [← hr]
  exact Ev.bind (f := fun _ (t : Int) => some (decide (t ≥ 0))) hev (Ev.now _)
/-- the time of an entering -/
theorem tm_ex (n : Nat) (s : Int) (l : List Int) : ∃ T : Int, (1 ≤ n ∧ n ≤ 10 ∧ 1 ≤ s ∧ s ≤ 5 ∧ IsOrd l (n : Int)) → (0 ≤ T ∧ T ≤ 160) ∧ Ev (fun k => spec_l7Time.f k (n : Int) s l) T ∧ Ev (fun k => (impl_board.f k (n : Int) s l).bind fun b => impl_boarding_time.f b.1 b.2.1 b.2.2.1 b.2.2.2) T := by
  by_cases h : 1 ≤ n ∧ n ≤ 10 ∧ 1 ≤ s ∧ s ≤ 5 ∧ IsOrd l (n : Int)
  · obtain ⟨h1, h2, h3, h4, ho⟩ := h
    obtain ⟨T, hT, hd, hu⟩ := least_done (n := n) h2 h3 h4 ho
    refine ⟨(T : Int), fun _ => ⟨⟨by omega, by omega⟩, l7Time_ev h1 h2 h3 h4 ho hT hd hu, Ev.bind (board_ev h1 h2 h3 h4 ho hT hd hu) ?_⟩⟩
    refine Ev.congr (f := fun _ => impl_boarding_time.f (traj n l s T).sa (traj n l s T).en (traj n l s T).wa (aisles n l s T)) (fun _ => rfl) ?_
    unfold impl_boarding_time.f
    rw [w64 (by simp [aisles] <;> omega) (by simp [aisles] <;> omega)]
    simp [aisles]
    exact Ev.now _
  · exact ⟨0, fun h' => absurd h' h⟩
noncomputable def tm (n : Nat) (s : Int) (l : List Int) : Int := Classical.choose (tm_ex n s l)
theorem tm_spec (n : Nat) (s : Int) (l : List Int) (h1 : 1 ≤ n) (h2 : n ≤ 10) (h3 : 1 ≤ s) (h4 : s ≤ 5) (ho : IsOrd l (n : Int)) : (0 ≤ tm n s l ∧ tm n s l ≤ 160) ∧ Ev (fun k => spec_l7Time.f k (n : Int) s l) (tm n s l) ∧ Ev (fun k => (impl_board.f k (n : Int) s l).bind fun b => impl_boarding_time.f b.1 b.2.1 b.2.2.1 b.2.2.2) (tm n s l) :=
  Classical.choose_spec (tm_ex n s l) ⟨h1, h2, h3, h4, ho⟩
theorem ent_ev {σ : Type} (vis : List Int → Int → σ → σ) (n : Nat) (hn1 : 1 ≤ n) (hn : n ≤ 6) (s : Int) (hs1 : 1 ≤ s) (hs5 : s ≤ 5) : ∀ (e : Nat) (b : List Int) (st : σ), b.length + e = n → b.Nodup → (∀ x ∈ b, 0 ≤ x ∧ x < (n : Int)) →
    Ev (fun k => impl_enterings_1.f vis k b (n : Int) s st) ((alls n e b).foldl (fun st c => vis c (tm n s c) st) st) := by
  intro e
  induction e with
  | zero =>
    intro b st hl hnd hr
    refine Ev.succ ?_
    simp only [impl_enterings_1.f.eq_2]
    have ho : IsOrd b (n : Int) := alls_mem n 0 b b hl hnd hr (by simp [alls])
    have h := (tm_spec n s b hn1 (by omega) hs1 hs5 ho).2.2
    refine Ev.pos (by omega) ?_
    obtain ⟨K, hK⟩ := h
    refine ⟨K, fun k hk => ?_⟩
    have h2 := hK k hk
    obtain ⟨q, hq1, hq2⟩ := Option.bind_eq_some_iff.mp h2
    show ((impl_board.f k (n : Int) s b).bind fun b_1 => (impl_boarding_time.f b_1.1 b_1.2.1 b_1.2.2.1 b_1.2.2.2).bind fun t => if 1 ≤ b.length ∧ b.length ≤ 1000 then some (vis b t st) else none) = _
    rw [hq1, Option.bind_some, hq2, Option.bind_some, if_pos (by omega)]
    rfl
  | succ e ih =>
    intro b st hl hnd hr
    refine Ev.succ ?_
    simp only [impl_enterings_1.f.eq_2]
    refine Ev.neg (by omega) ?_
    have loop : ∀ (m p : Nat) (st : σ), p + m = n → Ev (fun k => impl_enterings_1.l0 vis k b (n : Int) s (n : Int) (p : Int) st) (((List.range' p m).flatMap fun r : Nat => if (r : Int) ∈ b then [] else alls n e (b ++ [(r : Int)])).foldl (fun st c => vis c (tm n s c) st) st) := by
      intro m
      induction m with
      | zero =>
        intro p st hp
        refine Ev.succ ?_
        simp only [impl_enterings_1.l0.eq_2]
        exact Ev.neg (by omega) (Ev.now _)
      | succ m ihm =>
        intro p st hp
        refine Ev.succ ?_
        simp only [impl_enterings_1.l0.eq_2]
        rw [List.range'_succ, List.flatMap_cons, List.foldl_append, w64 (by omega) (by omega), show (p : Int) + 1 = ((p + 1 : Nat) : Int) by omega]
        refine Ev.pos (by omega) (Ev.bind (contains7_ev b (p : Int) (by omega)) ?_)
        by_cases hm : (p : Int) ∈ b
        · rw [if_pos hm]
          exact Ev.pos (by simpa using hm) (ihm (p + 1) st (by omega))
        · rw [if_neg hm]
          refine Ev.neg (by simpa using hm) (Ev.pos (by omega) (Ev.bind (ih (b ++ [(p : Int)]) st (by simp; omega) ?_ ?_) (ihm (p + 1) _ (by omega))))
          · rw [List.nodup_append]
            exact ⟨hnd, by simp, fun a ha b' hb' => by simp at hb'; subst hb'; intro h; subst h; exact hm ha⟩
          · intro x hx
            simp only [List.mem_append, List.mem_singleton] at hx
            rcases hx with h | h
            · exact hr x h
            · subst h; omega
    exact loop n 0 st (by omega)
theorem enterings_yes {σ : Type} (vis : List Int → Int → σ → σ) (n : Nat) (hn1 : 1 ≤ n) (hn : n ≤ 6) (s : Int) (hs1 : 1 ≤ s) (hs5 : s ≤ 5) (st : σ) : Ev (fun k => impl_enterings.f vis k (n : Int) s st) ((alls n n []).foldl (fun st c => vis c (tm n s c) st) st, true) := by
  unfold impl_enterings.f
  refine Ev.bindc (within_eq _ _ _) (Ev.pos (by simp; omega) (Ev.bindc (within_eq _ _ _) (Ev.pos (by simp; omega) ?_)))
  exact Ev.bind (f := fun _ (o : σ) => some (o, true)) (ent_ev vis n hn1 hn s hs1 hs5 n [] st (by simp) (by simp) (by simp)) (Ev.now _)
theorem enterings_no {σ : Type} (vis : List Int → Int → σ → σ) (n s : Int) (st : σ) (h : ¬ (1 ≤ n ∧ n ≤ 6 ∧ 1 ≤ s ∧ s ≤ 5)) : Ev (fun k => impl_enterings.f vis k n s st) (st, false) := by
  unfold impl_enterings.f
  refine Ev.bindc (within_eq _ _ _) ?_
  by_cases h1 : 1 ≤ n ∧ n ≤ 6
  · exact Ev.pos (decide_eq_true h1) (Ev.bindc (within_eq _ _ _) (Ev.neg (by simp; omega) (Ev.now _)))
  · exact Ev.neg (by simpa using h1) (Ev.now _)
theorem few_eq (n s : Int) : spec_l7Few.f n s = some (decide (1 ≤ n ∧ n ≤ 6 ∧ 1 ≤ s ∧ s ≤ 5)) := by
  unfold spec_l7Few.f spec_l7Rows.f
  rw [l1In_eq, l1In_eq]
  by_cases h1 : 1 ≤ n ∧ n ≤ 10
  · by_cases h2 : 1 ≤ s ∧ s ≤ 5
    · simp only [h1, h2, decide_true, Option.bind_some, if_true, and_true, true_and, and_self]
    · rw [show decide (1 ≤ n ∧ n ≤ 6 ∧ 1 ≤ s ∧ s ≤ 5) = false from decide_eq_false (fun h => h2 h.2.2), decide_eq_true h1, decide_eq_false h2]; rfl
  · rw [show decide (1 ≤ n ∧ n ≤ 6 ∧ 1 ≤ s ∧ s ≤ 5) = false from decide_eq_false (fun h => h1 ⟨h.1, by omega⟩), decide_eq_false h1]; rfl
theorem rdL1_nat (l : List (List Int)) (i : Nat) (h : i < l.length) : rd_L1 l (i : Int) = l[i] := by
  unfold rd_L1; simp [h]
theorem div_ev (b : Nat) : ∀ a : Nat, a < 9223372036854775808 → b < 9223372036854775808 → Ev (fun k => impl_divisor.f k (a : Int) (b : Int)) ((Nat.gcd a b : Nat) : Int) := by
  unfold impl_divisor.f
  induction b using Nat.strongRecOn with
  | _ b ih =>
    intro a ha hb
    refine Ev.succ ?_
    simp only [impl_divisor.l0.eq_2]
    by_cases h : b = 0
    · subst h; rw [Nat.gcd_zero_right]; exact Ev.pos (by omega) (Ev.now _)
    · refine Ev.neg (by omega) ?_
      rw [show Int.tmod (a : Int) (b : Int) = ((a % b : Nat) : Int) by rw [Int.tmod_eq_emod_of_nonneg (by omega)]; rfl]
      have := ih (a % b) (Nat.mod_lt _ (by omega)) b hb (Nat.lt_trans (Nat.mod_lt _ (by omega)) hb)
      rw [show Nat.gcd a b = Nat.gcd b (a % b) by rw [Nat.gcd_comm a b, Nat.gcd_rec b a, Nat.gcd_comm]]
      exact this
theorem fraction_ev (a b : Nat) (ha : a < 9223372036854775808) (hb : b < 9223372036854775808) (h0 : 0 < b) : Ev (fun k => impl_fraction.f k (a : Int) (b : Int)) (cutN a b) := by
  unfold impl_fraction.f
  have hg : 0 < Nat.gcd a b := Nat.gcd_pos_of_pos_right a h0
  refine Ev.bind (div_ev b a ha hb) (Ev.neg (by omega) ?_)
  have h1 := Nat.div_le_self a (Nat.gcd a b)
  have h2 := Nat.div_le_self b (Nat.gcd a b)
  rw [Int.tdiv_eq_ediv_of_nonneg (by omega), Int.tdiv_eq_ediv_of_nonneg (by omega), ← Int.natCast_ediv, ← Int.natCast_ediv]
  unfold cutN
  generalize a / Nat.gcd a b = x at *
  generalize b / Nat.gcd a b = y at *
  rw [w64 (by omega) (by omega), w64 (by omega) (by omega)]
  exact Ev.now _
/-- the sum of all times -/
noncomputable def tsum (n : Nat) (s : Int) (L : List (List Int)) : Int := (L.map (tm n s)).sum
theorem tsum_bd (n : Nat) (s : Int) (hn1 : 1 ≤ n) (hn : n ≤ 6) (hs1 : 1 ≤ s) (hs5 : s ≤ 5) : ∀ L : List (List Int), (∀ c ∈ L, IsOrd c (n : Int)) → 0 ≤ tsum n s L ∧ tsum n s L ≤ 160 * L.length := by
  intro L
  induction L with
  | nil => intro _; simp [tsum]
  | cons c cs ih =>
    intro ho
    have h1 := (tm_spec n s c hn1 (by omega) hs1 hs5 (ho c (by simp))).1
    have h2 := ih (fun x hx => ho x (by simp [hx]))
    unfold tsum at *
    rw [List.map_cons, List.sum_cons, List.length_cons]
    omega
theorem mean_fold (n : Nat) (s : Int) (hn1 : 1 ≤ n) (hn : n ≤ 6) (hs1 : 1 ≤ s) (hs5 : s ≤ 5) : ∀ (L : List (List Int)) (a b : Int), (∀ c ∈ L, IsOrd c (n : Int)) → 0 ≤ a → a + 160 * L.length < 9223372036854775808 → 0 ≤ b → b + L.length < 9223372036854775808 →
    L.foldl (fun st c => visMean c (tm n s c) st) (a, b) = (a + tsum n s L, b + L.length) := by
  intro L
  induction L with
  | nil => intro a b _ _ _ _ _; simp [tsum]
  | cons c cs ih =>
    intro a b ho h1 h2 h3 h4
    have ht := (tm_spec n s c hn1 (by omega) hs1 hs5 (ho c (by simp))).1
    rw [List.length_cons] at h2 h4
    rw [List.foldl_cons, show visMean c (tm n s c) (a, b) = (a + tm n s c, b + 1) by unfold visMean; rw [w64 (by omega) (by omega), w64 (by omega) (by omega)], ih _ _ (fun x hx => ho x (by simp [hx])) (by omega) (by omega) (by omega) (by omega)]
    unfold tsum
    rw [List.map_cons, List.sum_cons, List.length_cons]
    congr 1 <;> omega
theorem mean_loop (n : Nat) (hn1 : 1 ≤ n) (hn : n ≤ 6) (s : Int) (hs1 : 1 ≤ s) (hs5 : s ≤ 5) (L : List (List Int)) (hL : L.length ≤ 46656) (ho : ∀ c ∈ L, IsOrd c (n : Int)) (r : Int × Int × Bool)
    (hr : Ev (fun k => (spec_l2Cut.f k (tsum n s L) (L.length : Int)).bind fun bt230 => some (bt230.1, bt230.2, true)) r) : ∀ (d i : Nat) (a : Int), i + d = L.length → a + tsum n s (L.drop i) = tsum n s L → 0 ≤ a → a ≤ 160 * i →
    Ev (fun k => spec_MeanTime.l0 k (n : Int) s a L (i : Int)) r := by
  intro d
  induction d with
  | zero =>
    intro i a hi ha h0 h1
    refine Ev.succ ?_
    simp only [spec_MeanTime.l0.eq_2]
    rw [List.drop_of_length_le (by omega)] at ha
    have e : a = tsum n s L := by rw [← ha]; simp [tsum]
    rw [e]
    exact Ev.neg (by omega) (by obtain ⟨K, hK⟩ := hr; exact ⟨K, hK⟩)
  | succ d ih =>
    intro i a hi ha h0 h1
    have hc := ho (L[i]'(by omega)) (List.getElem_mem (by omega))
    have ht := tm_spec n s (L[i]'(by omega)) hn1 (by omega) hs1 hs5 hc
    refine Ev.succ ?_
    simp only [spec_MeanTime.l0.eq_2]
    rw [List.drop_eq_getElem_cons (by omega)] at ha
    rw [rdL1_nat L i (by omega), w64 (by omega) (by omega), show (i : Int) + 1 = ((i + 1 : Nat) : Int) by omega]
    refine Ev.pos (by omega) (Ev.pos (by omega) (Ev.bind ht.2.1 ?_))
    rw [w64 (by omega) (by omega)]
    refine ih (i + 1) _ (by omega) ?_ (by omega) (by omega)
    unfold tsum at ha ⊢
    rw [List.map_cons, List.sum_cons] at ha
    omega
theorem mean_key (n s : Int) : ∃ q : Int × Int × Bool, Ev (fun k => spec_MeanTime.f k n s) q ∧ Ev (fun k => impl_MeanTime.f k n s) q := by
  by_cases h : 1 ≤ n ∧ n ≤ 6 ∧ 1 ≤ s ∧ s ≤ 5
  · obtain ⟨h1, h2, h3, h4⟩ := id h
    obtain ⟨m, rfl⟩ := Int.eq_ofNat_of_zero_le (show 0 ≤ n by omega)
    have ho : ∀ c ∈ alls m m [], IsOrd c (m : Int) := fun c hc => alls_mem m m [] c (by simp) (by simp) (by simp) hc
    have hl : (alls m m []).length ≤ 46656 := Nat.le_trans (alls_len m (by omega) m []) (pow6 m (by omega))
    have hp : 0 < (alls m m []).length := by
      have : m = 1 ∨ m = 2 ∨ m = 3 ∨ m = 4 ∨ m = 5 ∨ m = 6 := by omega
      rcases this with rfl | rfl | rfl | rfl | rfl | rfl <;> decide +kernel
    have hb := tsum_bd m s (by omega) (by omega) h3 h4 (alls m m []) ho
    obtain ⟨A, hA⟩ := Int.eq_ofNat_of_zero_le hb.1
    have hcut := l2Cut_ev A (alls m m []).length (by omega) (by omega) hp
    have hfr := fraction_ev A (alls m m []).length (by omega) (by omega) hp
    refine ⟨((cutN A (alls m m []).length).1, (cutN A (alls m m []).length).2, true), ?_, ?_⟩
    · unfold spec_MeanTime.f
      refine Ev.bindc (few_eq _ _) (Ev.pos (decide_eq_true h) (Ev.bind (all_ev m (by omega) m [] (by simp)) ?_))
      refine mean_loop m (by omega) (by omega) s h3 h4 (alls m m []) hl ho _ ?_ (alls m m []).length 0 0 (by omega) (by simp) (by omega) (by omega)
      rw [hA]
      exact Ev.bind (f := fun _ (t : Int × Int) => some (t.1, t.2, true)) hcut (Ev.now _)
    · unfold impl_MeanTime.f
      have he := enterings_yes visMean m (by omega) (by omega) s h3 h4 (0, 0)
      rw [mean_fold m s (by omega) (by omega) h3 h4 _ 0 0 ho (by omega) (by omega) (by omega) (by omega), Int.zero_add, Int.zero_add, hA] at he
      exact Ev.bind he (Ev.pos rfl (Ev.bind (f := fun _ (t : Int × Int) => some (t.1, t.2, true)) hfr (Ev.now _)))
  · refine ⟨(0, 0, false), ?_, ?_⟩
    · unfold spec_MeanTime.f
      exact Ev.bindc (few_eq _ _) (Ev.neg (by simpa using h) (Ev.now _))
    · unfold impl_MeanTime.f
      exact Ev.bind (enterings_no visMean n s (0, 0) h) (Ev.neg (by decide) (Ev.now _))
theorem FnExactMeanTime : laws_FnExactMeanTime.Pure := by
  intro n s _ _
  refine Ev.rounds (g := fun k => laws_FnExactMeanTime.f k n s) ?_
  obtain ⟨q, h1, h2⟩ := mean_key n s
  unfold laws_FnExactMeanTime.f
  exact Ev.bind h1 (Ev.bind h2 (Ev.bind (eqA2_ev q.1 q.2.1) (Ev.pos rfl (Ev.neg (by simp) (Ev.now _)))))

end Go.Proofs.Ythaaakijekkkaaa.Pure
