/- SplitString and JoinStrings are inverse, and LessString is a strict order, as the law says; the condition is that a pure law holds of what is told of the program and of the reference. -/
import Derived.Test.YtcgndhkhncmnnaaDoorPFnSplitJoinx3
namespace Go.Proofs.YtcgndhkhncmnnaaDoor.Pure
open Go.RowKit Go.Proofs.YtcgndhkhncmnnaaDoor.PFnSplitJoin Go.Proofs.YtcgndhkhncmnnaaDoorW.PrintWords Go.Proofs.YtcgndhkhncmnnaaDoorW.PrintLast Go.Proofs.YtcgndhkhncmnnaaDoorW.PrintMore
set_option linter.unusedVariables false

theorem Ev.pos {α : Type} {c : Prop} [Decidable c] {f g : Nat → Option α} {r : α} (h : c) (k : Ev f r) : Ev (fun m => if c then f m else g m) r :=
  Ev.congr (fun _ => if_pos h) k
theorem Ev.neg {α : Type} {c : Prop} [Decidable c] {f g : Nat → Option α} {r : α} (h : ¬ c) (k : Ev g r) : Ev (fun m => if c then f m else g m) r :=
  Ev.congr (fun _ => if_neg h) k
theorem Ev.bindc {α β : Type} {x : Option α} {f : Nat → α → Option β} {a : α} {r : β} (h : x = some a) (k : Ev (fun n => f n a) r) : Ev (fun n => x.bind (f n)) r := by
  subst h; exact k
theorem Ev.succ {α : Type} {g : Nat → Option α} {r : α} (k : Ev (fun n => g (n + 1)) r) : Ev g r := Ev.step (fun _ => rfl) k
theorem Ev.unique {α : Type} {g : Nat → Option α} {r q : α} (h : Ev g r) (k : Ev g q) : r = q := by
  obtain ⟨K, hK⟩ := h; obtain ⟨L, hL⟩ := k
  have := (hK (max K L) (Nat.le_max_left _ _)).symm.trans (hL (max K L) (Nat.le_max_right _ _))
  exact Option.some.inj this
theorem w64 {n : Int} (h0 : -9223372036854775808 ≤ n) (h1 : n < 9223372036854775808) : wrap64 n = n := by unfold wrap64; omega
theorem rd_nat (l : List Int) (i : Nat) (h : i < l.length) : rd l (i : Int) = l[i] := by
  unfold rd; rw [Int.toNat_natCast, List.getD_eq_getElem?_getD, List.getElem?_eq_getElem h]; rfl
theorem lit_i64 {x : Int} (h : (Lit.int .i64 x).wf = true) : -9223372036854775808 ≤ x ∧ x < 9223372036854775808 := by
  simp [Lit.wf, IntKind.min, IntKind.max, IntKind.bits, IntKind.signed] at h; omega
def pc : Nat → Nat → Nat
  | 0, _ => 0
  | k + 1, n => n % 2 + pc k (n / 2)
theorem pc_add (a b n : Nat) : pc (a + b) n = pc a n + pc b (n / 2 ^ a) := by
  induction a generalizing n with
  | zero => simp [pc]
  | succ a ih =>
    rw [show a + 1 + b = (a + b) + 1 by omega]
    simp only [pc]
    rw [ih, Nat.div_div_eq_div_mul, Nat.pow_succ, Nat.mul_comm 2 (2 ^ a)]
    omega
theorem pc_mod (k n : Nat) : pc k (n % 2 ^ k) = pc k n := by
  induction k generalizing n with
  | zero => rfl
  | succ k ih =>
    simp only [pc]
    rw [show n % 2 ^ (k + 1) % 2 = n % 2 by rw [Nat.pow_succ]; exact Nat.mod_mul_left_mod n (2 ^ k) 2]
    rw [show n % 2 ^ (k + 1) / 2 = (n / 2) % 2 ^ k by rw [Nat.pow_succ, Nat.mul_comm]; exact Nat.mod_mul_right_div_self n 2 (2 ^ k)]
    rw [ih]
theorem pc_le (k n : Nat) : pc k n ≤ k := by
  induction k generalizing n with
  | zero => exact Nat.le_refl _
  | succ k ih => have := ih (n / 2); simp only [pc]; omega
theorem u32_nat (a b : Nat) (ha : a < 4294967296) (hb : b < 4294967296) : Go.bits .and .u32 (a : Int) (b : Int) = ((a &&& b : Nat) : Int) ∧ Go.bits .or .u32 (a : Int) (b : Int) = ((a ||| b : Nat) : Int) :=
  bits_nat .u32 32 (by decide) (fun n h0 h1 => by rw [IntKind.wrap_u32]; omega) a b (by omega) (by omega)
theorem pc_count (k n : Nat) : pc k n = (List.range k).countP (fun i => n.testBit i) := by
  induction k generalizing n with
  | zero => rfl
  | succ k ih =>
    rw [List.range_succ_eq_map, List.countP_cons, List.countP_map]
    simp only [pc]
    rw [ih, Nat.add_comm]
    congr 1
    · apply List.countP_congr
      intro i _
      simp [Nat.testBit_succ]
    · rw [Nat.testBit_zero]
      by_cases h : n % 2 = 1
      · simp [h]
      · have : n % 2 = 0 := by omega
        simp [this]
/-- a list of bytes -/
def Bytes8 (l : List Int) : Prop := ∀ x ∈ l, 0 ≤ x ∧ x ≤ 255
theorem and255 (x : Int) (h0 : 0 ≤ x) (h1 : x < 4294967296) : 0 ≤ Go.bits .and .u64 x 255 ∧ Go.bits .and .u64 x 255 ≤ 255 := by
  have h := (bits_nat .u64 64 (by decide) (fun n h0 h1 => by rw [IntKind.wrap_u64]; omega) x.toNat 255 (by omega) (by omega)).1
  rw [Int.toNat_of_nonneg h0] at h
  rw [show (255 : Int) = ((255 : Nat) : Int) from rfl, h]
  have := Nat.and_le_right (n := x.toNat) (m := 255)
  omega
theorem u64_range (x : Int) : 0 ≤ IntKind.u64.wrap x ∧ IntKind.u64.wrap x < 18446744073709551616 := by
  rw [IntKind.wrap_u64]; omega
theorem next_ok (s : List Int) (hs : Bytes8 s) (hl : s.length ≤ 1000000) (p st : Int) (h0 : 0 ≤ p) (h1 : p ≤ 1000000) :
    ∃ v q, spec_l1Cur_next.f s p st = some (v, p + 1, q) ∧ 0 ≤ v ∧ v ≤ 255 := by
  unfold spec_l1Cur_next.f
  have hw : wrap64 (p + 1) = p + 1 := w64 (by omega) (by omega)
  rw [hw]
  have hand : ∀ y : Int, 0 ≤ wrap64 (Go.bits .and .u64 (IntKind.u64.wrap y / 1099511627776) 255) ∧ wrap64 (Go.bits .and .u64 (IntKind.u64.wrap y / 1099511627776) 255) ≤ 255 := fun y => by
    have h := u64_range y
    have := and255 (IntKind.u64.wrap y / 1099511627776) (by omega) (by omega)
    rw [w64 (by omega) (by omega)]; exact this
  by_cases c : p < (s.length : Int)
  · rw [if_pos c, if_pos h0]
    have hm : rd s p ∈ s := by
      obtain ⟨n, rfl⟩ : ∃ n : Nat, p = (n : Int) := ⟨p.toNat, by omega⟩
      rw [rd_nat s n (by omega)]; exact List.getElem_mem _
    have hv := hs _ hm
    by_cases d : p + 1 ≤ (s.length : Int)
    · rw [if_pos d]; exact ⟨_, _, rfl, by rw [w64 (by omega) (by omega)]; exact hv⟩
    · rw [if_neg d]; exact ⟨_, _, rfl, hand _⟩
  · rw [if_neg c]
    by_cases d : p + 1 ≤ (s.length : Int)
    · rw [if_pos d]; exact ⟨_, _, rfl, by omega, by omega⟩
    · rw [if_neg d]; exact ⟨_, _, rfl, hand _⟩
theorem pick_ok (s : List Int) (hs : Bytes8 s) (hl : s.length ≤ 1000000) (p st a : Int) (h0 : 0 ≤ p) (h1 : p ≤ 1000000) (ha : a ≤ 200) :
    ∃ v p' q, spec_l1Cur_pick.f s p st a = some (v, p', q) ∧ 0 ≤ v ∧ (v < a ∨ v = 0) ∧ p ≤ p' ∧ p' ≤ p + 1 := by
  unfold spec_l1Cur_pick.f
  by_cases c : a ≤ 1
  · rw [if_pos c]; exact ⟨_, _, _, rfl, by omega, .inr rfl, by omega, by omega⟩
  · rw [if_neg c]
    obtain ⟨v, q, e, hv0, hv1⟩ := next_ok s hs hl p st h0 h1
    rw [e]
    simp only [Option.bind_some]
    rw [if_neg (by omega), if_neg (by omega)]
    refine ⟨_, _, _, rfl, Int.tmod_nonneg _ hv0, .inl ?_, by omega, by omega⟩
    exact Int.tmod_lt_of_pos _ (by omega)
theorem sz_list (x : ByteArray) : x.size = x.data.toList.length := by rw [Array.length_toList]; rfl
theorem bt_list (x : ByteArray) (i : Nat) (h : i < x.data.toList.length) : bt x (i : Int) = ((x.data.toList[i]).toNat : Int) := by
  have h2 : (i : Int).toNat < x.size := by rw [Int.toNat_natCast, sz_list]; exact h
  rw [← bt_at x (i : Int) h2]
  rfl
theorem of_ok (s : List Int) (hs : Bytes8 s) (hl : s.length ≤ 1000000) (p st : Int) (l : List ByteArray) (h0 : 0 ≤ p) (h1 : p ≤ 1000000) (hn : 0 < l.length) (hm : l.length ≤ 200) :
    ∃ v p' q, spec_l1Cur_of.f s p st l = some (v, p', q) ∧ v ∈ l ∧ p ≤ p' ∧ p' ≤ p + 1 := by
  unfold spec_l1Cur_of.f
  obtain ⟨v, p', q, e, hv0, hv1, hp0, hp1⟩ := pick_ok s hs hl p st (l.length : Int) h0 h1 (by omega)
  rw [e]
  simp only [Option.bind_some]
  have hv : v < (l.length : Int) := by omega
  rw [if_pos hv0, if_pos hv]
  refine ⟨_, _, _, rfl, ?_, hp0, hp1⟩
  obtain ⟨n, rfl⟩ : ∃ n : Nat, v = (n : Int) := ⟨v.toNat, by omega⟩
  unfold rdOf
  rw [Int.toNat_natCast, List.getD_eq_getElem?_getD, List.getElem?_eq_getElem (by omega)]
  exact List.getElem_mem _
def A9 : List ByteArray := [(⟨#[]⟩ : ByteArray), (⟨#[97]⟩ : ByteArray), (⟨#[97, 44, 98]⟩ : ByteArray), (⟨#[115, 111, 109, 101, 32, 119, 111, 114, 100, 115]⟩ : ByteArray), (⟨#[120, 35, 121]⟩ : ByteArray), (⟨#[45, 49, 50]⟩ : ByteArray), (⟨#[0, 255]⟩ : ByteArray), (⟨#[44, 44]⟩ : ByteArray), (⟨#[48]⟩ : ByteArray)]
theorem any1_ok (s : List Int) (hs : Bytes8 s) (hl : s.length ≤ 1000000) (p st : Int) (h0 : 0 ≤ p) (h1 : p ≤ 1000000) : ∃ v p' q, spec_l1Cur_any1.f s p st = some (v, p', q) ∧ v ∈ A9 ∧ p ≤ p' ∧ p' ≤ p + 1 := by
  obtain ⟨v, p', q, e, hv, hp⟩ := of_ok s hs hl p st A9 h0 h1 (by decide) (by decide)
  refine ⟨v, p', q, ?_, hv, hp⟩
  unfold spec_l1Cur_any1.f
  have e2 : spec_l1Cur_of.f s p st [(⟨#[]⟩ : ByteArray), (⟨#[97]⟩ : ByteArray), (⟨#[97, 44, 98]⟩ : ByteArray), (⟨#[115, 111, 109, 101, 32, 119, 111, 114, 100, 115]⟩ : ByteArray), (⟨#[120, 35, 121]⟩ : ByteArray), (⟨#[45, 49, 50]⟩ : ByteArray), (⟨#[0, 255]⟩ : ByteArray), (⟨#[44, 44]⟩ : ByteArray), (⟨#[48]⟩ : ByteArray)] = some (v, p', q) := e
  rw [e2]; rfl
theorem A9_size : ∀ x ∈ A9, x.size ≤ 10 := by decide
theorem nums_size (n : Nat) : (strOfNums (List.replicate n 0)).size = n := by
  unfold strOfNums
  rw [sz_list]
  simp
def MK : List ByteArray := [(⟨#[44]⟩ : ByteArray), (⟨#[59]⟩ : ByteArray), (⟨#[59]⟩ : ByteArray), (⟨#[]⟩ : ByteArray), (⟨#[97, 98]⟩ : ByteArray)]
theorem drawjoin_ok (s : List Int) (hs : Bytes8 s) (hl : s.length ≤ 100000) : ∃ (l : List ByteArray) (mk : ByteArray), Ev (fun k => spec_DrawJoinStrings.f k s) (l, mk) ∧ l.length ≤ 10 ∧ (∀ x ∈ l, x.size ≤ 5000) ∧ mk.size ≤ 2 := by
  have lp : ∀ (n i : Nat) (l : List ByteArray) (m p st : Int), (i : Int) + n = m → m ≤ 4 → l.length = i → (∀ x ∈ l, x.size ≤ 5000) → 0 ≤ p → p ≤ 100 + i → ∃ (l' : List ByteArray) (mk : ByteArray), Ev (fun k => spec_DrawJoinStrings.l0 k l m (i : Int) s p st) (l', mk) ∧ l'.length ≤ 10 ∧ (∀ x ∈ l', x.size ≤ 5000) ∧ mk.size ≤ 2 := by
    intro n
    induction n with
    | zero =>
      intro i l m p st h1 h2 h3 h4 h5 h6
      obtain ⟨v1, p1, q1, e1, a1, b1, c1, d1⟩ := pick_ok s hs (by omega) p st 20 h5 (by omega) (by omega)
      have eo : spec_l1Cur_one.f s p st 20 = some (v1 == 0, p1, q1) := by unfold spec_l1Cur_one.f; rw [e1]; rfl
      by_cases c : v1 = 0
      · obtain ⟨v2, p2, q2, e2, a2, b2, c2, d2⟩ := pick_ok s hs (by omega) p1 q1 20 (by omega) (by omega) (by omega)
        obtain ⟨v3, p3, q3, e3, a3, c3, d3⟩ := of_ok s hs (by omega) p2 q2 MK (by omega) (by omega) (by decide) (by decide)
        have hw : wrap64 (3990 + v2) = 3990 + v2 := w64 (by omega) (by omega)
        refine ⟨l ++ [strOfNums (List.replicate (3990 + v2).toNat 0)], v3, Ev.succ ?_, by simp; omega, fun x hx => ?_, (by decide : ∀ x ∈ MK, x.size ≤ 2) v3 a3⟩
        · simp only [spec_DrawJoinStrings.l0.eq_2]
          exact Ev.neg (by omega) (Ev.bindc eo (Ev.pos (beq_iff_eq.mpr c) (Ev.bindc e2 (by
            rw [hw]
            exact Ev.pos (by omega) (Ev.pos (by omega) (Ev.pos (by omega) (Ev.bindc e3 (Ev.now _))))))))
        · rcases List.mem_append.mp hx with h | h
          · exact h4 x h
          · rw [List.mem_singleton.mp h, nums_size]; omega
      · obtain ⟨v3, p3, q3, e3, a3, c3, d3⟩ := of_ok s hs (by omega) p1 q1 MK (by omega) (by omega) (by decide) (by decide)
        refine ⟨l, v3, Ev.succ ?_, by omega, h4, (by decide : ∀ x ∈ MK, x.size ≤ 2) v3 a3⟩
        simp only [spec_DrawJoinStrings.l0.eq_2]
        exact Ev.neg (by omega) (Ev.bindc eo (Ev.neg (by simpa using c) (Ev.bindc e3 (Ev.now _))))
    | succ n ih =>
      intro i l m p st h1 h2 h3 h4 h5 h6
      obtain ⟨v1, p1, q1, e1, a1, b1, c1⟩ := any1_ok s hs (by omega) p st h5 (by omega)
      obtain ⟨l', mk, g1, g2⟩ := ih (i + 1) (l ++ [v1]) m p1 q1 (by omega) h2 (by simp; omega) (fun x hx => by
        rcases List.mem_append.mp hx with h | h
        · exact h4 x h
        · rw [List.mem_singleton.mp h]; have := A9_size v1 a1; omega) (by omega) (by omega)
      refine ⟨l', mk, Ev.succ ?_, g2⟩
      simp only [spec_DrawJoinStrings.l0.eq_2]
      rw [w64 (n := (i : Int) + 1) (by omega) (by omega)]
      exact Ev.pos (by omega) (Ev.bindc e1 (Ev.pos (by omega) g1))
  obtain ⟨v1, p1, q1, e1, a1, b1, c1, d1⟩ := pick_ok s hs (by omega) 0 0 4 (by omega) (by omega) (by omega)
  obtain ⟨n, hn⟩ : ∃ n : Nat, v1 = (n : Int) := ⟨v1.toNat, by omega⟩
  obtain ⟨l', mk, g1, g2⟩ := lp n 0 [] v1 p1 q1 (by omega) (by omega) rfl (fun x hx => by simp at hx) (by omega) (by omega)
  exact ⟨l', mk, Ev.bindc e1 g1, g2⟩
theorem stands_ev (x : ByteArray) (c : UInt8) (hx : x.size ≤ 1000000) : Ev (fun k => spec_l1Stands.f k x (c.toNat : Int)) (decide (c ∈ x.data.toList)) := by
  have lp : ∀ n i, i + n = x.data.toList.length → Ev (fun k => spec_l1Stands.l0 k x (c.toNat : Int) (i : Int)) (decide (c ∈ x.data.toList.drop i)) := by
    intro n
    induction n with
    | zero =>
      intro i hi
      refine Ev.succ ?_
      simp only [spec_l1Stands.l0.eq_2]
      rw [List.drop_eq_nil_of_le (by omega), decide_eq_false (by simp)]
      exact Ev.neg (by rw [sz_list]; omega) (Ev.now _)
    | succ n ih =>
      intro i hi
      have hl : i < x.data.toList.length := by omega
      rw [sz_list] at hx
      refine Ev.succ ?_
      simp only [spec_l1Stands.l0.eq_2]
      rw [bt_list x i hl, List.drop_eq_getElem_cons hl, w64 (n := (i : Int) + 1) (by omega) (by omega)]
      refine Ev.pos (by rw [sz_list]; omega) (Ev.pos (by omega) ?_)
      by_cases e : c = x.data.toList[i]
      · rw [decide_eq_true (by rw [← e]; exact List.mem_cons_self), ← e]
        exact Ev.pos rfl (Ev.now _)
      · refine Ev.neg (fun h => e (UInt8.toNat_inj.mp (by omega)).symm) ?_
        rw [show decide (c ∈ x.data.toList[i] :: x.data.toList.drop (i + 1)) = decide (c ∈ x.data.toList.drop (i + 1)) by rw [Bool.eq_iff_iff, decide_eq_true_eq, decide_eq_true_eq, List.mem_cons]; exact ⟨fun h => h.resolve_left e, .inr⟩]
        exact ih (i + 1) (by omega)
  exact lp x.data.toList.length 0 (by omega)
theorem contains_eq (x : ByteArray) (c : UInt8) : strings_Contains.f x ⟨#[c]⟩ = some (decide (c ∈ x.data.toList)) := by
  unfold strings_Contains.f
  rw [if_pos (show (⟨#[c]⟩ : ByteArray).size = 1 from rfl)]
  congr 1
  rw [Bool.eq_iff_iff, decide_eq_true_eq, decide_eq_true_eq]
  show 0 ≤ Go.Lib.indexByte x.data.toList c ↔ _
  constructor
  · intro h
    obtain ⟨o, ho⟩ := Int.eq_ofNat_of_zero_le h
    exact List.mem_of_getElem? (Go.Lib.indexByte_some ho).1
  · intro h
    have h1 := Go.Lib.indexByte_ge x.data.toList c
    rcases Int.lt_or_le (Go.Lib.indexByte x.data.toList c) 0 with h2 | h2
    · obtain ⟨i, hi, e⟩ := List.getElem_of_mem h
      exact absurd (by rw [List.getElem?_eq_getElem hi, e]) (Go.Lib.indexByte_none (show Go.Lib.indexByte x.data.toList c = -1 by omega) i)
    · exact h2
def bad (c : UInt8) : List ByteArray → Bool
  | [] => false
  | x :: r => decide (c ∈ x.data.toList) || bad c r
def tot (e : Nat) : List ByteArray → Nat
  | [] => 0
  | x :: r => x.size + e + tot e r
theorem tot_e (r : List ByteArray) : tot 1 r = tot 0 r + r.length := by
  induction r with
  | nil => rfl
  | cons x r ih => show x.size + 1 + tot 1 r = x.size + 0 + tot 0 r + (r.length + 1); omega
theorem drop_rd (l : List ByteArray) (i : Nat) (h : i < l.length) : l.drop i = rdOf ByteArray.empty l (i : Int) :: l.drop (i + 1) := by
  unfold rdOf
  rw [List.drop_eq_getElem_cons h, Int.toNat_natCast, List.getD_eq_getElem?_getD, List.getElem?_eq_getElem h]
  rfl
theorem ba_ext (a b : ByteArray) (h : a.data.toList = b.data.toList) : a = b := by
  obtain ⟨⟨x⟩⟩ := a
  obtain ⟨⟨y⟩⟩ := b
  simp at h
  rw [h]
theorem ba_app (a b : ByteArray) : (a ++ b).data.toList = a.data.toList ++ b.data.toList := by
  rw [ByteArray.data_append, Array.toList_append]
theorem rd_in (l : List ByteArray) (hl : l.length ≤ 100000) (hx : ∀ x ∈ l, x.size ≤ 5000) (i : Nat) (h : i < l.length) : (rdOf ByteArray.empty l (i : Int)).size ≤ 5000 := by
  unfold rdOf
  rw [Int.toNat_natCast, List.getD_eq_getElem?_getD, List.getElem?_eq_getElem h]
  exact hx _ (List.getElem_mem _)
section
variable (l : List ByteArray) (c : UInt8) (hl : l.length ≤ 100000) (hx : ∀ x ∈ l, x.size ≤ 5000)
include hl hx
theorem spec_loop : ∀ n i, i + n = l.length → 0 < i → ∀ out : ByteArray, out.size ≤ 4000 →
    Ev (fun k => spec_JoinStrings.l0 k l ⟨#[c]⟩ out (i : Int)) (if bad c (l.drop i) = false ∧ out.size + tot 1 (l.drop i) ≤ 4000 then (⟨(out.data.toList ++ Go.Lib.joinTail [c] ((l.drop i).map (·.data.toList))).toArray⟩, true) else ((⟨#[]⟩ : ByteArray), false)) := by
  intro n
  induction n with
  | zero =>
    intro i hi hp out ho
    refine Ev.succ ?_
    simp only [spec_JoinStrings.l0.eq_2]
    rw [List.drop_eq_nil_of_le (by omega), if_pos ⟨rfl, by show out.size + 0 ≤ 4000; omega⟩]
    refine Ev.neg (by omega) ?_
    rw [show (⟨(out.data.toList ++ Go.Lib.joinTail [c] (([] : List ByteArray).map (·.data.toList))).toArray⟩ : ByteArray) = out from ba_ext _ _ (by simp [Go.Lib.joinTail])]
    exact Ev.now _
  | succ n ih =>
    intro i hi hp out ho
    have h1 := rd_in l hl hx i (by omega)
    have hst := stands_ev (rdOf ByteArray.empty l (i : Int)) c (by omega)
    have hb0 : bt (⟨#[c]⟩ : ByteArray) 0 = (c.toNat : Int) := rfl
    have hz1 : (⟨#[c]⟩ : ByteArray).size = 1 := rfl
    refine Ev.succ ?_
    simp only [spec_JoinStrings.l0.eq_2]
    rw [drop_rd l i (by omega), hb0, hz1, w64 (n := (i : Int) + 1) (by omega) (by omega)]
    refine Ev.pos (by omega) (Ev.pos (by omega) (Ev.pos (by decide) (Ev.bind hst ?_)))
    by_cases cb : c ∈ (rdOf ByteArray.empty l (i : Int)).data.toList
    · rw [decide_eq_true cb, if_neg (by show ¬ ((decide _ || _) = false ∧ _); rw [decide_eq_true cb]; simp)]
      exact Ev.pos rfl (Ev.now _)
    · rw [decide_eq_false cb]
      have hs1 : (out ++ (⟨#[c]⟩ : ByteArray)).size = out.size + 1 := by rw [ByteArray.size_append]; rfl
      have hs2 : ((out ++ (⟨#[c]⟩ : ByteArray)) ++ rdOf ByteArray.empty l (i : Int)).size = out.size + 1 + (rdOf ByteArray.empty l (i : Int)).size := by rw [ByteArray.size_append, hs1]
      rw [hs1, hs2]
      refine Ev.neg (by decide) (Ev.pos (by omega) (Ev.pos (by omega) (Ev.pos (by omega) ?_)))
      by_cases c4 : out.size + 1 + (rdOf ByteArray.empty l (i : Int)).size > 4000
      · rw [if_neg (by rintro ⟨_, h⟩; have h : out.size + ((rdOf ByteArray.empty l (i : Int)).size + 1 + tot 1 (l.drop (i + 1))) ≤ 4000 := h; omega)]
        exact Ev.pos (by omega) (Ev.now _)
      · have nxt := ih (i + 1) (by omega) (by omega) ((out ++ (⟨#[c]⟩ : ByteArray)) ++ rdOf ByteArray.empty l (i : Int)) (by rw [hs2]; omega)
        refine Ev.neg (by omega) ?_
        rw [hs2] at nxt
        have hb : (bad c (rdOf ByteArray.empty l (i : Int) :: l.drop (i + 1)) = false ∧ out.size + tot 1 (rdOf ByteArray.empty l (i : Int) :: l.drop (i + 1)) ≤ 4000) ↔ (bad c (l.drop (i + 1)) = false ∧ out.size + 1 + (rdOf ByteArray.empty l (i : Int)).size + tot 1 (l.drop (i + 1)) ≤ 4000) := by
          show ((decide _ || bad c (l.drop (i + 1))) = false ∧ out.size + ((rdOf ByteArray.empty l (i : Int)).size + 1 + tot 1 (l.drop (i + 1))) ≤ 4000) ↔ _
          rw [decide_eq_false cb, Bool.false_or]
          constructor <;> (rintro ⟨h2, h3⟩; exact ⟨h2, by omega⟩)
        by_cases cc : bad c (l.drop (i + 1)) = false ∧ out.size + 1 + (rdOf ByteArray.empty l (i : Int)).size + tot 1 (l.drop (i + 1)) ≤ 4000
        · rw [if_pos cc] at nxt
          rw [if_pos (hb.mpr cc)]
          rw [show (⟨(((out ++ (⟨#[c]⟩ : ByteArray)) ++ rdOf ByteArray.empty l (i : Int)).data.toList ++ Go.Lib.joinTail [c] ((l.drop (i + 1)).map (·.data.toList))).toArray⟩ : ByteArray) = ⟨(out.data.toList ++ Go.Lib.joinTail [c] ((rdOf ByteArray.empty l (i : Int) :: l.drop (i + 1)).map (·.data.toList))).toArray⟩ from ba_ext _ _ (by rw [ba_app, ba_app]; simp [Go.Lib.joinTail])] at nxt
          exact nxt
        · rw [if_neg cc] at nxt
          rw [if_neg (fun h => cc (hb.mp h))]
          exact nxt
theorem impl_loop (J : ByteArray) (hJ : bad c l = false → tot 0 l + (l.length - 1) ≤ 4000 → strings_Join.f l ⟨#[c]⟩ = some J) (hp : 0 < l.length) (q : ByteArray × Bool) (hq : q = if bad c l = false ∧ tot 0 l + (l.length - 1) ≤ 4000 then (J, true) else ((⟨#[]⟩ : ByteArray), false)) : ∀ n i, i + n = l.length → ∀ t : Nat, (bad c l = false ↔ bad c (l.drop i) = false) → tot 0 l + (l.length - 1) = t + tot 0 (l.drop i) → (t ≤ 4000 ∨ i = 0 ∧ t = l.length - 1) →
    Ev (fun k => impl_JoinStrings.l0 k l ⟨#[c]⟩ (t : Int) l (l.length : Int) (i : Int)) q := by
  intro n
  induction n with
  | zero =>
    intro i hi t hb ht h4
    rw [List.drop_eq_nil_of_le (by omega)] at hb ht
    have ht : tot 0 l + (l.length - 1) = t + 0 := ht
    rw [hq, if_pos ⟨hb.mpr rfl, by omega⟩]
    refine Ev.succ ?_
    simp only [impl_JoinStrings.l0.eq_2]
    exact Ev.neg (by omega) (Ev.bindc (hJ (hb.mpr rfl) (by omega)) (Ev.now _))
  | succ n ih =>
    intro i hi t hb ht h4
    have h1 := rd_in l hl hx i (by omega)
    rw [drop_rd l i (by omega)] at hb ht
    have ht : tot 0 l + (l.length - 1) = t + ((rdOf ByteArray.empty l (i : Int)).size + 0 + tot 0 (l.drop (i + 1))) := ht
    have hb : bad c l = false ↔ (decide (c ∈ (rdOf ByteArray.empty l (i : Int)).data.toList) || bad c (l.drop (i + 1))) = false := hb
    refine Ev.succ ?_
    simp only [impl_JoinStrings.l0.eq_2]
    rw [w64 (n := (i : Int) + 1) (by omega) (by omega), w64 (n := (t : Int) + ((rdOf ByteArray.empty l (i : Int)).size : Int)) (by omega) (by omega)]
    refine Ev.pos (by omega) (Ev.pos (by omega) (Ev.pos (by omega) ?_))
    by_cases c4 : t + (rdOf ByteArray.empty l (i : Int)).size > 4000
    · rw [hq, if_neg (by rintro ⟨_, h⟩; omega)]
      exact Ev.pos (by omega) (Ev.now _)
    · refine Ev.neg (by omega) (Ev.bindc (contains_eq _ c) ?_)
      by_cases cb : c ∈ (rdOf ByteArray.empty l (i : Int)).data.toList
      · rw [hq, decide_eq_true cb, if_neg (by rintro ⟨h, _⟩; have := hb.mp h; rw [decide_eq_true cb] at this; simp at this)]
        exact Ev.pos rfl (Ev.now _)
      · rw [decide_eq_false cb, Bool.false_or] at hb
        rw [decide_eq_false cb]
        have nxt := ih (i + 1) (by omega) (t + (rdOf ByteArray.empty l (i : Int)).size) hb (by omega) (.inl (by omega))
        rw [show ((t + (rdOf ByteArray.empty l (i : Int)).size : Nat) : Int) = (t : Int) + ((rdOf ByteArray.empty l (i : Int)).size : Int) by omega] at nxt
        exact Ev.neg (by decide) nxt
end
theorem ba_one (mk : ByteArray) (h : mk.size = 1) : ∃ c, mk = ⟨#[c]⟩ := by
  obtain ⟨⟨l⟩⟩ := mk
  cases l with
  | nil => exact absurd h (by decide)
  | cons c l =>
    cases l with
    | nil => exact ⟨c, rfl⟩
    | cons _ _ => exact absurd h (by show ¬ (_ + 1 + 1 = 1); omega)
theorem tot_join (c : UInt8) (x : ByteArray) (r : List ByteArray) : (Go.Lib.join ((x :: r).map (·.data.toList)) [c]).length = x.size + tot 1 r := by
  rw [List.map_cons, Go.Lib.join_cons, List.length_append, ← sz_list]
  congr 1
  induction r with
  | nil => rfl
  | cons y r ih =>
    show (Go.Lib.joinTail [c] (y.data.toList :: r.map (·.data.toList))).length = y.size + 1 + tot 1 r
    rw [← ih]
    simp only [Go.Lib.joinTail, List.map_cons, List.flatten_cons, List.length_append, sz_list, List.length_singleton]
    omega
theorem join_same (l : List ByteArray) (mk : ByteArray) (hl : l.length ≤ 10) (hx : ∀ x ∈ l, x.size ≤ 5000) : ∃ q : ByteArray × Bool, Ev (fun k => spec_JoinStrings.f k l mk) q ∧ Ev (fun k => impl_JoinStrings.f k l mk) q := by
  have sno : Ev (fun k => spec_JoinStrings.j0 k l mk true) ((⟨#[]⟩ : ByteArray), false) := by
    refine Ev.succ ?_
    simp only [spec_JoinStrings.j0.eq_2]
    exact Ev.pos trivial (Ev.now _)
  have ino : Ev (fun k => impl_JoinStrings.j0 k l mk true) ((⟨#[]⟩ : ByteArray), false) := by
    refine Ev.succ ?_
    simp only [impl_JoinStrings.j0.eq_2]
    exact Ev.pos trivial (Ev.now _)
  unfold spec_JoinStrings.f impl_JoinStrings.f
  by_cases h1 : mk.size = 1
  rotate_left
  · refine ⟨_, Ev.neg (by omega) sno, ?_⟩
    by_cases h0 : (l.length : Int) = 0
    · exact Ev.pos h0 ino
    · rw [show ((mk.size : Int) != 1) = true by rw [bne_iff_ne]; omega]
      exact Ev.neg h0 ino
  cases l with
  | nil => exact ⟨_, Ev.pos (by omega) sno, Ev.pos rfl ino⟩
  | cons x r =>
    obtain ⟨c, rfl⟩ := ba_one mk h1
    have h0 : ¬ ((x :: r).length : Int) = 0 := by rw [List.length_cons]; omega
    have hlen : (x :: r).length = r.length + 1 := rfl
    have hxs := hx x List.mem_cons_self
    have hte := tot_e r
    have htt : tot 0 (x :: r) = x.size + 0 + tot 0 r := rfl
    have hbb : bad c (x :: r) = (decide (c ∈ x.data.toList) || bad c r) := rfl
    have hJf : tot 0 (x :: r) + ((x :: r).length - 1) ≤ 4000 → strings_Join.f (x :: r) ⟨#[c]⟩ = some ⟨(Go.Lib.join ((x :: r).map (·.data.toList)) [c]).toArray⟩ := fun h2 => by
      unfold strings_Join.f
      rw [if_pos ⟨by omega, by have := tot_join c x r; show (Go.Lib.join ((x :: r).map (·.data.toList)) [c]).length ≤ 100000; omega⟩]
    refine ⟨if bad c (x :: r) = false ∧ tot 0 (x :: r) + ((x :: r).length - 1) ≤ 4000 then (⟨(Go.Lib.join ((x :: r).map (·.data.toList)) [c]).toArray⟩, true) else ((⟨#[]⟩ : ByteArray), false), Ev.pos (show (((⟨#[c]⟩ : ByteArray).size : Nat) : Int) = 1 from rfl) ?_, Ev.neg h0 ?_⟩
    · rw [show (((x :: r).length : Int) == 0) = false from beq_eq_false_iff_ne.mpr h0]
      refine Ev.succ ?_
      simp only [spec_JoinStrings.j0.eq_2]
      refine Ev.neg (by decide) (Ev.succ ?_)
      simp only [spec_JoinStrings.l0.eq_2]
      have hst := stands_ev x c (by omega)
      have hr0 : rdOf ByteArray.empty (x :: r) 0 = x := rfl
      have hb0 : bt (⟨#[c]⟩ : ByteArray) 0 = (c.toNat : Int) := rfl
      have he : (⟨#[]⟩ : ByteArray) ++ x = x := ba_ext _ _ (by rw [ba_app]; rfl)
      have hz : (⟨#[]⟩ : ByteArray).size = 0 := rfl
      rw [hr0, hb0, he, hz]
      refine Ev.pos (by omega) (Ev.pos (by decide) (Ev.pos (show (0 : Int) < (((⟨#[c]⟩ : ByteArray).size : Nat) : Int) from Int.one_pos) (Ev.bind hst ?_)))
      by_cases cb : c ∈ x.data.toList
      · rw [decide_eq_true cb, hbb, decide_eq_true cb, if_neg (by simp)]
        exact Ev.pos rfl (Ev.now _)
      · rw [decide_eq_false cb, hbb, decide_eq_false cb, Bool.false_or]
        refine Ev.neg (by decide) (Ev.neg (by decide) (Ev.pos (by omega) ?_))
        by_cases c4 : x.size > 4000
        · rw [if_neg (by rintro ⟨_, h⟩; omega)]
          exact Ev.pos (by omega) (Ev.now _)
        · have nxt := spec_loop (x :: r) c (by omega) hx r.length 1 (by omega) (by decide) x (by omega)
          refine Ev.neg (by omega) ?_
          rw [show wrap64 (0 + 1) = ((1 : Nat) : Int) by rw [w64 (by omega) (by omega)]; rfl]
          have hd : (x :: r).drop 1 = r := rfl
          rw [hd] at nxt
          by_cases cc : bad c r = false ∧ x.size + tot 1 r ≤ 4000
          · rw [if_pos cc] at nxt
            rw [if_pos ⟨cc.1, by omega⟩, List.map_cons, Go.Lib.join_cons]
            exact nxt
          · rw [if_neg cc] at nxt
            rw [if_neg (fun h => cc ⟨h.1, by omega⟩)]
            exact nxt
    · rw [show (((⟨#[c]⟩ : ByteArray).size : Int) != 1) = false from rfl]
      refine Ev.succ ?_
      simp only [impl_JoinStrings.j0.eq_2]
      rw [show wrap64 (((x :: r).length : Int) - 1) = (((x :: r).length - 1 : Nat) : Int) by rw [w64 (by omega) (by omega)]; omega]
      exact Ev.neg (by decide) (impl_loop (x :: r) c (by omega) hx _ (fun _ h => hJf h) (by omega) _ rfl (x :: r).length 0 (by omega) ((x :: r).length - 1) Iff.rfl (by show _ = _ + tot 0 (x :: r); omega) (.inr ⟨rfl, rfl⟩))
theorem less_asym : ∀ a b : List UInt8, Go.Op.bytesLess a b = true → Go.Op.bytesLess b a = false
  | _, [], h => by simp [Go.Op.bytesLess] at h
  | [], _ :: _, _ => by simp [Go.Op.bytesLess]
  | x :: a, y :: b, h => by
    have ih := less_asym a b
    simp only [Go.Op.bytesLess, Bool.or_eq_true, decide_eq_true_eq, Bool.and_eq_true, beq_iff_eq, Bool.or_eq_false_iff, decide_eq_false_iff_not, Bool.and_eq_false_iff, beq_eq_false_iff_ne] at h ⊢
    rcases h with h | ⟨h1, h2⟩
    · have h3 : x.toNat < y.toNat := h
      exact ⟨fun h4 => by have h5 : y.toNat < x.toNat := h4; omega, .inl (fun h4 => by rw [h4] at h3; omega)⟩
    · subst h1
      exact ⟨fun h4 => by have h5 : x.toNat < x.toNat := h4; omega, .inr (ih h2)⟩
def SEP : List ByteArray := [(⟨#[44]⟩ : ByteArray), (⟨#[44]⟩ : ByteArray), (⟨#[32]⟩ : ByteArray), (⟨#[]⟩ : ByteArray), (⟨#[44, 44]⟩ : ByteArray)]
theorem back_ok : ∀ s ∈ A9, ∀ sep ∈ SEP, sep.size = 1 → impl_JoinStrings.f 30 (Go.Lib.splitB sep 0 (Go.Lib.countB s sep) s) sep = some (s, true) := by decide +kernel
theorem split_eq (s sep : ByteArray) (hs : s.size ≤ 4000) : impl_SplitString.f s sep = some (if sep.size = 1 then (Go.Lib.splitB sep 0 (Go.Lib.countB s sep) s, true) else ([], false)) := by
  unfold impl_SplitString.f strings_Split.f
  rw [if_neg (by omega)]
  by_cases c : sep.size = 1
  · rw [if_pos (by omega), if_pos ⟨c, by omega⟩, if_pos c]; rfl
  · rw [if_neg (by omega), if_neg c]
theorem FnSplitJoin : laws_FnSplitJoin.Pure := by
  intro l0 _ hl hb
  refine Ev.rounds (g := fun k => laws_FnSplitJoin.f k l0) ?_
  have hs : Bytes8 l0 := fun x hx => by
    have := hb x hx
    simp [Lit.wf, IntKind.min, IntKind.max, IntKind.bits, IntKind.signed] at this; omega
  unfold laws_FnSplitJoin.f laws_vBig.f
  refine Ev.bindc rfl ?_
  by_cases big : (l0.length : Int) > 65536
  · exact Ev.pos (decide_eq_true big) (Ev.now _)
  refine Ev.neg (by simpa using big) ?_
  obtain ⟨s, p1, q1, e1, hs9, b1, c1⟩ := any1_ok l0 hs (by omega) 0 0 (by omega) (by omega)
  obtain ⟨sep, p2, q2, e2, hsep, b2, c2⟩ := of_ok l0 hs (by omega) p1 q1 SEP (by omega) (by omega) (by decide) (by decide)
  have ed : spec_DrawSplitString.f l0 = some (s, sep) := by
    unfold spec_DrawSplitString.f
    rw [e1]
    show (spec_l1Cur_of.f l0 p1 q1 SEP).bind _ = _
    rw [e2]; rfl
  obtain ⟨l, mk, ej, hj1, hj2, hj3⟩ := drawjoin_ok l0 hs (by omega)
  obtain ⟨q, g1, g2⟩ := join_same l mk hj1 hj2
  obtain ⟨a, p3, q3, e3, ha, b3, c3⟩ := any1_ok l0 hs (by omega) 0 0 (by omega) (by omega)
  obtain ⟨b, p4, q4, e4, hb4, b4, c4⟩ := any1_ok l0 hs (by omega) p3 q3 (by omega) (by omega)
  have el : spec_DrawLessString.f l0 = some (a, b) := by
    unfold spec_DrawLessString.f
    rw [e3]
    show (spec_l1Cur_any1.f l0 p3 q3).bind _ = _
    rw [e4]; rfl
  have hfin : Ev (fun k => laws_FnSplitJoin.j0 k s sep (if sep.size = 1 then (Go.Lib.splitB sep 0 (Go.Lib.countB s sep) s, true) else ([], false)).1 (if sep.size = 1 then (Go.Lib.splitB sep 0 (Go.Lib.countB s sep) s, true) else ([], false)).2 false) true := by
    refine Ev.succ ?_
    simp only [laws_FnSplitJoin.j0.eq_2]
    by_cases c : sep.size = 1
    · rw [if_pos c]
      have hj : Ev (fun k => impl_JoinStrings.f k (Go.Lib.splitB sep 0 (Go.Lib.countB s sep) s) sep) (s, true) := Ev.of (fun k => impl_JoinStrings.mono _ _ k) (back_ok s hs9 sep hsep c)
      refine Ev.neg (by decide) (Ev.pos (by omega) (Ev.bind hj (Ev.pos rfl (Ev.pos rfl ?_))))
      rw [beq_self_eq_true]
      exact Ev.now _
    · rw [if_neg c]
      exact Ev.neg (by decide) (Ev.neg (by omega) (Ev.neg (by decide) (Ev.now _)))
  have h9 := A9_size s hs9
  refine Ev.bindc ed (Ev.bindc (split_eq s sep (by omega)) (Ev.bind ej (Ev.bind g2 (Ev.bind g1 (Ev.bindc el (Ev.pos rfl (Ev.neg (by simp) ?_)))))))
  unfold impl_LessString.f spec_LessString.f
  refine Ev.bindc rfl (Ev.bindc rfl (Ev.neg (by simp) (Ev.bindc rfl ?_)))
  by_cases c : Go.Op.bytesLess a.toList b.toList = true
  · exact Ev.pos c (Ev.bindc rfl (by rw [less_asym _ _ c]; exact hfin))
  · exact Ev.neg c hfin

end Go.Proofs.YtcgndhkhncmnnaaDoor.Pure
