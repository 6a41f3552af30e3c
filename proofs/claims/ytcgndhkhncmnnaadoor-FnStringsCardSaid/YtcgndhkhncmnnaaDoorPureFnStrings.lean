import Derived.Test.YtcgndhkhncmnnaaDoorPFnStringsx4
namespace Go.Proofs.YtcgndhkhncmnnaaDoor.Pure
open Go.RowKit Go.Proofs.YtcgndhkhncmnnaaDoor.PFnStrings Go.Proofs.YtcgndhkhncmnnaaDoorW.PrintWords Go.Proofs.YtcgndhkhncmnnaaDoorW.PrintLast Go.Proofs.YtcgndhkhncmnnaaDoorW.PrintMore
set_option linter.unusedVariables false

theorem Ev.pos {α : Type} {c : Prop} [Decidable c] {f g : Nat → Option α} {r : α} (h : c) (k : Ev f r) : Ev (fun m => if c then f m else g m) r :=
  Ev.congr (fun _ => if_pos h) k
theorem Ev.neg {α : Type} {c : Prop} [Decidable c] {f g : Nat → Option α} {r : α} (h : ¬ c) (k : Ev g r) : Ev (fun m => if c then f m else g m) r :=
  Ev.congr (fun _ => if_neg h) k
theorem Ev.bindc {α β : Type} {x : Option α} {f : Nat → α → Option β} {a : α} {r : β} (h : x = some a) (k : Ev (fun n => f n a) r) : Ev (fun n => x.bind (f n)) r := by
  subst h; exact k
theorem Ev.succ {α : Type} {g : Nat → Option α} {r : α} (k : Ev (fun n => g (n + 1)) r) : Ev g r := Ev.step (fun _ => rfl) k
theorem Ev.unique {α : Type} {g : Nat → Option α} {r q : α} (h : Ev g r) (k : Ev g q) : r = q := by
  obtain ⟨K, hK⟩ := h; obtain ⟨L, hL⟩ := k
  have := (hK (max K L) (Nat.le_max_left _ _)).symm.trans (hL (max K L) (Nat.le_max_right _ _))
  exact Option.some.inj this
theorem w64 {n : Int} (h0 : -9223372036854775808 ≤ n) (h1 : n < 9223372036854775808) : wrap64 n = n := by unfold wrap64; omega
theorem rd_nat (l : List Int) (i : Nat) (h : i < l.length) : rd l (i : Int) = l[i] := by
  unfold rd; rw [Int.toNat_natCast, List.getD_eq_getElem?_getD, List.getElem?_eq_getElem h]; rfl
theorem lit_i64 {x : Int} (h : (Lit.int .i64 x).wf = true) : -9223372036854775808 ≤ x ∧ x < 9223372036854775808 := by
  simp [Lit.wf, IntKind.min, IntKind.max, IntKind.bits, IntKind.signed] at h; omega
def pc : Nat → Nat → Nat
  | 0, _ => 0
  | k + 1, n => n % 2 + pc k (n / 2)
theorem pc_add (a b n : Nat) : pc (a + b) n = pc a n + pc b (n / 2 ^ a) := by
  induction a generalizing n with
  | zero => simp [pc]
  | succ a ih =>
    rw [show a + 1 + b = (a + b) + 1 by omega]
    simp only [pc]
    rw [ih, Nat.div_div_eq_div_mul, Nat.pow_succ, Nat.mul_comm 2 (2 ^ a)]
    omega
theorem pc_mod (k n : Nat) : pc k (n % 2 ^ k) = pc k n := by
  induction k generalizing n with
  | zero => rfl
  | succ k ih =>
    simp only [pc]
    rw [show n % 2 ^ (k + 1) % 2 = n % 2 by rw [Nat.pow_succ]; exact Nat.mod_mul_left_mod n (2 ^ k) 2]
    rw [show n % 2 ^ (k + 1) / 2 = (n / 2) % 2 ^ k by rw [Nat.pow_succ, Nat.mul_comm]; exact Nat.mod_mul_right_div_self n 2 (2 ^ k)]
    rw [ih]
theorem pc_le (k n : Nat) : pc k n ≤ k := by
  induction k generalizing n with
  | zero => exact Nat.le_refl _
  | succ k ih => have := ih (n / 2); simp only [pc]; omega
theorem u32_nat (a b : Nat) (ha : a < 4294967296) (hb : b < 4294967296) : Go.bits .and .u32 (a : Int) (b : Int) = ((a &&& b : Nat) : Int) ∧ Go.bits .or .u32 (a : Int) (b : Int) = ((a ||| b : Nat) : Int) :=
  bits_nat .u32 32 (by decide) (fun n h0 h1 => by rw [IntKind.wrap_u32]; omega) a b (by omega) (by omega)
theorem pc_count (k n : Nat) : pc k n = (List.range k).countP (fun i => n.testBit i) := by
  induction k generalizing n with
  | zero => rfl
  | succ k ih =>
    rw [List.range_succ_eq_map, List.countP_cons, List.countP_map]
    simp only [pc]
    rw [ih, Nat.add_comm]
    congr 1
    · apply List.countP_congr
      intro i _
      simp [Nat.testBit_succ]
    · rw [Nat.testBit_zero]
      by_cases h : n % 2 = 1
      · simp [h]
      · have : n % 2 = 0 := by omega
        simp [this]
/-- a list of bytes -/
def Bytes8 (l : List Int) : Prop := ∀ x ∈ l, 0 ≤ x ∧ x ≤ 255
theorem and255 (x : Int) (h0 : 0 ≤ x) (h1 : x < 4294967296) : 0 ≤ Go.bits .and .u64 x 255 ∧ Go.bits .and .u64 x 255 ≤ 255 := by
  have h := (bits_nat .u64 64 (by decide) (fun n h0 h1 => by rw [IntKind.wrap_u64]; omega) x.toNat 255 (by omega) (by omega)).1
  rw [Int.toNat_of_nonneg h0] at h
  rw [show (255 : Int) = ((255 : Nat) : Int) from rfl, h]
  have := Nat.and_le_right (n := x.toNat) (m := 255)
  omega
theorem u64_range (x : Int) : 0 ≤ IntKind.u64.wrap x ∧ IntKind.u64.wrap x < 18446744073709551616 := by
  rw [IntKind.wrap_u64]; omega
theorem next_ok (s : List Int) (hs : Bytes8 s) (hl : s.length ≤ 1000000) (p st : Int) (h0 : 0 ≤ p) (h1 : p ≤ 1000000) :
    ∃ v q, spec_l1Cur_next.f s p st = some (v, p + 1, q) ∧ 0 ≤ v ∧ v ≤ 255 := by
  unfold spec_l1Cur_next.f
  have hw : wrap64 (p + 1) = p + 1 := w64 (by omega) (by omega)
  rw [hw]
  have hand : ∀ y : Int, 0 ≤ wrap64 (Go.bits .and .u64 (IntKind.u64.wrap y / 1099511627776) 255) ∧ wrap64 (Go.bits .and .u64 (IntKind.u64.wrap y / 1099511627776) 255) ≤ 255 := fun y => by
    have h := u64_range y
    have := and255 (IntKind.u64.wrap y / 1099511627776) (by omega) (by omega)
    rw [w64 (by omega) (by omega)]; exact this
  by_cases c : p < (s.length : Int)
  · rw [if_pos c, if_pos h0]
    have hm : rd s p ∈ s := by
      obtain ⟨n, rfl⟩ : ∃ n : Nat, p = (n : Int) := ⟨p.toNat, by omega⟩
      rw [rd_nat s n (by omega)]; exact List.getElem_mem _
    have hv := hs _ hm
    by_cases d : p + 1 ≤ (s.length : Int)
    · rw [if_pos d]; exact ⟨_, _, rfl, by rw [w64 (by omega) (by omega)]; exact hv⟩
    · rw [if_neg d]; exact ⟨_, _, rfl, hand _⟩
  · rw [if_neg c]
    by_cases d : p + 1 ≤ (s.length : Int)
    · rw [if_pos d]; exact ⟨_, _, rfl, by omega, by omega⟩
    · rw [if_neg d]; exact ⟨_, _, rfl, hand _⟩
theorem pick_ok (s : List Int) (hs : Bytes8 s) (hl : s.length ≤ 1000000) (p st a : Int) (h0 : 0 ≤ p) (h1 : p ≤ 1000000) (ha : a ≤ 200) :
    ∃ v p' q, spec_l1Cur_pick.f s p st a = some (v, p', q) ∧ 0 ≤ v ∧ (v < a ∨ v = 0) ∧ p ≤ p' ∧ p' ≤ p + 1 := by
  unfold spec_l1Cur_pick.f
  by_cases c : a ≤ 1
  · rw [if_pos c]; exact ⟨_, _, _, rfl, by omega, .inr rfl, by omega, by omega⟩
  · rw [if_neg c]
    obtain ⟨v, q, e, hv0, hv1⟩ := next_ok s hs hl p st h0 h1
    rw [e]
    simp only [Option.bind_some]
    rw [if_neg (by omega), if_neg (by omega)]
    refine ⟨_, _, _, rfl, Int.tmod_nonneg _ hv0, .inl ?_, by omega, by omega⟩
    exact Int.tmod_lt_of_pos _ (by omega)
theorem sz_list (x : ByteArray) : x.size = x.data.toList.length := by rw [Array.length_toList]; rfl
theorem bt_list (x : ByteArray) (i : Nat) (h : i < x.data.toList.length) : bt x (i : Int) = ((x.data.toList[i]).toNat : Int) := by
  have h2 : (i : Int).toNat < x.size := by rw [Int.toNat_natCast, sz_list]; exact h
  rw [← bt_at x (i : Int) h2]
  rfl
theorem of_ok (s : List Int) (hs : Bytes8 s) (hl : s.length ≤ 1000000) (p st : Int) (l : List ByteArray) (h0 : 0 ≤ p) (h1 : p ≤ 1000000) (hn : 0 < l.length) (hm : l.length ≤ 200) :
    ∃ v p' q, spec_l1Cur_of.f s p st l = some (v, p', q) ∧ v ∈ l ∧ p ≤ p' ∧ p' ≤ p + 1 := by
  unfold spec_l1Cur_of.f
  obtain ⟨v, p', q, e, hv0, hv1, hp0, hp1⟩ := pick_ok s hs hl p st (l.length : Int) h0 h1 (by omega)
  rw [e]
  simp only [Option.bind_some]
  have hv : v < (l.length : Int) := by omega
  rw [if_pos hv0, if_pos hv]
  refine ⟨_, _, _, rfl, ?_, hp0, hp1⟩
  obtain ⟨n, rfl⟩ : ∃ n : Nat, v = (n : Int) := ⟨v.toNat, by omega⟩
  unfold rdOf
  rw [Int.toNat_natCast, List.getD_eq_getElem?_getD, List.getElem?_eq_getElem (by omega)]
  exact List.getElem_mem _
def A9 : List ByteArray := [(⟨#[]⟩ : ByteArray), (⟨#[97]⟩ : ByteArray), (⟨#[97, 44, 98]⟩ : ByteArray), (⟨#[115, 111, 109, 101, 32, 119, 111, 114, 100, 115]⟩ : ByteArray), (⟨#[120, 35, 121]⟩ : ByteArray), (⟨#[45, 49, 50]⟩ : ByteArray), (⟨#[0, 255]⟩ : ByteArray), (⟨#[44, 44]⟩ : ByteArray), (⟨#[48]⟩ : ByteArray)]
theorem any1_ok (s : List Int) (hs : Bytes8 s) (hl : s.length ≤ 1000000) (p st : Int) (h0 : 0 ≤ p) (h1 : p ≤ 1000000) : ∃ v p' q, spec_l1Cur_any1.f s p st = some (v, p', q) ∧ v ∈ A9 ∧ p ≤ p' ∧ p' ≤ p + 1 := by
  obtain ⟨v, p', q, e, hv, hp⟩ := of_ok s hs hl p st A9 h0 h1 (by decide) (by decide)
  refine ⟨v, p', q, ?_, hv, hp⟩
  unfold spec_l1Cur_any1.f
  have e2 : spec_l1Cur_of.f s p st [(⟨#[]⟩ : ByteArray), (⟨#[97]⟩ : ByteArray), (⟨#[97, 44, 98]⟩ : ByteArray), (⟨#[115, 111, 109, 101, 32, 119, 111, 114, 100, 115]⟩ : ByteArray), (⟨#[120, 35, 121]⟩ : ByteArray), (⟨#[45, 49, 50]⟩ : ByteArray), (⟨#[0, 255]⟩ : ByteArray), (⟨#[44, 44]⟩ : ByteArray), (⟨#[48]⟩ : ByteArray)] = some (v, p', q) := e
  rw [e2]; rfl
theorem A9_size : ∀ x ∈ A9, x.size ≤ 10 := by decide
theorem nums_size (n : Nat) : (strOfNums (List.replicate n 0)).size = n := by
  unfold strOfNums
  rw [sz_list]
  simp
theorem stands_ev (x : ByteArray) (c : UInt8) (hx : x.size ≤ 1000000) : Ev (fun k => spec_l1Stands.f k x (c.toNat : Int)) (decide (c ∈ x.data.toList)) := by
  have lp : ∀ n i, i + n = x.data.toList.length → Ev (fun k => spec_l1Stands.l0 k x (c.toNat : Int) (i : Int)) (decide (c ∈ x.data.toList.drop i)) := by
    intro n
    induction n with
    | zero =>
      intro i hi
      refine Ev.succ ?_
      simp only [spec_l1Stands.l0.eq_2]
      rw [List.drop_eq_nil_of_le (by omega), decide_eq_false (by simp)]
      exact Ev.neg (by rw [sz_list]; omega) (Ev.now _)
    | succ n ih =>
      intro i hi
      have hl : i < x.data.toList.length := by omega
      rw [sz_list] at hx
      refine Ev.succ ?_
      simp only [spec_l1Stands.l0.eq_2]
      rw [bt_list x i hl, List.drop_eq_getElem_cons hl, w64 (n := (i : Int) + 1) (by omega) (by omega)]
      refine Ev.pos (by rw [sz_list]; omega) (Ev.pos (by omega) ?_)
      by_cases e : c = x.data.toList[i]
      · rw [decide_eq_true (by rw [← e]; exact List.mem_cons_self), ← e]
        exact Ev.pos rfl (Ev.now _)
      · refine Ev.neg (fun h => e (UInt8.toNat_inj.mp (by omega)).symm) ?_
        rw [show decide (c ∈ x.data.toList[i] :: x.data.toList.drop (i + 1)) = decide (c ∈ x.data.toList.drop (i + 1)) by rw [Bool.eq_iff_iff, decide_eq_true_eq, decide_eq_true_eq, List.mem_cons]; exact ⟨fun h => h.resolve_left e, .inr⟩]
        exact ih (i + 1) (by omega)
  exact lp x.data.toList.length 0 (by omega)
theorem contains_eq (x : ByteArray) (c : UInt8) : strings_Contains.f x ⟨#[c]⟩ = some (decide (c ∈ x.data.toList)) := by
  unfold strings_Contains.f
  rw [if_pos (show (⟨#[c]⟩ : ByteArray).size = 1 from rfl)]
  congr 1
  rw [Bool.eq_iff_iff, decide_eq_true_eq, decide_eq_true_eq]
  show 0 ≤ Go.Lib.indexByte x.data.toList c ↔ _
  constructor
  · intro h
    obtain ⟨o, ho⟩ := Int.eq_ofNat_of_zero_le h
    exact List.mem_of_getElem? (Go.Lib.indexByte_some ho).1
  · intro h
    have h1 := Go.Lib.indexByte_ge x.data.toList c
    rcases Int.lt_or_le (Go.Lib.indexByte x.data.toList c) 0 with h2 | h2
    · obtain ⟨i, hi, e⟩ := List.getElem_of_mem h
      exact absurd (by rw [List.getElem?_eq_getElem hi, e]) (Go.Lib.indexByte_none (show Go.Lib.indexByte x.data.toList c = -1 by omega) i)
    · exact h2
theorem ba_ext (a b : ByteArray) (h : a.data.toList = b.data.toList) : a = b := by
  obtain ⟨⟨x⟩⟩ := a
  obtain ⟨⟨y⟩⟩ := b
  simp at h
  rw [h]
theorem ba_app (a b : ByteArray) : (a ++ b).data.toList = a.data.toList ++ b.data.toList := by
  rw [ByteArray.data_append, Array.toList_append]
theorem dd_small {u : Nat} (h : u < 10) : Lib.decDigits u = [UInt8.ofNat (48 + u)] := by rw [Lib.decDigits, dif_pos h]
theorem dd_big {u : Nat} (h : ¬ u < 10) : Lib.decDigits u = Lib.decDigits (u / 10) ++ [UInt8.ofNat (48 + u % 10)] := by rw [Lib.decDigits, dif_neg h]
theorem dd_len : ∀ m n : Nat, n < 10 ^ (m + 1) → (Lib.decDigits n).length ≤ m + 1
  | 0, n, h => by rw [dd_small (by simpa using h)]; simp
  | m + 1, n, h => by
    by_cases c : n < 10
    · rw [dd_small c]; simp
    · rw [dd_big c, List.length_append]
      have := dd_len m (n / 10) (by rw [Nat.div_lt_iff_lt_mul (by decide)]; rw [Nat.pow_succ] at h; exact h)
      simp; omega
theorem dd_ne (n : Nat) : Lib.decDigits n ≠ [] := by
  by_cases c : n < 10
  · rw [dd_small c]; simp
  · rw [dd_big c]; simp
theorem dig_range {d : Nat} (h : d < 10) : (UInt8.ofNat (48 + d)).toNat = 48 + d := by
  rw [UInt8.toNat_ofNat']; omega
theorem dd_digit (n : Nat) : ∀ b ∈ Lib.decDigits n, 48 ≤ b.toNat ∧ b.toNat ≤ 57 := by
  induction n using Nat.strongRecOn with
  | ind n ih =>
    intro b hb
    by_cases c : n < 10
    · rw [dd_small c] at hb
      simp only [List.mem_singleton] at hb
      subst hb; rw [dig_range c]; omega
    · rw [dd_big c, List.mem_append] at hb
      rcases hb with hb | hb
      · exact ih (n / 10) (by omega) b hb
      · simp only [List.mem_singleton] at hb
        subst hb; rw [dig_range (by omega)]; omega
theorem dd_from (n : Nat) : ∀ acc r, Lib.decFrom acc (Lib.decDigits n ++ r) = Lib.decFrom (acc * 10 ^ (Lib.decDigits n).length + n) r := by
  have hv : ∀ d, d < 10 → Lib.digitVal (UInt8.ofNat (48 + d)) = some d := fun d h => by
    unfold Lib.digitVal
    rw [dig_range h, if_pos (by omega)]; congr 1; omega
  induction n using Nat.strongRecOn with
  | ind n ih =>
    intro acc r
    by_cases c : n < 10
    · rw [dd_small c]
      simp only [List.cons_append, List.nil_append, Lib.decFrom, hv n c, List.length_cons, List.length_nil]
    · rw [dd_big c, List.append_assoc, ih (n / 10) (by omega)]
      simp only [List.cons_append, List.nil_append, Lib.decFrom, hv (n % 10) (by omega), List.length_append, List.length_cons, List.length_nil]
      rw [Nat.zero_add, Nat.pow_succ, show (acc * 10 ^ (Lib.decDigits (n / 10)).length + n / 10) * 10 + n % 10 = acc * (10 ^ (Lib.decDigits (n / 10)).length * 10) + n by rw [Nat.add_mul, Nat.mul_assoc]; omega]
theorem dd_nat (n : Nat) : Lib.decNat (Lib.decDigits n) = some n := by
  unfold Lib.decNat
  have h := dd_from n 0 []
  rw [List.append_nil] at h
  rw [if_neg (by simpa using dd_ne n), h]
  simp [Lib.decFrom]
theorem atoi_itoa (n : Int) : Lib.atoi (Lib.itoa n) = some n := by
  unfold Lib.itoa
  by_cases c : n < 0
  · rw [if_pos c]
    simp only [Lib.atoi]
    rw [if_pos (by rfl), dd_nat]
    simp; omega
  · rw [if_neg c]
    have h := dd_nat n.toNat
    cases e : Lib.decDigits n.toNat with
    | nil => exact absurd e (dd_ne _)
    | cons b r =>
      have hb := dd_digit n.toNat b (by rw [e]; exact List.mem_cons_self)
      simp only [Lib.atoi]
      rw [if_neg (by intro h; rw [beq_iff_eq] at h; subst h; revert hb; decide), if_neg (by intro h; rw [beq_iff_eq] at h; subst h; revert hb; decide), ← e, h]
      simp; omega
theorem itoa_len (n : Int) (h0 : -999999 ≤ n) (h1 : n ≤ 999999) : (Lib.itoa n).length ≤ 7 := by
  unfold Lib.itoa
  split
  · have := dd_len 5 n.natAbs (by omega); simp; omega
  · have := dd_len 5 n.toNat (by omega); omega
theorem ba_size (l : List UInt8) : (⟨l.toArray⟩ : ByteArray).size = l.length := by rw [sz_list]
theorem ba_toList (a : ByteArray) : a.toList = a.data.toList := Go.Lib.toList_data a
theorem parse_itoa (n : Int) (h0 : -999999 ≤ n) (h1 : n ≤ 999999) : impl_ParseInt.f ⟨(Lib.itoa n).toArray⟩ = some (n, true) := by
  unfold impl_ParseInt.f
  have := itoa_len n h0 h1
  rw [if_neg (by rw [ba_size]; omega)]
  show (match Lib.atoi (Lib.itoa n) with | none => _ | some m => _) = _
  rw [atoi_itoa]
  show (if _ then _ else _) = _
  rw [if_pos ⟨⟨h0, h1⟩, by rw [ba_toList]⟩]
theorem dig_cut : ∀ d : Fin 10, (⟨#[48, 49, 50, 51, 52, 53, 54, 55, 56, 57]⟩ : ByteArray).extract d.val (d.val + 1) = ⟨#[UInt8.ofNat (48 + d.val)]⟩ := by decide +kernel
theorem dig_cut' (d : Int) (h0 : 0 ≤ d) (h1 : d < 10) : (⟨#[48, 49, 50, 51, 52, 53, 54, 55, 56, 57]⟩ : ByteArray).extract d.toNat (d + 1).toNat = ⟨#[UInt8.ofNat (48 + d.toNat)]⟩ := by
  have h := dig_cut ⟨d.toNat, by omega⟩
  rw [show (d + 1).toNat = d.toNat + 1 by omega]; exact h
theorem num_ev : ∀ n : Nat, n ≤ 1000000 → Ev (fun k => spec_l1Num.f k (n : Int)) ⟨(Lib.decDigits n).toArray⟩ := by
  intro n
  induction n using Nat.strongRecOn with
  | ind n ih =>
    intro hn
    refine Ev.succ ?_
    simp only [spec_l1Num.f.eq_2]
    refine Ev.neg (by omega) ?_
    by_cases c : n < 10
    · rw [w64 (n := (n : Int) + 1) (by omega) (by omega), dig_cut' _ (by omega) (by omega), dd_small c]
      exact Ev.pos (by omega) (Ev.pos (by omega) (Ev.pos (by omega) (Ev.pos (by omega) (Ev.now _))))
    · have e1 : wrap64 (Int.tdiv (n : Int) 10) = ((n / 10 : Nat) : Int) := by
        rw [Int.tdiv_eq_ediv_of_nonneg (by omega), w64 (by omega) (by omega)]; omega
      have e2 : Int.tmod (n : Int) 10 = ((n % 10 : Nat) : Int) := by
        rw [Int.tmod_eq_emod_of_nonneg (by omega)]; omega
      rw [e1, e2, w64 (n := ((n % 10 : Nat) : Int) + 1) (by omega) (by omega), dig_cut' _ (by omega) (by omega)]
      have hl := dd_len 6 (n / 10) (by omega)
      refine Ev.neg (by omega) (Ev.bind (ih (n / 10) (by omega) (by omega)) (Ev.pos (by omega) (Ev.pos (by omega) (Ev.pos (by omega) (Ev.pos (by rw [ba_size, ba_size]; simp; omega) ?_)))))
      rw [show (⟨(Lib.decDigits (n / 10)).toArray⟩ : ByteArray) ++ ⟨#[UInt8.ofNat (48 + ((n % 10 : Nat) : Int).toNat)]⟩ = ⟨(Lib.decDigits n).toArray⟩ from ba_ext _ _ (by rw [ba_app, dd_big c, Int.toNat_natCast])]
      exact Ev.now _
theorem num_all (n : Int) (h0 : -1000000 ≤ n) (h1 : n ≤ 1000000) : Ev (fun k => spec_l1Num.f k n) ⟨(Lib.itoa n).toArray⟩ := by
  unfold Lib.itoa
  by_cases c : n < 0
  · rw [if_pos c]
    refine Ev.succ ?_
    simp only [spec_l1Num.f.eq_2]
    have hh := num_ev n.natAbs (by omega)
    rw [show ((n.natAbs : Nat) : Int) = wrap64 (-n) by rw [w64 (by omega) (by omega)]; omega] at hh
    have hl := dd_len 6 n.natAbs (by omega)
    refine Ev.pos c (Ev.bind hh (Ev.pos (by rw [ba_size]; omega) ?_))
    rw [show (⟨#[45]⟩ : ByteArray) ++ ⟨(Lib.decDigits n.natAbs).toArray⟩ = ⟨(45 :: Lib.decDigits n.natAbs).toArray⟩ from ba_ext _ _ (by rw [ba_app]; simp)]
    exact Ev.now _
  · rw [if_neg c]
    have hh := num_ev n.toNat (by omega)
    rw [show ((n.toNat : Nat) : Int) = n by omega] at hh
    exact hh
def fmtQ (n : Int) : ByteArray × Bool := if -999999 ≤ n ∧ n ≤ 999999 then (⟨(Lib.itoa n).toArray⟩, true) else (⟨#[]⟩, false)
theorem fmt_impl (n : Int) : impl_FormatInt.f n = some (fmtQ n) := by
  unfold impl_FormatInt.f impl_within.f fmtQ
  by_cases h : n ≥ -999999
  · rw [if_pos h]
    by_cases h2 : n ≤ 999999
    · rw [if_pos ⟨h, h2⟩, decide_eq_true h2]
      simp only [Option.bind_some, if_pos]
      unfold strconv_Itoa_35.f
      rw [if_pos (by omega)]; rfl
    · rw [if_neg (by omega), decide_eq_false h2]
      simp
  · rw [if_neg h, if_neg (by omega)]
    simp
theorem fmt_spec (n : Int) : Ev (fun k => spec_FormatInt.f k n) (fmtQ n) := by
  unfold spec_FormatInt.f spec_l1In.f fmtQ
  by_cases h : n ≥ -999999
  · rw [if_pos h]
    by_cases h2 : n ≤ 999999
    · rw [if_pos ⟨h, h2⟩]
      exact Ev.bindc rfl (Ev.pos (decide_eq_true h2) (Ev.bind (num_all n (by omega) (by omega)) (Ev.now _)))
    · rw [if_neg (by omega)]
      exact Ev.bindc rfl (Ev.neg (by simpa using h2) (Ev.now _))
  · rw [if_neg h, if_neg (by omega)]
    exact Ev.bindc rfl (Ev.neg (by decide) (Ev.now _))
/-- the sum over the bytes -/
def sumF : Int → List UInt8 → Int
  | s, [] => s
  | s, b :: r => sumF ((41 * s + (b.toNat : Int) + 1) % 999979) r
theorem sumF_range : ∀ (l : List UInt8) (s : Int), 0 ≤ s → s < 999979 → 0 ≤ sumF s l ∧ sumF s l < 999979
  | [], s, h0, h1 => ⟨h0, h1⟩
  | b :: r, s, h0, h1 => sumF_range r _ (by omega) (by omega)
theorem sumF_inj : ∀ (l : List UInt8) (s t : Int), 0 ≤ s → s < 999979 → 0 ≤ t → t < 999979 → sumF s l = sumF t l → s = t
  | [], s, t, _, _, _, _, h => h
  | b :: r, s, t, h0, h1, h2, h3, h => by
    have := sumF_inj r _ _ (by omega) (by omega) (by omega) (by omega) h
    have hb : b.toNat < 256 := b.toNat_lt
    omega
theorem sumF_app : ∀ (a l : List UInt8) (s : Int), sumF s (a ++ l) = sumF (sumF s a) l
  | [], _, _ => rfl
  | b :: r, l, s => sumF_app r l _
theorem sumF_ne (a r : List UInt8) (b c : UInt8) (h : b ≠ c) (s : Int) (h0 : 0 ≤ s) (h1 : s < 999979) : sumF s (a ++ b :: r) ≠ sumF s (a ++ c :: r) := by
  intro e
  rw [sumF_app, sumF_app] at e
  have hr := sumF_range a s h0 h1
  have := sumF_inj r _ _ (by omega) (by omega) (by omega) (by omega) e
  have hb : b.toNat < 256 := b.toNat_lt
  have hc : c.toNat < 256 := c.toNat_lt
  exact h (UInt8.toNat_inj.mp (by omega))
theorem step_eq (s b : Int) (h0 : 0 ≤ s) (h1 : s < 999979) (hb : 0 ≤ b) (hb1 : b ≤ 255) : Int.tmod (wrap64 ((wrap64 ((wrap64 (41 * s)) + (wrap64 b))) + 1)) 999979 = (41 * s + b + 1) % 999979 := by
  rw [w64 (n := 41 * s) (by omega) (by omega), w64 (n := b) (by omega) (by omega), w64 (n := 41 * s + b) (by omega) (by omega), w64 (by omega) (by omega), Int.tmod_eq_emod_of_nonneg (by omega)]
theorem sum_impl (x : ByteArray) (hx : x.size ≤ 4000) : Ev (fun k => impl_checksum.f k x) (sumF 7 x.data.toList) := by
  have lp : ∀ n i s, i + n = x.data.toList.length → 0 ≤ s → s < 999979 → Ev (fun k => impl_checksum.l0 k x s (x.size : Int) (i : Int)) (sumF s (x.data.toList.drop i)) := by
    intro n
    rw [sz_list] at hx
    induction n with
    | zero =>
      intro i s hi h0 h1
      refine Ev.succ ?_
      simp only [impl_checksum.l0.eq_2]
      rw [List.drop_eq_nil_of_le (by omega)]
      exact Ev.neg (by rw [sz_list]; omega) (Ev.now _)
    | succ n ih =>
      intro i s hi h0 h1
      have hl : i < x.data.toList.length := by omega
      refine Ev.succ ?_
      simp only [impl_checksum.l0.eq_2]
      rw [bt_list x i hl, List.drop_eq_getElem_cons hl, w64 (n := (i : Int) + 1) (by omega) (by omega)]
      have hb : (x.data.toList[i]).toNat < 256 := (x.data.toList[i]).toNat_lt
      rw [step_eq s _ h0 h1 (by omega) (by omega)]
      exact Ev.pos (by rw [sz_list]; omega) (Ev.pos (by omega) (Ev.pos (by rw [sz_list]; omega) (ih (i + 1) _ (by omega) (by omega) (by omega))))
  exact lp x.data.toList.length 0 7 (by omega) (by omega) (by omega)
theorem sum_spec (x : ByteArray) (hx : x.size ≤ 4000) : Ev (fun k => spec_l1Sum.f k x) (sumF 7 x.data.toList) := by
  have lp : ∀ n i s, i + n = x.data.toList.length → 0 ≤ s → s < 999979 → Ev (fun k => spec_l1Sum.l0 k x s (i : Int)) (sumF s (x.data.toList.drop i)) := by
    intro n
    rw [sz_list] at hx
    induction n with
    | zero =>
      intro i s hi h0 h1
      refine Ev.succ ?_
      simp only [spec_l1Sum.l0.eq_2]
      rw [List.drop_eq_nil_of_le (by omega)]
      exact Ev.neg (by rw [sz_list]; omega) (Ev.now _)
    | succ n ih =>
      intro i s hi h0 h1
      have hl : i < x.data.toList.length := by omega
      refine Ev.succ ?_
      simp only [spec_l1Sum.l0.eq_2]
      rw [bt_list x i hl, List.drop_eq_getElem_cons hl, w64 (n := (i : Int) + 1) (by omega) (by omega)]
      have hb : (x.data.toList[i]).toNat < 256 := (x.data.toList[i]).toNat_lt
      rw [step_eq s _ h0 h1 (by omega) (by omega)]
      exact Ev.pos (by rw [sz_list]; omega) (Ev.pos (by omega) (ih (i + 1) _ (by omega) (by omega) (by omega)))
  exact lp x.data.toList.length 0 7 (by omega) (by omega) (by omega)
def sealB (x : ByteArray) : ByteArray := ⟨(x.data.toList ++ 35 :: Lib.itoa (sumF 7 x.data.toList)).toArray⟩
theorem seal_app (x : ByteArray) : (x ++ (⟨#[35]⟩ : ByteArray)) ++ ⟨(Lib.itoa (sumF 7 x.data.toList)).toArray⟩ = sealB x := ba_ext _ _ (by rw [ba_app, ba_app]; simp [sealB])
def appQ (x : ByteArray) : ByteArray × Bool := if x.size ≤ 4000 ∧ (35 : UInt8) ∉ x.data.toList ∧ (sealB x).size ≤ 4000 then (sealB x, true) else (⟨#[]⟩, false)
theorem sum_range (x : ByteArray) : 0 ≤ sumF 7 x.data.toList ∧ sumF 7 x.data.toList < 999979 := sumF_range _ _ (by omega) (by omega)
theorem app_impl (x : ByteArray) (hx : x.size ≤ 100000) : Ev (fun k => impl_AppendChecksum.f k x) (appQ x) := by
  have hr := sum_range x
  have hl := itoa_len (sumF 7 x.data.toList) (by omega) (by omega)
  unfold impl_AppendChecksum.f
  by_cases h1 : x.size ≤ 4000
  · refine Ev.neg (by omega) (Ev.bindc (contains_eq x 35) (Ev.succ ?_))
    simp only [impl_AppendChecksum.j0.eq_2]
    by_cases h2 : (35 : UInt8) ∈ x.data.toList
    · rw [show appQ x = (⟨#[]⟩, false) from if_neg (fun h => h.2.1 h2)]
      exact Ev.pos (decide_eq_true h2) (Ev.now _)
    · refine Ev.neg (by simpa using h2) (Ev.pos (by omega) (Ev.bind (sum_impl x h1) (Ev.bindc (show strconv_Itoa_35.f _ = some ⟨(Lib.itoa (sumF 7 x.data.toList)).toArray⟩ by unfold strconv_Itoa_35.f; rw [if_pos (by omega)]) (Ev.pos (by rw [ByteArray.size_append, ba_size (Lib.itoa _)]; show x.size + 1 + _ ≤ _; omega) ?_))))
      rw [seal_app]
      by_cases h3 : (sealB x).size ≤ 4000
      · rw [show appQ x = (sealB x, true) from if_pos ⟨h1, h2, h3⟩]
        exact Ev.neg (by omega) (Ev.now _)
      · rw [show appQ x = (⟨#[]⟩, false) from if_neg (fun h => h3 h.2.2)]
        exact Ev.pos (by omega) (Ev.now _)
  · rw [show appQ x = (⟨#[]⟩, false) from if_neg (fun h => h1 h.1)]
    refine Ev.pos (by omega) (Ev.succ ?_)
    simp only [impl_AppendChecksum.j0.eq_2]
    exact Ev.pos trivial (Ev.now _)
theorem seal_spec (x : ByteArray) (h1 : x.size ≤ 4000) : Ev (fun k => spec_l1Seal.f k x) (sealB x) := by
  have hr := sum_range x
  have hl := itoa_len (sumF 7 x.data.toList) (by omega) (by omega)
  unfold spec_l1Seal.f
  refine Ev.pos (by omega) (Ev.bind (sum_spec x h1) (Ev.bind (num_all _ (by omega) (by omega)) (Ev.pos (by rw [ByteArray.size_append, ba_size (Lib.itoa _)]; show x.size + 1 + _ ≤ _; omega) ?_)))
  rw [seal_app]
  exact Ev.now _
theorem app_spec (x : ByteArray) (hx : x.size ≤ 100000) : Ev (fun k => spec_AppendChecksum.f k x) (appQ x) := by
  unfold spec_AppendChecksum.f
  by_cases h1 : x.size ≤ 4000
  · refine Ev.neg (by omega) (Ev.bind (stands_ev x 35 (by omega)) ?_)
    by_cases h2 : (35 : UInt8) ∈ x.data.toList
    · rw [show appQ x = (⟨#[]⟩, false) from if_neg (fun h => h.2.1 h2)]
      exact Ev.pos (decide_eq_true h2) (Ev.now _)
    · refine Ev.neg (by simpa using h2) (Ev.bind (seal_spec x h1) ?_)
      by_cases h3 : (sealB x).size ≤ 4000
      · rw [show appQ x = (sealB x, true) from if_pos ⟨h1, h2, h3⟩]
        exact Ev.neg (by omega) (Ev.bind (seal_spec x h1) (Ev.now _))
      · rw [show appQ x = (⟨#[]⟩, false) from if_neg (fun h => h3 h.2.2)]
        exact Ev.pos (by omega) (Ev.now _)
  · rw [show appQ x = (⟨#[]⟩, false) from if_neg (fun h => h1 h.1)]
    exact Ev.pos (by omega) (Ev.now _)
/-! ### The draws -/
theorem big_ok (s : List Int) (hs : Bytes8 s) (hl : s.length ≤ 1000000) (p st a : Int) (h0 : 0 ≤ p) (h1 : p ≤ 100000) (ha : 200 < a) (ha2 : a ≤ 60000) :
    ∃ v p' q, spec_l1Cur_pick.f s p st a = some (v, p', q) ∧ 0 ≤ v ∧ v < a ∧ p ≤ p' ∧ p' ≤ p + 2 := by
  unfold spec_l1Cur_pick.f
  rw [if_neg (by omega)]
  obtain ⟨v, q, e, hv0, hv1⟩ := next_ok s hs hl p st h0 (by omega)
  rw [e]
  simp only [Option.bind_some]
  rw [if_pos (by omega)]
  obtain ⟨v2, q2, e2, hv2, hv3⟩ := next_ok s hs hl (p + 1) q (by omega) (by omega)
  rw [e2]
  simp only [Option.bind_some]
  rw [if_neg (by omega), w64 (n := v * 256) (by omega) (by omega), w64 (by omega) (by omega)]
  exact ⟨_, _, _, rfl, Int.tmod_nonneg _ (by omega), Int.tmod_lt_of_pos _ (by omega), by omega, by omega⟩
theorem among_ok (s : List Int) (hs : Bytes8 s) (hl : s.length ≤ 1000000) (p st : Int) (l : List Int) (h0 : 0 ≤ p) (h1 : p ≤ 1000000) (hn : 0 < l.length) (hm : l.length ≤ 200) :
    ∃ v p' q, spec_l1Cur_among.f s p st l = some (v, p', q) ∧ v ∈ l := by
  unfold spec_l1Cur_among.f
  obtain ⟨v, p', q, e, hv0, hv1, hp0, hp1⟩ := pick_ok s hs hl p st (l.length : Int) h0 h1 (by omega)
  rw [e]
  simp only [Option.bind_some]
  have hv : v < (l.length : Int) := by omega
  rw [if_pos hv0, if_pos hv]
  refine ⟨_, _, _, rfl, ?_⟩
  obtain ⟨n, rfl⟩ : ∃ n : Nat, v = (n : Int) := ⟨v.toNat, by omega⟩
  rw [rd_nat l n (by omega)]
  exact List.getElem_mem _
theorem one_ok (s : List Int) (hs : Bytes8 s) (hl : s.length ≤ 1000000) (p st a : Int) (h0 : 0 ≤ p) (h1 : p ≤ 1000000) (ha : a ≤ 200) :
    ∃ b p' q, spec_l1Cur_one.f s p st a = some (b, p', q) ∧ p ≤ p' ∧ p' ≤ p + 1 := by
  unfold spec_l1Cur_one.f
  obtain ⟨v, p', q, e, hv0, hv1, hp0, hp1⟩ := pick_ok s hs hl p st a h0 h1 ha
  rw [e]
  exact ⟨_, _, _, rfl, hp0, hp1⟩
theorem drawF_ok (s : List Int) (hs : Bytes8 s) (hl : s.length ≤ 1000000) : ∃ n, spec_DrawFormatInt.f s = some n := by
  unfold spec_DrawFormatInt.f
  obtain ⟨v, p, q, e, hv0, hv1, hp0, hp1⟩ := big_ok s hs hl 0 0 1000 (by omega) (by omega) (by omega) (by omega)
  rw [e]
  simp only [Option.bind_some]
  obtain ⟨n, p', q', e2, _⟩ := among_ok s hs hl p q ([0, 1, (-1), 10, 999999, (-999999), 1000000, (-1000000), wrap64 (v - 500)] : List Int) (by omega) (by omega) (by simp) (by simp)
  rw [e2]
  exact ⟨_, rfl⟩
def L11 : List ByteArray := [(⟨#[]⟩ : ByteArray), (⟨#[45]⟩ : ByteArray), (⟨#[45, 48]⟩ : ByteArray), (⟨#[48, 48]⟩ : ByteArray), (⟨#[48, 49]⟩ : ByteArray), (⟨#[45, 45, 49]⟩ : ByteArray), (⟨#[49, 120]⟩ : ByteArray), (⟨#[57, 57, 57, 57, 57, 57]⟩ : ByteArray), (⟨#[49, 48, 48, 48, 48, 48, 48]⟩ : ByteArray), (⟨#[45, 57, 57, 57, 57, 57, 57]⟩ : ByteArray), (⟨#[49, 56, 52, 52, 54, 55, 52, 52, 48, 55, 51, 55, 48, 57, 53, 53, 49, 54, 49, 55]⟩ : ByteArray)]
theorem drawP_ok (s : List Int) (hs : Bytes8 s) (hl : s.length ≤ 1000000) : ∃ t, Ev (fun k => spec_DrawParseInt.f k s) t ∧ (t ∈ L11 ∨ ∃ n : Int, -1000 ≤ n ∧ n < 1000 ∧ t = ⟨(Lib.itoa n).toArray⟩) := by
  unfold spec_DrawParseInt.f
  obtain ⟨b, p, q, e, hp0, hp1⟩ := one_ok s hs hl 0 0 2 (by omega) (by omega) (by omega)
  rw [e]
  cases b with
  | true =>
    obtain ⟨t, p', q', e2, ht, _⟩ := of_ok s hs hl p q L11 (by omega) (by omega) (by decide) (by decide)
    exact ⟨t, Ev.bindc rfl (Ev.pos rfl (Ev.bindc e2 (Ev.now _))), .inl ht⟩
  | false =>
    obtain ⟨v, p', q', e2, hv0, hv1, _⟩ := big_ok s hs hl p q 2000 (by omega) (by omega) (by omega) (by omega)
    refine ⟨⟨(Lib.itoa (v - 1000)).toArray⟩, Ev.bindc rfl (Ev.neg (show ¬ (false = true) by decide) (Ev.bindc e2 ?_)), .inr ⟨v - 1000, by omega, by omega, rfl⟩⟩
    show Ev (fun k => (spec_l1Num.f k (wrap64 (v - 1000))).bind _) _
    rw [w64 (by omega) (by omega)]
    exact Ev.bind (num_all _ (by omega) (by omega)) (Ev.now _)
theorem drawA_ok (s : List Int) (hs : Bytes8 s) (hl : s.length ≤ 1000000) : ∃ x, spec_DrawAppendChecksum.f s = some x ∧ x.size ≤ 4000 := by
  unfold spec_DrawAppendChecksum.f
  obtain ⟨b, p, q, e, hp0, hp1⟩ := one_ok s hs hl 0 0 20 (by omega) (by omega) (by omega)
  rw [e]
  cases b with
  | true =>
    simp only [Option.bind_some, if_pos]
    obtain ⟨v, p', q', e2, hv0, hv1, _⟩ := pick_ok s hs hl p q 10 (by omega) (by omega) (by omega)
    rw [e2]
    simp only [Option.bind_some]
    rw [w64 (by omega) (by omega), if_pos (by omega), if_pos (by omega)]
    exact ⟨_, rfl, by rw [nums_size]; omega⟩
  | false =>
    simp only [Option.bind_some, Bool.false_eq_true, if_false]
    obtain ⟨x, p', q', e2, hx, _⟩ := any1_ok s hs hl p q (by omega) (by omega)
    rw [e2]
    exact ⟨_, rfl, by have := A9_size _ hx; show x.size ≤ _; omega⟩
theorem vat_ok (s : List Int) (hs : Bytes8 s) (hl : s.length ≤ 65536) (a : Int) (h0 : 0 ≤ a) (h1 : a ≤ 100) : ∃ v, laws_vAt.f s a = some v ∧ 0 ≤ v ∧ v ≤ 255 := by
  unfold laws_vAt.f
  by_cases c : a < (s.length : Int)
  · rw [if_pos c, if_pos h0]
    have hm : rd s a ∈ s := by
      obtain ⟨n, rfl⟩ : ∃ n : Nat, a = (n : Int) := ⟨a.toNat, by omega⟩
      rw [rd_nat s n (by omega)]; exact List.getElem_mem _
    have := hs _ hm
    exact ⟨_, rfl, by rw [w64 (by omega) (by omega)]; exact this⟩
  · rw [if_neg c, w64 (n := a * 7) (by omega) (by omega), w64 (by omega) (by omega)]
    refine ⟨_, rfl, Int.tmod_nonneg _ (by omega), ?_⟩
    have := Int.tmod_lt_of_pos (a * 7 + (s.length : Int)) (show (0 : Int) < 256 by omega)
    omega
/-! ### What is parsed -/
theorem read_loop (x0 x4 : ByteArray) (m : Nat) (q : Int × Bool) (hL : x4.data.toList.length ≤ 6) (hd : ∀ b ∈ x4.data.toList, 48 ≤ b.toNat ∧ b.toNat ≤ 57)
    (hq : Ev (fun k => if (x4.size : Int) < (x0.size : Int) then ((spec_l1Num.f k (wrap64 (-(m : Int)))).bind fun t => (if t.toList = x0.toList then (some (wrap64 (-(m : Int)), true)) else (some (0, false)))) else ((spec_l1Num.f k (m : Int)).bind fun t => (if t.toList = x0.toList then (some ((m : Int), true)) else (some (0, false))))) q) :
    ∀ n i (acc : Nat), i + n = x4.data.toList.length → acc < 10 ^ i → Lib.decFrom acc (x4.data.toList.drop i) = some m → Ev (fun k => spec_l1Read.l0 k x0 x4 (acc : Int) (i : Int)) q := by
  intro n
  induction n with
  | zero =>
    intro i acc hi ha hm
    refine Ev.succ ?_
    simp only [spec_l1Read.l0.eq_2]
    rw [List.drop_eq_nil_of_le (by omega)] at hm
    simp only [Lib.decFrom, Option.some.injEq] at hm
    subst hm
    exact Ev.neg (by rw [sz_list]; omega) hq
  | succ n ih =>
    intro i acc hi ha hm
    have hl : i < x4.data.toList.length := by omega
    have hp : 10 ^ i ≤ 10 ^ 6 := Nat.pow_le_pow_right (by decide) (by omega)
    have hb := hd _ (List.getElem_mem hl)
    rw [List.drop_eq_getElem_cons hl] at hm
    generalize hbe : x4.data.toList[i] = b at hb hm
    have hv : Lib.digitVal b = some (b.toNat - 48) := by unfold Lib.digitVal; rw [if_pos hb]
    simp only [Lib.decFrom, hv] at hm
    refine Ev.succ ?_
    simp only [spec_l1Read.l0.eq_2]
    rw [bt_list x4 i hl, hbe, w64 (n := (i : Int) + 1) (by omega) (by omega), w64 (n := 10 * (acc : Int)) (by omega) (by omega), w64 (by omega) (by omega)]
    refine Ev.pos (by rw [sz_list]; omega) (Ev.pos (by omega) (Ev.neg (by omega) (Ev.neg (by omega) ?_)))
    rw [show 10 * (acc : Int) + ((b.toNat : Int) - 48) % 256 = ((acc * 10 + (b.toNat - 48) : Nat) : Int) by omega]
    exact ih (i + 1) _ (by omega) (by rw [Nat.pow_succ]; omega) hm
theorem read_in (x0 x4 : ByteArray) (m : Nat) (q : Int × Bool) (hm : m ≤ 999999) (hL : x4.data.toList = Lib.decDigits m)
    (hq : Ev (fun k => if (x4.size : Int) < (x0.size : Int) then ((spec_l1Num.f k (wrap64 (-(m : Int)))).bind fun t => (if t.toList = x0.toList then (some (wrap64 (-(m : Int)), true)) else (some (0, false)))) else ((spec_l1Num.f k (m : Int)).bind fun t => (if t.toList = x0.toList then (some ((m : Int), true)) else (some (0, false))))) q) :
    Ev (fun k => spec_l1Read.j1 k x0 x4) q := by
  have hl := dd_len 5 m (by omega)
  have hn : 0 < (Lib.decDigits m).length := List.length_pos_iff.mpr (dd_ne m)
  refine Ev.succ ?_
  simp only [spec_l1Read.j1.eq_2]
  unfold spec_l1In.f
  rw [if_pos (by rw [sz_list, hL]; omega)]
  refine Ev.bindc rfl (Ev.pos (decide_eq_true (by rw [sz_list, hL]; omega)) ?_)
  have h := dd_from m 0 []
  rw [List.append_nil] at h
  exact read_loop x0 x4 m q (by rw [hL]; omega) (by rw [hL]; exact dd_digit m) hq _ 0 0 (by rw [Nat.zero_add]) (by decide) (by rw [List.drop_zero, hL, h]; simp [Lib.decFrom])
theorem parse_num (n : Int) (h0 : -999999 ≤ n) (h1 : n ≤ 999999) : ∃ q, impl_ParseInt.f ⟨(Lib.itoa n).toArray⟩ = some q ∧ Ev (fun k => spec_ParseInt.f k ⟨(Lib.itoa n).toArray⟩) q := by
  refine ⟨(n, true), parse_itoa n h0 h1, ?_⟩
  have hN := num_all n (by omega) (by omega)
  unfold spec_ParseInt.f
  refine Ev.bind (a := (n, true)) ?_ (Ev.now _)
  unfold spec_l1Read.f
  by_cases c : n < 0
  · obtain ⟨m, hm⟩ : ∃ m : Nat, n = -(m : Int) := ⟨n.natAbs, by omega⟩
    have ei : Lib.itoa n = 45 :: Lib.decDigits m := by unfold Lib.itoa; rw [if_pos c, show n.natAbs = m by omega]
    have hn : 0 < (Lib.decDigits m).length := List.length_pos_iff.mpr (dd_ne m)
    have hl := dd_len 5 m (by omega)
    rw [ei] at hN ⊢
    have hs : (⟨(45 :: Lib.decDigits m).toArray⟩ : ByteArray).size = (Lib.decDigits m).length + 1 := by rw [ba_size]; rfl
    have hb : bt (⟨(45 :: Lib.decDigits m).toArray⟩ : ByteArray) 0 = 45 := bt_list _ 0 (by simp)
    have hx : ((⟨(45 :: Lib.decDigits m).toArray⟩ : ByteArray).extract 1 (⟨(45 :: Lib.decDigits m).toArray⟩ : ByteArray).size).data.toList = Lib.decDigits m := by
      rw [Go.Lib.extract_to_end]; rfl
    refine Ev.pos (by omega) (Ev.pos (by omega) (Ev.succ ?_))
    simp only [spec_l1Read.j0.eq_2]
    rw [hb]
    refine Ev.pos (by rfl) (Ev.pos (by omega) (read_in _ _ m _ (by omega) hx ?_))
    rw [w64 (n := -(m : Int)) (by omega) (by omega), ← hm]
    exact Ev.pos (by rw [sz_list, hx, hs]; omega) (Ev.bind hN (Ev.pos rfl (Ev.now _)))
  · obtain ⟨m, hm⟩ : ∃ m : Nat, n = (m : Int) := ⟨n.toNat, by omega⟩
    have ei : Lib.itoa n = Lib.decDigits m := by unfold Lib.itoa; rw [if_neg c, show n.toNat = m by omega]
    have hn : 0 < (Lib.decDigits m).length := List.length_pos_iff.mpr (dd_ne m)
    rw [ei] at hN ⊢
    have hs : (⟨(Lib.decDigits m).toArray⟩ : ByteArray).size = (Lib.decDigits m).length := by rw [ba_size]
    have hb : (bt (⟨(Lib.decDigits m).toArray⟩ : ByteArray) 0 == 45) = false := by
      have h := bt_list (⟨(Lib.decDigits m).toArray⟩ : ByteArray) 0 hn
      have hd := dd_digit m _ (List.getElem_mem hn)
      rw [beq_eq_false_iff_ne]
      intro e
      rw [show ((0 : Nat) : Int) = 0 from rfl, e] at h
      have h' : (45 : Int) = (((Lib.decDigits m)[0]).toNat : Int) := h
      omega
    have hj : Ev (fun k => spec_l1Read.j0 k ⟨(Lib.decDigits m).toArray⟩ ⟨(Lib.decDigits m).toArray⟩ false) (n, true) := by
      refine Ev.succ ?_
      simp only [spec_l1Read.j0.eq_2]
      refine Ev.neg (by decide) (read_in _ _ m _ (by omega) rfl ?_)
      rw [← hm]
      exact Ev.neg (by omega) (Ev.bind hN (Ev.pos rfl (Ev.now _)))
    by_cases c1 : ((⟨(Lib.decDigits m).toArray⟩ : ByteArray).size : Int) > 1
    · exact Ev.pos c1 (Ev.pos (by omega) (by rw [hb]; exact hj))
    · exact Ev.neg c1 hj
theorem parse_none (t : ByteArray) (hs : t.size ≤ 7) (ha : Lib.atoi t.data.toList = none) : impl_ParseInt.f t = some (0, false) := by
  unfold impl_ParseInt.f; rw [if_neg (by omega), ha]
theorem parse_off (t : ByteArray) (n : Int) (hs : t.size ≤ 7) (ha : Lib.atoi t.data.toList = some n) (hn : ¬ ((-999999 ≤ n ∧ n ≤ 999999) ∧ Lib.itoa n = t.toList)) : impl_ParseInt.f t = some (0, false) := by
  unfold impl_ParseInt.f; rw [if_neg (by omega), ha]; show (if _ then _ else _) = _; rw [if_neg hn]
theorem parse_lit : ∀ t ∈ L11, ∃ q, impl_ParseInt.f t = some q ∧ Ev (fun k => spec_ParseInt.f k t) q := by
  have i0 : Lib.itoa 0 = [48] := by unfold Lib.itoa; rw [if_neg (by decide)]; exact dd_small (by decide)
  have i1 : Lib.itoa 1 = [49] := by unfold Lib.itoa; rw [if_neg (by decide)]; exact dd_small (by decide)
  have d9 : Lib.decDigits 999999 = [57, 57, 57, 57, 57, 57] := by
    rw [dd_big (by decide), dd_big (by decide), dd_big (by decide), dd_big (by decide), dd_big (by decide), dd_small (by decide)]; rfl
  have i9 : Lib.itoa 999999 = [57, 57, 57, 57, 57, 57] := by unfold Lib.itoa; rw [if_neg (by decide)]; exact d9
  have i8 : Lib.itoa (-999999) = [45, 57, 57, 57, 57, 57, 57] := by unfold Lib.itoa; rw [if_pos (by decide)]; exact congrArg _ d9
  have sp : ∀ t q, spec_ParseInt.f 40 t = some q → Ev (fun k => spec_ParseInt.f k t) q := fun t q h => Ev.of (fun k => spec_ParseInt.mono _ k) h
  intro t ht
  simp only [L11, List.mem_cons, List.not_mem_nil, or_false] at ht
  rcases ht with rfl | rfl | rfl | rfl | rfl | rfl | rfl | rfl | rfl | rfl | rfl
  · exact ⟨_, parse_none _ (by decide) (by rfl), sp _ _ (by decide +kernel)⟩
  · exact ⟨_, parse_none _ (by decide) (by rfl), sp _ _ (by decide +kernel)⟩
  · exact ⟨_, parse_off _ 0 (by decide) (by rfl) (by rw [i0, ba_toList]; decide), sp _ _ (by decide +kernel)⟩
  · exact ⟨_, parse_off _ 0 (by decide) (by rfl) (by rw [i0, ba_toList]; decide), sp _ _ (by decide +kernel)⟩
  · exact ⟨_, parse_off _ 1 (by decide) (by rfl) (by rw [i1, ba_toList]; decide), sp _ _ (by decide +kernel)⟩
  · exact ⟨_, parse_none _ (by decide) (by rfl), sp _ _ (by decide +kernel)⟩
  · exact ⟨_, parse_none _ (by decide) (by rfl), sp _ _ (by decide +kernel)⟩
  · have h := parse_itoa 999999 (by decide) (by decide)
    rw [i9] at h
    exact ⟨_, h, sp _ _ (by decide +kernel)⟩
  · exact ⟨_, parse_off _ 1000000 (by decide) (by rfl) (by rintro ⟨⟨_, h⟩, _⟩; revert h; decide), sp _ _ (by decide +kernel)⟩
  · have h := parse_itoa (-999999) (by decide) (by decide)
    rw [i8] at h
    exact ⟨_, h, sp _ _ (by decide +kernel)⟩
  · exact ⟨_, by unfold impl_ParseInt.f; rw [if_pos (by decide)], sp _ _ (by decide +kernel)⟩
/-! ### The seal verified, and a changed byte found out -/
theorem ib_eq (l : List UInt8) (c : UInt8) (o : Nat) (h : l[o]? = some c) (hk : ∀ k, k < o → l[k]? ≠ some c) : Lib.indexByte l c = o := by
  have h1 := Go.Lib.indexByte_ge l c
  rcases Int.lt_or_le (Go.Lib.indexByte l c) 0 with h2 | h2
  · exact absurd h (Go.Lib.indexByte_none (show Go.Lib.indexByte l c = -1 by omega) o)
  · obtain ⟨r, hr⟩ := Int.eq_ofNat_of_zero_le h2
    obtain ⟨g1, g2⟩ := Go.Lib.indexByte_some hr
    rw [hr]
    rcases Nat.lt_trichotomy r o with e | e | e
    · exact absurd g1 (hk r e)
    · rw [e]
    · exact absurd h (g2 o e)
theorem cut_seal (a d : List UInt8) (h : (35 : UInt8) ∉ a) : (Lib.cut (a ++ 35 :: d) [35]).1 = a := by
  have hi : Lib.index (a ++ 35 :: d) [35] = (a.length : Int) := by
    rw [Go.Lib.index_one]
    refine ib_eq _ _ _ (by simp) (fun k hk e => h ?_)
    rw [List.getElem?_append_left hk] at e
    exact List.mem_of_getElem? e
  unfold Lib.cut
  rw [hi, if_pos (by omega)]
  simp
def cutB (z : ByteArray) : ByteArray := ⟨(Lib.cut z.data.toList [35]).1.toArray⟩
theorem cut_ok (z : ByteArray) (hz : z.size ≤ 100000) : ∃ b t, strings_Cut.f z ⟨#[35]⟩ = some (cutB z, b, t) := by
  unfold strings_Cut.f
  rw [if_pos (by omega)]
  exact ⟨_, _, rfl⟩
theorem cut_size (z : ByteArray) : (cutB z).size ≤ z.size := by
  unfold cutB
  rw [ba_size, sz_list]
  unfold Lib.cut
  split
  · simp only [List.length_take]; exact Nat.min_le_right _ _
  · exact Nat.le_refl _
theorem verify_seal (x : ByteArray) (h1 : x.size ≤ 4000) (h2 : (35 : UInt8) ∉ x.data.toList) (h3 : (sealB x).size ≤ 4000) : Ev (fun k => impl_VerifyChecksum.f k (sealB x)) (x, true) := by
  unfold impl_VerifyChecksum.f
  obtain ⟨b, t, e⟩ := cut_ok (sealB x) (by omega)
  have hc : cutB (sealB x) = x := ba_ext _ _ (cut_seal x.data.toList _ h2)
  rw [hc] at e
  refine Ev.bindc e (Ev.bind (app_impl x (by omega)) ?_)
  rw [show appQ x = (sealB x, true) from if_pos ⟨h1, h2, h3⟩]
  exact Ev.pos rfl (Ev.pos rfl (Ev.now _))
theorem verify_any (z : ByteArray) (hz : z.size ≤ 4000) : ∃ q, Ev (fun k => impl_VerifyChecksum.f k z) q ∧ (q.2 = true → ∃ u : ByteArray, (35 : UInt8) ∉ u.data.toList ∧ z = sealB u) := by
  obtain ⟨b, t, e⟩ := cut_ok z (by omega)
  have hs := cut_size z
  have ha := app_impl (cutB z) (by omega)
  unfold impl_VerifyChecksum.f
  by_cases c : (cutB z).size ≤ 4000 ∧ (35 : UInt8) ∉ (cutB z).data.toList ∧ (sealB (cutB z)).size ≤ 4000
  · rw [show appQ (cutB z) = (sealB (cutB z), true) from if_pos c] at ha
    by_cases c2 : (sealB (cutB z)).toList = z.toList
    · refine ⟨(cutB z, true), Ev.bindc e (Ev.bind ha (Ev.pos rfl (Ev.pos c2 (Ev.now _)))), fun _ => ⟨cutB z, c.2.1, ?_⟩⟩
      rw [ba_toList, ba_toList] at c2
      exact (ba_ext _ _ c2).symm
    · exact ⟨(⟨#[]⟩, false), Ev.bindc e (Ev.bind ha (Ev.pos rfl (Ev.neg c2 (Ev.now _)))), fun h => by cases h⟩
  · rw [show appQ (cutB z) = (⟨#[]⟩, false) from if_neg c] at ha
    exact ⟨(⟨#[]⟩, false), Ev.bindc e (Ev.bind ha (Ev.neg (show ¬ (false = true) by decide) (Ev.now _))), fun h => by cases h⟩
theorem itoa_no (n : Int) : (35 : UInt8) ∉ Lib.itoa n := by
  intro h
  unfold Lib.itoa at h
  split at h
  · rcases List.mem_cons.mp h with h | h
    · exact absurd h (by decide)
    · exact absurd (dd_digit _ _ h) (by decide)
  · exact absurd (dd_digit _ _ h) (by decide)
theorem itoa_inj (a b : Int) (h : Lib.itoa a = Lib.itoa b) : a = b := by
  have h1 := atoi_itoa a
  rw [h, atoi_itoa b] at h1
  exact (Option.some.inj h1).symm
/-- where the mark stands, there it stands alone -/
theorem mark_at (a d : List UInt8) (ha : (35 : UInt8) ∉ a) (hd : (35 : UInt8) ∉ d) (i : Nat) (h : (a ++ 35 :: d)[i]? = some 35) : i = a.length := by
  rcases Nat.lt_trichotomy i a.length with e | e | e
  · rw [List.getElem?_append_left e] at h
    exact absurd (List.mem_of_getElem? h) ha
  · exact e
  · rw [List.getElem?_append_right (by omega), show i - a.length = (i - a.length - 1) + 1 by omega, List.getElem?_cons_succ] at h
    exact absurd (List.mem_of_getElem? h) hd
theorem turned (x u : List UInt8) (k : Nat) (b : UInt8) (hx : (35 : UInt8) ∉ x) (hu : (35 : UInt8) ∉ u)
    (hk : k < (x ++ 35 :: Lib.itoa (sumF 7 x)).length) (hb : (x ++ 35 :: Lib.itoa (sumF 7 x))[k] ≠ b)
    (e : (x ++ 35 :: Lib.itoa (sumF 7 x)).set k b = u ++ 35 :: Lib.itoa (sumF 7 u)) : False := by
  generalize hY : x ++ 35 :: Lib.itoa (sumF 7 x) = Y at hk hb e
  generalize hZ : u ++ 35 :: Lib.itoa (sumF 7 u) = Z at e
  have hat : ∀ i, i ≠ k → Z[i]? = Y[i]? := fun i hi => by rw [← e, List.getElem?_set_ne (by omega)]
  have hzk : Z[k]? = some b := by rw [← e, List.getElem?_set_self hk]
  have hyk : Y[k]? = some Y[k] := List.getElem?_eq_getElem hk
  have my : ∀ i, Y[i]? = some 35 → i = x.length := fun i h => by rw [← hY] at h; exact mark_at x _ hx (itoa_no _) i h
  have mz : ∀ i, Z[i]? = some 35 → i = u.length := fun i h => by rw [← hZ] at h; exact mark_at u _ hu (itoa_no _) i h
  have ay : Y[x.length]? = some 35 := by rw [← hY]; simp
  have az : Z[u.length]? = some 35 := by rw [← hZ]; simp
  have hlen : x.length = u.length := by
    by_cases c : x.length = k
    · by_cases c2 : u.length = k
      · omega
      · have := my u.length (by rw [← hat _ c2]; exact az); omega
    · have := mz x.length (by rw [hat _ c]; exact ay); omega
  by_cases ck : k = x.length
  · subst ck
    rw [hlen, az] at hzk
    rw [ay] at hyk
    have h1 := Option.some.inj hzk
    have h2 := Option.some.inj hyk
    exact hb (h2.symm.trans h1)
  · have hl2 : Y.length = Z.length := by rw [← e, List.length_set]
    by_cases cl : k < x.length
    · have et : Lib.itoa (sumF 7 u) = Lib.itoa (sumF 7 x) := by
        apply List.ext_getElem?
        intro i
        have h := hat (x.length + 1 + i) (by omega)
        rw [← hY, ← hZ, List.getElem?_append_right (by omega), List.getElem?_append_right (by omega), show x.length + 1 + i - x.length = i + 1 by omega, show x.length + 1 + i - u.length = i + 1 by omega, List.getElem?_cons_succ, List.getElem?_cons_succ] at h
        exact h
      have es := itoa_inj _ _ et
      have eu : u = x.set k b := by
        apply List.ext_getElem?
        intro i
        by_cases ci : i < x.length
        · by_cases cik : i = k
          · subst cik
            rw [List.getElem?_set_self cl]
            rw [← hZ, List.getElem?_append_left (by omega)] at hzk
            exact hzk
          · have h := hat i cik
            rw [← hY, ← hZ, List.getElem?_append_left (by omega), List.getElem?_append_left ci] at h
            rw [List.getElem?_set_ne (by omega)]
            exact h
        · rw [List.getElem?_eq_none (by omega), List.getElem?_eq_none (by rw [List.length_set]; omega)]
      have hbk : x[k] ≠ b := by
        intro e9
        refine hb ?_
        have h3 : Y[k]? = some x[k] := by rw [← hY, List.getElem?_append_left cl, List.getElem?_eq_getElem cl]
        rw [hyk] at h3
        rw [Option.some.inj h3, e9]
      have hdec : x = x.take k ++ x[k] :: x.drop (k + 1) := by rw [← List.drop_eq_getElem_cons cl, List.take_append_drop]
      have hse : x.set k b = x.take k ++ b :: x.drop (k + 1) := List.set_eq_take_append_cons_drop.trans (if_pos cl)
      rw [eu, hse] at es
      refine sumF_ne (x.take k) (x.drop (k + 1)) b x[k] (Ne.symm hbk) 7 (by omega) (by omega) (es.trans ?_)
      rw [← hdec]
    · have eu : u = x := by
        apply List.ext_getElem?
        intro i
        by_cases ci : i < x.length
        · have h := hat i (by omega)
          rw [← hY, ← hZ, List.getElem?_append_left (by omega), List.getElem?_append_left ci] at h
          exact h
        · rw [List.getElem?_eq_none (by omega), List.getElem?_eq_none (by omega)]
      have : Z = Y := by rw [← hZ, ← hY, eu]
      rw [this, hyk] at hzk
      exact hb (Option.some.inj hzk)
theorem xor_u8 (a d : Nat) (ha : a < 256) (hd : d < 256) : Go.bits .xor .u8 (a : Int) (d : Int) = ((a ^^^ d : Nat) : Int) := by
  have hx : a ^^^ d < 2 ^ 8 := Nat.xor_lt_two_pow (by omega) (by omega)
  have e8 : IntKind.u8.bits = 8 := rfl
  simp only [Go.bits, BitVec.ofInt_natCast, BitVec.toNat_xor, BitVec.toNat_ofNat, e8, Nat.mod_eq_of_lt (show a < 2 ^ 8 by omega), Nat.mod_eq_of_lt (show d < 2 ^ 8 by omega)]
  rw [IntKind.wrap_u8]; omega
theorem stY_data (y : ByteArray) (p v : Int) (hy : 0 < y.size) (hp : 0 ≤ p) (hv : 0 ≤ v) (hv1 : v ≤ 255) :
    ∃ (k : Nat) (hk : k < y.data.toList.length) (b : UInt8), y.data.toList[k] ≠ b ∧ (stY y p v).data.toList = y.data.toList.set k b := by
  have h0 := Int.tmod_nonneg (y.size : Int) hp
  have h1 := Int.tmod_lt_of_pos p (show (0 : Int) < (y.size : Int) by omega)
  obtain ⟨k, hk⟩ : ∃ k : Nat, Int.tmod p (y.size : Int) = (k : Int) := ⟨(Int.tmod p (y.size : Int)).toNat, by omega⟩
  have hkl : k < y.data.toList.length := by rw [← sz_list]; omega
  have e2 := Int.tmod_nonneg (255 : Int) hv
  have e3 := Int.tmod_lt_of_pos v (show (0 : Int) < 255 by omega)
  obtain ⟨d, hd⟩ : ∃ d : Nat, 1 + Int.tmod v 255 = (d : Int) := ⟨(1 + Int.tmod v 255).toNat, by omega⟩
  have ha : (y.data.toList[k]).toNat < 256 := (y.data.toList[k]).toNat_lt
  have hX : Go.bits .xor .u8 (bt y (Int.tmod p (y.size : Int))) (IntKind.u8.wrap (wrap64 (1 + Int.tmod v 255))) = (((y.data.toList[k]).toNat ^^^ d : Nat) : Int) := by
    rw [hk, hd, bt_list y k hkl, w64 (by omega) (by omega), show IntKind.u8.wrap (d : Int) = (d : Int) by rw [IntKind.wrap_u8]; omega]
    exact xor_u8 _ _ ha (by omega)
  refine ⟨k, hkl, UInt8.ofNat ((y.data.toList[k]).toNat ^^^ d), ?_, ?_⟩
  · intro e
    have hx : (y.data.toList[k]).toNat ^^^ d < 2 ^ 8 := Nat.xor_lt_two_pow (by omega) (by omega)
    have h := congrArg UInt8.toNat e
    rw [UInt8.toNat_ofNat', Nat.mod_eq_of_lt hx] at h
    have h2 : (y.data.toList[k]).toNat ^^^ ((y.data.toList[k]).toNat ^^^ d) = (y.data.toList[k]).toNat ^^^ (y.data.toList[k]).toNat := by rw [← h]
    rw [← Nat.xor_assoc, Nat.xor_self, Nat.zero_xor] at h2
    omega
  · unfold stY
    rw [hX, hk, Go.strOfNums_data, List.map_set, Int.toNat_natCast, Int.toNat_natCast]
    congr 1
    unfold bytesOf
    rw [List.map_map]
    conv => rhs; rw [← List.map_id y.data.toList]
    apply List.map_congr_left
    intro b _
    simp
theorem FnStrings : laws_FnStrings.Pure := by
  intro l0 _ hl hb
  refine Ev.rounds (g := fun k => laws_FnStrings.f k l0) ?_
  have hs : Bytes8 l0 := fun x hx => by
    have := hb x hx
    simp [Lit.wf, IntKind.min, IntKind.max, IntKind.bits, IntKind.signed] at this; omega
  unfold laws_FnStrings.f laws_vBig.f
  refine Ev.bindc rfl ?_
  by_cases big : (l0.length : Int) > 65536
  · exact Ev.pos (decide_eq_true big) (Ev.now _)
  refine Ev.neg (by simpa using big) ?_
  obtain ⟨n, en⟩ := drawF_ok l0 hs (by omega)
  obtain ⟨t, et, ht⟩ := drawP_ok l0 hs (by omega)
  obtain ⟨x, ex, hx⟩ := drawA_ok l0 hs (by omega)
  obtain ⟨qp, ep, es⟩ : ∃ q, impl_ParseInt.f t = some q ∧ Ev (fun k => spec_ParseInt.f k t) q := by
    rcases ht with ht | ⟨m, h0, h1, rfl⟩
    · exact parse_lit t ht
    · exact parse_num m (by omega) (by omega)
  obtain ⟨q7, e7, h7⟩ : ∃ q7, impl_ParseInt.f (fmtQ n).1 = some q7 ∧ ((fmtQ n).2 = true → q7 = (n, true)) := by
    by_cases c : -999999 ≤ n ∧ n ≤ 999999
    · rw [show fmtQ n = (⟨(Lib.itoa n).toArray⟩, true) from if_pos c]
      exact ⟨_, parse_itoa n c.1 c.2, fun _ => rfl⟩
    · rw [show fmtQ n = (⟨#[]⟩, false) from if_neg c]
      exact ⟨_, parse_none ⟨#[]⟩ (by decide) (by rfl), fun h => by cases h⟩
  refine Ev.bindc en (Ev.bindc (fmt_impl n) (Ev.bind (fmt_spec n) (Ev.bind et (Ev.bindc ep (Ev.bind es (Ev.bindc ex (Ev.bind (app_impl x (by omega)) (Ev.bind (app_spec x (by omega)) (Ev.pos ⟨rfl, rfl, rfl⟩ (Ev.bindc e7 (Ev.pos h7 ?_)))))))))))
  unfold laws_FnStrings.g
  by_cases c : x.size ≤ 4000 ∧ (35 : UInt8) ∉ x.data.toList ∧ (sealB x).size ≤ 4000
  rotate_left
  · rw [show appQ x = (⟨#[]⟩, false) from if_neg c]
    exact Ev.pos rfl (Ev.pos rfl (Ev.now _))
  rw [show appQ x = (sealB x, true) from if_pos c]
  obtain ⟨p, e9, p0, p1⟩ := vat_ok l0 hs (by omega) 9 (by omega) (by omega)
  obtain ⟨v, e10, v0, v1⟩ := vat_ok l0 hs (by omega) 10 (by omega) (by omega)
  have hpos : 0 < (sealB x).size := by unfold sealB; rw [ba_size, List.length_append]; simp only [List.length_cons]; omega
  obtain ⟨k, hk, b, hne, hset⟩ := stY_data (sealB x) p v hpos p0 v0 v1
  have hz : (stY (sealB x) p v).size ≤ 4000 := by
    rw [sz_list, hset, List.length_set, ← sz_list]; exact c.2.2
  obtain ⟨q9, ev9, h9⟩ := verify_any _ hz
  have hbad : q9.2 = false := by
    cases e : q9.2 with
    | false => rfl
    | true =>
      obtain ⟨u, hu, eu⟩ := h9 e
      rw [eu] at hset
      exact (turned x.data.toList u.data.toList k b c.2.1 hu hk hne hset.symm).elim
  refine Ev.neg (show ¬ (true = false) by decide) (Ev.bind (verify_seal x c.1 c.2.1 c.2.2) (Ev.bindc e9 (Ev.bindc e10 (Ev.pos ⟨hpos, c.2.2, p0⟩ (Ev.bind ev9 (Ev.pos ⟨rfl, hbad⟩ (Ev.now _)))))))

end Go.Proofs.YtcgndhkhncmnnaaDoor.Pure
