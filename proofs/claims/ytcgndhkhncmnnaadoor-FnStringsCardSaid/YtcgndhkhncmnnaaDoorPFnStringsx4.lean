import Derived.Test.YtcgndhkhncmnnaaDoorPFnStringsx0
import Derived.Test.YtcgndhkhncmnnaaDoorPFnStringsx1
import Derived.Test.YtcgndhkhncmnnaaDoorPFnStringsx2
import Derived.Test.YtcgndhkhncmnnaaDoorPFnStringsx3
namespace Go.Proofs.YtcgndhkhncmnnaaDoor.PFnStrings
open Go.RowKit Go.Proofs.YtcgndhkhncmnnaaDoorW.PrintWords Go.Proofs.YtcgndhkhncmnnaaDoorW.PrintLast Go.Proofs.YtcgndhkhncmnnaaDoorW.PrintMore
attribute [local go_sem] max2_int min2_int max_two min_two max_three min_three max_four min_four   -- for this text's walks alone
set_option linter.unusedVariables false
set_option linter.unusedSimpArgs false
/-- the text y with one byte turned -/
def stY (y : ByteArray) (p v : Int) : ByteArray := strOfNums ((bytesOf y).set (Int.tmod p (y.size : Int)).toNat (Go.bits .xor .u8 (bt y (Int.tmod p (y.size : Int))) (IntKind.u8.wrap (wrap64 (1 + Int.tmod v 255)))))
def laws_FnStrings.g (k : Nat) (l0 : List Int) (x : ByteArray) (q5 : ByteArray × Bool) : Option Bool := if q5.2 = false then (if q5.1 = ⟨#[]⟩ then some true else none) else (impl_VerifyChecksum.f k q5.1).bind fun q8 => (laws_vAt.f l0 9).bind fun p => (laws_vAt.f l0 10).bind fun v => if 0 < q5.1.size ∧ q5.1.size ≤ 4000 ∧ 0 ≤ p then ((impl_VerifyChecksum.f k (stY q5.1 p v)).bind fun q9 => if q8 = (x, true) ∧ q9.2 = false then some true else none) else none
def laws_FnStrings.f (k : Nat) (l0 : List Int) : Option Bool := (laws_vBig.f l0).bind fun big => if big = true then some true else
  ((spec_DrawFormatInt.f l0).bind fun n => (impl_FormatInt.f n).bind fun q1 => (spec_FormatInt.f k n).bind fun q2 => (spec_DrawParseInt.f k l0).bind fun t => (impl_ParseInt.f t).bind fun q3 => (spec_ParseInt.f k t).bind fun q4 => (spec_DrawAppendChecksum.f l0).bind fun x => (impl_AppendChecksum.f k x).bind fun q5 => (spec_AppendChecksum.f k x).bind fun q6 =>
    if q1 = q2 ∧ q3 = q4 ∧ q5 = q6 then ((impl_ParseInt.f q1.1).bind fun q7 => if q1.2 = true → q7 = (n, true) then laws_FnStrings.g k l0 x q5 else none) else none)
theorem bw_in {w w' : World} {g m : Nat} {CS : Array Value} (h : w.heap[g]? = some (.cells CS 5 (m, m + 1))) (hb : Below w.heap.size w w') : w'.heap[g]? = some (.cells CS 5 (m, m + 1)) := by
  have hl : g < w.heap.size := by
    rcases Nat.lt_or_ge g w.heap.size with h' | h'
    · exact h'
    · rw [Array.getElem?_eq_none h'] at h; cases h
  rw [hb.block g hl]; exact h
theorem bw_cell {w : World} {g m j : Nat} {CS : Array Value} (h : w.heap[g]? = some (.cells CS 5 (m, m + 1))) : w.cell? ⟨g, j, none⟩ = CS[j]? := by
  unfold World.cell?; rw [h]; rfl
def laws_FnStrings.T22 : Bool × List (List Nat × List Nat) := (true, [([], []), ([], []), ([], []), ([], []), ([2, 3], [2, 3]), ([4], [4]), ([], []), ([6], [6]), ([7], [7]), ([8], [8]), ([9], [9]), ([5, 10], [5, 10]), ([0, 1, 0, 1, 2, 3, 4, 5, 6, 7, 8, 9, 10, 11], [0, 1]), ([12, 11, 7, 0, 1, 2, 3, 4, 5, 6, 7, 8, 9, 10, 11], [11, 12])])
def laws_FnStrings.B22 : List Nat := [0, 0, 0, 0, 12, 28, 0, 64, 192, 448, 960, 2044, 4095, 8191]
theorem laws_FnStrings.tab22 : rtab .any (opsOf Tryd.f4 22) = laws_FnStrings.T22 := by kernel_rfl
theorem laws_FnStrings.bits22 : waitsOk laws_FnStrings.T22.2 laws_FnStrings.B22 = true := by kernel_rfl
theorem st_new {w W : World} (h : Below w.heap.size w W) (y : ByteArray) : ∃ (CS : Array Value), (Lib.bytesWorld W 5 y).heap[W.heap.size]? = some (.cells CS 5 (CS.size, CS.size + 1)) ∧ (∀ j, j < y.size → CS[j]? = some (.int .u8 (rd (bytesOf y) j))) ∧ w.heap.size ≤ W.heap.size ∧ Below w.heap.size w (Lib.bytesWorld W 5 y) := by
  refine ⟨_, Lib.bytesWorld_at_new W 5 y, fun j hj => ?_, h.size, bytes_below h h.size 5 y⟩
  have h1 := Lib.bytesWorld_cell W 5 y j hj
  rw [bw_cell (Lib.bytesWorld_at_new W 5 y)] at h1
  rw [h1]
  have h' : j < y.data.toList.length := by rw [data_length]; exact hj
  simp [rd, bytesOf, List.getD_eq_getElem?_getD, List.getElem?_eq_getElem h']
theorem st_new2 {w W : World} (h : Below w.heap.size w W) (y : ByteArray) : ∃ (g : Nat) (ad : Addr) (cap : Nat) (CS : Array Value) (W2 : World), (⟨W.heap.size, 0, none⟩ : Addr) = ad ∧ grownCap W y.size 0 5 = cap ∧ Lib.bytesWorld W 5 y = W2 ∧ ad = ⟨g, 0, none⟩ ∧ W2.heap[g]? = some (.cells CS 5 (CS.size, CS.size + 1)) ∧ (∀ j, j < y.size → CS[j]? = some (.int .u8 (rd (bytesOf y) j))) ∧ w.heap.size ≤ g ∧ Below w.heap.size w W2 := by
  obtain ⟨CS, h1, h2, h3, h4⟩ := st_new h y
  exact ⟨_, _, _, CS, _, rfl, rfl, rfl, rfl, h1, h2, h3, h4⟩
theorem st_cell {W : World} {g : Nat} {ad : Addr} {CS : Array Value} {y : ByteArray} (NB : W.heap[g]? = some (.cells CS 5 (CS.size, CS.size + 1))) (AD : ad = ⟨g, 0, none⟩) (ACS : ∀ j : Nat, j < y.size → CS[j]? = some (.int .u8 (rd (bytesOf y) j))) (kk : Int) (h0 : 0 ≤ kk) (h1 : kk < (y.size : Int)) :
    W.cell? (ad.add kk.toNat) = some (.int .u8 (rd (bytesOf y) kk)) := by
  rw [AD, add_plain, bw_cell NB, ACS kk.toNat (by omega), show ((kk.toNat : Nat) : Int) = kk by omega]
theorem st_put {P : Program} {w W : World} {g : Nat} {ad : Addr} {CS : Array Value} {y : ByteArray} (NB : W.heap[g]? = some (.cells CS 5 (CS.size, CS.size + 1))) (AD : ad = ⟨g, 0, none⟩) (ACS : ∀ j : Nat, j < y.size → CS[j]? = some (.int .u8 (rd (bytesOf y) j))) (HB : Below w.heap.size w W) (GE : w.heap.size ≤ g) (hsz : y.size ≤ 4000) (hP : (P.info? 5).map (·.size) = some 1) (kk : Int) (h0 : 0 ≤ kk) (h1 : kk < (y.size : Int)) (b : Int) :
    (Instr.storeAt 5 (.pointer (some (ad.add kk.toNat))) (.int .u8 b)).run P W = .ok () (W.setCells g kk.toNat [.int .u8 b]) ∧ ReadsInt (W.setCells g kk.toNat [.int .u8 b]) .u8 (some ad) y.size ((bytesOf y).set kk.toNat b) ∧ Below w.heap.size w (W.setCells g kk.toNat [.int .u8 b]) := by
  have hlt : kk.toNat < CS.size := by
    rcases Nat.lt_or_ge kk.toNat CS.size with h | h
    · exact h
    · have := ACS kk.toNat (by omega); rw [Array.getElem?_eq_none h] at this; cases this
  refine ⟨?_, ⟨by rw [List.length_set, bytesOf_length], by omega, fun hp => ⟨ad, rfl, fun j hj => ?_⟩⟩, ?_⟩
  · rw [AD, add_plain]
    obtain ⟨i, hi, hs⟩ := Option.map_eq_some_iff.1 hP
    have hst := run_storeCells_cells (P := P) g kk.toNat [.int .u8 b] 0 W (fun j hj => by rw [bw_cell NB]; simp at hj ⊢; omega) (fun j hj => by simp [World.frozen?, NB]; simp at hj; omega) (by simp [Value.oneCell'])
    simp only [Nat.add_zero] at hst
    simp [Instr.storeAt, Instr.sureAddr, storeVar, sizeOf, typeInfo, hi, hs, Value.cells, hst]
  · rw [AD, add_plain]
    have ho : W.cell? ⟨g, j, none⟩ = some (.int .u8 (rd (bytesOf y) j)) := by rw [bw_cell NB]; exact ACS j hj
    show (W.setCell ⟨g, kk.toNat, none⟩ (.int .u8 b)).cell? ⟨g, j, none⟩ = _
    by_cases e : kk.toNat = j
    · subst e
      rw [World.cell?_setCell_same _ _ _ ho]
      simp [List.getD_eq_getElem?_getD, bytesOf_length, hj]
    · rw [World.cell?_setCell_other _ _ _ _ (by intro h; simp only [Addr.mk.injEq] at h; omega), ho]
      simp [rd, List.getD_eq_getElem?_getD, List.getElem?_set, e]
  · obtain ⟨s1, s2, s3, s4⟩ := setCells_same g [.int .u8 b] kk.toNat W
    exact HB.trans ⟨s1, s2, s3, by rw [s4]; exact Nat.le_refl _, fun i hi => setCells_far _ _ i (by omega)⟩
theorem st_exec {P : Program} {o : Oper} {a : Act} {W W1 : World} {p x : Operand} {A : Addr} {u : Value} (ho : o.op = .store 5 p x) (hp : a.eval p = .pointer (some A)) (hx : a.eval x = u) (hr : (Instr.storeAt 5 (.pointer (some A)) u).run P W = .ok () W1) : (execOp a.eval o).run P W = .ok .skip W1 := by
  unfold execOp
  simp only [ho, hp, hx, Sem.run_bind, Sem.run_pure, Result.andThen_ok, hr]
set_option maxHeartbeats 8000000 in
set_option maxRecDepth 100000 in
theorem laws_FnStrings.calls (k : Nat) (A0 : Option Addr) (c0 : Nat) (l0 : List Int) (w : World) (hr0 : Kd.C (Kd.int .u8) w A0 l0.length l0) (hc0 : l0.length ≤ c0) (hrT : GT w) (h : laws_FnStrings.f k l0 = some true) :
    Calls Tryd.prog 4 #[.slice A0 l0.length c0] w fun e w' => e = .returned (.bool true) ∧ Below w.heap.size w w' := by
  have HR := Aside0.mk hr0
  have HC := Aside0.mk hc0
  have HT := Aside0.mk hrT
  clear hr0 hc0 hrT
  have HB := Aside0.mk (Below.refl w.heap.size w)
  unfold laws_FnStrings.f at h
  obtain ⟨big, a1, h0⟩ := Option.bind_eq_some_iff.mp h
  clear h; have h := h0; clear h0
  have A1 := Aside0.mk a1
  clear a1
  cases big with
  | true =>
    clear h
    go_enter Tryd.func4, Tryd.ntmps4
    go_wp2_with (go_at_call 5; (with_reducible refine (laws_vBig.calls A0 c0 l0 true _ (Kd.C_below HR.out HB.out) HC.out A1.out).mono ?_); rintro e w9 ⟨rfl, nd, hd⟩; have HB2 := Aside0.mk (show Below w.heap.size w w9 by rw [hd]; exact pw_below_drewN HB.out nd); clear HB hd; have HB := HB2; clear HB2)
    go_ret
    exact ⟨rfl, HB.out⟩
  | false =>
    rw [if_neg (show ¬ (false = true) by decide)] at h
    obtain ⟨n, a2, h0⟩ := Option.bind_eq_some_iff.mp h
    clear h; have h := h0; clear h0
    obtain ⟨⟨s, ok⟩, a3, h0⟩ := Option.bind_eq_some_iff.mp h
    clear h; have h := h0; clear h0
    obtain ⟨⟨s', ok'⟩, a4, h0⟩ := Option.bind_eq_some_iff.mp h
    clear h; have h := h0; clear h0
    obtain ⟨t, a5, h0⟩ := Option.bind_eq_some_iff.mp h
    clear h; have h := h0; clear h0
    obtain ⟨⟨m, fine⟩, a6, h0⟩ := Option.bind_eq_some_iff.mp h
    clear h; have h := h0; clear h0
    obtain ⟨⟨m', fine'⟩, a7, h0⟩ := Option.bind_eq_some_iff.mp h
    clear h; have h := h0; clear h0
    obtain ⟨x, a8, h0⟩ := Option.bind_eq_some_iff.mp h
    clear h; have h := h0; clear h0
    obtain ⟨⟨y, sealed⟩, a9, h0⟩ := Option.bind_eq_some_iff.mp h
    clear h; have h := h0; clear h0
    obtain ⟨⟨y', sealed'⟩, a10, h0⟩ := Option.bind_eq_some_iff.mp h
    clear h; have h := h0; clear h0
    by_cases c : (s, ok) = (s', ok') ∧ (m, fine) = (m', fine') ∧ (y, sealed) = (y', sealed')
    rotate_left
    · rw [if_neg c] at h; cases h
    rw [if_pos c] at h
    simp only [Prod.mk.injEq] at c
    obtain ⟨⟨rfl, rfl⟩, ⟨rfl, rfl⟩, rfl, rfl⟩ := c
    obtain ⟨⟨back, there⟩, a11, h0⟩ := Option.bind_eq_some_iff.mp h
    clear h; have h := h0; clear h0
    by_cases c2 : ok = true → (back, there) = (n, true)
    rotate_left
    · rw [if_neg c2] at h; cases h
    rw [if_pos c2] at h
    have A2 := Aside0.mk a2
    have A3 := Aside0.mk a3
    have A4 := Aside0.mk a4
    have A5 := Aside0.mk a5
    have A6 := Aside0.mk a6
    have A7 := Aside0.mk a7
    have A8 := Aside0.mk a8
    have A9 := Aside0.mk a9
    have A10 := Aside0.mk a10
    have A11 := Aside0.mk a11
    have HH := Aside0.mk h
    clear a2 a3 a4 a5 a6 a7 a8 a9 a10 a11 h
    have C2 := Aside0.mk c2
    clear c2
    go_enter Tryd.func4, Tryd.ntmps4
    go_upto_region 14 with (first | (go_at_call 5; (with_reducible refine (laws_vBig.calls A0 c0 l0 false _ (Kd.C_below HR.out HB.out) HC.out A1.out).mono ?_); rintro e w9 ⟨rfl, nd, hd⟩; have HB2 := Aside0.mk (show Below w.heap.size w w9 by rw [hd]; exact pw_below_drewN HB.out nd); clear HB hd; have HB := HB2; clear HB2) | (go_at_call 14; (with_reducible refine (spec_DrawFormatInt.calls A0 c0 l0 n _ (Kd.C_below HR.out HB.out) HC.out A2.out).mono ?_); rintro e w9 ⟨rfl, hb⟩; have HB2 := Aside0.mk (below_step HB.out hb); clear HB hb; have HB := HB2; clear HB2) | (go_at_call 15; (with_reducible refine (impl_FormatInt.calls n s ok _ (HT.out.below HB.out) A3.out).mono ?_); rintro e w9 ⟨rfl, hb⟩; have HB2 := Aside0.mk (below_step HB.out hb); clear HB hb; have HB := HB2; clear HB2) | (go_at_call 16; (with_reducible refine (spec_FormatInt.calls k n s ok _ A4.out).mono ?_); rintro e w9 ⟨rfl, hb⟩; have HB2 := Aside0.mk (below_step HB.out hb); clear HB hb; have HB := HB2; clear HB2) | (go_at_call 17; (with_reducible refine (spec_DrawParseInt.calls k A0 c0 l0 t _ (Kd.C_below HR.out HB.out) HC.out A5.out).mono ?_); rintro e w9 ⟨rfl, hb⟩; have HB2 := Aside0.mk (below_step HB.out hb); clear HB hb; have HB := HB2; clear HB2) | (go_at_call 18; (with_reducible refine (impl_ParseInt.calls t m fine _ (HT.out.below HB.out) A6.out).mono ?_); rintro e w9 ⟨rfl, hb⟩; have HB2 := Aside0.mk (below_step HB.out hb); clear HB hb; have HB := HB2; clear HB2) | (go_at_call 19; (with_reducible refine (spec_ParseInt.calls k t m fine _ A7.out).mono ?_); rintro e w9 ⟨rfl, hb⟩; have HB2 := Aside0.mk (below_step HB.out hb); clear HB hb; have HB := HB2; clear HB2) | (go_at_call 20; (with_reducible refine (spec_DrawAppendChecksum.calls A0 c0 l0 x _ (Kd.C_below HR.out HB.out) HC.out A8.out).mono ?_); rintro e w9 ⟨rfl, hb⟩; have HB2 := Aside0.mk (below_step HB.out hb); clear HB hb; have HB := HB2; clear HB2) | (go_at_call 21; (with_reducible refine (impl_AppendChecksum.calls k x y sealed _ (HT.out.below HB.out) A9.out).mono ?_); rintro e w9 ⟨rfl, hb⟩; have HB2 := Aside0.mk (below_step HB.out hb); clear HB hb; have HB := HB2; clear HB2) | (go_at_call 22; (with_reducible refine (spec_AppendChecksum.calls k x y sealed _ A10.out).mono ?_); rintro e w9 ⟨rfl, hb⟩; have HB2 := Aside0.mk (below_step HB.out hb); clear HB hb; have HB := HB2; clear HB2))
    go_cut [18, 19] (fun v18 v19 wc => v18 = .int .i64 back ∧ v19 = .bool there ∧ Aside0 (Below w.heap.size w wc))
    case first =>
      clear HH A2 A3 A4 A5 A6 A7 A8 A9 A10 A1
      go_wp2_with (go_at_call 18; (with_reducible refine (impl_ParseInt.calls s back there _ (HT.out.below HB.out) A11.out).mono ?_); rintro e w9 ⟨rfl, hb⟩; have HB2 := Aside0.mk (below_step HB.out hb); clear HB hb; have HB := HB2; clear HB2)
      go_meet
      case rel => exact ⟨rfl, rfl, HB⟩
    case rest =>
      obtain ⟨rfl, rfl, HB2⟩ := hcut
      clear HB A1 A2 A3 A4 A5 A6 A7 A8 A9 A10 A11
      have HB := HB2
      clear HB2
      have H := HH.out
      clear HH
      unfold laws_FnStrings.g at H
      have hG : ∃ H' : True, True := ⟨trivial, trivial⟩
      clear hG
      cases sealed with
      | false =>
        rw [if_pos rfl] at H
        by_cases e9 : y = ⟨#[]⟩
        rotate_left
        · rw [if_neg e9] at H; cases H
        subst e9
        clear H
        cases ok with
        | false =>
          clear C2
          go_wp2
          go_ret
          exact ⟨rfl, HB.out⟩
        | true =>
          obtain ⟨rfl, rfl⟩ := Prod.mk.inj (C2.out rfl)
          clear C2
          go_wp2
          go_ret
          exact ⟨rfl, HB.out⟩
      | true =>
        rw [if_neg (show ¬ (true = false) by decide)] at H
        obtain ⟨⟨z, op⟩, b8, H0⟩ := Option.bind_eq_some_iff.mp H
        clear H; have H := H0; clear H0
        obtain ⟨p, b9, H0⟩ := Option.bind_eq_some_iff.mp H
        clear H; have H := H0; clear H0
        obtain ⟨v, b10, H0⟩ := Option.bind_eq_some_iff.mp H
        clear H; have H := H0; clear H0
        by_cases cs : 0 < y.size ∧ y.size ≤ 4000 ∧ 0 ≤ p
        rotate_left
        · rw [if_neg cs] at H; cases H
        rw [if_pos cs] at H
        obtain ⟨⟨z9, bad⟩, b11, H0⟩ := Option.bind_eq_some_iff.mp H
        clear H; have H := H0; clear H0
        by_cases ce : (z, op) = (x, true) ∧ bad = false
        rotate_left
        · rw [if_neg ce] at H; cases H
        obtain ⟨ce1, rfl⟩ := ce
        obtain ⟨rfl, rfl⟩ := Prod.mk.inj ce1
        clear H ce1
        have B8 := Aside0.mk b8
        have B9 := Aside0.mk b9
        have B10 := Aside0.mk b10
        have B11 := Aside0.mk b11
        obtain ⟨cs0, cs1, cs2⟩ := cs
        have CS0 := Aside0.mk cs0
        have CS1 := Aside0.mk cs1
        have CS2 := Aside0.mk cs2
        clear b8 b9 b10 b11 cs0 cs1 cs2
        cases ok with
        | false =>
          clear C2
          go_upto_region 19 with (fail)
          go_upto_region 20 with (go_at_call 23; (with_reducible refine (impl_VerifyChecksum.calls k y z true _ (HT.out.below HB.out) B8.out).mono ?_); rintro e w9 ⟨rfl, hb⟩; have HB2 := Aside0.mk (below_step HB.out hb); clear HB hb; have HB := HB2; clear HB2)
          have kb := fun W => print_bytes (P := Tryd.prog) 9 22 5 Tryd.underlying9 Tryd.underlying22 Tryd.underlying5 y W
          go_upto_region 21 with (fail)
          clear kb
          obtain ⟨g, ad, cap, CS, w2, e1, e2, e3, hAD, hNB, hCS, hge, hNW⟩ := st_new2 HB.out y
          rw [e1, e2, e3]
          clear HB e1 e2 e3
          have HB := Aside0.mk hNW
          have NB := Aside0.mk hNB
          have ACS := Aside0.mk hCS
          have GE := Aside0.mk hge
          have AD := Aside0.mk hAD
          clear hNW hNB hCS hge hAD
          have hz0 : ((y.size : Int) = 0) = False := eq_false (by have h_ := CS0.out; omega)
          have hz1 : ((y.size : Int) == 0) = false := by rw [beq_eq_false_iff_ne]; have h_ := CS0.out; omega
          go_upto_region 22 with (go_at_call 24; (with_reducible refine (laws_vAt.calls A0 c0 l0 9 p _ (Kd.C_below HR.out HB.out) HC.out B9.out).mono ?_); rintro e w9 ⟨rfl, hd⟩; have hb := hd.below; have NB2 := Aside0.mk (bw_in NB.out hb); have HB2 := Aside0.mk (below_step HB.out hb); clear HB NB hb hd; have HB := HB2; have NB := NB2; clear HB2 NB2)
          case isTrue => rename_i hy_; exact absurd (show y.size = 0 by rw [hy_]; rfl) (by have h_ := CS0.out; omega)
          obtain ⟨kk, hkk⟩ : ∃ kk, Int.tmod p (y.size : Int) = kk := ⟨_, rfl⟩
          have hk0 : 0 ≤ kk := by rw [← hkk]; exact Int.tmod_nonneg _ CS2.out
          have hk1 : kk < (y.size : Int) := by rw [← hkk]; exact Int.tmod_lt_of_pos _ (by have h_ := CS0.out; omega)
          have K0 := Aside0.mk hk0
          have K1 := Aside0.mk hk1
          have KE := Aside0.mk hkk
          have q0 := eq_true hk0
          have q1 := eq_true hk1
          rw [hkk]
          clear hk0 hk1 hkk hz0 hz1
          refine start_ (n := 14) (S := fun w' => w'.cell? (ad.add kk.toNat) = some (.int .u8 (rd (bytesOf y) kk))) (ds := [13]) #[false, false, false, false, false, false, false, false, false, false, false, false, false, false] (by kernel_rfl) rfl rfl (st_cell (bw_in NB.out (below_drew1 (Below.refl _ _))) AD.out ACS.out kk K0.out K1.out) (fun hHeld => ?_)
          refine with_tabW laws_FnStrings.tab22 laws_FnStrings.bits22 (fun HT_ HW_ => ?_)
          have NB2 := Aside0.mk (bw_in NB.out (below_drew1 (Below.refl _ _)))
          have HB2 := Aside0.mk (below_drew1 HB.out)
          clear HB NB
          have HB := HB2
          have NB := NB2
          clear HB2 NB2
          generalize World.drew _ = w3 at HB NB hHeld ⊢
          refine pure_ (i := 0) (N := some 123) (v := ?_) (a' := ?_) #[true, false, false, false, false, false, false, false, false, false, false, false, false, false] rfl rfl (any_of HT_.out (by kernel_rfl)) (fun _ _ _ h => h) (Or.inl ⟨by rfl, ?_⟩) ?_ ?_
          rotate_left
          · intro w'
            go_simp
            with_reducible rfl
          rotate_left
          · simp only [Act.put, List.setIfInBounds_toArray, List.set_cons_zero, List.set_cons_succ, i64_w, i32_w]
            rfl
          refine pure_ (i := 1) (N := some 124) (v := ?_) (a' := ?_) #[true, true, false, false, false, false, false, false, false, false, false, false, false, false] rfl rfl (any_of HT_.out (by kernel_rfl)) (fun _ _ _ h => h) (Or.inl ⟨by rfl, ?_⟩) ?_ ?_
          rotate_left
          · intro w'
            go_simp
            with_reducible rfl
          rotate_left
          · simp only [Act.put, List.setIfInBounds_toArray, List.set_cons_zero, List.set_cons_succ, i64_w, i32_w]
            rfl
          refine pure_ (i := 2) (N := some 125) (v := ?_) (a' := ?_) #[true, true, true, false, false, false, false, false, false, false, false, false, false, false] rfl rfl (any_of HT_.out (by kernel_rfl)) (fun _ _ _ h => h) (Or.inl ⟨by rfl, ?_⟩) ?_ ?_
          rotate_left
          · intro w'
            go_simp
            with_reducible rfl
          rotate_left
          · simp only [Act.put, List.setIfInBounds_toArray, List.set_cons_zero, List.set_cons_succ, i64_w, i32_w]
            rfl
          refine pure_ (i := 3) (N := some 126) (v := ?_) (a' := ?_) #[true, true, true, true, false, false, false, false, false, false, false, false, false, false] rfl rfl (any_of HT_.out (by kernel_rfl)) (fun _ _ _ h => h) (Or.inl ⟨by rfl, ?_⟩) ?_ ?_
          rotate_left
          · intro w'
            go_simp
            with_reducible rfl
          rotate_left
          · simp only [Act.put, List.setIfInBounds_toArray, List.set_cons_zero, List.set_cons_succ, i64_w, i32_w]
            rfl
          refine pure_ (i := 4) (N := some 127) (v := ?_) (a' := ?_) #[true, true, true, true, true, false, false, false, false, false, false, false, false, false] rfl rfl (any_of HT_.out (by kernel_rfl)) (fun _ _ _ h => h) (Or.inl ⟨by rfl, ?_⟩) ?_ ?_
          rotate_left
          · intro w'
            go_simp
            with_reducible rfl
          rotate_left
          · simp only [Act.put, List.setIfInBounds_toArray, List.set_cons_zero, List.set_cons_succ, i64_w, i32_w]
            rfl
          refine pure_ (i := 6) (N := some 129) (v := ?_) (a' := ?_) #[true, true, true, true, true, false, true, false, false, false, false, false, false, false] rfl rfl (any_of HT_.out (by kernel_rfl)) (fun _ _ _ h => h) (Or.inl ⟨by rfl, ?_⟩) ?_ ?_
          rotate_left
          · intro w'
            go_simp
            with_reducible rfl
          rotate_left
          · simp only [Act.put, List.setIfInBounds_toArray, List.set_cons_zero, List.set_cons_succ, i64_w, i32_w]
            rfl
          refine take_ (i := 5) (N := some 128) (v := ?_) (a' := ?_) #[true, true, true, true, true, true, true, false, false, false, false, false, false, false] rfl rfl (take_ofW HT_.out HW_.out (by kernel_rfl)) (fun _ _ _ h => h) (Or.inl ⟨by rfl, ?_⟩) hHeld ?_ ?_
          rotate_left
          · intro w' s0
            go_simp
            with_reducible rfl
          rotate_left
          · simp only [Act.put, List.setIfInBounds_toArray, List.set_cons_zero, List.set_cons_succ, i64_w, i32_w]
            rfl
          refine one_ (i := 7) (N := some 130) #[true, true, true, true, true, true, true, true, false, false, false, false, false, false] rfl rfl (one_of HT_.out (by kernel_rfl)) (by decide) (fun K hK => ?_)
          refine goes_ Tryd.func24 (by kernel_rfl) rfl #[.slice A0 l0.length c0, .int .i64 10] (by rfl) rfl rfl (by (try simp only [List.map_toArray, List.map_cons, List.map_nil]); first | done | rfl) ?_
          with_reducible refine (laws_vAt.calls A0 c0 l0 10 v _ (Kd.C_below HR.out HB.out) HC.out B10.out).mono ?_
          rintro e w4 ⟨rfl, hd⟩
          refine ⟨_, rfl, ?_⟩
          have hb := hd.below
          clear hd
          have NB2 := Aside0.mk (bw_in NB.out hb)
          have HB2 := Aside0.mk (below_step HB.out hb)
          clear HB NB hb
          have HB := HB2
          have NB := NB2
          clear HB2 NB2
          refine hK.out _ _ (st_cell NB.out AD.out ACS.out kk K0.out K1.out) (fun hHeld => ?_)
          clear hK K
          refine norm_ (a' := ?_) ?_ ?_
          rotate_left
          · show Act.put _ (some 130) _ = _
            simp only [Act.put, List.setIfInBounds_toArray, List.set_cons_zero, List.set_cons_succ, i64_w, i32_w]
            rfl
          refine pure_ (i := 8) (N := some 131) (v := ?_) (a' := ?_) #[true, true, true, true, true, true, true, true, true, false, false, false, false, false] rfl rfl (any_of HT_.out (by kernel_rfl)) (fun _ _ _ h => h) (Or.inl ⟨by rfl, ?_⟩) ?_ ?_
          rotate_left
          · intro w'
            go_simp
            with_reducible rfl
          rotate_left
          · simp only [Act.put, List.setIfInBounds_toArray, List.set_cons_zero, List.set_cons_succ, i64_w, i32_w]
            rfl
          refine pure_ (i := 9) (N := some 132) (v := ?_) (a' := ?_) #[true, true, true, true, true, true, true, true, true, true, false, false, false, false] rfl rfl (any_of HT_.out (by kernel_rfl)) (fun _ _ _ h => h) (Or.inl ⟨by rfl, ?_⟩) ?_ ?_
          rotate_left
          · intro w'
            go_simp
            with_reducible rfl
          rotate_left
          · simp only [Act.put, List.setIfInBounds_toArray, List.set_cons_zero, List.set_cons_succ, i64_w, i32_w]
            rfl
          refine pure_ (i := 10) (N := some 133) (v := ?_) (a' := ?_) #[true, true, true, true, true, true, true, true, true, true, true, false, false, false] rfl rfl (any_of HT_.out (by kernel_rfl)) (fun _ _ _ h => h) (Or.inl ⟨by rfl, ?_⟩) ?_ ?_
          rotate_left
          · intro w'
            go_simp
            with_reducible rfl
          rotate_left
          · simp only [Act.put, List.setIfInBounds_toArray, List.set_cons_zero, List.set_cons_succ, i64_w, i32_w]
            rfl
          refine pure_ (i := 11) (N := some 134) (v := ?_) (a' := ?_) #[true, true, true, true, true, true, true, true, true, true, true, true, false, false] rfl rfl (any_of HT_.out (by kernel_rfl)) (fun _ _ _ h => h) (Or.inl ⟨by rfl, ?_⟩) ?_ ?_
          rotate_left
          · intro w'
            go_simp
            with_reducible rfl
          rotate_left
          · simp only [Act.put, List.setIfInBounds_toArray, List.set_cons_zero, List.set_cons_succ, i64_w, i32_w]
            rfl
          refine pure_ (i := 12) (N := some 135) (v := ?_) (a' := ?_) #[true, true, true, true, true, true, true, true, true, true, true, true, true, false] rfl rfl (any_of HT_.out (by kernel_rfl)) (fun _ _ _ h => h) (Or.inl ⟨by rfl, ?_⟩) ?_ ?_
          rotate_left
          · intro w'
            go_simp
            with_reducible rfl
          rotate_left
          · simp only [Act.put, List.setIfInBounds_toArray, List.set_cons_zero, List.set_cons_succ, i64_w, i32_w]
            rfl
          refine last_ (i := 13) (N := none) #[true, true, true, true, true, true, true, true, true, true, true, true, true, true] rfl rfl (one_of HT_.out (by kernel_rfl)) (by decide) (fun K hK => ?_)
          obtain ⟨hst, hRD, hB5⟩ := st_put (P := Tryd.prog) NB.out AD.out ACS.out HB.out GE.out CS1.out (by kernel_rfl) kk K0.out K1.out (Go.bits .xor .u8 (rd (bytesOf y) kk) (IntKind.u8.wrap (wrap64 (1 + Int.tmod v 255))))
          refine skip_ (w1 := w4.setCells g kk.toNat [.int .u8 (Go.bits .xor .u8 (rd (bytesOf y) kk) (IntKind.u8.wrap (wrap64 (1 + Int.tmod v 255))))]) (by rfl) rfl (st_exec (p := .tmp 135) (x := .tmp 134) rfl rfl rfl hst) ?_
          have RD := Aside0.mk hRD
          have HB9 := Aside0.mk hB5
          clear HB NB hst hRD hB5
          have HB := HB9
          clear HB9
          refine hK.out _ _ ?_
          clear hK K
          refine done_ (done_of HT_.out (by kernel_rfl)) ?_
          
          generalize World.setCells _ _ _ _ = w5 at RD HB ⊢
          obtain ⟨y2, ey2⟩ : ∃ y2, strOfNums ((bytesOf y).set kk.toNat (Go.bits .xor .u8 (rd (bytesOf y) kk) (IntKind.u8.wrap (wrap64 (1 + Int.tmod v 255))))) = y2 := ⟨_, rfl⟩
          have hB11 : impl_VerifyChecksum.f k y2 = some (z9, false) := by rw [← ey2, ← B11.out]; unfold stY; rw [KE.out, rd_bytesOf]
          have B11' := Aside0.mk hB11
          have hcv := string_of_reads (P := Tryd.prog) (c := cap) Tryd.underlying22 Tryd.underlying5 Tryd.underlying9 RD.out
          rw [ey2] at hcv
          clear RD ey2 hB11 B11 q0 q1 KE K0 K1 hHeld
          go_wp2_with (go_at_call 23; (with_reducible refine (impl_VerifyChecksum.calls k y2 z9 false _ (HT.out.below HB.out) B11'.out).mono ?_); rintro e w9 ⟨rfl, hb⟩; have HB2 := Aside0.mk (below_step HB.out hb); clear HB hb; have HB := HB2; clear HB2)
          go_ret
          exact ⟨by first | rfl | (simp; done), HB.out⟩
        | true =>
          obtain ⟨rfl, rfl⟩ := Prod.mk.inj (C2.out rfl)
          clear C2
          go_upto_region 19 with (fail)
          go_upto_region 20 with (go_at_call 23; (with_reducible refine (impl_VerifyChecksum.calls k y z true _ (HT.out.below HB.out) B8.out).mono ?_); rintro e w9 ⟨rfl, hb⟩; have HB2 := Aside0.mk (below_step HB.out hb); clear HB hb; have HB := HB2; clear HB2)
          have kb := fun W => print_bytes (P := Tryd.prog) 9 22 5 Tryd.underlying9 Tryd.underlying22 Tryd.underlying5 y W
          go_upto_region 21 with (fail)
          clear kb
          obtain ⟨g, ad, cap, CS, w2, e1, e2, e3, hAD, hNB, hCS, hge, hNW⟩ := st_new2 HB.out y
          rw [e1, e2, e3]
          clear HB e1 e2 e3
          have HB := Aside0.mk hNW
          have NB := Aside0.mk hNB
          have ACS := Aside0.mk hCS
          have GE := Aside0.mk hge
          have AD := Aside0.mk hAD
          clear hNW hNB hCS hge hAD
          have hz0 : ((y.size : Int) = 0) = False := eq_false (by have h_ := CS0.out; omega)
          have hz1 : ((y.size : Int) == 0) = false := by rw [beq_eq_false_iff_ne]; have h_ := CS0.out; omega
          go_upto_region 22 with (go_at_call 24; (with_reducible refine (laws_vAt.calls A0 c0 l0 9 p _ (Kd.C_below HR.out HB.out) HC.out B9.out).mono ?_); rintro e w9 ⟨rfl, hd⟩; have hb := hd.below; have NB2 := Aside0.mk (bw_in NB.out hb); have HB2 := Aside0.mk (below_step HB.out hb); clear HB NB hb hd; have HB := HB2; have NB := NB2; clear HB2 NB2)
          case isTrue => rename_i hy_; exact absurd (show y.size = 0 by rw [hy_]; rfl) (by have h_ := CS0.out; omega)
          obtain ⟨kk, hkk⟩ : ∃ kk, Int.tmod p (y.size : Int) = kk := ⟨_, rfl⟩
          have hk0 : 0 ≤ kk := by rw [← hkk]; exact Int.tmod_nonneg _ CS2.out
          have hk1 : kk < (y.size : Int) := by rw [← hkk]; exact Int.tmod_lt_of_pos _ (by have h_ := CS0.out; omega)
          have K0 := Aside0.mk hk0
          have K1 := Aside0.mk hk1
          have KE := Aside0.mk hkk
          have q0 := eq_true hk0
          have q1 := eq_true hk1
          rw [hkk]
          clear hk0 hk1 hkk hz0 hz1
          refine start_ (n := 14) (S := fun w' => w'.cell? (ad.add kk.toNat) = some (.int .u8 (rd (bytesOf y) kk))) (ds := [13]) #[false, false, false, false, false, false, false, false, false, false, false, false, false, false] (by kernel_rfl) rfl rfl (st_cell (bw_in NB.out (below_drew1 (Below.refl _ _))) AD.out ACS.out kk K0.out K1.out) (fun hHeld => ?_)
          refine with_tabW laws_FnStrings.tab22 laws_FnStrings.bits22 (fun HT_ HW_ => ?_)
          have NB2 := Aside0.mk (bw_in NB.out (below_drew1 (Below.refl _ _)))
          have HB2 := Aside0.mk (below_drew1 HB.out)
          clear HB NB
          have HB := HB2
          have NB := NB2
          clear HB2 NB2
          generalize World.drew _ = w3 at HB NB hHeld ⊢
          refine pure_ (i := 0) (N := some 123) (v := ?_) (a' := ?_) #[true, false, false, false, false, false, false, false, false, false, false, false, false, false] rfl rfl (any_of HT_.out (by kernel_rfl)) (fun _ _ _ h => h) (Or.inl ⟨by rfl, ?_⟩) ?_ ?_
          rotate_left
          · intro w'
            go_simp
            with_reducible rfl
          rotate_left
          · simp only [Act.put, List.setIfInBounds_toArray, List.set_cons_zero, List.set_cons_succ, i64_w, i32_w]
            rfl
          refine pure_ (i := 1) (N := some 124) (v := ?_) (a' := ?_) #[true, true, false, false, false, false, false, false, false, false, false, false, false, false] rfl rfl (any_of HT_.out (by kernel_rfl)) (fun _ _ _ h => h) (Or.inl ⟨by rfl, ?_⟩) ?_ ?_
          rotate_left
          · intro w'
            go_simp
            with_reducible rfl
          rotate_left
          · simp only [Act.put, List.setIfInBounds_toArray, List.set_cons_zero, List.set_cons_succ, i64_w, i32_w]
            rfl
          refine pure_ (i := 2) (N := some 125) (v := ?_) (a' := ?_) #[true, true, true, false, false, false, false, false, false, false, false, false, false, false] rfl rfl (any_of HT_.out (by kernel_rfl)) (fun _ _ _ h => h) (Or.inl ⟨by rfl, ?_⟩) ?_ ?_
          rotate_left
          · intro w'
            go_simp
            with_reducible rfl
          rotate_left
          · simp only [Act.put, List.setIfInBounds_toArray, List.set_cons_zero, List.set_cons_succ, i64_w, i32_w]
            rfl
          refine pure_ (i := 3) (N := some 126) (v := ?_) (a' := ?_) #[true, true, true, true, false, false, false, false, false, false, false, false, false, false] rfl rfl (any_of HT_.out (by kernel_rfl)) (fun _ _ _ h => h) (Or.inl ⟨by rfl, ?_⟩) ?_ ?_
          rotate_left
          · intro w'
            go_simp
            with_reducible rfl
          rotate_left
          · simp only [Act.put, List.setIfInBounds_toArray, List.set_cons_zero, List.set_cons_succ, i64_w, i32_w]
            rfl
          refine pure_ (i := 4) (N := some 127) (v := ?_) (a' := ?_) #[true, true, true, true, true, false, false, false, false, false, false, false, false, false] rfl rfl (any_of HT_.out (by kernel_rfl)) (fun _ _ _ h => h) (Or.inl ⟨by rfl, ?_⟩) ?_ ?_
          rotate_left
          · intro w'
            go_simp
            with_reducible rfl
          rotate_left
          · simp only [Act.put, List.setIfInBounds_toArray, List.set_cons_zero, List.set_cons_succ, i64_w, i32_w]
            rfl
          refine pure_ (i := 6) (N := some 129) (v := ?_) (a' := ?_) #[true, true, true, true, true, false, true, false, false, false, false, false, false, false] rfl rfl (any_of HT_.out (by kernel_rfl)) (fun _ _ _ h => h) (Or.inl ⟨by rfl, ?_⟩) ?_ ?_
          rotate_left
          · intro w'
            go_simp
            with_reducible rfl
          rotate_left
          · simp only [Act.put, List.setIfInBounds_toArray, List.set_cons_zero, List.set_cons_succ, i64_w, i32_w]
            rfl
          refine take_ (i := 5) (N := some 128) (v := ?_) (a' := ?_) #[true, true, true, true, true, true, true, false, false, false, false, false, false, false] rfl rfl (take_ofW HT_.out HW_.out (by kernel_rfl)) (fun _ _ _ h => h) (Or.inl ⟨by rfl, ?_⟩) hHeld ?_ ?_
          rotate_left
          · intro w' s0
            go_simp
            with_reducible rfl
          rotate_left
          · simp only [Act.put, List.setIfInBounds_toArray, List.set_cons_zero, List.set_cons_succ, i64_w, i32_w]
            rfl
          refine one_ (i := 7) (N := some 130) #[true, true, true, true, true, true, true, true, false, false, false, false, false, false] rfl rfl (one_of HT_.out (by kernel_rfl)) (by decide) (fun K hK => ?_)
          refine goes_ Tryd.func24 (by kernel_rfl) rfl #[.slice A0 l0.length c0, .int .i64 10] (by rfl) rfl rfl (by (try simp only [List.map_toArray, List.map_cons, List.map_nil]); first | done | rfl) ?_
          with_reducible refine (laws_vAt.calls A0 c0 l0 10 v _ (Kd.C_below HR.out HB.out) HC.out B10.out).mono ?_
          rintro e w4 ⟨rfl, hd⟩
          refine ⟨_, rfl, ?_⟩
          have hb := hd.below
          clear hd
          have NB2 := Aside0.mk (bw_in NB.out hb)
          have HB2 := Aside0.mk (below_step HB.out hb)
          clear HB NB hb
          have HB := HB2
          have NB := NB2
          clear HB2 NB2
          refine hK.out _ _ (st_cell NB.out AD.out ACS.out kk K0.out K1.out) (fun hHeld => ?_)
          clear hK K
          refine norm_ (a' := ?_) ?_ ?_
          rotate_left
          · show Act.put _ (some 130) _ = _
            simp only [Act.put, List.setIfInBounds_toArray, List.set_cons_zero, List.set_cons_succ, i64_w, i32_w]
            rfl
          refine pure_ (i := 8) (N := some 131) (v := ?_) (a' := ?_) #[true, true, true, true, true, true, true, true, true, false, false, false, false, false] rfl rfl (any_of HT_.out (by kernel_rfl)) (fun _ _ _ h => h) (Or.inl ⟨by rfl, ?_⟩) ?_ ?_
          rotate_left
          · intro w'
            go_simp
            with_reducible rfl
          rotate_left
          · simp only [Act.put, List.setIfInBounds_toArray, List.set_cons_zero, List.set_cons_succ, i64_w, i32_w]
            rfl
          refine pure_ (i := 9) (N := some 132) (v := ?_) (a' := ?_) #[true, true, true, true, true, true, true, true, true, true, false, false, false, false] rfl rfl (any_of HT_.out (by kernel_rfl)) (fun _ _ _ h => h) (Or.inl ⟨by rfl, ?_⟩) ?_ ?_
          rotate_left
          · intro w'
            go_simp
            with_reducible rfl
          rotate_left
          · simp only [Act.put, List.setIfInBounds_toArray, List.set_cons_zero, List.set_cons_succ, i64_w, i32_w]
            rfl
          refine pure_ (i := 10) (N := some 133) (v := ?_) (a' := ?_) #[true, true, true, true, true, true, true, true, true, true, true, false, false, false] rfl rfl (any_of HT_.out (by kernel_rfl)) (fun _ _ _ h => h) (Or.inl ⟨by rfl, ?_⟩) ?_ ?_
          rotate_left
          · intro w'
            go_simp
            with_reducible rfl
          rotate_left
          · simp only [Act.put, List.setIfInBounds_toArray, List.set_cons_zero, List.set_cons_succ, i64_w, i32_w]
            rfl
          refine pure_ (i := 11) (N := some 134) (v := ?_) (a' := ?_) #[true, true, true, true, true, true, true, true, true, true, true, true, false, false] rfl rfl (any_of HT_.out (by kernel_rfl)) (fun _ _ _ h => h) (Or.inl ⟨by rfl, ?_⟩) ?_ ?_
          rotate_left
          · intro w'
            go_simp
            with_reducible rfl
          rotate_left
          · simp only [Act.put, List.setIfInBounds_toArray, List.set_cons_zero, List.set_cons_succ, i64_w, i32_w]
            rfl
          refine pure_ (i := 12) (N := some 135) (v := ?_) (a' := ?_) #[true, true, true, true, true, true, true, true, true, true, true, true, true, false] rfl rfl (any_of HT_.out (by kernel_rfl)) (fun _ _ _ h => h) (Or.inl ⟨by rfl, ?_⟩) ?_ ?_
          rotate_left
          · intro w'
            go_simp
            with_reducible rfl
          rotate_left
          · simp only [Act.put, List.setIfInBounds_toArray, List.set_cons_zero, List.set_cons_succ, i64_w, i32_w]
            rfl
          refine last_ (i := 13) (N := none) #[true, true, true, true, true, true, true, true, true, true, true, true, true, true] rfl rfl (one_of HT_.out (by kernel_rfl)) (by decide) (fun K hK => ?_)
          obtain ⟨hst, hRD, hB5⟩ := st_put (P := Tryd.prog) NB.out AD.out ACS.out HB.out GE.out CS1.out (by kernel_rfl) kk K0.out K1.out (Go.bits .xor .u8 (rd (bytesOf y) kk) (IntKind.u8.wrap (wrap64 (1 + Int.tmod v 255))))
          refine skip_ (w1 := w4.setCells g kk.toNat [.int .u8 (Go.bits .xor .u8 (rd (bytesOf y) kk) (IntKind.u8.wrap (wrap64 (1 + Int.tmod v 255))))]) (by rfl) rfl (st_exec (p := .tmp 135) (x := .tmp 134) rfl rfl rfl hst) ?_
          have RD := Aside0.mk hRD
          have HB9 := Aside0.mk hB5
          clear HB NB hst hRD hB5
          have HB := HB9
          clear HB9
          refine hK.out _ _ ?_
          clear hK K
          refine done_ (done_of HT_.out (by kernel_rfl)) ?_
          
          generalize World.setCells _ _ _ _ = w5 at RD HB ⊢
          obtain ⟨y2, ey2⟩ : ∃ y2, strOfNums ((bytesOf y).set kk.toNat (Go.bits .xor .u8 (rd (bytesOf y) kk) (IntKind.u8.wrap (wrap64 (1 + Int.tmod v 255))))) = y2 := ⟨_, rfl⟩
          have hB11 : impl_VerifyChecksum.f k y2 = some (z9, false) := by rw [← ey2, ← B11.out]; unfold stY; rw [KE.out, rd_bytesOf]
          have B11' := Aside0.mk hB11
          have hcv := string_of_reads (P := Tryd.prog) (c := cap) Tryd.underlying22 Tryd.underlying5 Tryd.underlying9 RD.out
          rw [ey2] at hcv
          clear RD ey2 hB11 B11 q0 q1 KE K0 K1 hHeld
          go_wp2_with (go_at_call 23; (with_reducible refine (impl_VerifyChecksum.calls k y2 z9 false _ (HT.out.below HB.out) B11'.out).mono ?_); rintro e w9 ⟨rfl, hb⟩; have HB2 := Aside0.mk (below_step HB.out hb); clear HB hb; have HB := HB2; clear HB2)
          go_ret
          exact ⟨by first | rfl | (simp; done), HB.out⟩
/-- THE ONE PURE STATEMENT of laws_FnStrings: yours. -/
def laws_FnStrings.Pure : Prop := ∀ (l0 : List Int), l0.length ≤ maxLen → l0.length * 1 ≤ 140737488351232 → (∀ x ∈ l0, (Lit.int .u8 x).wf = true) → ∃ k, laws_FnStrings.f k l0 = some true
theorem laws_FnStrings.walk (P : laws_FnStrings.Pure) (a0 : Option Addr) (len0 cap0 : Nat) (z0 : List Int) (w : World) (hT : GT w) (w0 : (a0 = none ∧ len0 = 0 ∧ cap0 = 0 ∧ z0 = []) ∨ ∃ x, a0 = some x ∧ len0 ≤ cap0 ∧ cap0 ≤ maxLen ∧ z0.length = cap0 ∧ (∀ i, i < z0.length → w.cell? (x.add i) = some (.int .u8 (z0.getD i 0))) ∧ ∀ n ∈ z0, (Lit.int .u8 n).wf = true) (y0 : len0 * 1 ≤ 140737488351232) :
    Calls Tryd.prog 4 #[.slice a0 len0 cap0] w fun e w' => e = .returned (.bool true) ∧ Below w.heap.size w w' := by
  obtain ⟨l0, rfl, hr0, hm0, hw0, hc0⟩ := ReadsInt.ofRowC w0
  obtain ⟨k, h⟩ := P l0 hm0 y0 hw0
  exact laws_FnStrings.calls k _ _ l0 w (Kd.C_of_reads (d := (0 : Int)) (h1 := fun _ => rfl) hr0) hc0 hT h

end Go.Proofs.YtcgndhkhncmnnaaDoor.PFnStrings
