/- The program's WaveList returns what the reference's returns, for all arguments (values that hold more than 2^20 numbers are let pass by the statement itself). -/
import Derived.Test.YtamdhfjnalglfaaQFnExactWaveListx10
import Derived.Test.YtamdhfjnalglfaaBase
import Derived.Test.YtamdhfjnalglfaaBits
namespace Go.Proofs.Ytamdhfjnalglfaa.Pure
open Go.RowKit Go.Proofs.Ytamdhfjnalglfaa.QFnExactWaveList Go.Proofs.YtamdhfjnalglfaaW.PrintWords Go.Proofs.YtamdhfjnalglfaaW.PrintLast Go.Proofs.YtamdhfjnalglfaaW.PrintMore
open Go.Proofs.Ytamdhfjnalglfaa Go.Proofs.Ytamdhfjnalglfaa.Base Go.Proofs.Ytamdhfjnalglfaa.Bits
set_option linter.unusedVariables false
set_option linter.unusedSimpArgs false

theorem wu64 {x : Int} (h0 : 0 ≤ x) (h1 : x < 18446744073709551616) : IntKind.u64.wrap x = x := by
 simp [IntKind.wrap, IntKind.bits, IntKind.signed]
 omega
theorem td64 (i : Nat) : Int.tdiv (i : Int) 64 = ((i / 64 : Nat) : Int) := rfl
theorem tm64 (i : Nat) : Int.tmod (i : Int) 64 = ((i % 64 : Nat) : Int) := rfl
theorem td2 (i : Nat) : Int.tdiv (i : Int) 2 = ((i / 2 : Nat) : Int) := rfl
theorem tm2 (i : Nat) : Int.tmod (i : Int) 2 = ((i % 2 : Nat) : Int) := rfl
def Words (ws : List Int) : Prop := ∀ x ∈ ws, 0 ≤ x ∧ x < 2 ^ 64
theorem Words.get {ws : List Int} (h : Words ws) (j : Nat) (hj : j < ws.length) : ∃ a : Nat, ws.getD j 0 = (a : Int) ∧ a < 18446744073709551616 := by
 have := h _ (List.getElem_mem hj)
 rw [← lget_lt ws j 0 hj] at this
 refine ⟨(ws.getD j 0).toNat, by omega, by omega⟩
theorem bitAt_nat {ws : List Int} {i a : Nat} (h : ws.getD (i / 64) 0 = (a : Int)) : bitAt ws i = ((a / 2 ^ (i % 64) % 2 : Nat) : Int) := by
 unfold bitAt
 rw [h]
 simp
theorem l01List_l1 (n : Int) (ws : List Int) (m : Nat) (hm : m ≤ 64) : ∀ (l : List Int) (i a : Nat) (r : List Int), l.length ≤ 1000000 → i ≤ 1000000 → a < 18446744073709551616 →
  Ev (fun k => spec_l01List.l0 k (l ++ [((a / 2 ^ m % 2 : Nat) : Int)]) ((i + 1 : Nat) : Int) n ws) r → Ev (fun k => spec_l01List.l1 k l (i : Int) (a : Int) (m : Int) n ws) r := by
 induction m with
 | zero =>
  intro l i a r hl hi ha hr
  refine Ev.step (f := fun k => spec_l01List.l0 k (l ++ [((a / 2 ^ 0 % 2 : Nat) : Int)]) ((i + 1 : Nat) : Int) n ws) (fun k => ?_) hr
  rw [spec_l01List.l1, if_neg (by omega), if_pos (by omega), tm2, w64 (by omega) (by omega), w64 (by omega) (by omega), Nat.pow_zero, Nat.div_one]
  rfl
 | succ m ih =>
  intro l i a r hl hi ha hr
  refine Ev.step (f := fun k => spec_l01List.l1 k l (i : Int) ((a / 2 : Nat) : Int) (m : Int) n ws) (fun k => ?_) (ih (by omega) l i (a / 2) r hl hi (by omega) ?_)
  ·rw [spec_l01List.l1, if_pos (by omega), td2, wu64 (by omega) (by omega), w64 (by omega) (by omega), show ((m + 1 : Nat) : Int) - 1 = (m : Int) by omega]
  ·rw [Nat.div_div_eq_div_mul, Nat.mul_comm, ← Nat.pow_succ]
   exact hr
theorem l01List_l0 (n : Nat) (ws : List Int) (hw : Words ws) (hn : n ≤ 64 * ws.length) (h5 : n ≤ 5000) (d : Nat) : ∀ i : Nat, i + d = n → Ev (fun k => spec_l01List.l0 k (bitsL i ws) (i : Int) (n : Int) ws) (bitsL n ws) := by
 induction d with
 | zero =>
  intro i h
  obtain rfl : i = n := by omega
  refine Ev.step (f := fun _ => some _) (fun k => ?_) (Ev.now _)
  rw [spec_l01List.l0, if_neg (by omega)]
 | succ d ih =>
  intro i h
  obtain ⟨a, ea, ha⟩ := hw.get (i / 64) (by omega)
  refine Ev.step (f := fun k => spec_l01List.l1 k (bitsL i ws) (i : Int) (a : Int) ((i % 64 : Nat) : Int) (n : Int) ws) (fun k => ?_) (l01List_l1 (n : Int) ws (i % 64) (by omega) _ i a _ (by rw [bitsL_length]; omega) (by omega) ha ?_)
  ·rw [spec_l01List.l0, if_pos (by omega), td64, w64 (by omega) (by omega), if_pos (by omega), if_pos (by omega), rd_nat, ea, tm64]
  ·rw [← bitAt_nat ea, ← bitsL_succ]
   exact ih (i + 1) (by omega)
theorem l01List_ev (n : Nat) (ws : List Int) (hw : Words ws) (hn : n ≤ 64 * ws.length) (h5 : n ≤ 5000) : Ev (fun k => spec_l01List.f k (n : Int) ws) (bitsL n ws) :=
 Ev.congr (f := fun k => spec_l01List.l0 k (bitsL 0 ws) ((0 : Nat) : Int) (n : Int) ws) (fun _ => rfl) (l01List_l0 n ws hw hn h5 n 0 (by omega))
theorem l01Power_l0 (m : Nat) : ∀ (a : Nat), a * 2 ^ m < 18446744073709551616 → m ≤ 64 → Ev (fun k => spec_l01Power.l0 k (m : Int) (a : Int)) ((a * 2 ^ m : Nat) : Int) := by
 induction m with
 | zero =>
  intro a h hm
  refine Ev.step (f := fun _ => some _) (fun k => ?_) (Ev.now _)
  rw [spec_l01Power.l0, if_neg (by omega), Nat.pow_zero, Nat.mul_one]
 | succ m ih =>
  intro a h hm
  have hp : 0 < 2 ^ m := Nat.two_pow_pos m
  have e : a * 2 ^ (m + 1) = (2 * a) * 2 ^ m := by rw [Nat.pow_succ, Nat.mul_comm (2 ^ m) 2, ← Nat.mul_assoc, Nat.mul_comm a 2]
  rw [e] at h ⊢
  have : 2 * a ≤ (2 * a) * 2 ^ m := Nat.le_mul_of_pos_right _ hp
  refine Ev.step (f := fun k => spec_l01Power.l0 k (m : Int) ((2 * a : Nat) : Int)) (fun k => ?_) (ih (2 * a) h (by omega))
  rw [spec_l01Power.l0, if_pos (by omega), w64 (by omega) (by omega), wu64 (by omega) (by omega), show ((m + 1 : Nat) : Int) - 1 = (m : Int) by omega]
  rfl
theorem pow64 (m : Nat) (h : m < 64) : 2 ^ m < 18446744073709551616 := Nat.pow_lt_pow_right (a := 2) (n := 64) (by decide) h
theorem pow64i (m : Nat) (h : m ≤ 64) : (2 : Int) ^ m ≤ 18446744073709551616 := by
 have : 2 ^ m ≤ 2 ^ 64 := Nat.pow_le_pow_right (by decide) h
 have e : (2 : Int) ^ m = ((2 ^ m : Nat) : Int) := by simp
 omega
theorem l01Power_ev (m : Nat) (h : m < 64) : Ev (fun k => spec_l01Power.f k (m : Int)) ((2 : Int) ^ m) := by
 have := l01Power_l0 m 1 (by rw [Nat.one_mul]; exact pow64 m h) (by omega)
 rw [Nat.one_mul] at this
 rw [show (2 : Int) ^ m = ((2 ^ m : Nat) : Int) by simp]
 exact this
theorem bitsOf_j2 (l : List Int) (hb : ∀ i, i < l.length → l.getD i 0 = 0 ∨ l.getD i 0 = 1) (h5 : l.length ≤ 5000) (i : Nat) (hi : i < l.length) (r : Int × List Int × Bool)
  (hr : Ev (fun k => spec_BitsOf.l0 k l ((i + 1 : Nat) : Int) (l.length : Int) (wordsTo l (i + 1) (i / 64 + 1))) r) : Ev (fun k => spec_BitsOf.j2 k l (i : Int) (l.length : Int) (wordsTo l i (i / 64 + 1))) r := by
 have e1 : wrap64 ((i : Int) + 1) = ((i + 1 : Nat) : Int) := w64 (by omega) (by omega)
 rcases hb i hi with q | q
 ·refine Ev.step (f := fun k => spec_BitsOf.l0 k l ((i + 1 : Nat) : Int) (l.length : Int) (wordsTo l (i + 1) (i / 64 + 1))) (fun k => ?_) hr
  rw [spec_BitsOf.j2, if_pos (by omega), if_pos (by omega), rd_nat, q, if_neg (by decide), e1, wordsTo_skip l i _ q]
 ·obtain ⟨K1, h1⟩ := ev_out (l01Power_ev (i % 64) (by omega))
  obtain ⟨K2, h2⟩ := ev_out hr
  refine ev_mk (K1 + K2 + 1) fun k hk => ?_
  obtain ⟨k, rfl⟩ : ∃ m, k = m + 1 := ⟨k - 1, by omega⟩
  have hlen := wordsTo_length l i (i / 64 + 1)
  have hbd := wordAt_bound l hb i (i / 64) (by omega)
  rw [show min 64 (i - 64 * (i / 64)) = i % 64 by omega] at hbd
  have hp := pow64i (i % 64 + 1) (by omega)
  rw [Int.pow_succ] at hp
  rw [spec_BitsOf.j2, if_pos (by omega), if_pos (by omega), rd_nat, q, if_pos rfl, td64, tm64, w64 (by omega) (by omega), if_pos (by omega), if_pos (by rw [hlen]; omega), h1 k (by omega), Option.bind_some, e1, rd_nat, wordsTo_get _ _ _ _ (by omega),
   wu64 (by have := two_pos (i % 64); omega) (by omega), Int.toNat_natCast, wordsTo_set l i _ _ (by omega) (by rw [q, Int.one_mul])]
  exact h2 k (by omega)
theorem bitsOf_l0 (l : List Int) (hb : ∀ i, i < l.length → l.getD i 0 = 0 ∨ l.getD i 0 = 1) (h5 : l.length ≤ 5000) (d : Nat) : ∀ i : Nat, i + d = l.length →
  Ev (fun k => spec_BitsOf.l0 k l (i : Int) (l.length : Int) (wordsTo l i ((i + 63) / 64))) ((l.length : Int), wordsOf l, true) := by
 induction d with
 | zero =>
  intro i h
  obtain rfl : i = l.length := by omega
  refine Ev.step (f := fun _ => some _) (fun k => ?_) (Ev.now _)
  rw [spec_BitsOf.l0, if_neg (by omega)]
  rfl
 | succ d ih =>
  intro i h
  have hr := bitsOf_j2 l hb h5 i (by omega) _ (by have := ih (i + 1) (by omega); rwa [show (i + 1 + 63) / 64 = i / 64 + 1 by omega] at this)
  have hj : Ev (fun k => spec_BitsOf.j1 k l (i : Int) false (l.length : Int) (wordsTo l i ((i + 63) / 64))) ((l.length : Int), wordsOf l, true) := by
   refine Ev.step (fun k => ?_) hr
   rw [spec_BitsOf.j1, if_neg (by decide), tm64]
   by_cases q : i % 64 = 0
   ·rw [if_pos (by omega), if_pos (by rw [wordsTo_length]; omega), wordsTo_more l i q]
   ·rw [if_neg (by omega), show (i + 63) / 64 = i / 64 + 1 by omega]
  refine Ev.step (fun k => ?_) hj
  rw [spec_BitsOf.l0, if_pos (by omega), if_pos (by omega), rd_nat]
  rcases hb i (by omega) with q | q
  ·rw [q, if_pos rfl]
  ·rw [q, if_neg (by decide)]
   rfl
theorem specBitsOf_ev (l : List Int) (hb : ∀ i, i < l.length → l.getD i 0 = 0 ∨ l.getD i 0 = 1) (h5 : l.length ≤ 5000) : Ev (fun k => spec_BitsOf.f k l) ((l.length : Int), wordsOf l, true) := by
 refine Ev.congr (f := fun k => spec_BitsOf.l0 k l ((0 : Nat) : Int) (l.length : Int) (wordsTo l 0 ((0 + 63) / 64))) (fun k => ?_) (bitsOf_l0 l hb h5 l.length 0 (by omega))
 unfold spec_BitsOf.f
 rw [if_neg (by omega)]
 rfl
/-- Whether words are the words of a list of n bits. -/
def okB (n : Int) (ws : List Int) : Bool := decide (0 ≤ n ∧ n ≤ 5000 ∧ ws.length = (n.toNat + 63) / 64 ∧ wordsOf (bitsL n.toNat ws) = ws)
theorem bitsL_get01 (n : Nat) (ws : List Int) : ∀ i, i < (bitsL n ws).length → (bitsL n ws).getD i 0 = 0 ∨ (bitsL n ws).getD i 0 = 1 := by
 intro i hi
 rw [bitsL_length] at hi
 rw [bitsL_get _ _ _ hi]
 exact bitAt_01 ws i
theorem specBitsOk_l0 (n : Int) (ws : List Int) (m : Int) (ys : List Int) (hl : ws.length = ys.length) (h5 : ws.length ≤ 1000000) (d : Nat) : ∀ i : Nat, i + d = ws.length → ws.take i = ys.take i → Ev (fun k => spec_BitsOk.l0 k (i : Int) n ws m ys) (decide (ys = ws)) := by
 induction d with
 | zero =>
  intro i h he
  refine Ev.step (f := fun _ => some _) (fun k => ?_) (Ev.now _)
  rw [List.take_of_length_le (by omega), List.take_of_length_le (by omega)] at he
  rw [spec_BitsOk.l0, if_neg (by omega), decide_eq_true he.symm]
 | succ d ih =>
  intro i h he
  by_cases q : ws.getD i 0 = ys.getD i 0
  ·refine Ev.step (f := fun k => spec_BitsOk.l0 k ((i + 1 : Nat) : Int) n ws m ys) (fun k => ?_) (ih (i + 1) (by omega) ?_)
   ·rw [spec_BitsOk.l0, if_pos (by omega), if_pos (by omega), if_pos (by omega), rd_nat, rd_nat, if_pos q, w64 (by omega) (by omega)]
    rfl
   ·rw [take_succ_getD ws 0 i (by omega), take_succ_getD ys 0 i (by omega), he, q]
  ·refine Ev.step (f := fun _ => some _) (fun k => ?_) (Ev.now _)
   rw [spec_BitsOk.l0, if_pos (by omega), if_pos (by omega), if_pos (by omega), rd_nat, rd_nat, if_neg q, decide_eq_false]
   intro e
   exact q (by rw [e])
theorem specBitsOk_ev (n : Int) (ws : List Int) (hw : Words ws) (hl : ws.length ≤ 4000000) (hn : -9223372036854775808 ≤ n) : Ev (fun k => spec_BitsOk.f k n ws) (okB n ws) := by
 by_cases h0 : n < 0
 ·refine Ev.congr (f := fun k => spec_BitsOk.j0 k true n ws) (fun k => ?_) (Ev.step (f := fun _ => some _) (fun k => ?_) (Ev.now _))
  ·unfold spec_BitsOk.f
   rw [if_pos h0]
  ·rw [spec_BitsOk.j0, if_pos rfl, okB, decide_eq_false (by omega)]
 by_cases h1 : n > 5000
 ·refine Ev.congr (f := fun k => spec_BitsOk.j0 k true n ws) (fun k => ?_) (Ev.step (f := fun _ => some _) (fun k => ?_) (Ev.now _))
  ·unfold spec_BitsOk.f
   rw [if_neg h0, if_pos h1]
  ·rw [spec_BitsOk.j0, if_pos rfl, okB, decide_eq_false (by omega)]
 obtain ⟨n, rfl⟩ := Int.eq_ofNat_of_zero_le (show 0 ≤ n by omega)
 have e : wrap64 (Int.tdiv (wrap64 ((n : Int) + 63)) 64) = (((n + 63) / 64 : Nat) : Int) := by
  rw [w64 (x := (n : Int) + 63) (by omega) (by omega), show (n : Int) + 63 = ((n + 63 : Nat) : Int) by omega, td64, w64 (by omega) (by omega)]
 have key : Ev (fun k => spec_BitsOk.j0 k ((ws.length : Int) != (((n + 63) / 64 : Nat) : Int)) (n : Int) ws) (okB (n : Int) ws) := by
  by_cases q : ws.length = (n + 63) / 64
  ·have hn' : n ≤ 64 * ws.length := by omega
   obtain ⟨K1, k1⟩ := ev_out (l01List_ev n ws hw hn' (by omega))
   obtain ⟨K2, k2⟩ := ev_out (specBitsOf_ev (bitsL n ws) (bitsL_get01 n ws) (by rw [bitsL_length]; omega))
   have hlen : (wordsOf (bitsL n ws)).length = ws.length := by rw [wordsOf, wordsTo_length, bitsL_length, q]
   obtain ⟨K3, k3⟩ := ev_out (specBitsOk_l0 (n : Int) ws ((bitsL n ws).length : Int) (wordsOf (bitsL n ws)) hlen.symm (by omega) ws.length 0 (by omega) rfl)
   refine ev_mk (K1 + K2 + K3 + 1) fun k hk => ?_
   obtain ⟨k, rfl⟩ : ∃ m, k = m + 1 := ⟨k - 1, by omega⟩
   rw [spec_BitsOk.j0, if_neg (by rw [bne_iff_ne, q]; simp), k1 k (by omega), Option.bind_some, k2 k (by omega), Option.bind_some]
   show spec_BitsOk.l0 k ((0 : Nat) : Int) (n : Int) ws ((bitsL n ws).length : Int) (wordsOf (bitsL n ws)) = _
   rw [k3 k (by omega), okB, Int.toNat_natCast]
   congr 1
   exact decide_eq_decide.2 ⟨fun h => ⟨by omega, by omega, q, h⟩, fun h => h.2.2.2⟩
  ·refine Ev.step (f := fun _ => some _) (fun k => ?_) (Ev.now _)
   rw [spec_BitsOk.j0, if_pos (by rw [bne_iff_ne]; omega), okB, decide_eq_false (by rw [Int.toNat_natCast]; exact fun h => q h.2.2.1)]
 refine Ev.congr (fun k => ?_) key
 unfold spec_BitsOk.f
 rw [if_neg h0, if_neg h1, e]
theorem and1 (a : Nat) (h : a < 18446744073709551616) : Go.bits .and .u64 (a : Int) 1 = ((a % 2 : Nat) : Int) := by
 have := bits_mask .u64 64 (by decide) (fun n h0 h1 => wu64 h0 (by omega)) 1 (by decide) (a : Int) (by omega) (by omega)
 rw [show ((2 : Int) ^ 1 - 1) = 1 by decide] at this
 rw [this]
 omega
theorem shr_nat (a m : Nat) (h : m < 64) : shr .u64 (a : Int) ((m : Nat) : Int) = ((a / 2 ^ m : Nat) : Int) := by
 unfold shr
 rw [Int.toNat_natCast, show min m IntKind.u64.bits = m by show min m 64 = m; omega]
 simp
theorem at_ev (n : Int) (ws : List Int) (hw : Words ws) (i : Nat) (hi : i < 64 * ws.length) (h5 : i ≤ 1000000) : impl_Bits_at.f n ws (i : Int) = some (bitAt ws i) := by
 obtain ⟨a, ea, ha⟩ := hw.get (i / 64) (by omega)
 have hd : a / 2 ^ (i % 64) ≤ a := Nat.div_le_self _ _
 unfold impl_Bits_at.f
 rw [td64, tm64, w64 (by omega) (by omega), if_pos (by omega), if_pos (by omega), if_pos (by omega), rd_nat, ea, shr_nat _ _ (by omega), and1 _ (by omega), w64 (by omega) (by omega), bitAt_nat ea]
theorem list_l0 (n : Nat) (ws : List Int) (hw : Words ws) (hn : n ≤ 64 * ws.length) (h5 : n ≤ 5000) (d : Nat) : ∀ i : Nat, i + d = n → Ev (fun k => impl_Bits_list.l0 k (bitsL i ws) (n : Int) (i : Int) (n : Int) ws) (bitsL n ws) := by
 induction d with
 | zero =>
  intro i h
  obtain rfl : i = n := by omega
  refine Ev.step (f := fun _ => some _) (fun k => ?_) (Ev.now _)
  rw [impl_Bits_list.l0, if_neg (by omega)]
 | succ d ih =>
  intro i h
  refine Ev.step (fun k => ?_) (ih (i + 1) (by omega))
  rw [impl_Bits_list.l0, if_pos (by omega), at_ev _ _ hw i (by omega) (by omega), Option.bind_some, if_pos (by rw [bitsL_length]; omega), w64 (by omega) (by omega), bitsL_succ]
  rfl
theorem list_ev (n : Nat) (ws : List Int) (hw : Words ws) (hn : n ≤ 64 * ws.length) (h5 : n ≤ 5000) : Ev (fun k => impl_Bits_list.f k (n : Int) ws) (bitsL n ws) :=
 Ev.congr (f := fun k => impl_Bits_list.l0 k (bitsL 0 ws) (n : Int) ((0 : Nat) : Int) (n : Int) ws) (fun _ => rfl) (list_l0 n ws hw hn h5 n 0 (by omega))
theorem implBitsOk_ev (n : Int) (ws : List Int) (hw : Words ws) (hl : ws.length ≤ 4000000) (hn : -9223372036854775808 ≤ n) : impl_BitsOk.f n ws = some (okB n ws) := by
 unfold impl_BitsOk.f impl_within.f
 by_cases h0 : 0 ≤ n
 case neg =>
  rw [if_neg h0, Option.bind_some, if_neg (by decide), okB, decide_eq_false (by omega)]
 rw [if_pos h0, Option.bind_some]
 by_cases h1 : n ≤ 5000
 case neg =>
  rw [decide_eq_false h1, if_neg (by decide), okB, decide_eq_false (by omega)]
 rw [decide_eq_true h1, if_pos rfl]
 obtain ⟨n, rfl⟩ := Int.eq_ofNat_of_zero_le h0
 have e : wrap64 (Int.tdiv (wrap64 ((wrap64 ((n : Int) + 64)) - 1)) 64) = (((n + 63) / 64 : Nat) : Int) := by
  rw [w64 (x := (n : Int) + 64) (by omega) (by omega), w64 (x := (n : Int) + 64 - 1) (by omega) (by omega), show (n : Int) + 64 - 1 = ((n + 63 : Nat) : Int) by omega, td64, w64 (by omega) (by omega)]
 rw [e]
 by_cases q : ws.length = (n + 63) / 64
 case neg =>
  rw [if_neg (by omega), okB, decide_eq_false (by rw [Int.toNat_natCast]; exact fun h => q h.2.2.1)]
 rw [if_pos (by omega), tm64]
 have W := wordsOf_bits n ws hw q
 have fin : ∀ b : Bool, (b = true ↔ (n % 64 = 0 ∨ ws.getD (ws.length - 1) 0 / 2 ^ (n % 64) = 0)) → some b = some (okB (n : Int) ws) := by
  intro b hb
  congr 1
  rw [Bool.eq_iff_iff, hb, ← W, okB, decide_eq_true_iff, Int.toNat_natCast]
  exact ⟨fun h => ⟨by omega, by omega, q, h⟩, fun h => h.2.2.2⟩
 by_cases z : n % 64 = 0
 ·rw [if_pos (by omega)]
  exact fin true ⟨fun _ => .inl z, fun _ => rfl⟩
 ·obtain ⟨a, ea, ha⟩ := hw.get (ws.length - 1) (by omega)
  rw [if_neg (by omega), w64 (by omega) (by omega), if_pos (by omega), if_pos (by omega), if_pos (by omega), show (ws.length : Int) - 1 = ((ws.length - 1 : Nat) : Int) by omega, rd_nat, ea, shr_nat _ _ (by omega)]
  refine fin _ ?_
  rw [beq_iff_eq, ea]
  constructor
  ·intro h
   right
   have : ((a : Int) / 2 ^ (n % 64)) = ((a / 2 ^ (n % 64) : Nat) : Int) := by simp
   rw [this]
   exact h
  ·rintro (h | h)
   ·exact absurd h z
   ·have : ((a : Int) / 2 ^ (n % 64)) = ((a / 2 ^ (n % 64) : Nat) : Int) := by simp
    rw [this] at h
    exact h
theorem toIntS_l0 (l : List Int) (hl : l.length ≤ 4000000) (d : Nat) : ∀ i : Nat, i + d = l.length → Ev (fun k => laws_toIntS.l0 k l (i : Int) (l.take i ++ List.replicate d 0)) l := by
 induction d with
 | zero =>
  intro i h
  refine Ev.step (f := fun _ => some l) (fun k => ?_) (Ev.now l)
  rw [laws_toIntS.l0]
  rw [if_neg (by omega), List.take_of_length_le (by omega)]
  simp
 | succ d ih =>
  intro i h
  refine Ev.step (f := fun k => laws_toIntS.l0 k l ((i + 1 : Nat) : Int) (l.take (i + 1) ++ List.replicate d 0)) (fun k => ?_) (ih (i + 1) (by omega))
  rw [laws_toIntS.l0]
  rw [if_pos (by omega), if_pos (by omega), if_pos (by rw [fill_length l 0 i (d + 1) h]; omega), w64 (by omega) (by omega), rd_nat, Int.toNat_natCast, fill_set l 0 _ i d h rfl]
  rfl
theorem toIntS_ev (l : List Int) (hl : l.length ≤ 4000000) : Ev (fun k => laws_toIntS.f k l) l := by
 refine Ev.congr (f := fun k => laws_toIntS.l0 k l ((0 : Nat) : Int) (l.take 0 ++ List.replicate l.length 0)) (fun k => ?_) (toIntS_l0 l hl l.length 0 (by omega))
 unfold laws_toIntS.f
 rw [if_pos (by omega), Int.toNat_natCast, if_pos (by omega)]
 rfl
theorem eqIntS_l0 (l : List Int) (hl : l.length ≤ 4000000) (d : Nat) : ∀ i : Nat, i + d = l.length → Ev (fun k => laws_eqIntS.l0 k l l (i : Int)) true := by
 induction d with
 | zero =>
  intro i h
  refine Ev.step (f := fun _ => some true) (fun k => ?_) (Ev.now true)
  rw [laws_eqIntS.l0]
  rw [if_neg (by omega)]
 | succ d ih =>
  intro i h
  refine Ev.step (f := fun k => laws_eqIntS.l0 k l l ((i + 1 : Nat) : Int)) (fun k => ?_) (ih (i + 1) (by omega))
  rw [laws_eqIntS.l0]
  rw [if_pos (by omega), if_pos (by omega), if_pos (by omega), if_pos rfl, w64 (by omega) (by omega)]
  rfl
theorem eqIntS_ev (l : List Int) (hl : l.length ≤ 4000000) : Ev (fun k => laws_eqIntS.f k l l) true := by
 refine Ev.congr (f := fun k => laws_eqIntS.l0 k l l ((0 : Nat) : Int)) (fun k => ?_) (eqIntS_l0 l hl l.length 0 (by omega))
 unfold laws_eqIntS.f
 rw [if_pos rfl]
 rfl
theorem toUint64S_l0 (l : List Int) (hl : l.length ≤ 4000000) (d : Nat) : ∀ i : Nat, i + d = l.length → Ev (fun k => laws_toUint64S.l0 k l (i : Int) (l.take i ++ List.replicate d 0)) l := by
 induction d with
 | zero =>
  intro i h
  refine Ev.step (f := fun _ => some l) (fun k => ?_) (Ev.now l)
  rw [laws_toUint64S.l0]
  rw [if_neg (by omega), List.take_of_length_le (by omega)]
  simp
 | succ d ih =>
  intro i h
  refine Ev.step (f := fun k => laws_toUint64S.l0 k l ((i + 1 : Nat) : Int) (l.take (i + 1) ++ List.replicate d 0)) (fun k => ?_) (ih (i + 1) (by omega))
  rw [laws_toUint64S.l0]
  rw [if_pos (by omega), if_pos (by omega), if_pos (by rw [fill_length l 0 i (d + 1) h]; omega), w64 (by omega) (by omega), rd_nat, Int.toNat_natCast, fill_set l 0 _ i d h rfl]
  rfl
theorem toUint64S_ev (l : List Int) (hl : l.length ≤ 4000000) : Ev (fun k => laws_toUint64S.f k l) l := by
 refine Ev.congr (f := fun k => laws_toUint64S.l0 k l ((0 : Nat) : Int) (l.take 0 ++ List.replicate l.length 0)) (fun k => ?_) (toUint64S_l0 l hl l.length 0 (by omega))
 unfold laws_toUint64S.f
 rw [if_pos (by omega), Int.toNat_natCast, if_pos (by omega)]
 rfl
theorem eqUint64S_l0 (l : List Int) (hl : l.length ≤ 4000000) (d : Nat) : ∀ i : Nat, i + d = l.length → Ev (fun k => laws_eqUint64S.l0 k l l (i : Int)) true := by
 induction d with
 | zero =>
  intro i h
  refine Ev.step (f := fun _ => some true) (fun k => ?_) (Ev.now true)
  rw [laws_eqUint64S.l0]
  rw [if_neg (by omega)]
 | succ d ih =>
  intro i h
  refine Ev.step (f := fun k => laws_eqUint64S.l0 k l l ((i + 1 : Nat) : Int)) (fun k => ?_) (ih (i + 1) (by omega))
  rw [laws_eqUint64S.l0]
  rw [if_pos (by omega), if_pos (by omega), if_pos (by omega), if_pos rfl, w64 (by omega) (by omega)]
  rfl
theorem eqUint64S_ev (l : List Int) (hl : l.length ≤ 4000000) : Ev (fun k => laws_eqUint64S.f k l l) true := by
 refine Ev.congr (f := fun k => laws_eqUint64S.l0 k l l ((0 : Nat) : Int)) (fun k => ?_) (eqUint64S_l0 l hl l.length 0 (by omega))
 unfold laws_eqUint64S.f
 rw [if_pos rfl]
 rfl
theorem okI_out {n : Int} (h : Fv.OkI .i64 n) : -9223372036854775808 ≤ n ∧ n ≤ 9223372036854775807 := by
 have this : (Lit.int .i64 n).wf = true := h
 simp only [Lit.wf, IntKind.min, IntKind.max, IntKind.signed, IntKind.bits, Bool.and_eq_true, decide_eq_true_eq] at this
 simpa using this
theorem okW_out {ws : List Int} (h : Fv.OkL (Fv.OkI .u64) ws) : Words ws := by
 intro x hx
 have this : (Lit.int .u64 x).wf = true := h.2 x hx
 simp only [Lit.wf, IntKind.min, IntKind.max, IntKind.signed, IntKind.bits, Bool.and_eq_true, decide_eq_true_eq] at this
 have t2 : 0 ≤ x ∧ x ≤ 18446744073709551615 := by simpa using this
 omega
theorem sz_out (l : List Int) (a : Int) (h0 : 0 ≤ a) (h1 : a ≤ 1048576) (hl : l.length ≤ 9223372036854775807) : laws_szIntS.f l a = some (if a - (l.length : Int) < 0 then -1 else a - (l.length : Int)) ∧ laws_szUint64S.f l a = some (if a - (l.length : Int) < 0 then -1 else a - (l.length : Int)) := by
 constructor
 ·unfold laws_szIntS.f
  rw [w64 (by omega) (by omega)]
  by_cases q : a - (l.length : Int) < 0
  ·rw [if_pos q, if_pos q]
  ·rw [if_neg q, if_neg q]
 ·unfold laws_szUint64S.f
  rw [w64 (by omega) (by omega)]
  by_cases q : a - (l.length : Int) < 0
  ·rw [if_pos q, if_pos q]
  ·rw [if_neg q, if_neg q]
theorem szBits_out (n : Int) (l : List Int) (a : Int) (h0 : 0 ≤ a) (h1 : a ≤ 1048576) (hl : l.length ≤ 9223372036854775807) : laws_szBits.f n l a = some (if a - (l.length : Int) < 0 then -1 else a - (l.length : Int)) := by
 unfold laws_szBits.f
 rw [(sz_out l a h0 h1 hl).2, Option.bind_some]
 by_cases q : a - (l.length : Int) < 0
 ·rw [if_pos q, if_pos (by decide)]
 ·rw [if_neg q, if_neg q]
theorem drop_cons (l : List Int) (i : Nat) (h : i < l.length) : l.drop i = l.getD i 0 :: l.drop (i + 1) := by
 rw [List.drop_eq_getElem_cons h, lget_lt _ _ _ h]
theorem count01 (l : List Int) (h : ∀ x ∈ l, x = 0 ∨ x = 1) : l.count 0 + l.count 1 = l.length := by
 induction l with
 | nil => rfl
 | cons x xs ih =>
  have := ih fun y hy => h y (List.mem_cons_of_mem _ hy)
  rw [List.count_cons, List.count_cons, List.length_cons]
  rcases h x (List.mem_cons_self ..) with q | q <;> rw [q] <;> simp <;> omega
theorem count_drop (l : List Int) (v : Int) (i : Nat) (h : i < l.length) : (l.drop i).count v = (l.drop (i + 1)).count v + if l.getD i 0 = v then 1 else 0 := by
 rw [drop_cons l i h, List.count_cons]
 congr 1
 by_cases q : l.getD i 0 = v
 ·rw [if_pos q, if_pos (by simpa using q)]
 ·rw [if_neg q, if_neg (by simpa using q)]
theorem count_le (l : List Int) (v : Int) : l.count v ≤ l.length := List.count_le_length
theorem count_l0 (l : List Int) (v : Int) (h5 : l.length ≤ 5000) (d : Nat) : ∀ (i : Nat) (c : Nat), i + d = l.length → c ≤ i → Ev (fun k => impl_count.l0 k v (c : Int) l (l.length : Int) (i : Int)) ((c + (l.drop i).count v : Nat) : Int) := by
 induction d with
 | zero =>
  intro i c hi ha
  obtain rfl : i = l.length := by omega
  refine Ev.step (f := fun _ => some _) (fun k => ?_) (Ev.now _)
  rw [impl_count.l0, if_neg (by omega), List.drop_length]
  rfl
 | succ d ih =>
  intro i c hi ha
  rw [count_drop l v i (by omega)]
  have e1 : wrap64 ((i : Int) + 1) = ((i + 1 : Nat) : Int) := w64 (by omega) (by omega)
  by_cases q : l.getD i 0 = v
  ·refine Ev.step (fun k => ?_) (by rw [if_pos q, show c + ((l.drop (i + 1)).count v + 1) = c + 1 + (l.drop (i + 1)).count v by omega]; exact ih (i + 1) (c + 1) (by omega) (by omega))
   rw [impl_count.l0, if_pos (by omega), if_pos (by omega), if_pos (by omega), rd_nat, if_pos q, w64 (x := (c : Int) + 1) (by omega) (by omega), e1]
   rfl
  ·refine Ev.step (fun k => ?_) (by rw [if_neg q, Nat.add_zero]; exact ih (i + 1) c (by omega) (by omega))
   rw [impl_count.l0, if_pos (by omega), if_pos (by omega), if_pos (by omega), rd_nat, if_neg q, e1]
theorem okB_out {n : Int} {ws : List Int} (h : okB n ws = true) : 0 ≤ n ∧ n ≤ 5000 ∧ ws.length = (n.toNat + 63) / 64 := by
 have := of_decide_eq_true h
 exact ⟨this.1, this.2.1, this.2.2.1⟩
theorem rank_l0 (l : List Int) (v : Int) (h5 : l.length ≤ 5000) (d : Nat) : ∀ (i c : Nat), i + d = l.length → c ≤ i → Ev (fun k => spec_Rank.l0 k v (l.length : Int) (c : Int) (i : Int) l) ((c + (l.drop i).count v : Nat) : Int) := by
 induction d with
 | zero =>
  intro i c hi ha
  obtain rfl : i = l.length := by omega
  refine Ev.step (f := fun _ => some _) (fun k => ?_) (Ev.now _)
  rw [spec_Rank.l0, if_neg (by omega), List.drop_length]
  rfl
 | succ d ih =>
  intro i c hi ha
  rw [count_drop l v i (by omega)]
  have e1 : wrap64 ((i : Int) + 1) = ((i + 1 : Nat) : Int) := w64 (by omega) (by omega)
  by_cases q : l.getD i 0 = v
  ·refine Ev.step (fun k => ?_) (by rw [if_pos q, show c + ((l.drop (i + 1)).count v + 1) = c + 1 + (l.drop (i + 1)).count v by omega]; exact ih (i + 1) (c + 1) (by omega) (by omega))
   rw [spec_Rank.l0, if_pos (by omega), if_pos (by omega), if_pos (by omega), rd_nat, if_pos q, w64 (x := (c : Int) + 1) (by omega) (by omega), e1]
   rfl
  ·refine Ev.step (fun k => ?_) (by rw [if_neg q, Nat.add_zero]; exact ih (i + 1) c (by omega) (by omega))
   rw [spec_Rank.l0, if_pos (by omega), if_pos (by omega), if_pos (by omega), rd_nat, if_neg q, e1]
theorem rank_ev (n : Nat) (ws : List Int) (v : Int) (hv : v = 0 ∨ v = 1) (hw : Words ws) (hl : ws.length ≤ 4000000) (ok : okB (n : Int) ws = true) : Ev (fun k => spec_Rank.f k (n : Int) ws v (n : Int)) (((bitsL n ws).count v : Nat) : Int) := by
 obtain ⟨_, b, q⟩ := okB_out ok
 rw [Int.toNat_natCast] at q
 have e := bitsL_length n ws
 obtain ⟨K1, k1⟩ := ev_out (specBitsOk_ev (n : Int) ws hw hl (by omega))
 obtain ⟨K2, k2⟩ := ev_out (l01List_ev n ws hw (by omega) (by omega))
 have h := rank_l0 (bitsL n ws) v (by omega) (bitsL n ws).length 0 0 (by omega) (by omega)
 rw [Nat.zero_add, List.drop_zero, e] at h
 obtain ⟨K3, k3⟩ := ev_out h
 refine ev_mk (K1 + K2 + K3 + 1) fun k hk => ?_
 obtain ⟨k, rfl⟩ : ∃ m, k = m + 1 := ⟨k - 1, by omega⟩
 have hb : spec_l01Bit.f v = some true := by
  unfold spec_l01Bit.f
  rcases hv with rfl | rfl
  ·rw [if_pos rfl]
  ·rw [if_neg (by decide)]; rfl
 unfold spec_Rank.f
 rw [k1 _ (by omega), Option.bind_some, if_pos ok, hb, Option.bind_some, if_pos rfl, if_neg (by omega), decide_eq_false (by omega), spec_Rank.j0, if_neg (by decide), k2 _ (by omega), Option.bind_some]
 exact k3 k (by omega)
theorem rdT64 (l : List S64) (i : Nat) : rd_T64 l (i : Int) = l.getD i z64 := by unfold rd_T64; rw [Int.toNat_natCast]
theorem rdT74 (l : List S74) (i : Nat) : rd_T74 l (i : Int) = l.getD i z74 := by unfold rd_T74; rw [Int.toNat_natCast]
def cv (s : S74) : S64 := ⟨s.f0, s.f1⟩
theorem cv_get (l : List S74) (i : Nat) (h : i < l.length) : (l.map cv).getD i z64 = cv (l.getD i z74) := by
 rw [lget_lt _ _ _ (by rw [List.length_map]; exact h), lget_lt _ _ _ h, List.getElem_map]
theorem toBits_ev (n : Int) (ws : List Int) (h : ws.length ≤ 4000000) : Ev (fun k => laws_toBits.f k n ws) (n, ws) := by
 obtain ⟨K0, h0⟩ := ev_out (toUint64S_ev ws h)
 refine ev_mk K0 fun k hk => ?_
 unfold laws_toBits.f
 rw [h0 k hk, Option.bind_some]
theorem toBitsS_l0 (l : List S74) (hl : l.length ≤ 4000000) (hw : ∀ i, i < l.length → (l.getD i z74).f1.length ≤ 4000000) (d : Nat) : ∀ i : Nat, i + d = l.length → Ev (fun k => laws_toBitsS.l0 k l (i : Int) ((l.map cv).take i ++ List.replicate d z64)) (l.map cv) := by
 induction d with
 | zero =>
  intro i h
  refine Ev.step (f := fun _ => some _) (fun k => ?_) (Ev.now (l.map cv))
  rw [laws_toBitsS.l0]
  rw [if_neg (by omega), List.take_of_length_le (by rw [List.length_map]; omega)]
  simp
 | succ d ih =>
  intro i h
  obtain ⟨K0, h0⟩ := ev_out (toBits_ev (l.getD i z74).f0 (l.getD i z74).f1 (hw i (by omega)))
  obtain ⟨K1, h1⟩ := ev_out (ih (i + 1) (by omega))
  refine ev_mk (K0 + K1 + 1) fun k hk => ?_
  obtain ⟨k, rfl⟩ : ∃ m, k = m + 1 := ⟨k - 1, by omega⟩
  rw [laws_toBitsS.l0]
  rw [if_pos (by omega), if_pos (by omega), rdT74, h0 k (by omega), Option.bind_some, if_pos (by rw [fill_length (l.map cv) z64 i (d + 1) (by rw [List.length_map]; omega), List.length_map]; omega), w64 (by omega) (by omega), Int.toNat_natCast]
  change laws_toBitsS.l0 k l ((i : Int) + 1) (((l.map cv).take i ++ List.replicate (d + 1) z64).set i (cv (l.getD i z74))) = _
  rw [fill_set (l.map cv) z64 _ i d (by rw [List.length_map]; omega) (cv_get l i (by omega)).symm]
  exact h1 k (by omega)
theorem toBitsS_ev (l : List S74) (hl : l.length ≤ 4000000) (hw : ∀ i, i < l.length → (l.getD i z74).f1.length ≤ 4000000) : Ev (fun k => laws_toBitsS.f k l) (l.map cv) := by
 refine Ev.congr (f := fun k => laws_toBitsS.l0 k l ((0 : Nat) : Int) ((l.map cv).take 0 ++ List.replicate l.length z64)) (fun k => ?_) (toBitsS_l0 l hl hw l.length 0 (by omega))
 unfold laws_toBitsS.f
 rw [if_pos (by omega), Int.toNat_natCast, if_pos (by omega)]
 rfl
theorem toWave_ev (N : Int) (Z : List Int) (l : List S74) (hZ : Z.length ≤ 4000000) (hl : l.length ≤ 4000000) (hw : ∀ i, i < l.length → (l.getD i z74).f1.length ≤ 4000000) : Ev (fun k => laws_toWave.f k N Z l) (N, Z, l.map cv) := by
 obtain ⟨K0, h0⟩ := ev_out (toIntS_ev Z hZ)
 obtain ⟨K1, h1⟩ := ev_out (toBitsS_ev l hl hw)
 refine ev_mk (K0 + K1) fun k hk => ?_
 unfold laws_toWave.f
 rw [h0 k (by omega), Option.bind_some, h1 k (by omega), Option.bind_some]
theorem eqBitsS_l0 (l : List S64) (hl : l.length ≤ 4000000) (hw : ∀ i, i < l.length → (l.getD i z64).f1.length ≤ 4000000) (d : Nat) : ∀ i : Nat, i + d = l.length → Ev (fun k => laws_eqBitsS.l0 k l l (i : Int)) true := by
 induction d with
 | zero =>
  intro i h
  refine Ev.step (f := fun _ => some true) (fun k => ?_) (Ev.now true)
  rw [laws_eqBitsS.l0]
  rw [if_neg (by omega)]
 | succ d ih =>
  intro i h
  obtain ⟨K0, h0⟩ := ev_out (eqUint64S_ev (l.getD i z64).f1 (hw i (by omega)))
  obtain ⟨K1, h1⟩ := ev_out (ih (i + 1) (by omega))
  refine ev_mk (K0 + K1 + 1) fun k hk => ?_
  obtain ⟨k, rfl⟩ : ∃ m, k = m + 1 := ⟨k - 1, by omega⟩
  rw [laws_eqBitsS.l0]
  unfold laws_eqBits.f
  rw [if_pos (by omega), if_pos (by omega), if_pos (by omega), rdT64, if_pos rfl, h0 k (by omega), Option.bind_some, if_pos rfl, Option.bind_some, if_pos rfl, w64 (by omega) (by omega)]
  exact h1 k (by omega)
theorem eqWave_ev (N : Int) (Z : List Int) (l : List S64) (hZ : Z.length ≤ 4000000) (hl : l.length ≤ 4000000) (hw : ∀ i, i < l.length → (l.getD i z64).f1.length ≤ 4000000) : Ev (fun k => laws_eqWave.f k N Z l N Z l) true := by
 obtain ⟨K0, h0⟩ := ev_out (eqIntS_ev Z hZ)
 obtain ⟨K1, h1⟩ := ev_out (eqBitsS_l0 l hl hw l.length 0 (by omega))
 refine ev_mk (K0 + K1) fun k hk => ?_
 unfold laws_eqWave.f laws_eqBitsS.f
 rw [if_pos rfl, h0 k (by omega), Option.bind_some, if_pos rfl, if_pos rfl, show laws_eqBitsS.l0 k l l 0 = some true from h1 k (by omega), Option.bind_some, if_pos rfl]
theorem szBitsS_l0 (l : List S74) (hl : l.length ≤ 1048576) (hw : ∀ i, i < l.length → (l.getD i z74).f1.length ≤ 9223372036854775807) (d : Nat) : ∀ (i : Nat) (a : Int), i + d = l.length → 0 ≤ a → a ≤ 1048576 → ∃ t, Ev (fun k => laws_szBitsS.l0 k l a (i : Int)) t ∧ (¬ t < 0 → ∀ j, i ≤ j → j < l.length → (l.getD j z74).f1.length ≤ 1048576) := by
 induction d with
 | zero =>
  intro i a h h0 h1
  refine ⟨a, Ev.step (f := fun _ => some a) (fun k => ?_) (Ev.now a), fun _ j hj hj2 => by omega⟩
  rw [laws_szBitsS.l0, if_neg (by omega)]
 | succ d ih =>
  intro i a h h0 h1
  have hs := szBits_out (l.getD i z74).f0 (l.getD i z74).f1 a h0 h1 (hw i (by omega))
  by_cases q : a - ((l.getD i z74).f1.length : Int) < 0
  ·refine ⟨-1, Ev.step (f := fun _ => some (-1)) (fun k => ?_) (Ev.now _), fun h => absurd (by decide) h⟩
   rw [laws_szBitsS.l0, if_pos (by omega), if_pos (by omega), rdT74, hs, if_pos q, Option.bind_some, if_pos (by decide)]
  ·obtain ⟨t, ht, hb⟩ := ih (i + 1) (a - ((l.getD i z74).f1.length : Int)) (by omega) (by omega) (by omega)
   refine ⟨t, Ev.step (fun k => ?_) ht, fun h j hj hj2 => ?_⟩
   ·rw [laws_szBitsS.l0, if_pos (by omega), if_pos (by omega), rdT74, hs, if_neg q, Option.bind_some, if_neg q, w64 (by omega) (by omega)]
    rfl
   ·rcases Nat.lt_or_ge i j with c | c
    ·exact hb h j (by omega) hj2
    ·obtain rfl : j = i := by omega
     omega
theorem szWave_ev (N : Int) (Z : List Int) (l : List S74) (hZ : Z.length ≤ 9223372036854775807) (hl : l.length ≤ 9223372036854775807) (hw : ∀ i, i < l.length → (l.getD i z74).f1.length ≤ 9223372036854775807) : ∃ t, Ev (fun k => laws_szWave.f k N Z l 1048576) t ∧ (¬ t < 0 → Z.length ≤ 1048576 ∧ l.length ≤ 1048576 ∧ ∀ j, j < l.length → (l.getD j z74).f1.length ≤ 1048576) := by
 have hs := (sz_out Z 1048576 (by omega) (by omega) hZ).1
 by_cases q1 : (1048576 : Int) - (Z.length : Int) < 0
 ·refine ⟨-1, Ev.congr (f := fun _ => some (-1)) (fun k => ?_) (Ev.now _), fun h => absurd (by decide) h⟩
  unfold laws_szWave.f
  rw [hs, if_pos q1, Option.bind_some, if_pos (by decide)]
 by_cases q2 : (1048576 : Int) - (Z.length : Int) - (l.length : Int) < 0
 ·refine ⟨-1, Ev.congr (f := fun _ => some (-1)) (fun k => ?_) (Ev.now _), fun h => absurd (by decide) h⟩
  unfold laws_szWave.f laws_szBitsS.f
  rw [hs, if_neg q1, Option.bind_some, if_neg q1, w64 (by omega) (by omega), if_pos q2, Option.bind_some, if_pos (by decide)]
 ·obtain ⟨t, ht, hb⟩ := szBitsS_l0 l (by omega) hw l.length 0 ((1048576 : Int) - (Z.length : Int) - (l.length : Int)) (by omega) (by omega) (by omega)
  obtain ⟨K0, h0⟩ := ev_out ht
  by_cases q3 : t < 0
  ·refine ⟨-1, ev_mk K0 fun k hk => ?_, fun h => absurd (by decide) h⟩
   unfold laws_szWave.f laws_szBitsS.f
   rw [hs, if_neg q1, Option.bind_some, if_neg q1, w64 (by omega) (by omega), if_neg q2, show laws_szBitsS.l0 k l _ 0 = some t from h0 k hk, Option.bind_some, if_pos q3]
  ·refine ⟨t, ev_mk K0 fun k hk => ?_, fun _ => ⟨by omega, by omega, fun j hj => hb q3 j (by omega) hj⟩⟩
   unfold laws_szWave.f laws_szBitsS.f
   rw [hs, if_neg q1, Option.bind_some, if_neg q1, w64 (by omega) (by omega), if_neg q2, show laws_szBitsS.l0 k l _ 0 = some t from h0 k hk, Option.bind_some, if_neg q3]
def stepB (B : List Int) (p : Nat) : Nat := if B.getD p 0 = 1 then B.count 0 + (B.take p).count 1 else (B.take p).count 0
theorem count_take (l : List Int) (v : Int) (i : Nat) (h : i < l.length) : (l.take (i + 1)).count v = (l.take i).count v + if l.getD i 0 = v then 1 else 0 := by
 rw [take_succ_getD l 0 i h, List.count_append, List.count_singleton]
 congr 1
 by_cases q : l.getD i 0 = v
 ·rw [if_pos q, if_pos (by simpa using q)]
 ·rw [if_neg q, if_neg (by simpa using q)]
theorem count_take_le (l : List Int) (v : Int) (i : Nat) : (l.take i).count v ≤ l.count v := List.Sublist.count_le v (List.take_sublist i l)
theorem count_take_len (l : List Int) (v : Int) (i : Nat) : (l.take i).count v ≤ i := Nat.le_trans (count_le _ _) (by rw [List.length_take]; omega)
theorem stepB_lt (B : List Int) (h01 : ∀ x ∈ B, x = 0 ∨ x = 1) (p : Nat) (h : p < B.length) : stepB B p < B.length := by
 unfold stepB
 have h1 := count01 B h01
 by_cases q : B.getD p 0 = 1
 ·rw [if_pos q]
  have h2 := count_take B 1 p h
  rw [if_pos q] at h2
  have h3 := count_take_le B 1 (p + 1)
  omega
 ·rw [if_neg q]
  have := count_take_len B 0 p
  omega
def st (Bf : Nat → List Int) (i : Nat) : Nat → Nat × Nat
 | 0 => (i, 0)
 | l + 1 => (stepB (Bf l) (st Bf i l).1, 2 * (st Bf i l).2 + ((Bf l).getD (st Bf i l).1 0).toNat)
theorem st_lt (Bf : Nat → List Int) (n i : Nat) (hi : i < n) : ∀ l, (∀ m, m < l → (Bf m).length = n ∧ ∀ x ∈ Bf m, x = 0 ∨ x = 1) → (st Bf i l).1 < n
 | 0, _ => hi
 | l + 1, h => by
  have h1 := st_lt Bf n i hi l (fun m hm => h m (by omega))
  have h2 := h l (by omega)
  have h3 := stepB_lt (Bf l) h2.2 (st Bf i l).1 (by omega)
  rw [h2.1] at h3
  exact h3
theorem get01 (B : List Int) (h01 : ∀ x ∈ B, x = 0 ∨ x = 1) (p : Nat) (h : p < B.length) : B.getD p 0 = 0 ∨ B.getD p 0 = 1 := by
 rw [lget_lt _ _ _ h]
 exact h01 _ (List.getElem_mem h)
theorem st_val (Bf : Nat → List Int) (n i : Nat) (hi : i < n) : ∀ l, (∀ m, m < l → (Bf m).length = n ∧ ∀ x ∈ Bf m, x = 0 ∨ x = 1) → (st Bf i l).2 < 2 ^ l
 | 0, _ => by show 0 < 1; omega
 | l + 1, h => by
  have h1 := st_val Bf n i hi l (fun m hm => h m (by omega))
  have h2 := h l (by omega)
  have h3 := get01 (Bf l) h2.2 (st Bf i l).1 (by rw [h2.1]; exact st_lt Bf n i hi l (fun m hm => h m (by omega)))
  show 2 * (st Bf i l).2 + ((Bf l).getD (st Bf i l).1 0).toNat < 2 ^ (l + 1)
  rw [Nat.pow_succ]
  omega
def valL (Bf : Nat → List Int) (l n : Nat) : List Int := (List.range n).map fun i => ((st Bf i l).2 : Int)
def posL (Bf : Nat → List Int) (l n : Nat) : List Int := (List.range n).map fun i => ((st Bf i l).1 : Int)
theorem valL_length (Bf : Nat → List Int) (l n : Nat) : (valL Bf l n).length = n := by simp [valL]
theorem posL_length (Bf : Nat → List Int) (l n : Nat) : (posL Bf l n).length = n := by simp [posL]
theorem valL_get (Bf : Nat → List Int) (l n i : Nat) (h : i < n) : (valL Bf l n).getD i 0 = ((st Bf i l).2 : Int) := by
 rw [lget_lt _ _ _ (by rw [valL_length]; exact h)]
 simp [valL]
theorem posL_get (Bf : Nat → List Int) (l n i : Nat) (h : i < n) : (posL Bf l n).getD i 0 = ((st Bf i l).1 : Int) := by
 rw [lget_lt _ _ _ (by rw [posL_length]; exact h)]
 simp [posL]
theorem valL_zero (Bf : Nat → List Int) (n : Nat) : valL Bf 0 n = List.replicate n 0 := by
 apply List.ext_getElem
 ·simp [valL]
 ·intro i h1 h2
  simp [valL, st]
theorem posL_zero (Bf : Nat → List Int) (n i : Nat) (h : i < n) : (posL Bf 0 n).getD i 0 = (i : Int) := posL_get Bf 0 n i h
def nextL (B : List Int) : List Int := (List.range B.length).map fun p => (stepB B p : Int)
theorem nextL_length (B : List Int) : (nextL B).length = B.length := by simp [nextL]
theorem nextL_get (B : List Int) (p : Nat) (h : p < B.length) : (nextL B).getD p 0 = (stepB B p : Int) := by
 rw [lget_lt _ _ _ (by rw [nextL_length]; exact h)]
 simp [nextL]
theorem or_bit2 (n b : Nat) (hn : n < 1000000) (hb : b < 2) : Go.bits .or .i64 ((2 * n : Nat) : Int) (b : Int) = ((2 * n + b : Nat) : Int) := by
 have e : 2 * n ||| b = 2 * n + b := (Nat.two_pow_add_eq_or_of_lt (i := 1) (by omega) n).symm
 have o : ∀ a : Nat, a < 10000000 → (BitVec.ofInt 64 (a : Int)).toNat = a := fun a h => by rw [BitVec.ofInt_natCast, BitVec.toNat_ofNat]; exact Nat.mod_eq_of_lt (by omega)
 show IntKind.i64.wrap ((BitVec.ofInt 64 ((2 * n : Nat) : Int) ||| BitVec.ofInt 64 (b : Int)).toNat : Int) = _
 rw [BitVec.toNat_or, o _ (by omega), o _ (by omega), e, i64_w, w64 (by omega) (by omega)]
def lvB (N : Int) (Ls : List S64) (l : Nat) : List Int := bitsL N.toNat (Ls.getD l z64).f1
def okLv (N : Int) (Z : List Int) (Ls : List S64) (l : Nat) : Bool := decide ((Ls.getD l z64).f0 = N) && (okB (Ls.getD l z64).f0 (Ls.getD l z64).f1 && decide (((lvB N Ls l).count 0 : Int) = Z.getD l 0))
def lvOk (N : Int) (Z : List Int) (Ls : List S64) : Nat → Nat → Bool
 | 0, _ => true
 | d + 1, l => okLv N Z Ls l && lvOk N Z Ls d (l + 1)
def okW (N : Int) (Z : List Int) (Ls : List S64) : Bool := decide (0 ≤ N ∧ N ≤ 1000 ∧ Z.length = 9 ∧ Ls.length = 9) && lvOk N Z Ls 9 0
theorem lvB_length (N : Int) (Ls : List S64) (l : Nat) : (lvB N Ls l).length = N.toNat := bitsL_length _ _
theorem lvB_01 (N : Int) (Ls : List S64) (l : Nat) : ∀ x ∈ lvB N Ls l, x = 0 ∨ x = 1 := bitsL_01 _ _
theorem lvB_all (N : Int) (Ls : List S64) (l : Nat) : ∀ m, m < l → (lvB N Ls m).length = N.toNat ∧ ∀ x ∈ lvB N Ls m, x = 0 ∨ x = 1 := fun m _ => ⟨lvB_length N Ls m, lvB_01 N Ls m⟩
theorem okLv_out {N : Int} {Z : List Int} {Ls : List S64} {l : Nat} (h : okLv N Z Ls l = true) : (Ls.getD l z64).f0 = N ∧ okB N (Ls.getD l z64).f1 = true ∧ ((lvB N Ls l).count 0 : Int) = Z.getD l 0 := by
 unfold okLv at h
 rw [Bool.and_eq_true, Bool.and_eq_true] at h
 have h1 := of_decide_eq_true h.1
 refine ⟨h1, ?_, of_decide_eq_true h.2.2⟩
 have h2 := h.2.1
 rw [h1] at h2
 exact h2
theorem lvOk_all {N : Int} {Z : List Int} {Ls : List S64} : ∀ (d l : Nat), lvOk N Z Ls d l = true → ∀ m, l ≤ m → m < l + d → okLv N Z Ls m = true
 | 0, l, _, m, h1, h2 => by omega
 | d + 1, l, h, m, h1, h2 => by
  rw [lvOk, Bool.and_eq_true] at h
  rcases Nat.lt_or_ge l m with c | c
  ·exact lvOk_all d (l + 1) h.2 m c (by omega)
  ·obtain rfl : m = l := by omega
   exact h.1
theorem okWave_out {N : Int} {Z : List Int} {Ls : List S64} (h : okW N Z Ls = true) : 0 ≤ N ∧ N ≤ 1000 ∧ Z.length = 9 ∧ Ls.length = 9 ∧ ∀ l, l < 9 → okLv N Z Ls l = true := by
 unfold okW at h
 rw [Bool.and_eq_true] at h
 have h1 := of_decide_eq_true h.1
 exact ⟨h1.1, h1.2.1, h1.2.2.1, h1.2.2.2, fun l hl => lvOk_all 9 0 h.2 l (by omega) (by omega)⟩
def waveL (N : Int) (Ls : List S64) : List Int := valL (lvB N Ls) 9 N.toNat
theorem waveL_length (N : Int) (Ls : List S64) : (waveL N Ls).length = N.toNat := valL_length _ _ _
theorem bne_dec (a b : Int) : (a != b) = !decide (a = b) := by
 by_cases h : a = b
 ·rw [decide_eq_true h, h]
  simp
 ·rw [decide_eq_false h]
  simpa using h
theorem pow9 (l : Nat) (h : l ≤ 9) : 2 ^ l ≤ 512 := Nat.pow_le_pow_right (n := 2) (by decide) h
theorem specWaveOk_l0 (N : Int) (Z : List Int) (Ls : List S64) (h0 : 0 ≤ N) (h1 : N ≤ 1000) (hZ : Z.length = 9) (hL : Ls.length = 9) (hw : ∀ l, Words (Ls.getD l z64).f1) (hl : ∀ l, (Ls.getD l z64).f1.length ≤ 4000000) : ∀ d l : Nat, l + d = 9 → Ev (fun k => spec_WaveOk.l0 k (l : Int) N Z Ls) (lvOk N Z Ls d l) := by
 obtain ⟨n, rfl⟩ : ∃ n : Nat, N = (n : Int) := ⟨N.toNat, by omega⟩
 intro d
 induction d with
 | zero =>
  intro l h
  refine Ev.step (f := fun _ => some _) (fun k => ?_) (Ev.now _)
  rw [spec_WaveOk.l0, if_neg (by omega), lvOk]
 | succ d ih =>
  intro l h
  obtain ⟨K1, k1⟩ := ev_out (ih (l + 1) (by omega))
  have hbad : okLv (n : Int) Z Ls l = false → ∀ k, 1 ≤ k → spec_WaveOk.j2 k (l : Int) true (n : Int) Z Ls = some (lvOk (n : Int) Z Ls (d + 1) l) := by
   intro hf k hk
   obtain ⟨k, rfl⟩ : ∃ m, k = m + 1 := ⟨k - 1, by omega⟩
   rw [spec_WaveOk.j2, if_pos rfl, lvOk, hf, Bool.false_and]
  by_cases c1 : (Ls.getD l z64).f0 = (n : Int)
  ·obtain ⟨K2, k2⟩ := ev_out (specBitsOk_ev (n : Int) (Ls.getD l z64).f1 (hw l) (hl l) (by omega))
   by_cases c2 : okB (n : Int) (Ls.getD l z64).f1 = true
   ·obtain ⟨K3, k3⟩ := ev_out (rank_ev n (Ls.getD l z64).f1 0 (.inl rfl) (hw l) (hl l) c2)
    refine ev_mk (K1 + K2 + K3 + 2) fun k hk => ?_
    obtain ⟨k, rfl⟩ : ∃ m, k = m + 1 := ⟨k - 1, by omega⟩
    rw [spec_WaveOk.l0, if_pos (by omega), if_pos (by omega), if_pos (by omega), rdT64, if_pos c1, c1, k2 k (by omega), Option.bind_some, if_pos c2, k3 k (by omega), Option.bind_some, if_pos (by omega), rd_nat, bne_dec]
    by_cases c3 : (((bitsL n (Ls.getD l z64).f1).count 0 : Nat) : Int) = Z.getD l 0
    ·rw [decide_eq_true c3, Bool.not_true]
     obtain ⟨k, rfl⟩ : ∃ m, k = m + 1 := ⟨k - 1, by omega⟩
     rw [spec_WaveOk.j2, if_neg (by decide), w64 (by omega) (by omega)]
     have h4 : okLv (n : Int) Z Ls l = true := by
      unfold okLv lvB
      rw [c1, decide_eq_true rfl, c2, Int.toNat_natCast, decide_eq_true c3]
      rfl
     rw [lvOk, h4, Bool.true_and]
     exact k1 k (by omega)
    ·rw [decide_eq_false c3, Bool.not_false]
     refine hbad ?_ k (by omega)
     unfold okLv lvB
     rw [Int.toNat_natCast, decide_eq_false c3, Bool.and_false, Bool.and_false]
   ·refine ev_mk (K2 + 2) fun k hk => ?_
    obtain ⟨k, rfl⟩ : ∃ m, k = m + 1 := ⟨k - 1, by omega⟩
    rw [spec_WaveOk.l0, if_pos (by omega), if_pos (by omega), if_pos (by omega), rdT64, if_pos c1, c1, k2 k (by omega), Option.bind_some, if_neg c2]
    refine hbad ?_ k (by omega)
    unfold okLv
    rw [c1, eq_false_of_ne_true c2, Bool.false_and, Bool.and_false]
  ·refine ev_mk 2 fun k hk => ?_
   obtain ⟨k, rfl⟩ : ∃ m, k = m + 1 := ⟨k - 1, by omega⟩
   rw [spec_WaveOk.l0, if_pos (by omega), if_pos (by omega), if_pos (by omega), rdT64, if_neg c1]
   refine hbad ?_ k (by omega)
   unfold okLv
   rw [decide_eq_false c1, Bool.false_and]
theorem specWaveOk_ev (N : Int) (Z : List Int) (Ls : List S64) (hw : ∀ l, Words (Ls.getD l z64).f1) (hl : ∀ l, (Ls.getD l z64).f1.length ≤ 4000000) : Ev (fun k => spec_WaveOk.f k N Z Ls) (okW N Z Ls) := by
 have hbad : ¬ (0 ≤ N ∧ N ≤ 1000 ∧ Z.length = 9 ∧ Ls.length = 9) → Ev (fun k => spec_WaveOk.j0 k true N Z Ls) (okW N Z Ls) := by
  intro h
  refine Ev.step (f := fun _ => some _) (fun k => ?_) (Ev.now _)
  unfold okW
  rw [spec_WaveOk.j0, if_pos rfl, decide_eq_false h, Bool.false_and]
 by_cases c1 : N < 0
 ·refine Ev.congr (fun k => ?_) (hbad (by omega))
  unfold spec_WaveOk.f
  rw [if_pos c1]
 by_cases c2 : N > 1000
 ·refine Ev.congr (fun k => ?_) (hbad (by omega))
  unfold spec_WaveOk.f
  rw [if_neg c1, if_pos c2]
 by_cases c3 : Ls.length = 9
 ·by_cases c4 : Z.length = 9
  ·have e : okW N Z Ls = lvOk N Z Ls 9 0 := by unfold okW; rw [decide_eq_true (by omega), Bool.true_and]
   rw [e]
   refine Ev.congr (f := fun k => spec_WaveOk.j0 k false N Z Ls) (fun k => ?_) (Ev.step (fun k => ?_) (specWaveOk_l0 N Z Ls (by omega) (by omega) c4 c3 hw hl 9 0 (by omega)))
   ·unfold spec_WaveOk.f
    rw [if_neg c1, if_neg c2, if_pos (by omega), bne_dec, decide_eq_true (by omega), Bool.not_true]
   ·rw [spec_WaveOk.j0, if_neg (by decide)]
    rfl
  ·refine Ev.congr (fun k => ?_) (hbad (by omega))
   unfold spec_WaveOk.f
   rw [if_neg c1, if_neg c2, if_pos (by omega), bne_dec, decide_eq_false (by omega), Bool.not_false]
 ·refine Ev.congr (fun k => ?_) (hbad (by omega))
  unfold spec_WaveOk.f
  rw [if_neg c1, if_neg c2, if_neg (by omega)]
def levels (N : Int) (Ls : List S64) (j : Nat) : List (List Int) := (List.range j).map (lvB N Ls)
theorem levels_length (N : Int) (Ls : List S64) (j : Nat) : (levels N Ls j).length = j := by simp [levels]
theorem levels_get (N : Int) (Ls : List S64) (j l : Nat) (h : l < j) : rd_L5 (levels N Ls j) (l : Int) = lvB N Ls l := by
 unfold rd_L5
 rw [Int.toNat_natCast, lget_lt _ _ _ (by rw [levels_length]; exact h)]
 simp [levels]
theorem l07_l3 (n : Nat) (Z : List Int) (Ls : List S64) (out : List Int) (i v l at_ : Nat) (b : Int) (hn : n ≤ 1000) (hl : l < 9) (ha : at_ < n) (hv : v < 1000000) (hb : b = (lvB (n : Int) Ls l).getD at_ 0) (r : List Int)
  (hk : Ev (fun k => spec_l07List.l2 k out (levels (n : Int) Ls 9) (i : Int) ((stepB (lvB (n : Int) Ls l) at_ : Nat) : Int) ((2 * v + b.toNat : Nat) : Int) ((l + 1 : Nat) : Int) (n : Int) Z Ls) r) :
  ∀ d j : Nat, j + d = n → Ev (fun k => spec_l07List.l3 k out (levels (n : Int) Ls 9) (i : Int) (at_ : Int) (v : Int) (l : Int) b ((((lvB (n : Int) Ls l).take (min j at_)).count b : Nat) : Int) ((((lvB (n : Int) Ls l).take j).count 0 : Nat) : Int) (j : Int) (n : Int) Z Ls) r := by
 obtain ⟨B, hB⟩ : ∃ B, B = lvB (n : Int) Ls l := ⟨_, rfl⟩
 have hlen := lvB_length (n : Int) Ls l
 have h01 := lvB_01 (n : Int) Ls l
 have hget := levels_get (n : Int) Ls 9 l hl
 have hll := levels_length (n : Int) Ls 9
 rw [← hB] at hlen h01 hget hb hk ⊢
 rw [Int.toNat_natCast] at hlen
 have hb01 := get01 B h01 at_ (by omega)
 intro d
 induction d with
 | zero =>
  intro j h
  obtain rfl : j = n := by omega
  refine Ev.step (fun k => ?_) hk
  have hz := count_le B 0
  have hc := count_take_len B b at_
  rw [spec_l07List.l3, if_neg (by omega), Nat.min_eq_right (by omega), List.take_of_length_le (l := B) (i := j) (by omega)]
  rw [← hb] at hb01
  by_cases q : b = 1
  ·rw [if_pos q, w64 (x := 2 * (v : Int)) (by omega) (by omega), w64 (by omega) (by omega), w64 (by omega) (by omega), w64 (by omega) (by omega)]
   have e : stepB B at_ = B.count 0 + (B.take at_).count b := by unfold stepB; rw [← hb, if_pos q, q]
   rw [e]
   congr 1 <;> omega
  ·rw [if_neg q, w64 (x := 2 * (v : Int)) (by omega) (by omega), w64 (by omega) (by omega), w64 (by omega) (by omega)]
   have q0 : b = 0 := by omega
   have e : stepB B at_ = (B.take at_).count b := by unfold stepB; rw [← hb, if_neg q, q0]
   rw [e]
   congr 1 <;> omega
 | succ d ih =>
  intro j h
  obtain ⟨K1, k1⟩ := ev_out (ih (j + 1) (by omega))
  have hz := count_take_len B 0 j
  have hz2 := count_take B 0 j (by omega)
  have hc := count_take_len B b (min j at_)
  refine ev_mk (K1 + 2) fun k hk' => ?_
  obtain ⟨k, rfl⟩ : ∃ m, k = m + 1 := ⟨k - 1, by omega⟩
  have e1 : spec_l07List.l3 (k + 1) out (levels (n : Int) Ls 9) (i : Int) (at_ : Int) (v : Int) (l : Int) b (((B.take (min j at_)).count b : Nat) : Int) (((B.take j).count 0 : Nat) : Int) (j : Int) (n : Int) Z Ls = spec_l07List.j4 k out (levels (n : Int) Ls 9) (i : Int) (at_ : Int) (v : Int) (l : Int) b (((B.take (min j at_)).count b : Nat) : Int) (((B.take (j + 1)).count 0 : Nat) : Int) (j : Int) (n : Int) Z Ls := by
   rw [spec_l07List.l3, if_pos (by omega), if_pos (by omega), if_pos (by omega), if_pos (by omega), hget, if_pos (by omega), rd_nat, hz2]
   by_cases q : B.getD j 0 = 0
   ·rw [if_pos q, if_pos q, w64 (by omega) (by omega)]
    rfl
   ·rw [if_neg q, if_neg q]
    rfl
  rw [e1]
  obtain ⟨k, rfl⟩ : ∃ m, k = m + 1 := ⟨k - 1, by omega⟩
  have hfin := k1 k (by omega)
  rw [spec_l07List.j4]
  by_cases q1 : j < at_
  ·have hz3 := count_take B b j (by omega)
   rw [Nat.min_eq_left (by omega)] at hc ⊢
   rw [Nat.min_eq_left (by omega), hz3] at hfin
   rw [if_pos (by omega), if_pos (by omega), if_pos (by omega), if_pos (by omega), hget, if_pos (by omega), rd_nat]
   by_cases q2 : B.getD j 0 = b
   ·rw [if_pos q2] at hfin ⊢
    rw [w64 (by omega) (by omega), w64 (by omega) (by omega)]
    exact hfin
   ·rw [if_neg q2] at hfin ⊢
    rw [w64 (by omega) (by omega)]
    exact hfin
  ·rw [Nat.min_eq_right (by omega)] at hc ⊢
   rw [Nat.min_eq_right (by omega)] at hfin
   rw [if_neg (by omega), w64 (by omega) (by omega)]
   exact hfin
theorem l07_l2 (n : Nat) (Z : List Int) (Ls : List S64) (out : List Int) (i : Nat) (hn : n ≤ 1000) (hi : i < n) (ho : out.length ≤ 1000) (r : List Int)
  (hk : Ev (fun k => spec_l07List.l1 k (out ++ [((st (lvB (n : Int) Ls) i 9).2 : Int)]) (levels (n : Int) Ls 9) ((i + 1 : Nat) : Int) (n : Int) Z Ls) r) :
  ∀ d l : Nat, l + d = 9 → Ev (fun k => spec_l07List.l2 k out (levels (n : Int) Ls 9) (i : Int) ((st (lvB (n : Int) Ls) i l).1 : Int) ((st (lvB (n : Int) Ls) i l).2 : Int) (l : Int) (n : Int) Z Ls) r := by
 have hll := levels_length (n : Int) Ls 9
 intro d
 induction d with
 | zero =>
  intro l h
  obtain rfl : l = 9 := by omega
  refine Ev.step (fun k => ?_) hk
  rw [spec_l07List.l2, if_neg (by omega), if_pos (by omega), w64 (by omega) (by omega)]
  rfl
 | succ d ih =>
  intro l h
  have h1 := st_lt (lvB (n : Int) Ls) n i hi l (fun m hm => by have := lvB_all (n : Int) Ls l m hm; rw [Int.toNat_natCast] at this; exact this)
  have h2 := st_val (lvB (n : Int) Ls) n i hi l (fun m hm => by have := lvB_all (n : Int) Ls l m hm; rw [Int.toNat_natCast] at this; exact this)
  have h3 := pow9 l (by omega)
  have hlen := lvB_length (n : Int) Ls l
  rw [Int.toNat_natCast] at hlen
  have h4 := l07_l3 n Z Ls out i (st (lvB (n : Int) Ls) i l).2 l (st (lvB (n : Int) Ls) i l).1 ((lvB (n : Int) Ls l).getD (st (lvB (n : Int) Ls) i l).1 0) hn (by omega) h1 (by omega) rfl r (ih (l + 1) (by omega)) n 0 (by omega)
  refine Ev.step (fun k => ?_) h4
  rw [spec_l07List.l2, if_pos (by omega), if_pos (by omega), if_pos (by omega), if_pos (by omega), levels_get (n : Int) Ls 9 l (by omega), if_pos (by omega), rd_nat, Nat.zero_min, List.take_zero]
  rfl
theorem l07_l1 (n : Nat) (Z : List Int) (Ls : List S64) (hn : n ≤ 1000) : ∀ d i : Nat, i + d = n → Ev (fun k => spec_l07List.l1 k ((valL (lvB (n : Int) Ls) 9 n).take i) (levels (n : Int) Ls 9) (i : Int) (n : Int) Z Ls) (valL (lvB (n : Int) Ls) 9 n) := by
 have hvl := valL_length (lvB (n : Int) Ls) 9 n
 intro d
 induction d with
 | zero =>
  intro i h
  refine Ev.step (f := fun _ => some _) (fun k => ?_) (Ev.now _)
  rw [spec_l07List.l1, if_neg (by omega), List.take_of_length_le (by omega)]
 | succ d ih =>
  intro i h
  have h1 := ih (i + 1) (by omega)
  rw [take_succ_getD _ 0 i (by omega), valL_get _ _ _ _ (by omega)] at h1
  refine Ev.step (fun k => ?_) (l07_l2 n Z Ls _ i hn (by omega) (by rw [List.length_take]; omega) _ h1 9 0 (by omega))
  rw [spec_l07List.l1, if_pos (by omega)]
  rfl
theorem l07_l0 (n : Nat) (Z : List Int) (Ls : List S64) (hn : n ≤ 1000) (hL : Ls.length = 9) (hok : ∀ l, l < 9 → okLv (n : Int) Z Ls l = true) (hw : ∀ l, Words (Ls.getD l z64).f1) : ∀ d j : Nat, j + d = 9 → Ev (fun k => spec_l07List.l0 k (levels (n : Int) Ls j) (j : Int) [] (n : Int) Z Ls) (valL (lvB (n : Int) Ls) 9 n) := by
 intro d
 induction d with
 | zero =>
  intro j h
  obtain rfl : j = 9 := by omega
  have h1 := l07_l1 n Z Ls hn n 0 (by omega)
  rw [List.take_zero] at h1
  refine Ev.step (fun k => ?_) h1
  rw [spec_l07List.l0, if_neg (by omega)]
  rfl
 | succ d ih =>
  intro j h
  have ho := okLv_out (hok j (by omega))
  have hb := okB_out ho.2.1
  rw [Int.toNat_natCast] at hb
  have hll := levels_length (n : Int) Ls j
  obtain ⟨K0, k0⟩ := ev_out (l01List_ev n (Ls.getD j z64).f1 (hw j) (by omega) (by omega))
  obtain ⟨K1, k1⟩ := ev_out (ih (j + 1) (by omega))
  refine ev_mk (K0 + K1 + 1) fun k hk => ?_
  obtain ⟨k, rfl⟩ : ∃ m, k = m + 1 := ⟨k - 1, by omega⟩
  rw [spec_l07List.l0, if_pos (by omega), if_pos (by omega), if_pos (by omega), rdT64, ho.1, k0 k (by omega), Option.bind_some, if_pos (by omega), w64 (by omega) (by omega)]
  have e : levels (n : Int) Ls j ++ [bitsL n (Ls.getD j z64).f1] = levels (n : Int) Ls (j + 1) := by
   unfold levels
   rw [List.range_succ, List.map_append]
   unfold lvB
   rw [Int.toNat_natCast]
   rfl
  rw [e]
  exact k1 k (by omega)
theorem l07List_ev (N : Int) (Z : List Int) (Ls : List S64) (ok : okW N Z Ls = true) (hw : ∀ l, Words (Ls.getD l z64).f1) : Ev (fun k => spec_l07List.f k N Z Ls) (waveL N Ls) := by
 have ho := okWave_out ok
 obtain ⟨n, rfl⟩ : ∃ n : Nat, N = (n : Int) := ⟨N.toNat, by omega⟩
 have h1 := l07_l0 n Z Ls (by omega) ho.2.2.2.1 ho.2.2.2.2 hw 9 0 (by omega)
 unfold waveL
 rw [Int.toNat_natCast]
 exact h1
theorem implBitsList_ev (m : Int) (ws : List Int) (hw : Words ws) (hl : ws.length ≤ 4000000) (hm : -9223372036854775808 ≤ m) : Ev (fun k => impl_BitsList.f k m ws) (if okB m ws = true then bitsL m.toNat ws else []) := by
 by_cases c : okB m ws = true
 ·have ho := okB_out c
  obtain ⟨n, rfl⟩ : ∃ n : Nat, m = (n : Int) := ⟨m.toNat, by omega⟩
  rw [Int.toNat_natCast] at ho
  obtain ⟨K0, k0⟩ := ev_out (list_ev n ws hw (by omega) (by omega))
  rw [if_pos c, Int.toNat_natCast]
  refine ev_mk K0 fun k hk => ?_
  unfold impl_BitsList.f
  rw [implBitsOk_ev _ _ hw hl hm, Option.bind_some, if_pos c, k0 k hk, Option.bind_some]
 ·rw [if_neg c]
  refine Ev.congr (f := fun _ => some []) (fun k => ?_) (Ev.now _)
  unfold impl_BitsList.f
  rw [implBitsOk_ev _ _ hw hl hm, Option.bind_some, if_neg c]
theorem implCount_ev (l : List Int) (v : Int) (h5 : l.length ≤ 5000) : Ev (fun k => impl_count.f k l v) ((l.count v : Nat) : Int) := by
 have h := count_l0 l v h5 l.length 0 0 (by omega) (by omega)
 rw [List.drop_zero, Nat.zero_add] at h
 exact h
theorem read_l3 (n : Nat) (Z : List Int) (Ls : List S64) (l : Nat) (hn : n ≤ 1000) (hl : l < 9) (r : List Int × Bool)
  (hk : Ev (fun k => impl_Wave_read.l1 k (valL (lvB (n : Int) Ls) (l + 1) n) (posL (lvB (n : Int) Ls) (l + 1) n) Ls 9 ((l + 1 : Nat) : Int) (n : Int) Z Ls) r) :
  ∀ d i : Nat, i + d = n → Ev (fun k => impl_Wave_read.l3 k ((valL (lvB (n : Int) Ls) (l + 1) n).take i ++ (valL (lvB (n : Int) Ls) l n).drop i) ((posL (lvB (n : Int) Ls) (l + 1) n).take i ++ (posL (lvB (n : Int) Ls) l n).drop i) (lvB (n : Int) Ls l) Ls 9 (l : Int) (nextL (lvB (n : Int) Ls l)) (n : Int) (i : Int) (n : Int) Z Ls) r := by
 obtain ⟨Bf, hB⟩ : ∃ Bf, Bf = lvB (n : Int) Ls := ⟨_, rfl⟩
 have hlen := lvB_length (n : Int) Ls l
 have h01 := lvB_01 (n : Int) Ls l
 have hall := lvB_all (n : Int) Ls l
 rw [← hB] at hlen h01 hall hk ⊢
 rw [Int.toNat_natCast] at hlen hall
 have v1 := valL_length Bf l n
 have v2 := valL_length Bf (l + 1) n
 have p1 := posL_length Bf l n
 have p2 := posL_length Bf (l + 1) n
 have nl := nextL_length (Bf l)
 intro d
 induction d with
 | zero =>
  intro i h
  obtain rfl : i = n := by omega
  refine Ev.step (fun k => ?_) hk
  rw [impl_Wave_read.l3, if_neg (by omega), List.take_of_length_le (by omega), List.take_of_length_le (by omega), List.drop_eq_nil_of_le (by omega), List.drop_eq_nil_of_le (by omega), List.append_nil, List.append_nil, w64 (by omega) (by omega)]
  rfl
 | succ d ih =>
  intro i h
  have hp := st_lt Bf n i (by omega) l hall
  have hv := st_val Bf n i (by omega) l hall
  have h9 := pow9 l (by omega)
  have hb := get01 (Bf l) h01 (st Bf i l).1 (by omega)
  have g1 : ((posL Bf (l + 1) n).take i ++ (posL Bf l n).drop i).getD i 0 = ((st Bf i l).1 : Int) := by rw [over_get _ _ _ _ (by omega) (by omega), posL_get _ _ _ _ (by omega)]
  have g2 : ((valL Bf (l + 1) n).take i ++ (valL Bf l n).drop i).getD i 0 = ((st Bf i l).2 : Int) := by rw [over_get _ _ _ _ (by omega) (by omega), valL_get _ _ _ _ (by omega)]
  have l1 : ((posL Bf (l + 1) n).take i ++ (posL Bf l n).drop i).length = n := by rw [over_len _ _ _ (by omega) (by omega)]; exact p1
  have l2 : ((valL Bf (l + 1) n).take i ++ (valL Bf l n).drop i).length = n := by rw [over_len _ _ _ (by omega) (by omega)]; exact v1
  have eb : (Bf l).getD (st Bf i l).1 0 = (((Bf l).getD (st Bf i l).1 0).toNat : Int) := by omega
  have ev : Go.bits .or .i64 (wrap64 (((st Bf i l).2 : Int) * 2)) ((Bf l).getD (st Bf i l).1 0) = ((st Bf i (l + 1)).2 : Int) := by
   rw [w64 (by omega) (by omega), eb, show ((st Bf i l).2 : Int) * 2 = ((2 * (st Bf i l).2 : Nat) : Int) by omega, or_bit2 _ _ (by omega) (by omega)]
   rfl
  refine Ev.step (fun k => ?_) (ih (i + 1) (by omega))
  rw [impl_Wave_read.l3, if_pos (by omega), if_pos (by omega), if_pos (by omega), if_pos (by omega), rd_nat, g1, if_pos (by omega), if_pos (by omega), if_pos (by omega), rd_nat, rd_nat, rd_nat, g2, ev, nextL_get _ _ (by omega), Int.toNat_natCast, w64 (by omega) (by omega),
   over_set (valL Bf (l + 1) n) (valL Bf l n) 0 _ i (by omega) (by omega) (valL_get _ _ _ _ (by omega)).symm, over_set (posL Bf (l + 1) n) (posL Bf l n) 0 _ i (by omega) (by omega) (show ((stepB (Bf l) (st Bf i l).1 : Nat) : Int) = (posL Bf (l + 1) n).getD i 0 from (posL_get Bf (l + 1) n i (by omega)).symm)]
  rfl
theorem read_l2 (n : Nat) (Z : List Int) (Ls : List S64) (x4 x5 : List Int) (l : Nat) (hn : n ≤ 1000) (h5 : x5.length = n) (r : List Int × Bool)
  (hk : Ev (fun k => impl_Wave_read.l3 k x4 x5 (lvB (n : Int) Ls l) Ls 9 (l : Int) (nextL (lvB (n : Int) Ls l)) (n : Int) ((0 : Nat) : Int) (n : Int) Z Ls) r) :
  ∀ d j : Nat, j + d = n → Ev (fun k => impl_Wave_read.l2 k x4 x5 (lvB (n : Int) Ls l) ((((lvB (n : Int) Ls l).take j).count 0 : Nat) : Int) (((lvB (n : Int) Ls l).count 0 + ((lvB (n : Int) Ls l).take j).count 1 : Nat) : Int) Ls 9 (l : Int) ((nextL (lvB (n : Int) Ls l)).take j ++ List.replicate d 0) (n : Int) (j : Int) (n : Int) Z Ls) r := by
 obtain ⟨B, hB⟩ : ∃ B, B = lvB (n : Int) Ls l := ⟨_, rfl⟩
 have hlen := lvB_length (n : Int) Ls l
 have h01 := lvB_01 (n : Int) Ls l
 rw [← hB] at hlen h01 hk ⊢
 rw [Int.toNat_natCast] at hlen
 have nl := nextL_length B
 intro d
 induction d with
 | zero =>
  intro j h
  refine Ev.step (fun k => ?_) hk
  rw [impl_Wave_read.l2, if_neg (by omega), List.take_of_length_le (l := nextL B) (by omega), List.replicate_zero, List.append_nil, h5]
  rfl
 | succ d ih =>
  intro j h
  have hfl := fill_length (nextL B) 0 j (d + 1) (by omega)
  have hb := get01 B h01 j (by omega)
  have h1 := ih (j + 1) (by omega)
  rw [count_take B 0 j (by omega), count_take B 1 j (by omega)] at h1
  have z0 := count_take_len B 0 j
  have z1 := count_take_len B 1 j
  have z2 := count_le B 0
  have hs := nextL_get B j (by omega)
  unfold stepB at hs
  by_cases q : B.getD j 0 = 0
  ·rw [if_pos q, if_neg (show ¬ B.getD j 0 = 1 by omega), Nat.add_zero] at h1
   rw [if_neg (show ¬ B.getD j 0 = 1 by omega)] at hs
   refine Ev.step (fun k => ?_) h1
   rw [impl_Wave_read.l2, if_pos (by omega), if_pos (by omega), if_pos (by omega), rd_nat, if_pos q, if_pos (by omega), w64 (by omega) (by omega), w64 (by omega) (by omega), Int.toNat_natCast, fill_set (nextL B) 0 _ j d (by omega) hs.symm]
   rfl
  ·rw [if_neg q, if_pos (show B.getD j 0 = 1 by omega), Nat.add_zero] at h1
   rw [if_pos (show B.getD j 0 = 1 by omega)] at hs
   refine Ev.step (fun k => ?_) h1
   rw [impl_Wave_read.l2, if_pos (by omega), if_pos (by omega), if_pos (by omega), rd_nat, if_neg q, if_pos (by omega), w64 (by omega) (by omega), w64 (by omega) (by omega), Int.toNat_natCast, fill_set (nextL B) 0 _ j d (by omega) hs.symm]
   rfl
theorem read_l1 (n : Nat) (Z : List Int) (Ls : List S64) (hn : n ≤ 1000) (hZ : Z.length = 9) (hL : Ls.length = 9) (hw : ∀ l, Words (Ls.getD l z64).f1) (hl : ∀ l, (Ls.getD l z64).f1.length ≤ 4000000) (hm : ∀ l, -9223372036854775808 ≤ (Ls.getD l z64).f0) :
  ∀ d l : Nat, l + d = 9 → Ev (fun k => impl_Wave_read.l1 k (valL (lvB (n : Int) Ls) l n) (posL (lvB (n : Int) Ls) l n) Ls 9 (l : Int) (n : Int) Z Ls) (if lvOk (n : Int) Z Ls d l = true then (valL (lvB (n : Int) Ls) 9 n, true) else ([], false)) := by
 intro d
 induction d with
 | zero =>
  intro l h
  obtain rfl : l = 9 := by omega
  refine Ev.step (f := fun _ => some _) (fun k => ?_) (Ev.now _)
  rw [impl_Wave_read.l1, if_neg (by omega), lvOk, if_pos rfl]
 | succ d ih =>
  intro l h
  obtain ⟨K0, k0⟩ := ev_out (implBitsList_ev (Ls.getD l z64).f0 (Ls.getD l z64).f1 (hw l) (hl l) (hm l))
  have b0 := implBitsOk_ev (Ls.getD l z64).f0 (Ls.getD l z64).f1 (hw l) (hl l) (hm l)
  have hbad : okLv (n : Int) Z Ls l = false → ∀ k X, 1 ≤ k → impl_Wave_read.j3 k (valL (lvB (n : Int) Ls) l n) (posL (lvB (n : Int) Ls) l n) (l : Int) X Ls 9 (l : Int) true (n : Int) Z Ls = some (if lvOk (n : Int) Z Ls (d + 1) l = true then (valL (lvB (n : Int) Ls) 9 n, true) else ([], false)) := by
   intro hf k X hk
   obtain ⟨k, rfl⟩ : ∃ m, k = m + 1 := ⟨k - 1, by omega⟩
   rw [impl_Wave_read.j3, if_pos rfl, lvOk, hf, Bool.false_and, if_neg (by decide)]
  by_cases c2 : okB (Ls.getD l z64).f0 (Ls.getD l z64).f1 = true
  ·by_cases c1 : (Ls.getD l z64).f0 = (n : Int)
   ·rw [c1] at c2 k0 b0
    rw [if_pos c2, Int.toNat_natCast] at k0
    have hlB : bitsL n (Ls.getD l z64).f1 = lvB (n : Int) Ls l := by unfold lvB; rw [Int.toNat_natCast]
    rw [hlB] at k0
    have hlen := lvB_length (n : Int) Ls l
    rw [Int.toNat_natCast] at hlen
    obtain ⟨K1, k1⟩ := ev_out (implCount_ev (lvB (n : Int) Ls l) 0 (by omega))
    by_cases c3 : (((lvB (n : Int) Ls l).count 0 : Nat) : Int) = Z.getD l 0
    ·have h4 : okLv (n : Int) Z Ls l = true := by
      unfold okLv
      rw [c1, decide_eq_true rfl, c2, decide_eq_true c3]
      rfl
     have h5 := ih (l + 1) (by omega)
     have h6 := read_l3 n Z Ls l hn (by omega) _ h5 n 0 (by omega)
     rw [List.take_zero, List.take_zero, List.nil_append, List.nil_append, List.drop_zero, List.drop_zero] at h6
     have h7 := read_l2 n Z Ls _ _ l hn (posL_length _ _ _) _ h6 n 0 (by omega)
     rw [List.take_zero, List.take_zero, List.nil_append, List.count_nil, List.count_nil, Nat.add_zero] at h7
     obtain ⟨K2, k2⟩ := ev_out h7
     refine ev_mk (K0 + K1 + K2 + 2) fun k hk => ?_
     obtain ⟨k, rfl⟩ : ∃ m, k = m + 1 := ⟨k - 1, by omega⟩
     rw [impl_Wave_read.l1, if_pos (by omega), if_pos (by omega), if_pos (by omega), rdT64, c1, k0 k (by omega), Option.bind_some, b0, Option.bind_some, if_pos c2, if_pos rfl, k1 k (by omega), Option.bind_some, if_pos (by omega), rd_nat, bne_dec, decide_eq_true c3, Bool.not_true]
     obtain ⟨k, rfl⟩ : ∃ m, k = m + 1 := ⟨k - 1, by omega⟩
     rw [impl_Wave_read.j3, if_neg (by decide), if_pos (by omega), if_pos (by omega), if_pos (by omega), if_pos (by omega), rd_nat, ← c3, Int.toNat_natCast, hlen, lvOk, h4, Bool.true_and]
     exact k2 k (by omega)
    ·refine ev_mk (K0 + K1 + 2) fun k hk => ?_
     obtain ⟨k, rfl⟩ : ∃ m, k = m + 1 := ⟨k - 1, by omega⟩
     rw [impl_Wave_read.l1, if_pos (by omega), if_pos (by omega), if_pos (by omega), rdT64, c1, k0 k (by omega), Option.bind_some, b0, Option.bind_some, if_pos c2, if_pos rfl, k1 k (by omega), Option.bind_some, if_pos (by omega), rd_nat, bne_dec, decide_eq_false c3, Bool.not_false]
     refine hbad ?_ k _ (by omega)
     unfold okLv
     rw [decide_eq_false c3, Bool.and_false, Bool.and_false]
   ·refine ev_mk (K0 + 2) fun k hk => ?_
    obtain ⟨k, rfl⟩ : ∃ m, k = m + 1 := ⟨k - 1, by omega⟩
    rw [impl_Wave_read.l1, if_pos (by omega), if_pos (by omega), if_pos (by omega), rdT64, k0 k (by omega), Option.bind_some, b0, Option.bind_some, if_pos c2, if_neg c1]
    refine hbad ?_ k _ (by omega)
    unfold okLv
    rw [decide_eq_false c1, Bool.false_and]
  ·refine ev_mk (K0 + 2) fun k hk => ?_
   obtain ⟨k, rfl⟩ : ∃ m, k = m + 1 := ⟨k - 1, by omega⟩
   rw [impl_Wave_read.l1, if_pos (by omega), if_pos (by omega), if_pos (by omega), rdT64, k0 k (by omega), Option.bind_some, b0, Option.bind_some, if_neg c2]
   refine hbad ?_ k _ (by omega)
   unfold okLv
   rw [eq_false_of_ne_true c2, Bool.false_and, Bool.and_false]
theorem read_l0 (n : Nat) (Z : List Int) (Ls : List S64) (V : List Int) (hn : n ≤ 1000) (hL : Ls.length = 9) (r : List Int × Bool)
  (hk : Ev (fun k => impl_Wave_read.l1 k V (posL (lvB (n : Int) Ls) 0 n) Ls 9 ((0 : Nat) : Int) (n : Int) Z Ls) r) :
  ∀ d i : Nat, i + d = n → Ev (fun k => impl_Wave_read.l0 k V ((posL (lvB (n : Int) Ls) 0 n).take i ++ List.replicate d 0) (n : Int) (i : Int) (n : Int) Z Ls) r := by
 have p1 := posL_length (lvB (n : Int) Ls) 0 n
 intro d
 induction d with
 | zero =>
  intro i h
  refine Ev.step (fun k => ?_) hk
  rw [impl_Wave_read.l0, if_neg (by omega), List.take_of_length_le (by omega), List.replicate_zero, List.append_nil, hL]
  rfl
 | succ d ih =>
  intro i h
  have hfl := fill_length (posL (lvB (n : Int) Ls) 0 n) 0 i (d + 1) (by omega)
  refine Ev.step (fun k => ?_) (ih (i + 1) (by omega))
  rw [impl_Wave_read.l0, if_pos (by omega), if_pos (by omega), if_pos (by omega), w64 (by omega) (by omega), Int.toNat_natCast, fill_set (posL (lvB (n : Int) Ls) 0 n) 0 _ i d (by omega) (posL_zero _ n i (by omega)).symm]
  rfl
theorem within_eq (a b c : Int) : impl_within.f a b c = some (decide (b ≤ a ∧ a ≤ c)) := by
 unfold impl_within.f
 by_cases h : b ≤ a
 ·rw [if_pos h]
  simp [h]
 ·rw [if_neg h]
  simp [h]
theorem read_ev (N : Int) (Z : List Int) (Ls : List S64) (hw : ∀ l, Words (Ls.getD l z64).f1) (hl : ∀ l, (Ls.getD l z64).f1.length ≤ 4000000) (hm : ∀ l, -9223372036854775808 ≤ (Ls.getD l z64).f0) :
  Ev (fun k => impl_Wave_read.f k N Z Ls) (if okW N Z Ls = true then (waveL N Ls, true) else ([], false)) := by
 have hbad : ¬ (0 ≤ N ∧ N ≤ 1000 ∧ Z.length = 9 ∧ Ls.length = 9) → Ev (fun k => impl_Wave_read.j0 k true N Z Ls) (if okW N Z Ls = true then (waveL N Ls, true) else ([], false)) := by
  intro h
  refine Ev.step (f := fun _ => some _) (fun k => ?_) (Ev.now _)
  unfold okW
  rw [impl_Wave_read.j0, if_pos rfl, decide_eq_false h, Bool.false_and, if_neg (by decide)]
 by_cases c1 : 0 ≤ N ∧ N ≤ 1000
 ·by_cases c4 : Z.length = 9
  ·by_cases c3 : Ls.length = 9
   ·have e : okW N Z Ls = lvOk N Z Ls 9 0 := by unfold okW; rw [decide_eq_true (by omega), Bool.true_and]
    rw [e]
    obtain ⟨n, rfl⟩ : ∃ n : Nat, N = (n : Int) := ⟨N.toNat, by omega⟩
    have h1 := read_l1 n Z Ls (by omega) c4 c3 hw hl hm 9 0 (by omega)
    have h2 := read_l0 n Z Ls _ (by omega) c3 _ h1 n 0 (by omega)
    rw [List.take_zero, List.nil_append, valL_zero] at h2
    refine Ev.congr (f := fun k => impl_Wave_read.j0 k false (n : Int) Z Ls) (fun k => ?_) (Ev.step (fun k => ?_) (show Ev _ (if lvOk (n : Int) Z Ls 9 0 = true then (waveL (n : Int) Ls, true) else ([], false)) from by unfold waveL; rw [Int.toNat_natCast]; exact h2))
    ·unfold impl_Wave_read.f
     rw [within_eq, Option.bind_some, decide_eq_true c1, if_pos rfl, if_pos (by omega), bne_dec, decide_eq_true (by omega), Bool.not_true]
    ·rw [impl_Wave_read.j0, if_neg (by decide), if_pos (by omega), if_pos (by omega), Option.bind_some, Int.toNat_natCast, List.length_replicate]
     rfl
   ·refine Ev.congr (fun k => ?_) (hbad (by omega))
    unfold impl_Wave_read.f
    rw [within_eq, Option.bind_some, decide_eq_true c1, if_pos rfl, if_pos (by omega), bne_dec, decide_eq_false (by omega), Bool.not_false]
  ·refine Ev.congr (fun k => ?_) (hbad (by omega))
   unfold impl_Wave_read.f
   rw [within_eq, Option.bind_some, decide_eq_true c1, if_pos rfl, if_neg (by omega)]
 ·refine Ev.congr (fun k => ?_) (hbad (by omega))
  unfold impl_Wave_read.f
  rw [within_eq, Option.bind_some, decide_eq_false c1, if_neg (by decide)]
def Fine (Ls : List S64) : Prop := (∀ l, Words (Ls.getD l z64).f1) ∧ (∀ l, (Ls.getD l z64).f1.length ≤ 4000000) ∧ (∀ l, -9223372036854775808 ≤ (Ls.getD l z64).f0)
theorem fine_of (l : List S74) (hok : Fv.OkL ok74 l) (hs : ∀ j, j < l.length → (l.getD j z74).f1.length ≤ 1048576) : Fine (l.map cv) := by
 have hg : ∀ i, i < l.length → ok74 (l.getD i z74) := fun i hi => by rw [lget_lt _ _ _ hi]; exact hok.2 _ (List.getElem_mem hi)
 have ho : ∀ i, ¬ i < l.length → (l.map cv).getD i z64 = z64 := fun i hi => by rw [List.getD_eq_getElem?_getD, List.getElem?_eq_none (by rw [List.length_map]; omega)]; rfl
 refine ⟨fun i => ?_, fun i => ?_, fun i => ?_⟩
 ·by_cases c : i < l.length
  ·rw [cv_get l i c]
   exact okW_out (hg i c).2
  ·rw [ho i c]
   intro x hx
   cases hx
 ·by_cases c : i < l.length
  ·rw [cv_get l i c]
   have := hs i c
   show (l.getD i z74).f1.length ≤ 4000000
   omega
  ·rw [ho i c]
   exact Nat.zero_le _
 ·by_cases c : i < l.length
  ·rw [cv_get l i c]
   exact (okI_out (hg i c).1).1
  ·rw [ho i c]
   show (-9223372036854775808 : Int) ≤ 0
   omega
def marksF (s n : Nat) : List Int := (List.range n).map fun (j : Nat) => ((s + j : Nat) : Int)
theorem marksF_len (s n : Nat) : (marksF s n).length = n := by simp [marksF]
theorem marksF_get (s n j : Nat) (h : j < n) : (marksF s n).getD j 0 = ((s + j : Nat) : Int) := by
 rw [lget_lt _ j 0 (by rw [marksF_len]; exact h)]
 simp [marksF]
theorem markIntSF_l0 (l : List Int) (s : Nat) (hs : s ≤ 1000000000000000000) (hl : l.length ≤ 4000000) (d : Nat) : ∀ i : Nat, i + d = l.length → Ev (fun k => laws_markIntS.l0 k ((marksF s l.length).take i ++ l.drop i) ((s + i : Nat) : Int) (i : Int)) (((s + l.length : Nat) : Int), marksF s l.length) := by
 induction d with
 | zero =>
  intro i h
  obtain rfl : i = l.length := by omega
  refine Ev.step (f := fun _ => some _) (fun k => ?_) (Ev.now _)
  rw [laws_markIntS.l0, if_neg (by rw [over_len _ _ _ (marksF_len _ _) (by omega)]; omega), List.drop_length, List.append_nil, List.take_of_length_le (by rw [marksF_len]; omega)]
 | succ d ih =>
  intro i h
  refine Ev.step (fun k => ?_) (ih (i + 1) (by omega))
  rw [laws_markIntS.l0, if_pos (by rw [over_len _ _ _ (marksF_len _ _) (by omega)]; omega), if_pos (by omega), w64 (by omega) (by omega), w64 (by omega) (by omega), Int.toNat_natCast, over_set (marksF s l.length) l 0 _ i (marksF_len _ _) (by omega) (marksF_get _ _ _ (by omega)).symm]
  rfl
theorem markIntSF_ev (l : List Int) (s : Nat) (hs : s ≤ 1000000000000000000) (hl : l.length ≤ 4000000) : Ev (fun k => laws_markIntS.f k l (s : Int)) (((s + l.length : Nat) : Int), marksF s l.length) :=
 Ev.congr (f := fun k => laws_markIntS.l0 k ((marksF s l.length).take 0 ++ l.drop 0) ((s + 0 : Nat) : Int) ((0 : Nat) : Int)) (fun _ => rfl) (markIntSF_l0 l s hs hl l.length 0 (by omega))
theorem heldIntSF_l0 (n s : Nat) (hs : s ≤ 1000000000000000000) (hn : n ≤ 4000000) (d : Nat) : ∀ i : Nat, i + d = n → Ev (fun k => laws_heldIntS.l0 k (marksF s n) ((s + i : Nat) : Int) (i : Int)) ((s + n : Nat) : Int) := by
 have hl := marksF_len s n
 induction d with
 | zero =>
  intro i h
  obtain rfl : i = n := by omega
  refine Ev.step (f := fun _ => some _) (fun k => ?_) (Ev.now _)
  rw [laws_heldIntS.l0, if_neg (by omega)]
 | succ d ih =>
  intro i h
  refine Ev.step (fun k => ?_) (ih (i + 1) (by omega))
  rw [laws_heldIntS.l0, if_pos (by omega), if_pos (by omega), rd_nat, marksF_get _ _ _ (by omega), if_pos rfl, w64 (by omega) (by omega), w64 (by omega) (by omega)]
  rfl
theorem heldIntSF_ev (n s : Nat) (hs : s ≤ 1000000000000000000) (hn : n ≤ 4000000) : Ev (fun k => laws_heldIntS.f k (marksF s n) (s : Int)) ((s + n : Nat) : Int) :=
 Ev.congr (f := fun k => laws_heldIntS.l0 k (marksF s n) ((s + 0 : Nat) : Int) ((0 : Nat) : Int)) (fun _ => rfl) (heldIntSF_l0 n s hs hn n 0 (by omega))
theorem markUint64SF_l0 (l : List Int) (s : Nat) (hs : s ≤ 1000000000000000000) (hl : l.length ≤ 4000000) (d : Nat) : ∀ i : Nat, i + d = l.length → Ev (fun k => laws_markUint64S.l0 k ((marksF s l.length).take i ++ l.drop i) ((s + i : Nat) : Int) (i : Int)) (((s + l.length : Nat) : Int), marksF s l.length) := by
 induction d with
 | zero =>
  intro i h
  obtain rfl : i = l.length := by omega
  refine Ev.step (f := fun _ => some _) (fun k => ?_) (Ev.now _)
  rw [laws_markUint64S.l0, if_neg (by rw [over_len _ _ _ (marksF_len _ _) (by omega)]; omega), List.drop_length, List.append_nil, List.take_of_length_le (by rw [marksF_len]; omega)]
 | succ d ih =>
  intro i h
  refine Ev.step (fun k => ?_) (ih (i + 1) (by omega))
  rw [laws_markUint64S.l0, if_pos (by rw [over_len _ _ _ (marksF_len _ _) (by omega)]; omega), if_pos (by omega), wu64 (x := ((s + i : Nat) : Int)) (by omega) (by omega), w64 (by omega) (by omega), w64 (by omega) (by omega), Int.toNat_natCast, over_set (marksF s l.length) l 0 _ i (marksF_len _ _) (by omega) (marksF_get _ _ _ (by omega)).symm]
  rfl
theorem markUint64SF_ev (l : List Int) (s : Nat) (hs : s ≤ 1000000000000000000) (hl : l.length ≤ 4000000) : Ev (fun k => laws_markUint64S.f k l (s : Int)) (((s + l.length : Nat) : Int), marksF s l.length) :=
 Ev.congr (f := fun k => laws_markUint64S.l0 k ((marksF s l.length).take 0 ++ l.drop 0) ((s + 0 : Nat) : Int) ((0 : Nat) : Int)) (fun _ => rfl) (markUint64SF_l0 l s hs hl l.length 0 (by omega))
def listW (N : Int) (Z : List Int) (Ls : List S64) : List Int := if okW N Z Ls = true then waveL N Ls else []
theorem specWaveList_ev (N : Int) (Z : List Int) (Ls : List S64) (hF : Fine Ls) : Ev (fun k => spec_WaveList.f k N Z Ls) (listW N Z Ls) := by
 obtain ⟨K0, k0⟩ := ev_out (specWaveOk_ev N Z Ls hF.1 hF.2.1)
 unfold listW
 by_cases c : okW N Z Ls = true
 ·obtain ⟨K1, k1⟩ := ev_out (l07List_ev N Z Ls c hF.1)
  refine ev_mk (K0 + K1) fun k hk => ?_
  unfold spec_WaveList.f
  rw [k0 k (by omega), Option.bind_some, if_pos c, k1 k (by omega), Option.bind_some, if_pos c]
 ·refine ev_mk K0 fun k hk => ?_
  unfold spec_WaveList.f
  rw [k0 k (by omega), Option.bind_some, if_neg c, if_neg c]
theorem implWaveList_ev (N : Int) (Z : List Int) (Ls : List S64) (hF : Fine Ls) : Ev (fun k => impl_WaveList.f k N Z Ls) (listW N Z Ls) := by
 obtain ⟨K0, k0⟩ := ev_out (read_ev N Z Ls hF.1 hF.2.1 hF.2.2)
 unfold listW
 by_cases c : okW N Z Ls = true
 ·rw [if_pos c] at k0
  refine ev_mk K0 fun k hk => ?_
  unfold impl_WaveList.f
  rw [k0 k hk, Option.bind_some, if_pos rfl, if_pos c]
 ·rw [if_neg c] at k0
  refine ev_mk K0 fun k hk => ?_
  unfold impl_WaveList.f
  rw [k0 k hk, Option.bind_some, if_neg (by decide), if_neg c]
theorem listW_length (N : Int) (Z : List Int) (Ls : List S64) : (listW N Z Ls).length ≤ 1000 := by
 unfold listW
 by_cases c : okW N Z Ls = true
 ·rw [if_pos c, waveL_length]
  have := okWave_out c
  omega
 ·rw [if_neg c]
  exact Nat.zero_le _
theorem markBitsS_l0 (d : Nat) : ∀ (i : Nat) (x0 : List S64) (s : Nat), i + d = x0.length → x0.length ≤ 4000000 → (∀ j, i ≤ j → j < x0.length → (x0.getD j z64).f1.length ≤ 4000000) → s + 4000001 * d ≤ 100000000000000000 →
  ∃ (s' : Nat) (z : List S64), Ev (fun k => laws_markBitsS.l0 k x0 (s : Int) (i : Int)) ((s' : Int), z) ∧ z.length = x0.length := by
 induction d with
 | zero =>
  intro i x0 s h _ _ _
  refine ⟨s, x0, Ev.step (f := fun _ => some ((s : Int), x0)) (fun k => ?_) (Ev.now _), rfl⟩
  rw [laws_markBitsS.l0, if_neg (by omega)]
 | succ d ih =>
  intro i x0 s h hl hw hs
  have hwi := hw i (Nat.le_refl _) (by omega)
  obtain ⟨K1, k1⟩ := ev_out (markUint64SF_ev (x0.getD i z64).f1 (s + 1) (by omega) hwi)
  obtain ⟨s', z, hz, hzl⟩ := ih (i + 1) (x0.set i (⟨(s : Int), marksF (s + 1) (x0.getD i z64).f1.length⟩ : S64)) (s + 1 + (x0.getD i z64).f1.length) (by rw [List.length_set]; omega) (by rw [List.length_set]; exact hl) (fun j h1 h2 => by
   rw [List.length_set] at h2
   rw [lset_ne _ _ _ _ _ (by omega)]
   exact hw j (by omega) h2) (by omega)
  obtain ⟨K2, k2⟩ := ev_out hz
  refine ⟨s', z, ev_mk (K1 + K2 + 1) fun k hk => ?_, by rw [hzl, List.length_set]⟩
  obtain ⟨k, rfl⟩ : ∃ m, k = m + 1 := ⟨k - 1, by omega⟩
  rw [laws_markBitsS.l0, if_pos (by omega), if_pos (by omega), Int.toNat_natCast, w64 (x := (s : Int) + 1) (by omega) (by omega), show (s : Int) + 1 = ((s + 1 : Nat) : Int) by omega, k1 k (by omega), Option.bind_some, w64 (by omega) (by omega)]
  exact k2 k (by omega)
theorem markWave_ev (N : Int) (Z : List Int) (Ls : List S64) (hZ : Z.length ≤ 4000000) (hl : Ls.length ≤ 4000000) (hw : ∀ j, j < Ls.length → (Ls.getD j z64).f1.length ≤ 4000000) : ∃ s : Nat, Ev (fun k => laws_markWave.f k N Z Ls 1) (s : Int) := by
 obtain ⟨K1, k1⟩ := ev_out (markIntSF_ev Z 1 (by omega) hZ)
 obtain ⟨s, z, hz, hzl⟩ := markBitsS_l0 Ls.length 0 Ls (1 + Z.length) (by omega) hl (fun j _ h => hw j h) (by omega)
 obtain ⟨K2, k2⟩ := ev_out hz
 refine ⟨s, ev_mk (K1 + K2) fun k hk => ?_⟩
 unfold laws_markWave.f laws_markBitsS.f
 have e1 : laws_markIntS.f k Z 1 = some (((1 + Z.length : Nat) : Int), marksF 1 Z.length) := k1 k (by omega)
 have e2 : laws_markBitsS.l0 k Ls ((1 + Z.length : Nat) : Int) 0 = some ((s : Int), z) := k2 k (by omega)
 rw [e1, Option.bind_some]
 dsimp only
 rw [e2, Option.bind_some, if_pos ⟨marksF_len _ _, hzl⟩]
theorem FnExactWaveList : laws_FnExactWaveList.Pure := by
 intro N Z l hok
 have hZ : Z.length ≤ maxLen := hok.2.1.1
 have hl : l.length ≤ maxLen := hok.2.2.1
 have hg : ∀ i, i < l.length → (l.getD i z74).f1.length ≤ maxLen := fun i hi => by rw [lget_lt _ _ _ hi]; exact (hok.2.2.2 _ (List.getElem_mem hi)).2.1
 obtain ⟨t, ht, hb⟩ := szWave_ev N Z l (by unfold maxLen at hZ; omega) (by unfold maxLen at hl; omega) (fun i hi => by have := hg i hi; unfold maxLen at this; omega)
 obtain ⟨K, hK⟩ := ev_out ht
 by_cases q : t < 0
 ·refine ⟨K, ?_⟩
  unfold laws_FnExactWaveList.f
  rw [hK _ (Nat.le_refl _), Option.bind_some, if_pos q]
 ·obtain ⟨b1, b2, b3⟩ := hb q
  have hF := fine_of l hok.2.2 b3
  have hwl := listW_length N Z (l.map cv)
  obtain ⟨K0, h0⟩ := ev_out (toWave_ev N Z l (by omega) (by omega) (fun i hi => by have := b3 i hi; omega))
  obtain ⟨K1, h1⟩ := ev_out (specWaveList_ev N Z (l.map cv) hF)
  obtain ⟨K2, h2⟩ := ev_out (implWaveList_ev N Z (l.map cv) hF)
  obtain ⟨K3, h3⟩ := ev_out (eqWave_ev N Z (l.map cv) (by omega) (by rw [List.length_map]; omega) (fun i _ => hF.2.1 i))
  obtain ⟨s, hs⟩ := markWave_ev N Z (l.map cv) (by omega) (by rw [List.length_map]; omega) (fun i _ => hF.2.1 i)
  obtain ⟨K4, h4⟩ := ev_out hs
  obtain ⟨K5, h5⟩ := ev_out (eqIntS_ev (listW N Z (l.map cv)) (by omega))
  obtain ⟨K6, h6⟩ := ev_out (markIntSF_ev (listW N Z (l.map cv)) 1 (by omega) (by omega))
  obtain ⟨K7, h7⟩ := ev_out (heldIntSF_ev (listW N Z (l.map cv)).length 1 (by omega) (by omega))
  have h6' : ∀ k, K6 ≤ k → laws_markIntS.f k (listW N Z (l.map cv)) 1 = some (((1 + (listW N Z (l.map cv)).length : Nat) : Int), marksF 1 (listW N Z (l.map cv)).length) := h6
  have h7' : ∀ k, K7 ≤ k → laws_heldIntS.f k (marksF 1 (listW N Z (l.map cv)).length) 1 = some (((1 + (listW N Z (l.map cv)).length : Nat) : Int)) := h7
  generalize listW N Z (l.map cv) = W at *
  refine ⟨K + K0 + K1 + K2 + K3 + K4 + K5 + K6 + K7 + 1, ?_⟩
  unfold laws_FnExactWaveList.f
  rw [hK _ (by omega), Option.bind_some, if_neg q, h0 _ (by omega), Option.bind_some, h1 _ (by omega), Option.bind_some, Option.bind_some, h2 _ (by omega), Option.bind_some, h5 _ (by omega), Option.bind_some, if_pos rfl, Option.bind_some]
  dsimp only
  rw [h3 _ (by omega), Option.bind_some, if_pos rfl, h4 _ (by omega), Option.bind_some, if_neg (by omega), Option.bind_some, show (!true) = false from rfl, laws_FnExactWaveList.j0, if_neg (by decide), h6' _ (by omega), Option.bind_some]
  dsimp only
  rw [h7' _ (by omega), Option.bind_some, if_neg (by omega), if_pos rfl, h0 _ (by omega), Option.bind_some]
  dsimp only
  rw [h2 _ (by omega), Option.bind_some, h5 _ (by omega), Option.bind_some, if_pos rfl, Option.bind_some, if_neg (by omega), if_pos rfl]

end Go.Proofs.Ytamdhfjnalglfaa.Pure
