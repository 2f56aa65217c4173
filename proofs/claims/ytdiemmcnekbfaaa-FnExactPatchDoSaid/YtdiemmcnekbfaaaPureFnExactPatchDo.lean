/- The program's PatchDo returns what the reference's returns, for all arguments (arguments that hold more than 2^20 values are let pass by the statement itself). -/
import Derived.Test.YtdiemmcnekbfaaaQFnExactPatchDox10
import Derived.Test.YtdiemmcnekbfaaaBase
import Derived.Test.YtdiemmcnekbfaaaBits
namespace Go.Proofs.Ytdiemmcnekbfaaa.Pure
open Go.RowKit Go.Proofs.Ytdiemmcnekbfaaa.QFnExactPatchDo Go.Proofs.YtdiemmcnekbfaaaW.PrintWords Go.Proofs.YtdiemmcnekbfaaaW.PrintLast Go.Proofs.YtdiemmcnekbfaaaW.PrintMore
open Go.Proofs.Ytdiemmcnekbfaaa Go.Proofs.Ytdiemmcnekbfaaa.Base Go.Proofs.Ytdiemmcnekbfaaa.Bits
set_option linter.unusedVariables false
set_option linter.unusedSimpArgs false

-- the reference's lists of bits
theorem wu64 {x : Int} (h0 : 0 ≤ x) (h1 : x < 18446744073709551616) : IntKind.u64.wrap x = x := by
  simp [IntKind.wrap, IntKind.bits, IntKind.signed]
  omega
theorem td64 (i : Nat) : Int.tdiv (i : Int) 64 = ((i / 64 : Nat) : Int) := rfl
theorem tm64 (i : Nat) : Int.tmod (i : Int) 64 = ((i % 64 : Nat) : Int) := rfl
theorem td2 (i : Nat) : Int.tdiv (i : Int) 2 = ((i / 2 : Nat) : Int) := rfl
theorem tm2 (i : Nat) : Int.tmod (i : Int) 2 = ((i % 2 : Nat) : Int) := rfl
def Words (ws : List Int) : Prop := ∀ x ∈ ws, 0 ≤ x ∧ x < 2 ^ 64
theorem Words.get {ws : List Int} (h : Words ws) (j : Nat) (hj : j < ws.length) : ∃ a : Nat, ws.getD j 0 = (a : Int) ∧ a < 18446744073709551616 := by
  have := h _ (List.getElem_mem hj)
  rw [← lget_lt ws j 0 hj] at this
  refine ⟨(ws.getD j 0).toNat, by omega, by omega⟩
theorem bitAt_nat {ws : List Int} {i a : Nat} (h : ws.getD (i / 64) 0 = (a : Int)) : bitAt ws i = ((a / 2 ^ (i % 64) % 2 : Nat) : Int) := by
  unfold bitAt
  rw [h]
  simp
theorem l01List_l1 (n : Int) (ws : List Int) (m : Nat) (hm : m ≤ 64) : ∀ (l : List Int) (i a : Nat) (r : List Int), l.length ≤ 1000000 → i ≤ 1000000 → a < 18446744073709551616 →
    Ev (fun k => spec_l01List.l0 k (l ++ [((a / 2 ^ m % 2 : Nat) : Int)]) ((i + 1 : Nat) : Int) n ws) r → Ev (fun k => spec_l01List.l1 k l (i : Int) (a : Int) (m : Int) n ws) r := by
  induction m with
  | zero =>
    intro l i a r hl hi ha hr
    refine Ev.step (f := fun k => spec_l01List.l0 k (l ++ [((a / 2 ^ 0 % 2 : Nat) : Int)]) ((i + 1 : Nat) : Int) n ws) (fun k => ?_) hr
    rw [spec_l01List.l1, if_neg (by omega), if_pos (by omega), tm2, w64 (by omega) (by omega), w64 (by omega) (by omega), Nat.pow_zero, Nat.div_one]
    rfl
  | succ m ih =>
    intro l i a r hl hi ha hr
    refine Ev.step (f := fun k => spec_l01List.l1 k l (i : Int) ((a / 2 : Nat) : Int) (m : Int) n ws) (fun k => ?_) (ih (by omega) l i (a / 2) r hl hi (by omega) ?_)
    · rw [spec_l01List.l1, if_pos (by omega), td2, wu64 (by omega) (by omega), w64 (by omega) (by omega), show ((m + 1 : Nat) : Int) - 1 = (m : Int) by omega]
    · rw [Nat.div_div_eq_div_mul, Nat.mul_comm, ← Nat.pow_succ]
      exact hr
theorem l01List_l0 (n : Nat) (ws : List Int) (hw : Words ws) (hn : n ≤ 64 * ws.length) (h5 : n ≤ 5000) (d : Nat) : ∀ i : Nat, i + d = n → Ev (fun k => spec_l01List.l0 k (bitsL i ws) (i : Int) (n : Int) ws) (bitsL n ws) := by
  induction d with
  | zero =>
    intro i h
    obtain rfl : i = n := by omega
    refine Ev.step (f := fun _ => some _) (fun k => ?_) (Ev.now _)
    rw [spec_l01List.l0, if_neg (by omega)]
  | succ d ih =>
    intro i h
    obtain ⟨a, ea, ha⟩ := hw.get (i / 64) (by omega)
    refine Ev.step (f := fun k => spec_l01List.l1 k (bitsL i ws) (i : Int) (a : Int) ((i % 64 : Nat) : Int) (n : Int) ws) (fun k => ?_) (l01List_l1 (n : Int) ws (i % 64) (by omega) _ i a _ (by rw [bitsL_length]; omega) (by omega) ha ?_)
    · rw [spec_l01List.l0, if_pos (by omega), td64, w64 (by omega) (by omega), if_pos (by omega), if_pos (by omega), rd_nat, ea, tm64]
    · rw [← bitAt_nat ea, ← bitsL_succ]
      exact ih (i + 1) (by omega)
theorem l01List_ev (n : Nat) (ws : List Int) (hw : Words ws) (hn : n ≤ 64 * ws.length) (h5 : n ≤ 5000) : Ev (fun k => spec_l01List.f k (n : Int) ws) (bitsL n ws) :=
  Ev.congr (f := fun k => spec_l01List.l0 k (bitsL 0 ws) ((0 : Nat) : Int) (n : Int) ws) (fun _ => rfl) (l01List_l0 n ws hw hn h5 n 0 (by omega))
theorem l01Power_l0 (m : Nat) : ∀ (a : Nat), a * 2 ^ m < 18446744073709551616 → m ≤ 64 → Ev (fun k => spec_l01Power.l0 k (m : Int) (a : Int)) ((a * 2 ^ m : Nat) : Int) := by
  induction m with
  | zero =>
    intro a h hm
    refine Ev.step (f := fun _ => some _) (fun k => ?_) (Ev.now _)
    rw [spec_l01Power.l0, if_neg (by omega), Nat.pow_zero, Nat.mul_one]
  | succ m ih =>
    intro a h hm
    have hp : 0 < 2 ^ m := Nat.two_pow_pos m
    have e : a * 2 ^ (m + 1) = (2 * a) * 2 ^ m := by rw [Nat.pow_succ, Nat.mul_comm (2 ^ m) 2, ← Nat.mul_assoc, Nat.mul_comm a 2]
    rw [e] at h ⊢
    have : 2 * a ≤ (2 * a) * 2 ^ m := Nat.le_mul_of_pos_right _ hp
    refine Ev.step (f := fun k => spec_l01Power.l0 k (m : Int) ((2 * a : Nat) : Int)) (fun k => ?_) (ih (2 * a) h (by omega))
    rw [spec_l01Power.l0, if_pos (by omega), w64 (by omega) (by omega), wu64 (by omega) (by omega), show ((m + 1 : Nat) : Int) - 1 = (m : Int) by omega]
    rfl
theorem pow64 (m : Nat) (h : m < 64) : 2 ^ m < 18446744073709551616 := Nat.pow_lt_pow_right (a := 2) (n := 64) (by decide) h
theorem pow64i (m : Nat) (h : m ≤ 64) : (2 : Int) ^ m ≤ 18446744073709551616 := by
  have : 2 ^ m ≤ 2 ^ 64 := Nat.pow_le_pow_right (by decide) h
  have e : (2 : Int) ^ m = ((2 ^ m : Nat) : Int) := by simp
  omega
theorem l01Power_ev (m : Nat) (h : m < 64) : Ev (fun k => spec_l01Power.f k (m : Int)) ((2 : Int) ^ m) := by
  have := l01Power_l0 m 1 (by rw [Nat.one_mul]; exact pow64 m h) (by omega)
  rw [Nat.one_mul] at this
  rw [show (2 : Int) ^ m = ((2 ^ m : Nat) : Int) by simp]
  exact this
theorem bitsOf_j2 (l : List Int) (hb : ∀ i, i < l.length → l.getD i 0 = 0 ∨ l.getD i 0 = 1) (h5 : l.length ≤ 5000) (i : Nat) (hi : i < l.length) (r : Int × List Int × Bool)
    (hr : Ev (fun k => spec_BitsOf.l0 k l ((i + 1 : Nat) : Int) (l.length : Int) (wordsTo l (i + 1) (i / 64 + 1))) r) : Ev (fun k => spec_BitsOf.j2 k l (i : Int) (l.length : Int) (wordsTo l i (i / 64 + 1))) r := by
  have e1 : wrap64 ((i : Int) + 1) = ((i + 1 : Nat) : Int) := w64 (by omega) (by omega)
  rcases hb i hi with q | q
  · refine Ev.step (f := fun k => spec_BitsOf.l0 k l ((i + 1 : Nat) : Int) (l.length : Int) (wordsTo l (i + 1) (i / 64 + 1))) (fun k => ?_) hr
    rw [spec_BitsOf.j2, if_pos (by omega), if_pos (by omega), rd_nat, q, if_neg (by decide), e1, wordsTo_skip l i _ q]
  · obtain ⟨K1, h1⟩ := ev_out (l01Power_ev (i % 64) (by omega))
    obtain ⟨K2, h2⟩ := ev_out hr
    refine ev_mk (K1 + K2 + 1) fun k hk => ?_
    obtain ⟨k, rfl⟩ : ∃ m, k = m + 1 := ⟨k - 1, by omega⟩
    have hlen := wordsTo_length l i (i / 64 + 1)
    have hbd := wordAt_bound l hb i (i / 64) (by omega)
    rw [show min 64 (i - 64 * (i / 64)) = i % 64 by omega] at hbd
    have hp := pow64i (i % 64 + 1) (by omega)
    rw [Int.pow_succ] at hp
    rw [spec_BitsOf.j2, if_pos (by omega), if_pos (by omega), rd_nat, q, if_pos rfl, td64, tm64, w64 (by omega) (by omega), if_pos (by omega), if_pos (by rw [hlen]; omega), h1 k (by omega), Option.bind_some, e1, rd_nat, wordsTo_get _ _ _ _ (by omega),
      wu64 (by have := two_pos (i % 64); omega) (by omega), Int.toNat_natCast, wordsTo_set l i _ _ (by omega) (by rw [q, Int.one_mul])]
    exact h2 k (by omega)
theorem bitsOf_l0 (l : List Int) (hb : ∀ i, i < l.length → l.getD i 0 = 0 ∨ l.getD i 0 = 1) (h5 : l.length ≤ 5000) (d : Nat) : ∀ i : Nat, i + d = l.length →
    Ev (fun k => spec_BitsOf.l0 k l (i : Int) (l.length : Int) (wordsTo l i ((i + 63) / 64))) ((l.length : Int), wordsOf l, true) := by
  induction d with
  | zero =>
    intro i h
    obtain rfl : i = l.length := by omega
    refine Ev.step (f := fun _ => some _) (fun k => ?_) (Ev.now _)
    rw [spec_BitsOf.l0, if_neg (by omega)]
    rfl
  | succ d ih =>
    intro i h
    have hr := bitsOf_j2 l hb h5 i (by omega) _ (by have := ih (i + 1) (by omega); rwa [show (i + 1 + 63) / 64 = i / 64 + 1 by omega] at this)
    have hj : Ev (fun k => spec_BitsOf.j1 k l (i : Int) false (l.length : Int) (wordsTo l i ((i + 63) / 64))) ((l.length : Int), wordsOf l, true) := by
      refine Ev.step (fun k => ?_) hr
      rw [spec_BitsOf.j1, if_neg (by decide), tm64]
      by_cases q : i % 64 = 0
      · rw [if_pos (by omega), if_pos (by rw [wordsTo_length]; omega), wordsTo_more l i q]
      · rw [if_neg (by omega), show (i + 63) / 64 = i / 64 + 1 by omega]
    refine Ev.step (fun k => ?_) hj
    rw [spec_BitsOf.l0, if_pos (by omega), if_pos (by omega), rd_nat]
    rcases hb i (by omega) with q | q
    · rw [q, if_pos rfl]
    · rw [q, if_neg (by decide)]
      rfl
theorem specBitsOf_ev (l : List Int) (hb : ∀ i, i < l.length → l.getD i 0 = 0 ∨ l.getD i 0 = 1) (h5 : l.length ≤ 5000) : Ev (fun k => spec_BitsOf.f k l) ((l.length : Int), wordsOf l, true) := by
  refine Ev.congr (f := fun k => spec_BitsOf.l0 k l ((0 : Nat) : Int) (l.length : Int) (wordsTo l 0 ((0 + 63) / 64))) (fun k => ?_) (bitsOf_l0 l hb h5 l.length 0 (by omega))
  unfold spec_BitsOf.f
  rw [if_neg (by omega)]
  rfl
/-- Whether words are the words of a list of n bits. -/
def okB (n : Int) (ws : List Int) : Bool := decide (0 ≤ n ∧ n ≤ 5000 ∧ ws.length = (n.toNat + 63) / 64 ∧ wordsOf (bitsL n.toNat ws) = ws)
theorem bitsL_get01 (n : Nat) (ws : List Int) : ∀ i, i < (bitsL n ws).length → (bitsL n ws).getD i 0 = 0 ∨ (bitsL n ws).getD i 0 = 1 := by
  intro i hi
  rw [bitsL_length] at hi
  rw [bitsL_get _ _ _ hi]
  exact bitAt_01 ws i
theorem specBitsOk_l0 (n : Int) (ws : List Int) (m : Int) (ys : List Int) (hl : ws.length = ys.length) (h5 : ws.length ≤ 1000000) (d : Nat) : ∀ i : Nat, i + d = ws.length → ws.take i = ys.take i → Ev (fun k => spec_BitsOk.l0 k (i : Int) n ws m ys) (decide (ys = ws)) := by
  induction d with
  | zero =>
    intro i h he
    refine Ev.step (f := fun _ => some _) (fun k => ?_) (Ev.now _)
    rw [List.take_of_length_le (by omega), List.take_of_length_le (by omega)] at he
    rw [spec_BitsOk.l0, if_neg (by omega), decide_eq_true he.symm]
  | succ d ih =>
    intro i h he
    by_cases q : ws.getD i 0 = ys.getD i 0
    · refine Ev.step (f := fun k => spec_BitsOk.l0 k ((i + 1 : Nat) : Int) n ws m ys) (fun k => ?_) (ih (i + 1) (by omega) ?_)
      · rw [spec_BitsOk.l0, if_pos (by omega), if_pos (by omega), if_pos (by omega), rd_nat, rd_nat, if_pos q, w64 (by omega) (by omega)]
        rfl
      · rw [take_succ_getD ws 0 i (by omega), take_succ_getD ys 0 i (by omega), he, q]
    · refine Ev.step (f := fun _ => some _) (fun k => ?_) (Ev.now _)
      rw [spec_BitsOk.l0, if_pos (by omega), if_pos (by omega), if_pos (by omega), rd_nat, rd_nat, if_neg q, decide_eq_false]
      intro e
      exact q (by rw [e])
theorem specBitsOk_ev (n : Int) (ws : List Int) (hw : Words ws) (hl : ws.length ≤ 4000000) (hn : -9223372036854775808 ≤ n) : Ev (fun k => spec_BitsOk.f k n ws) (okB n ws) := by
  by_cases h0 : n < 0
  · refine Ev.congr (f := fun k => spec_BitsOk.j0 k true n ws) (fun k => ?_) (Ev.step (f := fun _ => some _) (fun k => ?_) (Ev.now _))
    · unfold spec_BitsOk.f
      rw [if_pos h0]
    · rw [spec_BitsOk.j0, if_pos rfl, okB, decide_eq_false (by omega)]
  by_cases h1 : n > 5000
  · refine Ev.congr (f := fun k => spec_BitsOk.j0 k true n ws) (fun k => ?_) (Ev.step (f := fun _ => some _) (fun k => ?_) (Ev.now _))
    · unfold spec_BitsOk.f
      rw [if_neg h0, if_pos h1]
    · rw [spec_BitsOk.j0, if_pos rfl, okB, decide_eq_false (by omega)]
  obtain ⟨n, rfl⟩ := Int.eq_ofNat_of_zero_le (show 0 ≤ n by omega)
  have e : wrap64 (Int.tdiv (wrap64 ((n : Int) + 63)) 64) = (((n + 63) / 64 : Nat) : Int) := by
    rw [w64 (x := (n : Int) + 63) (by omega) (by omega), show (n : Int) + 63 = ((n + 63 : Nat) : Int) by omega, td64, w64 (by omega) (by omega)]
  have key : Ev (fun k => spec_BitsOk.j0 k ((ws.length : Int) != (((n + 63) / 64 : Nat) : Int)) (n : Int) ws) (okB (n : Int) ws) := by
    by_cases q : ws.length = (n + 63) / 64
    · have hn' : n ≤ 64 * ws.length := by omega
      obtain ⟨K1, k1⟩ := ev_out (l01List_ev n ws hw hn' (by omega))
      obtain ⟨K2, k2⟩ := ev_out (specBitsOf_ev (bitsL n ws) (bitsL_get01 n ws) (by rw [bitsL_length]; omega))
      have hlen : (wordsOf (bitsL n ws)).length = ws.length := by rw [wordsOf, wordsTo_length, bitsL_length, q]
      obtain ⟨K3, k3⟩ := ev_out (specBitsOk_l0 (n : Int) ws ((bitsL n ws).length : Int) (wordsOf (bitsL n ws)) hlen.symm (by omega) ws.length 0 (by omega) rfl)
      refine ev_mk (K1 + K2 + K3 + 1) fun k hk => ?_
      obtain ⟨k, rfl⟩ : ∃ m, k = m + 1 := ⟨k - 1, by omega⟩
      rw [spec_BitsOk.j0, if_neg (by rw [bne_iff_ne, q]; simp), k1 k (by omega), Option.bind_some, k2 k (by omega), Option.bind_some]
      show spec_BitsOk.l0 k ((0 : Nat) : Int) (n : Int) ws ((bitsL n ws).length : Int) (wordsOf (bitsL n ws)) = _
      rw [k3 k (by omega), okB, Int.toNat_natCast]
      congr 1
      exact decide_eq_decide.2 ⟨fun h => ⟨by omega, by omega, q, h⟩, fun h => h.2.2.2⟩
    · refine Ev.step (f := fun _ => some _) (fun k => ?_) (Ev.now _)
      rw [spec_BitsOk.j0, if_pos (by rw [bne_iff_ne]; omega), okB, decide_eq_false (by rw [Int.toNat_natCast]; exact fun h => q h.2.2.1)]
  refine Ev.congr (fun k => ?_) key
  unfold spec_BitsOk.f
  rw [if_neg h0, if_neg h1, e]

-- the program's bits
theorem and1 (a : Nat) (h : a < 18446744073709551616) : Go.bits .and .u64 (a : Int) 1 = ((a % 2 : Nat) : Int) := by
  have := bits_mask .u64 64 (by decide) (fun n h0 h1 => wu64 h0 (by omega)) 1 (by decide) (a : Int) (by omega) (by omega)
  rw [show ((2 : Int) ^ 1 - 1) = 1 by decide] at this
  rw [this]
  omega
theorem shr_nat (a m : Nat) (h : m < 64) : shr .u64 (a : Int) ((m : Nat) : Int) = ((a / 2 ^ m : Nat) : Int) := by
  unfold shr
  rw [Int.toNat_natCast, show min m IntKind.u64.bits = m by show min m 64 = m; omega]
  simp
theorem at_ev (n : Int) (ws : List Int) (hw : Words ws) (i : Nat) (hi : i < 64 * ws.length) (h5 : i ≤ 1000000) : impl_Bits_at.f n ws (i : Int) = some (bitAt ws i) := by
  obtain ⟨a, ea, ha⟩ := hw.get (i / 64) (by omega)
  have hd : a / 2 ^ (i % 64) ≤ a := Nat.div_le_self _ _
  unfold impl_Bits_at.f
  rw [td64, tm64, w64 (by omega) (by omega), if_pos (by omega), if_pos (by omega), if_pos (by omega), rd_nat, ea, shr_nat _ _ (by omega), and1 _ (by omega), w64 (by omega) (by omega), bitAt_nat ea]
theorem list_l0 (n : Nat) (ws : List Int) (hw : Words ws) (hn : n ≤ 64 * ws.length) (h5 : n ≤ 5000) (d : Nat) : ∀ i : Nat, i + d = n → Ev (fun k => impl_Bits_list.l0 k (bitsL i ws) (n : Int) (i : Int) (n : Int) ws) (bitsL n ws) := by
  induction d with
  | zero =>
    intro i h
    obtain rfl : i = n := by omega
    refine Ev.step (f := fun _ => some _) (fun k => ?_) (Ev.now _)
    rw [impl_Bits_list.l0, if_neg (by omega)]
  | succ d ih =>
    intro i h
    refine Ev.step (fun k => ?_) (ih (i + 1) (by omega))
    rw [impl_Bits_list.l0, if_pos (by omega), at_ev _ _ hw i (by omega) (by omega), Option.bind_some, if_pos (by rw [bitsL_length]; omega), w64 (by omega) (by omega), bitsL_succ]
    rfl
theorem list_ev (n : Nat) (ws : List Int) (hw : Words ws) (hn : n ≤ 64 * ws.length) (h5 : n ≤ 5000) : Ev (fun k => impl_Bits_list.f k (n : Int) ws) (bitsL n ws) :=
  Ev.congr (f := fun k => impl_Bits_list.l0 k (bitsL 0 ws) (n : Int) ((0 : Nat) : Int) (n : Int) ws) (fun _ => rfl) (list_l0 n ws hw hn h5 n 0 (by omega))
theorem implBitsOk_ev (n : Int) (ws : List Int) (hw : Words ws) (hl : ws.length ≤ 4000000) (hn : -9223372036854775808 ≤ n) : impl_BitsOk.f n ws = some (okB n ws) := by
  unfold impl_BitsOk.f impl_within.f
  by_cases h0 : 0 ≤ n
  case neg =>
    rw [if_neg h0, Option.bind_some, if_neg (by decide), okB, decide_eq_false (by omega)]
  rw [if_pos h0, Option.bind_some]
  by_cases h1 : n ≤ 5000
  case neg =>
    rw [decide_eq_false h1, if_neg (by decide), okB, decide_eq_false (by omega)]
  rw [decide_eq_true h1, if_pos rfl]
  obtain ⟨n, rfl⟩ := Int.eq_ofNat_of_zero_le h0
  have e : wrap64 (Int.tdiv (wrap64 ((wrap64 ((n : Int) + 64)) - 1)) 64) = (((n + 63) / 64 : Nat) : Int) := by
    rw [w64 (x := (n : Int) + 64) (by omega) (by omega), w64 (x := (n : Int) + 64 - 1) (by omega) (by omega), show (n : Int) + 64 - 1 = ((n + 63 : Nat) : Int) by omega, td64, w64 (by omega) (by omega)]
  rw [e]
  by_cases q : ws.length = (n + 63) / 64
  case neg =>
    rw [if_neg (by omega), okB, decide_eq_false (by rw [Int.toNat_natCast]; exact fun h => q h.2.2.1)]
  rw [if_pos (by omega), tm64]
  have W := wordsOf_bits n ws hw q
  have fin : ∀ b : Bool, (b = true ↔ (n % 64 = 0 ∨ ws.getD (ws.length - 1) 0 / 2 ^ (n % 64) = 0)) → some b = some (okB (n : Int) ws) := by
    intro b hb
    congr 1
    rw [Bool.eq_iff_iff, hb, ← W, okB, decide_eq_true_iff, Int.toNat_natCast]
    exact ⟨fun h => ⟨by omega, by omega, q, h⟩, fun h => h.2.2.2⟩
  by_cases z : n % 64 = 0
  · rw [if_pos (by omega)]
    exact fin true ⟨fun _ => .inl z, fun _ => rfl⟩
  · obtain ⟨a, ea, ha⟩ := hw.get (ws.length - 1) (by omega)
    rw [if_neg (by omega), w64 (by omega) (by omega), if_pos (by omega), if_pos (by omega), if_pos (by omega), show (ws.length : Int) - 1 = ((ws.length - 1 : Nat) : Int) by omega, rd_nat, ea, shr_nat _ _ (by omega)]
    refine fin _ ?_
    rw [beq_iff_eq, ea]
    constructor
    · intro h
      right
      have : ((a : Int) / 2 ^ (n % 64)) = ((a / 2 ^ (n % 64) : Nat) : Int) := by simp
      rw [this]
      exact h
    · rintro (h | h)
      · exact absurd h z
      · have : ((a : Int) / 2 ^ (n % 64)) = ((a / 2 ^ (n % 64) : Nat) : Int) := by simp
        rw [this] at h
        exact h

-- the program's words of a list
theorem bitsOr_comm (x y : Int) : Go.bits .or .u64 x y = Go.bits .or .u64 y x := by
  unfold Go.bits
  dsimp only
  rw [BitVec.or_comm]
theorem or_bit (x : Int) (m : Nat) (v : Int) (hx : 0 ≤ x) (hx1 : x < 2 ^ m) (hm : m < 64) (hv : v = 0 ∨ v = 1) : Go.bits .or .u64 x (shl .u64 (IntKind.u64.wrap v) (m : Int)) = x + v * 2 ^ m := by
  have hp := pow64i (m + 1) (by omega)
  rw [Int.pow_succ] at hp
  have hp0 := two_pos m
  rcases hv with rfl | rfl
  · have e : shl .u64 (IntKind.u64.wrap 0) (m : Int) = 0 := by
      unfold shl
      rw [wu64 (x := 0) (by decide) (by decide), Int.zero_mul]
      exact wu64 (by decide) (by decide)
    rw [e, bits_join .u64 64 (by decide) (fun n h0 h1 => wu64 h0 (by omega)) 0 x 0 hx (by simp [Int.emod_one]) (by omega) (by decide) (by decide) (by decide)]
    simp
  · have e : shl .u64 (IntKind.u64.wrap 1) (m : Int) = 2 ^ m := by
      unfold shl
      rw [wu64 (x := 1) (by decide) (by decide), Int.one_mul, Int.toNat_natCast, show min m IntKind.u64.bits = m by show min m 64 = m; omega]
      exact wu64 (by omega) (by omega)
    rw [e, bitsOr_comm, bits_join .u64 64 (by decide) (fun n h0 h1 => wu64 h0 (by omega)) m (2 ^ m) x (by omega) Int.emod_self (by omega) hx hx1 (by omega)]
    omega
theorem implBitsOf_l0 (l : List Int) (hb : ∀ i, i < l.length → l.getD i 0 = 0 ∨ l.getD i 0 = 1) (h5 : l.length ≤ 5000) (d : Nat) : ∀ i : Nat, i + d = l.length →
    Ev (fun k => impl_bitsOf.l0 k l (l.length : Int) (i : Int) (l.length : Int) (wordsTo l i ((l.length + 63) / 64))) ((l.length : Int), wordsOf l) := by
  induction d with
  | zero =>
    intro i h
    obtain rfl : i = l.length := by omega
    refine Ev.step (f := fun _ => some _) (fun k => ?_) (Ev.now _)
    rw [impl_bitsOf.l0, if_neg (by omega)]
    rfl
  | succ d ih =>
    intro i h
    refine Ev.step (fun k => ?_) (ih (i + 1) (by omega))
    have hbd := wordAt_bound l hb i (i / 64) (by omega)
    rw [show min 64 (i - 64 * (i / 64)) = i % 64 by omega] at hbd
    rw [impl_bitsOf.l0, if_pos (by omega), if_pos (by omega), if_pos (by omega), td64, tm64, w64 (by omega) (by omega), if_pos (by omega), if_pos (by rw [wordsTo_length]; omega), if_pos (by omega), w64 (by omega) (by omega), rd_nat, rd_nat, Int.toNat_natCast,
      wordsTo_get _ _ _ _ (by omega), or_bit _ _ _ hbd.1 hbd.2 (by omega) (hb i (by omega)), wordsTo_set l i _ _ (by omega) rfl]
    rfl
theorem implBitsOf_ev (l : List Int) (hb : ∀ i, i < l.length → l.getD i 0 = 0 ∨ l.getD i 0 = 1) (h5 : l.length ≤ 5000) : Ev (fun k => impl_bitsOf.f k l) ((l.length : Int), wordsOf l) := by
  have e : wrap64 (Int.tdiv (wrap64 ((wrap64 ((l.length : Int) + 64)) - 1)) 64) = (((l.length + 63) / 64 : Nat) : Int) := by
    rw [w64 (x := (l.length : Int) + 64) (by omega) (by omega), w64 (x := (l.length : Int) + 64 - 1) (by omega) (by omega), show (l.length : Int) + 64 - 1 = ((l.length + 63 : Nat) : Int) by omega, td64, w64 (by omega) (by omega)]
  have z : wordsTo l 0 ((l.length + 63) / 64) = List.replicate ((l.length + 63) / 64) 0 := by
    apply ext_getD 0 (by rw [wordsTo_length, List.length_replicate])
    intro j hj
    rw [wordsTo_length] at hj
    rw [wordsTo_get _ _ _ _ hj, lrep]
    unfold wordAt
    rw [show min 64 (0 - 64 * j) = 0 by omega, wsum]
  refine Ev.congr (f := fun k => impl_bitsOf.l0 k l (l.length : Int) ((0 : Nat) : Int) (l.length : Int) (wordsTo l 0 ((l.length + 63) / 64))) (fun k => ?_) (implBitsOf_l0 l hb h5 l.length 0 (by omega))
  unfold impl_bitsOf.f
  rw [e, if_pos (by omega), Int.toNat_natCast, if_pos (by omega), z]
  rfl
theorem words_lt (l : List Int) (hb : ∀ i, i < l.length → l.getD i 0 = 0 ∨ l.getD i 0 = 1) : Words (wordsOf l) := by
  intro x hx
  unfold wordsOf wordsTo at hx
  obtain ⟨j, _, rfl⟩ := List.mem_map.1 hx
  have h := wordAt_bound l hb l.length j (Nat.le_refl _)
  have hp := pow64i (min 64 (l.length - 64 * j)) (by omega)
  exact ⟨h.1, by omega⟩

-- BitsFlip
def flipL (l : List Int) : List Int := l.map fun x => 1 - x
theorem flipL_length (l : List Int) : (flipL l).length = l.length := by simp [flipL]
theorem flipL_get (l : List Int) (i : Nat) (h : i < l.length) : (flipL l).getD i 0 = 1 - l.getD i 0 := by
  rw [lget_lt _ _ _ (by rw [flipL_length]; exact h), lget_lt _ _ _ h]
  simp [flipL]
theorem flipL_01 (l : List Int) (hb : ∀ i, i < l.length → l.getD i 0 = 0 ∨ l.getD i 0 = 1) : ∀ i, i < (flipL l).length → (flipL l).getD i 0 = 0 ∨ (flipL l).getD i 0 = 1 := by
  intro i hi
  rw [flipL_length] at hi
  rw [flipL_get _ _ hi]
  rcases hb i hi with q | q <;> rw [q] <;> decide
theorem flip_l0 (l : List Int) (hb : ∀ i, i < l.length → l.getD i 0 = 0 ∨ l.getD i 0 = 1) (h5 : l.length ≤ 5000) (d : Nat) : ∀ i : Nat, i + d = l.length →
    Ev (fun k => impl_BitsFlip.l0 k ((flipL l).take i ++ l.drop i) (l.length : Int) (i : Int)) ((l.length : Int), wordsOf (flipL l)) := by
  induction d with
  | zero =>
    intro i h
    obtain rfl : i = l.length := by omega
    have hf := flipL_length l
    obtain ⟨K, hK⟩ := ev_out (implBitsOf_ev (flipL l) (flipL_01 l hb) (by omega))
    refine ev_mk (K + 1) fun k hk => ?_
    obtain ⟨k, rfl⟩ : ∃ m, k = m + 1 := ⟨k - 1, by omega⟩
    rw [impl_BitsFlip.l0, if_neg (by omega), List.drop_length, List.append_nil, List.take_of_length_le (by omega), hK k (by omega), Option.bind_some, hf]
  | succ d ih =>
    intro i h
    refine Ev.step (fun k => ?_) (ih (i + 1) (by omega))
    have hln := over_len (flipL l) l i (flipL_length l) (by omega)
    rw [impl_BitsFlip.l0, if_pos (by omega), if_pos (by omega), if_pos (by omega), rd_nat, over_get _ _ _ _ (flipL_length l) (by omega), w64 (x := (i : Int) + 1) (by omega) (by omega), Int.toNat_natCast,
      w64 (by rcases hb i (by omega) with q | q <;> rw [q] <;> decide) (by rcases hb i (by omega) with q | q <;> rw [q] <;> decide), over_set (flipL l) l 0 _ i (flipL_length l) (by omega) (flipL_get l i (by omega)).symm]
    rfl
theorem okB_out {n : Int} {ws : List Int} (h : okB n ws = true) : 0 ≤ n ∧ n ≤ 5000 ∧ ws.length = (n.toNat + 63) / 64 := by
  have := of_decide_eq_true h
  exact ⟨this.1, this.2.1, this.2.2.1⟩
theorem flip_ev (n : Nat) (ws : List Int) (hw : Words ws) (hl : ws.length ≤ 4000000) (ok : okB (n : Int) ws = true) : Ev (fun k => impl_BitsFlip.f k (n : Int) ws) ((n : Int), wordsOf (flipL (bitsL n ws))) := by
  obtain ⟨_, h5, hq⟩ := okB_out ok
  rw [Int.toNat_natCast] at hq
  have hlen := bitsL_length n ws
  obtain ⟨K1, h1⟩ := ev_out (list_ev n ws hw (by omega) (by omega))
  obtain ⟨K2, h2⟩ := ev_out (flip_l0 (bitsL n ws) (bitsL_get01 n ws) (by omega) (bitsL n ws).length 0 (by omega))
  refine ev_mk (K1 + K2) fun k hk => ?_
  unfold impl_BitsFlip.f
  rw [implBitsOk_ev _ _ hw hl (by omega), ok, Option.bind_some, if_pos rfl, h1 k (by omega), Option.bind_some]
  have := h2 k (by omega)
  rw [hlen] at this
  rw [hlen]
  exact this

-- toIntS, eqIntS
theorem toIntS_l0 (l : List Int) (hl : l.length ≤ 4000000) (d : Nat) : ∀ i : Nat, i + d = l.length → Ev (fun k => laws_toIntS.l0 k l (l.take i ++ List.replicate d 0) (i : Int)) l := by
  induction d with
  | zero =>
    intro i h
    refine Ev.step (f := fun _ => some l) (fun k => ?_) (Ev.now l)
    rw [laws_toIntS.l0]
    rw [if_neg (by omega), List.take_of_length_le (by omega)]
    simp
  | succ d ih =>
    intro i h
    refine Ev.step (f := fun k => laws_toIntS.l0 k l (l.take (i + 1) ++ List.replicate d 0) ((i + 1 : Nat) : Int)) (fun k => ?_) (ih (i + 1) (by omega))
    rw [laws_toIntS.l0]
    rw [if_pos (by omega), if_pos (by omega), if_pos (by rw [fill_length l 0 i (d + 1) h]; omega), w64 (by omega) (by omega), rd_nat, Int.toNat_natCast, fill_set l 0 _ i d h rfl]
    rfl
theorem toIntS_ev (l : List Int) (hl : l.length ≤ 4000000) : Ev (fun k => laws_toIntS.f k l) l := by
  refine Ev.congr (f := fun k => laws_toIntS.l0 k l (l.take 0 ++ List.replicate l.length 0) ((0 : Nat) : Int)) (fun k => ?_) (toIntS_l0 l hl l.length 0 (by omega))
  unfold laws_toIntS.f
  rw [if_pos (by omega), Int.toNat_natCast, if_pos (by omega)]
  rfl
theorem eqIntS_l0 (l : List Int) (hl : l.length ≤ 4000000) (d : Nat) : ∀ i : Nat, i + d = l.length → Ev (fun k => laws_eqIntS.l0 k l l (i : Int)) true := by
  induction d with
  | zero =>
    intro i h
    refine Ev.step (f := fun _ => some true) (fun k => ?_) (Ev.now true)
    rw [laws_eqIntS.l0]
    rw [if_neg (by omega)]
  | succ d ih =>
    intro i h
    refine Ev.step (f := fun k => laws_eqIntS.l0 k l l ((i + 1 : Nat) : Int)) (fun k => ?_) (ih (i + 1) (by omega))
    rw [laws_eqIntS.l0]
    rw [if_pos (by omega), if_pos (by omega), if_pos (by omega), if_pos rfl, w64 (by omega) (by omega)]
    rfl
theorem eqIntS_ev (l : List Int) (hl : l.length ≤ 4000000) : Ev (fun k => laws_eqIntS.f k l l) true := by
  refine Ev.congr (f := fun k => laws_eqIntS.l0 k l l ((0 : Nat) : Int)) (fun k => ?_) (eqIntS_l0 l hl l.length 0 (by omega))
  unfold laws_eqIntS.f
  rw [if_pos rfl]
  rfl

-- toUint64S, eqUint64S
theorem toUint64S_l0 (l : List Int) (hl : l.length ≤ 4000000) (d : Nat) : ∀ i : Nat, i + d = l.length → Ev (fun k => laws_toUint64S.l0 k l (l.take i ++ List.replicate d 0) (i : Int)) l := by
  induction d with
  | zero =>
    intro i h
    refine Ev.step (f := fun _ => some l) (fun k => ?_) (Ev.now l)
    rw [laws_toUint64S.l0]
    rw [if_neg (by omega), List.take_of_length_le (by omega)]
    simp
  | succ d ih =>
    intro i h
    refine Ev.step (f := fun k => laws_toUint64S.l0 k l (l.take (i + 1) ++ List.replicate d 0) ((i + 1 : Nat) : Int)) (fun k => ?_) (ih (i + 1) (by omega))
    rw [laws_toUint64S.l0]
    rw [if_pos (by omega), if_pos (by omega), if_pos (by rw [fill_length l 0 i (d + 1) h]; omega), w64 (by omega) (by omega), rd_nat, Int.toNat_natCast, fill_set l 0 _ i d h rfl]
    rfl
theorem toUint64S_ev (l : List Int) (hl : l.length ≤ 4000000) : Ev (fun k => laws_toUint64S.f k l) l := by
  refine Ev.congr (f := fun k => laws_toUint64S.l0 k l (l.take 0 ++ List.replicate l.length 0) ((0 : Nat) : Int)) (fun k => ?_) (toUint64S_l0 l hl l.length 0 (by omega))
  unfold laws_toUint64S.f
  rw [if_pos (by omega), Int.toNat_natCast, if_pos (by omega)]
  rfl
theorem eqUint64S_l0 (l : List Int) (hl : l.length ≤ 4000000) (d : Nat) : ∀ i : Nat, i + d = l.length → Ev (fun k => laws_eqUint64S.l0 k l l (i : Int)) true := by
  induction d with
  | zero =>
    intro i h
    refine Ev.step (f := fun _ => some true) (fun k => ?_) (Ev.now true)
    rw [laws_eqUint64S.l0]
    rw [if_neg (by omega)]
  | succ d ih =>
    intro i h
    refine Ev.step (f := fun k => laws_eqUint64S.l0 k l l ((i + 1 : Nat) : Int)) (fun k => ?_) (ih (i + 1) (by omega))
    rw [laws_eqUint64S.l0]
    rw [if_pos (by omega), if_pos (by omega), if_pos (by omega), if_pos rfl, w64 (by omega) (by omega)]
    rfl
theorem eqUint64S_ev (l : List Int) (hl : l.length ≤ 4000000) : Ev (fun k => laws_eqUint64S.f k l l) true := by
  refine Ev.congr (f := fun k => laws_eqUint64S.l0 k l l ((0 : Nat) : Int)) (fun k => ?_) (eqUint64S_l0 l hl l.length 0 (by omega))
  unfold laws_eqUint64S.f
  rw [if_pos rfl]
  rfl

theorem markIntS_l0 (d : Nat) : ∀ (i : Nat) (l : List Int) (c : Int), l.length ≤ 4000000 → 0 ≤ c → c ≤ 1000000000 + (i : Int) → i + d = l.length → ∃ l', Ev (fun k => laws_markIntS.l0 k l c (i : Int)) (c + (d : Int), l') := by
  induction d with
  | zero =>
    intro i l c hl h0 h1 h
    refine ⟨l, Ev.step (f := fun _ => some _) (fun k => ?_) (Ev.now _)⟩
    rw [laws_markIntS.l0, if_neg (by omega)]
    congr 2
    omega
  | succ d ih =>
    intro i l c hl h0 h1 h
    obtain ⟨l', h'⟩ := ih (i + 1) (l.set i c) (c + 1) (by rw [List.length_set]; omega) (by omega) (by omega) (by rw [List.length_set]; omega)
    refine ⟨l', Ev.step (f := fun k => laws_markIntS.l0 k (l.set i c) (c + 1) ((i + 1 : Nat) : Int)) (fun k => ?_) ?_⟩
    · rw [laws_markIntS.l0, if_pos (by omega), if_pos (by omega), w64 (by omega) (by omega), w64 (by omega) (by omega), Int.toNat_natCast]
      rfl
    · have e : c + ((d + 1 : Nat) : Int) = c + 1 + (d : Int) := by omega
      rw [e]
      exact h'
theorem markIntS_ev (l : List Int) (c : Int) (hl : l.length ≤ 4000000) (h0 : 0 ≤ c) (h1 : c ≤ 1000000000) : ∃ l', Ev (fun k => laws_markIntS.f k l c) (c + (l.length : Int), l') := by
  obtain ⟨l', h⟩ := markIntS_l0 l.length 0 l c hl h0 (by omega) (by omega)
  exact ⟨l', Ev.congr (f := fun k => laws_markIntS.l0 k l c ((0 : Nat) : Int)) (fun _ => rfl) h⟩

theorem markUint64S_l0 (d : Nat) : ∀ (i : Nat) (l : List Int) (c : Int), l.length ≤ 4000000 → 0 ≤ c → c ≤ 1000000000 + (i : Int) → i + d = l.length → ∃ l', Ev (fun k => laws_markUint64S.l0 k l c (i : Int)) (c + (d : Int), l') := by
  induction d with
  | zero =>
    intro i l c hl h0 h1 h
    refine ⟨l, Ev.step (f := fun _ => some _) (fun k => ?_) (Ev.now _)⟩
    rw [laws_markUint64S.l0, if_neg (by omega)]
    congr 2
    omega
  | succ d ih =>
    intro i l c hl h0 h1 h
    obtain ⟨l', h'⟩ := ih (i + 1) (l.set i (IntKind.u64.wrap c)) (c + 1) (by rw [List.length_set]; omega) (by omega) (by omega) (by rw [List.length_set]; omega)
    refine ⟨l', Ev.step (f := fun k => laws_markUint64S.l0 k (l.set i (IntKind.u64.wrap c)) (c + 1) ((i + 1 : Nat) : Int)) (fun k => ?_) ?_⟩
    · rw [laws_markUint64S.l0, if_pos (by omega), if_pos (by omega), w64 (by omega) (by omega), w64 (by omega) (by omega), Int.toNat_natCast]
      rfl
    · have e : c + ((d + 1 : Nat) : Int) = c + 1 + (d : Int) := by omega
      rw [e]
      exact h'
theorem markUint64S_ev (l : List Int) (c : Int) (hl : l.length ≤ 4000000) (h0 : 0 ≤ c) (h1 : c ≤ 1000000000) : ∃ l', Ev (fun k => laws_markUint64S.f k l c) (c + (l.length : Int), l') := by
  obtain ⟨l', h⟩ := markUint64S_l0 l.length 0 l c hl h0 (by omega) (by omega)
  exact ⟨l', Ev.congr (f := fun k => laws_markUint64S.l0 k l c ((0 : Nat) : Int)) (fun _ => rfl) h⟩

-- the statement's marks in a list of numbers, and what is held of them
def marksL (n : Nat) : List Int := (List.range n).map fun (j : Nat) => 1 + (j : Int)
theorem marksL_len (n : Nat) : (marksL n).length = n := by simp [marksL]
theorem marksL_get (n j : Nat) (h : j < n) : (marksL n).getD j 0 = 1 + (j : Int) := by
  rw [lget_lt _ j 0 (by rw [marksL_len]; exact h)]
  simp [marksL]
theorem markL_l0 (l : List Int) (hl : l.length ≤ 4000000) (d : Nat) : ∀ i : Nat, i + d = l.length → Ev (fun k => laws_markIntS.l0 k ((marksL l.length).take i ++ l.drop i) (1 + (i : Int)) (i : Int)) (1 + (l.length : Int), marksL l.length) := by
  induction d with
  | zero =>
    intro i h
    obtain rfl : i = l.length := by omega
    refine Ev.step (f := fun _ => some _) (fun k => ?_) (Ev.now _)
    rw [laws_markIntS.l0, if_neg (by rw [over_len _ _ _ (marksL_len _) (by omega)]; omega), List.drop_length, List.append_nil, List.take_of_length_le (by rw [marksL_len]; omega)]
  | succ d ih =>
    intro i h
    refine Ev.step (f := fun k => laws_markIntS.l0 k ((marksL l.length).take (i + 1) ++ l.drop (i + 1)) (1 + ((i + 1 : Nat) : Int)) ((i + 1 : Nat) : Int)) (fun k => ?_) (ih (i + 1) (by omega))
    rw [laws_markIntS.l0, if_pos (by rw [over_len _ _ _ (marksL_len _) (by omega)]; omega), if_pos (by omega), w64 (by omega) (by omega), w64 (by omega) (by omega), Int.toNat_natCast, over_set (marksL l.length) l 0 _ i (marksL_len _) (by omega) (marksL_get _ _ (by omega)).symm]
    rfl
theorem markL_ev (l : List Int) (hl : l.length ≤ 4000000) : Ev (fun k => laws_markIntS.f k l 1) (1 + (l.length : Int), marksL l.length) :=
  Ev.congr (f := fun k => laws_markIntS.l0 k ((marksL l.length).take 0 ++ l.drop 0) (1 + ((0 : Nat) : Int)) ((0 : Nat) : Int)) (fun _ => rfl) (markL_l0 l hl l.length 0 (by omega))
theorem heldL_l0 (n : Nat) (hn : n ≤ 4000000) (d : Nat) : ∀ i : Nat, i + d = n → Ev (fun k => laws_heldIntS.l0 k (marksL n) (1 + (i : Int)) (i : Int)) (1 + (n : Int)) := by
  have hl := marksL_len n
  induction d with
  | zero =>
    intro i h
    obtain rfl : i = n := by omega
    refine Ev.step (f := fun _ => some _) (fun k => ?_) (Ev.now _)
    rw [laws_heldIntS.l0, if_neg (by omega)]
  | succ d ih =>
    intro i h
    refine Ev.step (f := fun k => laws_heldIntS.l0 k (marksL n) (1 + ((i + 1 : Nat) : Int)) ((i + 1 : Nat) : Int)) (fun k => ?_) (ih (i + 1) (by omega))
    rw [laws_heldIntS.l0, if_pos (by omega), if_pos (by omega), rd_nat, marksL_get _ _ (by omega), if_pos rfl, w64 (by omega) (by omega), w64 (by omega) (by omega)]
    rfl
theorem heldL_ev (n : Nat) (hn : n ≤ 4000000) : Ev (fun k => laws_heldIntS.f k (marksL n) 1) (1 + (n : Int)) :=
  Ev.congr (f := fun k => laws_heldIntS.l0 k (marksL n) (1 + ((0 : Nat) : Int)) ((0 : Nat) : Int)) (fun _ => rfl) (heldL_l0 n hn n 0 (by omega))

-- what stays, and what is woven in
def keep : List Int → List Int → List Int
  | x :: xs, b :: bs => if b = 1 then x :: keep xs bs else keep xs bs
  | _, _ => []
def weave : List Int → List Int → List Int → List Int
  | b :: bs, ks, es => if b = 1 then ks.getD 0 0 :: weave bs (ks.drop 1) es else es.getD 0 0 :: weave bs ks (es.drop 1)
  | [], _, _ => []
theorem drop_cons (l : List Int) (i : Nat) (h : i < l.length) : l.drop i = l.getD i 0 :: l.drop (i + 1) := by
  rw [List.drop_eq_getElem_cons h, lget_lt _ _ _ h]
theorem keep_step (l bs : List Int) (i : Nat) (h : i < l.length) (h2 : i < bs.length) : keep (l.drop i) (bs.drop i) = if bs.getD i 0 = 1 then l.getD i 0 :: keep (l.drop (i + 1)) (bs.drop (i + 1)) else keep (l.drop (i + 1)) (bs.drop (i + 1)) := by
  rw [drop_cons l i h, drop_cons bs i h2, keep]
theorem keep_length (bs : List Int) : ∀ l : List Int, l.length = bs.length → (keep l bs).length = bs.count 1 := by
  induction bs with
  | nil => intro l h; rw [List.eq_nil_of_length_eq_zero h]; rfl
  | cons b bs ih =>
    intro l h
    cases l with
    | nil => simp at h
    | cons x xs =>
      have := ih xs (by simpa using h)
      rw [keep, List.count_cons]
      by_cases q : b = 1
      · rw [if_pos q, List.length_cons, this, q]; rfl
      · rw [if_neg q, this, if_neg (by simpa using q), Nat.add_zero]
theorem count01 (l : List Int) (h : ∀ x ∈ l, x = 0 ∨ x = 1) : l.count 0 + l.count 1 = l.length := by
  induction l with
  | nil => rfl
  | cons x xs ih =>
    have := ih fun y hy => h y (List.mem_cons_of_mem _ hy)
    rw [List.count_cons, List.count_cons, List.length_cons]
    rcases h x (List.mem_cons_self ..) with q | q <;> rw [q] <;> simp <;> omega
theorem count_drop (l : List Int) (v : Int) (i : Nat) (h : i < l.length) : (l.drop i).count v = (l.drop (i + 1)).count v + if l.getD i 0 = v then 1 else 0 := by
  rw [drop_cons l i h, List.count_cons]
  congr 1
  by_cases q : l.getD i 0 = v
  · rw [if_pos q, if_pos (by simpa using q)]
  · rw [if_neg q, if_neg (by simpa using q)]
theorem count_le (l : List Int) (v : Int) : l.count v ≤ l.length := List.count_le_length

theorem unmarked_l0 (l : List Int) (n : Int) (ws bs : List Int) (hw : Words ws) (h64 : l.length ≤ 64 * ws.length) (h5 : l.length ≤ 5000) (hbs : bs.length = l.length) (h : ∀ i, i < l.length → bitAt ws i = 1 - bs.getD i 0) (h01 : ∀ i, i < bs.length → bs.getD i 0 = 0 ∨ bs.getD i 0 = 1)
    (d : Nat) : ∀ (i : Nat) (acc : List Int), i + d = l.length → acc.length ≤ i → Ev (fun k => impl_unmarked.l0 k acc l (l.length : Int) (i : Int) n ws) (acc ++ keep (l.drop i) (bs.drop i)) := by
  induction d with
  | zero =>
    intro i acc hi ha
    obtain rfl : i = l.length := by omega
    refine Ev.step (f := fun _ => some _) (fun k => ?_) (Ev.now _)
    rw [impl_unmarked.l0, if_neg (by omega), List.drop_length, keep, List.append_nil]
    intros; contradiction
  | succ d ih =>
    intro i acc hi ha
    rw [keep_step l bs i (by omega) (by omega)]
    have e1 : wrap64 ((i : Int) + 1) = ((i + 1 : Nat) : Int) := w64 (by omega) (by omega)
    rcases h01 i (by omega) with q | q
    · refine Ev.step (fun k => ?_) (by rw [if_neg (by rw [q]; decide)]; exact ih (i + 1) acc (by omega) (by omega))
      rw [impl_unmarked.l0, if_pos (by omega), if_pos (by omega), if_pos (by omega), at_ev _ _ hw i (by omega) (by omega), Option.bind_some, h i (by omega), q, if_neg (by decide), e1]
    · refine Ev.step (fun k => ?_) (by rw [if_pos q, List.append_cons]; exact ih (i + 1) (acc ++ [l.getD i 0]) (by omega) (by rw [List.length_append]; simp; omega))
      rw [impl_unmarked.l0, if_pos (by omega), if_pos (by omega), if_pos (by omega), at_ev _ _ hw i (by omega) (by omega), Option.bind_some, h i (by omega), q, if_pos (by decide), if_pos (by omega), rd_nat, e1]
theorem count_l0 (l : List Int) (v : Int) (h5 : l.length ≤ 5000) (d : Nat) : ∀ (i : Nat) (c : Nat), i + d = l.length → c ≤ i → Ev (fun k => impl_count.l0 k v (c : Int) l (l.length : Int) (i : Int)) ((c + (l.drop i).count v : Nat) : Int) := by
  induction d with
  | zero =>
    intro i c hi ha
    obtain rfl : i = l.length := by omega
    refine Ev.step (f := fun _ => some _) (fun k => ?_) (Ev.now _)
    rw [impl_count.l0, if_neg (by omega), List.drop_length]
    rfl
  | succ d ih =>
    intro i c hi ha
    rw [count_drop l v i (by omega)]
    have e1 : wrap64 ((i : Int) + 1) = ((i + 1 : Nat) : Int) := w64 (by omega) (by omega)
    by_cases q : l.getD i 0 = v
    · refine Ev.step (fun k => ?_) (by rw [if_pos q, show c + ((l.drop (i + 1)).count v + 1) = c + 1 + (l.drop (i + 1)).count v by omega]; exact ih (i + 1) (c + 1) (by omega) (by omega))
      rw [impl_count.l0, if_pos (by omega), if_pos (by omega), if_pos (by omega), rd_nat, if_pos q, w64 (x := (c : Int) + 1) (by omega) (by omega), e1]
      rfl
    · refine Ev.step (fun k => ?_) (by rw [if_neg q, Nat.add_zero]; exact ih (i + 1) c (by omega) (by omega))
      rw [impl_count.l0, if_pos (by omega), if_pos (by omega), if_pos (by omega), rd_nat, if_neg q, e1]
theorem count_ev (l : List Int) (v : Int) (h5 : l.length ≤ 5000) : Ev (fun k => impl_count.f k l v) ((l.count v : Nat) : Int) := by
  have := count_l0 l v h5 l.length 0 0 (by omega) (by omega)
  rw [Nat.zero_add, List.drop_zero] at this
  exact Ev.congr (fun _ => rfl) this
theorem weave_l0 (bs : List Int) (hb : ∀ i, i < bs.length → bs.getD i 0 = 0 ∨ bs.getD i 0 = 1) (h5 : bs.length ≤ 5000) (d : Nat) : ∀ (i : Nat) (ks es acc : List Int), i + d = bs.length → acc.length ≤ i → ks.length = (bs.drop i).count 1 → es.length = (bs.drop i).count 0 →
    Ev (fun k => impl_PatchDo.l0 k ks es acc bs (bs.length : Int) (i : Int)) (acc ++ weave (bs.drop i) ks es, true) := by
  induction d with
  | zero =>
    intro i ks es acc hi ha hk hs
    obtain rfl : i = bs.length := by omega
    refine Ev.step (f := fun _ => some _) (fun k => ?_) (Ev.now _)
    rw [impl_PatchDo.l0, if_neg (by omega), List.drop_length, weave, List.append_nil]
  | succ d ih =>
    intro i ks es acc hi ha hk hs
    have e1 : wrap64 ((i : Int) + 1) = ((i + 1 : Nat) : Int) := w64 (by omega) (by omega)
    rw [count_drop bs _ i (by omega)] at hk hs
    rw [drop_cons bs i (by omega), weave]
    rcases hb i (by omega) with q | q
    · rw [if_neg (by rw [q]; decide)] at hk
      rw [if_pos q] at hs
      refine Ev.step (fun k => ?_) (by rw [if_neg (by rw [q]; decide), List.append_cons]; exact ih (i + 1) ks (es.drop 1) (acc ++ [es.getD 0 0]) (by omega) (by rw [List.length_append]; simp; omega) (by omega) (by rw [List.length_drop]; omega))
      rw [impl_PatchDo.l0, if_pos (by omega), if_pos (by omega), if_pos (by omega), rd_nat, q, if_neg (by decide), if_pos (by omega), if_pos (by omega), if_pos (by omega), e1]
      rfl
    · rw [if_pos q] at hk
      rw [if_neg (by rw [q]; decide)] at hs
      refine Ev.step (fun k => ?_) (by rw [if_pos q, List.append_cons]; exact ih (i + 1) (ks.drop 1) es (acc ++ [ks.getD 0 0]) (by omega) (by rw [List.length_append]; simp; omega) (by rw [List.length_drop]; omega) (by omega))
      rw [impl_PatchDo.l0, if_pos (by omega), if_pos (by omega), if_pos (by omega), rd_nat, q, if_pos rfl, if_pos (by omega), if_pos (by omega), if_pos (by omega), e1]
      rfl
/-- What both answer. -/
def patchOf (l : List Int) (n1 : Int) (ws1 : List Int) (n2 : Int) (ws2 es : List Int) : List Int × Bool :=
  if l.length ≤ 301 ∧ okB n1 ws1 = true ∧ okB n2 ws2 = true ∧ n1 = (l.length : Int) ∧ n2 ≤ 301 ∧ (bitsL n1.toNat ws1).count 1 = (bitsL n2.toNat ws2).count 1 ∧ (bitsL n2.toNat ws2).count 0 = es.length
  then (weave (bitsL n2.toNat ws2) (keep l (bitsL n1.toNat ws1)) es, true) else ([], false)
theorem implPatch_ev (l : List Int) (n1 : Int) (ws1 : List Int) (n2 : Int) (ws2 es : List Int) (hw1 : Words ws1) (hw2 : Words ws2) (hl1 : ws1.length ≤ 4000000) (hl2 : ws2.length ≤ 4000000) (hla : es.length ≤ 4000000)
    (hn1 : -9223372036854775808 ≤ n1) (hn2 : -9223372036854775808 ≤ n2) : Ev (fun k => impl_PatchDo.f k l n1 ws1 n2 ws2 es) (patchOf l n1 ws1 n2 ws2 es) := by
  have bad : patchOf l n1 ws1 n2 ws2 es = ([], false) → Ev (fun k => impl_PatchDo.j0 k l true n1 ws1 n2 ws2 es) (patchOf l n1 ws1 n2 ws2 es) := by
    intro h
    refine Ev.step (f := fun _ => some _) (fun k => ?_) (Ev.now _)
    rw [impl_PatchDo.j0, if_pos rfl, h]
  by_cases g0 : (l.length : Int) > 301
  · refine Ev.congr (fun k => ?_) (bad (if_neg (by omega)))
    unfold impl_PatchDo.f
    rw [if_pos g0]
  by_cases g1 : okB n1 ws1 = true
  case neg =>
    refine Ev.congr (fun k => ?_) (bad (if_neg (fun h => g1 h.2.1)))
    unfold impl_PatchDo.f
    rw [if_neg g0, implBitsOk_ev _ _ hw1 hl1 hn1, Option.bind_some, if_neg g1]
  by_cases g2 : okB n2 ws2 = true
  case neg =>
    refine Ev.congr (fun k => ?_) (bad (if_neg (fun h => g2 h.2.2.1)))
    unfold impl_PatchDo.f
    rw [if_neg g0, implBitsOk_ev _ _ hw1 hl1 hn1, Option.bind_some, if_pos g1, implBitsOk_ev _ _ hw2 hl2 hn2, Option.bind_some, if_neg g2]
  by_cases g3 : n1 = (l.length : Int)
  case neg =>
    refine Ev.congr (fun k => ?_) (bad (if_neg (fun h => g3 h.2.2.2.1)))
    unfold impl_PatchDo.f
    rw [if_neg g0, implBitsOk_ev _ _ hw1 hl1 hn1, Option.bind_some, if_pos g1, implBitsOk_ev _ _ hw2 hl2 hn2, Option.bind_some, if_pos g2, if_neg g3]
  by_cases g4 : n2 > 301
  · refine Ev.congr (fun k => ?_) (bad (if_neg (by omega)))
    unfold impl_PatchDo.f
    rw [if_neg g0, implBitsOk_ev _ _ hw1 hl1 hn1, Option.bind_some, if_pos g1, implBitsOk_ev _ _ hw2 hl2 hn2, Option.bind_some, if_pos g2, if_pos g3, decide_eq_true g4]
  obtain ⟨a1, b1, q1⟩ := okB_out g1
  obtain ⟨a2, b2, q2⟩ := okB_out g2
  obtain ⟨n1, rfl⟩ := Int.eq_ofNat_of_zero_le a1
  obtain ⟨n2, rfl⟩ := Int.eq_ofNat_of_zero_le a2
  have g3' : n1 = l.length := by omega
  rw [Int.toNat_natCast] at q1 q2
  have e1 := bitsL_length n1 ws1
  have e2 := bitsL_length n2 ws2
  have hc2 := count01 (bitsL n2 ws2) (bitsL_01 n2 ws2)
  obtain ⟨K1, k1⟩ := ev_out (list_ev n1 ws1 hw1 (by omega) (by omega))
  obtain ⟨K2, k2⟩ := ev_out (list_ev n2 ws2 hw2 (by omega) (by omega))
  obtain ⟨K3, k3⟩ := ev_out (count_ev (bitsL n1 ws1) 1 (by omega))
  obtain ⟨K4, k4⟩ := ev_out (count_ev (bitsL n2 ws2) 1 (by omega))
  have hdef : patchOf l (n1 : Int) ws1 (n2 : Int) ws2 es = if (bitsL n1 ws1).count 1 = (bitsL n2 ws2).count 1 ∧ (bitsL n2 ws2).count 0 = es.length then (weave (bitsL n2 ws2) (keep l (bitsL n1 ws1)) es, true) else ([], false) := by
    unfold patchOf
    rw [Int.toNat_natCast, Int.toNat_natCast]
    by_cases c : (bitsL n1 ws1).count 1 = (bitsL n2 ws2).count 1 ∧ (bitsL n2 ws2).count 0 = es.length
    · rw [if_pos c, if_pos ⟨by omega, g1, g2, g3, by omega, c⟩]
    · rw [if_neg c, if_neg (fun h => c h.2.2.2.2.2)]
  have bad1 : patchOf l (n1 : Int) ws1 (n2 : Int) ws2 es = ([], false) → Ev (fun k => impl_PatchDo.j1 k l true (n1 : Int) ws1 (n2 : Int) ws2 es) (patchOf l (n1 : Int) ws1 (n2 : Int) ws2 es) := by
    intro h
    refine Ev.step (f := fun _ => some _) (fun k => ?_) (Ev.now _)
    rw [impl_PatchDo.j1, if_pos rfl, h]
  have key : Ev (fun k => impl_PatchDo.j0 k l false (n1 : Int) ws1 (n2 : Int) ws2 es) (patchOf l (n1 : Int) ws1 (n2 : Int) ws2 es) := by
    by_cases c1 : (bitsL n1 ws1).count 1 = (bitsL n2 ws2).count 1
    · have hle := count_le (bitsL n2 ws2) 1
      by_cases c2 : (bitsL n2 ws2).count 0 = es.length
      · rw [hdef, if_pos ⟨c1, c2⟩]
        have hkl := keep_length (bitsL n1 ws1) l (by omega)
        have hfl := flipL_length (bitsL n1 ws1)
        have hf01 := flipL_01 (bitsL n1 ws1) (bitsL_get01 n1 ws1)
        have hfw := words_lt _ hf01
        have hfn : (wordsOf (flipL (bitsL n1 ws1))).length = (n1 + 63) / 64 := by rw [wordsOf, wordsTo_length, hfl, e1]
        obtain ⟨K5, k5⟩ := ev_out (flip_ev n1 ws1 hw1 hl1 g1)
        have hu := unmarked_l0 l (n1 : Int) (wordsOf (flipL (bitsL n1 ws1))) (bitsL n1 ws1) hfw (by omega) (by omega) (by omega) (by
          intro i hi
          rw [bitAt_words _ hf01 i (by omega), flipL_get _ _ (by omega)]) (bitsL_get01 n1 ws1) l.length 0 [] (by omega) (by simp)
        rw [List.nil_append, List.drop_zero, List.drop_zero] at hu
        obtain ⟨K6, k6⟩ := ev_out hu
        have hv := weave_l0 (bitsL n2 ws2) (bitsL_get01 n2 ws2) (by omega) (bitsL n2 ws2).length 0 (keep l (bitsL n1 ws1)) es [] (by omega) (by simp) (by rw [List.drop_zero]; omega) (by rw [List.drop_zero]; omega)
        rw [List.nil_append, List.drop_zero] at hv
        obtain ⟨K7, k7⟩ := ev_out hv
        refine ev_mk (K1 + K2 + K3 + K4 + K5 + K6 + K7 + 2) fun k hk => ?_
        obtain ⟨k, rfl⟩ : ∃ m, k = m + 2 := ⟨k - 2, by omega⟩
        rw [impl_PatchDo.j0, if_neg (by decide), k2 _ (by omega), Option.bind_some, k4 _ (by omega), Option.bind_some, k1 _ (by omega), Option.bind_some, k3 _ (by omega), Option.bind_some, if_pos (by omega), w64 (by omega) (by omega),
          show (((n2 : Int) - ((bitsL n2 ws2).count 1 : Nat)) != (es.length : Int)) = false by rw [bne_eq_false_iff_eq]; omega, impl_PatchDo.j1, if_neg (by decide), k5 k (by omega), Option.bind_some]
        have hun : impl_unmarked.f k l (n1 : Int) (wordsOf (flipL (bitsL n1 ws1))) = some (keep l (bitsL n1 ws1)) := k6 k (by omega)
        rw [hun, Option.bind_some, k2 _ (by omega), Option.bind_some]
        exact k7 k (by omega)
      · obtain ⟨K5, k5⟩ := ev_out (bad1 (by rw [hdef]; exact if_neg (fun h => c2 h.2)))
        refine ev_mk (K1 + K2 + K3 + K4 + K5 + 2) fun k hk => ?_
        obtain ⟨k, rfl⟩ : ∃ m, k = m + 1 := ⟨k - 1, by omega⟩
        rw [impl_PatchDo.j0, if_neg (by decide), k2 _ (by omega), Option.bind_some, k4 _ (by omega), Option.bind_some, k1 _ (by omega), Option.bind_some, k3 _ (by omega), Option.bind_some, if_pos (by omega), w64 (by omega) (by omega),
          show (((n2 : Int) - ((bitsL n2 ws2).count 1 : Nat)) != (es.length : Int)) = true by rw [bne_iff_ne]; omega]
        exact k5 k (by omega)
    · obtain ⟨K5, k5⟩ := ev_out (bad1 (by rw [hdef]; exact if_neg (fun h => c1 h.1)))
      refine ev_mk (K1 + K2 + K3 + K4 + K5 + 2) fun k hk => ?_
      obtain ⟨k, rfl⟩ : ∃ m, k = m + 1 := ⟨k - 1, by omega⟩
      rw [impl_PatchDo.j0, if_neg (by decide), k2 _ (by omega), Option.bind_some, k4 _ (by omega), Option.bind_some, k1 _ (by omega), Option.bind_some, k3 _ (by omega), Option.bind_some, if_neg (by omega)]
      exact k5 k (by omega)
  refine Ev.congr (fun k => ?_) key
  unfold impl_PatchDo.f
  rw [if_neg g0, implBitsOk_ev _ _ hw1 hl1 hn1, Option.bind_some, if_pos g1, implBitsOk_ev _ _ hw2 hl2 hn2, Option.bind_some, if_pos g2, if_pos g3, decide_eq_false g4]

-- the reference's PatchDo
theorem getD0 (a : Int) (l : List Int) : (a :: l).getD 0 0 = a := rfl
theorem drop1 (a : Int) (l : List Int) : (a :: l).drop 1 = l := rfl
theorem rank_l0 (l : List Int) (v : Int) (h5 : l.length ≤ 5000) (d : Nat) : ∀ (i c : Nat), i + d = l.length → c ≤ i → Ev (fun k => spec_Rank.l0 k v (l.length : Int) l (c : Int) (i : Int)) ((c + (l.drop i).count v : Nat) : Int) := by
  induction d with
  | zero =>
    intro i c hi ha
    obtain rfl : i = l.length := by omega
    refine Ev.step (f := fun _ => some _) (fun k => ?_) (Ev.now _)
    rw [spec_Rank.l0, if_neg (by omega), List.drop_length]
    rfl
  | succ d ih =>
    intro i c hi ha
    rw [count_drop l v i (by omega)]
    have e1 : wrap64 ((i : Int) + 1) = ((i + 1 : Nat) : Int) := w64 (by omega) (by omega)
    by_cases q : l.getD i 0 = v
    · refine Ev.step (fun k => ?_) (by rw [if_pos q, show c + ((l.drop (i + 1)).count v + 1) = c + 1 + (l.drop (i + 1)).count v by omega]; exact ih (i + 1) (c + 1) (by omega) (by omega))
      rw [spec_Rank.l0, if_pos (by omega), if_pos (by omega), if_pos (by omega), rd_nat, if_pos q, w64 (x := (c : Int) + 1) (by omega) (by omega), e1]
      rfl
    · refine Ev.step (fun k => ?_) (by rw [if_neg q, Nat.add_zero]; exact ih (i + 1) c (by omega) (by omega))
      rw [spec_Rank.l0, if_pos (by omega), if_pos (by omega), if_pos (by omega), rd_nat, if_neg q, e1]
theorem rank_ev (n : Nat) (ws : List Int) (v : Int) (hv : v = 0 ∨ v = 1) (hw : Words ws) (hl : ws.length ≤ 4000000) (ok : okB (n : Int) ws = true) : Ev (fun k => spec_Rank.f k (n : Int) ws v (n : Int)) (((bitsL n ws).count v : Nat) : Int) := by
  obtain ⟨_, b, q⟩ := okB_out ok
  rw [Int.toNat_natCast] at q
  have e := bitsL_length n ws
  obtain ⟨K1, k1⟩ := ev_out (specBitsOk_ev (n : Int) ws hw hl (by omega))
  obtain ⟨K2, k2⟩ := ev_out (l01List_ev n ws hw (by omega) (by omega))
  have h := rank_l0 (bitsL n ws) v (by omega) (bitsL n ws).length 0 0 (by omega) (by omega)
  rw [Nat.zero_add, List.drop_zero, e] at h
  obtain ⟨K3, k3⟩ := ev_out h
  refine ev_mk (K1 + K2 + K3 + 1) fun k hk => ?_
  obtain ⟨k, rfl⟩ : ∃ m, k = m + 1 := ⟨k - 1, by omega⟩
  have hb : spec_l01Bit.f v = some true := by
    unfold spec_l01Bit.f
    rcases hv with rfl | rfl
    · rw [if_pos rfl]
    · rw [if_neg (by decide)]; rfl
  unfold spec_Rank.f
  rw [k1 _ (by omega), Option.bind_some, if_pos ok, hb, Option.bind_some, if_pos rfl, if_neg (by omega), decide_eq_false (by omega), spec_Rank.j0, if_neg (by decide), k2 _ (by omega), Option.bind_some]
  exact k3 k (by omega)
theorem specWeave_l1 (bs ks es : List Int) (n1 : Int) (ws1 : List Int) (n2 : Int) (ws2 : List Int) (hb : ∀ i, i < bs.length → bs.getD i 0 = 0 ∨ bs.getD i 0 = 1) (h5 : bs.length ≤ 5000) (d : Nat) : ∀ (i x s : Nat) (acc : List Int), i = x + s → i + d = bs.length → acc.length ≤ i → ks.length = x + (bs.drop i).count 1 → es.length = s + (bs.drop i).count 0 →
    Ev (fun k => spec_PatchDo.l1 k bs ks acc (x : Int) (i : Int) n1 ws1 n2 ws2 es) (acc ++ weave (bs.drop i) (ks.drop x) (es.drop s), true) := by
  induction d with
  | zero =>
    intro i x s acc hx hi ha hk hs
    have hi' : i = bs.length := hi
    refine Ev.step (f := fun _ => some _) (fun k => ?_) (Ev.now _)
    rw [spec_PatchDo.l1, if_neg (by omega), hi', List.drop_length, weave, List.append_nil]
  | succ d ih =>
    intro i x s acc hx hi ha hk hs
    have e0 : (i : Int) - (x : Int) = (s : Int) := by omega
    have hs5 : s ≤ 5000 := by omega
    have hx5 : x ≤ 5000 := by omega
    have hi5 : i ≤ 5000 := by omega
    have hil : (i : Int) < (bs.length : Int) := by omega
    have hal : acc.length < 17592186044416 := by omega
    have hal2 : ∀ v : Int, (acc ++ [v]).length ≤ i + 1 := by intro v; rw [List.length_append]; exact Nat.add_le_add_right ha 1
    rw [count_drop bs _ i (by omega)] at hk hs
    rw [drop_cons bs i (by omega), weave]
    rcases hb i (by omega) with q | q
    · rw [if_neg (by rw [q]; decide)] at hk
      rw [if_pos q] at hs
      have hs2 : s < es.length := by omega
      have hr := ih (i + 1) x (s + 1) (acc ++ [es.getD s 0]) (by omega) (by omega) (hal2 _) (by omega) (by omega)
      rw [if_neg (by rw [q]; decide), drop_cons es s hs2, getD0, drop1, List.append_cons]
      have W1 : ∀ y : Nat, y ≤ 5000 → wrap64 ((y : Int) + 1) = ((y + 1 : Nat) : Int) := fun y h => w64 (by clear hk hs; omega) (by clear hk hs; omega)
      have W2 : wrap64 ((i : Int) - (x : Int)) = (s : Int) := by
        rw [e0]
        exact w64 (by clear W1 hk hs; omega) (by clear W1 hk hs; omega)
      refine Ev.step (fun k => ?_) hr
      rw [spec_PatchDo.l1, if_pos hil, if_pos (Int.natCast_nonneg _), rd_nat, q, if_neg (by decide), W2, if_pos (Int.natCast_nonneg _), if_pos (Int.ofNat_lt.2 hs2), if_pos hal, rd_nat, W1 i hi5]
    · rw [if_pos q] at hk
      rw [if_neg (by rw [q]; decide)] at hs
      have hk2 : x < ks.length := by omega
      have hr := ih (i + 1) (x + 1) s (acc ++ [ks.getD x 0]) (by omega) (by omega) (hal2 _) (by omega) (by omega)
      rw [if_pos q, drop_cons ks x hk2, getD0, drop1, List.append_cons]
      have W1 : ∀ y : Nat, y ≤ 5000 → wrap64 ((y : Int) + 1) = ((y + 1 : Nat) : Int) := fun y h => w64 (by clear hk hs; omega) (by clear hk hs; omega)
      have W2 : wrap64 ((i : Int) - (x : Int)) = (s : Int) := by
        rw [e0]
        exact w64 (by clear W1 hk hs; omega) (by clear W1 hk hs; omega)
      refine Ev.step (fun k => ?_) hr
      rw [spec_PatchDo.l1, if_pos hil, if_pos (Int.natCast_nonneg _), rd_nat, q, if_pos rfl, if_pos (Int.natCast_nonneg _), if_pos (Int.ofNat_lt.2 hk2), if_pos hal, rd_nat, W1 x hx5, W1 i hi5]
theorem specKeep_l0 (l bs cs : List Int) (n1 : Int) (ws1 : List Int) (n2 : Int) (ws2 es : List Int) (h5 : l.length ≤ 5000) (hbs : bs.length = l.length) (r : List Int × Bool) (hr : ∀ acc, acc = keep l bs → Ev (fun k => spec_PatchDo.l0 k l bs cs acc (l.length : Int) n1 ws1 n2 ws2 es) r)
    (d : Nat) : ∀ (i : Nat) (acc : List Int), i + d = l.length → acc.length ≤ i → acc ++ keep (l.drop i) (bs.drop i) = keep l bs → Ev (fun k => spec_PatchDo.l0 k l bs cs acc (i : Int) n1 ws1 n2 ws2 es) r := by
  induction d with
  | zero =>
    intro i acc hi ha he
    obtain rfl : i = l.length := by omega
    apply hr
    rw [← he, List.drop_length, keep, List.append_nil]
    intros; contradiction
  | succ d ih =>
    intro i acc hi ha he
    rw [keep_step l bs i (by omega) (by omega)] at he
    have e1 : wrap64 ((i : Int) + 1) = ((i + 1 : Nat) : Int) := w64 (by omega) (by omega)
    by_cases q : bs.getD i 0 = 1
    · rw [if_pos q, List.append_cons] at he
      refine Ev.step (fun k => ?_) (ih (i + 1) (acc ++ [l.getD i 0]) (by omega) (by rw [List.length_append]; simp; omega) he)
      rw [spec_PatchDo.l0, if_pos (by omega), if_pos (by omega), rd_nat, if_pos q, if_pos (by omega), if_pos (by omega), rd_nat, e1]
    · rw [if_neg q] at he
      refine Ev.step (fun k => ?_) (ih (i + 1) acc (by omega) (by omega) he)
      rw [spec_PatchDo.l0, if_pos (by omega), if_pos (by omega), rd_nat, if_neg q, e1]
theorem specPatch_ev (l : List Int) (n1 : Int) (ws1 : List Int) (n2 : Int) (ws2 es : List Int) (hw1 : Words ws1) (hw2 : Words ws2) (hl1 : ws1.length ≤ 4000000) (hl2 : ws2.length ≤ 4000000) (hla : es.length ≤ 4000000)
    (hn1 : -9223372036854775808 ≤ n1) (hn2 : -9223372036854775808 ≤ n2) : Ev (fun k => spec_PatchDo.f k l n1 ws1 n2 ws2 es) (patchOf l n1 ws1 n2 ws2 es) := by
  obtain ⟨K1, k1⟩ := ev_out (specBitsOk_ev n1 ws1 hw1 hl1 hn1)
  obtain ⟨K2, k2⟩ := ev_out (specBitsOk_ev n2 ws2 hw2 hl2 hn2)
  have bad : patchOf l n1 ws1 n2 ws2 es = ([], false) → ∀ k, spec_PatchDo.j0 (k + 1) l true n1 ws1 n2 ws2 es = some (patchOf l n1 ws1 n2 ws2 es) := by
    intro h k
    rw [spec_PatchDo.j0, if_pos rfl, h]
  by_cases g0 : (l.length : Int) ≤ 301
  case neg =>
    refine ev_mk 1 fun k hk => ?_
    obtain ⟨k, rfl⟩ : ∃ m, k = m + 1 := ⟨k - 1, by omega⟩
    unfold spec_PatchDo.f spec_l12Right.f
    rw [Option.bind_some, if_neg (by simpa using g0)]
    exact bad (if_neg (by omega)) k
  by_cases g1 : okB n1 ws1 = true
  case neg =>
    refine ev_mk (K1 + 1) fun k hk => ?_
    obtain ⟨k, rfl⟩ : ∃ m, k = m + 1 := ⟨k - 1, by omega⟩
    unfold spec_PatchDo.f spec_l12Right.f
    rw [Option.bind_some, if_pos (by simpa using g0), k1 _ (by omega), Option.bind_some, if_neg g1]
    exact bad (if_neg (fun h => g1 h.2.1)) k
  by_cases g2 : okB n2 ws2 = true
  case neg =>
    refine ev_mk (K1 + K2 + 1) fun k hk => ?_
    obtain ⟨k, rfl⟩ : ∃ m, k = m + 1 := ⟨k - 1, by omega⟩
    unfold spec_PatchDo.f spec_l12Right.f
    rw [Option.bind_some, if_pos (by simpa using g0), k1 _ (by omega), Option.bind_some, if_pos g1, k2 _ (by omega), Option.bind_some, if_neg g2]
    exact bad (if_neg (fun h => g2 h.2.2.1)) k
  by_cases g3 : n1 = (l.length : Int)
  case neg =>
    refine ev_mk (K1 + K2 + 1) fun k hk => ?_
    obtain ⟨k, rfl⟩ : ∃ m, k = m + 1 := ⟨k - 1, by omega⟩
    unfold spec_PatchDo.f spec_l12Right.f
    rw [Option.bind_some, if_pos (by simpa using g0), k1 _ (by omega), Option.bind_some, if_pos g1, k2 _ (by omega), Option.bind_some, if_pos g2, if_neg g3]
    exact bad (if_neg (fun h => g3 h.2.2.2.1)) k
  by_cases g4 : n2 > 301
  · refine ev_mk (K1 + K2 + 1) fun k hk => ?_
    obtain ⟨k, rfl⟩ : ∃ m, k = m + 1 := ⟨k - 1, by omega⟩
    unfold spec_PatchDo.f spec_l12Right.f
    rw [Option.bind_some, if_pos (by simpa using g0), k1 _ (by omega), Option.bind_some, if_pos g1, k2 _ (by omega), Option.bind_some, if_pos g2, if_pos g3, decide_eq_true g4]
    exact bad (if_neg (by omega)) k
  obtain ⟨a1, b1, q1⟩ := okB_out g1
  obtain ⟨a2, b2, q2⟩ := okB_out g2
  obtain ⟨n1, rfl⟩ := Int.eq_ofNat_of_zero_le a1
  obtain ⟨n2, rfl⟩ := Int.eq_ofNat_of_zero_le a2
  have g3' : n1 = l.length := by omega
  rw [Int.toNat_natCast] at q1 q2
  have e1 := bitsL_length n1 ws1
  have e2 := bitsL_length n2 ws2
  have hkl := keep_length (bitsL n1 ws1) l (by omega)
  obtain ⟨K3, k3⟩ := ev_out (l01List_ev n1 ws1 hw1 (by omega) (by omega))
  obtain ⟨K4, k4⟩ := ev_out (l01List_ev n2 ws2 hw2 (by omega) (by omega))
  obtain ⟨K5, k5⟩ := ev_out (rank_ev n2 ws2 1 (.inr rfl) hw2 hl2 g2)
  obtain ⟨K6, k6⟩ := ev_out (rank_ev n2 ws2 0 (.inl rfl) hw2 hl2 g2)
  have hdef : patchOf l (n1 : Int) ws1 (n2 : Int) ws2 es = if (bitsL n1 ws1).count 1 = (bitsL n2 ws2).count 1 ∧ (bitsL n2 ws2).count 0 = es.length then (weave (bitsL n2 ws2) (keep l (bitsL n1 ws1)) es, true) else ([], false) := by
    unfold patchOf
    rw [Int.toNat_natCast, Int.toNat_natCast]
    by_cases c : (bitsL n1 ws1).count 1 = (bitsL n2 ws2).count 1 ∧ (bitsL n2 ws2).count 0 = es.length
    · rw [if_pos c, if_pos ⟨by omega, g1, g2, g3, by omega, c⟩]
    · rw [if_neg c, if_neg (fun h => c h.2.2.2.2.2)]
  have last : Ev (fun k => spec_PatchDo.l0 k l (bitsL n1 ws1) (bitsL n2 ws2) (keep l (bitsL n1 ws1)) (l.length : Int) (n1 : Int) ws1 (n2 : Int) ws2 es) (patchOf l (n1 : Int) ws1 (n2 : Int) ws2 es) := by
    have bad2 : patchOf l (n1 : Int) ws1 (n2 : Int) ws2 es = ([], false) → ∀ k, spec_PatchDo.j2 (k + 1) (bitsL n2 ws2) (keep l (bitsL n1 ws1)) true (n1 : Int) ws1 (n2 : Int) ws2 es = some (patchOf l (n1 : Int) ws1 (n2 : Int) ws2 es) := by
      intro h k
      rw [spec_PatchDo.j2, if_pos rfl, h]
    by_cases c1 : (bitsL n1 ws1).count 1 = (bitsL n2 ws2).count 1
    · by_cases c2 : (bitsL n2 ws2).count 0 = es.length
      · have hv := specWeave_l1 (bitsL n2 ws2) (keep l (bitsL n1 ws1)) es (n1 : Int) ws1 (n2 : Int) ws2 (bitsL_get01 n2 ws2) (by omega) (bitsL n2 ws2).length 0 0 0 [] (by omega) (by omega) (by simp) (by rw [List.drop_zero]; omega) (by rw [List.drop_zero]; omega)
        rw [List.nil_append, List.drop_zero, List.drop_zero, List.drop_zero] at hv
        obtain ⟨K7, k7⟩ := ev_out hv
        refine ev_mk (K5 + K6 + K7 + 2) fun k hk => ?_
        obtain ⟨k, rfl⟩ : ∃ m, k = m + 2 := ⟨k - 2, by omega⟩
        rw [spec_PatchDo.l0, if_neg (by omega), k5 _ (by omega), Option.bind_some, if_pos (by omega), k6 _ (by omega), Option.bind_some, show ((((bitsL n2 ws2).count 0 : Nat) : Int) != (es.length : Int)) = false by rw [bne_eq_false_iff_eq]; omega, spec_PatchDo.j2, if_neg (by decide), hdef, if_pos ⟨c1, c2⟩]
        exact k7 k (by omega)
      · refine ev_mk (K5 + K6 + 2) fun k hk => ?_
        obtain ⟨k, rfl⟩ : ∃ m, k = m + 2 := ⟨k - 2, by omega⟩
        rw [spec_PatchDo.l0, if_neg (by omega), k5 _ (by omega), Option.bind_some, if_pos (by omega), k6 _ (by omega), Option.bind_some, show ((((bitsL n2 ws2).count 0 : Nat) : Int) != (es.length : Int)) = true by rw [bne_iff_ne]; omega]
        exact bad2 (by rw [hdef]; exact if_neg (fun h => c2 h.2)) k
    · refine ev_mk (K5 + K6 + 2) fun k hk => ?_
      obtain ⟨k, rfl⟩ : ∃ m, k = m + 2 := ⟨k - 2, by omega⟩
      rw [spec_PatchDo.l0, if_neg (by omega), k5 _ (by omega), Option.bind_some, if_neg (by omega)]
      exact bad2 (by rw [hdef]; exact if_neg (fun h => c1 h.1)) k
  obtain ⟨K7, k7⟩ := ev_out (specKeep_l0 l (bitsL n1 ws1) (bitsL n2 ws2) (n1 : Int) ws1 (n2 : Int) ws2 es (by omega) (by omega) _ (fun acc e => by rw [e]; exact last) l.length 0 [] (by omega) (by simp) (by rw [List.nil_append, List.drop_zero, List.drop_zero]))
  refine ev_mk (K1 + K2 + K3 + K4 + K7 + 1) fun k hk => ?_
  obtain ⟨k, rfl⟩ : ∃ m, k = m + 1 := ⟨k - 1, by omega⟩
  unfold spec_PatchDo.f spec_l12Right.f
  rw [Option.bind_some, if_pos (by simpa using g0), k1 _ (by omega), Option.bind_some, if_pos g1, k2 _ (by omega), Option.bind_some, if_pos g2, if_pos g3, decide_eq_false g4, spec_PatchDo.j0, if_neg (by decide), k3 _ (by omega), Option.bind_some, k4 _ (by omega), Option.bind_some]
  exact k7 k (by omega)

theorem weave_length (bs : List Int) : ∀ ks es : List Int, (weave bs ks es).length = bs.length := by
  induction bs with
  | nil => intro ks es; rfl
  | cons b bs ih =>
    intro ks es
    rw [weave]
    by_cases q : b = 1
    · rw [if_pos q, List.length_cons, List.length_cons, ih]
    · rw [if_neg q, List.length_cons, List.length_cons, ih]
theorem patchOf_length (l : List Int) (n1 : Int) (ws1 : List Int) (n2 : Int) (ws2 es : List Int) : (patchOf l n1 ws1 n2 ws2 es).1.length ≤ 301 := by
  unfold patchOf
  by_cases c : l.length ≤ 301 ∧ okB n1 ws1 = true ∧ okB n2 ws2 = true ∧ n1 = (l.length : Int) ∧ n2 ≤ 301 ∧ (bitsL n1.toNat ws1).count 1 = (bitsL n2.toNat ws2).count 1 ∧ (bitsL n2.toNat ws2).count 0 = es.length
  · rw [if_pos c]
    have h := c.2.2.2.2.1
    show (weave _ _ _).length ≤ 301
    rw [weave_length, bitsL_length]
    omega
  · rw [if_neg c]
    exact Nat.zero_le _
theorem okI_out {n : Int} (h : Fv.OkI .i64 n) : -9223372036854775808 ≤ n ∧ n ≤ 9223372036854775807 := by
  have this : (Lit.int .i64 n).wf = true := h
  simp only [Lit.wf, IntKind.min, IntKind.max, IntKind.signed, IntKind.bits, Bool.and_eq_true, decide_eq_true_eq] at this
  simpa using this
theorem okW_out {ws : List Int} (h : Fv.OkL (Fv.OkI .u64) ws) : Words ws := by
  intro x hx
  have this : (Lit.int .u64 x).wf = true := h.2 x hx
  simp only [Lit.wf, IntKind.min, IntKind.max, IntKind.signed, IntKind.bits, Bool.and_eq_true, decide_eq_true_eq] at this
  have t2 : 0 ≤ x ∧ x ≤ 18446744073709551615 := by simpa using this
  omega
theorem sz_out (l : List Int) (a : Int) (h0 : 0 ≤ a) (h1 : a ≤ 1048576) (hl : l.length ≤ 9223372036854775807) : laws_szIntS.f l a = some (if a - (l.length : Int) < 0 then -1 else a - (l.length : Int)) ∧ laws_szUint64S.f l a = some (if a - (l.length : Int) < 0 then -1 else a - (l.length : Int)) := by
  constructor
  · unfold laws_szIntS.f
    rw [w64 (by omega) (by omega)]
    by_cases q : a - (l.length : Int) < 0
    · rw [if_pos q, if_pos q]
    · rw [if_neg q, if_neg q]
  · unfold laws_szUint64S.f
    rw [w64 (by omega) (by omega)]
    by_cases q : a - (l.length : Int) < 0
    · rw [if_pos q, if_pos q]
    · rw [if_neg q, if_neg q]
theorem szBits_out (n : Int) (l : List Int) (a : Int) (h0 : 0 ≤ a) (h1 : a ≤ 1048576) (hl : l.length ≤ 9223372036854775807) : laws_szBits.f n l a = some (if a - (l.length : Int) < 0 then -1 else a - (l.length : Int)) := by
  unfold laws_szBits.f
  rw [(sz_out l a h0 h1 hl).2, Option.bind_some]
  by_cases q : a - (l.length : Int) < 0
  · rw [if_pos q, if_pos (by decide)]
  · rw [if_neg q, if_neg q]
theorem szPatch_out (n1 : Int) (l1 : List Int) (n2 : Int) (l2 l3 : List Int) (h1 : l1.length ≤ 9223372036854775807) (h2 : l2.length ≤ 9223372036854775807) (h3 : l3.length ≤ 9223372036854775807) :
    ∃ r, laws_szPatch.f n1 l1 n2 l2 l3 1048576 = some r ∧ (¬ r < 0 → l1.length ≤ 1048576 ∧ l2.length ≤ 1048576 ∧ l3.length ≤ 1048576) := by
  unfold laws_szPatch.f
  rw [szBits_out n1 l1 1048576 (by omega) (by omega) h1, Option.bind_some]
  by_cases q1 : (1048576 : Int) - (l1.length : Int) < 0
  · exact ⟨-1, by rw [if_pos q1, if_pos (by decide)], fun h => absurd (by decide) h⟩
  rw [if_neg q1, if_neg q1, szBits_out n2 l2 _ (by omega) (by omega) h2, Option.bind_some]
  by_cases q2 : (1048576 : Int) - (l1.length : Int) - (l2.length : Int) < 0
  · exact ⟨-1, by rw [if_pos q2, if_pos (by decide)], fun h => absurd (by decide) h⟩
  rw [if_neg q2, if_neg q2, (sz_out l3 _ (by omega) (by omega) h3).1, Option.bind_some]
  by_cases q3 : (1048576 : Int) - (l1.length : Int) - (l2.length : Int) - (l3.length : Int) < 0
  · exact ⟨-1, by rw [if_pos q3, if_pos (by decide)], fun h => absurd (by decide) h⟩
  exact ⟨_, by rw [if_neg q3, if_neg q3], fun _ => by omega⟩
theorem toPatch_ev (n1 : Int) (l1 : List Int) (n2 : Int) (l2 l3 : List Int) (h1 : l1.length ≤ 1048576) (h2 : l2.length ≤ 1048576) (h3 : l3.length ≤ 1048576) : Ev (fun k => laws_toPatch.f k n1 l1 n2 l2 l3) (n1, l1, n2, l2, l3) := by
  obtain ⟨K1, k1⟩ := ev_out (toUint64S_ev l1 (by omega))
  obtain ⟨K2, k2⟩ := ev_out (toUint64S_ev l2 (by omega))
  obtain ⟨K3, k3⟩ := ev_out (toIntS_ev l3 (by omega))
  refine ev_mk (K1 + K2 + K3) fun k hk => ?_
  unfold laws_toPatch.f laws_toBits.f
  rw [k1 k (by omega), Option.bind_some, Option.bind_some, k2 k (by omega), Option.bind_some, Option.bind_some, k3 k (by omega), Option.bind_some]
theorem eqPatch_ev (n1 : Int) (l1 : List Int) (n2 : Int) (l2 l3 : List Int) (h1 : l1.length ≤ 1048576) (h2 : l2.length ≤ 1048576) (h3 : l3.length ≤ 1048576) : Ev (fun k => laws_eqPatch.f k n1 l1 n2 l2 l3 n1 l1 n2 l2 l3) true := by
  obtain ⟨K1, k1⟩ := ev_out (eqUint64S_ev l1 (by omega))
  obtain ⟨K2, k2⟩ := ev_out (eqUint64S_ev l2 (by omega))
  obtain ⟨K3, k3⟩ := ev_out (eqIntS_ev l3 (by omega))
  refine ev_mk (K1 + K2 + K3) fun k hk => ?_
  unfold laws_eqPatch.f laws_eqBits.f
  rw [if_pos rfl, k1 k (by omega), Option.bind_some, if_pos rfl, Option.bind_some, if_pos rfl, if_pos rfl, k2 k (by omega), Option.bind_some, if_pos rfl, Option.bind_some, if_pos rfl, k3 k (by omega), Option.bind_some, if_pos rfl]
theorem markPatch_ev (n1 : Int) (l1 : List Int) (n2 : Int) (l2 l3 : List Int) (c : Int) (h0 : 0 ≤ c) (hc : c ≤ 2000000) (h1 : l1.length ≤ 1048576) (h2 : l2.length ≤ 1048576) (h3 : l3.length ≤ 1048576) :
    ∃ r : Int × List Int × List Int × List Int, Ev (fun k => laws_markPatch.f k n1 l1 n2 l2 l3 c) r ∧ ¬ r.1 < 0 := by
  obtain ⟨m1, e1⟩ := markUint64S_ev l1 c (by omega) h0 (by omega)
  obtain ⟨K1, k1⟩ := ev_out e1
  obtain ⟨m2, e2⟩ := markUint64S_ev l2 (c + (l1.length : Int)) (by omega) (by omega) (by omega)
  obtain ⟨K2, k2⟩ := ev_out e2
  obtain ⟨m3, e3⟩ := markIntS_ev l3 (c + (l1.length : Int) + (l2.length : Int)) (by omega) (by omega) (by omega)
  obtain ⟨K3, k3⟩ := ev_out e3
  refine ⟨(c + (l1.length : Int) + (l2.length : Int) + (l3.length : Int), m1, m2, m3), ev_mk (K1 + K2 + K3) fun k hk => ?_, ?_⟩
  · unfold laws_markPatch.f laws_markBits.f
    rw [k1 k (by omega), Option.bind_some, Option.bind_some, k2 k (by omega), Option.bind_some, Option.bind_some, k3 k (by omega), Option.bind_some]
  · show ¬ (c + (l1.length : Int) + (l2.length : Int) + (l3.length : Int)) < 0
    omega
theorem FnExactPatchDo : laws_FnExactPatchDo.Pure := by
  intro l0 n1 l1 n2 l2 l3 o0 o1
  by_cases g0 : (l0.length : Int) > 1048576
  · exact ⟨0, by unfold laws_FnExactPatchDo.f; rw [if_pos g0]⟩
  obtain ⟨⟨on1, ow1⟩, ⟨on2, ow2⟩, ow3⟩ := o1
  have on1 := (okI_out on1).1
  have on2 := (okI_out on2).1
  have hw1 := okW_out ow1
  have hw2 := okW_out ow2
  have m1 := ow1.1
  have m2 := ow2.1
  have m3 := ow3.1
  unfold maxLen at m1 m2 m3
  obtain ⟨r, hr, hq⟩ := szPatch_out n1 l1 n2 l2 l3 (by dsimp only at m1; omega) (by dsimp only at m2; omega) (by dsimp only at m3; omega)
  by_cases gr : r < 0
  · refine ⟨0, ?_⟩
    unfold laws_FnExactPatchDo.f
    rw [if_neg g0, hr, Option.bind_some, if_pos gr]
  obtain ⟨h1, h2, h3⟩ := hq gr
  have hpl := patchOf_length l0 n1 l1 n2 l2 l3
  have hS := specPatch_ev l0 n1 l1 n2 l2 l3 hw1 hw2 (by omega) (by omega) (by omega) on1 on2
  have hI := implPatch_ev l0 n1 l1 n2 l2 l3 hw1 hw2 (by omega) (by omega) (by omega) on1 on2
  generalize patchOf l0 n1 l1 n2 l2 l3 = P at hpl hS hI
  obtain ⟨p, b⟩ := P
  have hpl : p.length ≤ 301 := hpl
  obtain ⟨K1, k1⟩ := ev_out (toIntS_ev l0 (by omega))
  obtain ⟨K2, k2⟩ := ev_out (toPatch_ev n1 l1 n2 l2 l3 h1 h2 h3)
  obtain ⟨K3, k3⟩ := ev_out hS
  obtain ⟨K4, k4⟩ := ev_out hI
  obtain ⟨K5, k5⟩ := ev_out (eqIntS_ev p (by omega))
  obtain ⟨K6, k6⟩ := ev_out (eqIntS_ev l0 (by omega))
  obtain ⟨K7, k7⟩ := ev_out (eqPatch_ev n1 l1 n2 l2 l3 h1 h2 h3)
  obtain ⟨x1, e8⟩ := markIntS_ev l0 1 (by omega) (by omega) (by omega)
  obtain ⟨K8, k8⟩ := ev_out e8
  obtain ⟨x2, e9, hx2⟩ := markPatch_ev n1 l1 n2 l2 l3 (1 + (l0.length : Int)) (by omega) (by omega) h1 h2 h3
  obtain ⟨K9, k9⟩ := ev_out e9
  obtain ⟨K10, k10⟩ := ev_out (markL_ev p (by omega))
  obtain ⟨K11, k11⟩ := ev_out (heldL_ev p.length (by omega))
  have bb : (b != b) = false := by simp
  refine ⟨K1 + K2 + K3 + K4 + K5 + K6 + K7 + K8 + K9 + K10 + K11 + 3, ?_⟩
  generalize hk : K1 + K2 + K3 + K4 + K5 + K6 + K7 + K8 + K9 + K10 + K11 = k
  unfold laws_FnExactPatchDo.f
  rw [if_neg g0, hr, Option.bind_some, if_neg gr, k1 _ (by omega), Option.bind_some, k2 _ (by omega), Option.bind_some, k3 _ (by omega), Option.bind_some, Option.bind_some, Option.bind_some, k4 _ (by omega), Option.bind_some, k5 _ (by omega), Option.bind_some, if_pos rfl]
  show laws_FnExactPatchDo.j0 (k + 2 + 1) l0 p b l0 p b (b != b) n1 l1 n2 l2 l3 n1 l1 n2 l2 l3 = some true
  rw [bb, laws_FnExactPatchDo.j0, if_neg (by decide), k1 _ (by omega), Option.bind_some, k6 _ (by omega), Option.bind_some, if_pos rfl, k2 _ (by omega), Option.bind_some, k7 _ (by omega), Option.bind_some, if_pos rfl, k8 _ (by omega), Option.bind_some, k9 _ (by omega), Option.bind_some, if_neg hx2, k5 _ (by omega), Option.bind_some, if_pos rfl, bb]
  rw [laws_FnExactPatchDo.j1, if_neg (by decide), k10 _ (by omega), Option.bind_some, k11 _ (by omega), Option.bind_some, if_neg (by omega), if_pos rfl, k1 _ (by omega), Option.bind_some, k2 _ (by omega), Option.bind_some, k4 _ (by omega), Option.bind_some, k5 _ (by omega), Option.bind_some, if_pos rfl]
  show laws_FnExactPatchDo.j2 (k + 1) (marksL p.length) (1 + (p.length : Int)) (b != b) = some true
  rw [bb, laws_FnExactPatchDo.j2, if_neg (by decide), k11 _ (by omega), Option.bind_some, if_neg (by omega), if_pos rfl]

end Go.Proofs.Ytdiemmcnekbfaaa.Pure
