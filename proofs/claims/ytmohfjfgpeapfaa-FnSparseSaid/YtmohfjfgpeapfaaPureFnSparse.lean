/- A drawn sparse list that is taken is recovered: its numbers one by one, how many are smaller than each, and what it contains. -/
import Derived.Test.YtmohfjfgpeapfaaQFnSparsex11
import Derived.Test.YtmohfjfgpeapfaaBase
import Derived.Test.YtmohfjfgpeapfaaBits
namespace Go.Proofs.Ytmohfjfgpeapfaa.Pure
open Go.RowKit Go.Proofs.Ytmohfjfgpeapfaa.QFnSparse Go.Proofs.YtmohfjfgpeapfaaW.PrintWords Go.Proofs.YtmohfjfgpeapfaaW.PrintLast Go.Proofs.YtmohfjfgpeapfaaW.PrintMore
open Go.Proofs.Ytmohfjfgpeapfaa Go.Proofs.Ytmohfjfgpeapfaa.Base Go.Proofs.Ytmohfjfgpeapfaa.Bits
set_option linter.unusedVariables false
set_option linter.unusedSimpArgs false

theorem wu64 {x : Int} (h0 : 0 ≤ x) (h1 : x < 18446744073709551616) : IntKind.u64.wrap x = x := by
 simp [IntKind.wrap, IntKind.bits, IntKind.signed]
 omega
theorem td64 (i : Nat) : Int.tdiv (i : Int) 64 = ((i / 64 : Nat) : Int) := rfl
theorem tm64 (i : Nat) : Int.tmod (i : Int) 64 = ((i % 64 : Nat) : Int) := rfl
def Words (ws : List Int) : Prop := ∀ x ∈ ws, 0 ≤ x ∧ x < 2 ^ 64
theorem l01Power_l0 (m : Nat) : ∀ (a : Nat), a * 2 ^ m < 18446744073709551616 → m ≤ 64 → Ev (fun k => spec_l01Power.l0 k (m : Int) (a : Int)) ((a * 2 ^ m : Nat) : Int) := by
 induction m with
 | zero =>
  intro a h hm
  refine Ev.step (f := fun _ => some _) (fun k => ?_) (Ev.now _)
  rw [spec_l01Power.l0, if_neg (by omega), Nat.pow_zero, Nat.mul_one]
 | succ m ih =>
  intro a h hm
  have hp : 0 < 2 ^ m := Nat.two_pow_pos m
  have e : a * 2 ^ (m + 1) = (2 * a) * 2 ^ m := by rw [Nat.pow_succ, Nat.mul_comm (2 ^ m) 2, ← Nat.mul_assoc, Nat.mul_comm a 2]
  rw [e] at h ⊢
  have : 2 * a ≤ (2 * a) * 2 ^ m := Nat.le_mul_of_pos_right _ hp
  refine Ev.step (f := fun k => spec_l01Power.l0 k (m : Int) ((2 * a : Nat) : Int)) (fun k => ?_) (ih (2 * a) h (by omega))
  rw [spec_l01Power.l0, if_pos (by omega), w64 (by omega) (by omega), wu64 (by omega) (by omega), show ((m + 1 : Nat) : Int) - 1 = (m : Int) by omega]
  rfl
theorem pow64 (m : Nat) (h : m < 64) : 2 ^ m < 18446744073709551616 := Nat.pow_lt_pow_right (a := 2) (n := 64) (by decide) h
theorem pow64i (m : Nat) (h : m ≤ 64) : (2 : Int) ^ m ≤ 18446744073709551616 := by
 have : 2 ^ m ≤ 2 ^ 64 := Nat.pow_le_pow_right (by decide) h
 have e : (2 : Int) ^ m = ((2 ^ m : Nat) : Int) := by simp
 omega
theorem l01Power_ev (m : Nat) (h : m < 64) : Ev (fun k => spec_l01Power.f k (m : Int)) ((2 : Int) ^ m) := by
 have := l01Power_l0 m 1 (by rw [Nat.one_mul]; exact pow64 m h) (by omega)
 rw [Nat.one_mul] at this
 rw [show (2 : Int) ^ m = ((2 ^ m : Nat) : Int) by simp]
 exact this
theorem bitsOf_j2 (l : List Int) (hb : ∀ i, i < l.length → l.getD i 0 = 0 ∨ l.getD i 0 = 1) (h5 : l.length ≤ 5000) (i : Nat) (hi : i < l.length) (r : Int × List Int × Bool)
  (hr : Ev (fun k => spec_BitsOf.l0 k l ((i + 1 : Nat) : Int) (l.length : Int) (wordsTo l (i + 1) (i / 64 + 1))) r) : Ev (fun k => spec_BitsOf.j2 k l (i : Int) (l.length : Int) (wordsTo l i (i / 64 + 1))) r := by
 have e1 : wrap64 ((i : Int) + 1) = ((i + 1 : Nat) : Int) := w64 (by omega) (by omega)
 rcases hb i hi with q | q
 ·refine Ev.step (f := fun k => spec_BitsOf.l0 k l ((i + 1 : Nat) : Int) (l.length : Int) (wordsTo l (i + 1) (i / 64 + 1))) (fun k => ?_) hr
  rw [spec_BitsOf.j2, if_pos (by omega), if_pos (by omega), rd_nat, q, if_neg (by decide), e1, wordsTo_skip l i _ q]
 ·obtain ⟨K1, h1⟩ := ev_out (l01Power_ev (i % 64) (by omega))
  obtain ⟨K2, h2⟩ := ev_out hr
  refine ev_mk (K1 + K2 + 1) fun k hk => ?_
  obtain ⟨k, rfl⟩ : ∃ m, k = m + 1 := ⟨k - 1, by omega⟩
  have hlen := wordsTo_length l i (i / 64 + 1)
  have hbd := wordAt_bound l hb i (i / 64) (by omega)
  rw [show min 64 (i - 64 * (i / 64)) = i % 64 by omega] at hbd
  have hp := pow64i (i % 64 + 1) (by omega)
  rw [Int.pow_succ] at hp
  rw [spec_BitsOf.j2, if_pos (by omega), if_pos (by omega), rd_nat, q, if_pos rfl, td64, tm64, w64 (by omega) (by omega), if_pos (by omega), if_pos (by rw [hlen]; omega), h1 k (by omega), Option.bind_some, e1, rd_nat, wordsTo_get _ _ _ _ (by omega),
   wu64 (by have := two_pos (i % 64); omega) (by omega), Int.toNat_natCast, wordsTo_set l i _ _ (by omega) (by rw [q, Int.one_mul])]
  exact h2 k (by omega)
theorem bitsOf_l0 (l : List Int) (hb : ∀ i, i < l.length → l.getD i 0 = 0 ∨ l.getD i 0 = 1) (h5 : l.length ≤ 5000) (d : Nat) : ∀ i : Nat, i + d = l.length →
  Ev (fun k => spec_BitsOf.l0 k l (i : Int) (l.length : Int) (wordsTo l i ((i + 63) / 64))) ((l.length : Int), wordsOf l, true) := by
 induction d with
 | zero =>
  intro i h
  obtain rfl : i = l.length := by omega
  refine Ev.step (f := fun _ => some _) (fun k => ?_) (Ev.now _)
  rw [spec_BitsOf.l0, if_neg (by omega)]
  rfl
 | succ d ih =>
  intro i h
  have hr := bitsOf_j2 l hb h5 i (by omega) _ (by have := ih (i + 1) (by omega); rwa [show (i + 1 + 63) / 64 = i / 64 + 1 by omega] at this)
  have hj : Ev (fun k => spec_BitsOf.j1 k l (i : Int) false (l.length : Int) (wordsTo l i ((i + 63) / 64))) ((l.length : Int), wordsOf l, true) := by
   refine Ev.step (fun k => ?_) hr
   rw [spec_BitsOf.j1, if_neg (by decide), tm64]
   by_cases q : i % 64 = 0
   ·rw [if_pos (by omega), if_pos (by rw [wordsTo_length]; omega), wordsTo_more l i q]
   ·rw [if_neg (by omega), show (i + 63) / 64 = i / 64 + 1 by omega]
  refine Ev.step (fun k => ?_) hj
  rw [spec_BitsOf.l0, if_pos (by omega), if_pos (by omega), rd_nat]
  rcases hb i (by omega) with q | q
  ·rw [q, if_pos rfl]
  ·rw [q, if_neg (by decide)]
   rfl
theorem specBitsOf_ev (l : List Int) (hb : ∀ i, i < l.length → l.getD i 0 = 0 ∨ l.getD i 0 = 1) (h5 : l.length ≤ 5000) : Ev (fun k => spec_BitsOf.f k l) ((l.length : Int), wordsOf l, true) := by
 refine Ev.congr (f := fun k => spec_BitsOf.l0 k l ((0 : Nat) : Int) (l.length : Int) (wordsTo l 0 ((0 + 63) / 64))) (fun k => ?_) (bitsOf_l0 l hb h5 l.length 0 (by omega))
 unfold spec_BitsOf.f
 rw [if_neg (by omega)]
 rfl
theorem Words.get {ws : List Int} (h : Words ws) (j : Nat) (hj : j < ws.length) : ∃ a : Nat, ws.getD j 0 = (a : Int) ∧ a < 18446744073709551616 := by
 have := h _ (List.getElem_mem hj)
 rw [← lget_lt ws j 0 hj] at this
 refine ⟨(ws.getD j 0).toNat, by omega, by omega⟩
theorem bitAt_nat {ws : List Int} {i a : Nat} (h : ws.getD (i / 64) 0 = (a : Int)) : bitAt ws i = ((a / 2 ^ (i % 64) % 2 : Nat) : Int) := by
 unfold bitAt
 rw [h]
 simp
/-- Whether words are the words of a list of n bits. -/
def okB (n : Int) (ws : List Int) : Bool := decide (0 ≤ n ∧ n ≤ 5000 ∧ ws.length = (n.toNat + 63) / 64 ∧ wordsOf (bitsL n.toNat ws) = ws)
theorem and1 (a : Nat) (h : a < 18446744073709551616) : Go.bits .and .u64 (a : Int) 1 = ((a % 2 : Nat) : Int) := by
 have := bits_mask .u64 64 (by decide) (fun n h0 h1 => wu64 h0 (by omega)) 1 (by decide) (a : Int) (by omega) (by omega)
 rw [show ((2 : Int) ^ 1 - 1) = 1 by decide] at this
 rw [this]
 omega
theorem shr_nat (a m : Nat) (h : m < 64) : shr .u64 (a : Int) ((m : Nat) : Int) = ((a / 2 ^ m : Nat) : Int) := by
 unfold shr
 rw [Int.toNat_natCast, show min m IntKind.u64.bits = m by show min m 64 = m; omega]
 simp
theorem at_ev (n : Int) (ws : List Int) (hw : Words ws) (i : Nat) (hi : i < 64 * ws.length) (h5 : i ≤ 1000000) : impl_Bits_at.f n ws (i : Int) = some (bitAt ws i) := by
 obtain ⟨a, ea, ha⟩ := hw.get (i / 64) (by omega)
 have hd : a / 2 ^ (i % 64) ≤ a := Nat.div_le_self _ _
 unfold impl_Bits_at.f
 rw [td64, tm64, w64 (by omega) (by omega), if_pos (by omega), if_pos (by omega), if_pos (by omega), rd_nat, ea, shr_nat _ _ (by omega), and1 _ (by omega), w64 (by omega) (by omega), bitAt_nat ea]
theorem list_l0 (n : Nat) (ws : List Int) (hw : Words ws) (hn : n ≤ 64 * ws.length) (h5 : n ≤ 5000) (d : Nat) : ∀ i : Nat, i + d = n → Ev (fun k => impl_Bits_list.l0 k (bitsL i ws) (n : Int) (i : Int) (n : Int) ws) (bitsL n ws) := by
 induction d with
 | zero =>
  intro i h
  obtain rfl : i = n := by omega
  refine Ev.step (f := fun _ => some _) (fun k => ?_) (Ev.now _)
  rw [impl_Bits_list.l0, if_neg (by omega)]
 | succ d ih =>
  intro i h
  refine Ev.step (fun k => ?_) (ih (i + 1) (by omega))
  rw [impl_Bits_list.l0, if_pos (by omega), at_ev _ _ hw i (by omega) (by omega), Option.bind_some, if_pos (by rw [bitsL_length]; omega), w64 (by omega) (by omega), bitsL_succ]
  rfl
theorem list_ev (n : Nat) (ws : List Int) (hw : Words ws) (hn : n ≤ 64 * ws.length) (h5 : n ≤ 5000) : Ev (fun k => impl_Bits_list.f k (n : Int) ws) (bitsL n ws) :=
 Ev.congr (f := fun k => impl_Bits_list.l0 k (bitsL 0 ws) (n : Int) ((0 : Nat) : Int) (n : Int) ws) (fun _ => rfl) (list_l0 n ws hw hn h5 n 0 (by omega))
theorem implBitsOk_ev (n : Int) (ws : List Int) (hw : Words ws) (hl : ws.length ≤ 4000000) (hn : -9223372036854775808 ≤ n) : impl_BitsOk.f n ws = some (okB n ws) := by
 unfold impl_BitsOk.f impl_within.f
 by_cases h0 : 0 ≤ n
 case neg =>
  rw [if_neg h0, Option.bind_some, if_neg (by decide), okB, decide_eq_false (by omega)]
 rw [if_pos h0, Option.bind_some]
 by_cases h1 : n ≤ 5000
 case neg =>
  rw [decide_eq_false h1, if_neg (by decide), okB, decide_eq_false (by omega)]
 rw [decide_eq_true h1, if_pos rfl]
 obtain ⟨n, rfl⟩ := Int.eq_ofNat_of_zero_le h0
 have e : wrap64 (Int.tdiv (wrap64 ((wrap64 ((n : Int) + 64)) - 1)) 64) = (((n + 63) / 64 : Nat) : Int) := by
  rw [w64 (x := (n : Int) + 64) (by omega) (by omega), w64 (x := (n : Int) + 64 - 1) (by omega) (by omega), show (n : Int) + 64 - 1 = ((n + 63 : Nat) : Int) by omega, td64, w64 (by omega) (by omega)]
 rw [e]
 by_cases q : ws.length = (n + 63) / 64
 case neg =>
  rw [if_neg (by omega), okB, decide_eq_false (by rw [Int.toNat_natCast]; exact fun h => q h.2.2.1)]
 rw [if_pos (by omega), tm64]
 have W := wordsOf_bits n ws hw q
 have fin : ∀ b : Bool, (b = true ↔ (n % 64 = 0 ∨ ws.getD (ws.length - 1) 0 / 2 ^ (n % 64) = 0)) → some b = some (okB (n : Int) ws) := by
  intro b hb
  congr 1
  rw [Bool.eq_iff_iff, hb, ← W, okB, decide_eq_true_iff, Int.toNat_natCast]
  exact ⟨fun h => ⟨by omega, by omega, q, h⟩, fun h => h.2.2.2⟩
 by_cases z : n % 64 = 0
 ·rw [if_pos (by omega)]
  exact fin true ⟨fun _ => .inl z, fun _ => rfl⟩
 ·obtain ⟨a, ea, ha⟩ := hw.get (ws.length - 1) (by omega)
  rw [if_neg (by omega), w64 (by omega) (by omega), if_pos (by omega), if_pos (by omega), if_pos (by omega), show (ws.length : Int) - 1 = ((ws.length - 1 : Nat) : Int) by omega, rd_nat, ea, shr_nat _ _ (by omega)]
  refine fin _ ?_
  rw [beq_iff_eq, ea]
  constructor
  ·intro h
   right
   have : ((a : Int) / 2 ^ (n % 64)) = ((a / 2 ^ (n % 64) : Nat) : Int) := by simp
   rw [this]
   exact h
  ·rintro (h | h)
   ·exact absurd h z
   ·have : ((a : Int) / 2 ^ (n % 64)) = ((a / 2 ^ (n % 64) : Nat) : Int) := by simp
    rw [this] at h
    exact h
theorem bitsOr_comm (x y : Int) : Go.bits .or .u64 x y = Go.bits .or .u64 y x := by
 unfold Go.bits
 dsimp only
 rw [BitVec.or_comm]
theorem or_bit (x : Int) (m : Nat) (v : Int) (hx : 0 ≤ x) (hx1 : x < 2 ^ m) (hm : m < 64) (hv : v = 0 ∨ v = 1) : Go.bits .or .u64 x (shl .u64 (IntKind.u64.wrap v) (m : Int)) = x + v * 2 ^ m := by
 have hp := pow64i (m + 1) (by omega)
 rw [Int.pow_succ] at hp
 have hp0 := two_pos m
 rcases hv with rfl | rfl
 ·have e : shl .u64 (IntKind.u64.wrap 0) (m : Int) = 0 := by
   unfold shl
   rw [wu64 (x := 0) (by decide) (by decide), Int.zero_mul]
   exact wu64 (by decide) (by decide)
  rw [e, bits_join .u64 64 (by decide) (fun n h0 h1 => wu64 h0 (by omega)) 0 x 0 hx (by simp [Int.emod_one]) (by omega) (by decide) (by decide) (by decide)]
  simp
 ·have e : shl .u64 (IntKind.u64.wrap 1) (m : Int) = 2 ^ m := by
   unfold shl
   rw [wu64 (x := 1) (by decide) (by decide), Int.one_mul, Int.toNat_natCast, show min m IntKind.u64.bits = m by show min m 64 = m; omega]
   exact wu64 (by omega) (by omega)
  rw [e, bitsOr_comm, bits_join .u64 64 (by decide) (fun n h0 h1 => wu64 h0 (by omega)) m (2 ^ m) x (by omega) Int.emod_self (by omega) hx hx1 (by omega)]
  omega
theorem implBitsOf_l0 (l : List Int) (hb : ∀ i, i < l.length → l.getD i 0 = 0 ∨ l.getD i 0 = 1) (h5 : l.length ≤ 5000) (d : Nat) : ∀ i : Nat, i + d = l.length →
  Ev (fun k => impl_bitsOf.l0 k l (l.length : Int) (i : Int) (l.length : Int) (wordsTo l i ((l.length + 63) / 64))) ((l.length : Int), wordsOf l) := by
 induction d with
 | zero =>
  intro i h
  obtain rfl : i = l.length := by omega
  refine Ev.step (f := fun _ => some _) (fun k => ?_) (Ev.now _)
  rw [impl_bitsOf.l0, if_neg (by omega)]
  rfl
 | succ d ih =>
  intro i h
  refine Ev.step (fun k => ?_) (ih (i + 1) (by omega))
  have hbd := wordAt_bound l hb i (i / 64) (by omega)
  rw [show min 64 (i - 64 * (i / 64)) = i % 64 by omega] at hbd
  rw [impl_bitsOf.l0, if_pos (by omega), if_pos (by omega), if_pos (by omega), td64, tm64, w64 (by omega) (by omega), if_pos (by omega), if_pos (by rw [wordsTo_length]; omega), if_pos (by omega), w64 (by omega) (by omega), rd_nat, rd_nat, Int.toNat_natCast,
   wordsTo_get _ _ _ _ (by omega), or_bit _ _ _ hbd.1 hbd.2 (by omega) (hb i (by omega)), wordsTo_set l i _ _ (by omega) rfl]
  rfl
theorem implBitsOf_ev (l : List Int) (hb : ∀ i, i < l.length → l.getD i 0 = 0 ∨ l.getD i 0 = 1) (h5 : l.length ≤ 5000) : Ev (fun k => impl_bitsOf.f k l) ((l.length : Int), wordsOf l) := by
 have e : wrap64 (Int.tdiv (wrap64 ((wrap64 ((l.length : Int) + 64)) - 1)) 64) = (((l.length + 63) / 64 : Nat) : Int) := by
  rw [w64 (x := (l.length : Int) + 64) (by omega) (by omega), w64 (x := (l.length : Int) + 64 - 1) (by omega) (by omega), show (l.length : Int) + 64 - 1 = ((l.length + 63 : Nat) : Int) by omega, td64, w64 (by omega) (by omega)]
 have z : wordsTo l 0 ((l.length + 63) / 64) = List.replicate ((l.length + 63) / 64) 0 := by
  apply ext_getD 0 (by rw [wordsTo_length, List.length_replicate])
  intro j hj
  rw [wordsTo_length] at hj
  rw [wordsTo_get _ _ _ _ hj, lrep]
  unfold wordAt
  rw [show min 64 (0 - 64 * j) = 0 by omega, wsum]
 refine Ev.congr (f := fun k => impl_bitsOf.l0 k l (l.length : Int) ((0 : Nat) : Int) (l.length : Int) (wordsTo l 0 ((l.length + 63) / 64))) (fun k => ?_) (implBitsOf_l0 l hb h5 l.length 0 (by omega))
 unfold impl_bitsOf.f
 rw [e, if_pos (by omega), Int.toNat_natCast, if_pos (by omega), z]
 rfl
theorem words_lt (l : List Int) (hb : ∀ i, i < l.length → l.getD i 0 = 0 ∨ l.getD i 0 = 1) : Words (wordsOf l) := by
 intro x hx
 unfold wordsOf wordsTo at hx
 obtain ⟨j, _, rfl⟩ := List.mem_map.1 hx
 have h := wordAt_bound l hb l.length j (Nat.le_refl _)
 have hp := pow64i (min 64 (l.length - 64 * j)) (by omega)
 exact ⟨h.1, by omega⟩
def len2 (n : Nat) : Nat := if n = 0 then 0 else Nat.log2 n + 1
theorem len2_half (n : Nat) (h : 0 < n) : len2 n = len2 (n / 2) + 1 := by
 unfold len2
 rw [if_neg (by omega)]
 by_cases c : n / 2 = 0
 ·rw [if_pos c]
  have : n = 1 := by omega
  subst this
  rfl
 ·rw [if_neg c, Nat.log2_def n, if_pos (by omega)]
theorem len2_shift (m : Nat) : ∀ n : Nat, 0 < n / 2 ^ m → len2 n = len2 (n / 2 ^ m) + m := by
 induction m with
 | zero => intro n _; rw [Nat.pow_zero, Nat.div_one, Nat.add_zero]
 | succ m ih =>
  intro n h
  have e : n / 2 ^ (m + 1) = n / 2 / 2 ^ m := by rw [Nat.div_div_eq_div_mul, Nat.pow_succ, Nat.mul_comm]
  rw [e] at h ⊢
  have hn : 0 < n := by
   cases n with
   | zero => simp at h
   | succ n => omega
  rw [len2_half n hn, ih (n / 2) h]
  omega
theorem len2_le (n k : Nat) (h : n < 2 ^ k) : len2 n ≤ k := by
 unfold len2
 by_cases c : n = 0
 ·rw [if_pos c]; omega
 ·rw [if_neg c]
  have := (Nat.log2_lt c).2 h
  omega
set_option maxRecDepth 100000 in
def tabL : ByteArray := ⟨#[0, 1, 2, 2, 3, 3, 3, 3, 4, 4, 4, 4, 4, 4, 4, 4, 5, 5, 5, 5, 5, 5, 5, 5, 5, 5, 5, 5, 5, 5, 5, 5, 6, 6, 6, 6, 6, 6, 6, 6, 6, 6, 6, 6, 6, 6, 6, 6, 6, 6, 6, 6, 6, 6, 6, 6, 6, 6, 6, 6, 6, 6, 6, 6, 7, 7, 7, 7, 7, 7, 7, 7, 7, 7, 7, 7, 7, 7, 7, 7, 7, 7, 7, 7, 7, 7, 7, 7, 7, 7, 7, 7, 7, 7, 7, 7, 7, 7, 7, 7, 7, 7, 7, 7, 7, 7, 7, 7, 7, 7, 7, 7, 7, 7, 7, 7, 7, 7, 7, 7, 7, 7, 7, 7, 7, 7, 7, 7, 8, 8, 8, 8, 8, 8, 8, 8, 8, 8, 8, 8, 8, 8, 8, 8, 8, 8, 8, 8, 8, 8, 8, 8, 8, 8, 8, 8, 8, 8, 8, 8, 8, 8, 8, 8, 8, 8, 8, 8, 8, 8, 8, 8, 8, 8, 8, 8, 8, 8, 8, 8, 8, 8, 8, 8, 8, 8, 8, 8, 8, 8, 8, 8, 8, 8, 8, 8, 8, 8, 8, 8, 8, 8, 8, 8, 8, 8, 8, 8, 8, 8, 8, 8, 8, 8, 8, 8, 8, 8, 8, 8, 8, 8, 8, 8, 8, 8, 8, 8, 8, 8, 8, 8, 8, 8, 8, 8, 8, 8, 8, 8, 8, 8, 8, 8, 8, 8, 8, 8, 8, 8, 8, 8, 8, 8, 8, 8]⟩
set_option maxRecDepth 100000 in
theorem tab_all : ∀ i : Fin 256, bt tabL ((i.val : Nat) : Int) = ((len2 i.val : Nat) : Int) := by decide +kernel
theorem tab_len2 (i : Nat) (h : i < 256) : bt tabL (i : Int) = ((len2 i : Nat) : Int) := tab_all ⟨i, h⟩
set_option maxRecDepth 100000 in
theorem bitsLen64_j1 (x n : Nat) (hx : x < 65536) (hn : n ≤ 64) : Ev (fun k => bits_Len64.j1 k (x : Int) (n : Int)) ((n + len2 x : Nat) : Int) := by
 refine Ev.step (f := fun _ => some _) (fun k => ?_) (Ev.now _)
 rw [bits_Len64.j1]
 have ht : ∀ y : Int, bt tabL y = bt (⟨#[0, 1, 2, 2, 3, 3, 3, 3, 4, 4, 4, 4, 4, 4, 4, 4, 5, 5, 5, 5, 5, 5, 5, 5, 5, 5, 5, 5, 5, 5, 5, 5, 6, 6, 6, 6, 6, 6, 6, 6, 6, 6, 6, 6, 6, 6, 6, 6, 6, 6, 6, 6, 6, 6, 6, 6, 6, 6, 6, 6, 6, 6, 6, 6, 7, 7, 7, 7, 7, 7, 7, 7, 7, 7, 7, 7, 7, 7, 7, 7, 7, 7, 7, 7, 7, 7, 7, 7, 7, 7, 7, 7, 7, 7, 7, 7, 7, 7, 7, 7, 7, 7, 7, 7, 7, 7, 7, 7, 7, 7, 7, 7, 7, 7, 7, 7, 7, 7, 7, 7, 7, 7, 7, 7, 7, 7, 7, 7, 8, 8, 8, 8, 8, 8, 8, 8, 8, 8, 8, 8, 8, 8, 8, 8, 8, 8, 8, 8, 8, 8, 8, 8, 8, 8, 8, 8, 8, 8, 8, 8, 8, 8, 8, 8, 8, 8, 8, 8, 8, 8, 8, 8, 8, 8, 8, 8, 8, 8, 8, 8, 8, 8, 8, 8, 8, 8, 8, 8, 8, 8, 8, 8, 8, 8, 8, 8, 8, 8, 8, 8, 8, 8, 8, 8, 8, 8, 8, 8, 8, 8, 8, 8, 8, 8, 8, 8, 8, 8, 8, 8, 8, 8, 8, 8, 8, 8, 8, 8, 8, 8, 8, 8, 8, 8, 8, 8, 8, 8, 8, 8, 8, 8, 8, 8, 8, 8, 8, 8, 8, 8, 8, 8, 8, 8, 8, 8]⟩ : ByteArray) y := fun _ => rfl
 by_cases c : (x : Int) ≥ 256
 ·have e : ((x : Int) / 256) % 256 = ((x / 256 : Nat) : Int) := by omega
  have hl := len2_shift 8 x (by show 0 < x / 256; omega)
  have hle := len2_le (x / 256) 8 (by omega)
  rw [if_pos c, if_pos (by omega), if_pos (by omega), ← ht, e, tab_len2 _ (by omega), w64 (x := (n : Int) + 8) (by omega) (by omega), w64 (x := ((len2 (x / 256) : Nat) : Int)) (by omega) (by omega), w64 (by omega) (by omega)]
  rw [hl]
  congr 1
  show (n : Int) + 8 + ((len2 (x / 256) : Nat) : Int) = ((n + (len2 (x / 256) + 8) : Nat) : Int)
  omega
 ·have e : (x : Int) % 256 = (x : Int) := by omega
  have hle := len2_le x 8 (by omega)
  rw [if_neg c, if_pos (by omega), if_pos (by omega), ← ht, e, tab_len2 _ (by omega), w64 (x := ((len2 x : Nat) : Int)) (by omega) (by omega), w64 (by omega) (by omega)]
  congr 1
theorem bitsLen64_j0 (x n : Nat) (hx : x < 4294967296) (hn : n ≤ 32) : Ev (fun k => bits_Len64.j0 k (x : Int) (n : Int)) ((n + len2 x : Nat) : Int) := by
 by_cases c : (x : Int) ≥ 65536
 ·have hl := len2_shift 16 x (by show 0 < x / 65536; omega)
  have e : (x : Int) / 65536 = ((x / 65536 : Nat) : Int) := by omega
  have h := bitsLen64_j1 (x / 65536) (n + 16) (by omega) (by omega)
  have e2 : n + len2 x = n + 16 + len2 (x / 65536) := by rw [hl]; show n + (len2 (x / 65536) + 16) = _; omega
  rw [e2]
  refine Ev.step (fun k => ?_) h
  rw [bits_Len64.j0, if_pos c, e, w64 (by omega) (by omega)]
  rfl
 ·refine Ev.step (fun k => ?_) (bitsLen64_j1 x n (by omega) (by omega))
  rw [bits_Len64.j0, if_neg c]
theorem implWidthOf_ev (x : Nat) (hx : x < 4294967296) : Ev (fun k => impl_WidthOf.f k (x : Int)) ((len2 x : Nat) : Int) := by
 obtain ⟨K, h⟩ := ev_out (bitsLen64_j0 x 0 hx (by omega))
 refine ev_mk K fun k hk => ?_
 have h1 := h k hk
 rw [Nat.zero_add] at h1
 unfold impl_WidthOf.f bits_Len.f bits_Len64.f
 rw [if_neg (by omega), wu64 (by omega) (by omega), if_neg (by omega)]
 have h2 : bits_Len64.j0 k (x : Int) 0 = some ((len2 x : Nat) : Int) := h1
 rw [h2]
 rfl
theorem specWidth_l0 (d : Nat) : ∀ (x n : Nat), len2 x ≤ d → x < 4294967296 → n + d ≤ 1000 → Ev (fun k => spec_WidthOf.l0 k (x : Int) (n : Int)) ((n + len2 x : Nat) : Int) := by
 induction d with
 | zero =>
  intro x n h hx hn
  have hx0 : x = 0 := by
   cases x with
   | zero => rfl
   | succ x => rw [len2_half (x + 1) (by omega)] at h; omega
  subst hx0
  refine Ev.step (f := fun _ => some _) (fun k => ?_) (Ev.now _)
  rw [spec_WidthOf.l0, if_neg (by omega)]
  rfl
 | succ d ih =>
  intro x n h hx hn
  by_cases c : x = 0
  ·subst c
   refine Ev.step (f := fun _ => some _) (fun k => ?_) (Ev.now _)
   rw [spec_WidthOf.l0, if_neg (by omega)]
   rfl
  ·have e := len2_half x (by omega)
   have e3 : n + len2 x = n + 1 + len2 (x / 2) := by omega
   rw [e3]
   refine Ev.step (fun k => ?_) (ih (x / 2) (n + 1) (by omega) (by omega) (by omega))
   have e4 : Int.tdiv (x : Int) 2 = ((x / 2 : Nat) : Int) := rfl
   rw [spec_WidthOf.l0, if_pos (by omega), e4, w64 (by omega) (by omega), w64 (by omega) (by omega)]
   rfl
def wid (n u : Nat) : Nat := if n = 0 then 0 else len2 (u / n) - 1
theorem wid_le (n u : Nat) (hu : u ≤ 1000000) : wid n u ≤ 19 := by
 unfold wid
 split
 ·omega
 ·have h1 : u / n ≤ u := Nat.div_le_self _ _
  have := len2_le (u / n) 20 (by omega)
  omega
theorem implLow_ev (n u : Nat) (hn : n ≤ 5000) (hu : u ≤ 1000000) : Ev (fun k => impl_lowWidth.f k (u : Int) (n : Int)) ((wid n u : Nat) : Int) := by
 by_cases c : n = 0
 ·refine ev_mk 0 fun k _ => ?_
  unfold impl_lowWidth.f wid
  rw [if_pos (by omega), if_pos c]
  rfl
 ·have h1 : u / n ≤ u := Nat.div_le_self _ _
  have e : Int.tdiv (u : Int) (n : Int) = ((u / n : Nat) : Int) := rfl
  have ew : wid n u = len2 (u / n) - 1 := if_neg c
  rw [ew]
  generalize u / n = q at h1 e
  obtain ⟨K, h⟩ := ev_out (implWidthOf_ev q (by omega))
  refine ev_mk K fun k hk => ?_
  have h2 := len2_le q 20 (by omega)
  unfold impl_lowWidth.f
  rw [if_neg (by omega), e, w64 (by omega) (by omega), h k hk, Option.bind_some, w64 (by omega) (by omega)]
  unfold mx
  congr 1
  split <;> omega
theorem specW03_ev (n u : Nat) (hn : n ≤ 5000) (hu : u ≤ 1000000) : Ev (fun k => spec_l03Width.f k (n : Int) (u : Int)) ((wid n u : Nat) : Int) := by
 by_cases c : n = 0
 ·refine ev_mk 0 fun k _ => ?_
  unfold spec_l03Width.f wid
  rw [if_pos (by omega), if_pos c]
  rfl
 ·have h1 : u / n ≤ u := Nat.div_le_self _ _
  have e : Int.tdiv (u : Int) (n : Int) = ((u / n : Nat) : Int) := rfl
  have ew : wid n u = len2 (u / n) - 1 := if_neg c
  rw [ew]
  generalize u / n = q at h1 e
  have h2 := len2_le q 20 (by omega)
  obtain ⟨K, h⟩ := ev_out (specWidth_l0 20 q 0 h2 (by omega) (by omega))
  refine ev_mk K fun k hk => ?_
  have h3 := h k hk
  rw [Nat.zero_add] at h3
  unfold spec_l03Width.f spec_WidthOf.f
  rw [if_neg (by omega), e, w64 (by omega) (by omega), if_neg (by omega)]
  have h4 : spec_WidthOf.l0 k (q : Int) 0 = some ((len2 q : Nat) : Int) := h3
  rw [h4, Option.bind_some, w64 (by omega) (by omega)]
  unfold mx
  congr 1
  split <;> omega
theorem p2 (m k : Nat) (h : m ≤ k) : 2 ^ m ≤ 2 ^ k := Nat.pow_le_pow_right (n := 2) (by decide) h
theorem pow02_l0 (m : Nat) : ∀ (a : Nat), a * 2 ^ m ≤ 4294967296 → m ≤ 32 → Ev (fun k => spec_l02Pow.l0 k (m : Int) (a : Int)) ((a * 2 ^ m : Nat) : Int) := by
 induction m with
 | zero =>
  intro a h _
  refine Ev.step (f := fun _ => some _) (fun k => ?_) (Ev.now _)
  rw [spec_l02Pow.l0, if_neg (by omega), Nat.pow_zero, Nat.mul_one]
 | succ m ih =>
  intro a h hm
  have e : a * 2 ^ (m + 1) = 2 * a * 2 ^ m := by rw [Nat.pow_succ, Nat.mul_comm (2 ^ m) 2, ← Nat.mul_assoc, Nat.mul_comm a 2]
  have hq : a ≤ a * 2 ^ (m + 1) := Nat.le_mul_of_pos_right a (Nat.two_pow_pos _)
  rw [e] at h ⊢
  refine Ev.step (fun k => ?_) (ih (2 * a) h (by omega))
  rw [spec_l02Pow.l0, if_pos (by omega), w64 (by omega) (by omega), w64 (by omega) (by omega), show ((m + 1 : Nat) : Int) - 1 = (m : Int) by omega, show 2 * (a : Int) = ((2 * a : Nat) : Int) by omega]
theorem pow02_ev (m : Nat) (h : m ≤ 32) : Ev (fun k => spec_l02Pow.f k (m : Int)) ((2 ^ m : Nat) : Int) := by
 have := pow02_l0 m 1 (by have := p2 m 32 h; omega) h
 rw [Nat.one_mul] at this
 exact this
def digs : Nat → Nat → List Int
 | 0, _ => []
 | w + 1, x => ((x % 2 : Nat) : Int) :: digs w (x / 2)
theorem digs_length (w : Nat) : ∀ x, (digs w x).length = w := by
 induction w with
 | zero => intro x; rfl
 | succ w ih => intro x; rw [digs, List.length_cons, ih]
theorem digs_01 (w : Nat) : ∀ x, ∀ y ∈ digs w x, y = 0 ∨ y = 1 := by
 induction w with
 | zero => intro x y h; cases h
 | succ w ih =>
  intro x y h
  rcases List.mem_cons.1 h with e | e
  ·omega
  ·exact ih _ y e
def packB (w : Nat) (l : List Int) : List Int := l.flatMap fun x => digs w x.toNat
theorem packB_length (w : Nat) (l : List Int) : (packB w l).length = l.length * w := by
 induction l with
 | nil => rw [packB, List.flatMap_nil, List.length_nil, Nat.zero_mul]
 | cons x l ih =>
  have e : packB w (x :: l) = digs w x.toNat ++ packB w l := List.flatMap_cons
  rw [e, List.length_append, ih, digs_length, List.length_cons, Nat.succ_mul]
  omega
theorem packB_snoc (w : Nat) (l : List Int) (x : Int) : packB w (l ++ [x]) = packB w l ++ digs w x.toNat := by
 unfold packB
 rw [List.flatMap_append]
 simp
theorem packB_01 (w : Nat) (l : List Int) : ∀ y ∈ packB w l, y = 0 ∨ y = 1 := by
 intro y h
 obtain ⟨x, _, hx⟩ := List.mem_flatMap.1 h
 exact digs_01 w _ y hx
theorem mem_get01 {l : List Int} (h : ∀ y ∈ l, y = 0 ∨ y = 1) : ∀ i, i < l.length → l.getD i 0 = 0 ∨ l.getD i 0 = 1 := by
 intro i hi
 rw [lget_lt _ _ _ hi]
 exact h _ (List.getElem_mem hi)
theorem and1i (a : Nat) (h : a < 4294967296) : Go.bits .and .i64 (a : Int) 1 = ((a % 2 : Nat) : Int) := by
 have o : ∀ a : Nat, a < 4294967296 → (BitVec.ofInt 64 (a : Int)).toNat = a := fun a h => by rw [BitVec.ofInt_natCast, BitVec.toNat_ofNat]; exact Nat.mod_eq_of_lt (by omega)
 show IntKind.i64.wrap ((BitVec.ofInt 64 (a : Int) &&& BitVec.ofInt 64 ((1 : Nat) : Int)).toNat : Int) = _
 rw [BitVec.toNat_and, o _ (by omega), o _ (by omega), Nat.and_one_is_mod, i64_w, w64 (by omega) (by omega)]
theorem implDigits_l0 (w : Nat) (hw : w ≤ 32) (d : Nat) : ∀ (x i : Nat) (acc : List Int), i + d = w → x < 4294967296 → acc.length + d ≤ 10000 → Ev (fun k => impl_digits.l0 k (x : Int) acc (w : Int) (i : Int)) (acc ++ digs d x) := by
 induction d with
 | zero =>
  intro x i acc h hx ha
  refine Ev.step (f := fun _ => some _) (fun k => ?_) (Ev.now _)
  rw [impl_digits.l0, if_neg (by omega), digs, List.append_nil]
 | succ d ih =>
  intro x i acc h hx ha
  rw [digs, List.append_cons]
  refine Ev.step (fun k => ?_) (ih (x / 2) (i + 1) (acc ++ [((x % 2 : Nat) : Int)]) (by omega) (by omega) (by rw [List.length_append]; simp; omega))
  have e : (x : Int) / 2 = ((x / 2 : Nat) : Int) := by omega
  rw [impl_digits.l0, if_pos (by omega), if_pos (by omega), and1i x hx, e, w64 (by omega) (by omega)]
  rfl
theorem implDigits_ev (w x : Nat) (hw : w ≤ 32) (hx : x < 4294967296) : Ev (fun k => impl_digits.f k (x : Int) (w : Int)) (digs w x) := by
 have := implDigits_l0 w hw w x 0 [] (by omega) hx (by simp; omega)
 rw [List.nil_append] at this
 exact this
def packR (w : Nat) (l : List Int) : Int × Int × Int × List Int × Bool := if l.length * w ≤ 5000 then ((w : Int), (l.length : Int), ((packB w l).length : Int), wordsOf (packB w l), true) else (0, 0, 0, [], false)
def InW (w : Nat) (l : List Int) : Prop := ∀ x ∈ l, 0 ≤ x ∧ x < ((2 ^ w : Nat) : Int)
theorem InW.get {w : Nat} {l : List Int} (h : InW w l) (i : Nat) (hi : i < l.length) : ∃ x : Nat, l.getD i 0 = (x : Int) ∧ x < 2 ^ w := by
 rw [lget_lt _ _ _ hi]
 obtain ⟨h0, h1⟩ := h _ (List.getElem_mem hi)
 obtain ⟨x, hx⟩ := Int.eq_ofNat_of_zero_le h0
 exact ⟨x, hx, by omega⟩
theorem shl1 (w : Nat) (h : w ≤ 32) : shl .i64 1 (w : Int) = ((2 ^ w : Nat) : Int) := by
 have hp := p2 w 32 h
 unfold shl
 rw [Int.toNat_natCast, show min w IntKind.i64.bits = w by show min w 64 = w; omega, Int.one_mul, i64_w]
 have e : (2 : Int) ^ w = ((2 ^ w : Nat) : Int) := by simp
 rw [e]
 generalize 2 ^ w = q at hp
 exact w64 (by omega) (by omega)
theorem all58 {w : Nat} {l : List Int} (h : InW w l) (hw : w ≤ 32) : l.all (Fv.p58 (w : Int)) = true := by
 refine List.all_eq_true.2 fun x hx => ?_
 obtain ⟨h0, h1⟩ := h x hx
 have hp := p2 w 32 hw
 unfold Fv.p58 Fv.inR
 rw [shl1 w hw]
 generalize 2 ^ w = q at hp h1
 rw [w64 (by omega) (by omega)]
 exact decide_eq_true ⟨h0, by omega⟩
theorem take_packB (w : Nat) (l : List Int) (i : Nat) (hi : i < l.length) : packB w (l.take (i + 1)) = packB w (l.take i) ++ digs w (l.getD i 0).toNat := by
 rw [take_succ_getD l 0 i hi, packB_snoc]
theorem take_packB_le (w : Nat) (l : List Int) (i : Nat) (hs : l.length * w ≤ 5000) : (packB w (l.take i)).length ≤ 5000 := by
 rw [packB_length]
 have : (l.take i).length * w ≤ l.length * w := Nat.mul_le_mul_right w (by rw [List.length_take]; omega)
 omega
theorem implPack_l0 (w : Nat) (l : List Int) (hl : InW w l) (hw : w ≤ 32) (h5 : l.length ≤ 5000) (hs : l.length * w ≤ 5000) (d : Nat) : ∀ i : Nat, i + d = l.length →
  Ev (fun k => impl_PackOf.l0 k l (packB w (l.take i)) l (l.length : Int) (i : Int) (w : Int)) ((w : Int), (l.length : Int), ((packB w l).length : Int), wordsOf (packB w l), true) := by
 induction d with
 | zero =>
  intro i h
  obtain rfl : i = l.length := by omega
  rw [List.take_length]
  have hle := take_packB_le w l l.length hs
  rw [List.take_length] at hle
  obtain ⟨K, hK⟩ := ev_out (implBitsOf_ev (packB w l) (mem_get01 (packB_01 w l)) hle)
  refine ev_mk (K + 1) fun k hk => ?_
  obtain ⟨k, rfl⟩ : ∃ m, k = m + 1 := ⟨k - 1, by omega⟩
  rw [impl_PackOf.l0, if_neg (by omega), hK k (by omega), Option.bind_some]
 | succ d ih =>
  intro i h
  obtain ⟨x, hx, hx2⟩ := hl.get i (by omega)
  have hp := p2 w 32 hw
  have hi1 := ih (i + 1) (by omega)
  rw [take_packB w l i (by omega), hx, Int.toNat_natCast] at hi1
  obtain ⟨K1, k1⟩ := ev_out (implDigits_ev w x hw (by omega))
  obtain ⟨K2, k2⟩ := ev_out hi1
  have hle := take_packB_le w l i hs
  refine ev_mk (K1 + K2 + 1) fun k hk => ?_
  obtain ⟨k, rfl⟩ : ∃ m, k = m + 1 := ⟨k - 1, by omega⟩
  have hd := digs_length w x
  rw [impl_PackOf.l0, if_pos (by omega), if_pos (by omega), if_pos (by omega), rd_nat, hx, k1 k (by omega), Option.bind_some, if_pos (by omega), w64 (by omega) (by omega)]
  exact k2 k (by omega)
theorem implPackOf_ev (w : Nat) (l : List Int) (hl : InW w l) (hw : w ≤ 32) (h5 : l.length ≤ 5000) : Ev (fun k => impl_PackOf.f k l (w : Int)) (packR w l) := by
 have hm : (l.length : Int) * (w : Int) = ((l.length * w : Nat) : Int) := by simp
 have hb : l.length * w ≤ 5000 * 32 := Nat.mul_le_mul h5 hw
 unfold packR
 by_cases hs : l.length * w ≤ 5000
 ·rw [if_pos hs]
  have h := implPack_l0 w l hl hw h5 hs l.length 0 (by omega)
  obtain ⟨K, hK⟩ := ev_out h
  refine ev_mk (K + 1) fun k hk => ?_
  obtain ⟨k, rfl⟩ : ∃ m, k = m + 1 := ⟨k - 1, by omega⟩
  unfold impl_PackOf.f impl_within.f impl_areAll_58.f
  rw [if_pos (by omega), Option.bind_some, if_pos (decide_eq_true (by omega)), if_neg (by omega), hm]
  generalize l.length * w = q at hs hb
  rw [w64 (by omega) (by omega), if_neg (by omega), if_pos ⟨by unfold maxLen; omega, by show (0 : Int) ≤ _; omega⟩, Option.bind_some, all58 hl hw, impl_PackOf.j0, if_neg (by decide)]
  exact hK k (by omega)
 ·rw [if_neg hs]
  refine ev_mk 1 fun k hk => ?_
  obtain ⟨k, rfl⟩ : ∃ m, k = m + 1 := ⟨k - 1, by omega⟩
  unfold impl_PackOf.f impl_within.f
  rw [if_pos (by omega), Option.bind_some, if_pos (decide_eq_true (by omega)), if_neg (by omega), hm]
  generalize l.length * w = q at hs hb
  rw [w64 (by omega) (by omega), if_pos (by omega), impl_PackOf.j0, if_pos rfl]
theorem specPack_l1 (l : List Int) (w : Nat) (hw : w ≤ 32) (i : Int) (r : Int × Int × Int × List Int × Bool) (d : Nat) : ∀ (x j : Nat) (acc : List Int), j + d = w → x < 4294967296 → acc.length + d ≤ 10000 →
  Ev (fun k => spec_PackOf.l0 k l (w : Int) (acc ++ digs d x) (wrap64 (i + 1))) r → Ev (fun k => spec_PackOf.l1 k l (w : Int) acc i (x : Int) (j : Int)) r := by
 induction d with
 | zero =>
  intro x j acc h hx ha hk
  rw [digs, List.append_nil] at hk
  refine Ev.step (fun k => ?_) hk
  rw [spec_PackOf.l1, if_neg (by omega)]
 | succ d ih =>
  intro x j acc h hx ha hk
  rw [digs, List.append_cons] at hk
  refine Ev.step (fun k => ?_) (ih (x / 2) (j + 1) (acc ++ [((x % 2 : Nat) : Int)]) (by omega) (by omega) (by rw [List.length_append]; simp; omega) hk)
  have e : Int.tdiv (x : Int) 2 = ((x / 2 : Nat) : Int) := rfl
  have e2 : Int.tmod (x : Int) 2 = ((x % 2 : Nat) : Int) := rfl
  rw [spec_PackOf.l1, if_pos (by omega), if_pos (by omega), e, e2, w64 (by omega) (by omega), w64 (by omega) (by omega)]
  rfl
theorem specPack_l0 (w : Nat) (l : List Int) (hl : InW w l) (hw : w ≤ 32) (h5 : l.length ≤ 5000) (hs : l.length * w ≤ 5000) (d : Nat) : ∀ i : Nat, i + d = l.length →
  Ev (fun k => spec_PackOf.l0 k l (w : Int) (packB w (l.take i)) (i : Int)) ((w : Int), (l.length : Int), ((packB w l).length : Int), wordsOf (packB w l), true) := by
 induction d with
 | zero =>
  intro i h
  obtain rfl : i = l.length := by omega
  rw [List.take_length]
  have hle := take_packB_le w l l.length hs
  rw [List.take_length] at hle
  obtain ⟨K, hK⟩ := ev_out (specBitsOf_ev (packB w l) (mem_get01 (packB_01 w l)) hle)
  refine ev_mk (K + 1) fun k hk => ?_
  obtain ⟨k, rfl⟩ : ∃ m, k = m + 1 := ⟨k - 1, by omega⟩
  rw [spec_PackOf.l0, if_neg (by omega), hK k (by omega), Option.bind_some]
 | succ d ih =>
  intro i h
  obtain ⟨x, hx, hx2⟩ := hl.get i (by omega)
  have hp := p2 w 32 hw
  have hi1 := ih (i + 1) (by omega)
  rw [take_packB w l i (by omega), hx, Int.toNat_natCast, show ((i + 1 : Nat) : Int) = wrap64 ((i : Int) + 1) from (w64 (by omega) (by omega)).symm] at hi1
  have hle := take_packB_le w l i hs
  obtain ⟨K2, k2⟩ := ev_out (specPack_l1 l w hw (i : Int) _ w x 0 (packB w (l.take i)) (by omega) (by omega) (by omega) hi1)
  obtain ⟨K1, k1⟩ := ev_out (pow02_ev w hw)
  refine ev_mk (K1 + K2 + 2) fun k hk => ?_
  obtain ⟨k, rfl⟩ : ∃ m, k = m + 2 := ⟨k - 2, by omega⟩
  rw [spec_PackOf.l0, if_pos (by omega), if_pos (by omega), rd_nat, hx, if_neg (by omega), k1 _ (by omega), Option.bind_some, decide_eq_false (by omega), spec_PackOf.j2, if_neg (by decide)]
  exact k2 k (by omega)
theorem specPackOf_ev (w : Nat) (l : List Int) (hl : InW w l) (hw : w ≤ 32) (h5 : l.length ≤ 5000) : Ev (fun k => spec_PackOf.f k l (w : Int)) (packR w l) := by
 have hm : (l.length : Int) * (w : Int) = ((l.length * w : Nat) : Int) := by simp
 have hb : l.length * w ≤ 5000 * 32 := Nat.mul_le_mul h5 hw
 unfold packR
 by_cases hs : l.length * w ≤ 5000
 ·rw [if_pos hs]
  have h := specPack_l0 w l hl hw h5 hs l.length 0 (by omega)
  obtain ⟨K, hK⟩ := ev_out h
  refine ev_mk (K + 1) fun k hk => ?_
  obtain ⟨k, rfl⟩ : ∃ m, k = m + 1 := ⟨k - 1, by omega⟩
  unfold spec_PackOf.f
  rw [if_neg (by omega), if_neg (by omega), if_neg (by omega), hm]
  generalize l.length * w = q at hs hb
  rw [w64 (by omega) (by omega), decide_eq_false (by omega), spec_PackOf.j0, if_neg (by decide)]
  exact hK k (by omega)
 ·rw [if_neg hs]
  refine ev_mk 1 fun k hk => ?_
  obtain ⟨k, rfl⟩ : ∃ m, k = m + 1 := ⟨k - 1, by omega⟩
  unfold spec_PackOf.f
  rw [if_neg (by omega), if_neg (by omega), if_neg (by omega), hm]
  generalize l.length * w = q at hs hb
  rw [w64 (by omega) (by omega), decide_eq_true (by omega), spec_PackOf.j0, if_pos rfl]
def hi (U : Nat) : Nat → List Nat → List Int
 | c, [] => List.replicate (U + 1 - c) 0
 | c, q :: qs => List.replicate (q - c) 0 ++ 1 :: hi U q qs
def Up3 (U : Nat) : Nat → List Nat → Prop
 | _, [] => True
 | c, q :: qs => c ≤ q ∧ q ≤ U ∧ Up3 U q qs
theorem hi_length (U : Nat) (qs : List Nat) : ∀ c, Up3 U c qs → c ≤ U + 1 → (hi U c qs).length = qs.length + (U + 1 - c) := by
 induction qs with
 | nil => intro c _ _; rw [hi, List.length_replicate, List.length_nil]; omega
 | cons q qs ih =>
  intro c h hc
  obtain ⟨h1, h2, h3⟩ := h
  rw [hi, List.length_append, List.length_replicate, List.length_cons, ih q h3 (by omega), List.length_cons]
  omega
theorem hi_01 (U : Nat) (qs : List Nat) : ∀ c, ∀ y ∈ hi U c qs, y = 0 ∨ y = 1 := by
 induction qs with
 | nil => intro c y h; rw [hi] at h; exact .inl (List.eq_of_mem_replicate h)
 | cons q qs ih =>
  intro c y h
  rw [hi] at h
  rcases List.mem_append.1 h with e | e
  ·exact .inl (List.eq_of_mem_replicate e)
  ·rcases List.mem_cons.1 e with e | e
   ·exact .inr e
   ·exact ih q y e
theorem hi_count (U : Nat) (qs : List Nat) : ∀ c, (hi U c qs).count 1 = qs.length := by
 induction qs with
 | nil => intro c; rw [hi, List.count_replicate]; rfl
 | cons q qs ih =>
  intro c
  rw [hi, List.count_append, List.count_cons, ih q, List.count_replicate]
  simp
theorem hi_zero (U c q : Nat) (qs : List Nat) (h : c < q) : hi U c (q :: qs) = 0 :: hi U (c + 1) (q :: qs) := by
 rw [hi, hi, show q - c = (q - (c + 1)) + 1 by omega, List.replicate_succ, List.cons_append]
theorem hi_end (U c : Nat) (h : c ≤ U) : hi U c [] = 0 :: hi U (c + 1) [] := by
 rw [hi, hi, show U + 1 - c = (U + 1 - (c + 1)) + 1 by omega, List.replicate_succ]
theorem hi_one (U q : Nat) (qs : List Nat) : hi U q (q :: qs) = 1 :: hi U q qs := by
 rw [hi, Nat.sub_self, List.replicate_zero, List.nil_append]
def quot (w : Nat) (l : List Int) : List Nat := l.map fun x => x.toNat / 2 ^ w
def lowL (w : Nat) (l : List Int) : List Int := l.map fun x => ((x.toNat % 2 ^ w : Nat) : Int)
theorem quot_drop (w : Nat) (l : List Int) (i : Nat) (h : i < l.length) : (quot w l).drop i = (l.getD i 0).toNat / 2 ^ w :: (quot w l).drop (i + 1) := by
 unfold quot
 rw [← List.map_drop, ← List.map_drop, List.drop_eq_getElem_cons h, lget_lt _ _ _ h, List.map_cons]
theorem quot_length (w : Nat) (l : List Int) : (quot w l).length = l.length := List.length_map _
theorem lowL_length (w : Nat) (l : List Int) : (lowL w l).length = l.length := List.length_map _
theorem lowL_take (w : Nat) (l : List Int) (i : Nat) (h : i < l.length) : lowL w (l.take (i + 1)) = lowL w (l.take i) ++ [(((l.getD i 0).toNat % 2 ^ w : Nat) : Int)] := by
 rw [take_succ_getD l 0 i h]
 unfold lowL
 rw [List.map_append]
 rfl
theorem lowL_in (w : Nat) (l : List Int) : InW w (lowL w l) := by
 intro x hx
 obtain ⟨y, _, rfl⟩ := List.mem_map.1 hx
 have := Nat.mod_lt y.toNat (Nat.two_pow_pos w)
 constructor <;> omega
def okAt (l : List Int) (u : Int) (j : Nat) : Prop := 0 ≤ l.getD j 0 ∧ l.getD j 0 < u ∧ (0 < j → l.getD (j - 1) 0 ≤ l.getD j 0)
instance (l : List Int) (u : Int) (j : Nat) : Decidable (okAt l u j) := by unfold okAt; exact inferInstance
def Good (l : List Int) (u : Int) : Prop := 0 ≤ u ∧ u ≤ 1000000 ∧ ∀ j, j < l.length → okAt l u j
instance (l : List Int) (u : Int) : Decidable (Good l u) := by unfold Good; exact inferInstance
theorem good_up {l : List Int} {u : Int} (g : Good l u) (w : Nat) (d : Nat) : ∀ i c : Nat, i + d = l.length → (i < l.length → c ≤ (l.getD i 0).toNat / 2 ^ w) → Up3 (u.toNat / 2 ^ w) c ((quot w l).drop i) := by
 induction d with
 | zero => intro i c h _; rw [List.drop_eq_nil_of_le (by rw [quot_length]; omega)]; trivial
 | succ d ih =>
  intro i c h hc
  rw [quot_drop w l i (by omega)]
  obtain ⟨o1, o2, o3⟩ := g.2.2 i (by omega)
  refine ⟨hc (by omega), Nat.div_le_div_right (by omega), ih (i + 1) _ (by omega) fun hi => ?_⟩
  obtain ⟨p1, p2, p3⟩ := g.2.2 (i + 1) hi
  have := p3 (by omega)
  rw [Nat.add_sub_cancel] at this
  exact Nat.div_le_div_right (by omega)
def Zr : Int × Int × Int × Int × Int × List Int × Int × List Int × Bool := (0, 0, 0, 0, 0, [], 0, [], false)
def fin (u n : Int) (w : Nat) (low high : List Int) : Int × Int × Int × Int × Int × List Int × Int × List Int × Bool :=
 if (packR w low).2.2.2.2 = true then (u, n, (packR w low).1, (packR w low).2.1, (packR w low).2.2.1, (packR w low).2.2.2.1, (high.length : Int), wordsOf high, true) else Zr
def hiOf (l : List Int) (u : Int) (w : Nat) : List Int := hi (u.toNat / 2 ^ w) 0 (quot w l)
def sparseR (l : List Int) (u : Int) : Int × Int × Int × Int × Int × List Int × Int × List Int × Bool :=
 if Good l u then if l.length + u.toNat / 2 ^ wid l.length u.toNat + 1 ≤ 5000 then fin u (l.length : Int) (wid l.length u.toNat) (lowL (wid l.length u.toNat) l) (hiOf l u (wid l.length u.toNat)) else Zr else Zr
theorem shrN (x w : Nat) (hw : w ≤ 32) : shr .i64 (x : Int) (w : Int) = ((x / 2 ^ w : Nat) : Int) := by
 unfold shr
 rw [Int.toNat_natCast, show min w IntKind.i64.bits = w by show min w 64 = w; omega]
 simp
theorem andmask (x w : Nat) (hw : w ≤ 32) (hx : x ≤ 1000000) : Go.bits .and .i64 (x : Int) (wrap64 ((shl .i64 1 (w : Int)) - 1)) = ((x % 2 ^ w : Nat) : Int) := by
 have hp := p2 w 32 hw
 have hpos := Nat.two_pow_pos w
 rw [shl1 w hw]
 have e : ((2 ^ w : Nat) : Int) - 1 = ((2 ^ w - 1 : Nat) : Int) := by omega
 have o : ∀ a : Nat, a < 18446744073709551616 → (BitVec.ofInt 64 (a : Int)).toNat = a := fun a h => by rw [BitVec.ofInt_natCast, BitVec.toNat_ofNat]; exact Nat.mod_eq_of_lt (by omega)
 have hm : x % 2 ^ w ≤ x := Nat.mod_le _ _
 have hq : x &&& (2 ^ w - 1) = x % 2 ^ w := Nat.and_two_pow_sub_one_eq_mod x w
 have hm2 : 2 ^ w - 1 < 4294967296 := by omega
 rw [e]
 generalize x % 2 ^ w = r at hm hq
 generalize 2 ^ w - 1 = m at hq hm2
 rw [w64 (by omega) (by omega)]
 show IntKind.i64.wrap ((BitVec.ofInt 64 (x : Int) &&& BitVec.ofInt 64 (m : Int)).toNat : Int) = _
 rw [BitVec.toNat_and, o _ (by omega), o _ (by omega), hq, i64_w, w64 (by omega) (by omega)]
def SortedL (l : List Int) : Prop := ∀ j, j < l.length → 0 < j → l.getD (j - 1) 0 ≤ l.getD j 0
instance (l : List Int) : Decidable (SortedL l) := by unfold SortedL; exact inferInstance
theorem less_eq (a b : Int) : cmp_Less_int.f a b = some (decide (a < b)) := by
 unfold cmp_Less_int.f cmp_isNaN_int.f
 rw [Option.bind_some, bne_self_eq_false, if_neg (by decide)]
theorem sorted_l0 (l : List Int) (h5 : l.length ≤ 1000000) (i : Nat) : (i < l.length ∨ i = 0) → (∀ j, j < l.length → i < j → l.getD (j - 1) 0 ≤ l.getD j 0) → Ev (fun k => slices_IsSorted_int_int.l0 k l (i : Int)) (decide (SortedL l)) := by
 induction i with
 | zero =>
  intro _ h
  refine Ev.step (f := fun _ => some _) (fun k => ?_) (Ev.now _)
  rw [slices_IsSorted_int_int.l0, if_neg (by omega), decide_eq_true (show SortedL l from fun j hj h0 => h j hj h0)]
 | succ i ih =>
  intro hi h
  have hlt : i + 1 < l.length := by omega
  have e : wrap64 (((i + 1 : Nat) : Int) - 1) = (i : Int) := by rw [w64 (by omega) (by omega)]; omega
  by_cases c : l.getD (i + 1) 0 < l.getD i 0
  ·refine Ev.step (f := fun _ => some _) (fun k => ?_) (Ev.now _)
   rw [slices_IsSorted_int_int.l0, if_pos (by omega), if_pos (by omega), if_pos (by omega), e, if_pos (by omega), if_pos (by omega), less_eq, Option.bind_some, rd_nat, rd_nat, if_pos (decide_eq_true c), decide_eq_false (fun hs => by have := hs (i + 1) hlt (by omega); rw [Nat.add_sub_cancel] at this; omega)]
  ·refine Ev.step (fun k => ?_) (ih (by omega) fun j hj h0 => ?_)
   ·rw [slices_IsSorted_int_int.l0, if_pos (by omega), if_pos (by omega), if_pos (by omega), e, if_pos (by omega), if_pos (by omega), less_eq, Option.bind_some, rd_nat, rd_nat, if_neg (by rw [decide_eq_false c]; decide)]
   ·by_cases e2 : j = i + 1
    ·subst e2; rw [Nat.add_sub_cancel]; omega
    ·exact h j hj (by omega)
theorem sorted_ev (l : List Int) (h5 : l.length ≤ 1000000) : Ev (fun k => slices_IsSorted_int_int.f k l) (decide (SortedL l)) := by
 by_cases c : l.length = 0
 ·refine ev_mk 1 fun k hk => ?_
  obtain ⟨k, rfl⟩ : ∃ m, k = m + 1 := ⟨k - 1, by omega⟩
  unfold slices_IsSorted_int_int.f
  rw [w64 (by omega) (by omega), slices_IsSorted_int_int.l0, if_neg (by omega), decide_eq_true (show SortedL l from fun j hj _ => by omega)]
 ·refine Ev.congr (fun k => ?_) (sorted_l0 l h5 (l.length - 1) (by omega) (fun j hj h => by omega))
  unfold slices_IsSorted_int_int.f
  rw [w64 (by omega) (by omega), show (l.length : Int) - 1 = ((l.length - 1 : Nat) : Int) by omega]
theorem all34 (l : List Int) (u : Int) (h0 : 0 ≤ u) (h1 : u ≤ 1000000) : l.all (Fv.p34 u) = decide (∀ x ∈ l, 0 ≤ x ∧ x < u) := by
 have e : ∀ x, Fv.p34 u x = decide (0 ≤ x ∧ x < u) := by
  intro x
  unfold Fv.p34 Fv.inR
  rw [w64 (by omega) (by omega)]
  exact decide_eq_decide.2 (by omega)
 by_cases c : ∀ x ∈ l, 0 ≤ x ∧ x < u
 ·rw [decide_eq_true c]
  exact List.all_eq_true.2 fun x hx => by rw [e]; exact decide_eq_true (c x hx)
 ·rw [decide_eq_false c]
  rw [← Bool.not_eq_true]
  intro h
  exact c fun x hx => of_decide_eq_true (by rw [← e]; exact List.all_eq_true.1 h x hx)
theorem good_iff (l : List Int) (u : Int) : Good l u ↔ 0 ≤ u ∧ u ≤ 1000000 ∧ SortedL l ∧ ∀ x ∈ l, 0 ≤ x ∧ x < u := by
 constructor
 ·rintro ⟨h0, h1, h⟩
  refine ⟨h0, h1, fun j hj h0 => (h j hj).2.2 h0, fun x hx => ?_⟩
  obtain ⟨j, hj, rfl⟩ := List.getElem_of_mem hx
  have := h j hj
  unfold okAt at this
  rw [lget_lt _ _ _ hj] at this
  exact ⟨this.1, this.2.1⟩
 ·rintro ⟨h0, h1, hs, h⟩
  refine ⟨h0, h1, fun j hj => ⟨?_, ?_, fun h0 => hs j hj h0⟩⟩
  ·rw [lget_lt _ _ _ hj]; exact (h _ (List.getElem_mem hj)).1
  ·rw [lget_lt _ _ _ hj]; exact (h _ (List.getElem_mem hj)).2
theorem implS_end (l : List Int) (u w : Nat) (low : List Int) (hu : u ≤ 1000000) (hw : w ≤ 19) (hin : InW w low) (hlow : low.length = l.length) (m : Nat) : ∀ (c : Nat) (high : List Int), high.length = l.length + c → c + m = u / 2 ^ w + 1 → l.length + u / 2 ^ w + 1 ≤ 5000 → (∀ y ∈ high, y = 0 ∨ y = 1) →
  Ev (fun k => impl_SparseOf.l2 k l (w : Int) low high (u : Int)) (fin (u : Int) (l.length : Int) w low (high ++ List.replicate m 0)) := by
 induction m with
 | zero =>
  intro c high hh hc h5 h01
  rw [List.replicate_zero, List.append_nil]
  obtain ⟨K1, k1⟩ := ev_out (implPackOf_ev w low hin (by omega) (by omega))
  obtain ⟨K2, k2⟩ := ev_out (implBitsOf_ev high (mem_get01 h01) (by omega))
  refine ev_mk (K1 + K2 + 1) fun k hk => ?_
  obtain ⟨k, rfl⟩ : ∃ m, k = m + 1 := ⟨k - 1, by omega⟩
  rw [impl_SparseOf.l2, if_pos (by omega), shrN u w (by omega)]
  generalize u / 2 ^ w = U at hc h5
  rw [w64 (by omega) (by omega), if_neg (by omega), k1 k (by omega), Option.bind_some]
  unfold fin
  by_cases c : (packR w low).2.2.2.2 = true
  ·rw [if_pos c, if_pos c, k2 k (by omega), Option.bind_some]
  ·rw [if_neg c, if_neg c]; rfl
 | succ m ih =>
  intro c high hh hc h5 h01
  rw [List.replicate_succ, List.append_cons]
  refine Ev.step (fun k => ?_) (ih (c + 1) (high ++ [0]) (by rw [List.length_append]; simp; omega) (by omega) h5 (fun y hy => by
   rcases List.mem_append.1 hy with e | e
   ·exact h01 y e
   ·rw [List.mem_singleton] at e; exact .inl e))
  rw [impl_SparseOf.l2, if_pos (by omega), shrN u w (by omega)]
  generalize u / 2 ^ w = U at hc h5
  rw [w64 (by omega) (by omega), if_pos (by omega), Option.bind_some, if_pos (by simp; omega)]
theorem implS_l1 (l : List Int) (u w : Nat) (low : List Int) (hw : w ≤ 19) (i x : Nat) (hx : x ≤ 1000000) (hi : i ≤ 5000) (hlow : low.length = i) (r : Int × Int × Int × Int × Int × List Int × Int × List Int × Bool) (m : Nat) : ∀ (c : Nat) (high : List Int), high.length = i + c → c + m = x / 2 ^ w → high.length + m ≤ 5000 →
  Ev (fun k => impl_SparseOf.l0 k l (w : Int) (low ++ [((x % 2 ^ w : Nat) : Int)]) (high ++ (List.replicate m 0 ++ [1])) l (l.length : Int) ((i + 1 : Nat) : Int) (u : Int)) r →
  Ev (fun k => impl_SparseOf.l1 k l (w : Int) low high (x : Int) l (l.length : Int) (i : Int) (u : Int)) r := by
 induction m with
 | zero =>
  intro c high hh hc h5 hk
  rw [List.replicate_zero, List.nil_append] at hk
  refine Ev.step (fun k => ?_) hk
  rw [impl_SparseOf.l1, if_pos (by omega), shrN x w (by omega), andmask x w (by omega) hx]
  generalize x / 2 ^ w = q at hc
  rw [w64 (by omega) (by omega), if_neg (by omega), Option.bind_some, if_pos (by simp; omega), Option.bind_some, if_pos (by simp; omega), w64 (by omega) (by omega)]
  rfl
 | succ m ih =>
  intro c high hh hc h5 hk
  rw [List.replicate_succ, List.cons_append, List.append_cons high 0] at hk
  refine Ev.step (fun k => ?_) (ih (c + 1) (high ++ [0]) (by rw [List.length_append]; simp; omega) (by omega) (by rw [List.length_append]; simp; omega) hk)
  rw [impl_SparseOf.l1, if_pos (by omega), shrN x w (by omega)]
  generalize x / 2 ^ w = q at hc
  rw [w64 (by omega) (by omega), if_pos (by omega), Option.bind_some, if_pos (by simp; omega)]
theorem implS_l0 (l : List Int) (u w : Nat) (hu : u ≤ 1000000) (hw : w ≤ 19) (g : Good l (u : Int)) (h5 : l.length + u / 2 ^ w + 1 ≤ 5000) (H : List Int) (hH : H.length ≤ 5000) (h01 : ∀ y ∈ H, y = 0 ∨ y = 1) (d : Nat) : ∀ (i c : Nat) (high : List Int), i + d = l.length → high.length = i + c → c ≤ u / 2 ^ w + 1 → Up3 (u / 2 ^ w) c ((quot w l).drop i) → high ++ hi (u / 2 ^ w) c ((quot w l).drop i) = H →
  Ev (fun k => impl_SparseOf.l0 k l (w : Int) (lowL w (l.take i)) high l (l.length : Int) (i : Int) (u : Int)) (fin (u : Int) (l.length : Int) w (lowL w l) H) := by
 induction d with
 | zero =>
  intro i c high h hh hc hup hH2
  obtain rfl : i = l.length := by omega
  rw [List.drop_eq_nil_of_le (by rw [quot_length]; omega), hi] at hH2
  rw [List.take_length]
  rw [← hH2]
  refine Ev.step (fun k => ?_) (implS_end l u w (lowL w l) hu hw (lowL_in w l) (lowL_length w l) (u / 2 ^ w + 1 - c) c high hh (by omega) h5 (fun y hy => h01 y (by rw [← hH2]; exact List.mem_append_left _ hy)))
  rw [impl_SparseOf.l0, if_neg (by omega)]
 | succ d ih =>
  intro i c high h hh hc hup hH2
  obtain ⟨o1, o2, o3⟩ := g.2.2 i (by omega)
  obtain ⟨x, hx⟩ := Int.eq_ofNat_of_zero_le o1
  rw [quot_drop w l i (by omega), hx, Int.toNat_natCast] at hup hH2
  obtain ⟨u1, u2, u3⟩ := hup
  rw [hi] at hH2
  have e1 : high ++ (List.replicate (x / 2 ^ w - c) 0 ++ 1 :: hi (u / 2 ^ w) (x / 2 ^ w) ((quot w l).drop (i + 1))) = high ++ (List.replicate (x / 2 ^ w - c) 0 ++ [1]) ++ hi (u / 2 ^ w) (x / 2 ^ w) ((quot w l).drop (i + 1)) := by simp
  rw [e1] at hH2
  have hlen : (high ++ (List.replicate (x / 2 ^ w - c) 0 ++ [1])).length ≤ 5000 := by
   have := congrArg List.length hH2
   rw [List.length_append] at this
   omega
  have hl2 : (high ++ (List.replicate (x / 2 ^ w - c) 0 ++ [1])).length = (i + 1) + x / 2 ^ w := by
   rw [List.length_append, List.length_append, List.length_replicate, List.length_singleton]; omega
  have hn := ih (i + 1) (x / 2 ^ w) _ (by omega) hl2 (by omega) u3 hH2
  rw [lowL_take w l i (by omega), hx, Int.toNat_natCast] at hn
  refine Ev.step (fun k => ?_) (implS_l1 l u w (lowL w (l.take i)) hw i x (by omega) (by omega) (by rw [lowL_length, List.length_take]; omega) _ (x / 2 ^ w - c) c high hh (by omega) (by rw [List.length_append, List.length_append, List.length_replicate] at hlen; omega) hn)
  rw [impl_SparseOf.l0, if_pos (by omega), if_pos (by omega), if_pos (by omega), rd_nat, hx]
theorem implSparse_ev (l : List Int) (u : Int) (h5 : l.length ≤ 5000) : Ev (fun k => impl_SparseOf.f k l u) (sparseR l u) := by
 have bad : ¬ Good l u → Ev (fun k => impl_SparseOf.j0 k l true u) (sparseR l u) := fun h => by
  refine Ev.step (f := fun _ => some _) (fun k => ?_) (Ev.now _)
  rw [impl_SparseOf.j0, if_pos rfl]
  unfold sparseR
  rw [if_neg h]
  rfl
 by_cases c0 : 0 ≤ u
 case neg =>
  obtain ⟨K, hK⟩ := ev_out (bad fun h => c0 h.1)
  refine ev_mk K fun k hk => ?_
  unfold impl_SparseOf.f impl_within.f
  rw [if_neg c0, Option.bind_some, if_neg (by decide)]
  exact hK k hk
 by_cases c1 : u ≤ 1000000
 case neg =>
  obtain ⟨K, hK⟩ := ev_out (bad fun h => c1 h.2.1)
  refine ev_mk K fun k hk => ?_
  unfold impl_SparseOf.f impl_within.f
  rw [if_pos c0, Option.bind_some, if_neg (by rw [decide_eq_false c1]; decide)]
  exact hK k hk
 obtain ⟨K1, k1⟩ := ev_out (sorted_ev l (by omega))
 by_cases c2 : SortedL l
 case neg =>
  obtain ⟨K, hK⟩ := ev_out (bad fun h => c2 ((good_iff l u).1 h).2.2.1)
  refine ev_mk (K + K1) fun k hk => ?_
  unfold impl_SparseOf.f impl_within.f
  rw [if_pos c0, Option.bind_some, if_pos (decide_eq_true c1), k1 k (by omega), Option.bind_some, if_neg (by rw [decide_eq_false c2]; decide)]
  exact hK k (by omega)
 by_cases c3 : ∀ x ∈ l, 0 ≤ x ∧ x < u
 case neg =>
  obtain ⟨K, hK⟩ := ev_out (bad fun h => c3 ((good_iff l u).1 h).2.2.2)
  refine ev_mk (K + K1) fun k hk => ?_
  unfold impl_SparseOf.f impl_within.f impl_areAll_34.f
  rw [if_pos c0, Option.bind_some, if_pos (decide_eq_true c1), k1 k (by omega), Option.bind_some, if_pos (decide_eq_true c2), if_pos ⟨by unfold maxLen; omega, rfl⟩, Option.bind_some, all34 l u c0 c1, decide_eq_false c3]
  exact hK k (by omega)
 have g : Good l u := (good_iff l u).2 ⟨c0, c1, c2, c3⟩
 obtain ⟨u, rfl⟩ := Int.eq_ofNat_of_zero_le c0
 have hu : u ≤ 1000000 := by omega
 have hw := wid_le l.length u hu
 have hpre : ∀ k, K1 ≤ k → impl_SparseOf.f k l (u : Int) = impl_SparseOf.j0 k l false (u : Int) := fun k hk => by
  unfold impl_SparseOf.f impl_within.f impl_areAll_34.f
  rw [if_pos c0, Option.bind_some, if_pos (decide_eq_true c1), k1 k hk, Option.bind_some, if_pos (decide_eq_true c2), if_pos ⟨by unfold maxLen; omega, rfl⟩, Option.bind_some, all34 l _ c0 c1, decide_eq_true c3]
  rfl
 obtain ⟨K2, k2⟩ := ev_out (implLow_ev l.length u h5 hu)
 unfold sparseR
 rw [if_pos g, Int.toNat_natCast]
 have hd : u / 2 ^ wid l.length u ≤ u := Nat.div_le_self _ _
 by_cases c4 : l.length + u / 2 ^ wid l.length u + 1 ≤ 5000
 ·rw [if_pos c4]
  have hup := good_up g (wid l.length u) l.length 0 0 (by omega) (fun _ => Nat.zero_le _)
  rw [Int.toNat_natCast] at hup
  have hlen := hi_length (u / 2 ^ wid l.length u) _ 0 hup (Nat.zero_le _)
  rw [List.drop_zero] at hlen hup
  rw [quot_length] at hlen
  have he : hiOf l (u : Int) (wid l.length u) = hi (u / 2 ^ wid l.length u) 0 (quot (wid l.length u) l) := by unfold hiOf; rw [Int.toNat_natCast]
  obtain ⟨K3, k3⟩ := ev_out (implS_l0 l u (wid l.length u) hu hw g c4 (hiOf l (u : Int) (wid l.length u)) (by rw [he, hlen, Nat.sub_zero, ← Nat.add_assoc]; exact c4) (by rw [he]; exact hi_01 _ _ _) l.length 0 0 [] (by omega) (by simp) (Nat.zero_le _) (by rw [List.drop_zero]; exact hup) (by rw [List.drop_zero, List.nil_append, he]))
  refine ev_mk (K1 + K2 + K3 + 1) fun k hk => ?_
  rw [hpre k (by omega)]
  obtain ⟨k, rfl⟩ : ∃ m, k = m + 1 := ⟨k - 1, by omega⟩
  rw [impl_SparseOf.j0, if_neg (by decide), k2 k (by omega), Option.bind_some, if_pos (by omega), shrN u _ (by omega)]
  generalize hU : u / 2 ^ wid l.length u = U at c4 hd
  rw [w64 (x := (l.length : Int) + (U : Int)) (by omega) (by omega), w64 (by omega) (by omega), if_neg (by omega)]
  exact k3 k (by omega)
 ·rw [if_neg c4]
  refine ev_mk (K1 + K2 + 1) fun k hk => ?_
  rw [hpre k (by omega)]
  obtain ⟨k, rfl⟩ : ∃ m, k = m + 1 := ⟨k - 1, by omega⟩
  rw [impl_SparseOf.j0, if_neg (by decide), k2 k (by omega), Option.bind_some, if_pos (by omega), shrN u _ (by omega)]
  generalize hU : u / 2 ^ wid l.length u = U at c4 hd
  rw [w64 (x := (l.length : Int) + (U : Int)) (by omega) (by omega), w64 (by omega) (by omega), if_pos (by omega)]
  rfl
theorem specBits_big (l : List Int) (h5 : 5000 < l.length) : Ev (fun k => spec_BitsOf.f k l) (0, [], false) := by
 refine ev_mk 0 fun k _ => ?_
 unfold spec_BitsOf.f
 rw [if_pos (by omega)]
theorem specS_chk (l : List Int) (u : Int) (h0 : 0 ≤ u) (h1 : u ≤ 1000000) (h5 : l.length ≤ 5000) (r : Int × Int × Int × Int × Int × List Int × Int × List Int × Bool)
  (hk : Good l u → Ev (fun k => (spec_l03Width.f k (l.length : Int) u).bind fun t331 => ((spec_l02Pow.f k t331).bind fun t332 => (spec_SparseOf.l1 k l u t332 ([] : List Int) ([] : List Int) 0 0))) r) (hz : ¬ Good l u → r = Zr) (d : Nat) : ∀ i : Nat, i + d = l.length → (∀ j, j < i → okAt l u j) → Ev (fun k => spec_SparseOf.l0 k l u (i : Int)) r := by
 induction d with
 | zero =>
  intro i h hi
  refine Ev.step (fun k => ?_) (hk ⟨h0, h1, fun j hj => hi j (by omega)⟩)
  rw [spec_SparseOf.l0, if_neg (by omega)]
 | succ d ih =>
  intro i h hi
  have bad : ¬ okAt l u i → ∀ k, spec_SparseOf.j2 (k + 1) l u (i : Int) true = some r := fun hb k => by
   rw [spec_SparseOf.j2, if_pos rfl, hz (fun g => hb (g.2.2 i (by omega)))]
   rfl
  by_cases c0 : l.getD i 0 < 0
  ·refine ev_mk 2 fun k hk => ?_
   obtain ⟨k, rfl⟩ : ∃ m, k = m + 2 := ⟨k - 2, by omega⟩
   rw [spec_SparseOf.l0, if_pos (by omega), if_pos (by omega), rd_nat, if_pos c0]
   exact bad (fun o => by have := o.1; omega) k
  by_cases c1 : l.getD i 0 ≥ u
  ·refine ev_mk 2 fun k hk => ?_
   obtain ⟨k, rfl⟩ : ∃ m, k = m + 2 := ⟨k - 2, by omega⟩
   rw [spec_SparseOf.l0, if_pos (by omega), if_pos (by omega), rd_nat, if_neg c0, if_pos c1]
   exact bad (fun o => by have := o.2.1; omega) k
  by_cases c2 : 0 < i
  ·have e : wrap64 ((i : Int) - 1) = ((i - 1 : Nat) : Int) := by rw [w64 (by omega) (by omega)]; omega
   by_cases c3 : l.getD (i - 1) 0 > l.getD i 0
   ·refine ev_mk 2 fun k hk => ?_
    obtain ⟨k, rfl⟩ : ∃ m, k = m + 2 := ⟨k - 2, by omega⟩
    rw [spec_SparseOf.l0, if_pos (by omega), if_pos (by omega), rd_nat, if_neg c0, if_neg c1, if_pos (by omega), e, if_pos (by omega), if_pos (by omega), rd_nat, decide_eq_true c3]
    exact bad (fun o => by have := o.2.2 c2; omega) k
   ·obtain ⟨K, hK⟩ := ev_out (ih (i + 1) (by omega) (fun j hj => by
     by_cases ej : j = i
     ·subst ej; exact ⟨by omega, by omega, fun _ => by omega⟩
     ·exact hi j (by omega)))
    refine ev_mk (K + 2) fun k hk => ?_
    obtain ⟨k, rfl⟩ : ∃ m, k = m + 2 := ⟨k - 2, by omega⟩
    rw [spec_SparseOf.l0, if_pos (by omega), if_pos (by omega), rd_nat, if_neg c0, if_neg c1, if_pos (by omega), e, if_pos (by omega), if_pos (by omega), rd_nat, decide_eq_false c3, spec_SparseOf.j2, if_neg (by decide), w64 (by omega) (by omega)]
    exact hK k (by omega)
  ·obtain ⟨K, hK⟩ := ev_out (ih (i + 1) (by omega) (fun j hj => by
    by_cases ej : j = i
    ·subst ej; exact ⟨by omega, by omega, fun _ => by omega⟩
    ·exact hi j (by omega)))
   refine ev_mk (K + 2) fun k hk => ?_
   obtain ⟨k, rfl⟩ : ∃ m, k = m + 2 := ⟨k - 2, by omega⟩
   rw [spec_SparseOf.l0, if_pos (by omega), if_pos (by omega), rd_nat, if_neg c0, if_neg c1, if_neg (by omega), spec_SparseOf.j2, if_neg (by decide), w64 (by omega) (by omega)]
   exact hK k (by omega)
theorem specS_fin (l : List Int) (u : Nat) (hu : u ≤ 1000000) (h5 : l.length ≤ 5000) (low high : List Int) (hin : InW (wid l.length u) low) (hlow : low.length ≤ 5000) (h01 : ∀ y ∈ high, y = 0 ∨ y = 1) (sz a q : Int) :
  Ev (fun k => spec_SparseOf.j4 k l (u : Int) sz low high a q false) (if high.length ≤ 5000 then fin (u : Int) (l.length : Int) (wid l.length u) low high else Zr) := by
 have hw := wid_le l.length u hu
 obtain ⟨K1, k1⟩ := ev_out (specW03_ev l.length u h5 hu)
 obtain ⟨K2, k2⟩ := ev_out (specPackOf_ev (wid l.length u) low hin (by omega) hlow)
 by_cases c : high.length ≤ 5000
 ·rw [if_pos c]
  obtain ⟨K3, k3⟩ := ev_out (specBitsOf_ev high (mem_get01 h01) c)
  refine ev_mk (K1 + K2 + K3 + 1) fun k hk => ?_
  obtain ⟨k, rfl⟩ : ∃ m, k = m + 1 := ⟨k - 1, by omega⟩
  rw [spec_SparseOf.j4, if_neg (by decide), k1 k (by omega), Option.bind_some, k2 k (by omega), Option.bind_some, k3 k (by omega), Option.bind_some]
  unfold fin
  by_cases c2 : (packR (wid l.length u) low).2.2.2.2 = true
  ·rw [if_pos c2, if_pos c2, if_pos rfl]
  ·rw [if_neg c2, if_neg c2]; rfl
 ·rw [if_neg c]
  obtain ⟨K3, k3⟩ := ev_out (specBits_big high (by omega))
  refine ev_mk (K1 + K2 + K3 + 1) fun k hk => ?_
  obtain ⟨k, rfl⟩ : ∃ m, k = m + 1 := ⟨k - 1, by omega⟩
  rw [spec_SparseOf.j4, if_neg (by decide), k1 k (by omega), Option.bind_some, k2 k (by omega), Option.bind_some, k3 k (by omega), Option.bind_some]
  by_cases c2 : (packR (wid l.length u) low).2.2.2.2 = true
  ·rw [if_pos c2, if_neg (by decide)]; rfl
  ·rw [if_neg c2]; rfl
theorem specS_loop (l : List Int) (u : Nat) (hu : u ≤ 1000000) (h5 : l.length ≤ 5000) (g : Good l (u : Int)) (w U : Nat) (hw : w = wid l.length u) (hU : u / 2 ^ w = U) (hU1 : U ≤ 1000000) (H : List Int) (hH : H.length ≤ 2000000) (h01 : ∀ y ∈ H, y = 0 ∨ y = 1) (d : Nat) :
  ∀ (i c : Nat) (high : List Int), i ≤ l.length → c ≤ U → (l.length - i) + (U + 1 - c) = d → Up3 U c ((quot w l).drop i) → high ++ hi U c ((quot w l).drop i) = H →
  Ev (fun k => spec_SparseOf.l2 k l (u : Int) ((2 ^ w : Nat) : Int) (lowL w (l.take i)) high (i : Int) (c : Int)) (if H.length ≤ 5000 then fin (u : Int) (l.length : Int) w (lowL w l) H else Zr) := by
 have hw19 := wid_le l.length u hu
 rw [← hw] at hw19
 have hpos := Nat.two_pow_pos w
 have hfin : ∀ (i : Nat) (high : List Int), (∀ y ∈ high, y = 0 ∨ y = 1) → ∀ a q : Int, Ev (fun k => spec_SparseOf.j4 k l (u : Int) ((2 ^ w : Nat) : Int) (lowL w (l.take i)) high a q false) (if high.length ≤ 5000 then fin (u : Int) (l.length : Int) w (lowL w (l.take i)) high else Zr) := by
  intro i high h01 a q
  have h := specS_fin l u hu h5 (lowL w (l.take i)) high (by rw [← hw]; exact lowL_in w _) (by rw [lowL_length, List.length_take]; omega) h01 ((2 ^ w : Nat) : Int) a q
  rw [← hw] at h
  exact h
 have htd : Int.tdiv (u : Int) ((2 ^ w : Nat) : Int) = (U : Int) := by rw [← hU]; rfl
 induction d with
 | zero => intro i c high hi hc hd; omega
 | succ d ih =>
  have A : ∀ (i c : Nat) (high : List Int), i ≤ l.length → c ≤ U + 1 → (l.length - i) + (U + 1 - c) = d → Up3 U c ((quot w l).drop i) → high ++ hi U c ((quot w l).drop i) = H →
    Ev (fun k => spec_SparseOf.l1 k l (u : Int) ((2 ^ w : Nat) : Int) (lowL w (l.take i)) high (i : Int) (c : Int)) (if H.length ≤ 5000 then fin (u : Int) (l.length : Int) w (lowL w l) H else Zr) := by
   intro i c high hil hc hd hup hH2
   have hh01 : ∀ y ∈ high, y = 0 ∨ y = 1 := fun y hy => h01 y (by rw [← hH2]; exact List.mem_append_left _ hy)
   have hlen : high.length ≤ H.length := by rw [← hH2, List.length_append]; omega
   by_cases c0 : c ≤ U
   ·by_cases c1 : high.length ≤ 5000
    ·obtain ⟨K, hK⟩ := ev_out (ih i c high hil c0 hd hup hH2)
     refine ev_mk (K + 2) fun k hk => ?_
     obtain ⟨k, rfl⟩ : ∃ m, k = m + 2 := ⟨k - 2, by omega⟩
     rw [spec_SparseOf.l1, if_neg (by omega), htd, w64 (by omega) (by omega), if_pos (by omega), decide_eq_true (by omega), spec_SparseOf.j4, if_pos rfl]
     exact hK k (by omega)
    ·have h := hfin i high hh01 (i : Int) (c : Int)
     rw [if_neg c1] at h
     rw [if_neg (by omega)]
     refine Ev.step (fun k => ?_) h
     rw [spec_SparseOf.l1, if_neg (by omega), htd, w64 (by omega) (by omega), if_pos (by omega), decide_eq_false (by omega)]
   ·have hnil : (quot w l).drop i = [] := by
     cases hq : (quot w l).drop i with
     | nil => rfl
     | cons q qs => rw [hq] at hup; have := hup.1; have := hup.2.1; omega
    have hi2 : i = l.length := by
     have := List.drop_eq_nil_iff.1 hnil
     rw [quot_length] at this
     omega
    rw [hnil, show c = U + 1 by omega, hi, Nat.sub_self, List.replicate_zero, List.append_nil] at hH2
    have h := hfin i high hh01 (i : Int) (c : Int)
    rw [hi2, List.take_length, hH2] at h
    rw [hi2, List.take_length, hH2]
    refine Ev.step (fun k => ?_) h
    rw [spec_SparseOf.l1, if_neg (by omega), htd, w64 (by omega) (by omega), if_neg (by omega)]
  intro i c high hi hc hd hup hH2
  have hlen : high.length ≤ H.length := by rw [← hH2, List.length_append]; omega
  have hll : (lowL w (l.take i)).length ≤ 5000 := by rw [lowL_length, List.length_take]; omega
  by_cases c0 : i < l.length
  ·obtain ⟨o1, o2, o3⟩ := g.2.2 i c0
   obtain ⟨x, hx⟩ := Int.eq_ofNat_of_zero_le o1
   rw [quot_drop w l i c0, hx, Int.toNat_natCast] at hup hH2
   have e1 : Int.tdiv (x : Int) ((2 ^ w : Nat) : Int) = ((x / 2 ^ w : Nat) : Int) := rfl
   have e2 : Int.tmod (x : Int) ((2 ^ w : Nat) : Int) = ((x % 2 ^ w : Nat) : Int) := rfl
   have hxq : x / 2 ^ w ≤ x := Nat.div_le_self _ _
   obtain ⟨u1, u2, u3⟩ := hup
   by_cases c1 : x / 2 ^ w = c
   ·rw [c1, hi_one, List.append_cons] at hH2
    rw [c1] at u3
    have h := ih (i + 1) c (high ++ [1]) (by omega) hc (by omega) u3 hH2
    rw [lowL_take w l i c0, hx, Int.toNat_natCast] at h
    refine Ev.step (fun k => ?_) h
    rw [spec_SparseOf.l2, if_pos (by omega), if_pos (by omega), if_neg (by omega), rd_nat, hx, e1, e2, c1, w64 (x := (c : Int)) (by omega) (by omega), if_pos rfl, if_pos (by omega), if_pos (by omega), w64 (by omega) (by omega)]
    rfl
   ·have hlt : c < x / 2 ^ w := by omega
    rw [hi_zero U c _ _ hlt, List.append_cons] at hH2
    have h := A i (c + 1) (high ++ [0]) (by omega) (by omega) (by omega) (by rw [quot_drop w l i c0, hx, Int.toNat_natCast]; exact ⟨by omega, u2, u3⟩) (by rw [quot_drop w l i c0, hx, Int.toNat_natCast]; exact hH2)
    refine Ev.step (fun k => ?_) h
    rw [spec_SparseOf.l2, if_pos (by omega), if_pos (by omega), if_neg (by omega), rd_nat, hx, e1, w64 (x := ((x / 2 ^ w : Nat) : Int)) (by omega) (by omega), if_neg (by omega), if_pos (by omega), w64 (by omega) (by omega)]
    rfl
  ·have hnil : (quot w l).drop i = [] := List.drop_eq_nil_of_le (by rw [quot_length]; omega)
   rw [hnil, hi_end U c hc, List.append_cons] at hH2
   have h := A i (c + 1) (high ++ [0]) (by omega) (by omega) (by omega) (by rw [hnil]; trivial) (by rw [hnil]; exact hH2)
   refine Ev.step (fun k => ?_) h
   rw [spec_SparseOf.l2, if_neg (by omega), if_pos (by omega), w64 (by omega) (by omega)]
   rfl
theorem specSparse_ev (l : List Int) (u : Int) (h5 : l.length ≤ 5000) : Ev (fun k => spec_SparseOf.f k l u) (sparseR l u) := by
 have bad : ¬ Good l u → ∀ k, spec_SparseOf.j0 (k + 1) l u true = some (sparseR l u) := fun h k => by
  rw [spec_SparseOf.j0, if_pos rfl]
  unfold sparseR
  rw [if_neg h]
  rfl
 by_cases c0 : u < 0
 ·refine ev_mk 1 fun k hk => ?_
  obtain ⟨k, rfl⟩ : ∃ m, k = m + 1 := ⟨k - 1, by omega⟩
  unfold spec_SparseOf.f
  rw [if_pos c0]
  exact bad (fun g => by have := g.1; omega) k
 by_cases c1 : u > 1000000
 ·refine ev_mk 1 fun k hk => ?_
  obtain ⟨k, rfl⟩ : ∃ m, k = m + 1 := ⟨k - 1, by omega⟩
  unfold spec_SparseOf.f
  rw [if_neg c0, if_pos c1]
  exact bad (fun g => by have := g.2.1; omega) k
 have hz : ¬ Good l u → sparseR l u = Zr := fun h => by unfold sparseR; rw [if_neg h]
 obtain ⟨u, rfl⟩ := Int.eq_ofNat_of_zero_le (show 0 ≤ u by omega)
 have hu : u ≤ 1000000 := by omega
 have hw := wid_le l.length u hu
 have hk : Good l (u : Int) → Ev (fun k => (spec_l03Width.f k (l.length : Int) (u : Int)).bind fun t331 => ((spec_l02Pow.f k t331).bind fun t332 => (spec_SparseOf.l1 k l (u : Int) t332 ([] : List Int) ([] : List Int) 0 0))) (sparseR l (u : Int)) := by
  intro g
  obtain ⟨w, hwe⟩ : ∃ w, w = wid l.length u := ⟨_, rfl⟩
  obtain ⟨U, hU⟩ : ∃ U, u / 2 ^ w = U := ⟨_, rfl⟩
  have hU1 : U ≤ u := by rw [← hU]; exact Nat.div_le_self _ _
  have hup := good_up g w l.length 0 0 (by omega) (fun _ => Nat.zero_le _)
  rw [Int.toNat_natCast, hU] at hup
  have hlen := hi_length U _ 0 hup (Nat.zero_le _)
  rw [List.drop_zero, quot_length] at hlen
  have he : hiOf l (u : Int) w = hi U 0 (quot w l) := by unfold hiOf; rw [Int.toNat_natCast, hU]
  have hR : sparseR l (u : Int) = if (hi U 0 (quot w l)).length ≤ 5000 then fin (u : Int) (l.length : Int) w (lowL w l) (hi U 0 (quot w l)) else Zr := by
   unfold sparseR
   rw [if_pos g, Int.toNat_natCast, ← hwe, hU, he, hlen]
   by_cases c : l.length + U + 1 ≤ 5000
   ·rw [if_pos c, if_pos (by omega)]
   ·rw [if_neg c, if_neg (by omega)]
  rw [hR]
  have hl1 : Ev (fun k => spec_SparseOf.l1 k l (u : Int) ((2 ^ w : Nat) : Int) ([] : List Int) ([] : List Int) 0 0) (if (hi U 0 (quot w l)).length ≤ 5000 then fin (u : Int) (l.length : Int) w (lowL w l) (hi U 0 (quot w l)) else Zr) := by
   obtain ⟨K, hK⟩ := ev_out (specS_loop l u hu h5 g w U hwe hU (by omega) (hi U 0 (quot w l)) (by omega) (hi_01 _ _ _) _ 0 0 [] (by omega) (Nat.zero_le _) rfl (by rw [List.drop_zero] at hup ⊢; exact hup) (by rw [List.drop_zero, List.nil_append]))
   have hpos := Nat.two_pow_pos w
   have htd : Int.tdiv (u : Int) ((2 ^ w : Nat) : Int) = (U : Int) := by rw [← hU]; rfl
   refine ev_mk (K + 2) fun k hk => ?_
   obtain ⟨k, rfl⟩ : ∃ m, k = m + 2 := ⟨k - 2, by omega⟩
   rw [spec_SparseOf.l1, if_neg (by omega), htd, w64 (by omega) (by omega), if_pos (by omega), decide_eq_true (by simp), spec_SparseOf.j4, if_pos rfl]
   exact hK k (by omega)
  obtain ⟨K1, k1⟩ := ev_out (specW03_ev l.length u h5 hu)
  obtain ⟨K2, k2⟩ := ev_out (pow02_ev w (by omega))
  obtain ⟨K3, k3⟩ := ev_out hl1
  refine ev_mk (K1 + K2 + K3) fun k hk => ?_
  rw [k1 k (by omega), Option.bind_some, ← hwe, k2 k (by omega), Option.bind_some]
  exact k3 k (by omega)
 obtain ⟨K, hK⟩ := ev_out (specS_chk l (u : Int) (by omega) (by omega) h5 _ hk hz l.length 0 (by omega) (fun j hj => by omega))
 refine ev_mk (K + 1) fun k hk => ?_
 obtain ⟨k, rfl⟩ : ∃ m, k = m + 1 := ⟨k - 1, by omega⟩
 unfold spec_SparseOf.f
 rw [if_neg c0, if_neg c1, decide_eq_false (by omega), spec_SparseOf.j0, if_neg (by decide)]
 exact hK k (by omega)
theorem or_two (a b : Nat) (ha : a < 4294967296) (hb : b < 2) : Go.bits .or .i64 (((2 * a : Nat)) : Int) (b : Int) = ((2 * a + b : Nat) : Int) := by
 have o : ∀ a : Nat, a < 18446744073709551616 → (BitVec.ofInt 64 (a : Int)).toNat = a := fun a h => by rw [BitVec.ofInt_natCast, BitVec.toNat_ofNat]; exact Nat.mod_eq_of_lt (by omega)
 have h := Nat.shiftLeft_add_eq_or_of_lt (b := b) (i := 1) (by omega) a
 rw [Nat.shiftLeft_eq, Nat.pow_one, Nat.mul_comm a 2] at h
 show IntKind.i64.wrap ((BitVec.ofInt 64 ((2 * a : Nat) : Int) ||| BitVec.ofInt 64 (b : Int)).toNat : Int) = _
 rw [BitVec.toNat_or, o _ (by omega), o _ (by omega), ← h, i64_w, w64 (by omega) (by omega)]
def val : List Int → Nat
 | [] => 0
 | b :: bs => b.toNat + 2 * val bs
theorem val_lt (bs : List Int) (h : ∀ y ∈ bs, y = 0 ∨ y = 1) : val bs < 2 ^ bs.length := by
 induction bs with
 | nil => rw [val, List.length_nil, Nat.pow_zero]; omega
 | cons b bs ih =>
  have hi := ih fun y hy => h y (List.mem_cons_of_mem _ hy)
  rw [val, List.length_cons, Nat.pow_succ]
  rcases h b (List.mem_cons_self ..) with e | e <;> subst e
  ·show 0 + 2 * val bs < _; omega
  ·show 1 + 2 * val bs < _; omega
theorem val_digs (w : Nat) : ∀ x, x < 2 ^ w → val (digs w x) = x := by
 induction w with
 | zero => intro x h; rw [Nat.pow_zero] at h; rw [digs, val]; omega
 | succ w ih =>
  intro x h
  rw [Nat.pow_succ] at h
  rw [digs, val, ih (x / 2) (by omega), Int.toNat_natCast]
  omega
def valAt (bs : List Int) (w i : Nat) : Nat := val ((bs.drop (i * w)).take w)
def valL (bs : List Int) (w n : Nat) : List Int := (List.range n).map fun i => ((valAt bs w i : Nat) : Int)
theorem valL_length (bs : List Int) (w n : Nat) : (valL bs w n).length = n := by unfold valL; rw [List.length_map, List.length_range]
theorem valL_succ (bs : List Int) (w n : Nat) : valL bs w (n + 1) = valL bs w n ++ [((valAt bs w n : Nat) : Int)] := by unfold valL; rw [List.range_succ, List.map_append]; rfl
theorem take_drop_cons (l : List Int) (i m : Nat) (h : i < l.length) : (l.drop i).take (m + 1) = l.getD i 0 :: (l.drop (i + 1)).take m := by
 rw [List.drop_eq_getElem_cons h, List.take_succ_cons, lget_lt _ _ _ h]
theorem valAt_lt (bs : List Int) (h : ∀ y ∈ bs, y = 0 ∨ y = 1) (w i : Nat) : valAt bs w i < 2 ^ w := by
 have h1 := val_lt ((bs.drop (i * w)).take w) (fun y hy => h y (List.mem_of_mem_drop (List.mem_of_mem_take hy)))
 have h2 : ((bs.drop (i * w)).take w).length ≤ w := by rw [List.length_take]; omega
 exact Nat.lt_of_lt_of_le h1 (p2 _ _ h2)
theorem valL_in (bs : List Int) (h : ∀ y ∈ bs, y = 0 ∨ y = 1) (w n : Nat) : InW w (valL bs w n) := by
 intro x hx
 obtain ⟨i, _, rfl⟩ := List.mem_map.1 hx
 have := valAt_lt bs h w i
 constructor <;> omega
def packOkB (w n m : Int) (ws : List Int) : Bool := decide (0 ≤ w ∧ w ≤ 32 ∧ 0 ≤ n ∧ n ≤ 5000 ∧ okB m ws = true ∧ m = n * w)
theorem implPackOk_ev (w n m : Int) (ws : List Int) (hw : Words ws) (hl : ws.length ≤ 4000000) (hm : -9223372036854775808 ≤ m) : impl_PackOk.f w n m ws = some (packOkB w n m ws) := by
 unfold impl_PackOk.f impl_within.f packOkB
 by_cases c0 : 0 ≤ w
 case neg => rw [if_neg c0, Option.bind_some, if_neg (by decide), decide_eq_false (fun h => c0 h.1)]
 by_cases c1 : w ≤ 32
 case neg => rw [if_pos c0, Option.bind_some, if_neg (by rw [decide_eq_false c1]; decide), decide_eq_false (fun h => c1 h.2.1)]
 by_cases c2 : 0 ≤ n
 case neg => rw [if_pos c0, Option.bind_some, if_pos (decide_eq_true c1), if_neg c2, Option.bind_some, if_neg (by decide), decide_eq_false (fun h => c2 h.2.2.1)]
 by_cases c3 : n ≤ 5000
 case neg => rw [if_pos c0, Option.bind_some, if_pos (decide_eq_true c1), if_pos c2, Option.bind_some, if_neg (by rw [decide_eq_false c3]; decide), decide_eq_false (fun h => c3 h.2.2.2.1)]
 rw [if_pos c0, Option.bind_some, if_pos (decide_eq_true c1), if_pos c2, Option.bind_some, if_pos (decide_eq_true c3), implBitsOk_ev m ws hw hl hm, Option.bind_some]
 by_cases c4 : okB m ws = true
 case neg => rw [if_neg c4, decide_eq_false (fun h => c4 h.2.2.2.2.1)]
 rw [if_pos c4]
 obtain ⟨w, rfl⟩ := Int.eq_ofNat_of_zero_le c0
 obtain ⟨n, rfl⟩ := Int.eq_ofNat_of_zero_le c2
 have e : (n : Int) * (w : Int) = ((n * w : Nat) : Int) := by simp
 have hb : n * w ≤ 5000 * 32 := Nat.mul_le_mul (by omega) (by omega)
 rw [e]
 generalize n * w = q at hb
 rw [w64 (by omega) (by omega)]
 congr 1
 rw [Bool.eq_iff_iff, beq_iff_eq, decide_eq_true_eq]
 exact ⟨fun h => ⟨c0, c1, c2, c3, c4, h⟩, fun h => h.2.2.2.2.2⟩
theorem okB_out {n : Int} {ws : List Int} (h : okB n ws = true) : 0 ≤ n ∧ n ≤ 5000 ∧ ws.length = (n.toNat + 63) / 64 ∧ wordsOf (bitsL n.toNat ws) = ws := by
 unfold okB at h
 exact of_decide_eq_true h
theorem packOk_out {w n m : Int} {ws : List Int} (h : packOkB w n m ws = true) : ∃ w' n' : Nat, w = (w' : Int) ∧ n = (n' : Int) ∧ m = ((n' * w' : Nat) : Int) ∧ w' ≤ 32 ∧ n' ≤ 5000 ∧ n' * w' ≤ 5000 ∧ ws.length = (n' * w' + 63) / 64 := by
 unfold packOkB at h
 obtain ⟨h1, h2, h3, h4, h5, h6⟩ := of_decide_eq_true h
 obtain ⟨w', rfl⟩ := Int.eq_ofNat_of_zero_le h1
 obtain ⟨n', rfl⟩ := Int.eq_ofNat_of_zero_le h3
 obtain ⟨p1, p2, p3, _⟩ := okB_out h5
 have e : (n' : Int) * (w' : Int) = ((n' * w' : Nat) : Int) := by simp
 rw [e] at h6
 subst h6
 rw [Int.toNat_natCast] at p3
 exact ⟨w', n', rfl, rfl, rfl, by omega, by omega, by omega, p3⟩
theorem slice_step (bs : List Int) (w i k : Nat) (h : (i + 1) * w ≤ bs.length) (hk : k < w) : (bs.drop (i * w + k)).take (w - k) = bs.getD (i * w + k) 0 :: (bs.drop (i * w + (k + 1))).take (w - (k + 1)) := by
 have e : (i + 1) * w = i * w + w := Nat.succ_mul i w
 rw [show w - k = (w - (k + 1)) + 1 by omega, take_drop_cons bs (i * w + k) _ (by omega)]
 rfl
def slc (bs : List Int) (w i k : Nat) : List Int := (bs.drop (i * w + k)).take (w - k)
theorem slc_step (bs : List Int) (w i k : Nat) (h : (i + 1) * w ≤ bs.length) (hk : k < w) : slc bs w i k = bs.getD (i * w + k) 0 :: slc bs w i (k + 1) := slice_step bs w i k h hk
theorem slc_lt (bs : List Int) (h : ∀ y ∈ bs, y = 0 ∨ y = 1) (w i k : Nat) (hw : w ≤ 32) : val (slc bs w i k) < 4294967296 ∧ (0 < k → val (slc bs w i k) < 2147483648) := by
 have h1 := val_lt (slc bs w i k) (fun y hy => h y (List.mem_of_mem_drop (List.mem_of_mem_take hy)))
 have h2 : (slc bs w i k).length ≤ w - k := by unfold slc; rw [List.length_take]; omega
 have h3 := p2 _ _ h2
 have h4 := p2 (w - k) 32 (by omega)
 refine ⟨by omega, fun h0 => ?_⟩
 have h5 := p2 (w - k) 31 (by omega)
 omega
theorem slc_zero (bs : List Int) (w i : Nat) : val (slc bs w i 0) = valAt bs w i := rfl
theorem slc_end (bs : List Int) (w i : Nat) : val (slc bs w i w) = 0 := by unfold slc; rw [Nat.sub_self, List.take_zero]; rfl
theorem bits_mem (n : Nat) (ws : List Int) : ∀ y ∈ bitsL n ws, y = 0 ∨ y = 1 := bitsL_01 n ws
theorem idx_w (i w k n : Nat) (hi : i < n) (hk : k < w) : i * w + k < n * w := by
 have : (i + 1) * w ≤ n * w := Nat.mul_le_mul_right w hi
 rw [Nat.succ_mul] at this
 omega
theorem implAt_l0 (w n i : Nat) (ws : List Int) (hws : Words ws) (hw : w ≤ 32) (hi : i < n) (h5 : n * w ≤ 5000) (hl : n * w ≤ 64 * ws.length) (j : Nat) : j ≤ w → Ev (fun k => impl_Packed_at.l0 k (i : Int) ((val (slc (bitsL (n * w) ws) w i j) : Nat) : Int) ((j : Int) - 1) (w : Int) (n : Int) ((n * w : Nat) : Int) ws) ((valAt (bitsL (n * w) ws) w i : Nat) : Int) := by
 induction j with
 | zero =>
  intro _
  refine Ev.step (f := fun _ => some _) (fun k => ?_) (Ev.now _)
  rw [impl_Packed_at.l0, if_neg (by omega), slc_zero]
 | succ j ih =>
  intro hj
  have hx := idx_w i w j n hi (by omega)
  have hb : ((i + 1) * w) ≤ (bitsL (n * w) ws).length := by rw [bitsL_length]; exact Nat.mul_le_mul_right w hi
  have hst := slc_step (bitsL (n * w) ws) w i j hb (by omega)
  rw [bitsL_get _ _ _ hx] at hst
  have hlt := slc_lt (bitsL (n * w) ws) (bits_mem _ _) w i (j + 1) hw
  have h1 := ih (by omega)
  rw [hst, val] at h1
  have e1 : (i : Int) * (w : Int) = ((i * w : Nat) : Int) := by simp
  have e2 : ((i * w : Nat) : Int) + (j : Int) = ((i * w + j : Nat) : Int) := by simp
  refine Ev.step (fun k => ?_) h1
  have hb01 : ∃ b : Nat, bitAt ws (i * w + j) = (b : Int) ∧ b < 2 := by
   rcases bitAt_01 ws (i * w + j) with e | e
   ·exact ⟨0, e, by omega⟩
   ·exact ⟨1, e, by omega⟩
  obtain ⟨b, hbe, hb2⟩ := hb01
  rw [impl_Packed_at.l0, if_pos (by omega), show ((j + 1 : Nat) : Int) - 1 = (j : Int) by omega, e1]
  have hiw : i * w ≤ i * w + j := by omega
  generalize val (slc (bitsL (n * w) ws) w i (j + 1)) = v at hlt
  rw [w64 (x := ((i * w : Nat) : Int)) (by omega) (by omega), e2, w64 (by omega) (by omega), at_ev _ ws hws (i * w + j) (by omega) (by omega), Option.bind_some, hbe, Int.toNat_natCast]
  have hor := or_two v b (by omega) hb2
  rw [show (v : Int) * 2 = ((2 * v : Nat) : Int) by omega, w64 (x := ((2 * v : Nat) : Int)) (by omega) (by omega), hor, w64 (by omega) (by omega), show 2 * v + b = b + 2 * v by omega]
theorem implAt_ev (w n i : Nat) (ws : List Int) (hws : Words ws) (hw : w ≤ 32) (hi : i < n) (h5 : n * w ≤ 5000) (hl : n * w ≤ 64 * ws.length) : Ev (fun k => impl_Packed_at.f k (w : Int) (n : Int) ((n * w : Nat) : Int) ws (i : Int)) ((valAt (bitsL (n * w) ws) w i : Nat) : Int) := by
 have h := implAt_l0 w n i ws hws hw hi h5 hl w (Nat.le_refl _)
 rw [slc_end] at h
 refine Ev.congr (fun k => ?_) h
 unfold impl_Packed_at.f
 rw [w64 (by omega) (by omega)]
 rfl
theorem implPackList_l0 (w n : Nat) (ws : List Int) (hws : Words ws) (hw : w ≤ 32) (hn : n ≤ 5000) (h5 : n * w ≤ 5000) (hl : n * w ≤ 64 * ws.length) (d : Nat) : ∀ i : Nat, i + d = n → Ev (fun k => impl_PackList.l0 k (valL (bitsL (n * w) ws) w i) (n : Int) (i : Int) (w : Int) (n : Int) ((n * w : Nat) : Int) ws) (valL (bitsL (n * w) ws) w n) := by
 induction d with
 | zero =>
  intro i h
  obtain rfl : i = n := by omega
  refine Ev.step (f := fun _ => some _) (fun k => ?_) (Ev.now _)
  rw [impl_PackList.l0, if_neg (by omega)]
 | succ d ih =>
  intro i h
  have h1 := ih (i + 1) (by omega)
  rw [valL_succ] at h1
  obtain ⟨K1, k1⟩ := ev_out (implAt_ev w n i ws hws hw (by omega) h5 hl)
  obtain ⟨K2, k2⟩ := ev_out h1
  refine ev_mk (K1 + K2 + 1) fun k hk => ?_
  obtain ⟨k, rfl⟩ : ∃ m, k = m + 1 := ⟨k - 1, by omega⟩
  rw [impl_PackList.l0, if_pos (by omega), k1 k (by omega), Option.bind_some, if_pos (by rw [valL_length]; omega), w64 (by omega) (by omega)]
  exact k2 k (by omega)
def packL (w n m : Int) (ws : List Int) : List Int := if packOkB w n m ws = true then valL (bitsL m.toNat ws) w.toNat n.toNat else []
theorem implPackList_ev (w n m : Int) (ws : List Int) (hws : Words ws) (hl : ws.length ≤ 4000000) (hm : -9223372036854775808 ≤ m) : Ev (fun k => impl_PackList.f k w n m ws) (packL w n m ws) := by
 unfold packL
 by_cases c : packOkB w n m ws = true
 ·rw [if_pos c]
  obtain ⟨w', n', rfl, rfl, rfl, h1, h2, h3, h4⟩ := packOk_out c
  rw [Int.toNat_natCast, Int.toNat_natCast, Int.toNat_natCast]
  obtain ⟨K, hK⟩ := ev_out (implPackList_l0 w' n' ws hws h1 h2 h3 (by omega) n' 0 (by omega))
  refine ev_mk K fun k hk => ?_
  unfold impl_PackList.f
  rw [implPackOk_ev _ _ _ ws hws hl hm, Option.bind_some, if_pos c]
  exact hK k hk
 ·rw [if_neg c]
  refine ev_mk 0 fun k hk => ?_
  unfold impl_PackList.f
  rw [implPackOk_ev _ _ _ ws hws hl hm, Option.bind_some, if_neg c]
theorem or_shl (q x w : Nat) (hw : w ≤ 32) (hq : q ≤ 5000) (hx : x < 2 ^ w) : Go.bits .or .i64 (shl .i64 (q : Int) (w : Int)) (x : Int) = ((q * 2 ^ w + x : Nat) : Int) := by
 have hp := p2 w 32 hw
 have o : ∀ a : Nat, a < 18446744073709551616 → (BitVec.ofInt 64 (a : Int)).toNat = a := fun a h => by rw [BitVec.ofInt_natCast, BitVec.toNat_ofNat]; exact Nat.mod_eq_of_lt (by omega)
 have hm : q * 2 ^ w ≤ 5000 * 4294967296 := Nat.mul_le_mul hq hp
 have h := Nat.shiftLeft_add_eq_or_of_lt hx q
 rw [Nat.shiftLeft_eq] at h
 have es : shl .i64 (q : Int) (w : Int) = ((q * 2 ^ w : Nat) : Int) := by
  unfold shl
  rw [Int.toNat_natCast, show min w IntKind.i64.bits = w by show min w 64 = w; omega, i64_w]
  have e : (q : Int) * 2 ^ w = ((q * 2 ^ w : Nat) : Int) := by simp
  rw [e]
  generalize q * 2 ^ w = v at hm
  exact w64 (by omega) (by omega)
 rw [es]
 generalize q * 2 ^ w = v at hm h
 have hx2 : x < 4294967296 := by omega
 show IntKind.i64.wrap ((BitVec.ofInt 64 (v : Int) ||| BitVec.ofInt 64 (x : Int)).toNat : Int) = _
 rw [BitVec.toNat_or, o _ (by omega), o _ (by omega), ← h, i64_w, w64 (by omega) (by omega)]
def dec (w : Nat) : Nat → List Int → List Int → List Int
 | _, [], _ => []
 | q, b :: bs, low => if b = 0 then dec w (q + 1) bs low else match low with
  | [] => dec w q bs []
  | x :: xs => (((q * 2 ^ w + x.toNat : Nat)) : Int) :: dec w q bs xs
theorem dec0 (w q : Nat) (b : Int) (bs low : List Int) (h : b = 0) : dec w q (b :: bs) low = dec w (q + 1) bs low := by subst h; cases low <;> rfl
theorem decN (w q : Nat) (b : Int) (bs : List Int) (h : ¬ b = 0) : dec w q (b :: bs) [] = dec w q bs [] := by
 show (if b = 0 then dec w (q + 1) bs [] else dec w q bs []) = _
 rw [if_neg h]
theorem decC (w q : Nat) (b : Int) (bs : List Int) (x : Int) (xs : List Int) (h : ¬ b = 0) : dec w q (b :: bs) (x :: xs) = ((q * 2 ^ w + x.toNat : Nat) : Int) :: dec w q bs xs := by
 show (if b = 0 then dec w (q + 1) bs (x :: xs) else ((q * 2 ^ w + x.toNat : Nat) : Int) :: dec w q bs xs) = _
 rw [if_neg h]
theorem dec_length (w : Nat) (bs : List Int) : ∀ (q : Nat) (low : List Int), (dec w q bs low).length ≤ low.length ∧ (dec w q bs low).length ≤ bs.length := by
 induction bs with
 | nil => intro q low; rw [dec]; exact ⟨Nat.zero_le _, Nat.zero_le _⟩
 | cons b bs ih =>
  intro q low
  by_cases c : b = 0
  ·rw [dec0 w q b bs low c]; have := ih (q + 1) low; rw [List.length_cons]; omega
  ·cases low with
   | nil => rw [decN w q b bs c]; have := ih q []; rw [List.length_cons]; exact ⟨this.1, by omega⟩
   | cons x xs =>
    rw [decC w q b bs x xs c]
    have := ih q xs
    simp only [List.length_cons]
    omega
theorem drop_cons (l : List Int) (i : Nat) (h : i < l.length) : l.drop i = l.getD i 0 :: l.drop (i + 1) := by
 rw [List.drop_eq_getElem_cons h, lget_lt _ _ _ h]
def LowOk (W : Int) (low : List Int) : Prop := low = [] ∨ ∃ w : Nat, W = (w : Int) ∧ w ≤ 32 ∧ InW w low
theorem implRead_l0 (U N W n m : Int) (ws : List Int) (m2 : Int) (ws2 : List Int) (low bs : List Int) (hlow : LowOk W low) (hl5 : low.length ≤ 5000) (hb5 : bs.length ≤ 5000) (h01 : ∀ y ∈ bs, y = 0 ∨ y = 1) (r : List Int × Bool) (d : Nat) : ∀ (i q : Nat) (acc : List Int), i + d = bs.length → acc.length ≤ low.length → q ≤ i →
  ((bs.drop i).count 1 ≤ low.length - acc.length → Ev (fun k => impl_Sparse_read.l0 k (acc ++ dec W.toNat q (bs.drop i) (low.drop acc.length)) 0 low bs (bs.length : Int) (bs.length : Int) U N W n m ws m2 ws2) r) →
  (low.length - acc.length < (bs.drop i).count 1 → r = ([], false)) →
  (∀ acc q q', Ev (fun k => impl_Sparse_read.l0 k acc q low bs (bs.length : Int) (bs.length : Int) U N W n m ws m2 ws2) r → Ev (fun k => impl_Sparse_read.l0 k acc q' low bs (bs.length : Int) (bs.length : Int) U N W n m ws m2 ws2) r) →
  Ev (fun k => impl_Sparse_read.l0 k acc (q : Int) low bs (bs.length : Int) (i : Int) U N W n m ws m2 ws2) r := by
 induction d with
 | zero =>
  intro i q acc h ha hq hg hz hfree
  obtain rfl : i = bs.length := by omega
  have h1 := hg (by rw [List.drop_length]; exact Nat.zero_le _)
  rw [List.drop_length, dec, List.append_nil] at h1
  exact hfree _ _ _ h1
 | succ d ih =>
  intro i q acc h ha hq hg hz hfree
  rw [drop_cons bs i (by omega)] at hg hz
  have hb := mem_get01 h01 i (by omega)
  by_cases c : bs.getD i 0 = 0
  ·rw [dec0 _ _ _ _ _ c, List.count_cons, if_neg (by rw [c]; decide), Nat.add_zero] at hg
   rw [List.count_cons, if_neg (by rw [c]; decide), Nat.add_zero] at hz
   refine Ev.step (fun k => ?_) (ih (i + 1) (q + 1) acc (by omega) ha (by omega) hg hz hfree)
   rw [impl_Sparse_read.l0, if_pos (by omega), if_pos (by omega), if_pos (by omega), rd_nat, if_pos c, w64 (by omega) (by omega), w64 (by omega) (by omega)]
   rfl
  ·have c1 : bs.getD i 0 = 1 := by omega
   rw [List.count_cons, if_pos (by rw [c1]; rfl)] at hg
   rw [List.count_cons, if_pos (by rw [c1]; rfl)] at hz
   by_cases e : acc.length = low.length
   ·refine Ev.step (f := fun _ => some r) (fun k => ?_) (Ev.now _)
    rw [impl_Sparse_read.l0, if_pos (by omega), if_pos (by omega), if_pos (by omega), rd_nat, if_neg c, if_pos (by omega), hz (by omega)]
   ·rcases hlow with hn | ⟨w, rfl, hw, hin⟩
    ·rw [hn] at ha e; simp at ha; simp [ha] at e
    ·obtain ⟨x, hx, hx2⟩ := hin.get acc.length (by omega)
     rw [drop_cons low acc.length (by omega), Int.toNat_natCast, hx, decC _ _ _ _ _ _ c, List.append_cons, Int.toNat_natCast] at hg
     have hl : (acc ++ [((q * 2 ^ w + x : Nat) : Int)]).length = acc.length + 1 := by rw [List.length_append]; rfl
     refine Ev.step (fun k => ?_) (ih (i + 1) q (acc ++ [((q * 2 ^ w + x : Nat) : Int)]) (by omega) (by omega) (by omega) (fun hc => ?_) (fun hc => hz (by omega)) hfree)
     ·rw [impl_Sparse_read.l0, if_pos (by omega), if_pos (by omega), if_pos (by omega), rd_nat, if_neg c, if_neg (by omega), if_pos (by omega), if_pos (by omega), if_pos (by omega), if_pos (by omega), rd_nat, hx, or_shl q x w hw (by omega) hx2, w64 (by omega) (by omega)]
      rfl
     ·rw [hl, Int.toNat_natCast]
      exact hg (by omega)
theorem eqU_l0 (xs ys : List Int) (hl : xs.length = ys.length) (h4 : xs.length ≤ 4000000) (d : Nat) : ∀ i : Nat, i + d = xs.length → Ev (fun k => slices_Equal_uint64_uint64.l0 k xs ys (xs.length : Int) (i : Int)) (decide (xs.drop i = ys.drop i)) := by
 induction d with
 | zero =>
  intro i h
  refine Ev.step (f := fun _ => some _) (fun k => ?_) (Ev.now _)
  rw [slices_Equal_uint64_uint64.l0, if_neg (by omega), List.drop_eq_nil_of_le (by omega), List.drop_eq_nil_of_le (by omega), decide_eq_true rfl]
 | succ d ih =>
  intro i h
  by_cases c : xs.getD i 0 = ys.getD i 0
  ·have e : decide (xs.drop i = ys.drop i) = decide (xs.drop (i + 1) = ys.drop (i + 1)) := by
    rw [drop_cons xs i (by omega), drop_cons ys i (by omega), c]
    exact decide_eq_decide.2 ⟨fun h => (List.cons.inj h).2, fun h => by rw [h]⟩
   rw [e]
   refine Ev.step (fun k => ?_) (ih (i + 1) (by omega))
   rw [slices_Equal_uint64_uint64.l0, if_pos (by omega), if_pos (by omega), if_pos (by omega), if_pos (by omega), rd_nat, rd_nat, if_pos c, w64 (by omega) (by omega)]
   rfl
  ·refine Ev.step (f := fun _ => some _) (fun k => ?_) (Ev.now _)
   rw [slices_Equal_uint64_uint64.l0, if_pos (by omega), if_pos (by omega), if_pos (by omega), if_pos (by omega), rd_nat, rd_nat, if_neg c, decide_eq_false]
   rw [drop_cons xs i (by omega), drop_cons ys i (by omega)]
   exact fun h => c (List.cons.inj h).1
theorem sameBits_ev (n1 : Int) (ws1 : List Int) (n2 : Int) (ws2 : List Int) (h : ws2.length ≤ 4000000) : Ev (fun k => impl_sameBits.f k n1 ws1 n2 ws2) (decide (n1 = n2 ∧ ws1 = ws2)) := by
 by_cases c0 : n1 = n2
 ·by_cases c1 : ws1.length = ws2.length
  ·obtain ⟨K, hK⟩ := ev_out (eqU_l0 ws1 ws2 c1 (by omega) ws1.length 0 (by omega))
   refine ev_mk K fun k hk => ?_
   have h1 := hK k hk
   rw [List.drop_zero, List.drop_zero] at h1
   have h2 : slices_Equal_uint64_uint64.l0 k ws1 ws2 (ws1.length : Int) 0 = some (decide (ws1 = ws2)) := h1
   unfold impl_sameBits.f slices_Equal_uint64_uint64.f
   rw [if_pos c0, if_pos (by omega), h2, Option.bind_some]
   congr 1
   exact decide_eq_decide.2 ⟨fun h => ⟨c0, h⟩, fun h => h.2⟩
  ·refine ev_mk 0 fun k _ => ?_
   unfold impl_sameBits.f slices_Equal_uint64_uint64.f
   rw [if_pos c0, if_neg (by omega), Option.bind_some, decide_eq_false (fun h => c1 (by rw [h.2]))]
 ·refine ev_mk 0 fun k _ => ?_
  unfold impl_sameBits.f
  rw [if_neg c0, decide_eq_false (fun h => c0 h.1)]
def flagF (L : List Int) (U N W n m : Int) (ws : List Int) (m2 : Int) (ws2 : List Int) : Bool :=
 decide ((sparseR L U).2.2.2.2.2.2.2.2 = true ∧ (sparseR L U).2.1 = N ∧ (sparseR L U).2.2.1 = W ∧ (sparseR L U).2.2.2.1 = n ∧ ((sparseR L U).2.2.2.2.1 = m ∧ (sparseR L U).2.2.2.2.2.1 = ws) ∧ ((sparseR L U).2.2.2.2.2.2.1 = m2 ∧ (sparseR L U).2.2.2.2.2.2.2.1 = ws2))
theorem implCont_ev (L : List Int) (q : Int) (low bs : List Int) (U N W n m : Int) (ws : List Int) (m2 : Int) (ws2 : List Int) (hL : L.length ≤ 5000) (h1 : ws.length ≤ 4000000) (h2 : ws2.length ≤ 4000000) :
  Ev (fun k => impl_Sparse_read.l0 k L q low bs (bs.length : Int) (bs.length : Int) U N W n m ws m2 ws2) (L, flagF L U N W n m ws m2 ws2) := by
 obtain ⟨K0, k0⟩ := ev_out (implSparse_ev L U hL)
 obtain ⟨K1, k1⟩ := ev_out (sameBits_ev (sparseR L U).2.2.2.2.1 (sparseR L U).2.2.2.2.2.1 m ws h1)
 obtain ⟨K2, k2⟩ := ev_out (sameBits_ev (sparseR L U).2.2.2.2.2.2.1 (sparseR L U).2.2.2.2.2.2.2.1 m2 ws2 h2)
 refine ev_mk (K0 + K1 + K2 + 1) fun k hk => ?_
 obtain ⟨k, rfl⟩ : ∃ m, k = m + 1 := ⟨k - 1, by omega⟩
 rw [impl_Sparse_read.l0, if_neg (by omega), k0 k (by omega), Option.bind_some]
 unfold flagF
 by_cases c0 : (sparseR L U).2.2.2.2.2.2.2.2 = true
 case neg => rw [if_neg c0, decide_eq_false (fun h => c0 h.1)]
 by_cases c1 : (sparseR L U).2.1 = N
 case neg => rw [if_pos c0, if_neg c1, decide_eq_false (fun h => c1 h.2.1)]
 unfold impl_samePacked.f
 by_cases c2 : (sparseR L U).2.2.1 = W
 case neg => rw [if_pos c0, if_pos c1, if_neg c2, Option.bind_some, if_neg (by decide), decide_eq_false (fun h => c2 h.2.2.1)]
 by_cases c3 : (sparseR L U).2.2.2.1 = n
 case neg => rw [if_pos c0, if_pos c1, if_pos c2, if_neg c3, Option.bind_some, if_neg (by decide), decide_eq_false (fun h => c3 h.2.2.2.1)]
 rw [if_pos c0, if_pos c1, if_pos c2, if_pos c3, k1 k (by omega), Option.bind_some, Option.bind_some]
 by_cases c4 : (sparseR L U).2.2.2.2.1 = m ∧ (sparseR L U).2.2.2.2.2.1 = ws
 case neg => rw [if_neg (by rw [decide_eq_false c4]; decide), decide_eq_false (fun h => c4 h.2.2.2.2.1)]
 rw [if_pos (decide_eq_true c4), k2 k (by omega), Option.bind_some]
 congr 2
 exact decide_eq_decide.2 ⟨fun h => ⟨c0, c1, c2, c3, c4, h⟩, fun h => h.2.2.2.2.2⟩
def bitsR (m2 : Int) (ws2 : List Int) : List Int := if okB m2 ws2 = true then bitsL m2.toNat ws2 else []
theorem bitsR_01 (m2 : Int) (ws2 : List Int) : ∀ y ∈ bitsR m2 ws2, y = 0 ∨ y = 1 := by
 unfold bitsR
 split
 ·exact bitsL_01 _ _
 ·intro y hy; cases hy
theorem bitsR_len (m2 : Int) (ws2 : List Int) : (bitsR m2 ws2).length ≤ 5000 := by
 unfold bitsR
 by_cases c : okB m2 ws2 = true
 ·rw [if_pos c, bitsL_length]; have := okB_out c; omega
 ·rw [if_neg c]; exact Nat.zero_le _
theorem packL_ok (W n m : Int) (ws : List Int) : LowOk W (packL W n m ws) ∧ (packL W n m ws).length ≤ 5000 := by
 unfold packL
 by_cases c : packOkB W n m ws = true
 ·rw [if_pos c]
  obtain ⟨w', n', rfl, rfl, rfl, h1, h2, h3, h4⟩ := packOk_out c
  rw [Int.toNat_natCast, Int.toNat_natCast, Int.toNat_natCast, valL_length]
  exact ⟨.inr ⟨w', rfl, h1, valL_in _ (bitsL_01 _ _) _ _⟩, h2⟩
 ·rw [if_neg c]; exact ⟨.inl rfl, Nat.zero_le _⟩
def listR (W n m : Int) (ws : List Int) (m2 : Int) (ws2 : List Int) : List Int := dec W.toNat 0 (bitsR m2 ws2) (packL W n m ws)
theorem listR_len (W n m : Int) (ws : List Int) (m2 : Int) (ws2 : List Int) : (listR W n m ws m2 ws2).length ≤ 5000 := by
 have := (dec_length W.toNat (bitsR m2 ws2) 0 (packL W n m ws)).2
 have := bitsR_len m2 ws2
 unfold listR
 omega
def readR (U N W n m : Int) (ws : List Int) (m2 : Int) (ws2 : List Int) : List Int × Bool :=
 if (bitsR m2 ws2).count 1 ≤ (packL W n m ws).length then (listR W n m ws m2 ws2, flagF (listR W n m ws m2 ws2) U N W n m ws m2 ws2) else ([], false)
theorem implRead_ev (U N W n m : Int) (ws : List Int) (m2 : Int) (ws2 : List Int) (hw1 : Words ws) (hw2 : Words ws2) (h1 : ws.length ≤ 4000000) (h2 : ws2.length ≤ 4000000) (hm : -9223372036854775808 ≤ m) (hm2 : -9223372036854775808 ≤ m2) :
  Ev (fun k => impl_Sparse_read.f k U N W n m ws m2 ws2) (readR U N W n m ws m2 ws2) := by
 obtain ⟨K0, k0⟩ := ev_out (implPackList_ev W n m ws hw1 h1 hm)
 have hbl : Ev (fun k => impl_BitsList.f k m2 ws2) (bitsR m2 ws2) := by
  unfold bitsR
  by_cases c : okB m2 ws2 = true
  ·obtain ⟨p1, p2, p3, _⟩ := okB_out c
   obtain ⟨a, rfl⟩ := Int.eq_ofNat_of_zero_le p1
   rw [Int.toNat_natCast] at p3
   obtain ⟨K, hK⟩ := ev_out (list_ev a ws2 hw2 (by omega) (by omega))
   refine ev_mk K fun k hk => ?_
   unfold impl_BitsList.f
   rw [implBitsOk_ev _ ws2 hw2 h2 hm2, Option.bind_some, if_pos c, hK k hk, Option.bind_some, if_pos c, Int.toNat_natCast]
  ·refine ev_mk 0 fun k _ => ?_
   unfold impl_BitsList.f
   rw [implBitsOk_ev _ ws2 hw2 h2 hm2, Option.bind_some, if_neg c, if_neg c]
 obtain ⟨K1, k1⟩ := ev_out hbl
 obtain ⟨q1, q2⟩ := packL_ok W n m ws
 have hmain := implRead_l0 U N W n m ws m2 ws2 (packL W n m ws) (bitsR m2 ws2) q1 q2 (bitsR_len _ _) (bitsR_01 _ _) (readR U N W n m ws m2 ws2) (bitsR m2 ws2).length 0 0 [] (by omega) (Nat.zero_le _) (Nat.le_refl _)
  (by
   rw [List.drop_zero, List.length_nil, Nat.sub_zero, List.drop_zero, List.nil_append]
   intro hc
   unfold readR
   rw [if_pos hc]
   exact implCont_ev (listR W n m ws m2 ws2) 0 _ _ U N W n m ws m2 ws2 (listR_len _ _ _ _ _ _) h1 h2)
  (by
   rw [List.drop_zero, List.length_nil, Nat.sub_zero]
   intro hc
   unfold readR
   rw [if_neg (by omega)])
  (by
   intro acc q q' h
   obtain ⟨K, hK⟩ := ev_out h
   refine ev_mk (K + 1) fun k hk => ?_
   obtain ⟨k, rfl⟩ : ∃ m, k = m + 1 := ⟨k - 1, by omega⟩
   have h3 := hK (k + 1) (by omega)
   rw [impl_Sparse_read.l0, if_neg (by omega)] at h3 ⊢
   exact h3)
 obtain ⟨K2, k2⟩ := ev_out hmain
 refine ev_mk (K0 + K1 + K2) fun k hk => ?_
 unfold impl_Sparse_read.f
 rw [k0 k (by omega), Option.bind_some, k1 k (by omega), Option.bind_some]
 exact k2 k (by omega)
theorem bits_back (bs : List Int) (hb : ∀ i, i < bs.length → bs.getD i 0 = 0 ∨ bs.getD i 0 = 1) : bitsL bs.length (wordsOf bs) = bs := by
 apply ext_getD 0 (bitsL_length _ _)
 intro j hj
 rw [bitsL_length] at hj
 rw [bitsL_get _ _ _ hj, bitAt_words bs hb j hj]
theorem okB_words (bs : List Int) (h : ∀ y ∈ bs, y = 0 ∨ y = 1) (h5 : bs.length ≤ 5000) : okB (bs.length : Int) (wordsOf bs) = true := by
 unfold okB
 rw [Int.toNat_natCast, bits_back bs (mem_get01 h)]
 refine decide_eq_true ⟨by omega, by omega, ?_, rfl⟩
 unfold wordsOf
 rw [wordsTo_length]
theorem sparseR_true {l : List Int} {u : Int} (h : (sparseR l u).2.2.2.2.2.2.2.2 = true) : ∃ w U : Nat, w = wid l.length u.toNat ∧ U = u.toNat / 2 ^ w ∧ Good l u ∧ w ≤ 19 ∧ l.length + U + 1 ≤ 5000 ∧ l.length * w ≤ 5000 ∧
  sparseR l u = (u, (l.length : Int), (w : Int), (l.length : Int), ((packB w (lowL w l)).length : Int), wordsOf (packB w (lowL w l)), ((hiOf l u w).length : Int), wordsOf (hiOf l u w), true) ∧ (hiOf l u w).length = l.length + U + 1 ∧ (hiOf l u w).count 1 = l.length ∧ (∀ y ∈ hiOf l u w, y = 0 ∨ y = 1) := by
 unfold sparseR at h ⊢
 by_cases g : Good l u
 case neg => rw [if_neg g] at h; exact absurd h (by decide)
 rw [if_pos g] at h ⊢
 by_cases c : l.length + u.toNat / 2 ^ wid l.length u.toNat + 1 ≤ 5000
 case neg => rw [if_neg c] at h; exact absurd h (by decide)
 rw [if_pos c] at h ⊢
 have hw := wid_le l.length u.toNat (by have := g.2.1; omega)
 generalize wid l.length u.toNat = w at h c hw ⊢
 unfold fin at h ⊢
 by_cases hp : (packR w (lowL w l)).2.2.2.2 = true
 case neg => rw [if_neg hp] at h; exact absurd h (by decide)
 rw [if_pos hp]
 have hs : l.length * w ≤ 5000 := by
  by_cases hs : (lowL w l).length * w ≤ 5000
  ·rw [lowL_length] at hs; exact hs
  ·unfold packR at hp; rw [if_neg hs] at hp; exact absurd hp (by decide)
 have hpe : packR w (lowL w l) = ((w : Int), ((lowL w l).length : Int), ((packB w (lowL w l)).length : Int), wordsOf (packB w (lowL w l)), true) := by
  unfold packR
  rw [if_pos (by rw [lowL_length]; exact hs)]
 have hup := good_up g w l.length 0 0 (by omega) (fun _ => Nat.zero_le _)
 rw [List.drop_zero] at hup
 have hlen := hi_length (u.toNat / 2 ^ w) _ 0 hup (Nat.zero_le _)
 rw [quot_length] at hlen
 refine ⟨w, u.toNat / 2 ^ w, rfl, rfl, g, hw, c, hs, ?_, ?_, ?_, ?_⟩
 ·rw [hpe, lowL_length]
 ·unfold hiOf; rw [hlen, Nat.sub_zero, ← Nat.add_assoc]
 ·unfold hiOf; rw [hi_count, quot_length]
 ·exact hi_01 _ _ _
theorem index_l0 (l : List Int) (x : Int) (h5 : l.length ≤ 1000000) (d : Nat) : ∀ i : Nat, i + d = l.length → Ev (fun k => (slices_Index_int_int.l0 k l x (l.length : Int) (i : Int)).bind fun t => some (decide (t ≥ 0))) (decide (x ∈ l.drop i)) := by
 induction d with
 | zero =>
  intro i h
  refine ev_mk 1 fun k hk => ?_
  obtain ⟨k, rfl⟩ : ∃ m, k = m + 1 := ⟨k - 1, by omega⟩
  rw [slices_Index_int_int.l0, if_neg (by omega), Option.bind_some, List.drop_eq_nil_of_le (by omega), decide_eq_false (by omega), decide_eq_false (by simp)]
 | succ d ih =>
  intro i h
  rw [drop_cons l i (by omega)]
  by_cases c : x = l.getD i 0
  ·refine ev_mk 1 fun k hk => ?_
   obtain ⟨k, rfl⟩ : ∃ m, k = m + 1 := ⟨k - 1, by omega⟩
   rw [slices_Index_int_int.l0, if_pos (by omega), if_pos (by omega), if_pos (by omega), rd_nat, if_pos c, Option.bind_some, decide_eq_true (by omega), decide_eq_true (by rw [c]; exact List.mem_cons_self ..)]
  ·have e : decide (x ∈ l.getD i 0 :: l.drop (i + 1)) = decide (x ∈ l.drop (i + 1)) := decide_eq_decide.2 ⟨fun h => (List.mem_cons.1 h).resolve_left c, fun h => List.mem_cons_of_mem _ h⟩
   rw [e]
   obtain ⟨K, hK⟩ := ev_out (ih (i + 1) (by omega))
   refine ev_mk (K + 1) fun k hk => ?_
   obtain ⟨k, rfl⟩ : ∃ m, k = m + 1 := ⟨k - 1, by omega⟩
   rw [slices_Index_int_int.l0, if_pos (by omega), if_pos (by omega), if_pos (by omega), rd_nat, if_neg c, w64 (by omega) (by omega)]
   exact hK k (by omega)
theorem contains_ev (l : List Int) (x : Int) (h5 : l.length ≤ 1000000) : Ev (fun k => slices_Contains_int_int.f k l x) (decide (x ∈ l)) := by
 have h := index_l0 l x h5 l.length 0 (by omega)
 rw [List.drop_zero] at h
 exact h
def cntB (l : List Int) (x : Int) : Nat := (l.filter fun y => decide (y < x)).length
theorem cntB_cons (y : Int) (l : List Int) (x : Int) : cntB (y :: l) x = if y < x then cntB l x + 1 else cntB l x := by
 unfold cntB
 by_cases c : y < x
 ·rw [if_pos c, List.filter_cons_of_pos (by exact decide_eq_true c), List.length_cons]
 ·rw [if_neg c, List.filter_cons_of_neg (by show ¬ decide (y < x) = true; rw [decide_eq_false c]; decide)]
theorem cntB_all (l : List Int) (x : Int) (d : Nat) : ∀ i p : Nat, i + d = l.length → (∀ t, i ≤ t → t < p → t < l.length → l.getD t 0 < x) → (∀ t, p ≤ t → t < l.length → ¬ l.getD t 0 < x) → p ≤ l.length → cntB (l.drop i) x = p - i := by
 induction d with
 | zero => intro i p h _ _ hp; rw [List.drop_eq_nil_of_le (by omega)]; show 0 = _; omega
 | succ d ih =>
  intro i p h h1 h2 hp
  rw [drop_cons l i (by omega), cntB_cons, ih (i + 1) p (by omega) (fun t a b c => h1 t (by omega) b c) h2 hp]
  by_cases q : i < p
  ·rw [if_pos (h1 i (Nat.le_refl _) q (by omega))]; omega
  ·rw [if_neg (h2 i (by omega) (by omega))]; omega
theorem sorted_le (l : List Int) (hs : SortedL l) (a d : Nat) : a + d < l.length → l.getD a 0 ≤ l.getD (a + d) 0 := by
 induction d with
 | zero => intro _; exact Int.le_refl _
 | succ d ih =>
  intro h
  have h1 := ih (by omega)
  have h2 := hs (a + (d + 1)) h (by omega)
  rw [show a + (d + 1) - 1 = a + d by omega] at h2
  omega
theorem search_l0 (l : List Int) (x : Int) (hs : SortedL l) (h5 : l.length ≤ 1000000) (d : Nat) : ∀ i j : Nat, j - i ≤ d → i ≤ j → j ≤ l.length → (∀ t, t < i → l.getD t 0 < x) → (∀ t, j ≤ t → t < l.length → ¬ l.getD t 0 < x) →
  ∃ b, Ev (fun k => slices_BinarySearch_int_int.l0 k l x (l.length : Int) (i : Int) (j : Int)) (((cntB l x : Nat) : Int), b) := by
 induction d with
 | zero =>
  intro i j hd hij hj h1 h2
  obtain rfl : i = j := by omega
  have hc := cntB_all l x l.length 0 i (by omega) (fun t _ a _ => h1 t a) h2 hj
  rw [List.drop_zero, Nat.sub_zero] at hc
  by_cases c0 : i < l.length
  ·by_cases c1 : l.getD i 0 = x
   ·refine ⟨true, Ev.step (f := fun _ => some _) (fun k => ?_) (Ev.now _)⟩
    rw [slices_BinarySearch_int_int.l0, if_neg (by omega), if_pos (by omega), if_pos (by omega), if_pos (by omega), rd_nat, if_pos c1, hc]
   ·refine ⟨false, Ev.step (f := fun _ => some _) (fun k => ?_) (Ev.now _)⟩
    rw [slices_BinarySearch_int_int.l0, if_neg (by omega), if_pos (by omega), if_pos (by omega), if_pos (by omega), rd_nat, if_neg c1, hc]
    unfold slices_isNaN_int.f
    rw [Option.bind_some, bne_self_eq_false, if_neg (by decide)]
  ·refine ⟨false, Ev.step (f := fun _ => some _) (fun k => ?_) (Ev.now _)⟩
   rw [slices_BinarySearch_int_int.l0, if_neg (by omega), if_neg (by omega), hc]
 | succ d ih =>
  intro i j hd hij hj h1 h2
  by_cases c : i < j
  case neg => exact ih i j (by omega) hij hj h1 h2
  have em : wrap64 ((IntKind.u64.wrap (wrap64 ((i : Int) + (j : Int)))) / 2) = (((i + j) / 2 : Nat) : Int) := by
   rw [w64 (x := (i : Int) + (j : Int)) (by omega) (by omega), wu64 (by omega) (by omega), w64 (by omega) (by omega)]
   omega
  have hm1 : i ≤ (i + j) / 2 := by omega
  have hm2 : (i + j) / 2 < j := by omega
  generalize (i + j) / 2 = p at em hm1 hm2
  by_cases q : l.getD p 0 < x
  ·obtain ⟨b, hb⟩ := ih (p + 1) j (by omega) (by omega) hj (fun t ht => by
    have := sorted_le l hs t (p - t) (by omega)
    rw [show t + (p - t) = p by omega] at this
    omega) h2
   refine ⟨b, Ev.step (fun k => ?_) hb⟩
   rw [slices_BinarySearch_int_int.l0, if_pos (by omega), em, if_pos (by omega), if_pos (by omega), less_eq, Option.bind_some, rd_nat, if_pos (decide_eq_true q), w64 (by omega) (by omega)]
   rfl
  ·obtain ⟨b, hb⟩ := ih i p (by omega) (by omega) (by omega) h1 (fun t ht htl => by
    have := sorted_le l hs p (t - p) (by omega)
    rw [show p + (t - p) = t by omega] at this
    omega)
   refine ⟨b, Ev.step (fun k => ?_) hb⟩
   rw [slices_BinarySearch_int_int.l0, if_pos (by omega), em, if_pos (by omega), if_pos (by omega), less_eq, Option.bind_some, rd_nat, if_neg (by rw [decide_eq_false q]; decide)]
theorem packB_cons (w : Nat) (x : Int) (l : List Int) : packB w (x :: l) = digs w x.toNat ++ packB w l := List.flatMap_cons
theorem packB_slice (w : Nat) (l : List Int) : ∀ i, i < l.length → ((packB w l).drop (i * w)).take w = digs w (l.getD i 0).toNat := by
 induction l with
 | nil => intro i h; simp at h
 | cons x l ih =>
  intro i h
  rw [packB_cons]
  cases i with
  | zero =>
   rw [Nat.zero_mul, List.drop_zero, List.take_append_of_le_length (by rw [digs_length]; exact Nat.le_refl _), List.take_of_length_le (by rw [digs_length]; exact Nat.le_refl _)]
   rfl
  | succ i =>
   have e : (i + 1) * w = (digs w x.toNat).length + i * w := by rw [digs_length, Nat.succ_mul, Nat.add_comm]
   rw [e, List.drop_length_add_append, ih i (by simp at h; omega), List.getD_cons_succ]
theorem valL_pack (w : Nat) (l : List Int) (h : InW w l) : valL (packB w l) w l.length = l := by
 apply ext_getD 0 (valL_length _ _ _)
 intro j hj
 rw [valL_length] at hj
 obtain ⟨x, hx, hx2⟩ := h.get j hj
 rw [lget_lt _ _ _ (by rw [valL_length]; exact hj)]
 unfold valL
 rw [List.getElem_map, List.getElem_range, hx]
 unfold valAt
 rw [packB_slice w l j hj, hx, Int.toNat_natCast, val_digs w x hx2]
theorem dec_zeros (w m : Nat) (bs low : List Int) : ∀ q : Nat, dec w q (List.replicate m 0 ++ bs) low = dec w (q + m) bs low := by
 induction m with
 | zero => intro q; rfl
 | succ m ih =>
  intro q
  rw [List.replicate_succ, List.cons_append, dec0 _ _ _ _ _ rfl, ih (q + 1), show q + 1 + m = q + (m + 1) by omega]
theorem dec_hi (w U : Nat) (l : List Int) : ∀ c : Nat, (∀ x ∈ l, 0 ≤ x) → Up3 U c (quot w l) → dec w c (hi U c (quot w l)) (lowL w l) = l := by
 induction l with
 | nil =>
  intro c _ _
  show dec w c (List.replicate (U + 1 - c) 0) [] = []
  have := dec_zeros w (U + 1 - c) [] [] c
  rw [List.append_nil] at this
  rw [this]
  rfl
 | cons x l ih =>
  intro c hx hup
  obtain ⟨u1, u2, u3⟩ := hup
  have u1' : c ≤ x.toNat / 2 ^ w := u1
  have h0 := hx x (List.mem_cons_self ..)
  show dec w c (List.replicate (x.toNat / 2 ^ w - c) 0 ++ 1 :: hi U (x.toNat / 2 ^ w) (quot w l)) (((x.toNat % 2 ^ w : Nat) : Int) :: lowL w l) = x :: l
  rw [dec_zeros, decC _ _ _ _ _ _ (by decide), show c + (x.toNat / 2 ^ w - c) = x.toNat / 2 ^ w by omega, Int.toNat_natCast, ih _ (fun y hy => hx y (List.mem_cons_of_mem _ hy)) u3, Nat.div_add_mod']
  congr 1
  omega
theorem back_all {l : List Int} {u : Int} (h : (sparseR l u).2.2.2.2.2.2.2.2 = true) : ∃ (w m : Nat) (ws : List Int) (m2 : Nat) (ws2 : List Int), sparseR l u = (u, (l.length : Int), (w : Int), (l.length : Int), (m : Int), ws, (m2 : Int), ws2, true) ∧ Words ws ∧ Words ws2 ∧ ws.length ≤ 5000 ∧ ws2.length ≤ 5000 ∧ Good l u ∧ l.length ≤ 5000 ∧
  readR u (l.length : Int) (w : Int) (l.length : Int) (m : Int) ws (m2 : Int) ws2 = (l, true) := by
 obtain ⟨w, U, hwe, hUe, g, hw, h5, hs, he, hl, hc, h01⟩ := sparseR_true h
 have hpl := packB_length w (lowL w l)
 rw [lowL_length] at hpl
 have hk1 := okB_words (packB w (lowL w l)) (packB_01 _ _) (by omega)
 have hk2 := okB_words (hiOf l u w) h01 (by omega)
 have hp : packOkB (w : Int) (l.length : Int) ((packB w (lowL w l)).length : Int) (wordsOf (packB w (lowL w l))) = true := by
  unfold packOkB
  refine decide_eq_true ⟨by omega, by omega, by omega, by omega, hk1, ?_⟩
  rw [hpl]
  simp
 have e1 : packL (w : Int) (l.length : Int) ((packB w (lowL w l)).length : Int) (wordsOf (packB w (lowL w l))) = lowL w l := by
  unfold packL
  have hv := valL_pack w (lowL w l) (lowL_in w l)
  rw [lowL_length] at hv
  rw [if_pos hp, Int.toNat_natCast, Int.toNat_natCast, Int.toNat_natCast, bits_back _ (mem_get01 (packB_01 w (lowL w l))), hv]
 have e2 : bitsR ((hiOf l u w).length : Int) (wordsOf (hiOf l u w)) = hiOf l u w := by
  unfold bitsR
  rw [if_pos hk2, Int.toNat_natCast, bits_back _ (mem_get01 h01)]
 have hup := good_up g w l.length 0 0 (by omega) (fun _ => Nat.zero_le _)
 rw [List.drop_zero] at hup
 have e3 : listR (w : Int) (l.length : Int) ((packB w (lowL w l)).length : Int) (wordsOf (packB w (lowL w l))) ((hiOf l u w).length : Int) (wordsOf (hiOf l u w)) = l := by
  unfold listR
  rw [e1, e2, Int.toNat_natCast]
  unfold hiOf
  exact dec_hi w _ l 0 (fun x hx => (((good_iff l u).1 g).2.2.2 x hx).1) hup
 refine ⟨w, (packB w (lowL w l)).length, wordsOf (packB w (lowL w l)), (hiOf l u w).length, wordsOf (hiOf l u w), he, words_lt _ (mem_get01 (packB_01 _ _)), words_lt _ (mem_get01 h01), ?_, ?_, g, by omega, ?_⟩
 ·unfold wordsOf; rw [wordsTo_length]; omega
 ·unfold wordsOf; rw [wordsTo_length]; omega
 ·unfold readR
  rw [e1, e2, e3, hc, lowL_length, if_pos (Nat.le_refl _)]
  have hf : flagF l u (l.length : Int) (w : Int) (l.length : Int) ((packB w (lowL w l)).length : Int) (wordsOf (packB w (lowL w l))) ((hiOf l u w).length : Int) (wordsOf (hiOf l u w)) = true := by
   unfold flagF
   rw [he]
   exact decide_eq_true ⟨rfl, rfl, rfl, rfl, ⟨rfl, rfl⟩, rfl, rfl⟩
  rw [hf]
theorem split_at (l : List Int) (x : Int) (hs : SortedL l) (d : Nat) : ∀ i : Nat, i + d = l.length → (∀ t, t < i → l.getD t 0 < x) → ∃ p, p ≤ l.length ∧ (∀ t, t < p → l.getD t 0 < x) ∧ (∀ t, p ≤ t → t < l.length → ¬ l.getD t 0 < x) := by
 induction d with
 | zero => intro i h h1; exact ⟨i, by omega, h1, fun t a b => by omega⟩
 | succ d ih =>
  intro i h h1
  by_cases c : l.getD i 0 < x
  ·exact ih (i + 1) (by omega) (fun t ht => by
    by_cases e : t = i
    ·rw [e]; exact c
    ·exact h1 t (by omega))
  ·exact ⟨i, by omega, h1, fun t a b => by
    have := sorted_le l hs i (t - i) (by omega)
    rw [show i + (t - i) = t by omega] at this
    omega⟩
theorem cnt_self (l : List Int) (hs : SortedL l) (j : Nat) (hj : j < l.length) : cntB l (l.getD j 0) ≤ j ∧ l.getD (cntB l (l.getD j 0)) 0 = l.getD j 0 := by
 obtain ⟨p, hp, h1, h2⟩ := split_at l (l.getD j 0) hs l.length 0 (by omega) (fun t ht => by omega)
 have hc := cntB_all l (l.getD j 0) l.length 0 p (by omega) (fun t _ a _ => h1 t a) h2 hp
 rw [List.drop_zero, Nat.sub_zero] at hc
 rw [hc]
 have hpj : p ≤ j := by
  by_cases e : p ≤ j
  ·exact e
  ·have := h1 j (by omega); omega
 refine ⟨hpj, ?_⟩
 have a1 := h2 p (Nat.le_refl _) (by omega)
 have a2 := sorted_le l hs p (j - p) (by omega)
 rw [show p + (j - p) = j by omega] at a2
 omega
theorem cnt_full (l : List Int) (u : Int) (h : ∀ x ∈ l, x < u) : cntB l u = l.length := by
 induction l with
 | nil => rfl
 | cons y l ih =>
  rw [cntB_cons, if_pos (h y (List.mem_cons_self ..)), ih (fun x hx => h x (List.mem_cons_of_mem _ hx)), List.length_cons]
/-- A cursor over code: what is kept of it. 'B': how far it may have gone. -/
def Cur (code : List Int) (B : Int) (t u : Int) : Prop := (∀ x ∈ code, 0 ≤ x ∧ x ≤ 255) ∧ code.length ≤ 140737488351232 ∧ 0 ≤ t ∧ t ≤ B ∧ 0 ≤ u ∧ u ≤ 66600
theorem Cur.more {code : List Int} {B B' t u : Int} (h : Cur code B t u) (hB : B ≤ B') : Cur code B' t u := ⟨h.1, h.2.1, h.2.2.1, by have := h.2.2.2.1; omega, h.2.2.2.2⟩
theorem rd_code {code : List Int} (h : ∀ x ∈ code, 0 ≤ x ∧ x ≤ 255) (i : Int) : 0 ≤ rd code i ∧ rd code i ≤ 255 := by
 unfold rd
 rw [List.getD_eq_getElem?_getD]
 cases hq : code[i.toNat]? with
 | none => exact ⟨by show (0 : Int) ≤ 0; omega, by show (0 : Int) ≤ 255; omega⟩
 | some x => exact h x (List.mem_of_getElem? hq)
theorem pick_ev {code : List Int} {B t u : Int} (h : Cur code B t u) (hB : B ≤ 1000000000) (n : Int) (hn : n ≤ 1000000000000) :
  ∃ v t' u', spec_l01Cur_pick.f code t u n = some (v, t', u') ∧ 0 ≤ v ∧ (1 ≤ n → v < n) ∧ (n < 2 → v = 0) ∧ Cur code (B + 1) t' u' := by
 obtain ⟨h1, h2, h3, h4, h5, h6⟩ := h
 unfold spec_l01Cur_pick.f
 by_cases c0 : n < 2
 ·exact ⟨0, t, u, if_pos c0, by omega, fun _ => by omega, fun _ => rfl, h1, h2, h3, by omega, h5, h6⟩
 ·have npos : 0 < n := by omega
  have wt : wrap64 (t + 1) = t + 1 := w64 (by omega) (by omega)
  rw [if_neg c0]
  by_cases c1 : t < (code.length : Int)
  ·obtain ⟨r0, r1⟩ := rd_code h1 t
   refine ⟨Int.tmod (rd code t) n, t + 1, u, by rw [if_pos c1, if_pos h3, if_neg (by omega), w64 (by omega) (by omega), wt], Int.tmod_nonneg _ r0, fun _ => Int.tmod_lt_of_pos _ npos, fun hn2 => absurd hn2 c0, h1, h2, by omega, by omega, h5, h6⟩
  ·have w1 : wrap64 (u * 1103) = u * 1103 := w64 (by omega) (by omega)
   have w2 : wrap64 (u * 1103 + 12345) = u * 1103 + 12345 := w64 (by omega) (by omega)
   have s0 : 0 ≤ Int.tmod (u * 1103 + 12345) 65521 := Int.tmod_nonneg _ (by omega)
   have s1 : Int.tmod (u * 1103 + 12345) 65521 < 65521 := Int.tmod_lt_of_pos _ (by omega)
   by_cases c2 : (code.length : Int) > 0
   ·have i0 : 0 ≤ Int.tmod t (code.length : Int) := Int.tmod_nonneg _ h3
    have i1 : Int.tmod t (code.length : Int) < (code.length : Int) := Int.tmod_lt_of_pos _ c2
    obtain ⟨r0, r1⟩ := rd_code h1 (Int.tmod t (code.length : Int))
    have d0 : 0 ≤ Int.tdiv (Int.tmod (u * 1103 + 12345) 65521) 7 := Int.tdiv_nonneg s0 (by omega)
    have d1 : Int.tdiv (Int.tmod (u * 1103 + 12345) 65521) 7 ≤ 65521 := by
     have := Int.tdiv_le_self 7 s0
     omega
    refine ⟨Int.tmod (Int.tdiv (Int.tmod (u * 1103 + 12345) 65521) 7 + rd code (Int.tmod t (code.length : Int))) n, t + 1, Int.tmod (u * 1103 + 12345) 65521, ?_, Int.tmod_nonneg _ (by omega), fun _ => Int.tmod_lt_of_pos _ npos, fun hn2 => absurd hn2 c0, h1, h2, by omega, by omega, s0, by omega⟩
    rw [if_neg c1, if_pos c2, if_neg (by omega), if_pos i0, if_pos i1, if_neg (by omega), w1, w2, wt, w64 (x := Int.tdiv (Int.tmod (u * 1103 + 12345) 65521) 7) (by omega) (by omega), w64 (x := rd code (Int.tmod t (code.length : Int))) (by omega) (by omega), w64 (by omega) (by omega)]
   ·refine ⟨(0 : Int) % n, t + 1, Int.tmod (u * 1103 + 12345) 65521, by rw [if_neg c1, if_neg c2, if_neg (by omega), w1, w2, wt], Int.emod_nonneg _ (by omega), fun _ => Int.emod_lt_of_pos _ npos, fun hn2 => absurd hn2 c0, h1, h2, by omega, by omega, s0, by omega⟩
theorem open_ev {code : List Int} (h1 : ∀ x ∈ code, 0 ≤ x ∧ x ≤ 255) (h2 : code.length ≤ 140737488351232) : ∃ t u, spec_l01Open.f code = some (code, t, u) ∧ Cur code 0 t u := by
 refine ⟨0, 89 + ((code.length : Int) % 1000), rfl, h1, h2, by omega, by omega, ?_, ?_⟩
 ·have := Int.emod_nonneg (code.length : Int) (show (1000 : Int) ≠ 0 by omega); omega
 ·have := Int.emod_lt_of_pos (code.length : Int) (show (0 : Int) < 1000 by omega); omega
theorem code_wf {code : List Int} (h : ∀ x ∈ code, (Lit.int .u8 x).wf = true) : ∀ x ∈ code, 0 ≤ x ∧ x ≤ 255 := fun x hx => by
 have := h x hx
 simp only [Lit.wf, IntKind.min, IntKind.max, IntKind.signed, IntKind.bits, Bool.and_eq_true, decide_eq_true_eq] at this
 simpa using this
theorem size_ev {code : List Int} {B t u : Int} (h : Cur code B t u) (hB : B ≤ 1000000000) (n : Int) (h0 : 0 ≤ n) (hn : n ≤ 1000000) :
  ∃ v t' u', spec_l01Cur_size.f code t u n = some (v, t', u') ∧ 0 ≤ v ∧ v ≤ n ∧ Cur code (B + 1) t' u' := by
 have hl := h.2.1
 unfold spec_l01Cur_size.f
 have w1 : wrap64 ((code.length : Int) / 8) = (code.length : Int) / 8 := w64 (by omega) (by omega)
 have w2 : wrap64 (1 + (code.length : Int) / 8) = 1 + (code.length : Int) / 8 := w64 (by omega) (by omega)
 have m1 : mn n (1 + (code.length : Int) / 8) ≤ n ∧ 0 ≤ mn n (1 + (code.length : Int) / 8) := by unfold mn; split <;> omega
 rw [w1, w2, w64 (x := mn n (1 + (code.length : Int) / 8) + 1) (by omega) (by omega)]
 obtain ⟨v, t', u', e, v0, v1, _, hc⟩ := pick_ev h hB (mn n (1 + (code.length : Int) / 8) + 1) (by omega)
 refine ⟨v, t', u', ?_, v0, ?_, hc⟩
 ·rw [e, Option.bind_some]
 ·have := v1 (by omega); omega
theorem wide_ev {code : List Int} {B t u : Int} (h : Cur code B t u) (hB : B ≤ 900000000) (n : Int) (h0 : 1 ≤ n) (hn : n ≤ 1000000000000) :
  ∃ v t' u', spec_l01Cur_wide.f code t u n = some (v, t', u') ∧ 0 ≤ v ∧ v < n ∧ Cur code (B + 3) t' u' := by
 obtain ⟨v1, t1, u1, e1, a1, b1, _, c1⟩ := pick_ev h (by omega) 256 (by omega)
 obtain ⟨v2, t2, u2, e2, a2, b2, _, c2⟩ := pick_ev c1 (by omega) 256 (by omega)
 obtain ⟨v3, t3, u3, e3, a3, b3, _, c3⟩ := pick_ev c2 (by omega) 256 (by omega)
 have b1 := b1 (by omega)
 have b2 := b2 (by omega)
 have b3 := b3 (by omega)
 refine ⟨Int.tmod (65536 * v1 + 256 * v2 + v3) n, t3, u3, ?_, Int.tmod_nonneg _ (by omega), Int.tmod_lt_of_pos _ (by omega), c3.more (by omega)⟩
 unfold spec_l01Cur_wide.f
 rw [e1, Option.bind_some, e2, Option.bind_some, e3, Option.bind_some, if_neg (by omega), w64 (x := 65536 * v1) (by omega) (by omega), w64 (x := 256 * v2) (by omega) (by omega), w64 (x := 65536 * v1 + 256 * v2) (by omega) (by omega), w64 (by omega) (by omega)]
theorem raw_ev {code : List Int} {B t u : Int} (h : Cur code B t u) (hB : B ≤ 900000000) :
  ∃ v t' u', spec_l01Cur_raw.f code t u = some (v, t', u') ∧ -9223372036854775808 ≤ v ∧ v ≤ 9223372036854775807 ∧ Cur code (B + 2) t' u' := by
 obtain ⟨v1, t1, u1, e1, a1, b1, _, c1⟩ := pick_ev h (by omega) 8 (by omega)
 have b1 := b1 (by omega)
 unfold spec_l01Cur_raw.f
 rw [e1, Option.bind_some]
 by_cases g0 : v1 = 0
 ·obtain ⟨v2, t2, u2, e2, a2, b2, _, c2⟩ := pick_ev c1 (by omega) 256 (by omega)
  have b2 := b2 (by omega)
  exact ⟨v2 - 128, t2, u2, by rw [if_pos g0, e2, Option.bind_some, w64 (by omega) (by omega)], by omega, by omega, c2.more (by omega)⟩
 ·by_cases g1 : v1 = 1
  ·obtain ⟨v2, t2, u2, e2, a2, b2, _, c2⟩ := pick_ev c1 (by omega) 8 (by omega)
   have b2 := b2 (by omega)
   obtain ⟨j, rfl⟩ := Int.eq_ofNat_of_zero_le a2
   have hin : ∀ x ∈ ([9223372036854775807, (-9223372036854775808), 4611686018427387904, 4294967295, 4294967296, (-1000), 1000, 257] : List Int), -9223372036854775808 ≤ x ∧ x ≤ 9223372036854775807 := by
    intro x hx
    simp at hx
    omega
   have hr := hin (rd [9223372036854775807, (-9223372036854775808), 4611686018427387904, 4294967295, 4294967296, (-1000), 1000, 257] (j : Int)) (by
    rw [rd_nat, lget_lt _ j 0 (by simp; omega)]
    exact List.getElem_mem _)
   exact ⟨_, t2, u2, by rw [if_neg g0, if_pos g1, Option.bind_some, e2, Option.bind_some, if_pos (by omega), if_pos (by simp; omega)], hr.1, hr.2, c2.more (by omega)⟩
  ·obtain ⟨v2, t2, u2, e2, a2, b2, _, c2⟩ := pick_ev c1 (by omega) 14 (by omega)
   have b2 := b2 (by omega)
   exact ⟨v2 - 3, t2, u2, by rw [if_neg g0, if_neg g1, e2, Option.bind_some, w64 (by omega) (by omega)], by omega, by omega, c2.more (by omega)⟩
theorem lawSame_l0 (l : List Int) (hl : l.length ≤ 4000000) (d : Nat) : ∀ i : Nat, i + d = l.length → Ev (fun k => laws_same.l0 k l l (i : Int)) true := by
 induction d with
 | zero =>
  intro i h
  refine Ev.step (f := fun _ => some true) (fun k => ?_) (Ev.now true)
  rw [laws_same.l0, if_neg (by omega)]
 | succ d ih =>
  intro i h
  refine Ev.step (f := fun k => laws_same.l0 k l l ((i + 1 : Nat) : Int)) (fun k => ?_) (ih (i + 1) (by omega))
  rw [laws_same.l0, if_pos (by omega), if_pos (by omega), if_pos (by omega), if_pos rfl, w64 (by omega) (by omega)]
  rfl
theorem lawSame_ev (l : List Int) (hl : l.length ≤ 4000000) : Ev (fun k => laws_same.f k l l) true := by
 refine Ev.congr (f := fun k => laws_same.l0 k l l ((0 : Nat) : Int)) (fun k => ?_) (lawSame_l0 l hl l.length 0 (by omega))
 unfold laws_same.f
 rw [if_pos rfl]
 rfl
theorem rising_l0 (x6 : Int) (hx : 0 ≤ x6 ∧ x6 ≤ 3000) (c : Nat) : ∀ {code : List Int} {B t u : Int} (out : List Int) (x5 : Int), Cur code B t u → B + 3 * (c : Int) ≤ 800000000 → out.length + c ≤ 1000000 →
  ∃ l v t' u', Ev (fun k => spec_l01Cur_rising.l0 k out x5 x6 (c : Int) code t u) (l, v, t', u') ∧ l.length = out.length + c ∧ Cur code (B + 3 * (c : Int) + 1) t' u' := by
 induction c with
 | zero =>
  intro code B t u out x5 h hB hl
  obtain ⟨v, t1, u1, e1, a1, b1, _, c1⟩ := pick_ev h (by omega) 9 (by omega)
  refine ⟨out, wrap64 (wrap64 (x5 + 1) + v), t1, u1, Ev.step (f := fun _ => some (out, wrap64 (wrap64 (x5 + 1) + v), t1, u1)) (fun k => ?_) (Ev.now _), by omega, c1.more (by omega)⟩
  rw [spec_l01Cur_rising.l0, if_neg (by omega), e1, Option.bind_some]
 | succ c ih =>
  intro code B t u out x5 h hB hl
  obtain ⟨v, t1, u1, e1, a1, b1, c1⟩ := wide_ev h (by omega) (x6 + 1) (by omega) (by omega)
  obtain ⟨l, r, t', u', hev, hlen, hc⟩ := ih (out ++ [x5]) (wrap64 (x5 + v)) c1 (by omega) (by simp; omega)
  refine ⟨l, r, t', u', Ev.step (fun k => ?_) hev, by rw [hlen]; simp; omega, hc.more (by omega)⟩
  rw [spec_l01Cur_rising.l0, if_pos (by omega), if_pos (by omega), w64 (x := x6 + 1) (by omega) (by omega), e1, Option.bind_some, w64 (x := ((c + 1 : Nat) : Int) - 1) (by omega) (by omega), show ((c + 1 : Nat) : Int) - 1 = (c : Int) by omega]
theorem rising_ev {code : List Int} {B t u : Int} (h : Cur code B t u) (hB : B ≤ 1000) :
  ∃ l v t' u', Ev (fun k => spec_l01Cur_rising.f k code t u) (l, v, t', u') ∧ l.length ≤ 20 ∧ Cur code (B + 100) t' u' := by
 obtain ⟨v, t1, u1, e1, a1, b1, _, c1⟩ := pick_ev h (by omega) 4 (by omega)
 obtain ⟨v2, t2, u2, e2, a2, b2, _, c2⟩ := pick_ev c1 (by omega) 4 (by omega)
 have b2 := b2 (by omega)
 obtain ⟨v3, t3, u3, e3, a3, b3, c3⟩ := size_ev c2 (by omega) 20 (by omega) (by omega)
 obtain ⟨j, rfl⟩ := Int.eq_ofNat_of_zero_le a2
 obtain ⟨n, rfl⟩ := Int.eq_ofNat_of_zero_le a3
 have hr : 0 ≤ rd [1, 3, 40, 3000] (j : Int) ∧ rd [1, 3, 40, 3000] (j : Int) ≤ 3000 := by
  have hj : j < 4 := by omega
  match j, hj with
  | 0, _ => decide
  | 1, _ => decide
  | 2, _ => decide
  | 3, _ => decide
 obtain ⟨l, r, t', u', hev, hlen, hc⟩ := rising_l0 (rd [1, 3, 40, 3000] (j : Int)) hr n [] v c3 (by omega) (by simp; omega)
 refine ⟨l, r, t', u', Ev.congr (fun k => ?_) hev, by rw [hlen]; simp; omega, hc.more (by omega)⟩
 unfold spec_l01Cur_rising.f
 rw [e1, Option.bind_some, Option.bind_some, e2, Option.bind_some, if_pos (by omega), if_pos (by simp; omega), e3, Option.bind_some]
theorem drawSparse_ev {code : List Int} (h1 : ∀ x ∈ code, 0 ≤ x ∧ x ≤ 255) (h2 : code.length ≤ 140737488351232) :
  ∃ l u, Ev (fun k => spec_DrawSparseOf.f k code) (l, u) ∧ l.length ≤ 21 := by
 obtain ⟨t0, u0, e0, c0⟩ := open_ev h1 h2
 obtain ⟨l, v, t1, u1, hr, hl, c1⟩ := rising_ev c0 (by omega)
 obtain ⟨K1, k1⟩ := ev_out hr
 obtain ⟨v2, t2, u2, e2, a2, b2, _, c2⟩ := pick_ev c1 (by omega) 9 (by omega)
 by_cases g0 : v2 = 0
 ·obtain ⟨v3, t3, u3, e3, _, _, c3⟩ := raw_ev c2 (by omega)
  obtain ⟨v4, t4, u4, e4, a4, b4, _, c4⟩ := pick_ev c3 (by omega) 3 (by omega)
  have b4 := b4 (by omega)
  refine ⟨l, rd [v3, 1000000, 1000001] v4, ev_mk K1 fun k hk => ?_, by omega⟩
  unfold spec_DrawSparseOf.f
  rw [e0, Option.bind_some, k1 k hk, Option.bind_some, e2, Option.bind_some, if_pos g0, e3, Option.bind_some, Option.bind_some, e4, Option.bind_some, if_pos a4, if_pos (by simp; omega)]
 ·by_cases g1 : v2 = 1
  ·obtain ⟨v3, t3, u3, e3, _, _, c3⟩ := raw_ev c2 (by omega)
   refine ⟨l ++ [v3], v, ev_mk K1 fun k hk => ?_, by rw [List.length_append]; simp; omega⟩
   unfold spec_DrawSparseOf.f
   rw [e0, Option.bind_some, k1 k hk, Option.bind_some, e2, Option.bind_some, if_neg g0, if_pos g1, e3, Option.bind_some]
   dsimp only
   rw [if_pos (by omega)]
  ·refine ⟨l, v, ev_mk K1 fun k hk => ?_, by omega⟩
   unfold spec_DrawSparseOf.f
   rw [e0, Option.bind_some, k1 k hk, Option.bind_some, e2, Option.bind_some, if_neg g0, if_neg g1]
theorem law_l0 (l : List Int) (u : Int) (w m : Int) (ws : List Int) (m2 : Int) (ws2 : List Int) (h5 : l.length ≤ 5000) (g : Good l u) (K2 : Nat) (k2 : ∀ k, K2 ≤ k → impl_Sparse_read.f k u (l.length : Int) w (l.length : Int) m ws m2 ws2 = some (l, true)) (d : Nat) : ∀ i : Nat, i + d = l.length →
  Ev (fun k => laws_FnSparse.l0 k l (i : Int) u (l.length : Int) w (l.length : Int) m ws m2 ws2) true := by
 have hs := ((good_iff l u).1 g).2.2.1
 induction d with
 | zero =>
  intro i h
  refine Ev.step (f := fun _ => some _) (fun k => ?_) (Ev.now _)
  rw [laws_FnSparse.l0, if_neg (by omega)]
 | succ d ih =>
  intro i h
  obtain ⟨hc1, hc2⟩ := cnt_self l hs i (by omega)
  obtain ⟨b, h6⟩ := search_l0 l (l.getD i 0) hs (by omega) l.length 0 l.length (by omega) (by omega) (Nat.le_refl _) (fun t ht => by omega) (fun t h1 h2 => by omega)
  obtain ⟨K6, k6⟩ := ev_out h6
  obtain ⟨K7, k7⟩ := ev_out (contains_ev l (l.getD i 0) (by omega))
  obtain ⟨K8, k8⟩ := ev_out (ih (i + 1) (by omega))
  have hmem : l.getD i 0 ∈ l := by rw [lget_lt _ _ _ (by omega)]; exact List.getElem_mem (by omega)
  refine ev_mk (K2 + K6 + K7 + K8 + 2) fun k hk => ?_
  obtain ⟨k, rfl⟩ : ∃ m, k = m + 2 := ⟨k - 2, by omega⟩
  have r1 : impl_SparseRank.f (k + 1) u (l.length : Int) w (l.length : Int) m ws m2 ws2 (l.getD i 0) = some ((cntB l (l.getD i 0) : Nat) : Int) := by
   unfold impl_SparseRank.f slices_BinarySearch_int_int.f
   have h7 : slices_BinarySearch_int_int.l0 (k + 1) l (l.getD i 0) (l.length : Int) 0 (l.length : Int) = some (((cntB l (l.getD i 0) : Nat) : Int), b) := k6 _ (by omega)
   rw [k2 _ (by omega), Option.bind_some, if_pos rfl, h7, Option.bind_some]
  have r2 : impl_SparseAt.f (k + 1) u (l.length : Int) w (l.length : Int) m ws m2 ws2 (i : Int) = some (l.getD i 0) := by
   unfold impl_SparseAt.f impl_within.f
   rw [k2 _ (by omega), Option.bind_some]
   dsimp only
   rw [if_pos rfl, if_pos (by omega), Option.bind_some, w64 (by omega) (by omega), if_pos (decide_eq_true (by omega)), if_pos (by omega), if_pos (by omega), rd_nat]
  have r3 : impl_SparseHas.f (k + 1) u (l.length : Int) w (l.length : Int) m ws m2 ws2 (l.getD i 0) = some true := by
   unfold impl_SparseHas.f
   rw [k2 _ (by omega), Option.bind_some, if_pos rfl, k7 _ (by omega), Option.bind_some, decide_eq_true hmem]
  rw [laws_FnSparse.l0, if_pos (by omega), if_pos (by omega), rd_nat, r1, Option.bind_some, r2, Option.bind_some, if_pos rfl, if_neg (by omega), if_neg (by omega), if_pos (by omega), if_pos (by omega), rd_nat, hc2, if_pos rfl, r3, Option.bind_some]
  show laws_FnSparse.j3 (k + 1) l (i : Int) false u (l.length : Int) w (l.length : Int) m ws m2 ws2 = some true
  rw [laws_FnSparse.j3, if_neg (by decide), w64 (by omega) (by omega)]
  exact k8 k (by omega)
theorem FnSparse : laws_FnSparse.Pure := by
 intro code _ hc hw
 by_cases g : (code.length : Int) > 1048576
 ·exact ⟨0, by unfold laws_FnSparse.f laws_big.f; rw [Option.bind_some, if_pos (decide_eq_true g)]⟩
 obtain ⟨l, u, hd, hl⟩ := drawSparse_ev (code_wf hw) (by omega)
 obtain ⟨K1, h1⟩ := ev_out hd
 obtain ⟨K2, h2⟩ := ev_out (specSparse_ev l u (by omega))
 obtain ⟨K3, h3⟩ := ev_out (implSparse_ev l u (by omega))
 by_cases h : (sparseR l u).2.2.2.2.2.2.2.2 = true
 ·obtain ⟨w, m, ws, m2, ws2, he, hw1, hw2, hl1, hl2, gd, _, hrd⟩ := back_all h
  obtain ⟨K4, k4⟩ := ev_out (implRead_ev u (l.length : Int) (w : Int) (l.length : Int) (m : Int) ws (m2 : Int) ws2 hw1 hw2 (by omega) (by omega) (by omega) (by omega))
  rw [hrd] at k4
  have hgi := (good_iff l u).1 gd
  obtain ⟨K5, k5⟩ := ev_out (lawSame_ev l (by omega))
  obtain ⟨b, h6⟩ := search_l0 l u hgi.2.2.1 (by omega) l.length 0 l.length (by omega) (by omega) (Nat.le_refl _) (fun t ht => by omega) (fun t h1 h2 => by omega)
  obtain ⟨K6, k6⟩ := ev_out h6
  obtain ⟨K7, k7⟩ := ev_out (law_l0 l u (w : Int) (m : Int) ws (m2 : Int) ws2 (by omega) gd K4 k4 l.length 0 (by omega))
  have hcf := cnt_full l u (fun x hx => (hgi.2.2.2 x hx).2)
  obtain ⟨K, hK⟩ : ∃ K, K = K1 + K2 + K3 + K4 + K5 + K6 + K7 := ⟨_, rfl⟩
  refine ⟨K + 2, ?_⟩
  have rL : impl_SparseList.f (K + 1) u (l.length : Int) (w : Int) (l.length : Int) (m : Int) ws (m2 : Int) ws2 = some l := by
   unfold impl_SparseList.f
   rw [k4 _ (by omega), Option.bind_some, if_pos rfl]
  have rO : impl_SparseOk.f (K + 1) u (l.length : Int) (w : Int) (l.length : Int) (m : Int) ws (m2 : Int) ws2 = some true := by
   unfold impl_SparseOk.f
   rw [k4 _ (by omega), Option.bind_some]
  have rR : impl_SparseRank.f (K + 1) u (l.length : Int) (w : Int) (l.length : Int) (m : Int) ws (m2 : Int) ws2 u = some (l.length : Int) := by
   unfold impl_SparseRank.f slices_BinarySearch_int_int.f
   have h7 : slices_BinarySearch_int_int.l0 (K + 1) l u (l.length : Int) 0 (l.length : Int) = some (((cntB l u : Nat) : Int), b) := k6 _ (by omega)
   rw [k4 _ (by omega), Option.bind_some, if_pos rfl, h7, Option.bind_some, hcf]
  unfold laws_FnSparse.f laws_big.f
  rw [Option.bind_some, if_neg (by rw [decide_eq_false g]; decide), h1 _ (by omega), Option.bind_some, h2 _ (by omega), Option.bind_some, h3 _ (by omega), Option.bind_some, he]
  dsimp only
  rw [if_neg (by decide), laws_FnSparse.j0, if_neg (by decide), rL, Option.bind_some, k5 _ (by omega), Option.bind_some, if_pos rfl, rO, Option.bind_some, if_pos rfl, rR, Option.bind_some, bne_self_eq_false, laws_FnSparse.j1, if_neg (by decide)]
  exact k7 K (by omega)
 ·have hf : (sparseR l u).2.2.2.2.2.2.2.2 = false := by rw [← Bool.not_eq_true]; exact h
  refine ⟨K1 + K2 + K3 + 1, ?_⟩
  unfold laws_FnSparse.f laws_big.f
  rw [Option.bind_some, if_neg (by rw [decide_eq_false g]; decide), h1 _ (by omega), Option.bind_some, h2 _ (by omega), Option.bind_some, h3 _ (by omega), Option.bind_some, hf]
  rw [if_neg (by decide), laws_FnSparse.j0, if_pos (by decide)]
  rfl

end Go.Proofs.Ytmohfjfgpeapfaa.Pure
