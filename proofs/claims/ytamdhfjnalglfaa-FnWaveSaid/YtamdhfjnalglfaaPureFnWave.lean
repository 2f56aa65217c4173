/- A drawn list is recovered from its wavelet matrix, and the k-th occurrence of one of its numbers has exactly k occurrences before it. -/
import Derived.Test.YtamdhfjnalglfaaQFnWavex8
import Derived.Test.YtamdhfjnalglfaaBase
import Derived.Test.YtamdhfjnalglfaaBits
namespace Go.Proofs.Ytamdhfjnalglfaa.Pure
open Go.RowKit Go.Proofs.Ytamdhfjnalglfaa.QFnWave Go.Proofs.YtamdhfjnalglfaaW.PrintWords Go.Proofs.YtamdhfjnalglfaaW.PrintLast Go.Proofs.YtamdhfjnalglfaaW.PrintMore
open Go.Proofs.Ytamdhfjnalglfaa Go.Proofs.Ytamdhfjnalglfaa.Base Go.Proofs.Ytamdhfjnalglfaa.Bits
set_option linter.unusedVariables false
set_option linter.unusedSimpArgs false

theorem wu64 {x : Int} (h0 : 0 ≤ x) (h1 : x < 18446744073709551616) : IntKind.u64.wrap x = x := by
  simp [IntKind.wrap, IntKind.bits, IntKind.signed]
  omega
theorem td64 (i : Nat) : Int.tdiv (i : Int) 64 = ((i / 64 : Nat) : Int) := rfl
theorem tm64 (i : Nat) : Int.tmod (i : Int) 64 = ((i % 64 : Nat) : Int) := rfl
def Words (ws : List Int) : Prop := ∀ x ∈ ws, 0 ≤ x ∧ x < 2 ^ 64
theorem l01Power_l0 (m : Nat) : ∀ (a : Nat), a * 2 ^ m < 18446744073709551616 → m ≤ 64 → Ev (fun k => spec_l01Power.l0 k (m : Int) (a : Int)) ((a * 2 ^ m : Nat) : Int) := by
  induction m with
  | zero =>
    intro a h hm
    refine Ev.step (f := fun _ => some _) (fun k => ?_) (Ev.now _)
    rw [spec_l01Power.l0, if_neg (by omega), Nat.pow_zero, Nat.mul_one]
  | succ m ih =>
    intro a h hm
    have hp : 0 < 2 ^ m := Nat.two_pow_pos m
    have e : a * 2 ^ (m + 1) = (2 * a) * 2 ^ m := by rw [Nat.pow_succ, Nat.mul_comm (2 ^ m) 2, ← Nat.mul_assoc, Nat.mul_comm a 2]
    rw [e] at h ⊢
    have : 2 * a ≤ (2 * a) * 2 ^ m := Nat.le_mul_of_pos_right _ hp
    refine Ev.step (f := fun k => spec_l01Power.l0 k (m : Int) ((2 * a : Nat) : Int)) (fun k => ?_) (ih (2 * a) h (by omega))
    rw [spec_l01Power.l0, if_pos (by omega), w64 (by omega) (by omega), wu64 (by omega) (by omega), show ((m + 1 : Nat) : Int) - 1 = (m : Int) by omega]
    rfl
theorem pow64 (m : Nat) (h : m < 64) : 2 ^ m < 18446744073709551616 := Nat.pow_lt_pow_right (a := 2) (n := 64) (by decide) h
theorem pow64i (m : Nat) (h : m ≤ 64) : (2 : Int) ^ m ≤ 18446744073709551616 := by
  have : 2 ^ m ≤ 2 ^ 64 := Nat.pow_le_pow_right (by decide) h
  have e : (2 : Int) ^ m = ((2 ^ m : Nat) : Int) := by simp
  omega
theorem l01Power_ev (m : Nat) (h : m < 64) : Ev (fun k => spec_l01Power.f k (m : Int)) ((2 : Int) ^ m) := by
  have := l01Power_l0 m 1 (by rw [Nat.one_mul]; exact pow64 m h) (by omega)
  rw [Nat.one_mul] at this
  rw [show (2 : Int) ^ m = ((2 ^ m : Nat) : Int) by simp]
  exact this
theorem bitsOf_j2 (l : List Int) (hb : ∀ i, i < l.length → l.getD i 0 = 0 ∨ l.getD i 0 = 1) (h5 : l.length ≤ 5000) (i : Nat) (hi : i < l.length) (r : Int × List Int × Bool)
    (hr : Ev (fun k => spec_BitsOf.l0 k l ((i + 1 : Nat) : Int) (l.length : Int) (wordsTo l (i + 1) (i / 64 + 1))) r) : Ev (fun k => spec_BitsOf.j2 k l (i : Int) (l.length : Int) (wordsTo l i (i / 64 + 1))) r := by
  have e1 : wrap64 ((i : Int) + 1) = ((i + 1 : Nat) : Int) := w64 (by omega) (by omega)
  rcases hb i hi with q | q
  · refine Ev.step (f := fun k => spec_BitsOf.l0 k l ((i + 1 : Nat) : Int) (l.length : Int) (wordsTo l (i + 1) (i / 64 + 1))) (fun k => ?_) hr
    rw [spec_BitsOf.j2, if_pos (by omega), if_pos (by omega), rd_nat, q, if_neg (by decide), e1, wordsTo_skip l i _ q]
  · obtain ⟨K1, h1⟩ := ev_out (l01Power_ev (i % 64) (by omega))
    obtain ⟨K2, h2⟩ := ev_out hr
    refine ev_mk (K1 + K2 + 1) fun k hk => ?_
    obtain ⟨k, rfl⟩ : ∃ m, k = m + 1 := ⟨k - 1, by omega⟩
    have hlen := wordsTo_length l i (i / 64 + 1)
    have hbd := wordAt_bound l hb i (i / 64) (by omega)
    rw [show min 64 (i - 64 * (i / 64)) = i % 64 by omega] at hbd
    have hp := pow64i (i % 64 + 1) (by omega)
    rw [Int.pow_succ] at hp
    rw [spec_BitsOf.j2, if_pos (by omega), if_pos (by omega), rd_nat, q, if_pos rfl, td64, tm64, w64 (by omega) (by omega), if_pos (by omega), if_pos (by rw [hlen]; omega), h1 k (by omega), Option.bind_some, e1, rd_nat, wordsTo_get _ _ _ _ (by omega),
      wu64 (by have := two_pos (i % 64); omega) (by omega), Int.toNat_natCast, wordsTo_set l i _ _ (by omega) (by rw [q, Int.one_mul])]
    exact h2 k (by omega)
theorem bitsOf_l0 (l : List Int) (hb : ∀ i, i < l.length → l.getD i 0 = 0 ∨ l.getD i 0 = 1) (h5 : l.length ≤ 5000) (d : Nat) : ∀ i : Nat, i + d = l.length →
    Ev (fun k => spec_BitsOf.l0 k l (i : Int) (l.length : Int) (wordsTo l i ((i + 63) / 64))) ((l.length : Int), wordsOf l, true) := by
  induction d with
  | zero =>
    intro i h
    obtain rfl : i = l.length := by omega
    refine Ev.step (f := fun _ => some _) (fun k => ?_) (Ev.now _)
    rw [spec_BitsOf.l0, if_neg (by omega)]
    rfl
  | succ d ih =>
    intro i h
    have hr := bitsOf_j2 l hb h5 i (by omega) _ (by have := ih (i + 1) (by omega); rwa [show (i + 1 + 63) / 64 = i / 64 + 1 by omega] at this)
    have hj : Ev (fun k => spec_BitsOf.j1 k l (i : Int) false (l.length : Int) (wordsTo l i ((i + 63) / 64))) ((l.length : Int), wordsOf l, true) := by
      refine Ev.step (fun k => ?_) hr
      rw [spec_BitsOf.j1, if_neg (by decide), tm64]
      by_cases q : i % 64 = 0
      · rw [if_pos (by omega), if_pos (by rw [wordsTo_length]; omega), wordsTo_more l i q]
      · rw [if_neg (by omega), show (i + 63) / 64 = i / 64 + 1 by omega]
    refine Ev.step (fun k => ?_) hj
    rw [spec_BitsOf.l0, if_pos (by omega), if_pos (by omega), rd_nat]
    rcases hb i (by omega) with q | q
    · rw [q, if_pos rfl]
    · rw [q, if_neg (by decide)]
      rfl
theorem specBitsOf_ev (l : List Int) (hb : ∀ i, i < l.length → l.getD i 0 = 0 ∨ l.getD i 0 = 1) (h5 : l.length ≤ 5000) : Ev (fun k => spec_BitsOf.f k l) ((l.length : Int), wordsOf l, true) := by
  refine Ev.congr (f := fun k => spec_BitsOf.l0 k l ((0 : Nat) : Int) (l.length : Int) (wordsTo l 0 ((0 + 63) / 64))) (fun k => ?_) (bitsOf_l0 l hb h5 l.length 0 (by omega))
  unfold spec_BitsOf.f
  rw [if_neg (by omega)]
  rfl
theorem specBitsOf_big (l : List Int) (h5 : 5000 < l.length) : Ev (fun k => spec_BitsOf.f k l) (0, [], false) := by
  refine Ev.congr (f := fun _ => some _) (fun k => ?_) (Ev.now _)
  unfold spec_BitsOf.f
  rw [if_pos (by omega)]

theorem td2 (i : Nat) : Int.tdiv (i : Int) 2 = ((i / 2 : Nat) : Int) := rfl
theorem tm2 (i : Nat) : Int.tmod (i : Int) 2 = ((i % 2 : Nat) : Int) := rfl
theorem Words.get {ws : List Int} (h : Words ws) (j : Nat) (hj : j < ws.length) : ∃ a : Nat, ws.getD j 0 = (a : Int) ∧ a < 18446744073709551616 := by
  have := h _ (List.getElem_mem hj)
  rw [← lget_lt ws j 0 hj] at this
  refine ⟨(ws.getD j 0).toNat, by omega, by omega⟩
theorem bitAt_nat {ws : List Int} {i a : Nat} (h : ws.getD (i / 64) 0 = (a : Int)) : bitAt ws i = ((a / 2 ^ (i % 64) % 2 : Nat) : Int) := by
  unfold bitAt
  rw [h]
  simp
/-- Whether words are the words of a list of n bits. -/
def okB (n : Int) (ws : List Int) : Bool := decide (0 ≤ n ∧ n ≤ 5000 ∧ ws.length = (n.toNat + 63) / 64 ∧ wordsOf (bitsL n.toNat ws) = ws)
theorem bitsL_get01 (n : Nat) (ws : List Int) : ∀ i, i < (bitsL n ws).length → (bitsL n ws).getD i 0 = 0 ∨ (bitsL n ws).getD i 0 = 1 := by
  intro i hi
  rw [bitsL_length] at hi
  rw [bitsL_get _ _ _ hi]
  exact bitAt_01 ws i

-- the program's bits
theorem and1 (a : Nat) (h : a < 18446744073709551616) : Go.bits .and .u64 (a : Int) 1 = ((a % 2 : Nat) : Int) := by
  have := bits_mask .u64 64 (by decide) (fun n h0 h1 => wu64 h0 (by omega)) 1 (by decide) (a : Int) (by omega) (by omega)
  rw [show ((2 : Int) ^ 1 - 1) = 1 by decide] at this
  rw [this]
  omega
theorem shr_nat (a m : Nat) (h : m < 64) : shr .u64 (a : Int) ((m : Nat) : Int) = ((a / 2 ^ m : Nat) : Int) := by
  unfold shr
  rw [Int.toNat_natCast, show min m IntKind.u64.bits = m by show min m 64 = m; omega]
  simp
theorem at_ev (n : Int) (ws : List Int) (hw : Words ws) (i : Nat) (hi : i < 64 * ws.length) (h5 : i ≤ 1000000) : impl_Bits_at.f n ws (i : Int) = some (bitAt ws i) := by
  obtain ⟨a, ea, ha⟩ := hw.get (i / 64) (by omega)
  have hd : a / 2 ^ (i % 64) ≤ a := Nat.div_le_self _ _
  unfold impl_Bits_at.f
  rw [td64, tm64, w64 (by omega) (by omega), if_pos (by omega), if_pos (by omega), if_pos (by omega), rd_nat, ea, shr_nat _ _ (by omega), and1 _ (by omega), w64 (by omega) (by omega), bitAt_nat ea]
theorem list_l0 (n : Nat) (ws : List Int) (hw : Words ws) (hn : n ≤ 64 * ws.length) (h5 : n ≤ 5000) (d : Nat) : ∀ i : Nat, i + d = n → Ev (fun k => impl_Bits_list.l0 k (bitsL i ws) (n : Int) (i : Int) (n : Int) ws) (bitsL n ws) := by
  induction d with
  | zero =>
    intro i h
    obtain rfl : i = n := by omega
    refine Ev.step (f := fun _ => some _) (fun k => ?_) (Ev.now _)
    rw [impl_Bits_list.l0, if_neg (by omega)]
  | succ d ih =>
    intro i h
    refine Ev.step (fun k => ?_) (ih (i + 1) (by omega))
    rw [impl_Bits_list.l0, if_pos (by omega), at_ev _ _ hw i (by omega) (by omega), Option.bind_some, if_pos (by rw [bitsL_length]; omega), w64 (by omega) (by omega), bitsL_succ]
    rfl
theorem list_ev (n : Nat) (ws : List Int) (hw : Words ws) (hn : n ≤ 64 * ws.length) (h5 : n ≤ 5000) : Ev (fun k => impl_Bits_list.f k (n : Int) ws) (bitsL n ws) :=
  Ev.congr (f := fun k => impl_Bits_list.l0 k (bitsL 0 ws) (n : Int) ((0 : Nat) : Int) (n : Int) ws) (fun _ => rfl) (list_l0 n ws hw hn h5 n 0 (by omega))
theorem implBitsOk_ev (n : Int) (ws : List Int) (hw : Words ws) (hl : ws.length ≤ 4000000) (hn : -9223372036854775808 ≤ n) : impl_BitsOk.f n ws = some (okB n ws) := by
  unfold impl_BitsOk.f impl_within.f
  by_cases h0 : 0 ≤ n
  case neg =>
    rw [if_neg h0, Option.bind_some, if_neg (by decide), okB, decide_eq_false (by omega)]
  rw [if_pos h0, Option.bind_some]
  by_cases h1 : n ≤ 5000
  case neg =>
    rw [decide_eq_false h1, if_neg (by decide), okB, decide_eq_false (by omega)]
  rw [decide_eq_true h1, if_pos rfl]
  obtain ⟨n, rfl⟩ := Int.eq_ofNat_of_zero_le h0
  have e : wrap64 (Int.tdiv (wrap64 ((wrap64 ((n : Int) + 64)) - 1)) 64) = (((n + 63) / 64 : Nat) : Int) := by
    rw [w64 (x := (n : Int) + 64) (by omega) (by omega), w64 (x := (n : Int) + 64 - 1) (by omega) (by omega), show (n : Int) + 64 - 1 = ((n + 63 : Nat) : Int) by omega, td64, w64 (by omega) (by omega)]
  rw [e]
  by_cases q : ws.length = (n + 63) / 64
  case neg =>
    rw [if_neg (by omega), okB, decide_eq_false (by rw [Int.toNat_natCast]; exact fun h => q h.2.2.1)]
  rw [if_pos (by omega), tm64]
  have W := wordsOf_bits n ws hw q
  have fin : ∀ b : Bool, (b = true ↔ (n % 64 = 0 ∨ ws.getD (ws.length - 1) 0 / 2 ^ (n % 64) = 0)) → some b = some (okB (n : Int) ws) := by
    intro b hb
    congr 1
    rw [Bool.eq_iff_iff, hb, ← W, okB, decide_eq_true_iff, Int.toNat_natCast]
    exact ⟨fun h => ⟨by omega, by omega, q, h⟩, fun h => h.2.2.2⟩
  by_cases z : n % 64 = 0
  · rw [if_pos (by omega)]
    exact fin true ⟨fun _ => .inl z, fun _ => rfl⟩
  · obtain ⟨a, ea, ha⟩ := hw.get (ws.length - 1) (by omega)
    rw [if_neg (by omega), w64 (by omega) (by omega), if_pos (by omega), if_pos (by omega), if_pos (by omega), show (ws.length : Int) - 1 = ((ws.length - 1 : Nat) : Int) by omega, rd_nat, ea, shr_nat _ _ (by omega)]
    refine fin _ ?_
    rw [beq_iff_eq, ea]
    constructor
    · intro h
      right
      have : ((a : Int) / 2 ^ (n % 64)) = ((a / 2 ^ (n % 64) : Nat) : Int) := by simp
      rw [this]
      exact h
    · rintro (h | h)
      · exact absurd h z
      · have : ((a : Int) / 2 ^ (n % 64)) = ((a / 2 ^ (n % 64) : Nat) : Int) := by simp
        rw [this] at h
        exact h

-- the program's words of a list
theorem bitsOr_comm (x y : Int) : Go.bits .or .u64 x y = Go.bits .or .u64 y x := by
  unfold Go.bits
  dsimp only
  rw [BitVec.or_comm]
theorem or_bit (x : Int) (m : Nat) (v : Int) (hx : 0 ≤ x) (hx1 : x < 2 ^ m) (hm : m < 64) (hv : v = 0 ∨ v = 1) : Go.bits .or .u64 x (shl .u64 (IntKind.u64.wrap v) (m : Int)) = x + v * 2 ^ m := by
  have hp := pow64i (m + 1) (by omega)
  rw [Int.pow_succ] at hp
  have hp0 := two_pos m
  rcases hv with rfl | rfl
  · have e : shl .u64 (IntKind.u64.wrap 0) (m : Int) = 0 := by
      unfold shl
      rw [wu64 (x := 0) (by decide) (by decide), Int.zero_mul]
      exact wu64 (by decide) (by decide)
    rw [e, bits_join .u64 64 (by decide) (fun n h0 h1 => wu64 h0 (by omega)) 0 x 0 hx (by simp [Int.emod_one]) (by omega) (by decide) (by decide) (by decide)]
    simp
  · have e : shl .u64 (IntKind.u64.wrap 1) (m : Int) = 2 ^ m := by
      unfold shl
      rw [wu64 (x := 1) (by decide) (by decide), Int.one_mul, Int.toNat_natCast, show min m IntKind.u64.bits = m by show min m 64 = m; omega]
      exact wu64 (by omega) (by omega)
    rw [e, bitsOr_comm, bits_join .u64 64 (by decide) (fun n h0 h1 => wu64 h0 (by omega)) m (2 ^ m) x (by omega) Int.emod_self (by omega) hx hx1 (by omega)]
    omega
theorem implBitsOf_l0 (l : List Int) (hb : ∀ i, i < l.length → l.getD i 0 = 0 ∨ l.getD i 0 = 1) (h5 : l.length ≤ 5000) (d : Nat) : ∀ i : Nat, i + d = l.length →
    Ev (fun k => impl_bitsOf.l0 k l (l.length : Int) (i : Int) (l.length : Int) (wordsTo l i ((l.length + 63) / 64))) ((l.length : Int), wordsOf l) := by
  induction d with
  | zero =>
    intro i h
    obtain rfl : i = l.length := by omega
    refine Ev.step (f := fun _ => some _) (fun k => ?_) (Ev.now _)
    rw [impl_bitsOf.l0, if_neg (by omega)]
    rfl
  | succ d ih =>
    intro i h
    refine Ev.step (fun k => ?_) (ih (i + 1) (by omega))
    have hbd := wordAt_bound l hb i (i / 64) (by omega)
    rw [show min 64 (i - 64 * (i / 64)) = i % 64 by omega] at hbd
    rw [impl_bitsOf.l0, if_pos (by omega), if_pos (by omega), if_pos (by omega), td64, tm64, w64 (by omega) (by omega), if_pos (by omega), if_pos (by rw [wordsTo_length]; omega), if_pos (by omega), w64 (by omega) (by omega), rd_nat, rd_nat, Int.toNat_natCast,
      wordsTo_get _ _ _ _ (by omega), or_bit _ _ _ hbd.1 hbd.2 (by omega) (hb i (by omega)), wordsTo_set l i _ _ (by omega) rfl]
    rfl
theorem implBitsOf_ev (l : List Int) (hb : ∀ i, i < l.length → l.getD i 0 = 0 ∨ l.getD i 0 = 1) (h5 : l.length ≤ 5000) : Ev (fun k => impl_bitsOf.f k l) ((l.length : Int), wordsOf l) := by
  have e : wrap64 (Int.tdiv (wrap64 ((wrap64 ((l.length : Int) + 64)) - 1)) 64) = (((l.length + 63) / 64 : Nat) : Int) := by
    rw [w64 (x := (l.length : Int) + 64) (by omega) (by omega), w64 (x := (l.length : Int) + 64 - 1) (by omega) (by omega), show (l.length : Int) + 64 - 1 = ((l.length + 63 : Nat) : Int) by omega, td64, w64 (by omega) (by omega)]
  have z : wordsTo l 0 ((l.length + 63) / 64) = List.replicate ((l.length + 63) / 64) 0 := by
    apply ext_getD 0 (by rw [wordsTo_length, List.length_replicate])
    intro j hj
    rw [wordsTo_length] at hj
    rw [wordsTo_get _ _ _ _ hj, lrep]
    unfold wordAt
    rw [show min 64 (0 - 64 * j) = 0 by omega, wsum]
  refine Ev.congr (f := fun k => impl_bitsOf.l0 k l (l.length : Int) ((0 : Nat) : Int) (l.length : Int) (wordsTo l 0 ((l.length + 63) / 64))) (fun k => ?_) (implBitsOf_l0 l hb h5 l.length 0 (by omega))
  unfold impl_bitsOf.f
  rw [e, if_pos (by omega), Int.toNat_natCast, if_pos (by omega), z]
  rfl
theorem words_lt (l : List Int) (hb : ∀ i, i < l.length → l.getD i 0 = 0 ∨ l.getD i 0 = 1) : Words (wordsOf l) := by
  intro x hx
  unfold wordsOf wordsTo at hx
  obtain ⟨j, _, rfl⟩ := List.mem_map.1 hx
  have h := wordAt_bound l hb l.length j (Nat.le_refl _)
  have hp := pow64i (min 64 (l.length - 64 * j)) (by omega)
  exact ⟨h.1, by omega⟩

-- counting
theorem drop_cons (l : List Int) (i : Nat) (h : i < l.length) : l.drop i = l.getD i 0 :: l.drop (i + 1) := by
  rw [List.drop_eq_getElem_cons h, lget_lt _ _ _ h]
theorem count01 (l : List Int) (h : ∀ x ∈ l, x = 0 ∨ x = 1) : l.count 0 + l.count 1 = l.length := by
  induction l with
  | nil => rfl
  | cons x xs ih =>
    have := ih fun y hy => h y (List.mem_cons_of_mem _ hy)
    rw [List.count_cons, List.count_cons, List.length_cons]
    rcases h x (List.mem_cons_self ..) with q | q <;> rw [q] <;> simp <;> omega
theorem count_drop (l : List Int) (v : Int) (i : Nat) (h : i < l.length) : (l.drop i).count v = (l.drop (i + 1)).count v + if l.getD i 0 = v then 1 else 0 := by
  rw [drop_cons l i h, List.count_cons]
  congr 1
  by_cases q : l.getD i 0 = v
  · rw [if_pos q, if_pos (by simpa using q)]
  · rw [if_neg q, if_neg (by simpa using q)]
theorem count_le (l : List Int) (v : Int) : l.count v ≤ l.length := List.count_le_length

theorem count_l0 (l : List Int) (v : Int) (h5 : l.length ≤ 5000) (d : Nat) : ∀ (i : Nat) (c : Nat), i + d = l.length → c ≤ i → Ev (fun k => impl_count.l0 k v (c : Int) l (l.length : Int) (i : Int)) ((c + (l.drop i).count v : Nat) : Int) := by
  induction d with
  | zero =>
    intro i c hi ha
    obtain rfl : i = l.length := by omega
    refine Ev.step (f := fun _ => some _) (fun k => ?_) (Ev.now _)
    rw [impl_count.l0, if_neg (by omega), List.drop_length]
    rfl
  | succ d ih =>
    intro i c hi ha
    rw [count_drop l v i (by omega)]
    have e1 : wrap64 ((i : Int) + 1) = ((i + 1 : Nat) : Int) := w64 (by omega) (by omega)
    by_cases q : l.getD i 0 = v
    · refine Ev.step (fun k => ?_) (by rw [if_pos q, show c + ((l.drop (i + 1)).count v + 1) = c + 1 + (l.drop (i + 1)).count v by omega]; exact ih (i + 1) (c + 1) (by omega) (by omega))
      rw [impl_count.l0, if_pos (by omega), if_pos (by omega), if_pos (by omega), rd_nat, if_pos q, w64 (x := (c : Int) + 1) (by omega) (by omega), e1]
      rfl
    · refine Ev.step (fun k => ?_) (by rw [if_neg q, Nat.add_zero]; exact ih (i + 1) c (by omega) (by omega))
      rw [impl_count.l0, if_pos (by omega), if_pos (by omega), if_pos (by omega), rd_nat, if_neg q, e1]

theorem okB_out {n : Int} {ws : List Int} (h : okB n ws = true) : 0 ≤ n ∧ n ≤ 5000 ∧ ws.length = (n.toNat + 63) / 64 := by
  have := of_decide_eq_true h
  exact ⟨this.1, this.2.1, this.2.2.1⟩

theorem rdT64 (l : List S64) (i : Nat) : rd_T64 l (i : Int) = l.getD i z64 := by unfold rd_T64; rw [Int.toNat_natCast]

-- a wave's numbers
def stepB (B : List Int) (p : Nat) : Nat := if B.getD p 0 = 1 then B.count 0 + (B.take p).count 1 else (B.take p).count 0
theorem count_take (l : List Int) (v : Int) (i : Nat) (h : i < l.length) : (l.take (i + 1)).count v = (l.take i).count v + if l.getD i 0 = v then 1 else 0 := by
  rw [take_succ_getD l 0 i h, List.count_append, List.count_singleton]
  congr 1
  by_cases q : l.getD i 0 = v
  · rw [if_pos q, if_pos (by simpa using q)]
  · rw [if_neg q, if_neg (by simpa using q)]
theorem count_take_le (l : List Int) (v : Int) (i : Nat) : (l.take i).count v ≤ l.count v := List.Sublist.count_le v (List.take_sublist i l)
theorem count_take_len (l : List Int) (v : Int) (i : Nat) : (l.take i).count v ≤ i := Nat.le_trans (count_le _ _) (by rw [List.length_take]; omega)
theorem stepB_lt (B : List Int) (h01 : ∀ x ∈ B, x = 0 ∨ x = 1) (p : Nat) (h : p < B.length) : stepB B p < B.length := by
  unfold stepB
  have h1 := count01 B h01
  by_cases q : B.getD p 0 = 1
  · rw [if_pos q]
    have h2 := count_take B 1 p h
    rw [if_pos q] at h2
    have h3 := count_take_le B 1 (p + 1)
    omega
  · rw [if_neg q]
    have := count_take_len B 0 p
    omega
def st (Bf : Nat → List Int) (i : Nat) : Nat → Nat × Nat
  | 0 => (i, 0)
  | l + 1 => (stepB (Bf l) (st Bf i l).1, 2 * (st Bf i l).2 + ((Bf l).getD (st Bf i l).1 0).toNat)
theorem st_lt (Bf : Nat → List Int) (n i : Nat) (hi : i < n) : ∀ l, (∀ m, m < l → (Bf m).length = n ∧ ∀ x ∈ Bf m, x = 0 ∨ x = 1) → (st Bf i l).1 < n
  | 0, _ => hi
  | l + 1, h => by
    have h1 := st_lt Bf n i hi l (fun m hm => h m (by omega))
    have h2 := h l (by omega)
    have h3 := stepB_lt (Bf l) h2.2 (st Bf i l).1 (by omega)
    rw [h2.1] at h3
    exact h3
theorem get01 (B : List Int) (h01 : ∀ x ∈ B, x = 0 ∨ x = 1) (p : Nat) (h : p < B.length) : B.getD p 0 = 0 ∨ B.getD p 0 = 1 := by
  rw [lget_lt _ _ _ h]
  exact h01 _ (List.getElem_mem h)
theorem st_val (Bf : Nat → List Int) (n i : Nat) (hi : i < n) : ∀ l, (∀ m, m < l → (Bf m).length = n ∧ ∀ x ∈ Bf m, x = 0 ∨ x = 1) → (st Bf i l).2 < 2 ^ l
  | 0, _ => by show 0 < 1; omega
  | l + 1, h => by
    have h1 := st_val Bf n i hi l (fun m hm => h m (by omega))
    have h2 := h l (by omega)
    have h3 := get01 (Bf l) h2.2 (st Bf i l).1 (by rw [h2.1]; exact st_lt Bf n i hi l (fun m hm => h m (by omega)))
    show 2 * (st Bf i l).2 + ((Bf l).getD (st Bf i l).1 0).toNat < 2 ^ (l + 1)
    rw [Nat.pow_succ]
    omega
def valL (Bf : Nat → List Int) (l n : Nat) : List Int := (List.range n).map fun i => ((st Bf i l).2 : Int)
def posL (Bf : Nat → List Int) (l n : Nat) : List Int := (List.range n).map fun i => ((st Bf i l).1 : Int)
theorem valL_length (Bf : Nat → List Int) (l n : Nat) : (valL Bf l n).length = n := by simp [valL]
theorem posL_length (Bf : Nat → List Int) (l n : Nat) : (posL Bf l n).length = n := by simp [posL]
theorem valL_get (Bf : Nat → List Int) (l n i : Nat) (h : i < n) : (valL Bf l n).getD i 0 = ((st Bf i l).2 : Int) := by
  rw [lget_lt _ _ _ (by rw [valL_length]; exact h)]
  simp [valL]
theorem posL_get (Bf : Nat → List Int) (l n i : Nat) (h : i < n) : (posL Bf l n).getD i 0 = ((st Bf i l).1 : Int) := by
  rw [lget_lt _ _ _ (by rw [posL_length]; exact h)]
  simp [posL]
theorem valL_zero (Bf : Nat → List Int) (n : Nat) : valL Bf 0 n = List.replicate n 0 := by
  apply List.ext_getElem
  · simp [valL]
  · intro i h1 h2
    simp [valL, st]
theorem posL_zero (Bf : Nat → List Int) (n i : Nat) (h : i < n) : (posL Bf 0 n).getD i 0 = (i : Int) := posL_get Bf 0 n i h
def nextL (B : List Int) : List Int := (List.range B.length).map fun p => (stepB B p : Int)
theorem nextL_length (B : List Int) : (nextL B).length = B.length := by simp [nextL]
theorem nextL_get (B : List Int) (p : Nat) (h : p < B.length) : (nextL B).getD p 0 = (stepB B p : Int) := by
  rw [lget_lt _ _ _ (by rw [nextL_length]; exact h)]
  simp [nextL]
theorem or_bit2 (n b : Nat) (hn : n < 1000000) (hb : b < 2) : Go.bits .or .i64 ((2 * n : Nat) : Int) (b : Int) = ((2 * n + b : Nat) : Int) := by
  have e : 2 * n ||| b = 2 * n + b := (Nat.two_pow_add_eq_or_of_lt (i := 1) (by omega) n).symm
  have o : ∀ a : Nat, a < 10000000 → (BitVec.ofInt 64 (a : Int)).toNat = a := fun a h => by rw [BitVec.ofInt_natCast, BitVec.toNat_ofNat]; exact Nat.mod_eq_of_lt (by omega)
  show IntKind.i64.wrap ((BitVec.ofInt 64 ((2 * n : Nat) : Int) ||| BitVec.ofInt 64 (b : Int)).toNat : Int) = _
  rw [BitVec.toNat_or, o _ (by omega), o _ (by omega), e, i64_w, w64 (by omega) (by omega)]
-- what both take
def lvB (N : Int) (Ls : List S64) (l : Nat) : List Int := bitsL N.toNat (Ls.getD l z64).f1
def okLv (N : Int) (Z : List Int) (Ls : List S64) (l : Nat) : Bool := decide ((Ls.getD l z64).f0 = N) && (okB (Ls.getD l z64).f0 (Ls.getD l z64).f1 && decide (((lvB N Ls l).count 0 : Int) = Z.getD l 0))
def lvOk (N : Int) (Z : List Int) (Ls : List S64) : Nat → Nat → Bool
  | 0, _ => true
  | d + 1, l => okLv N Z Ls l && lvOk N Z Ls d (l + 1)
def okW (N : Int) (Z : List Int) (Ls : List S64) : Bool := decide (0 ≤ N ∧ N ≤ 1000 ∧ Z.length = 9 ∧ Ls.length = 9) && lvOk N Z Ls 9 0
theorem lvB_length (N : Int) (Ls : List S64) (l : Nat) : (lvB N Ls l).length = N.toNat := bitsL_length _ _
theorem lvB_01 (N : Int) (Ls : List S64) (l : Nat) : ∀ x ∈ lvB N Ls l, x = 0 ∨ x = 1 := bitsL_01 _ _
theorem lvB_all (N : Int) (Ls : List S64) (l : Nat) : ∀ m, m < l → (lvB N Ls m).length = N.toNat ∧ ∀ x ∈ lvB N Ls m, x = 0 ∨ x = 1 := fun m _ => ⟨lvB_length N Ls m, lvB_01 N Ls m⟩
theorem okLv_out {N : Int} {Z : List Int} {Ls : List S64} {l : Nat} (h : okLv N Z Ls l = true) : (Ls.getD l z64).f0 = N ∧ okB N (Ls.getD l z64).f1 = true ∧ ((lvB N Ls l).count 0 : Int) = Z.getD l 0 := by
  unfold okLv at h
  rw [Bool.and_eq_true, Bool.and_eq_true] at h
  have h1 := of_decide_eq_true h.1
  refine ⟨h1, ?_, of_decide_eq_true h.2.2⟩
  have h2 := h.2.1
  rw [h1] at h2
  exact h2
theorem lvOk_all {N : Int} {Z : List Int} {Ls : List S64} : ∀ (d l : Nat), lvOk N Z Ls d l = true → ∀ m, l ≤ m → m < l + d → okLv N Z Ls m = true
  | 0, l, _, m, h1, h2 => by omega
  | d + 1, l, h, m, h1, h2 => by
    rw [lvOk, Bool.and_eq_true] at h
    rcases Nat.lt_or_ge l m with c | c
    · exact lvOk_all d (l + 1) h.2 m c (by omega)
    · obtain rfl : m = l := by omega
      exact h.1
theorem okWave_out {N : Int} {Z : List Int} {Ls : List S64} (h : okW N Z Ls = true) : 0 ≤ N ∧ N ≤ 1000 ∧ Z.length = 9 ∧ Ls.length = 9 ∧ ∀ l, l < 9 → okLv N Z Ls l = true := by
  unfold okW at h
  rw [Bool.and_eq_true] at h
  have h1 := of_decide_eq_true h.1
  exact ⟨h1.1, h1.2.1, h1.2.2.1, h1.2.2.2, fun l hl => lvOk_all 9 0 h.2 l (by omega) (by omega)⟩
def waveL (N : Int) (Ls : List S64) : List Int := valL (lvB N Ls) 9 N.toNat
theorem waveL_length (N : Int) (Ls : List S64) : (waveL N Ls).length = N.toNat := valL_length _ _ _

-- the reference: is a wave right, and its numbers
theorem bne_dec (a b : Int) : (a != b) = !decide (a = b) := by
  by_cases h : a = b
  · rw [decide_eq_true h, h]
    simp
  · rw [decide_eq_false h]
    simpa using h
theorem pow9 (l : Nat) (h : l ≤ 9) : 2 ^ l ≤ 512 := Nat.pow_le_pow_right (n := 2) (by decide) h

-- the program's read
theorem implBitsList_ev (m : Int) (ws : List Int) (hw : Words ws) (hl : ws.length ≤ 4000000) (hm : -9223372036854775808 ≤ m) : Ev (fun k => impl_BitsList.f k m ws) (if okB m ws = true then bitsL m.toNat ws else []) := by
  by_cases c : okB m ws = true
  · have ho := okB_out c
    obtain ⟨n, rfl⟩ : ∃ n : Nat, m = (n : Int) := ⟨m.toNat, by omega⟩
    rw [Int.toNat_natCast] at ho
    obtain ⟨K0, k0⟩ := ev_out (list_ev n ws hw (by omega) (by omega))
    rw [if_pos c, Int.toNat_natCast]
    refine ev_mk K0 fun k hk => ?_
    unfold impl_BitsList.f
    rw [implBitsOk_ev _ _ hw hl hm, Option.bind_some, if_pos c, k0 k hk, Option.bind_some]
  · rw [if_neg c]
    refine Ev.congr (f := fun _ => some []) (fun k => ?_) (Ev.now _)
    unfold impl_BitsList.f
    rw [implBitsOk_ev _ _ hw hl hm, Option.bind_some, if_neg c]
theorem implCount_ev (l : List Int) (v : Int) (h5 : l.length ≤ 5000) : Ev (fun k => impl_count.f k l v) ((l.count v : Nat) : Int) := by
  have h := count_l0 l v h5 l.length 0 0 (by omega) (by omega)
  rw [List.drop_zero, Nat.zero_add] at h
  exact h
theorem read_l3 (n : Nat) (Z : List Int) (Ls : List S64) (l : Nat) (hn : n ≤ 1000) (hl : l < 9) (r : List Int × Bool)
    (hk : Ev (fun k => impl_Wave_read.l1 k (valL (lvB (n : Int) Ls) (l + 1) n) (posL (lvB (n : Int) Ls) (l + 1) n) Ls 9 ((l + 1 : Nat) : Int) (n : Int) Z Ls) r) :
    ∀ d i : Nat, i + d = n → Ev (fun k => impl_Wave_read.l3 k ((valL (lvB (n : Int) Ls) (l + 1) n).take i ++ (valL (lvB (n : Int) Ls) l n).drop i) ((posL (lvB (n : Int) Ls) (l + 1) n).take i ++ (posL (lvB (n : Int) Ls) l n).drop i) (lvB (n : Int) Ls l) Ls 9 (l : Int) (nextL (lvB (n : Int) Ls l)) (n : Int) (i : Int) (n : Int) Z Ls) r := by
  obtain ⟨Bf, hB⟩ : ∃ Bf, Bf = lvB (n : Int) Ls := ⟨_, rfl⟩
  have hlen := lvB_length (n : Int) Ls l
  have h01 := lvB_01 (n : Int) Ls l
  have hall := lvB_all (n : Int) Ls l
  rw [← hB] at hlen h01 hall hk ⊢
  rw [Int.toNat_natCast] at hlen hall
  have v1 := valL_length Bf l n
  have v2 := valL_length Bf (l + 1) n
  have p1 := posL_length Bf l n
  have p2 := posL_length Bf (l + 1) n
  have nl := nextL_length (Bf l)
  intro d
  induction d with
  | zero =>
    intro i h
    obtain rfl : i = n := by omega
    refine Ev.step (fun k => ?_) hk
    rw [impl_Wave_read.l3, if_neg (by omega), List.take_of_length_le (by omega), List.take_of_length_le (by omega), List.drop_eq_nil_of_le (by omega), List.drop_eq_nil_of_le (by omega), List.append_nil, List.append_nil, w64 (by omega) (by omega)]
    rfl
  | succ d ih =>
    intro i h
    have hp := st_lt Bf n i (by omega) l hall
    have hv := st_val Bf n i (by omega) l hall
    have h9 := pow9 l (by omega)
    have hb := get01 (Bf l) h01 (st Bf i l).1 (by omega)
    have g1 : ((posL Bf (l + 1) n).take i ++ (posL Bf l n).drop i).getD i 0 = ((st Bf i l).1 : Int) := by rw [over_get _ _ _ _ (by omega) (by omega), posL_get _ _ _ _ (by omega)]
    have g2 : ((valL Bf (l + 1) n).take i ++ (valL Bf l n).drop i).getD i 0 = ((st Bf i l).2 : Int) := by rw [over_get _ _ _ _ (by omega) (by omega), valL_get _ _ _ _ (by omega)]
    have l1 : ((posL Bf (l + 1) n).take i ++ (posL Bf l n).drop i).length = n := by rw [over_len _ _ _ (by omega) (by omega)]; exact p1
    have l2 : ((valL Bf (l + 1) n).take i ++ (valL Bf l n).drop i).length = n := by rw [over_len _ _ _ (by omega) (by omega)]; exact v1
    have eb : (Bf l).getD (st Bf i l).1 0 = (((Bf l).getD (st Bf i l).1 0).toNat : Int) := by omega
    have ev : Go.bits .or .i64 (wrap64 (((st Bf i l).2 : Int) * 2)) ((Bf l).getD (st Bf i l).1 0) = ((st Bf i (l + 1)).2 : Int) := by
      rw [w64 (by omega) (by omega), eb, show ((st Bf i l).2 : Int) * 2 = ((2 * (st Bf i l).2 : Nat) : Int) by omega, or_bit2 _ _ (by omega) (by omega)]
      rfl
    refine Ev.step (fun k => ?_) (ih (i + 1) (by omega))
    rw [impl_Wave_read.l3, if_pos (by omega), if_pos (by omega), if_pos (by omega), if_pos (by omega), rd_nat, g1, if_pos (by omega), if_pos (by omega), if_pos (by omega), rd_nat, rd_nat, rd_nat, g2, ev, nextL_get _ _ (by omega), Int.toNat_natCast, w64 (by omega) (by omega),
      over_set (valL Bf (l + 1) n) (valL Bf l n) 0 _ i (by omega) (by omega) (valL_get _ _ _ _ (by omega)).symm, over_set (posL Bf (l + 1) n) (posL Bf l n) 0 _ i (by omega) (by omega) (show ((stepB (Bf l) (st Bf i l).1 : Nat) : Int) = (posL Bf (l + 1) n).getD i 0 from (posL_get Bf (l + 1) n i (by omega)).symm)]
    rfl
theorem read_l2 (n : Nat) (Z : List Int) (Ls : List S64) (x4 x5 : List Int) (l : Nat) (hn : n ≤ 1000) (h5 : x5.length = n) (r : List Int × Bool)
    (hk : Ev (fun k => impl_Wave_read.l3 k x4 x5 (lvB (n : Int) Ls l) Ls 9 (l : Int) (nextL (lvB (n : Int) Ls l)) (n : Int) ((0 : Nat) : Int) (n : Int) Z Ls) r) :
    ∀ d j : Nat, j + d = n → Ev (fun k => impl_Wave_read.l2 k x4 x5 (lvB (n : Int) Ls l) ((((lvB (n : Int) Ls l).take j).count 0 : Nat) : Int) (((lvB (n : Int) Ls l).count 0 + ((lvB (n : Int) Ls l).take j).count 1 : Nat) : Int) Ls 9 (l : Int) ((nextL (lvB (n : Int) Ls l)).take j ++ List.replicate d 0) (n : Int) (j : Int) (n : Int) Z Ls) r := by
  obtain ⟨B, hB⟩ : ∃ B, B = lvB (n : Int) Ls l := ⟨_, rfl⟩
  have hlen := lvB_length (n : Int) Ls l
  have h01 := lvB_01 (n : Int) Ls l
  rw [← hB] at hlen h01 hk ⊢
  rw [Int.toNat_natCast] at hlen
  have nl := nextL_length B
  intro d
  induction d with
  | zero =>
    intro j h
    refine Ev.step (fun k => ?_) hk
    rw [impl_Wave_read.l2, if_neg (by omega), List.take_of_length_le (l := nextL B) (by omega), List.replicate_zero, List.append_nil, h5]
    rfl
  | succ d ih =>
    intro j h
    have hfl := fill_length (nextL B) 0 j (d + 1) (by omega)
    have hb := get01 B h01 j (by omega)
    have h1 := ih (j + 1) (by omega)
    rw [count_take B 0 j (by omega), count_take B 1 j (by omega)] at h1
    have z0 := count_take_len B 0 j
    have z1 := count_take_len B 1 j
    have z2 := count_le B 0
    have hs := nextL_get B j (by omega)
    unfold stepB at hs
    by_cases q : B.getD j 0 = 0
    · rw [if_pos q, if_neg (show ¬ B.getD j 0 = 1 by omega), Nat.add_zero] at h1
      rw [if_neg (show ¬ B.getD j 0 = 1 by omega)] at hs
      refine Ev.step (fun k => ?_) h1
      rw [impl_Wave_read.l2, if_pos (by omega), if_pos (by omega), if_pos (by omega), rd_nat, if_pos q, if_pos (by omega), w64 (by omega) (by omega), w64 (by omega) (by omega), Int.toNat_natCast, fill_set (nextL B) 0 _ j d (by omega) hs.symm]
      rfl
    · rw [if_neg q, if_pos (show B.getD j 0 = 1 by omega), Nat.add_zero] at h1
      rw [if_pos (show B.getD j 0 = 1 by omega)] at hs
      refine Ev.step (fun k => ?_) h1
      rw [impl_Wave_read.l2, if_pos (by omega), if_pos (by omega), if_pos (by omega), rd_nat, if_neg q, if_pos (by omega), w64 (by omega) (by omega), w64 (by omega) (by omega), Int.toNat_natCast, fill_set (nextL B) 0 _ j d (by omega) hs.symm]
      rfl
theorem read_l1 (n : Nat) (Z : List Int) (Ls : List S64) (hn : n ≤ 1000) (hZ : Z.length = 9) (hL : Ls.length = 9) (hw : ∀ l, Words (Ls.getD l z64).f1) (hl : ∀ l, (Ls.getD l z64).f1.length ≤ 4000000) (hm : ∀ l, -9223372036854775808 ≤ (Ls.getD l z64).f0) :
    ∀ d l : Nat, l + d = 9 → Ev (fun k => impl_Wave_read.l1 k (valL (lvB (n : Int) Ls) l n) (posL (lvB (n : Int) Ls) l n) Ls 9 (l : Int) (n : Int) Z Ls) (if lvOk (n : Int) Z Ls d l = true then (valL (lvB (n : Int) Ls) 9 n, true) else ([], false)) := by
  intro d
  induction d with
  | zero =>
    intro l h
    obtain rfl : l = 9 := by omega
    refine Ev.step (f := fun _ => some _) (fun k => ?_) (Ev.now _)
    rw [impl_Wave_read.l1, if_neg (by omega), lvOk, if_pos rfl]
  | succ d ih =>
    intro l h
    obtain ⟨K0, k0⟩ := ev_out (implBitsList_ev (Ls.getD l z64).f0 (Ls.getD l z64).f1 (hw l) (hl l) (hm l))
    have b0 := implBitsOk_ev (Ls.getD l z64).f0 (Ls.getD l z64).f1 (hw l) (hl l) (hm l)
    have hbad : okLv (n : Int) Z Ls l = false → ∀ k X, 1 ≤ k → impl_Wave_read.j3 k (valL (lvB (n : Int) Ls) l n) (posL (lvB (n : Int) Ls) l n) (l : Int) X Ls 9 (l : Int) true (n : Int) Z Ls = some (if lvOk (n : Int) Z Ls (d + 1) l = true then (valL (lvB (n : Int) Ls) 9 n, true) else ([], false)) := by
      intro hf k X hk
      obtain ⟨k, rfl⟩ : ∃ m, k = m + 1 := ⟨k - 1, by omega⟩
      rw [impl_Wave_read.j3, if_pos rfl, lvOk, hf, Bool.false_and, if_neg (by decide)]
    by_cases c2 : okB (Ls.getD l z64).f0 (Ls.getD l z64).f1 = true
    · by_cases c1 : (Ls.getD l z64).f0 = (n : Int)
      · rw [c1] at c2 k0 b0
        rw [if_pos c2, Int.toNat_natCast] at k0
        have hlB : bitsL n (Ls.getD l z64).f1 = lvB (n : Int) Ls l := by unfold lvB; rw [Int.toNat_natCast]
        rw [hlB] at k0
        have hlen := lvB_length (n : Int) Ls l
        rw [Int.toNat_natCast] at hlen
        obtain ⟨K1, k1⟩ := ev_out (implCount_ev (lvB (n : Int) Ls l) 0 (by omega))
        by_cases c3 : (((lvB (n : Int) Ls l).count 0 : Nat) : Int) = Z.getD l 0
        · have h4 : okLv (n : Int) Z Ls l = true := by
            unfold okLv
            rw [c1, decide_eq_true rfl, c2, decide_eq_true c3]
            rfl
          have h5 := ih (l + 1) (by omega)
          have h6 := read_l3 n Z Ls l hn (by omega) _ h5 n 0 (by omega)
          rw [List.take_zero, List.take_zero, List.nil_append, List.nil_append, List.drop_zero, List.drop_zero] at h6
          have h7 := read_l2 n Z Ls _ _ l hn (posL_length _ _ _) _ h6 n 0 (by omega)
          rw [List.take_zero, List.take_zero, List.nil_append, List.count_nil, List.count_nil, Nat.add_zero] at h7
          obtain ⟨K2, k2⟩ := ev_out h7
          refine ev_mk (K0 + K1 + K2 + 2) fun k hk => ?_
          obtain ⟨k, rfl⟩ : ∃ m, k = m + 1 := ⟨k - 1, by omega⟩
          rw [impl_Wave_read.l1, if_pos (by omega), if_pos (by omega), if_pos (by omega), rdT64, c1, k0 k (by omega), Option.bind_some, b0, Option.bind_some, if_pos c2, if_pos rfl, k1 k (by omega), Option.bind_some, if_pos (by omega), rd_nat, bne_dec, decide_eq_true c3, Bool.not_true]
          obtain ⟨k, rfl⟩ : ∃ m, k = m + 1 := ⟨k - 1, by omega⟩
          rw [impl_Wave_read.j3, if_neg (by decide), if_pos (by omega), if_pos (by omega), if_pos (by omega), if_pos (by omega), rd_nat, ← c3, Int.toNat_natCast, hlen, lvOk, h4, Bool.true_and]
          exact k2 k (by omega)
        · refine ev_mk (K0 + K1 + 2) fun k hk => ?_
          obtain ⟨k, rfl⟩ : ∃ m, k = m + 1 := ⟨k - 1, by omega⟩
          rw [impl_Wave_read.l1, if_pos (by omega), if_pos (by omega), if_pos (by omega), rdT64, c1, k0 k (by omega), Option.bind_some, b0, Option.bind_some, if_pos c2, if_pos rfl, k1 k (by omega), Option.bind_some, if_pos (by omega), rd_nat, bne_dec, decide_eq_false c3, Bool.not_false]
          refine hbad ?_ k _ (by omega)
          unfold okLv
          rw [decide_eq_false c3, Bool.and_false, Bool.and_false]
      · refine ev_mk (K0 + 2) fun k hk => ?_
        obtain ⟨k, rfl⟩ : ∃ m, k = m + 1 := ⟨k - 1, by omega⟩
        rw [impl_Wave_read.l1, if_pos (by omega), if_pos (by omega), if_pos (by omega), rdT64, k0 k (by omega), Option.bind_some, b0, Option.bind_some, if_pos c2, if_neg c1]
        refine hbad ?_ k _ (by omega)
        unfold okLv
        rw [decide_eq_false c1, Bool.false_and]
    · refine ev_mk (K0 + 2) fun k hk => ?_
      obtain ⟨k, rfl⟩ : ∃ m, k = m + 1 := ⟨k - 1, by omega⟩
      rw [impl_Wave_read.l1, if_pos (by omega), if_pos (by omega), if_pos (by omega), rdT64, k0 k (by omega), Option.bind_some, b0, Option.bind_some, if_neg c2]
      refine hbad ?_ k _ (by omega)
      unfold okLv
      rw [eq_false_of_ne_true c2, Bool.false_and, Bool.and_false]
theorem read_l0 (n : Nat) (Z : List Int) (Ls : List S64) (V : List Int) (hn : n ≤ 1000) (hL : Ls.length = 9) (r : List Int × Bool)
    (hk : Ev (fun k => impl_Wave_read.l1 k V (posL (lvB (n : Int) Ls) 0 n) Ls 9 ((0 : Nat) : Int) (n : Int) Z Ls) r) :
    ∀ d i : Nat, i + d = n → Ev (fun k => impl_Wave_read.l0 k V ((posL (lvB (n : Int) Ls) 0 n).take i ++ List.replicate d 0) (n : Int) (i : Int) (n : Int) Z Ls) r := by
  have p1 := posL_length (lvB (n : Int) Ls) 0 n
  intro d
  induction d with
  | zero =>
    intro i h
    refine Ev.step (fun k => ?_) hk
    rw [impl_Wave_read.l0, if_neg (by omega), List.take_of_length_le (by omega), List.replicate_zero, List.append_nil, hL]
    rfl
  | succ d ih =>
    intro i h
    have hfl := fill_length (posL (lvB (n : Int) Ls) 0 n) 0 i (d + 1) (by omega)
    refine Ev.step (fun k => ?_) (ih (i + 1) (by omega))
    rw [impl_Wave_read.l0, if_pos (by omega), if_pos (by omega), if_pos (by omega), w64 (by omega) (by omega), Int.toNat_natCast, fill_set (posL (lvB (n : Int) Ls) 0 n) 0 _ i d (by omega) (posL_zero _ n i (by omega)).symm]
    rfl
theorem within_eq (a b c : Int) : impl_within.f a b c = some (decide (b ≤ a ∧ a ≤ c)) := by
  unfold impl_within.f
  by_cases h : b ≤ a
  · rw [if_pos h]
    simp [h]
  · rw [if_neg h]
    simp [h]
theorem read_ev (N : Int) (Z : List Int) (Ls : List S64) (hw : ∀ l, Words (Ls.getD l z64).f1) (hl : ∀ l, (Ls.getD l z64).f1.length ≤ 4000000) (hm : ∀ l, -9223372036854775808 ≤ (Ls.getD l z64).f0) :
    Ev (fun k => impl_Wave_read.f k N Z Ls) (if okW N Z Ls = true then (waveL N Ls, true) else ([], false)) := by
  have hbad : ¬ (0 ≤ N ∧ N ≤ 1000 ∧ Z.length = 9 ∧ Ls.length = 9) → Ev (fun k => impl_Wave_read.j0 k true N Z Ls) (if okW N Z Ls = true then (waveL N Ls, true) else ([], false)) := by
    intro h
    refine Ev.step (f := fun _ => some _) (fun k => ?_) (Ev.now _)
    unfold okW
    rw [impl_Wave_read.j0, if_pos rfl, decide_eq_false h, Bool.false_and, if_neg (by decide)]
  by_cases c1 : 0 ≤ N ∧ N ≤ 1000
  · by_cases c4 : Z.length = 9
    · by_cases c3 : Ls.length = 9
      · have e : okW N Z Ls = lvOk N Z Ls 9 0 := by unfold okW; rw [decide_eq_true (by omega), Bool.true_and]
        rw [e]
        obtain ⟨n, rfl⟩ : ∃ n : Nat, N = (n : Int) := ⟨N.toNat, by omega⟩
        have h1 := read_l1 n Z Ls (by omega) c4 c3 hw hl hm 9 0 (by omega)
        have h2 := read_l0 n Z Ls _ (by omega) c3 _ h1 n 0 (by omega)
        rw [List.take_zero, List.nil_append, valL_zero] at h2
        refine Ev.congr (f := fun k => impl_Wave_read.j0 k false (n : Int) Z Ls) (fun k => ?_) (Ev.step (fun k => ?_) (show Ev _ (if lvOk (n : Int) Z Ls 9 0 = true then (waveL (n : Int) Ls, true) else ([], false)) from by unfold waveL; rw [Int.toNat_natCast]; exact h2))
        · unfold impl_Wave_read.f
          rw [within_eq, Option.bind_some, decide_eq_true c1, if_pos rfl, if_pos (by omega), bne_dec, decide_eq_true (by omega), Bool.not_true]
        · rw [impl_Wave_read.j0, if_neg (by decide), if_pos (by omega), if_pos (by omega), Option.bind_some, Int.toNat_natCast, List.length_replicate]
          rfl
      · refine Ev.congr (fun k => ?_) (hbad (by omega))
        unfold impl_Wave_read.f
        rw [within_eq, Option.bind_some, decide_eq_true c1, if_pos rfl, if_pos (by omega), bne_dec, decide_eq_false (by omega), Bool.not_false]
    · refine Ev.congr (fun k => ?_) (hbad (by omega))
      unfold impl_Wave_read.f
      rw [within_eq, Option.bind_some, decide_eq_true c1, if_pos rfl, if_neg (by omega)]
  · refine Ev.congr (fun k => ?_) (hbad (by omega))
    unfold impl_Wave_read.f
    rw [within_eq, Option.bind_some, decide_eq_false c1, if_neg (by decide)]
-- what the statement's premises say of the vectors
def Fine (Ls : List S64) : Prop := (∀ l, Words (Ls.getD l z64).f1) ∧ (∀ l, (Ls.getD l z64).f1.length ≤ 4000000) ∧ (∀ l, -9223372036854775808 ≤ (Ls.getD l z64).f0)

def atA (N : Int) (Z : List Int) (Ls : List S64) (a : Int) : Int := if okW N Z Ls = true ∧ 0 ≤ a ∧ a < N then (waveL N Ls).getD a.toNat 0 else -1
theorem implAt_ev (N : Int) (Z : List Int) (Ls : List S64) (a : Int) (hF : Fine Ls) : Ev (fun k => impl_WaveAt.f k N Z Ls a) (atA N Z Ls a) := by
  obtain ⟨K0, k0⟩ := ev_out (read_ev N Z Ls hF.1 hF.2.1 hF.2.2)
  refine ev_mk K0 fun k hk => ?_
  unfold impl_WaveAt.f atA
  rw [k0 k hk, Option.bind_some]
  by_cases c : okW N Z Ls = true
  · have ho := okWave_out c
    have hl := waveL_length N Ls
    rw [if_pos c]
    dsimp only
    rw [if_pos rfl, within_eq, Option.bind_some, w64 (by omega) (by omega)]
    by_cases c1 : 0 ≤ a ∧ a < N
    · rw [decide_eq_true (show 0 ≤ a ∧ a ≤ ((waveL N Ls).length : Int) - 1 by omega), if_pos rfl, if_pos (by omega), if_pos (by omega), if_pos ⟨c, c1⟩]
      rfl
    · rw [decide_eq_false (show ¬ (0 ≤ a ∧ a ≤ ((waveL N Ls).length : Int) - 1) by omega), if_neg (by decide), if_neg (fun h => c1 h.2)]
  · rw [if_neg c, if_neg (by decide), if_neg (fun h => c h.1)]

theorem take_get (l : List Int) (h i : Nat) (hi : i < h) : (l.take h).getD i 0 = l.getD i 0 := by
  rw [List.getD_eq_getElem?_getD, List.getD_eq_getElem?_getD, List.getElem?_take, if_pos hi]
def rankA (N : Int) (Z : List Int) (Ls : List S64) (x a : Int) : Int := if okW N Z Ls = true ∧ 0 ≤ a ∧ a ≤ N then ((((waveL N Ls).take a.toNat).count x : Nat) : Int) else -1
theorem implRank_ev (N : Int) (Z : List Int) (Ls : List S64) (x a : Int) (hF : Fine Ls) : Ev (fun k => impl_WaveRank.f k N Z Ls x a) (rankA N Z Ls x a) := by
  obtain ⟨K0, k0⟩ := ev_out (read_ev N Z Ls hF.1 hF.2.1 hF.2.2)
  unfold rankA
  by_cases c : okW N Z Ls = true
  · have ho := okWave_out c
    have hl := waveL_length N Ls
    rw [if_pos c] at k0
    by_cases c1 : 0 ≤ a ∧ a ≤ N
    · obtain ⟨K1, k1⟩ := ev_out (implCount_ev ((waveL N Ls).take a.toNat) x (by rw [List.length_take]; omega))
      refine ev_mk (K0 + K1) fun k hk => ?_
      unfold impl_WaveRank.f
      rw [k0 k (by omega), Option.bind_some]
      dsimp only
      rw [if_pos rfl, within_eq, Option.bind_some, decide_eq_true (show 0 ≤ a ∧ a ≤ ((waveL N Ls).length : Int) by omega), if_pos rfl, if_pos (by omega), if_pos (by omega), k1 k (by omega), Option.bind_some, if_pos ⟨c, c1⟩]
    · refine ev_mk K0 fun k hk => ?_
      unfold impl_WaveRank.f
      rw [k0 k (by omega), Option.bind_some]
      dsimp only
      rw [if_pos rfl, within_eq, Option.bind_some, decide_eq_false (show ¬ (0 ≤ a ∧ a ≤ ((waveL N Ls).length : Int)) by omega), if_neg (by decide), if_neg (fun h => c1 h.2)]
  · rw [if_neg c] at k0
    refine ev_mk K0 fun k hk => ?_
    unfold impl_WaveRank.f
    rw [k0 k hk, Option.bind_some, if_neg (by decide), if_neg (fun h => c h.1)]

def nthR (l : List Int) (x : Int) : Nat → Nat → Int → Int
  | 0, _, _ => -1
  | d + 1, i, m => if l.getD i 0 = x then (if m = 0 then (i : Int) else nthR l x d (i + 1) (m - 1)) else nthR l x d (i + 1) m
theorem nth_l0 (l : List Int) (x : Int) (h5 : l.length ≤ 5000) (d : Nat) : ∀ (i : Nat) (m : Int), i + d = l.length → 0 ≤ m → m ≤ 9223372036854775807 → Ev (fun k => impl_nth.l0 k x m l (l.length : Int) (i : Int)) (nthR l x d i m) := by
  induction d with
  | zero =>
    intro i m hi h0 h1
    refine Ev.step (f := fun _ => some _) (fun k => ?_) (Ev.now _)
    rw [impl_nth.l0, if_neg (by omega), nthR]
  | succ d ih =>
    intro i m hi h0 h1
    rw [nthR]
    by_cases q : l.getD i 0 = x
    · rw [if_pos q]
      by_cases q2 : m = 0
      · rw [if_pos q2]
        refine Ev.step (f := fun _ => some _) (fun k => ?_) (Ev.now _)
        rw [impl_nth.l0, if_pos (by omega), if_pos (by omega), if_pos (by omega), rd_nat, if_pos q, if_pos q2]
      · rw [if_neg q2]
        refine Ev.step (fun k => ?_) (ih (i + 1) (m - 1) (by omega) (by omega) (by omega))
        rw [impl_nth.l0, if_pos (by omega), if_pos (by omega), if_pos (by omega), rd_nat, if_pos q, if_neg q2, w64 (by omega) (by omega), w64 (by omega) (by omega)]
        rfl
    · rw [if_neg q]
      refine Ev.step (fun k => ?_) (ih (i + 1) m (by omega) h0 h1)
      rw [impl_nth.l0, if_pos (by omega), if_pos (by omega), if_pos (by omega), rd_nat, if_neg q, w64 (by omega) (by omega)]
      rfl
def selA (N : Int) (Z : List Int) (Ls : List S64) (x m : Int) : Int := if okW N Z Ls = true ∧ 0 ≤ m then nthR (waveL N Ls) x (waveL N Ls).length 0 m else -1
theorem implSelect_ev (N : Int) (Z : List Int) (Ls : List S64) (x m : Int) (hF : Fine Ls) (h1 : m ≤ 9223372036854775807) : Ev (fun k => impl_WaveSelect.f k N Z Ls x m) (selA N Z Ls x m) := by
  obtain ⟨K0, k0⟩ := ev_out (read_ev N Z Ls hF.1 hF.2.1 hF.2.2)
  unfold selA
  by_cases c : okW N Z Ls = true
  · have ho := okWave_out c
    have hl := waveL_length N Ls
    rw [if_pos c] at k0
    by_cases c1 : 0 ≤ m
    · obtain ⟨K2, k2⟩ := ev_out (nth_l0 (waveL N Ls) x (by omega) (waveL N Ls).length 0 m (by omega) c1 h1)
      refine ev_mk (K0 + K2) fun k hk => ?_
      unfold impl_WaveSelect.f impl_nth.f
      rw [k0 k (by omega), Option.bind_some]
      dsimp only
      rw [if_pos rfl, if_neg (by omega), if_pos ⟨c, c1⟩, show impl_nth.l0 k x m (waveL N Ls) ((waveL N Ls).length : Int) 0 = _ from k2 k (by omega), Option.bind_some]
    · refine ev_mk K0 fun k hk => ?_
      unfold impl_WaveSelect.f
      rw [k0 k (by omega), Option.bind_some]
      dsimp only
      rw [if_pos rfl, if_pos (by omega), if_neg (fun h => c1 h.2)]
  · rw [if_neg c] at k0
    refine ev_mk K0 fun k hk => ?_
    unfold impl_WaveSelect.f
    rw [k0 k hk, Option.bind_some, if_neg (by decide), if_neg (fun h => c h.1)]

-- the drawing of inputs
/-- A cursor over code: what is kept of it. 'B': how far it may have gone. -/
def Cur (code : List Int) (B : Int) (t u : Int) : Prop := (∀ x ∈ code, 0 ≤ x ∧ x ≤ 255) ∧ code.length ≤ 140737488351232 ∧ 0 ≤ t ∧ t ≤ B ∧ 0 ≤ u ∧ u ≤ 66600
theorem Cur.more {code : List Int} {B B' t u : Int} (h : Cur code B t u) (hB : B ≤ B') : Cur code B' t u := ⟨h.1, h.2.1, h.2.2.1, by have := h.2.2.2.1; omega, h.2.2.2.2⟩
theorem rd_code {code : List Int} (h : ∀ x ∈ code, 0 ≤ x ∧ x ≤ 255) (i : Int) : 0 ≤ rd code i ∧ rd code i ≤ 255 := by
  unfold rd
  rw [List.getD_eq_getElem?_getD]
  cases hq : code[i.toNat]? with
  | none => exact ⟨by show (0 : Int) ≤ 0; omega, by show (0 : Int) ≤ 255; omega⟩
  | some x => exact h x (List.mem_of_getElem? hq)
theorem pick_ev {code : List Int} {B t u : Int} (h : Cur code B t u) (hB : B ≤ 1000000000) (n : Int) (hn : n ≤ 1000000000000) :
    ∃ v t' u', spec_l01Cur_pick.f code t u n = some (v, t', u') ∧ 0 ≤ v ∧ (1 ≤ n → v < n) ∧ (n < 2 → v = 0) ∧ Cur code (B + 1) t' u' := by
  obtain ⟨h1, h2, h3, h4, h5, h6⟩ := h
  unfold spec_l01Cur_pick.f
  by_cases c0 : n < 2
  · exact ⟨0, t, u, if_pos c0, by omega, fun _ => by omega, fun _ => rfl, h1, h2, h3, by omega, h5, h6⟩
  · have npos : 0 < n := by omega
    have wt : wrap64 (t + 1) = t + 1 := w64 (by omega) (by omega)
    rw [if_neg c0]
    by_cases c1 : t < (code.length : Int)
    · obtain ⟨r0, r1⟩ := rd_code h1 t
      refine ⟨Int.tmod (rd code t) n, t + 1, u, by rw [if_pos c1, if_pos h3, if_neg (by omega), w64 (by omega) (by omega), wt], Int.tmod_nonneg _ r0, fun _ => Int.tmod_lt_of_pos _ npos, fun hn2 => absurd hn2 c0, h1, h2, by omega, by omega, h5, h6⟩
    · have w1 : wrap64 (u * 1103) = u * 1103 := w64 (by omega) (by omega)
      have w2 : wrap64 (u * 1103 + 12345) = u * 1103 + 12345 := w64 (by omega) (by omega)
      have s0 : 0 ≤ Int.tmod (u * 1103 + 12345) 65521 := Int.tmod_nonneg _ (by omega)
      have s1 : Int.tmod (u * 1103 + 12345) 65521 < 65521 := Int.tmod_lt_of_pos _ (by omega)
      by_cases c2 : (code.length : Int) > 0
      · have i0 : 0 ≤ Int.tmod t (code.length : Int) := Int.tmod_nonneg _ h3
        have i1 : Int.tmod t (code.length : Int) < (code.length : Int) := Int.tmod_lt_of_pos _ c2
        obtain ⟨r0, r1⟩ := rd_code h1 (Int.tmod t (code.length : Int))
        have d0 : 0 ≤ Int.tdiv (Int.tmod (u * 1103 + 12345) 65521) 7 := Int.tdiv_nonneg s0 (by omega)
        have d1 : Int.tdiv (Int.tmod (u * 1103 + 12345) 65521) 7 ≤ 65521 := by
          have := Int.tdiv_le_self 7 s0
          omega
        refine ⟨Int.tmod (Int.tdiv (Int.tmod (u * 1103 + 12345) 65521) 7 + rd code (Int.tmod t (code.length : Int))) n, t + 1, Int.tmod (u * 1103 + 12345) 65521, ?_, Int.tmod_nonneg _ (by omega), fun _ => Int.tmod_lt_of_pos _ npos, fun hn2 => absurd hn2 c0, h1, h2, by omega, by omega, s0, by omega⟩
        rw [if_neg c1, if_pos c2, if_neg (by omega), if_pos i0, if_pos i1, if_neg (by omega), w1, w2, wt, w64 (x := Int.tdiv (Int.tmod (u * 1103 + 12345) 65521) 7) (by omega) (by omega), w64 (x := rd code (Int.tmod t (code.length : Int))) (by omega) (by omega), w64 (by omega) (by omega)]
      · refine ⟨(0 : Int) % n, t + 1, Int.tmod (u * 1103 + 12345) 65521, by rw [if_neg c1, if_neg c2, if_neg (by omega), w1, w2, wt], Int.emod_nonneg _ (by omega), fun _ => Int.emod_lt_of_pos _ npos, fun hn2 => absurd hn2 c0, h1, h2, by omega, by omega, s0, by omega⟩
theorem open_ev {code : List Int} (h1 : ∀ x ∈ code, 0 ≤ x ∧ x ≤ 255) (h2 : code.length ≤ 140737488351232) : ∃ t u, spec_l01Open.f code = some (code, t, u) ∧ Cur code 0 t u := by
  refine ⟨0, 89 + ((code.length : Int) % 1000), rfl, h1, h2, by omega, by omega, ?_, ?_⟩
  · have := Int.emod_nonneg (code.length : Int) (show (1000 : Int) ≠ 0 by omega); omega
  · have := Int.emod_lt_of_pos (code.length : Int) (show (0 : Int) < 1000 by omega); omega
theorem code_wf {code : List Int} (h : ∀ x ∈ code, (Lit.int .u8 x).wf = true) : ∀ x ∈ code, 0 ≤ x ∧ x ≤ 255 := fun x hx => by
  have := h x hx
  simp only [Lit.wf, IntKind.min, IntKind.max, IntKind.signed, IntKind.bits, Bool.and_eq_true, decide_eq_true_eq] at this
  simpa using this
theorem size_ev {code : List Int} {B t u : Int} (h : Cur code B t u) (hB : B ≤ 1000000000) (n : Int) (h0 : 0 ≤ n) (hn : n ≤ 1000000) :
    ∃ v t' u', spec_l01Cur_size.f code t u n = some (v, t', u') ∧ 0 ≤ v ∧ v ≤ n ∧ Cur code (B + 1) t' u' := by
  have hl := h.2.1
  unfold spec_l01Cur_size.f
  have w1 : wrap64 ((code.length : Int) / 8) = (code.length : Int) / 8 := w64 (by omega) (by omega)
  have w2 : wrap64 (1 + (code.length : Int) / 8) = 1 + (code.length : Int) / 8 := w64 (by omega) (by omega)
  have m1 : mn n (1 + (code.length : Int) / 8) ≤ n ∧ 0 ≤ mn n (1 + (code.length : Int) / 8) := by unfold mn; split <;> omega
  rw [w1, w2, w64 (x := mn n (1 + (code.length : Int) / 8) + 1) (by omega) (by omega)]
  obtain ⟨v, t', u', e, v0, v1, _, hc⟩ := pick_ev h hB (mn n (1 + (code.length : Int) / 8) + 1) (by omega)
  refine ⟨v, t', u', ?_, v0, ?_, hc⟩
  · rw [e, Option.bind_some]
  · have := v1 (by omega); omega
theorem wide_ev {code : List Int} {B t u : Int} (h : Cur code B t u) (hB : B ≤ 900000000) (n : Int) (h0 : 1 ≤ n) (hn : n ≤ 1000000000000) :
    ∃ v t' u', spec_l01Cur_wide.f code t u n = some (v, t', u') ∧ 0 ≤ v ∧ v < n ∧ Cur code (B + 3) t' u' := by
  obtain ⟨v1, t1, u1, e1, a1, b1, _, c1⟩ := pick_ev h (by omega) 256 (by omega)
  obtain ⟨v2, t2, u2, e2, a2, b2, _, c2⟩ := pick_ev c1 (by omega) 256 (by omega)
  obtain ⟨v3, t3, u3, e3, a3, b3, _, c3⟩ := pick_ev c2 (by omega) 256 (by omega)
  have b1 := b1 (by omega)
  have b2 := b2 (by omega)
  have b3 := b3 (by omega)
  refine ⟨Int.tmod (65536 * v1 + 256 * v2 + v3) n, t3, u3, ?_, Int.tmod_nonneg _ (by omega), Int.tmod_lt_of_pos _ (by omega), c3.more (by omega)⟩
  unfold spec_l01Cur_wide.f
  rw [e1, Option.bind_some, e2, Option.bind_some, e3, Option.bind_some, if_neg (by omega), w64 (x := 65536 * v1) (by omega) (by omega), w64 (x := 256 * v2) (by omega) (by omega), w64 (x := 65536 * v1 + 256 * v2) (by omega) (by omega), w64 (by omega) (by omega)]
theorem numbers_l0 (x2 : Int) (hx : x2 ≤ 1000000000000) (c : Nat) : ∀ {code : List Int} {B t u : Int} (out : List Int), Cur code B t u → B + 3 * (c : Int) ≤ 900000000 → out.length + c ≤ 10000000 → (∀ x ∈ out, 0 ≤ x ∧ x < mx 1 x2) →
    ∃ l t' u', Ev (fun k => spec_l01Cur_numbers.l0 k x2 out (c : Int) code t u) (l, t', u') ∧ l.length = out.length + c ∧ (∀ x ∈ l, 0 ≤ x ∧ x < mx 1 x2) ∧ Cur code (B + 3 * (c : Int)) t' u' := by
  have m1 : 1 ≤ mx 1 x2 ∧ mx 1 x2 ≤ 1000000000000 := by unfold mx; split <;> omega
  induction c with
  | zero =>
    intro code B t u out h _ _ ho
    refine ⟨out, t, u, Ev.step (f := fun _ => some (out, t, u)) (fun k => ?_) (Ev.now _), by omega, ho, h.more (by omega)⟩
    rw [spec_l01Cur_numbers.l0, if_neg (by omega)]
  | succ c ih =>
    intro code B t u out h hB hl ho
    obtain ⟨v, t1, u1, e1, a1, b1, c1⟩ := wide_ev h (by omega) (mx 1 x2) m1.1 m1.2
    obtain ⟨l, t', u', hev, hlen, hin, hc⟩ := ih (out ++ [v]) c1 (by omega) (by simp; omega) (fun x hx => by
      rcases List.mem_append.1 hx with h | h
      · exact ho x h
      · rw [List.mem_singleton.1 h]; exact ⟨a1, b1⟩)
    refine ⟨l, t', u', Ev.step (fun k => ?_) hev, by rw [hlen]; simp; omega, hin, hc.more (by omega)⟩
    rw [spec_l01Cur_numbers.l0, if_pos (by omega), e1, Option.bind_some, if_pos (by omega), w64 (by omega) (by omega), show ((c + 1 : Nat) : Int) - 1 = (c : Int) by omega]
theorem numbers_ev {code : List Int} {B t u : Int} (h : Cur code B t u) (n m : Int) (h0 : 0 ≤ n) (hn : n ≤ 1000) (hm : m ≤ 1000000000000) (hB : B ≤ 500000000) :
    ∃ l t' u', Ev (fun k => spec_l01Cur_numbers.f k code t u n m) (l, t', u') ∧ (l.length : Int) ≤ n ∧ (∀ x ∈ l, 0 ≤ x ∧ x < mx 1 m) ∧ Cur code (B + 4 * n + 4) t' u' := by
  obtain ⟨v, t1, u1, e1, a1, b1, c1⟩ := size_ev h (by omega) n h0 (by omega)
  obtain ⟨c, rfl⟩ := Int.eq_ofNat_of_zero_le a1
  obtain ⟨l, t', u', hev, hlen, hin, hc⟩ := numbers_l0 m hm c [] c1 (by omega) (by simp; omega) (fun x hx => by simp at hx)
  refine ⟨l, t', u', Ev.congr (fun k => ?_) hev, by rw [hlen]; simp; omega, hin, hc.more (by omega)⟩
  unfold spec_l01Cur_numbers.f
  rw [e1, Option.bind_some]
theorem raw_ev {code : List Int} {B t u : Int} (h : Cur code B t u) (hB : B ≤ 900000000) :
    ∃ v t' u', spec_l01Cur_raw.f code t u = some (v, t', u') ∧ -9223372036854775808 ≤ v ∧ v ≤ 9223372036854775807 ∧ Cur code (B + 2) t' u' := by
  obtain ⟨v1, t1, u1, e1, a1, b1, _, c1⟩ := pick_ev h (by omega) 8 (by omega)
  have b1 := b1 (by omega)
  unfold spec_l01Cur_raw.f
  rw [e1, Option.bind_some]
  by_cases g0 : v1 = 0
  · obtain ⟨v2, t2, u2, e2, a2, b2, _, c2⟩ := pick_ev c1 (by omega) 256 (by omega)
    have b2 := b2 (by omega)
    exact ⟨v2 - 128, t2, u2, by rw [if_pos g0, e2, Option.bind_some, w64 (by omega) (by omega)], by omega, by omega, c2.more (by omega)⟩
  · by_cases g1 : v1 = 1
    · obtain ⟨v2, t2, u2, e2, a2, b2, _, c2⟩ := pick_ev c1 (by omega) 8 (by omega)
      have b2 := b2 (by omega)
      obtain ⟨j, rfl⟩ := Int.eq_ofNat_of_zero_le a2
      have hin : ∀ x ∈ ([9223372036854775807, (-9223372036854775808), 4611686018427387904, 4294967295, 4294967296, (-1000), 1000, 257] : List Int), -9223372036854775808 ≤ x ∧ x ≤ 9223372036854775807 := by
        intro x hx
        simp at hx
        omega
      have hr := hin (rd [9223372036854775807, (-9223372036854775808), 4611686018427387904, 4294967295, 4294967296, (-1000), 1000, 257] (j : Int)) (by
        rw [rd_nat, lget_lt _ j 0 (by simp; omega)]
        exact List.getElem_mem _)
      exact ⟨_, t2, u2, by rw [if_neg g0, if_pos g1, Option.bind_some, e2, Option.bind_some, if_pos (by omega), if_pos (by simp; omega)], hr.1, hr.2, c2.more (by omega)⟩
    · obtain ⟨v2, t2, u2, e2, a2, b2, _, c2⟩ := pick_ev c1 (by omega) 14 (by omega)
      have b2 := b2 (by omega)
      exact ⟨v2 - 3, t2, u2, by rw [if_neg g0, if_neg g1, e2, Option.bind_some, w64 (by omega) (by omega)], by omega, by omega, c2.more (by omega)⟩

theorem once_ev {code : List Int} {B t u : Int} (h : Cur code B t u) (hB : B ≤ 1000000000) (n : Int) (hn : n ≤ 1000000000000) :
    ∃ b t' u', spec_l01Cur_once.f code t u n = some (b, t', u') ∧ Cur code (B + 1) t' u' := by
  obtain ⟨v, t', u', e, _, _, _, hc⟩ := pick_ev h hB n hn
  refine ⟨(v == wrap64 (n - 1)), t', u', ?_, hc⟩
  unfold spec_l01Cur_once.f
  rw [e, Option.bind_some]

-- the making of a wave
def bl (l : Nat) (x : Int) : Int := x / 2 ^ (8 - l) % 2
def low (l : Nat) (A : List Int) : List Int := A.filter fun x => decide (bl l x = 0)
def high (l : Nat) (A : List Int) : List Int := A.filter fun x => !decide (bl l x = 0)
def bitsA (l : Nat) (A : List Int) : List Int := A.map (bl l)
def atL (list : List Int) : Nat → List Int
  | 0 => list
  | l + 1 => low l (atL list l) ++ high l (atL list l)
theorem bl_01 (l : Nat) (x : Int) : bl l x = 0 ∨ bl l x = 1 := by unfold bl; omega
theorem parts_length (q : Int → Bool) : ∀ A : List Int, (A.filter q).length + (A.filter fun x => !q x).length = A.length
  | [] => rfl
  | x :: A => by
    have := parts_length q A
    rw [List.filter_cons, List.filter_cons, List.length_cons]
    cases h : q x <;> simp <;> omega
theorem atL_length (list : List Int) : ∀ l, (atL list l).length = list.length
  | 0 => rfl
  | l + 1 => by
    rw [atL, List.length_append, ← atL_length list l]
    exact parts_length (fun x => decide (bl l x = 0)) _
theorem atL_mem (list : List Int) : ∀ (l : Nat) (x : Int), x ∈ atL list l → x ∈ list
  | 0, x, h => h
  | l + 1, x, h => by
    rw [atL] at h
    rcases List.mem_append.1 h with g | g
    · exact atL_mem list l x (List.mem_filter.1 g).1
    · exact atL_mem list l x (List.mem_filter.1 g).1
theorem bitsA_length (l : Nat) (A : List Int) : (bitsA l A).length = A.length := List.length_map _
theorem bitsA_get (l : Nat) (A : List Int) (i : Nat) (h : i < A.length) : (bitsA l A).getD i 0 = bl l (A.getD i 0) := by
  rw [lget_lt _ _ _ (by rw [bitsA_length]; exact h), lget_lt _ _ _ h]
  unfold bitsA
  rw [List.getElem_map]
theorem bitsA_01 (l : Nat) (A : List Int) : ∀ i, i < (bitsA l A).length → (bitsA l A).getD i 0 = 0 ∨ (bitsA l A).getD i 0 = 1 := by
  intro i hi
  rw [bitsA_length] at hi
  rw [bitsA_get l A i hi]
  exact bl_01 _ _
def encZ (list : List Int) (l : Nat) : List Int := (List.range l).map fun j => ((low j (atL list j)).length : Int)
def encL (list : List Int) (l : Nat) : List S64 := (List.range l).map fun j => (⟨(list.length : Int), wordsOf (bitsA j (atL list j))⟩ : S64)
theorem encZ_length (list : List Int) (l : Nat) : (encZ list l).length = l := by simp [encZ]
theorem encL_length (list : List Int) (l : Nat) : (encL list l).length = l := by simp [encL]
theorem encZ_succ (list : List Int) (l : Nat) : encZ list l ++ [((low l (atL list l)).length : Int)] = encZ list (l + 1) := by simp [encZ, List.range_succ]
theorem encL_succ (list : List Int) (l : Nat) : encL list l ++ [(⟨(list.length : Int), wordsOf (bitsA l (atL list l))⟩ : S64)] = encL list (l + 1) := by simp [encL, List.range_succ]
def okList (list : List Int) : Bool := decide (list.length ≤ 1000) && list.all Fv.p51
def encW (list : List Int) : Int × List Int × List S64 × Bool := if okList list = true then ((list.length : Int), encZ list 9, encL list 9, true) else (0, [], [], false)
theorem p51_iff (x : Int) : Fv.p51 x = true ↔ 0 ≤ x ∧ x ≤ 511 := by unfold Fv.p51 Fv.inR; simp
def Small (A : List Int) : Prop := A.length ≤ 1000 ∧ ∀ x ∈ A, 0 ≤ x ∧ x ≤ 511
theorem small_of {list : List Int} (h : okList list = true) : Small list := by
  unfold okList at h
  rw [Bool.and_eq_true] at h
  exact ⟨of_decide_eq_true h.1, fun x hx => (p51_iff x).1 (List.all_eq_true.1 h.2 x hx)⟩
theorem small_at {list : List Int} (h : Small list) (l : Nat) : Small (atL list l) := ⟨by rw [atL_length]; exact h.1, fun x hx => h.2 x (atL_mem list l x hx)⟩
theorem Small.get {A : List Int} (h : Small A) (i : Nat) (hi : i < A.length) : 0 ≤ A.getD i 0 ∧ A.getD i 0 ≤ 511 := by
  rw [lget_lt _ _ _ hi]
  exact h.2 _ (List.getElem_mem hi)
theorem low_take (l : Nat) (A : List Int) (i : Nat) (h : i < A.length) : low l (A.take (i + 1)) = if bl l (A.getD i 0) = 0 then low l (A.take i) ++ [A.getD i 0] else low l (A.take i) := by
  unfold low
  rw [take_succ_getD A 0 i h, List.filter_append]
  by_cases c : bl l (A.getD i 0) = 0
  · rw [if_pos c, List.filter_cons_of_pos (by show decide (bl l (A.getD i 0) = 0) = true; exact decide_eq_true c), List.filter_nil]
  · rw [if_neg c, List.filter_cons_of_neg (by show ¬ decide (bl l (A.getD i 0) = 0) = true; rw [decide_eq_false c]; decide), List.filter_nil, List.append_nil]
theorem high_take (l : Nat) (A : List Int) (i : Nat) (h : i < A.length) : high l (A.take (i + 1)) = if bl l (A.getD i 0) = 0 then high l (A.take i) else high l (A.take i) ++ [A.getD i 0] := by
  unfold high
  rw [take_succ_getD A 0 i h, List.filter_append]
  by_cases c : bl l (A.getD i 0) = 0
  · rw [if_pos c, List.filter_cons_of_neg (by show ¬ (!decide (bl l (A.getD i 0) = 0)) = true; rw [decide_eq_true c]; decide), List.filter_nil, List.append_nil]
  · rw [if_neg c, List.filter_cons_of_pos (by show (!decide (bl l (A.getD i 0) = 0)) = true; rw [decide_eq_false c]; rfl), List.filter_nil]
theorem bitsA_take (l : Nat) (A : List Int) (i : Nat) (h : i < A.length) : bitsA l (A.take (i + 1)) = bitsA l (A.take i) ++ [bl l (A.getD i 0)] := by
  unfold bitsA
  rw [take_succ_getD A 0 i h, List.map_append]
  rfl
theorem filter_le (q : Int → Bool) (A : List Int) : (A.filter q).length ≤ A.length := List.length_filter_le q A
theorem pow8 (m : Nat) (h : m ≤ 8) : 2 ^ m ≤ 256 := Nat.pow_le_pow_right (n := 2) (by decide) h
-- the program's
theorem and1i (a : Nat) (h : a < 1000000) : Go.bits .and .i64 (a : Int) 1 = ((a % 2 : Nat) : Int) := by
  have o : ∀ a : Nat, a < 10000000 → (BitVec.ofInt 64 (a : Int)).toNat = a := fun a h => by rw [BitVec.ofInt_natCast, BitVec.toNat_ofNat]; exact Nat.mod_eq_of_lt (by omega)
  show IntKind.i64.wrap ((BitVec.ofInt 64 (a : Int) &&& BitVec.ofInt 64 ((1 : Nat) : Int)).toNat : Int) = _
  rw [BitVec.toNat_and, o _ (by omega), o _ (by omega), Nat.and_one_is_mod, i64_w, w64 (by omega) (by omega)]
theorem implBit (x : Int) (l : Nat) (h0 : 0 ≤ x) (h1 : x ≤ 511) (hl : l < 9) : Go.bits .and .i64 (shr .i64 x (wrap64 (8 - (l : Int)))) 1 = bl l x := by
  obtain ⟨a, rfl⟩ := Int.eq_ofNat_of_zero_le h0
  rw [w64 (by omega) (by omega), show (8 : Int) - (l : Int) = ((8 - l : Nat) : Int) by omega]
  unfold shr
  rw [Int.toNat_natCast, show min (8 - l) IntKind.i64.bits = 8 - l by show min (8 - l) 64 = 8 - l; omega]
  have e : (a : Int) / 2 ^ (8 - l) = ((a / 2 ^ (8 - l) : Nat) : Int) := by simp
  have hle : a / 2 ^ (8 - l) ≤ a := Nat.div_le_self _ _
  unfold bl
  rw [e, and1i _ (by omega)]
  omega
theorem concat_ev (a b : List Int) (ha : a.length ≤ 2000) (hb : b.length ≤ 2000) : Ev (fun k => slices_Concat_int_int.f k [a, b]) (a ++ b) := by
  have r0 : rd_L5 [a, b] 0 = a := rfl
  have r1 : rd_L5 [a, b] 1 = b := rfl
  have hl : (([a, b] : List (List Int)).length : Int) = 2 := rfl
  have h1 : Ev (fun k => slices_Concat_int_int.l1 k [] [a, b] 2 0) (a ++ b) := by
    refine ev_mk 4 fun k hk => ?_
    obtain ⟨k, rfl⟩ : ∃ m, k = m + 3 := ⟨k - 3, by omega⟩
    rw [slices_Concat_int_int.l1, if_pos (by decide), if_pos (by decide), if_pos (by rw [hl]; decide), r0, if_pos (by simp only [List.length_nil]; omega), List.nil_append, show wrap64 (0 + 1) = 1 from w64 (x := 1) (by omega) (by omega),
      slices_Concat_int_int.l1, if_pos (by decide), if_pos (by decide), if_pos (by rw [hl]; decide), r1, if_pos (by omega), show wrap64 (1 + 1) = 2 from w64 (x := 2) (by omega) (by omega), slices_Concat_int_int.l1, if_neg (by decide)]
  obtain ⟨K1, k1⟩ := ev_out h1
  refine ev_mk (K1 + 4) fun k hk => ?_
  unfold slices_Concat_int_int.f
  obtain ⟨k, rfl⟩ : ∃ m, k = m + 3 := ⟨k - 3, by omega⟩
  have w1 : wrap64 (0 + (a.length : Int)) = (a.length : Int) := by rw [Int.zero_add]; exact w64 (by omega) (by omega)
  have w2 : wrap64 ((a.length : Int) + (b.length : Int)) = (a.length : Int) + (b.length : Int) := w64 (by omega) (by omega)
  rw [hl, slices_Concat_int_int.l0, if_pos (by decide), if_pos (by decide), if_pos (by rw [hl]; decide), r0, w1, if_neg (by omega), show wrap64 (0 + 1) = 1 from w64 (x := 1) (by omega) (by omega),
    slices_Concat_int_int.l0, if_pos (by decide), if_pos (by decide), if_pos (by rw [hl]; decide), r1, w2, if_neg (by omega), show wrap64 (1 + 1) = 2 from w64 (x := 2) (by omega) (by omega), slices_Concat_int_int.l0, if_neg (by decide)]
  unfold slices_Grow_nil22.f
  rw [if_pos (by omega), Option.bind_some, hl]
  exact k1 k (by omega)
theorem implW_l1 (A : List Int) (l : Nat) (N : Int) (Z : List Int) (Ls : List S64) (hA : Small A) (hl : l < 9) (hZ : Z.length ≤ 100) (hL : Ls.length ≤ 100) (r : Int × List Int × List S64 × Bool)
    (hk : Ev (fun k => impl_WaveOf.l0 k (low l A ++ high l A) ((l + 1 : Nat) : Int) N (Z ++ [((low l A).length : Int)]) (Ls ++ [(⟨(A.length : Int), wordsOf (bitsA l A)⟩ : S64)])) r) :
    ∀ d i : Nat, i + d = A.length → Ev (fun k => impl_WaveOf.l1 k A (l : Int) (low l (A.take i)) (high l (A.take i)) (bitsA l (A.take i)) (l : Int) (A.length : Int) (i : Int) N Z Ls) r := by
  have hlen := hA.1
  intro d
  induction d with
  | zero =>
    intro i h
    obtain rfl : i = A.length := by omega
    have hb := implBitsOf_ev (bitsA l A) (bitsA_01 l A) (by rw [bitsA_length]; omega)
    rw [bitsA_length] at hb
    obtain ⟨K0, k0⟩ := ev_out hb
    have f1 := filter_le (fun x => decide (bl l x = 0)) A
    have f2 := filter_le (fun x => !decide (bl l x = 0)) A
    obtain ⟨K1, k1⟩ := ev_out (concat_ev (low l A) (high l A) (by unfold low; omega) (by unfold high; omega))
    obtain ⟨K2, k2⟩ := ev_out hk
    refine ev_mk (K0 + K1 + K2 + 1) fun k hk' => ?_
    obtain ⟨k, rfl⟩ : ∃ m, k = m + 1 := ⟨k - 1, by omega⟩
    rw [impl_WaveOf.l1, if_neg (by omega), List.take_of_length_le (Nat.le_refl _), if_pos (by omega), k0 k (by omega), Option.bind_some, if_pos (by omega), k1 k (by omega), Option.bind_some, w64 (by omega) (by omega)]
    exact k2 k (by omega)
  | succ d ih =>
    intro i h
    have h1 := ih (i + 1) (by omega)
    rw [low_take l A i (by omega), high_take l A i (by omega), bitsA_take l A i (by omega)] at h1
    have hx := hA.get i (by omega)
    have f1 := filter_le (fun x => decide (bl l x = 0)) (A.take i)
    have f2 := filter_le (fun x => !decide (bl l x = 0)) (A.take i)
    have f3 : (A.take i).length ≤ 1000 := by rw [List.length_take]; omega
    have f4 : (low l (A.take i)).length ≤ 1000 := by unfold low; omega
    have f5 : (high l (A.take i)).length ≤ 1000 := by unfold high; omega
    have f6 : (bitsA l (A.take i)).length ≤ 1000 := by rw [bitsA_length]; exact f3
    have hb := implBit (A.getD i 0) l hx.1 hx.2 hl
    have hw : 0 ≤ wrap64 (8 - (l : Int)) := by rw [w64 (by omega) (by omega)]; omega
    by_cases c : bl l (A.getD i 0) = 0
    · rw [if_pos c, if_pos c] at h1
      refine Ev.step (fun k => ?_) h1
      rw [impl_WaveOf.l1, if_pos (by omega), if_pos (by omega), if_pos (by omega), if_pos hw, if_pos (by omega), rd_nat, hb, Option.bind_some, if_pos c, if_pos (by omega), w64 (x := (i : Int) + 1) (by omega) (by omega)]
      rfl
    · rw [if_neg c, if_neg c] at h1
      refine Ev.step (fun k => ?_) h1
      rw [impl_WaveOf.l1, if_pos (by omega), if_pos (by omega), if_pos (by omega), if_pos hw, if_pos (by omega), rd_nat, hb, Option.bind_some, if_neg c, if_pos (by omega), w64 (x := (i : Int) + 1) (by omega) (by omega)]
      rfl
theorem implW_l0 (list : List Int) (hs : Small list) : ∀ d l : Nat, l + d = 9 → Ev (fun k => impl_WaveOf.l0 k (atL list l) (l : Int) (list.length : Int) (encZ list l) (encL list l)) ((list.length : Int), encZ list 9, encL list 9, true) := by
  intro d
  induction d with
  | zero =>
    intro l h
    obtain rfl : l = 9 := by omega
    refine Ev.step (f := fun _ => some _) (fun k => ?_) (Ev.now _)
    rw [impl_WaveOf.l0, if_neg (by omega)]
  | succ d ih =>
    intro l h
    have h1 := ih (l + 1) (by omega)
    rw [atL, ← encZ_succ, ← encL_succ, ← atL_length list l] at h1
    have h2 := implW_l1 (atL list l) l ((atL list l).length : Int) (encZ list l) (encL list l) (small_at hs l) (by omega) (by rw [encZ_length]; omega) (by rw [encL_length]; omega) _ h1 (atL list l).length 0 (by omega)
    rw [List.take_zero] at h2
    rw [← atL_length list l]
    refine Ev.step (fun k => ?_) h2
    rw [impl_WaveOf.l0, if_pos (by omega)]
    rfl
theorem implW_ev (list : List Int) (hl : list.length ≤ 4000000) : Ev (fun k => impl_WaveOf.f k list) (encW list) := by
  have hj : okList list = false → ∀ k, 1 ≤ k → impl_WaveOf.j0 k list true = some (encW list) := by
    intro h k hk
    obtain ⟨k, rfl⟩ : ∃ m, k = m + 1 := ⟨k - 1, by omega⟩
    unfold encW
    rw [impl_WaveOf.j0, if_pos rfl, h, if_neg (by decide)]
  by_cases c1 : list.length ≤ 1000
  · have hall : impl_areAll_51.f list = some (list.all Fv.p51) := by unfold impl_areAll_51.f; rw [if_pos (by unfold maxLen; omega)]
    by_cases c2 : list.all Fv.p51 = true
    · have hok : okList list = true := by unfold okList; rw [decide_eq_true c1, c2]; rfl
      obtain ⟨K0, k0⟩ := ev_out (implW_l0 list (small_of hok) 9 0 (by omega))
      refine ev_mk (K0 + 1) fun k hk => ?_
      obtain ⟨k, rfl⟩ : ∃ m, k = m + 1 := ⟨k - 1, by omega⟩
      unfold impl_WaveOf.f encW
      rw [if_neg (by omega), hall, Option.bind_some, c2, Bool.not_true, impl_WaveOf.j0, if_neg (by decide), hok, if_pos rfl]
      exact k0 k (by omega)
    · have hok : okList list = false := by unfold okList; rw [eq_false_of_ne_true c2, Bool.and_false]
      refine ev_mk 1 fun k hk => ?_
      unfold impl_WaveOf.f
      rw [if_neg (by omega), hall, Option.bind_some, eq_false_of_ne_true c2, Bool.not_false, hj hok k hk]
  · have hok : okList list = false := by unfold okList; rw [decide_eq_false c1, Bool.false_and]
    refine ev_mk 1 fun k hk => ?_
    unfold impl_WaveOf.f
    rw [if_pos (by omega), hj hok k hk]
-- the reference's
theorem pow_l0 (m : Nat) : ∀ (a : Nat), m ≤ 8 → a * 2 ^ m ≤ 100000 → Ev (fun k => spec_l02Pow.l0 k (m : Int) (a : Int)) ((a * 2 ^ m : Nat) : Int) := by
  induction m with
  | zero =>
    intro a _ h
    refine Ev.step (f := fun _ => some _) (fun k => ?_) (Ev.now _)
    rw [spec_l02Pow.l0, if_neg (by omega), Nat.pow_zero, Nat.mul_one]
  | succ m ih =>
    intro a h0 h
    have e : a * 2 ^ (m + 1) = (2 * a) * 2 ^ m := by rw [Nat.pow_succ, Nat.mul_comm 2 a, Nat.mul_assoc a 2, Nat.mul_comm (2 ^ m) 2]
    have hq : a ≤ a * 2 ^ (m + 1) := Nat.le_mul_of_pos_right a (Nat.two_pow_pos _)
    rw [e] at h ⊢
    refine Ev.step (fun k => ?_) (ih (2 * a) (by omega) h)
    rw [spec_l02Pow.l0, if_pos (by omega), w64 (by omega) (by omega), w64 (by omega) (by omega), show ((m + 1 : Nat) : Int) - 1 = (m : Int) by omega, show 2 * (a : Int) = ((2 * a : Nat) : Int) by omega]
theorem specBit (x : Int) (l : Nat) (h0 : 0 ≤ x) (h1 : x ≤ 511) : Int.tmod (wrap64 (Int.tdiv x ((2 ^ (8 - l) : Nat) : Int))) 2 = bl l x := by
  obtain ⟨a, rfl⟩ := Int.eq_ofNat_of_zero_le h0
  have hle : a / 2 ^ (8 - l) ≤ a := Nat.div_le_self _ _
  have e1 : Int.tdiv (a : Int) ((2 ^ (8 - l) : Nat) : Int) = ((a / 2 ^ (8 - l) : Nat) : Int) := rfl
  have e2 : (a : Int) / 2 ^ (8 - l) = ((a / 2 ^ (8 - l) : Nat) : Int) := by simp
  unfold bl
  rw [e1, e2]
  generalize a / 2 ^ (8 - l) = q at hle
  rw [w64 (by omega) (by omega)]
  rfl
theorem specW_l2 (A : List Int) (l : Nat) (N : Int) (Z : List Int) (Ls : List S64) (hA : Small A) (hl : l < 9) (hZ : Z.length ≤ 100) (hL : Ls.length ≤ 100) (r : Int × List Int × List S64 × Bool)
    (hk : Ev (fun k => spec_WaveOf.l1 k (low l A ++ high l A) ((l + 1 : Nat) : Int) N (Z ++ [((low l A).length : Int)]) (Ls ++ [(⟨(A.length : Int), wordsOf (bitsA l A)⟩ : S64)])) r) :
    ∀ d i : Nat, i + d = A.length → Ev (fun k => spec_WaveOf.l2 k A (l : Int) (bitsA l (A.take i)) (low l (A.take i)) (high l (A.take i)) (i : Int) N Z Ls) r := by
  have hlen := hA.1
  intro d
  induction d with
  | zero =>
    intro i h
    obtain rfl : i = A.length := by omega
    have hb := specBitsOf_ev (bitsA l A) (bitsA_01 l A) (by rw [bitsA_length]; omega)
    rw [bitsA_length] at hb
    obtain ⟨K0, k0⟩ := ev_out hb
    have f1 := filter_le (fun x => decide (bl l x = 0)) A
    have f2 := filter_le (fun x => !decide (bl l x = 0)) A
    have f4 : (low l A).length ≤ 1000 := by unfold low; omega
    have f5 : (high l A).length ≤ 1000 := by unfold high; omega
    obtain ⟨K2, k2⟩ := ev_out hk
    refine ev_mk (K0 + K2 + 1) fun k hk' => ?_
    obtain ⟨k, rfl⟩ : ∃ m, k = m + 1 := ⟨k - 1, by omega⟩
    rw [spec_WaveOf.l2, if_neg (by omega), List.take_of_length_le (Nat.le_refl _), k0 k (by omega), Option.bind_some, if_pos (by omega), if_pos (by omega), if_pos (by omega), w64 (by omega) (by omega)]
    exact k2 k (by omega)
  | succ d ih =>
    intro i h
    have h1 := ih (i + 1) (by omega)
    rw [low_take l A i (by omega), high_take l A i (by omega), bitsA_take l A i (by omega)] at h1
    have hx := hA.get i (by omega)
    have f1 := filter_le (fun x => decide (bl l x = 0)) (A.take i)
    have f2 := filter_le (fun x => !decide (bl l x = 0)) (A.take i)
    have f3 : (A.take i).length ≤ 1000 := by rw [List.length_take]; omega
    have f4 : (low l (A.take i)).length ≤ 1000 := by unfold low; omega
    have f5 : (high l (A.take i)).length ≤ 1000 := by unfold high; omega
    have f6 : (bitsA l (A.take i)).length ≤ 1000 := by rw [bitsA_length]; exact f3
    have hb := specBit (A.getD i 0) l hx.1 hx.2
    have hp8 := pow8 (8 - l) (by omega)
    have hp0 := Nat.two_pow_pos (8 - l)
    have hp := pow_l0 (8 - l) 1 (by omega) (by omega)
    rw [Nat.one_mul] at hp
    obtain ⟨K0, k0⟩ := ev_out hp
    have hpf : ∀ k, K0 ≤ k → spec_l02Pow.f k (wrap64 (8 - (l : Int))) = some ((2 ^ (8 - l) : Nat) : Int) := by
      intro k hk
      unfold spec_l02Pow.f
      rw [w64 (by omega) (by omega), show (8 : Int) - (l : Int) = ((8 - l : Nat) : Int) by omega]
      exact k0 k hk
    by_cases c : bl l (A.getD i 0) = 0
    · rw [if_pos c, if_pos c] at h1
      obtain ⟨K1, k1⟩ := ev_out h1
      refine ev_mk (K0 + K1 + 1) fun k hk' => ?_
      obtain ⟨k, rfl⟩ : ∃ m, k = m + 1 := ⟨k - 1, by omega⟩
      rw [spec_WaveOf.l2, if_pos (by omega), if_pos (by omega), hpf k (by omega), Option.bind_some, if_neg (by omega), if_pos (by omega), rd_nat, hb, Option.bind_some, if_pos c, if_pos (by omega), w64 (x := (i : Int) + 1) (by omega) (by omega)]
      exact k1 k (by omega)
    · rw [if_neg c, if_neg c] at h1
      obtain ⟨K1, k1⟩ := ev_out h1
      refine ev_mk (K0 + K1 + 1) fun k hk' => ?_
      obtain ⟨k, rfl⟩ : ∃ m, k = m + 1 := ⟨k - 1, by omega⟩
      rw [spec_WaveOf.l2, if_pos (by omega), if_pos (by omega), hpf k (by omega), Option.bind_some, if_neg (by omega), if_pos (by omega), rd_nat, hb, Option.bind_some, if_neg c, if_pos (by omega), w64 (x := (i : Int) + 1) (by omega) (by omega)]
      exact k1 k (by omega)
theorem specW_l1 (list : List Int) (hs : Small list) : ∀ d l : Nat, l + d = 9 → Ev (fun k => spec_WaveOf.l1 k (atL list l) (l : Int) (list.length : Int) (encZ list l) (encL list l)) ((list.length : Int), encZ list 9, encL list 9, true) := by
  intro d
  induction d with
  | zero =>
    intro l h
    obtain rfl : l = 9 := by omega
    refine Ev.step (f := fun _ => some _) (fun k => ?_) (Ev.now _)
    rw [spec_WaveOf.l1, if_neg (by omega)]
  | succ d ih =>
    intro l h
    have h1 := ih (l + 1) (by omega)
    rw [atL, ← encZ_succ, ← encL_succ, ← atL_length list l] at h1
    have h2 := specW_l2 (atL list l) l ((atL list l).length : Int) (encZ list l) (encL list l) (small_at hs l) (by omega) (by rw [encZ_length]; omega) (by rw [encL_length]; omega) _ h1 (atL list l).length 0 (by omega)
    rw [List.take_zero] at h2
    rw [← atL_length list l]
    refine Ev.step (fun k => ?_) h2
    rw [spec_WaveOf.l1, if_pos (by omega)]
    rfl
theorem specW_l0 (list : List Int) (h : list.length ≤ 1000) (d : Nat) : ∀ i : Nat, i + d = list.length → (∀ x ∈ list.take i, Fv.p51 x = true) → Ev (fun k => spec_WaveOf.l0 k list (i : Int)) (encW list) := by
  induction d with
  | zero =>
    intro i hi ha
    rw [List.take_of_length_le (by omega)] at ha
    have hok : okList list = true := by unfold okList; rw [decide_eq_true h, List.all_eq_true.2 ha]; rfl
    unfold encW
    rw [hok, if_pos rfl]
    refine Ev.step (fun k => ?_) (specW_l1 list (small_of hok) 9 0 (by omega))
    rw [spec_WaveOf.l0, if_neg (by omega), Option.bind_some, if_pos (by simp only [List.length_nil]; omega), List.nil_append]
    rfl
  | succ d ih =>
    intro i hi ha
    have hbad : Fv.p51 (list.getD i 0) ≠ true → okList list = false := by
      intro hc
      unfold okList
      rw [Bool.and_eq_false_iff]
      right
      rw [← Bool.not_eq_true]
      intro hall
      apply hc
      rw [lget_lt _ _ _ (by omega)]
      exact List.all_eq_true.1 hall _ (List.getElem_mem _)
    by_cases c1 : list.getD i 0 < 0
    · have hok := hbad (by rw [Ne, p51_iff]; omega)
      unfold encW
      rw [hok, if_neg (by decide)]
      refine Ev.step (f := fun _ => some _) (fun k => ?_) (Ev.now _)
      rw [spec_WaveOf.l0, if_pos (by omega), if_pos (by omega), rd_nat, if_pos c1]
    · by_cases c2 : list.getD i 0 > 511
      · have hok := hbad (by rw [Ne, p51_iff]; omega)
        unfold encW
        rw [hok, if_neg (by decide)]
        refine Ev.step (f := fun _ => some _) (fun k => ?_) (Ev.now _)
        rw [spec_WaveOf.l0, if_pos (by omega), if_pos (by omega), rd_nat, if_neg c1, if_pos c2]
      · refine Ev.step (fun k => ?_) (ih (i + 1) (by omega) (fun x hx => ?_))
        · rw [spec_WaveOf.l0, if_pos (by omega), if_pos (by omega), rd_nat, if_neg c1, if_neg c2, w64 (by omega) (by omega)]
          rfl
        · rw [take_succ_getD list 0 i (by omega)] at hx
          rcases List.mem_append.1 hx with g | g
          · exact ha x g
          · rw [List.mem_singleton.1 g, p51_iff]
            omega
theorem specW_ev (list : List Int) : Ev (fun k => spec_WaveOf.f k list) (encW list) := by
  by_cases c : list.length ≤ 1000
  · refine Ev.congr (fun k => ?_) (specW_l0 list c list.length 0 (by omega) (by rw [List.take_zero]; intro x hx; cases hx))
    unfold spec_WaveOf.f
    rw [if_neg (by omega)]
    rfl
  · have hok : okList list = false := by unfold okList; rw [decide_eq_false c, Bool.false_and]
    refine Ev.congr (f := fun _ => some (encW list)) (fun k => ?_) (Ev.now _)
    unfold spec_WaveOf.f encW
    rw [if_pos (by omega), hok, if_neg (by decide)]

-- a wave that was made is right, and gives its numbers back
theorem filter_get (q : Int → Bool) (A : List Int) (p : Nat) (h : p < A.length) (hq : q (A.getD p 0) = true) (B : List Int) : (A.filter q ++ B).getD ((A.take p).filter q).length 0 = A.getD p 0 := by
  have e : A.filter q = (A.take p).filter q ++ A.getD p 0 :: (A.drop (p + 1)).filter q := by
    conv => lhs; rw [← List.take_append_drop p A, drop_cons A p h]
    rw [List.filter_append, List.filter_cons, if_pos hq]
  rw [e, List.append_assoc, List.getD_eq_getElem?_getD, List.getElem?_append_right (Nat.le_refl _), Nat.sub_self]
  rfl
theorem count_bits (l : Nat) (v : Int) : ∀ A : List Int, (bitsA l A).count v = (A.filter fun x => decide (bl l x = v)).length
  | [] => rfl
  | x :: A => by
    have := count_bits l v A
    unfold bitsA at this ⊢
    rw [List.map_cons, List.count_cons, List.filter_cons, this]
    by_cases c : bl l x = v
    · rw [if_pos (by simpa using c), if_pos (decide_eq_true c), List.length_cons]
    · rw [if_neg (by simpa using c), if_neg (by rw [decide_eq_false c]; decide), Nat.add_zero]
theorem high_eq (l : Nat) (A : List Int) : high l A = A.filter fun x => decide (bl l x = 1) := by
  unfold high
  apply List.filter_congr
  intro x _
  rcases bl_01 l x with h | h <;> rw [h] <;> decide
theorem take_bits (l : Nat) (A : List Int) (p : Nat) : (bitsA l A).take p = bitsA l (A.take p) := by unfold bitsA; rw [List.map_take]
theorem part_get (l : Nat) (A : List Int) (p : Nat) (h : p < A.length) : (low l A ++ high l A).getD (stepB (bitsA l A) p) 0 = A.getD p 0 := by
  unfold stepB
  rw [bitsA_get l A p h, take_bits, count_bits, count_bits, count_bits]
  by_cases c : bl l (A.getD p 0) = 1
  · rw [if_pos c, high_eq]
    have := filter_get (fun x => decide (bl l x = 1)) A p h (decide_eq_true c) []
    rw [List.append_nil] at this
    rw [List.getD_eq_getElem?_getD, List.getElem?_append_right (by unfold low; omega), show (A.filter fun x => decide (bl l x = 0)).length + ((A.take p).filter fun x => decide (bl l x = 1)).length - (low l A).length = ((A.take p).filter fun x => decide (bl l x = 1)).length by unfold low; omega, ← List.getD_eq_getElem?_getD]
    exact this
  · rw [if_neg c]
    have c0 : bl l (A.getD p 0) = 0 := by rcases bl_01 l (A.getD p 0) with h | h; exact h; exact absurd h c
    exact filter_get (fun x => decide (bl l x = 0)) A p h (decide_eq_true c0) _
theorem encL_get (list : List Int) (m l : Nat) (h : l < m) : (encL list m).getD l z64 = (⟨(list.length : Int), wordsOf (bitsA l (atL list l))⟩ : S64) := by
  rw [lget_lt _ _ _ (by rw [encL_length]; exact h)]
  simp [encL]
theorem encZ_get (list : List Int) (m l : Nat) (h : l < m) : (encZ list m).getD l 0 = ((low l (atL list l)).length : Int) := by
  rw [lget_lt _ _ _ (by rw [encZ_length]; exact h)]
  simp [encZ]
theorem bits_back (bs : List Int) (hb : ∀ i, i < bs.length → bs.getD i 0 = 0 ∨ bs.getD i 0 = 1) : bitsL bs.length (wordsOf bs) = bs := by
  apply ext_getD 0 (bitsL_length _ _)
  intro j hj
  rw [bitsL_length] at hj
  rw [bitsL_get _ _ _ hj, bitAt_words bs hb j hj]
theorem lvB_enc (list : List Int) (l : Nat) (h : l < 9) : lvB (list.length : Int) (encL list 9) l = bitsA l (atL list l) := by
  unfold lvB
  rw [encL_get list 9 l h, Int.toNat_natCast]
  have e : (bitsA l (atL list l)).length = list.length := by rw [bitsA_length, atL_length]
  have := bits_back (bitsA l (atL list l)) (bitsA_01 l _)
  rw [e] at this
  exact this
theorem okLv_enc (list : List Int) (hs : Small list) (l : Nat) (h : l < 9) : okLv (list.length : Int) (encZ list 9) (encL list 9) l = true := by
  have hl := hs.1
  have e : (bitsA l (atL list l)).length = list.length := by rw [bitsA_length, atL_length]
  have hb := bits_back (bitsA l (atL list l)) (bitsA_01 l _)
  rw [e] at hb
  unfold okLv
  rw [lvB_enc list l h, encL_get list 9 l h, encZ_get list 9 l h, count_bits]
  have ho : okB (list.length : Int) (wordsOf (bitsA l (atL list l))) = true := by
    unfold okB
    apply decide_eq_true
    rw [Int.toNat_natCast]
    refine ⟨by omega, by omega, ?_, by rw [hb]⟩
    unfold wordsOf
    rw [wordsTo_length, e]
  dsimp only
  rw [decide_eq_true rfl, ho]
  simp only [Bool.true_and]
  exact decide_eq_true rfl
theorem lvOk_enc (list : List Int) (hs : Small list) : ∀ d l : Nat, l + d = 9 → lvOk (list.length : Int) (encZ list 9) (encL list 9) d l = true
  | 0, l, h => rfl
  | d + 1, l, h => by rw [lvOk, okLv_enc list hs l (by omega), lvOk_enc list hs d (l + 1) (by omega)]; rfl
theorem okW_enc (list : List Int) (hs : Small list) : okW (list.length : Int) (encZ list 9) (encL list 9) = true := by
  have hl := hs.1
  unfold okW
  rw [decide_eq_true ⟨by omega, by omega, encZ_length _ _, encL_length _ _⟩, lvOk_enc list hs 9 0 (by omega)]
  rfl
theorem st_enc (list : List Int) (hs : Small list) (i : Nat) (hi : i < list.length) : ∀ l : Nat, l ≤ 9 → (st (lvB (list.length : Int) (encL list 9)) i l).1 < list.length ∧ (atL list l).getD (st (lvB (list.length : Int) (encL list 9)) i l).1 0 = list.getD i 0 ∧ ((st (lvB (list.length : Int) (encL list 9)) i l).2 : Int) = list.getD i 0 / 2 ^ (9 - l) := by
  have hx := hs.get i hi
  intro l
  induction l with
  | zero =>
    intro _
    refine ⟨hi, rfl, ?_⟩
    show (0 : Int) = list.getD i 0 / 512
    omega
  | succ l ih =>
    intro h
    obtain ⟨h1, h2, h3⟩ := ih (by omega)
    have hB := lvB_enc list l (by omega)
    have hlen := atL_length list l
    have hbl : (bitsA l (atL list l)).length = list.length := by rw [bitsA_length, hlen]
    have h01 : ∀ x ∈ bitsA l (atL list l), x = 0 ∨ x = 1 := by
      intro x hx
      unfold bitsA at hx
      obtain ⟨y, _, rfl⟩ := List.mem_map.1 hx
      exact bl_01 l y
    show stepB (lvB (list.length : Int) (encL list 9) l) _ < list.length ∧ (low l (atL list l) ++ high l (atL list l)).getD (stepB (lvB (list.length : Int) (encL list 9) l) _) 0 = _ ∧ ((2 * _ + ((lvB (list.length : Int) (encL list 9) l).getD _ 0).toNat : Nat) : Int) = _
    rw [hB]
    refine ⟨?_, ?_, ?_⟩
    · have := stepB_lt (bitsA l (atL list l)) h01 (st (lvB (list.length : Int) (encL list 9)) i l).1 (by omega)
      omega
    · rw [part_get l (atL list l) _ (by omega)]
      exact h2
    · rw [bitsA_get l (atL list l) _ (by omega), h2]
      have hb := bl_01 l (list.getD i 0)
      have e : ((2 * (st (lvB (list.length : Int) (encL list 9)) i l).2 + (bl l (list.getD i 0)).toNat : Nat) : Int) = 2 * ((st (lvB (list.length : Int) (encL list 9)) i l).2 : Int) + bl l (list.getD i 0) := by omega
      rw [e, h3]
      unfold bl
      rw [show 9 - l = (8 - l) + 1 by omega, show 9 - (l + 1) = 8 - l by omega, Int.pow_succ]
      obtain ⟨a, ha⟩ := Int.eq_ofNat_of_zero_le hx.1
      rw [ha]
      have hp := Nat.two_pow_pos (8 - l)
      have e1 : (a : Int) / 2 ^ (8 - l) = ((a / 2 ^ (8 - l) : Nat) : Int) := by simp
      have e2 : (a : Int) / (2 ^ (8 - l) * 2) = ((a / 2 ^ (8 - l) / 2 : Nat) : Int) := by rw [Nat.div_div_eq_div_mul]; simp
      rw [e1, e2]
      omega
theorem waveL_enc (list : List Int) (hs : Small list) : waveL (list.length : Int) (encL list 9) = list := by
  unfold waveL
  rw [Int.toNat_natCast]
  apply ext_getD 0 (valL_length _ _ _)
  intro j hj
  rw [valL_length] at hj
  rw [valL_get _ _ _ _ hj, (st_enc list hs j hj 9 (Nat.le_refl _)).2.2]
  show list.getD j 0 / 1 = _
  omega
theorem fine_enc (list : List Int) (hs : Small list) : Fine (encL list 9) := by
  have hl := hs.1
  have ho : ∀ i, ¬ i < 9 → (encL list 9).getD i z64 = z64 := fun i hi => by rw [List.getD_eq_getElem?_getD, List.getElem?_eq_none (by rw [encL_length]; omega)]; rfl
  refine ⟨fun i => ?_, fun i => ?_, fun i => ?_⟩
  · by_cases c : i < 9
    · rw [encL_get list 9 i c]
      exact words_lt _ (bitsA_01 _ _)
    · rw [ho i c]
      intro x hx
      cases hx
  · by_cases c : i < 9
    · rw [encL_get list 9 i c]
      show (wordsOf (bitsA i (atL list i))).length ≤ 4000000
      unfold wordsOf
      rw [wordsTo_length, bitsA_length, atL_length]
      omega
    · rw [ho i c]
      exact Nat.zero_le _
  · by_cases c : i < 9
    · rw [encL_get list 9 i c]
      show (-9223372036854775808 : Int) ≤ (list.length : Int)
      omega
    · rw [ho i c]
      show (-9223372036854775808 : Int) ≤ 0
      omega
theorem nthR_at (l : List Int) (i : Nat) (hi : i < l.length) : ∀ d i0 : Nat, i0 + d = l.length → i0 ≤ i → nthR l (l.getD i 0) d i0 ((((l.take i).drop i0).count (l.getD i 0) : Nat) : Int) = (i : Int) := by
  intro d
  induction d with
  | zero => intro i0 h h2; omega
  | succ d ih =>
    intro i0 h h2
    rw [nthR]
    by_cases c : i0 = i
    · rw [c, if_pos rfl, List.drop_eq_nil_of_le (by rw [List.length_take]; omega), if_pos (by rw [List.count_nil]; rfl)]
    · have hd := count_drop (l.take i) (l.getD i 0) i0 (by rw [List.length_take]; omega)
      rw [take_get l i i0 (by omega)] at hd
      have h3 := ih (i0 + 1) (by omega) (by omega)
      by_cases q : l.getD i0 0 = l.getD i 0
      · rw [if_pos q] at hd ⊢
        rw [hd, if_neg (by omega), show (((((l.take i).drop (i0 + 1)).count (l.getD i 0) + 1 : Nat) : Int) - 1) = ((((l.take i).drop (i0 + 1)).count (l.getD i 0) : Nat) : Int) by omega]
        exact h3
      · rw [if_neg q] at hd ⊢
        rw [hd, Nat.add_zero]
        exact h3
theorem lawCount_l0 (l : List Int) (v : Int) (h5 : l.length ≤ 5000) (d : Nat) : ∀ (i c : Nat), i + d = l.length → c ≤ i → Ev (fun k => laws_count.l0 k l v (c : Int) (i : Int)) ((c + (l.drop i).count v : Nat) : Int) := by
  induction d with
  | zero =>
    intro i c hi ha
    refine Ev.step (f := fun _ => some _) (fun k => ?_) (Ev.now _)
    rw [laws_count.l0, if_neg (by omega), List.drop_eq_nil_of_le (by omega)]
    rfl
  | succ d ih =>
    intro i c hi ha
    rw [count_drop l v i (by omega)]
    by_cases q : l.getD i 0 = v
    · refine Ev.step (fun k => ?_) (by rw [if_pos q, show c + ((l.drop (i + 1)).count v + 1) = c + 1 + (l.drop (i + 1)).count v by omega]; exact ih (i + 1) (c + 1) (by omega) (by omega))
      rw [laws_count.l0, if_pos (by omega), if_pos (by omega), rd_nat, if_pos q, w64 (x := (c : Int) + 1) (by omega) (by omega), w64 (by omega) (by omega)]
      rfl
    · refine Ev.step (fun k => ?_) (by rw [if_neg q, Nat.add_zero]; exact ih (i + 1) c (by omega) (by omega))
      rw [laws_count.l0, if_pos (by omega), if_pos (by omega), rd_nat, if_neg q, w64 (by omega) (by omega)]
      rfl
theorem lawSame_l0 (l : List Int) (hl : l.length ≤ 4000000) (d : Nat) : ∀ i : Nat, i + d = l.length → Ev (fun k => laws_same.l0 k l l (i : Int)) true := by
  induction d with
  | zero =>
    intro i h
    refine Ev.step (f := fun _ => some true) (fun k => ?_) (Ev.now true)
    rw [laws_same.l0, if_neg (by omega)]
  | succ d ih =>
    intro i h
    refine Ev.step (f := fun k => laws_same.l0 k l l ((i + 1 : Nat) : Int)) (fun k => ?_) (ih (i + 1) (by omega))
    rw [laws_same.l0, if_pos (by omega), if_pos (by omega), if_pos (by omega), if_pos rfl, w64 (by omega) (by omega)]
    rfl
theorem lawSame_ev (l : List Int) (hl : l.length ≤ 4000000) : Ev (fun k => laws_same.f k l l) true := by
  refine Ev.congr (f := fun k => laws_same.l0 k l l ((0 : Nat) : Int)) (fun k => ?_) (lawSame_l0 l hl l.length 0 (by omega))
  unfold laws_same.f
  rw [if_pos rfl]
  rfl
theorem lawPick_ev (code : List Int) (hc : ∀ x ∈ code, 0 ≤ x ∧ x ≤ 255) (hl : code.length ≤ 2000000) (n : Int) (h0 : 1 ≤ n) (h1 : n ≤ 1000000) : ∃ v, Ev (fun k => laws_pick.f k code 3 n) v ∧ 0 ≤ v ∧ v < n := by
  have hzero : ∀ k, 1 ≤ k → laws_pick.j0 k code 3 n true = some 0 := by
    intro k hk
    obtain ⟨k, rfl⟩ : ∃ m, k = m + 1 := ⟨k - 1, by omega⟩
    rw [laws_pick.j0, if_pos rfl]
  by_cases c0 : (code.length : Int) = 0
  · refine ⟨0, ev_mk 1 fun k hk => ?_, by omega, by omega⟩
    unfold laws_pick.f
    rw [if_pos c0, hzero k hk]
  by_cases c1 : n < 2
  · refine ⟨0, ev_mk 1 fun k hk => ?_, by omega, by omega⟩
    unfold laws_pick.f
    rw [if_neg c0, decide_eq_true c1, hzero k hk]
  · have step : ∀ (k : Nat) (s j : Int), 0 ≤ s → s ≤ 1000000 → 0 ≤ j → j < 3 → ∃ s', 0 ≤ s' ∧ s' ≤ 31 * s + 255 ∧ laws_pick.l0 (k + 1) code 3 n s j = laws_pick.l0 k code 3 n s' (j + 1) := by
      intro k s j g1 g2 g3 g4
      have i0 : 0 ≤ Int.tmod (3 + j) (code.length : Int) := Int.tmod_nonneg _ (by omega)
      have i1 : Int.tmod (3 + j) (code.length : Int) < (code.length : Int) := Int.tmod_lt_of_pos _ (by omega)
      have hr := rd_code hc (Int.tmod (3 + j) (code.length : Int))
      refine ⟨31 * s + rd code (Int.tmod (3 + j) (code.length : Int)), by omega, by omega, ?_⟩
      rw [laws_pick.l0, if_pos g4, if_neg c0, w64 (x := 3 + j) (by omega) (by omega), if_pos i0, if_pos i1, w64 (x := 31 * s) (by omega) (by omega), w64 (x := rd code _) (by omega) (by omega), w64 (x := 31 * s + _) (by omega) (by omega), w64 (x := j + 1) (by omega) (by omega)]
    have all : ∀ k : Nat, ∃ s, 0 ≤ s ∧ s ≤ 1000000 ∧ laws_pick.l0 (k + 4) code 3 n 0 0 = some (Int.tmod (s + 3) n) := by
      intro k
      obtain ⟨s1, a1, b1, e1⟩ := step (k + 3) 0 0 (by omega) (by omega) (by omega) (by omega)
      obtain ⟨s2, a2, b2, e2⟩ := step (k + 2) s1 (0 + 1) (by omega) (by omega) (by omega) (by omega)
      obtain ⟨s3, a3, b3, e3⟩ := step (k + 1) s2 (0 + 1 + 1) (by omega) (by omega) (by omega) (by omega)
      refine ⟨s3, a3, by omega, ?_⟩
      rw [e1, e2, e3, laws_pick.l0, if_neg (by decide), if_neg (by omega), w64 (by omega) (by omega)]
    obtain ⟨s, a, b, e⟩ := all 0
    have mono : ∀ k, 4 ≤ k → laws_pick.l0 k code 3 n 0 0 = some (Int.tmod (s + 3) n) := by
      intro k hk
      have hm : ∀ j : Nat, laws_pick.l0 (4 + j) code 3 n 0 0 = some (Int.tmod (s + 3) n) := by
        intro j
        induction j with
        | zero => exact e
        | succ j ih => exact (laws_pick.mono_l (4 + j)).2 _ _ _ _ _ _ ih
      have := hm (k - 4)
      rw [show 4 + (k - 4) = k by omega] at this
      exact this
    refine ⟨Int.tmod (s + 3) n, ev_mk 5 fun k hk => ?_, Int.tmod_nonneg _ (by omega), Int.tmod_lt_of_pos _ (by omega)⟩
    unfold laws_pick.f
    rw [if_neg c0, decide_eq_false c1]
    obtain ⟨k, rfl⟩ : ∃ m, k = m + 1 := ⟨k - 1, by omega⟩
    rw [laws_pick.j0, if_neg (by decide)]
    exact mono k (by omega)
theorem drawWave_ev {code : List Int} (h1 : ∀ x ∈ code, 0 ≤ x ∧ x ≤ 255) (h2 : code.length ≤ 140737488351232) : ∃ l, Ev (fun k => spec_DrawWaveOf.f k code) l ∧ l.length ≤ 2000 := by
  obtain ⟨t, u, e0, c0⟩ := open_ev h1 h2
  obtain ⟨l, t1, u1, hev, hlen, _, c1⟩ := numbers_ev c0 24 512 (by omega) (by omega) (by omega) (by omega)
  obtain ⟨v2, t2, u2, e2, a2, b2, _, c2⟩ := pick_ev c1 (by omega) 8 (by omega)
  obtain ⟨K0, k0⟩ := ev_out hev
  have pre : ∀ k, K0 ≤ k → ∀ r, (if v2 = 0 then ((spec_l01Cur_raw.f code t2 u2).bind fun bt212 => ((some (([bt212.1, 512] : List Int) : List Int)).bind fun y215 => ((spec_l01Cur_pick.f code bt212.2.1 bt212.2.2 2).bind fun bt218 => (if 0 ≤ bt218.1 then (if bt218.1 < (y215.length : Int) then (if l.length < 17592186044416 then (some (l ++ [rd y215 bt218.1])) else (none)) else (none)) else (none))))) else (if v2 = 1 then ((spec_l01Cur_once.f code t2 u2 4).bind fun bt225 => (if bt225.1 = true then ((spec_l01Cur_pick.f code bt225.2.1 bt225.2.2 2).bind fun bt228 => (if 0 ≤ (wrap64 (1000 + bt228.1)) then (if (wrap64 (1000 + bt228.1) : Int).toNat ≤ 35184372088832 then (some (List.replicate (wrap64 (1000 + bt228.1) : Int).toNat 0)) else (none)) else (none))) else (some l))) else (some l))) = some r → spec_DrawWaveOf.f k code = some r := by
    intro k hk r hr
    unfold spec_DrawWaveOf.f
    rw [e0, Option.bind_some, k0 k hk, Option.bind_some, e2, Option.bind_some]
    exact hr
  by_cases g0 : v2 = 0
  · obtain ⟨v3, t3, u3, e3, _, _, c3⟩ := raw_ev c2 (by omega)
    obtain ⟨v4, t4, u4, e4, a4, b4, _, c4⟩ := pick_ev c3 (by omega) 2 (by omega)
    have b4 := b4 (by omega)
    refine ⟨l ++ [rd [v3, 512] v4], ev_mk K0 fun k hk => pre k hk _ ?_, by rw [List.length_append]; simp; omega⟩
    rw [if_pos g0, e3, Option.bind_some, Option.bind_some, e4, Option.bind_some, if_pos a4, if_pos (by simp; omega), if_pos (by omega)]
  by_cases g1 : v2 = 1
  · obtain ⟨v3, t3, u3, e3, c3⟩ := once_ev c2 (by omega) 4 (by omega)
    by_cases g2 : v3 = true
    · obtain ⟨v4, t4, u4, e4, a4, b4, _, c4⟩ := pick_ev c3 (by omega) 2 (by omega)
      have b4 := b4 (by omega)
      have w : wrap64 (1000 + v4) = 1000 + v4 := w64 (by omega) (by omega)
      refine ⟨List.replicate (1000 + v4).toNat 0, ev_mk K0 fun k hk => pre k hk _ ?_, by rw [List.length_replicate]; omega⟩
      rw [if_neg g0, if_pos g1, e3, Option.bind_some, if_pos g2, e4, Option.bind_some, w, if_pos (by omega), if_pos (by omega)]
    · refine ⟨l, ev_mk K0 fun k hk => pre k hk _ ?_, by omega⟩
      rw [if_neg g0, if_pos g1, e3, Option.bind_some, if_neg g2]
  · refine ⟨l, ev_mk K0 fun k hk => pre k hk _ ?_, by omega⟩
    rw [if_neg g0, if_neg g1]

theorem FnWave : laws_FnWave.Pure := by
  intro code _ hs hwf
  by_cases g : (code.length : Int) > 1048576
  · exact ⟨0, by unfold laws_FnWave.f laws_big.f; rw [Option.bind_some, if_pos (decide_eq_true g)]⟩
  have hcode := code_wf hwf
  obtain ⟨list, hd, hlen⟩ := drawWave_ev hcode (by omega)
  obtain ⟨K0, k0⟩ := ev_out hd
  obtain ⟨K1, k1⟩ := ev_out (specW_ev list)
  obtain ⟨K2, k2⟩ := ev_out (implW_ev list (by omega))
  have hstart : ∀ k, K0 + K1 + K2 ≤ k → laws_FnWave.f k code = laws_FnWave.j0 k code list (encW list).2.2.2 (encW list).2.2.2 (!(encW list).2.2.2) (encW list).1 (encW list).2.1 (encW list).2.2.1 := by
    intro k hk
    unfold laws_FnWave.f laws_big.f
    rw [Option.bind_some, if_neg (by rw [decide_eq_false g]; decide), k0 k (by omega), Option.bind_some, k1 k (by omega), Option.bind_some, k2 k (by omega), Option.bind_some, bne_self_eq_false, if_neg (by decide)]
  by_cases c : okList list = true
  · have hsm := small_of c
    have hl := hsm.1
    have henc : encW list = ((list.length : Int), encZ list 9, encL list 9, true) := by unfold encW; rw [c, if_pos rfl]
    have hok := okW_enc list hsm
    have hwl := waveL_enc list hsm
    have hF := fine_enc list hsm
    obtain ⟨N, hN⟩ : ∃ N, N = (list.length : Int) := ⟨_, rfl⟩
    obtain ⟨Z, hZ⟩ : ∃ Z, Z = encZ list 9 := ⟨_, rfl⟩
    obtain ⟨Ls, hLs⟩ : ∃ Ls, Ls = encL list 9 := ⟨_, rfl⟩
    rw [← hN, ← hLs] at hwl
    rw [← hN, ← hZ, ← hLs] at hok henc
    rw [← hLs] at hF
    obtain ⟨K3, k3⟩ := ev_out (read_ev N Z Ls hF.1 hF.2.1 hF.2.2)
    rw [hok, if_pos rfl, hwl] at k3
    obtain ⟨K4, k4⟩ := ev_out (lawSame_ev list (by omega))
    have hj1 : Ev (fun k => laws_FnWave.j1 k code list false N Z Ls) true := by
      by_cases q : (list.length : Int) = 0
      · obtain ⟨K5, k5⟩ := ev_out (implAt_ev N Z Ls 0 hF)
        have ha : atA N Z Ls 0 = -1 := by unfold atA; rw [if_neg (by omega)]
        rw [ha] at k5
        refine ev_mk (K5 + 1) fun k hk => ?_
        obtain ⟨k, rfl⟩ : ∃ m, k = m + 1 := ⟨k - 1, by omega⟩
        rw [laws_FnWave.j1, if_neg (by decide), if_pos q, k5 k (by omega), Option.bind_some]
        rfl
      · obtain ⟨v, hv, v0, v1⟩ := lawPick_ev code hcode (by omega) (list.length : Int) (by omega) (by omega)
        obtain ⟨i, rfl⟩ := Int.eq_ofNat_of_zero_le v0
        obtain ⟨K5, k5⟩ := ev_out hv
        obtain ⟨x, hx⟩ : ∃ x, x = list.getD i 0 := ⟨_, rfl⟩
        obtain ⟨K6, k6⟩ := ev_out (implRank_ev N Z Ls x (i : Int) hF)
        obtain ⟨K7, k7⟩ := ev_out (implAt_ev N Z Ls (i : Int) hF)
        have hc := lawCount_l0 (list.take i) x (by rw [List.length_take]; omega) (list.take i).length 0 0 (by omega) (by omega)
        rw [Nat.zero_add, List.drop_zero] at hc
        obtain ⟨K8, k8⟩ := ev_out hc
        have hcl := count_take_len list x i
        obtain ⟨K9, k9⟩ := ev_out (implSelect_ev N Z Ls x (((list.take i).count x : Nat) : Int) hF (by omega))
        obtain ⟨K10, k10⟩ := ev_out (implRank_ev N Z Ls x ((i + 1 : Nat) : Int) hF)
        have r1 : rankA N Z Ls x (i : Int) = (((list.take i).count x : Nat) : Int) := by unfold rankA; rw [if_pos ⟨hok, by omega, by omega⟩, hwl, Int.toNat_natCast]
        have r2 : rankA N Z Ls x ((i + 1 : Nat) : Int) = (((list.take i).count x + 1 : Nat) : Int) := by
          unfold rankA
          rw [if_pos ⟨hok, by omega, by omega⟩, hwl, Int.toNat_natCast, count_take list x i (by omega), if_pos hx.symm]
        have r3 : atA N Z Ls (i : Int) = x := by unfold atA; rw [if_pos ⟨hok, by omega, by omega⟩, hwl, Int.toNat_natCast, hx]
        have r4 : selA N Z Ls x (((list.take i).count x : Nat) : Int) = (i : Int) := by
          unfold selA
          rw [if_pos ⟨hok, by omega⟩, hwl, hx]
          have := nthR_at list i (by omega) list.length 0 (by omega) (by omega)
          rw [List.drop_zero] at this
          exact this
        rw [r1] at k6
        rw [r2] at k10
        rw [r3] at k7
        rw [r4] at k9
        refine ev_mk (K5 + K6 + K7 + K8 + K9 + K10 + 1) fun k hk => ?_
        obtain ⟨k, rfl⟩ : ∃ m, k = m + 1 := ⟨k - 1, by omega⟩
        have e8 : laws_count.f k (list.take i) x = some (((list.take i).count x : Nat) : Int) := k8 k (by omega)
        rw [laws_FnWave.j1, if_neg (by decide), if_neg q, k5 k (by omega), Option.bind_some, if_pos (by omega), if_pos (by omega), rd_nat, ← hx, k6 k (by omega), Option.bind_some, k7 k (by omega), Option.bind_some, if_pos rfl, if_pos (by omega), Int.toNat_natCast, e8, Option.bind_some, if_pos rfl, k9 k (by omega), Option.bind_some, if_pos rfl, w64 (x := (i : Int) + 1) (by omega) (by omega), show (i : Int) + 1 = ((i + 1 : Nat) : Int) by omega, k10 k (by omega), Option.bind_some, w64 (by omega) (by omega)]
        congr 1
        rw [beq_iff_eq]
        omega
    obtain ⟨K5, k5⟩ := ev_out hj1
    refine ⟨K0 + K1 + K2 + K3 + K4 + K5 + 1, ?_⟩
    rw [hstart _ (by omega), henc]
    dsimp only
    rw [Bool.not_true, laws_FnWave.j0, if_neg (by decide)]
    unfold impl_WaveList.f impl_WaveOk.f
    rw [k3 _ (by omega), Option.bind_some]
    dsimp only
    rw [if_pos rfl, Option.bind_some, k4 _ (by omega), Option.bind_some, if_pos rfl, Option.bind_some, Option.bind_some, Bool.not_true]
    exact k5 _ (by omega)
  · have henc : encW list = (0, [], [], false) := by unfold encW; rw [if_neg c]
    refine ⟨K0 + K1 + K2 + 1, ?_⟩
    rw [hstart _ (by omega), henc]
    dsimp only
    rw [Bool.not_false, laws_FnWave.j0, if_pos rfl]
    rfl

end Go.Proofs.Ytamdhfjnalglfaa.Pure
