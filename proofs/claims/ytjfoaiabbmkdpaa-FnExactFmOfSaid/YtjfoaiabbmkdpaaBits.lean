import Derived.Test.YtjfoaiabbmkdpaaBase
/-! Lists of bits in words of 64: plain facts. -/
namespace Go.Proofs.Ytjfoaiabbmkdpaa.Bits
set_option linter.unusedVariables false
open Go.Proofs.Ytjfoaiabbmkdpaa.Base

def bitAt (ws : List Int) (i : Nat) : Int := ws.getD (i / 64) 0 / 2 ^ (i % 64) % 2
def bitsL (n : Nat) (ws : List Int) : List Int := (List.range n).map (bitAt ws)
def wsum (f : Nat → Int) : Nat → Int
  | 0 => 0
  | m + 1 => wsum f m + f m * 2 ^ m
/-- Word j, of the first i bits. -/
def wordAt (l : List Int) (i j : Nat) : Int := wsum (fun t => l.getD (64 * j + t) 0) (min 64 (i - 64 * j))
def wordsTo (l : List Int) (i W : Nat) : List Int := (List.range W).map (wordAt l i)
def wordsOf (l : List Int) : List Int := wordsTo l l.length ((l.length + 63) / 64)

theorem bitAt_01 (ws : List Int) (i : Nat) : bitAt ws i = 0 ∨ bitAt ws i = 1 := by unfold bitAt; omega
theorem bitsL_length (n : Nat) (ws : List Int) : (bitsL n ws).length = n := by simp [bitsL]
theorem bitsL_get (n : Nat) (ws : List Int) (i : Nat) (h : i < n) : (bitsL n ws).getD i 0 = bitAt ws i := by
  unfold bitsL
  rw [List.getD_eq_getElem?_getD, List.getElem?_map, List.getElem?_range h]
  rfl
theorem bitsL_succ (n : Nat) (ws : List Int) : bitsL (n + 1) ws = bitsL n ws ++ [bitAt ws n] := by simp [bitsL, List.range_succ]
theorem bitsL_01 (n : Nat) (ws : List Int) : ∀ x ∈ bitsL n ws, x = 0 ∨ x = 1 := by
  intro x hx
  unfold bitsL at hx
  obtain ⟨i, _, rfl⟩ := List.mem_map.1 hx
  exact bitAt_01 ws i
theorem wordsTo_length (l : List Int) (i W : Nat) : (wordsTo l i W).length = W := by simp [wordsTo]
theorem wordsTo_get (l : List Int) (i W j : Nat) (h : j < W) : (wordsTo l i W).getD j 0 = wordAt l i j := by
  unfold wordsTo
  rw [List.getD_eq_getElem?_getD, List.getElem?_map, List.getElem?_range h]
  rfl

theorem two_pos (m : Nat) : (0 : Int) < 2 ^ m := Int.pow_pos (by decide)
theorem wsum_bound (f : Nat → Int) (m : Nat) (h : ∀ i, i < m → f i = 0 ∨ f i = 1) : 0 ≤ wsum f m ∧ wsum f m < 2 ^ m := by
  induction m with
  | zero => exact ⟨Int.le_refl _, by simp [wsum]⟩
  | succ m ih =>
    obtain ⟨h0, h1⟩ := ih fun i hi => h i (by omega)
    have e : (2 : Int) ^ (m + 1) = 2 ^ m * 2 := Int.pow_succ 2 m
    rw [wsum, e]
    rcases h m (by omega) with q | q <;> rw [q] <;> omega
theorem wsum_bit (f : Nat → Int) (m t : Nat) (h : ∀ i, i < m → f i = 0 ∨ f i = 1) (ht : t < m) : wsum f m / 2 ^ t % 2 = f t := by
  induction m with
  | zero => omega
  | succ m ih =>
    have hb := wsum_bound f m fun i hi => h i (by omega)
    have hp := two_pos t
    rcases Nat.lt_or_ge t m with q | q
    · obtain ⟨d, rfl⟩ : ∃ d, m = t + (d + 1) := ⟨m - t - 1, by omega⟩
      have e : (2 : Int) ^ (t + (d + 1)) = 2 ^ t * (2 ^ d * 2) := by rw [Int.pow_add, Int.pow_succ]
      rw [wsum, e, show f (t + (d + 1)) * (2 ^ t * (2 ^ d * 2)) = 2 ^ t * (f (t + (d + 1)) * 2 ^ d * 2) by
        rw [Int.mul_left_comm, Int.mul_assoc], Int.add_mul_ediv_left _ _ (by omega), Int.add_mul_emod_self_right]
      exact ih (fun i hi => h i (by omega)) (by omega)
    · obtain rfl : t = m := by omega
      rw [wsum, Int.add_mul_ediv_right _ _ (by omega), Int.ediv_eq_zero_of_lt hb.1 hb.2]
      rcases h t (by omega) with q | q <;> rw [q] <;> rfl
theorem wsum_of (x : Int) (h : 0 ≤ x) (m : Nat) : wsum (fun i => x / 2 ^ i % 2) m = x % 2 ^ m := by
  induction m with
  | zero => simp [wsum]
  | succ m ih =>
    have hp := two_pos m
    rw [wsum, ih, Int.pow_succ, Int.emod_def x (2 ^ m), Int.emod_def x (2 ^ m * 2), Int.emod_def _ 2, ← Int.ediv_ediv_of_nonneg (by omega)]
    generalize x / 2 ^ m = q
    generalize (2 : Int) ^ m = p
    rw [Int.sub_mul, Int.mul_comm q p, Int.mul_assoc p 2, Int.mul_comm p (2 * (q / 2))]
    omega
theorem wsum_congr (f g : Nat → Int) (m : Nat) (h : ∀ i, i < m → f i = g i) : wsum f m = wsum g m := by
  induction m with
  | zero => rfl
  | succ m ih => rw [wsum, wsum, ih fun i hi => h i (by omega), h m (by omega)]

theorem wordAt_succ (l : List Int) (i j : Nat) : wordAt l (i + 1) j = if j = i / 64 then wordAt l i j + l.getD i 0 * 2 ^ (i % 64) else wordAt l i j := by
  unfold wordAt
  by_cases h : j = i / 64
  · rw [if_pos h, show min 64 (i + 1 - 64 * j) = i % 64 + 1 by omega, show min 64 (i - 64 * j) = i % 64 by omega, wsum, show 64 * j + i % 64 = i by omega]
  · rw [if_neg h]
    rcases Nat.lt_or_ge j (i / 64) with q | q
    · rw [show min 64 (i + 1 - 64 * j) = 64 by omega, show min 64 (i - 64 * j) = 64 by omega]
    · rw [show min 64 (i + 1 - 64 * j) = 0 by omega, show min 64 (i - 64 * j) = 0 by omega]
theorem wordsTo_set (l : List Int) (i W : Nat) (v : Int) (h : i / 64 < W) (hv : v = wordAt l i (i / 64) + l.getD i 0 * 2 ^ (i % 64)) : (wordsTo l i W).set (i / 64) v = wordsTo l (i + 1) W := by
  apply ext_getD 0 (by rw [List.length_set, wordsTo_length, wordsTo_length])
  intro j hj
  rw [List.length_set, wordsTo_length] at hj
  rw [lset, wordsTo_length, wordsTo_get _ _ _ _ hj, wordsTo_get _ _ _ _ hj, wordAt_succ]
  by_cases q : i / 64 = j
  · subst q
    rw [if_pos ⟨rfl, hj⟩, if_pos rfl, hv]
  · rw [if_neg (fun e => q e.1), if_neg (fun e => q e.symm)]
theorem wordsTo_skip (l : List Int) (i W : Nat) (h : l.getD i 0 = 0) : wordsTo l i W = wordsTo l (i + 1) W := by
  unfold wordsTo
  apply List.map_congr_left
  intro j _
  rw [wordAt_succ, h]
  split <;> simp
theorem wordsTo_more (l : List Int) (i : Nat) (h : i % 64 = 0) : wordsTo l i ((i + 63) / 64) ++ [0] = wordsTo l i (i / 64 + 1) := by
  have e : (i + 63) / 64 = i / 64 := by omega
  rw [e]
  unfold wordsTo
  rw [List.range_succ, List.map_append]
  congr 1
  show _ = [wordAt l i (i / 64)]
  unfold wordAt
  rw [show min 64 (i - 64 * (i / 64)) = 0 by omega, wsum]
theorem wordAt_bound (l : List Int) (hb : ∀ i, i < l.length → l.getD i 0 = 0 ∨ l.getD i 0 = 1) (i j : Nat) (hi : i ≤ l.length) : 0 ≤ wordAt l i j ∧ wordAt l i j < 2 ^ (min 64 (i - 64 * j)) :=
  wsum_bound _ _ fun t ht => hb _ (by omega)
/-- The bits of the words of a list are the list. -/
theorem bitAt_words (l : List Int) (hb : ∀ i, i < l.length → l.getD i 0 = 0 ∨ l.getD i 0 = 1) (i : Nat) (hi : i < l.length) : bitAt (wordsOf l) i = l.getD i 0 := by
  unfold bitAt wordsOf
  rw [wordsTo_get _ _ _ _ (by omega)]
  unfold wordAt
  rw [wsum_bit _ _ _ (fun t ht => hb _ (by omega)) (by omega)]
  show l.getD (64 * (i / 64) + i % 64) 0 = _
  rw [show 64 * (i / 64) + i % 64 = i by omega]
/-- The words of the bits of words: the words, the last one cut. -/
theorem wordsOf_bits (n : Nat) (ws : List Int) (hw : ∀ x ∈ ws, 0 ≤ x ∧ x < 2 ^ 64) (hl : ws.length = (n + 63) / 64) : wordsOf (bitsL n ws) = ws ↔ (n % 64 = 0 ∨ ws.getD (ws.length - 1) 0 / 2 ^ (n % 64) = 0) := by
  have hget : ∀ j, j < ws.length → 0 ≤ ws.getD j 0 ∧ ws.getD j 0 < 2 ^ 64 := by
    intro j hj
    rw [lget_lt _ _ _ hj]
    exact hw _ (List.getElem_mem hj)
  have hwd : ∀ j, j < ws.length → (wordsOf (bitsL n ws)).getD j 0 = ws.getD j 0 % 2 ^ (min 64 (n - 64 * j)) := by
    intro j hj
    unfold wordsOf
    rw [bitsL_length, wordsTo_get _ _ _ _ (by omega)]
    unfold wordAt
    rw [← wsum_of _ (hget j hj).1]
    apply wsum_congr
    intro t ht
    rw [bitsL_get _ _ _ (by omega)]
    unfold bitAt
    rw [show (64 * j + t) / 64 = j by omega, show (64 * j + t) % 64 = t by omega]
  have hlen : (wordsOf (bitsL n ws)).length = ws.length := by rw [wordsOf, wordsTo_length, bitsL_length, hl]
  constructor
  · intro e
    by_cases q : n % 64 = 0
    · exact .inl q
    · right
      have := hwd (ws.length - 1) (by omega)
      rw [e, show min 64 (n - 64 * (ws.length - 1)) = n % 64 by omega] at this
      have hp := two_pos (n % 64)
      have h1 := Int.emod_lt_of_pos (ws.getD (ws.length - 1) 0) hp
      exact Int.ediv_eq_zero_of_lt (hget _ (by omega)).1 (by omega)
  · intro h
    apply ext_getD 0 hlen
    intro j hj
    rw [hlen] at hj
    rw [hwd j hj]
    have hg := hget j hj
    by_cases q : 64 * (j + 1) ≤ n
    · rw [show min 64 (n - 64 * j) = 64 by omega]
      exact Int.emod_eq_of_lt hg.1 hg.2
    · rcases h with h | h
      · omega
      · rw [show min 64 (n - 64 * j) = n % 64 by omega]
        obtain rfl : j = ws.length - 1 := by omega
        have hp := two_pos (n % 64)
        have := Int.emod_def (ws.getD (ws.length - 1) 0) (2 ^ (n % 64))
        rw [h] at this
        simpa using this

end Go.Proofs.Ytjfoaiabbmkdpaa.Bits
