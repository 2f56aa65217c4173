/- Words that the walks use. -/
import Derived.Test.YtadhngelhognaaaBase
namespace Go.Proofs.Ytadhngelhognaaa.Lcs
open Go.Proofs.Ytadhngelhognaaa.Base
def lcs : List Int → List Int → Nat
  | [], _ => 0
  | _ :: _, [] => 0
  | x :: xs, y :: ys => if x = y then lcs xs ys + 1 else max (lcs xs (y :: ys)) (lcs (x :: xs) ys)
termination_by a b => a.length + b.length
theorem lcs_nil (b : List Int) : lcs [] b = 0 := by rw [lcs]
theorem lcs_nil' (a : List Int) : lcs a [] = 0 := by
  cases a with
  | nil => rw [lcs]
  | cons x xs => rw [lcs]
theorem lcs_cons (x y : Int) (xs ys : List Int) : lcs (x :: xs) (y :: ys) = if x = y then lcs xs ys + 1 else max (lcs xs (y :: ys)) (lcs (x :: xs) ys) := by rw [lcs]
theorem lcs_comm_aux (n : Nat) : ∀ a b : List Int, a.length + b.length = n → lcs a b = lcs b a := by
  induction n using Nat.strongRecOn with
  | ind n ih =>
    intro a b hn
    match a, b with
    | [], b => rw [lcs_nil, lcs_nil']
    | x :: xs, [] => rw [lcs_nil, lcs_nil']
    | x :: xs, y :: ys =>
      simp only [List.length_cons] at hn
      rw [lcs_cons, lcs_cons]
      by_cases h : x = y
      · rw [if_pos h, if_pos h.symm, ih (xs.length + ys.length) (by omega) xs ys rfl]
      · rw [if_neg h, if_neg (fun e => h e.symm), ih (xs.length + (ys.length + 1)) (by omega) xs (y :: ys) (by simp), ih (xs.length + 1 + ys.length) (by omega) (x :: xs) ys (by simp), Nat.max_comm]
theorem lcs_comm (a b : List Int) : lcs a b = lcs b a := lcs_comm_aux _ a b rfl
theorem lcs_step_aux (n : Nat) : ∀ (x : Int) (xs b : List Int), xs.length + b.length = n → lcs xs b ≤ lcs (x :: xs) b ∧ lcs (x :: xs) b ≤ lcs xs b + 1 := by
  induction n using Nat.strongRecOn with
  | ind n ih =>
    intro x xs b hn
    match b with
    | [] => rw [lcs_nil', lcs_nil']; omega
    | y :: ys =>
      simp only [List.length_cons] at hn
      have hr : lcs xs ys ≤ lcs xs (y :: ys) ∧ lcs xs (y :: ys) ≤ lcs xs ys + 1 := by
        have h := ih (ys.length + xs.length) (by omega) y ys xs rfl
        rw [lcs_comm xs ys, lcs_comm xs (y :: ys)]
        exact h
      have hl := ih (xs.length + ys.length) (by omega) x xs ys rfl
      rw [lcs_cons]
      by_cases h : x = y
      · rw [if_pos h]; omega
      · rw [if_neg h]; omega
theorem lcs_le_cons (x : Int) (xs b : List Int) : lcs xs b ≤ lcs (x :: xs) b := (lcs_step_aux _ x xs b rfl).1
theorem lcs_cons_le (x : Int) (xs b : List Int) : lcs (x :: xs) b ≤ lcs xs b + 1 := (lcs_step_aux _ x xs b rfl).2
theorem lcs_le_cons' (y : Int) (a ys : List Int) : lcs a ys ≤ lcs a (y :: ys) := by rw [lcs_comm a ys, lcs_comm a (y :: ys)]; exact lcs_le_cons y ys a
theorem lcs_cons_le' (y : Int) (a ys : List Int) : lcs a (y :: ys) ≤ lcs a ys + 1 := by rw [lcs_comm a ys, lcs_comm a (y :: ys)]; exact lcs_cons_le y ys a
theorem lcs_max (x y : Int) (xs ys : List Int) : lcs (x :: xs) (y :: ys) = max (max (lcs xs (y :: ys)) (lcs (x :: xs) ys)) (if x = y then 1 + lcs xs ys else 0) := by
  have h1 := lcs_cons_le' y xs ys
  have h2 := lcs_cons_le x xs ys
  rw [lcs_cons]
  by_cases h : x = y
  · rw [if_pos h, if_pos h]; omega
  · rw [if_neg h, if_neg h]; omega
theorem lcs_le_left (a b : List Int) : lcs a b ≤ a.length := by
  induction a with
  | nil => rw [lcs_nil]; omega
  | cons x xs ih => have := lcs_cons_le x xs b; simp only [List.length_cons]; omega
def L (a b : List Int) (i j : Nat) : Nat := lcs (a.drop i) (b.drop j)
theorem L_end (a b : List Int) (i j : Nat) (h : a.length ≤ i) : L a b i j = 0 := by unfold L; rw [List.drop_eq_nil_of_le h, lcs_nil]
theorem L_end' (a b : List Int) (i j : Nat) (h : b.length ≤ j) : L a b i j = 0 := by unfold L; rw [List.drop_eq_nil_of_le h, lcs_nil']
theorem drop_at (a : List Int) (i : Nat) (h : i < a.length) : a.drop i = a.getD i 0 :: a.drop (i + 1) := by
  rw [List.drop_eq_getElem_cons h, List.getD_eq_getElem?_getD, List.getElem?_eq_getElem h]; rfl
theorem L_eq (a b : List Int) (i j : Nat) (hi : i < a.length) (hj : j < b.length) :
    L a b i j = if a.getD i 0 = b.getD j 0 then L a b (i + 1) (j + 1) + 1 else max (L a b (i + 1) j) (L a b i (j + 1)) := by
  unfold L
  conv => lhs; rw [drop_at a i hi, drop_at b j hj, lcs_cons]
  rw [← drop_at a i hi, ← drop_at b j hj]
theorem L_max (a b : List Int) (i j : Nat) (hi : i < a.length) (hj : j < b.length) :
    L a b i j = max (max (L a b (i + 1) j) (L a b i (j + 1))) (if a.getD i 0 = b.getD j 0 then 1 + L a b (i + 1) (j + 1) else 0) := by
  unfold L
  conv => lhs; rw [drop_at a i hi, drop_at b j hj, lcs_max]
  rw [← drop_at a i hi, ← drop_at b j hj]
theorem L_le (a b : List Int) (i j : Nat) : L a b i j ≤ a.length := by
  have := lcs_le_left (a.drop i) (b.drop j)
  rw [List.length_drop] at this
  unfold L; omega
theorem L_zero (a b : List Int) : L a b 0 0 = lcs a b := rfl
theorem L_down (a b : List Int) (i j : Nat) : L a b (i + 1) j ≤ L a b i j := by
  by_cases h : i < a.length
  · unfold L
    rw [drop_at a i h]
    exact lcs_le_cons _ _ _
  · rw [L_end a b (i + 1) j (by omega)]; omega
theorem L_right (a b : List Int) (i j : Nat) : L a b i (j + 1) ≤ L a b i j := by
  by_cases h : j < b.length
  · unfold L
    rw [drop_at b j h]
    exact lcs_le_cons' _ _ _
  · rw [L_end' a b i (j + 1) (by omega)]; omega
theorem L_step' (a b : List Int) (i j : Nat) : L a b i j ≤ L a b i (j + 1) + 1 := by
  by_cases h : j < b.length
  · unfold L
    rw [drop_at b j h]
    exact lcs_cons_le' _ _ _
  · rw [L_end' a b i j (by omega)]; omega
theorem L_mono' (a b : List Int) (i j k : Nat) (h : j ≤ k) : L a b i k ≤ L a b i j := by
  induction k with
  | zero => have : j = 0 := by omega
            rw [this]; omega
  | succ k ih =>
    by_cases e : j = k + 1
    · rw [e]; omega
    · have := ih (by omega)
      have := L_right a b i k
      omega
def nextAt (b : List Int) (v : Int) : Nat → Nat → Option Nat
  | 0, _ => none
  | c + 1, j => if v = b.getD j 0 then some j else nextAt b v c (j + 1)
theorem nextAt_some (b : List Int) (v : Int) (c : Nat) : ∀ j j0, nextAt b v c j = some j0 → j ≤ j0 ∧ j0 < j + c ∧ v = b.getD j0 0 ∧ ∀ k, j ≤ k → k < j0 → v ≠ b.getD k 0 := by
  induction c with
  | zero => intro j j0 h; cases h
  | succ c ih =>
    intro j j0 h
    unfold nextAt at h
    by_cases e : v = b.getD j 0
    · rw [if_pos e] at h
      cases h
      exact ⟨by omega, by omega, e, fun k h1 h2 => by omega⟩
    · rw [if_neg e] at h
      obtain ⟨h1, h2, h3, h4⟩ := ih _ _ h
      refine ⟨by omega, by omega, h3, fun k hk1 hk2 => ?_⟩
      by_cases q : k = j
      · rw [q]; exact e
      · exact h4 k (by omega) hk2
theorem nextAt_none (b : List Int) (v : Int) (c : Nat) : ∀ j, nextAt b v c j = none → ∀ k, j ≤ k → k < j + c → v ≠ b.getD k 0 := by
  induction c with
  | zero => intro j _ k h1 h2; omega
  | succ c ih =>
    intro j h k h1 h2
    unfold nextAt at h
    by_cases e : v = b.getD j 0
    · rw [if_pos e] at h; cases h
    · rw [if_neg e] at h
      by_cases q : k = j
      · rw [q]; exact e
      · exact ih _ h k (by omega) (by omega)
theorem L_first (a b : List Int) (i : Nat) (hi : i < a.length) (c : Nat) : ∀ j, j + c = b.length →
    L a b i j = match nextAt b (a.getD i 0) c j with
      | none => L a b (i + 1) j
      | some j0 => max (L a b (i + 1) j) (1 + L a b (i + 1) (j0 + 1)) := by
  induction c with
  | zero => intro j h; rw [L_end' a b i j (by omega)]; show 0 = L a b (i + 1) j; rw [L_end' a b (i + 1) j (by omega)]
  | succ c ih =>
    intro j h
    unfold nextAt
    rw [L_eq a b i j hi (by omega)]
    by_cases e : a.getD i 0 = b.getD j 0
    · rw [if_pos e, if_pos e]
      have := L_step' a b (i + 1) j
      show _ = max (L a b (i + 1) j) (1 + L a b (i + 1) (j + 1))
      omega
    · rw [if_neg e, if_neg e, ih (j + 1) (by omega)]
      have h1 := L_right a b (i + 1) j
      cases nextAt b (a.getD i 0) c (j + 1) with
      | none => show max (L a b (i + 1) j) (L a b (i + 1) (j + 1)) = L a b (i + 1) j; omega
      | some j0 => show max (L a b (i + 1) j) (max (L a b (i + 1) (j + 1)) (1 + L a b (i + 1) (j0 + 1))) = max (L a b (i + 1) j) (1 + L a b (i + 1) (j0 + 1)); omega
def firstC (a b : List Int) : Nat → Nat → Nat → List (Nat × Nat)
  | 0, _, _ => []
  | d + 1, i, j => if L a b i j = 0 then [] else match nextAt b (a.getD i 0) (b.length - j) j with
    | none => firstC a b d (i + 1) j
    | some j0 => if 1 + L a b (i + 1) (j0 + 1) = L a b i j then (i, j0) :: firstC a b d (i + 1) (j0 + 1) else firstC a b d (i + 1) j
theorem firstC_none {a b : List Int} {d i j : Nat} (h : L a b i j = 0) : firstC a b d i j = [] := by
  cases d with
  | zero => rfl
  | succ d => unfold firstC; rw [if_pos h]
theorem firstC_miss {a b : List Int} {d i j : Nat} (h : L a b i j ≠ 0) (hn : nextAt b (a.getD i 0) (b.length - j) j = none) : firstC a b (d + 1) i j = firstC a b d (i + 1) j := by
  conv => lhs; unfold firstC
  rw [if_neg h, hn]
theorem firstC_hit {a b : List Int} {d i j j0 : Nat} (h : L a b i j ≠ 0) (hn : nextAt b (a.getD i 0) (b.length - j) j = some j0) (e : 1 + L a b (i + 1) (j0 + 1) = L a b i j) : firstC a b (d + 1) i j = (i, j0) :: firstC a b d (i + 1) (j0 + 1) := by
  conv => lhs; unfold firstC
  rw [if_neg h, hn]
  exact if_pos e
theorem firstC_pass {a b : List Int} {d i j j0 : Nat} (h : L a b i j ≠ 0) (hn : nextAt b (a.getD i 0) (b.length - j) j = some j0) (e : ¬ 1 + L a b (i + 1) (j0 + 1) = L a b i j) : firstC a b (d + 1) i j = firstC a b d (i + 1) j := by
  conv => lhs; unfold firstC
  rw [if_neg h, hn]
  exact if_neg e
theorem firstC_length (a b : List Int) (d : Nat) : ∀ i j, i + d = a.length → j ≤ b.length → (firstC a b d i j).length = L a b i j := by
  induction d with
  | zero => intro i j h _; rw [L_end a b i j (by omega)]; rfl
  | succ d ih =>
    intro i j h hj
    unfold firstC
    by_cases h0 : L a b i j = 0
    · rw [if_pos h0, h0]; rfl
    · rw [if_neg h0]
      have hf := L_first a b i (by omega) (b.length - j) j (by omega)
      cases hn : nextAt b (a.getD i 0) (b.length - j) j with
      | none =>
        rw [hn] at hf
        show (firstC a b d (i + 1) j).length = _
        rw [ih (i + 1) j (by omega) hj]
        exact hf.symm
      | some j0 =>
        rw [hn] at hf
        obtain ⟨q1, q2, q3, _⟩ := nextAt_some b _ _ _ _ hn
        show (if 1 + L a b (i + 1) (j0 + 1) = L a b i j then (i, j0) :: firstC a b d (i + 1) (j0 + 1) else firstC a b d (i + 1) j).length = _
        by_cases e : 1 + L a b (i + 1) (j0 + 1) = L a b i j
        · rw [if_pos e, List.length_cons, ih (i + 1) (j0 + 1) (by omega) (by omega)]; omega
        · rw [if_neg e, ih (i + 1) j (by omega) hj]
          have hf2 : L a b i j = max (L a b (i + 1) j) (1 + L a b (i + 1) (j0 + 1)) := hf
          omega
def RowOk (a b : List Int) (T : List (List Int)) (r : Nat) : Prop := (T.getD r []).length = b.length + 1 ∧ ∀ c, c ≤ b.length → (T.getD r []).getD c 0 = (L a b r c : Int)
def Rows (a b : List Int) (i : Nat) (T : List (List Int)) : Prop := T.length = a.length + 1 ∧ ∀ r, i ≤ r → r ≤ a.length → RowOk a b T r
def Part (a b : List Int) (i j : Nat) (T : List (List Int)) : Prop :=
  T.length = a.length + 1 ∧ (∀ r, i < r → r ≤ a.length → RowOk a b T r) ∧ (T.getD i []).length = b.length + 1 ∧
  (∀ c, j ≤ c → c ≤ b.length → (T.getD i []).getD c 0 = (L a b i c : Int)) ∧ ∀ c, c < j → (T.getD i []).getD c 0 = 0
def put (T : List (List Int)) (i j : Nat) (v : Int) : List (List Int) := T.set i ((T.getD i []).set j v)
theorem put_put (T : List (List Int)) (i j : Nat) (v u : Int) (h : i < T.length) : put (put T i j v) i j u = put T i j u := by
  unfold put
  rw [lset_self _ _ _ _ h, List.set_set, List.set_set]
theorem put_row (T : List (List Int)) (i j : Nat) (v : Int) (h : i < T.length) : (put T i j v).getD i [] = (T.getD i []).set j v := by
  unfold put
  rw [lset_self _ _ _ _ h]
theorem put_other (T : List (List Int)) (i j r : Nat) (v : Int) (h : i ≠ r) : (put T i j v).getD r [] = T.getD r [] := by
  unfold put
  rw [lset_ne _ _ _ _ _ h]
theorem put_len (T : List (List Int)) (i j : Nat) (v : Int) : (put T i j v).length = T.length := by
  unfold put
  rw [List.length_set]
theorem part_put {a b : List Int} {i j : Nat} {T : List (List Int)} {v : Int} (h : Part a b i (j + 1) T) (hi : i ≤ a.length) (hj : j ≤ b.length) (hv : v = (L a b i j : Int)) : Part a b i j (put T i j v) := by
  obtain ⟨h1, h2, h3, h4, h5⟩ := h
  refine ⟨by rw [put_len, h1], fun r hr hr2 => ?_, ?_, fun c hc hc2 => ?_, fun c hc => ?_⟩
  · have := h2 r hr hr2
    unfold RowOk at this ⊢
    rw [put_other _ _ _ _ _ (by omega)]
    exact this
  · rw [put_row _ _ _ _ (by omega), List.length_set, h3]
  · rw [put_row _ _ _ _ (by omega), lset]
    by_cases e : j = c
    · rw [if_pos ⟨e, by omega⟩, hv, e]
    · rw [if_neg (fun h => e h.1)]
      exact h4 c (by omega) hc2
  · rw [put_row _ _ _ _ (by omega), lset, if_neg (by omega)]
    exact h5 c (by omega)
theorem part_skip {a b : List Int} {i j : Nat} {T : List (List Int)} (h : Part a b i (j + 1) T) (hz : L a b i j = 0) : Part a b i j T := by
  obtain ⟨h1, h2, h3, h4, h5⟩ := h
  refine ⟨h1, h2, h3, fun c hc hc2 => ?_, fun c hc => h5 c (by omega)⟩
  by_cases e : j = c
  · subst e
    rw [h5 j (by omega), hz]; rfl
  · exact h4 c (by omega) hc2
theorem part_rows {a b : List Int} {i : Nat} {T : List (List Int)} (h : Part a b i 0 T) : Rows a b i T := by
  obtain ⟨h1, h2, h3, h4, _⟩ := h
  refine ⟨h1, fun r hr hr2 => ?_⟩
  by_cases e : r = i
  · subst e
    exact ⟨h3, fun c hc => h4 c (by omega) hc⟩
  · exact h2 r (by omega) hr2
theorem rows_part {a b : List Int} {i : Nat} {T : List (List Int)} (h : Rows a b (i + 1) T) (hi : i ≤ a.length) : Part a b i (b.length + 1) (T.set i (List.replicate (b.length + 1) 0)) := by
  obtain ⟨h1, h2⟩ := h
  refine ⟨by rw [List.length_set, h1], fun r hr hr2 => ?_, ?_, fun c hc hc2 => by omega, fun c hc => ?_⟩
  · have := h2 r (by omega) hr2
    unfold RowOk at this ⊢
    rw [lset_ne _ _ _ _ _ (by omega)]
    exact this
  · rw [lset_self _ _ _ _ (by omega), List.length_replicate]
  · rw [lset_self _ _ _ _ (by omega), lrep]
theorem part_zero {a b : List Int} {i : Nat} {T : List (List Int)} (hz : ∀ c, L a b i c = 0) (j : Nat) : Part a b i j T → Part a b i 0 T := by
  induction j with
  | zero => exact fun h => h
  | succ j ih => exact fun h => ih (part_skip h (hz j))
theorem rows_none (a b : List Int) : Rows a b (a.length + 1) (List.replicate (a.length + 1) []) := ⟨by simp, fun r hr hr2 => by omega⟩
end Go.Proofs.Ytadhngelhognaaa.Lcs
