import Derived.Test.YtjfoaiabbmkdpaaWWords
import Derived.Test.YtjfoaiabbmkdpaaWMore
/-! Plain words that the proofs over the printed functions share. -/
namespace Go.Proofs.Ytjfoaiabbmkdpaa.Base
open Go.RowKit Go.Proofs.YtjfoaiabbmkdpaaW.PrintWords Go.Proofs.YtjfoaiabbmkdpaaW.PrintLast Go.Proofs.YtjfoaiabbmkdpaaW.PrintMore

theorem w64 {x : Int} (h0 : -9223372036854775808 ≤ x) (h1 : x < 9223372036854775808) : wrap64 x = x := by unfold wrap64; omega

theorem rd_nat (xs : List Int) (i : Nat) : rd xs (i : Int) = xs.getD i 0 := by unfold rd; rw [Int.toNat_natCast]

theorem lset {α : Type} (xs : List α) (i j : Nat) (v z : α) : (xs.set i v).getD j z = if i = j ∧ j < xs.length then v else xs.getD j z := by
  rw [List.getD_eq_getElem?_getD, List.getD_eq_getElem?_getD, List.getElem?_set]
  by_cases h : i = j
  · subst h
    by_cases h2 : i < xs.length
    · simp [h2]
    · simp [h2]
  · simp [h]

theorem lset_self {α : Type} (xs : List α) (i : Nat) (v z : α) (h : i < xs.length) : (xs.set i v).getD i z = v := by rw [lset]; simp [h]
theorem lset_ne {α : Type} (xs : List α) (i j : Nat) (v z : α) (h : i ≠ j) : (xs.set i v).getD j z = xs.getD j z := by rw [lset]; simp [h]

theorem lrep {α : Type} (n j : Nat) (z : α) : (List.replicate n z).getD j z = z := by
  rw [List.getD_eq_getElem?_getD, List.getElem?_replicate]
  split <;> rfl

theorem lget_lt {α : Type} (xs : List α) (j : Nat) (z : α) (h : j < xs.length) : xs.getD j z = xs[j] := by
  rw [List.getD_eq_getElem?_getD, List.getElem?_eq_getElem h]; rfl

theorem take_succ_getD {α : Type} (l : List α) (z : α) (i : Nat) (h : i < l.length) : l.take (i + 1) = l.take i ++ [l.getD i z] := by
  rw [List.take_succ_eq_append_getElem h, lget_lt l i z h]

/-- A list that is filled from the front. -/
theorem fill_set {α : Type} (l : List α) (z v : α) (i d : Nat) (h : i + (d + 1) = l.length) (hv : v = l.getD i z) :
    (l.take i ++ List.replicate (d + 1) z).set i v = l.take (i + 1) ++ List.replicate d z := by
  have hi : (l.take i).length = i := by rw [List.length_take]; omega
  rw [List.set_append_right _ _ (by omega), hi, Nat.sub_self, List.replicate_succ, List.set_cons_zero, take_succ_getD l z i (by omega), hv]
  simp

theorem fill_length {α : Type} (l : List α) (z : α) (i d : Nat) (h : i + d = l.length) : (l.take i ++ List.replicate d z).length = l.length := by simp; omega

theorem ext_getD {α : Type} (z : α) {xs ys : List α} (hl : xs.length = ys.length) (h : ∀ j, j < xs.length → xs.getD j z = ys.getD j z) : xs = ys := by
  apply List.ext_getElem hl
  intro j h1 h2
  have := h j h1
  rwa [lget_lt xs j z h1, lget_lt ys j z h2] at this

/-- A list that is written over from the front. -/
theorem over_set {α : Type} (M l : List α) (z v : α) (i : Nat) (hl : M.length = l.length) (hi : i < l.length) (hv : v = M.getD i z) :
    (M.take i ++ l.drop i).set i v = M.take (i + 1) ++ l.drop (i + 1) := by
  have h1 : (M.take i).length = i := by rw [List.length_take]; omega
  rw [List.set_append_right _ _ (by omega), h1, Nat.sub_self, List.drop_eq_getElem_cons hi, List.set_cons_zero, take_succ_getD M z i (by omega), hv]
  simp
theorem over_get {α : Type} (M l : List α) (z : α) (i : Nat) (hl : M.length = l.length) (hi : i < l.length) : (M.take i ++ l.drop i).getD i z = l.getD i z := by
  have h1 : (M.take i).length = i := by rw [List.length_take]; omega
  rw [List.getD_eq_getElem?_getD, List.getD_eq_getElem?_getD, List.getElem?_append_right (by omega), h1, Nat.sub_self, List.getElem?_drop, Nat.add_zero]
theorem over_len {α : Type} (M l : List α) (i : Nat) (hl : M.length = l.length) (hi : i ≤ l.length) : (M.take i ++ l.drop i).length = l.length := by simp; omega

theorem ev_out {α : Type} {g : Nat → Option α} {r : α} (h : Ev g r) : ∃ K, ∀ k, K ≤ k → g k = some r := h
theorem ev_mk {α : Type} {g : Nat → Option α} {r : α} (K : Nat) (h : ∀ k, K ≤ k → g k = some r) : Ev g r := ⟨K, h⟩

end Go.Proofs.Ytjfoaiabbmkdpaa.Base
