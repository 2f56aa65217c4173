/- Words that the walks use. -/
import Derived.Test.YtadhngelhognaaaWWords
import Derived.Test.YtadhngelhognaaaWMore
namespace Go.Proofs.Ytadhngelhognaaa.Base
open Go.RowKit Go.Proofs.YtadhngelhognaaaW.PrintWords Go.Proofs.YtadhngelhognaaaW.PrintLast Go.Proofs.YtadhngelhognaaaW.PrintMore
theorem w64 {x : Int} (h0 : -9223372036854775808 ≤ x) (h1 : x < 9223372036854775808) : wrap64 x = x := by unfold wrap64; omega
theorem rd_nat (xs : List Int) (i : Nat) : rd xs (i : Int) = xs.getD i 0 := by unfold rd; rw [Int.toNat_natCast]
theorem lset {α : Type} (xs : List α) (i j : Nat) (v z : α) : (xs.set i v).getD j z = if i = j ∧ j < xs.length then v else xs.getD j z := by
  rw [List.getD_eq_getElem?_getD, List.getD_eq_getElem?_getD, List.getElem?_set]
  by_cases h : i = j
  · subst h
    by_cases h2 : i < xs.length
    · simp [h2]
    · simp [h2]
  · simp [h]
theorem lset_self {α : Type} (xs : List α) (i : Nat) (v z : α) (h : i < xs.length) : (xs.set i v).getD i z = v := by rw [lset]; simp [h]
theorem lset_ne {α : Type} (xs : List α) (i j : Nat) (v z : α) (h : i ≠ j) : (xs.set i v).getD j z = xs.getD j z := by rw [lset]; simp [h]
theorem lrep {α : Type} (n j : Nat) (z : α) : (List.replicate n z).getD j z = z := by
  rw [List.getD_eq_getElem?_getD, List.getElem?_replicate]
  split <;> rfl
theorem lget_lt {α : Type} (xs : List α) (j : Nat) (z : α) (h : j < xs.length) : xs.getD j z = xs[j] := by
  rw [List.getD_eq_getElem?_getD, List.getElem?_eq_getElem h]; rfl
theorem take_succ_getD {α : Type} (l : List α) (z : α) (i : Nat) (h : i < l.length) : l.take (i + 1) = l.take i ++ [l.getD i z] := by
  rw [List.take_succ_eq_append_getElem h, lget_lt l i z h]
theorem ev_out {α : Type} {g : Nat → Option α} {r : α} (h : Ev g r) : ∃ K, ∀ k, K ≤ k → g k = some r := h
theorem ev_mk {α : Type} {g : Nat → Option α} {r : α} (K : Nat) (h : ∀ k, K ≤ k → g k = some r) : Ev g r := ⟨K, h⟩
end Go.Proofs.Ytadhngelhognaaa.Base
