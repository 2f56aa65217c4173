import Derived.Test.YtgjmmegmkdklbaaBase
/-! Lengths of codes: plain facts. -/
namespace Go.Proofs.Ytgjmmegmkdklbaa.Huff
open Go.Proofs.Ytgjmmegmkdklbaa.Base
set_option linter.unusedVariables false

def wt (x : Int) : Nat := 2 ^ (60 - x.toNat)
def okFrom : Nat → Nat → Int → List Int → Bool
  | c, S, last, [] => if c = 1 then (decide (last = 1) || decide (S = 1152921504606846976)) else decide (S = 1152921504606846976)
  | c, S, last, x :: xs => if x < 0 ∨ 60 < x then false else if 0 < x then (if 1152921504606846976 < S + wt x then false else okFrom (c + 1) (S + wt x) x xs) else okFrom c S last xs
def okSat : Nat → Nat → List Int → Nat × Nat
  | c, S, [] => (c, S)
  | c, S, x :: xs => if 0 < x then okSat (c + 1) (min (S + wt x) 1152921504606846977) xs else okSat c S xs
def kraft : List Int → Nat
  | [] => 0
  | x :: xs => (if 0 < x then wt x else 0) + kraft xs
def npos : List Int → Nat
  | [] => 0
  | x :: xs => (if 0 < x then 1 else 0) + npos xs
def lastp (a : Int) : List Int → Int
  | [] => a
  | x :: xs => if 0 < x then lastp x xs else lastp a xs
def inRange (l : List Int) : Bool := l.all fun x => decide (0 ≤ x ∧ x ≤ 60)

theorem wt_pos (x : Int) : 0 < wt x := Nat.two_pow_pos _
theorem wt_le (x : Int) (h : 0 < x) : wt x ≤ 576460752303423488 := by
  have : 2 ^ (60 - x.toNat) ≤ 2 ^ 59 := Nat.pow_le_pow_right (by decide) (by omega)
  exact this
theorem okSat_eq (l : List Int) : ∀ c S, S ≤ 1152921504606846977 → okSat c S l = (c + npos l, min (S + kraft l) 1152921504606846977) := by
  induction l with
  | nil => intro c S h; rw [okSat, npos, kraft, Nat.add_zero, Nat.add_zero, Nat.min_eq_left h]
  | cons x xs ih =>
    intro c S h
    rw [okSat, npos, kraft]
    by_cases q : 0 < x
    · rw [if_pos q, if_pos q, if_pos q, ih _ _ (by omega)]
      congr 1 <;> omega
    · rw [if_neg q, if_neg q, if_neg q, ih _ _ h]
      congr 1 <;> omega
theorem okFrom_eq (l : List Int) : ∀ c S last, S ≤ 1152921504606846976 → (c = 0 → S = 0) → okFrom c S last l = (inRange l && (decide (S + kraft l = 1152921504606846976) || (decide (c + npos l = 1) && decide (lastp last l = 1)))) := by
  induction l with
  | nil =>
    intro c S last h h0
    rw [okFrom, kraft, npos, lastp, Nat.add_zero, Nat.add_zero]
    unfold inRange
    rw [List.all_nil, Bool.true_and]
    by_cases q : c = 1
    · rw [if_pos q, decide_eq_true q, Bool.true_and, Bool.or_comm]
    · rw [if_neg q, decide_eq_false q, Bool.false_and, Bool.or_false]
  | cons x xs ih =>
    intro c S last h h0
    rw [okFrom, kraft, npos, lastp]
    have hin : inRange (x :: xs) = (decide (0 ≤ x ∧ x ≤ 60) && inRange xs) := by unfold inRange; rw [List.all_cons]
    rw [hin]
    by_cases r : x < 0 ∨ 60 < x
    · rw [if_pos r, decide_eq_false (by omega), Bool.false_and, Bool.false_and]
    · rw [if_neg r, decide_eq_true (by omega), Bool.true_and]
      by_cases q : 0 < x
      · rw [if_pos q, if_pos q, if_pos q, if_pos q]
        by_cases o : 1152921504606846976 < S + wt x
        · have := wt_le x q
          rw [if_pos o, decide_eq_false (by omega), decide_eq_false (by omega), Bool.false_and, Bool.or_false, Bool.and_false]
        · rw [if_neg o, ih _ _ _ (by omega) (by omega), Nat.add_assoc, Nat.add_assoc]
      · rw [if_neg q, if_neg q, if_neg q, if_neg q, ih _ _ _ h h0, Nat.zero_add, Nat.zero_add]
theorem lastp_none (l : List Int) : ∀ a, npos l = 0 → lastp a l = a := by
  induction l with
  | nil => intro a h; rfl
  | cons x xs ih =>
    intro a h
    rw [npos] at h
    rw [lastp]
    by_cases q : 0 < x
    · rw [if_pos q] at h; omega
    · rw [if_neg q] at h ⊢
      exact ih a (by omega)
theorem npos_none (l : List Int) (h : npos l = 0) : ∀ x ∈ l, ¬ 0 < x := by
  induction l with
  | nil => intro x hx; exact absurd hx (by simp)
  | cons y ys ih =>
    rw [npos] at h
    by_cases q : 0 < y
    · rw [if_pos q] at h; omega
    · rw [if_neg q] at h
      intro x hx
      rcases List.mem_cons.1 hx with rfl | hx
      · exact q
      · exact ih (by omega) x hx
theorem lastp_mem (l : List Int) : ∀ a, 1 ≤ npos l → lastp a l ∈ l ∧ 0 < lastp a l := by
  induction l with
  | nil => intro a h; exact absurd h (by simp [npos])
  | cons x xs ih =>
    intro a h
    rw [npos] at h
    rw [lastp]
    by_cases q : 0 < x
    · rw [if_pos q]
      by_cases z : 1 ≤ npos xs
      · exact ⟨List.mem_cons_of_mem _ (ih x z).1, (ih x z).2⟩
      · rw [lastp_none xs x (by omega)]
        exact ⟨List.mem_cons_self .., q⟩
    · rw [if_neg q] at h ⊢
      have := ih a (by omega)
      exact ⟨List.mem_cons_of_mem _ this.1, this.2⟩
theorem lastp_only (l : List Int) : ∀ a, npos l = 1 → ∀ x ∈ l, 0 < x → x = lastp a l := by
  induction l with
  | nil => intro a h x hx; exact absurd hx (by simp)
  | cons y ys ih =>
    intro a h x hx h0
    rw [npos] at h
    rw [lastp]
    by_cases q : 0 < y
    · rw [if_pos q] at h ⊢
      rw [lastp_none ys y (by omega)]
      rcases List.mem_cons.1 hx with rfl | hx
      · rfl
      · exact absurd h0 (npos_none ys (by omega) x hx)
    · rw [if_neg q] at h ⊢
      rcases List.mem_cons.1 hx with rfl | hx
      · exact absurd h0 q
      · exact ih a (by omega) x hx h0
/-- Where one length alone is positive, it is the greatest. -/
theorem max_lastp (l : List Int) (m : Int) (h : npos l = 1) (hm : m ∈ l) (hx : ∀ x ∈ l, x ≤ m) : m = lastp 0 l := by
  have h1 := lastp_mem l 0 (by omega)
  have h2 := hx _ h1.1
  exact lastp_only l 0 h m hm (by omega)
def kEq (L : Int) : List Int → Nat
  | [] => 0
  | x :: xs => (if x = L then wt x else 0) + kEq L xs
def kGt (L : Int) : List Int → Nat
  | [] => 0
  | x :: xs => (if L < x then wt x else 0) + kGt L xs
theorem kGt_step (L : Int) (l : List Int) : kGt L l = kEq (L + 1) l + kGt (L + 1) l := by
  induction l with
  | nil => rfl
  | cons x xs ih =>
    rw [kGt, kEq, kGt, ih]
    by_cases a : x = L + 1
    · rw [if_pos (by omega), if_pos a, if_neg (by omega)]; omega
    · by_cases c : L < x
      · rw [if_pos c, if_neg a, if_pos (by omega)]; omega
      · rw [if_neg c, if_neg a, if_neg (by omega)]; omega
theorem kraft_gt (l : List Int) : kraft l = kGt 0 l := by
  induction l with
  | nil => rfl
  | cons x xs ih => rw [kraft, kGt, ih]
theorem kEq_drop (L : Int) (l : List Int) (i : Nat) (h : i < l.length) : kEq L (l.drop i) = (if l.getD i 0 = L then wt (l.getD i 0) else 0) + kEq L (l.drop (i + 1)) := by
  rw [List.drop_eq_getElem_cons h, kEq, lget_lt _ _ _ h]
theorem kraft_none (l : List Int) (h : npos l = 0) : kraft l = 0 := by
  induction l with
  | nil => rfl
  | cons y ys ih =>
    rw [npos] at h
    rw [kraft]
    by_cases q : 0 < y
    · rw [if_pos q] at h; omega
    · rw [if_neg q] at h ⊢
      rw [ih (by omega)]
theorem kraft_one (l : List Int) (h : npos l = 1) : kraft l ≤ 576460752303423488 := by
  induction l with
  | nil => exact absurd h (by simp [npos])
  | cons y ys ih =>
    rw [npos] at h
    rw [kraft]
    by_cases q : 0 < y
    · rw [if_pos q] at h ⊢
      rw [kraft_none ys (by omega)]
      exact wt_le y q
    · rw [if_neg q] at h ⊢
      have := ih (by omega)
      omega
end Go.Proofs.Ytgjmmegmkdklbaa.Huff
