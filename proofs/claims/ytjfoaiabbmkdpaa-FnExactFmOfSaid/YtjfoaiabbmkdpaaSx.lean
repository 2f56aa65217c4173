import Derived.Test.YtjfoaiabbmkdpaaBase
import Derived.Test.YtjfoaiabbmkdpaaSuf
/-! Suffixes of a text in order: plain facts. -/
namespace Go.Proofs.Ytjfoaiabbmkdpaa.Sx
open Go.Proofs.Ytjfoaiabbmkdpaa.Base Go.Proofs.Ytjfoaiabbmkdpaa.Fv Go.Proofs.YtjfoaiabbmkdpaaW.PrintWords

theorem drop_at (a : List Int) (i : Nat) (h : i < a.length) : a.drop i = a.getD i 0 :: a.drop (i + 1) := by
  rw [List.drop_eq_getElem_cons h, lget_lt a i 0 h]

/-- i's suffix is less than j's. -/
def sl (l : List Int) (i j : Int) : Prop := cmpB (l.drop i.toNat) (l.drop j.toNat) < 0
theorem sl_irrefl (l : List Int) (i : Int) : ¬ sl l i i := by unfold sl; rw [cmpB_self]; decide
theorem sl_trans (l : List Int) (i j k : Int) (h1 : sl l i j) (h2 : sl l j k) : sl l i k := cmpB_trans _ _ _ h1 h2
theorem sl_total (l : List Int) (i j : Int) (hi : 0 ≤ i ∧ i ≤ l.length) (hj : 0 ≤ j ∧ j ≤ l.length) (hn : i ≠ j) : sl l i j ∨ sl l j i := by
  unfold sl
  rcases Int.lt_trichotomy (cmpB (l.drop i.toNat) (l.drop j.toNat)) 0 with a | a | a
  · exact .inl a
  · have := congrArg List.length (cmpB_zero _ _ a)
    rw [List.length_drop, List.length_drop] at this
    omega
  · right
    rw [cmpB_anti]
    omega

theorem strict_unique {α : Type} (r : α → α → Prop) (irr : ∀ a, ¬ r a a) (tr : ∀ a b c, r a b → r b c → r a c) : ∀ l1 l2 : List α, l1.Perm l2 → l1.Pairwise r → l2.Pairwise r → l1 = l2
  | [], l2, h, _, _ => (List.nil_perm.1 h).symm
  | a :: l1, [], h, _, _ => absurd h.length_eq (by simp)
  | a :: l1, b :: l2, h, h1, h2 => by
    rw [List.pairwise_cons] at h1 h2
    have e : a = b := by
      rcases List.mem_cons.1 (h.mem_iff.1 List.mem_cons_self) with e | e
      · exact e
      · rcases List.mem_cons.1 (h.mem_iff.2 (List.mem_cons_self (a := b) (l := l2))) with e' | e'
        · exact e'.symm
        · exact absurd (tr _ _ _ (h1.1 b e') (h2.1 a e)) (irr a)
    subst e
    rw [strict_unique r irr tr l1 l2 (List.Perm.cons_inv h) h1.2 h2.2]

def upto (n : Nat) : List Int := (List.range (n + 1)).map fun (i : Nat) => (i : Int)
theorem mem_upto (n : Nat) (x : Int) : x ∈ upto n ↔ 0 ≤ x ∧ x ≤ n := by
  unfold upto
  rw [List.mem_map]
  constructor
  · rintro ⟨i, hi, rfl⟩
    rw [List.mem_range] at hi
    omega
  · intro h
    exact ⟨x.toNat, by rw [List.mem_range]; omega, by omega⟩
theorem upto_nodup (n : Nat) : (upto n).Nodup := by
  unfold upto
  refine List.Pairwise.map _ (fun a b h => ?_) (List.nodup_range (n := n + 1))
  omega
/-- The text's suffixes in order. -/
def rowsOf (l : List Int) : List Int := (upto l.length).mergeSort (sufLe l)
theorem rowsOf_perm (l : List Int) : (rowsOf l).Perm (upto l.length) := List.mergeSort_perm _ _
theorem rowsOf_len (l : List Int) : (rowsOf l).length = l.length + 1 := by rw [(rowsOf_perm l).length_eq]; simp [upto]
theorem rowsOf_mem (l : List Int) (x : Int) : x ∈ rowsOf l ↔ 0 ≤ x ∧ x ≤ l.length := by rw [(rowsOf_perm l).mem_iff, mem_upto]
theorem rowsOf_at (l : List Int) (k : Nat) (h : k < l.length + 1) : 0 ≤ (rowsOf l).getD k 0 ∧ (rowsOf l).getD k 0 ≤ l.length := by
  rw [lget_lt _ k 0 (by rw [rowsOf_len]; exact h)]
  exact (rowsOf_mem l _).1 (List.getElem_mem _)
theorem rowsOf_nodup (l : List Int) : (rowsOf l).Nodup := (rowsOf_perm l).nodup_iff.2 (upto_nodup _)
theorem rowsOf_sorted (l : List Int) : (rowsOf l).Pairwise (sl l) := by
  have h1 : (rowsOf l).Pairwise fun a b => sufLe l a b := List.pairwise_mergeSort (le := sufLe l) (fun a b c h1 h2 => by
    unfold sufLe at *
    simp only [Bool.not_eq_true', decide_eq_false_iff_not] at *
    intro h
    have := (cmpB_swo (fun i : Int => l.drop i.toNat)).ntrans c b a (by show decide _ = _; exact decide_eq_false h2) (by show decide _ = _; exact decide_eq_false h1)
    have := of_decide_eq_false this
    exact this h) (fun a b => by
    unfold sufLe
    have := cmpB_anti (l.drop a.toNat) (l.drop b.toNat)
    by_cases h : cmpB (l.drop a.toNat) (l.drop b.toNat) < 0
    · have h' : ¬ cmpB (l.drop b.toNat) (l.drop a.toNat) < 0 := by omega
      simp [h']
    · simp [h]) _
  refine (h1.and (rowsOf_nodup l)).imp_of_mem ?_
  rintro a b ha hb ⟨h, hne⟩
  rcases sl_total l a b ((rowsOf_mem l a).1 ha) ((rowsOf_mem l b).1 hb) hne with q | q
  · exact q
  · unfold sufLe at h
    simp only [Bool.not_eq_true', decide_eq_false_iff_not] at h
    exact absurd q h
theorem rows_unique (l out : List Int) (hp : out.Perm (upto l.length)) (hs : out.Pairwise (sl l)) : out = rowsOf l :=
  strict_unique (sl l) (sl_irrefl l) (sl_trans l) _ _ (hp.trans (rowsOf_perm l).symm) hs (rowsOf_sorted l)

/-- One more suffix, at its place. -/
theorem ins_sorted (l out : List Int) (i : Int) (p : Nat) (hi : 0 ≤ i ∧ i ≤ l.length) (ho : ∀ x ∈ out, 0 ≤ x ∧ x ≤ l.length) (hn : i ∉ out) (hs : out.Pairwise (sl l))
    (h1 : ∀ j, j < p → j < out.length → sl l (out.getD j 0) i) (h2 : ∀ j, p ≤ j → j < out.length → ¬ sl l (out.getD j 0) i) : (out.take p ++ i :: out.drop p).Pairwise (sl l) := by
  have g1 : ∀ a ∈ out.take p, sl l a i := by
    intro a ha
    obtain ⟨j, hj, rfl⟩ := List.mem_take_iff_getElem.1 ha
    have := h1 j (by omega) (by omega)
    rwa [lget_lt out j 0 (by omega)] at this
  have g2 : ∀ b ∈ out.drop p, sl l i b := by
    intro b hb
    obtain ⟨j, hj, rfl⟩ := List.mem_drop_iff_getElem.1 hb
    have hm := List.getElem_mem (l := out) (n := j + p) (by omega)
    have := h2 (j + p) (by omega) (by omega)
    rw [lget_lt out _ 0 (by omega)] at this
    rcases sl_total l i _ hi (ho _ hm) (fun e => hn (by rw [e]; exact hm)) with q | q
    · simpa [Nat.add_comm] using q
    · exact absurd q this
  rw [List.pairwise_append]
  refine ⟨hs.sublist (List.take_sublist _ _), ?_, fun a ha b hb => ?_⟩
  · rw [List.pairwise_cons]
    exact ⟨g2, hs.sublist (List.drop_sublist _ _)⟩
  · rcases List.mem_cons.1 hb with rfl | hb
    · exact g1 a ha
    · exact sl_trans l _ _ _ (g1 a ha) (g2 b hb)

/-- How much two rows of bytes have in common at their heads. -/
def lcpB : List Int → List Int → Nat
  | a :: s, b :: u => if a = b then lcpB s u + 1 else 0
  | _, _ => 0
theorem lcpB_le : ∀ a b : List Int, lcpB a b ≤ a.length ∧ lcpB a b ≤ b.length
  | [], _ => by simp [lcpB]
  | _ :: _, [] => by simp [lcpB]
  | a :: s, b :: u => by
    have := lcpB_le s u
    simp only [lcpB, List.length_cons]
    split <;> omega
def lcpAt (l R : List Int) (k : Nat) : Int := if k = 0 then 0 else (lcpB (l.drop (R.getD (k - 1) 0).toNat) (l.drop (R.getD k 0).toNat) : Int)
def lcpL (l R : List Int) : List Int := (List.range R.length).map (lcpAt l R)
theorem lcpL_len (l R : List Int) : (lcpL l R).length = R.length := by simp [lcpL]
theorem lcpL_at (l R : List Int) (k : Nat) (h : k < R.length) : (lcpL l R).getD k 0 = lcpAt l R k := by
  rw [lget_lt _ k 0 (by rw [lcpL_len]; exact h)]
  simp [lcpL]
/-- .. of neighbouring rows. -/
def lcpRows (l : List Int) : List Int := lcpL l (rowsOf l)
theorem lcpRows_len (l : List Int) : (lcpRows l).length = l.length + 1 := by unfold lcpRows; rw [lcpL_len, rowsOf_len]
theorem lcpAt_le (l R : List Int) (k : Nat) : 0 ≤ lcpAt l R k ∧ lcpAt l R k ≤ l.length := by
  unfold lcpAt
  split
  · omega
  · have := (lcpB_le (l.drop (R.getD (k - 1) 0).toNat) (l.drop (R.getD k 0).toNat)).1
    rw [List.length_drop] at this
    omega

theorem mn_self (a : Int) : mn a a = a := by unfold mn; split <;> rfl
end Go.Proofs.Ytjfoaiabbmkdpaa.Sx
