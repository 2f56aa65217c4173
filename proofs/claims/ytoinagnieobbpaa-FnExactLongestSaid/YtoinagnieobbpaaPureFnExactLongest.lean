/- The program's Longest returns what the reference's returns, for all arguments (texts of more than 2^20 bytes are let pass by the statement itself). -/
import Derived.Test.YtoinagnieobbpaaQFnExactLongestx3
import Derived.Test.YtoinagnieobbpaaBase
import Derived.Test.YtoinagnieobbpaaSx
namespace Go.Proofs.Ytoinagnieobbpaa.Pure
open Go.RowKit Go.Proofs.Ytoinagnieobbpaa.QFnExactLongest Go.Proofs.YtoinagnieobbpaaW.PrintWords Go.Proofs.YtoinagnieobbpaaW.PrintLast Go.Proofs.YtoinagnieobbpaaW.PrintMore
open Go.Proofs.Ytoinagnieobbpaa Go.Proofs.Ytoinagnieobbpaa.Base Go.Proofs.Ytoinagnieobbpaa.Sx
set_option linter.unusedVariables false
set_option linter.unusedSimpArgs false

theorem specCommon_l0 (a b : List Int) (ha : a.length ≤ 2000000) (hb : b.length ≤ 2000000) (d : Nat) : ∀ i : Nat, i + d = a.length → i ≤ b.length → Ev (fun k => spec_l05Common.l0 k a b (i : Int)) ((i : Int) + (lcpB (a.drop i) (b.drop i) : Int)) := by
 induction d with
 | zero =>
  intro i h hi
  refine Ev.step (f := fun k => spec_l05Common.j1 k a b (i : Int) false) (fun k => ?_) (Ev.step (f := fun _ => some _) (fun k => ?_) (Ev.now _))
  ·rw [spec_l05Common.l0, if_neg (by omega)]
  ·rw [spec_l05Common.j1, if_neg (by decide), List.drop_eq_nil_of_le (show a.length ≤ i by omega), lcpB]
   ·simp
   ·intro _ _ _ _ h _; cases h
 | succ d ih =>
  intro i h hi
  rw [drop_at a i (by omega)]
  by_cases c : i < b.length
  ·rw [drop_at b i c, lcpB]
   by_cases c1 : a.getD i 0 = b.getD i 0
   ·rw [if_pos c1]
    have e : ((i : Int) + ((lcpB (a.drop (i + 1)) (b.drop (i + 1)) + 1 : Nat) : Int)) = ((i + 1 : Nat) : Int) + (lcpB (a.drop (i + 1)) (b.drop (i + 1)) : Int) := by omega
    rw [e]
    refine Ev.step (f := fun k => spec_l05Common.j1 k a b (i : Int) true) (fun k => ?_) (Ev.step (fun k => ?_) (ih (i + 1) (by omega) (by omega)))
    ·rw [spec_l05Common.l0, if_pos (by omega), if_pos (by omega), if_pos (by omega), rd_nat, rd_nat, beq_iff_eq.mpr c1]
    ·rw [spec_l05Common.j1, if_pos rfl, w64 (by omega) (by omega)]
     rfl
   ·rw [if_neg c1]
    refine Ev.step (f := fun k => spec_l05Common.j1 k a b (i : Int) false) (fun k => ?_) (Ev.step (f := fun _ => some _) (fun k => ?_) (Ev.now _))
    ·rw [spec_l05Common.l0, if_pos (by omega), if_pos (by omega), if_pos (by omega), rd_nat, rd_nat, beq_eq_false_iff_ne.mpr c1]
    ·rw [spec_l05Common.j1, if_neg (by decide)]
     simp
  ·rw [List.drop_eq_nil_of_le (show b.length ≤ i by omega)]
   refine Ev.step (f := fun k => spec_l05Common.j1 k a b (i : Int) false) (fun k => ?_) (Ev.step (f := fun _ => some _) (fun k => ?_) (Ev.now _))
   ·rw [spec_l05Common.l0, if_pos (by omega), if_neg (by omega)]
   ·rw [spec_l05Common.j1, if_neg (by decide), lcpB]
    ·simp
    ·intro _ _ _ _ _ h; cases h
theorem specCommon_ev (a b : List Int) (ha : a.length ≤ 2000000) (hb : b.length ≤ 2000000) : Ev (fun k => spec_l05Common.f k a b) (lcpB a b : Int) := by
 have h := specCommon_l0 a b ha hb a.length 0 (by omega) (by omega)
 simp only [List.drop_zero] at h
 rw [show ((0 : Nat) : Int) + (lcpB a b : Int) = (lcpB a b : Int) by omega] at h
 exact h
theorem implCommon_l0 (a b : List Int) (ha : a.length ≤ 2000000) (hb : b.length ≤ 2000000) (d : Nat) : ∀ i : Nat, i + d = a.length → i ≤ b.length → Ev (fun k => impl_common.l0 k a b (i : Int)) ((i : Int) + (lcpB (a.drop i) (b.drop i) : Int)) := by
 have hmn : mn (a.length : Int) (b.length : Int) = ((min a.length b.length : Nat) : Int) := by unfold mn; split <;> omega
 induction d with
 | zero =>
  intro i h hi
  refine Ev.step (f := fun _ => some _) (fun k => ?_) (Ev.now _)
  rw [impl_common.l0, hmn, if_neg (by omega), List.drop_eq_nil_of_le (show a.length ≤ i by omega), lcpB]
  ·simp
  ·intro _ _ _ _ h _; cases h
 | succ d ih =>
  intro i h hi
  rw [drop_at a i (by omega)]
  by_cases c : i < b.length
  ·rw [drop_at b i c, lcpB]
   by_cases c1 : a.getD i 0 = b.getD i 0
   ·rw [if_pos c1]
    have e : ((i : Int) + ((lcpB (a.drop (i + 1)) (b.drop (i + 1)) + 1 : Nat) : Int)) = ((i + 1 : Nat) : Int) + (lcpB (a.drop (i + 1)) (b.drop (i + 1)) : Int) := by omega
    rw [e]
    refine Ev.step (fun k => ?_) (ih (i + 1) (by omega) (by omega))
    rw [impl_common.l0, hmn, if_pos (by omega), if_pos (by omega), if_pos (by omega), if_pos (by omega), rd_nat, rd_nat, if_pos c1, w64 (by omega) (by omega)]
    rfl
   ·rw [if_neg c1]
    refine Ev.step (f := fun _ => some _) (fun k => ?_) (Ev.now _)
    rw [impl_common.l0, hmn, if_pos (by omega), if_pos (by omega), if_pos (by omega), if_pos (by omega), rd_nat, rd_nat, if_neg c1]
    simp
  ·rw [List.drop_eq_nil_of_le (show b.length ≤ i by omega)]
   refine Ev.step (f := fun _ => some _) (fun k => ?_) (Ev.now _)
   rw [impl_common.l0, hmn, if_neg (by omega), lcpB]
   ·simp
   ·intro _ _ _ _ _ h; cases h
theorem implCommon_ev (a b : List Int) (ha : a.length ≤ 2000000) (hb : b.length ≤ 2000000) : Ev (fun k => impl_common.f k a b) (lcpB a b : Int) := by
 have h := implCommon_l0 a b ha hb a.length 0 (by omega) (by omega)
 simp only [List.drop_zero] at h
 rw [show ((0 : Nat) : Int) + (lcpB a b : Int) = (lcpB a b : Int) by omega] at h
 exact h
def bytesOk (l : List Int) : Prop := ∀ x ∈ l, 0 ≤ x ∧ x < 256
theorem implRows_l0 (l : List Int) (hl : l.length ≤ 300) (hb : bytesOk l) (d : Nat) : ∀ i : Nat, i + d = l.length + 1 → Ev (fun k => impl_suffixRows.l0 k ((List.range i).map fun (i : Nat) => (i : Int)) ((l.length : Int) + 1) (i : Int) l) (rowsOf l) := by
 induction d with
 | zero =>
  intro i h
  have e : i = l.length + 1 := by omega
  subst e
  refine Ev.step (f := fun _ => some _) (fun k => ?_) (Ev.now _)
  rw [impl_suffixRows.l0, if_neg (by omega), slices_SortFunc_66.f, if_pos ?_, Option.bind_some]
  ·rfl
  ·simp only [Bool.and_eq_true, List.all_eq_true, decide_eq_true_eq, Fv.isB]
   refine ⟨⟨hb, fun x hx => (mem_upto _ _).1 hx⟩, by simp; omega⟩
 | succ d ih =>
  intro i h
  refine Ev.step (fun k => ?_) (ih (i + 1) (by omega))
  rw [impl_suffixRows.l0, if_pos (by omega), if_pos (by simp; omega), w64 (by omega) (by omega), List.range_succ, List.map_append]
  rfl
theorem implRows_ev (l : List Int) (hl : l.length ≤ 300) (hb : bytesOk l) : Ev (fun k => impl_suffixRows.f k l) (rowsOf l) := by
 have h := implRows_l0 l hl hb (l.length + 1) 0 (by omega)
 refine Ev.congr (fun k => ?_) h
 unfold impl_suffixRows.f
 rw [w64 (by omega) (by omega)]
 rfl
theorem implLcp_l0 (l : List Int) (hl : l.length ≤ 300) (d : Nat) : ∀ i : Nat, 1 ≤ i → i + d = (rowsOf l).length → Ev (fun k => impl_lcpRows.l0 k l (i : Int) (rowsOf l) ((lcpRows l).take i ++ List.replicate d 0)) (lcpRows l) := by
 have hR := rowsOf_len l
 have hL := lcpRows_len l
 induction d with
 | zero =>
  intro i h1 h
  refine Ev.step (f := fun _ => some _) (fun k => ?_) (Ev.now _)
  rw [impl_lcpRows.l0, if_neg (by omega), List.take_of_length_le (by omega)]
  simp
 | succ d ih =>
  intro i h1 h
  have hat : (lcpRows l).getD i 0 = lcpAt l (rowsOf l) i := lcpL_at l (rowsOf l) i (by omega)
  obtain ⟨j, rfl⟩ : ∃ j, i = j + 1 := ⟨i - 1, by omega⟩
  obtain ⟨a0, a1⟩ := rowsOf_at l j (by omega)
  obtain ⟨b0, b1⟩ := rowsOf_at l (j + 1) (by omega)
  obtain ⟨K, hK⟩ := ev_out (implCommon_ev (l.drop ((rowsOf l).getD j 0).toNat) (l.drop ((rowsOf l).getD (j + 1) 0).toNat) (by rw [List.length_drop]; omega) (by rw [List.length_drop]; omega))
  obtain ⟨K2, hK2⟩ := ev_out (ih (j + 1 + 1) (by omega) (by omega))
  refine ev_mk (K + K2 + 1) fun k hk => ?_
  obtain ⟨k, rfl⟩ : ∃ m, k = m + 1 := ⟨k - 1, by omega⟩
  rw [impl_lcpRows.l0, if_pos (by omega), w64 (by omega) (by omega), show ((j + 1 : Nat) : Int) - 1 = (j : Int) by omega, if_pos (by omega), if_pos (by omega), rd_nat, rd_nat, if_pos a0, if_pos a1, if_pos (by omega), if_pos b0, if_pos b1,
   hK k (by omega), Option.bind_some, if_pos (by rw [fill_length _ 0 (j + 1) (d + 1) (by omega)]; omega), w64 (by omega) (by omega), Int.toNat_natCast, fill_set (lcpRows l) 0 _ (j + 1) d (by omega) (by rw [hat]; rfl)]
  exact hK2 k (by omega)
theorem implLcp_ev (l : List Int) (hl : l.length ≤ 300) (hb : bytesOk l) : Ev (fun k => impl_lcpRows.f k l) (lcpRows l) := by
 have hR := rowsOf_len l
 have hL := lcpRows_len l
 obtain ⟨K, hK⟩ := ev_out (implRows_ev l hl hb)
 obtain ⟨K2, hK2⟩ := ev_out (implLcp_l0 l hl l.length 1 (by omega) (by omega))
 refine ev_mk (K + K2) fun k hk => ?_
 unfold impl_lcpRows.f
 rw [hK k (by omega), Option.bind_some, if_pos (by omega), if_pos (by omega), Int.toNat_natCast, hR]
 have := hK2 k (by omega)
 rw [take_succ_getD _ 0 0 (by omega), lcpRows, lcpL_at l (rowsOf l) 0 (by omega)] at this
 exact this
theorem bytes_wf {l : List Int} (h : ∀ x ∈ l, (Lit.int .u8 x).wf = true) : bytesOk l := fun x hx => by
 have := h x hx
 simp [Lit.wf, IntKind.min, IntKind.max, IntKind.signed, IntKind.bits] at this
 omega
theorem toByteS_l0 (l : List Int) (hl : l.length ≤ 4000000) (d : Nat) : ∀ i : Nat, i + d = l.length → Ev (fun k => laws_toByteS.l0 k l (i : Int) (l.take i ++ List.replicate d 0)) l := by
 induction d with
 | zero =>
  intro i h
  refine Ev.step (f := fun _ => some l) (fun k => ?_) (Ev.now l)
  rw [laws_toByteS.l0]
  rw [if_neg (by omega), List.take_of_length_le (by omega)]
  simp
 | succ d ih =>
  intro i h
  refine Ev.step (f := fun k => laws_toByteS.l0 k l ((i + 1 : Nat) : Int) (l.take (i + 1) ++ List.replicate d 0)) (fun k => ?_) (ih (i + 1) (by omega))
  rw [laws_toByteS.l0]
  rw [if_pos (by omega), if_pos (by omega), if_pos (by rw [fill_length l 0 i (d + 1) h]; omega), w64 (by omega) (by omega), rd_nat, Int.toNat_natCast, fill_set l 0 _ i d h rfl]
  rfl
theorem toByteS_ev (l : List Int) (hl : l.length ≤ 4000000) : Ev (fun k => laws_toByteS.f k l) l := by
 refine Ev.congr (f := fun k => laws_toByteS.l0 k l ((0 : Nat) : Int) (l.take 0 ++ List.replicate l.length 0)) (fun k => ?_) (toByteS_l0 l hl l.length 0 (by omega))
 unfold laws_toByteS.f
 rw [if_pos (by omega), Int.toNat_natCast, if_pos (by omega)]
 rfl
theorem eqByteS_l0 (l : List Int) (hl : l.length ≤ 4000000) (d : Nat) : ∀ i : Nat, i + d = l.length → Ev (fun k => laws_eqByteS.l0 k l l (i : Int)) true := by
 induction d with
 | zero =>
  intro i h
  refine Ev.step (f := fun _ => some true) (fun k => ?_) (Ev.now true)
  rw [laws_eqByteS.l0]
  rw [if_neg (by omega)]
 | succ d ih =>
  intro i h
  refine Ev.step (f := fun k => laws_eqByteS.l0 k l l ((i + 1 : Nat) : Int)) (fun k => ?_) (ih (i + 1) (by omega))
  rw [laws_eqByteS.l0]
  rw [if_pos (by omega), if_pos (by omega), if_pos (by omega), if_pos rfl, w64 (by omega) (by omega)]
  rfl
theorem eqByteS_ev (l : List Int) (hl : l.length ≤ 4000000) : Ev (fun k => laws_eqByteS.f k l l) true := by
 refine Ev.congr (f := fun k => laws_eqByteS.l0 k l l ((0 : Nat) : Int)) (fun k => ?_) (eqByteS_l0 l hl l.length 0 (by omega))
 unfold laws_eqByteS.f
 rw [if_pos rfl]
 rfl
theorem bytesOk_drop {l : List Int} (h : bytesOk l) (i : Nat) : bytesOk (l.drop i) := fun x hx => h x (List.mem_of_mem_drop hx)
theorem bytesOk_take {l : List Int} (h : bytesOk l) (i : Nat) : bytesOk (l.take i) := fun x hx => h x (List.mem_of_mem_take hx)
/-- Does s begin with p. -/
theorem all_isB {l : List Int} (h : bytesOk l) : l.all Fv.isB = true := by
 simp only [List.all_eq_true, Fv.isB, decide_eq_true_eq]
 exact h
theorem lcpB_mono : ∀ (a b c : List Int), Fv.cmpB a b < 0 → Fv.cmpB b c < 0 → lcpB a c ≤ lcpB a b
 | [], _, _, _, _ => by simp [lcpB]
 | x :: a, [], _, h, _ => by simp [Fv.cmpB] at h
 | x :: a, y :: b, [], _, h => by simp [Fv.cmpB] at h
 | x :: a, y :: b, z :: c, h, h2 => by
  simp only [Fv.cmpB, lcpB] at h h2 ⊢
  by_cases e : x = y
  ·subst e
   rw [if_neg (Int.lt_irrefl _), if_neg (Int.lt_irrefl _)] at h
   rw [if_pos rfl]
   by_cases e2 : x = z
   ·subst e2
    rw [if_neg (Int.lt_irrefl _), if_neg (Int.lt_irrefl _)] at h2
    rw [if_pos rfl]
    have := lcpB_mono a b c h h2
    omega
   ·rw [if_neg e2]; exact Nat.zero_le _
  ·rw [if_neg e]
   by_cases c1 : x < y
   ·have : ¬ x = z := by
     intro e2
     subst e2
     rw [if_neg (by omega), if_pos (by omega)] at h2
     exact absurd h2 (by decide)
    rw [if_neg this]
    exact Nat.le_refl _
   ·rw [if_neg c1, if_pos (by omega)] at h
    exact absurd h (by decide)
theorem lcpB_take : ∀ (a b : List Int) (d : Nat), d ≤ lcpB a b → a.take d = b.take d
 | _, _, 0, _ => by simp
 | [], _, d + 1, h => by simp [lcpB] at h
 | x :: a, [], d + 1, h => by simp [lcpB] at h
 | x :: a, y :: b, d + 1, h => by
  simp only [lcpB] at h
  by_cases c : x = y
  ·rw [if_pos c] at h
   rw [List.take_succ_cons, List.take_succ_cons, c, lcpB_take a b d (by omega)]
  ·rw [if_neg c] at h
   exact absurd h (by omega)
theorem take_lcpB : ∀ (a b : List Int) (d : Nat), d ≤ a.length → d ≤ b.length → a.take d = b.take d → d ≤ lcpB a b
 | _, _, 0, _, _, _ => Nat.zero_le _
 | [], _, d + 1, h, _, _ => absurd h (by simp)
 | x :: a, [], d + 1, _, h, _ => absurd h (by simp)
 | x :: a, y :: b, d + 1, h1, h2, h => by
  rw [List.take_succ_cons, List.take_succ_cons] at h
  injection h with e1 e2
  simp only [List.length_cons] at h1 h2
  simp only [lcpB]
  rw [if_pos e1]
  have := take_lcpB a b d (by omega) (by omega) e2
  omega
def rowAt (l : List Int) (k : Nat) : List Int := l.drop ((rowsOf l).getD k 0).toNat
theorem rowAt_lt (l : List Int) (i j : Nat) (h : i < j) (hj : j < l.length + 1) : Fv.cmpB (rowAt l i) (rowAt l j) < 0 := by
 have hl := rowsOf_len l
 have := List.pairwise_iff_getElem.1 (rowsOf_sorted l) i j (by omega) (by omega) h
 unfold rowAt
 rw [lget_lt _ i 0 (by omega), lget_lt _ j 0 (by omega)]
 exact this
theorem lcp_row (l : List Int) (k : Nat) (h : k + 1 < l.length + 1) : (lcpRows l).getD (k + 1) 0 = (lcpB (rowAt l k) (rowAt l (k + 1)) : Int) := by
 unfold lcpRows
 rw [lcpL_at _ _ _ (by rw [rowsOf_len]; omega)]
 unfold lcpAt
 rw [if_neg (by omega), Nat.add_sub_cancel]
 rfl
theorem max_l0 (l : List Int) (hl : l.length ≤ 1000000) (d : Nat) : ∀ (i : Nat) (m : Int), i + d = l.length → m ∈ l → (∀ j, j < i → l.getD j 0 ≤ m) → ∃ r, Ev (fun k => slices_Max_int_int.l0 k l m (i : Int)) r ∧ r ∈ l ∧ ∀ j, j < l.length → l.getD j 0 ≤ r := by
 induction d with
 | zero =>
  intro i m hi hm hj
  refine ⟨m, Ev.step (f := fun _ => some _) (fun k => ?_) (Ev.now _), hm, fun j h => hj j (by omega)⟩
  rw [slices_Max_int_int.l0, if_neg (by omega)]
 | succ d ih =>
  intro i m hi hm hj
  have hmem : l.getD i 0 ∈ l := by rw [lget_lt _ _ _ (by omega)]; exact List.getElem_mem _
  have hmx : mx m (l.getD i 0) ∈ l ∧ m ≤ mx m (l.getD i 0) ∧ l.getD i 0 ≤ mx m (l.getD i 0) := by
   unfold mx
   split
   ·refine ⟨by first | exact hm | exact hmem, ?_, ?_⟩ <;> omega
   ·refine ⟨by first | exact hm | exact hmem, ?_, ?_⟩ <;> omega
  obtain ⟨r, hr, h2, h3⟩ := ih (i + 1) (mx m (l.getD i 0)) (by omega) hmx.1 (fun j h => by
   by_cases q : j = i
   ·rw [q]; exact hmx.2.2
   ·exact Int.le_trans (hj j (by omega)) hmx.2.1)
  refine ⟨r, Ev.step (fun k => ?_) hr, h2, h3⟩
  rw [slices_Max_int_int.l0, if_pos (by omega), if_pos (by omega), rd_nat, w64 (by omega) (by omega)]
  rfl
theorem max_ev (l : List Int) (hl : l.length ≤ 1000000) (h0 : 1 ≤ l.length) : ∃ r, Ev (fun k => slices_Max_int_int.f k l) r ∧ r ∈ l ∧ ∀ x ∈ l, x ≤ r := by
 have hmem : l.getD 0 0 ∈ l := by rw [lget_lt _ _ _ (by omega)]; exact List.getElem_mem _
 obtain ⟨r, hr, h2, h3⟩ := max_l0 l hl (l.length - 1) 1 (l.getD 0 0) (by omega) hmem (fun j h => by rw [show j = 0 by omega]; exact Int.le_refl _)
 refine ⟨r, Ev.congr (fun k => ?_) hr, h2, fun x hx => ?_⟩
 ·unfold slices_Max_int_int.f
  rw [if_neg (by omega), if_pos (by omega), show rd l 0 = l.getD 0 0 from rd_nat l 0]
  rfl
 ·obtain ⟨j, hj, e⟩ := List.getElem_of_mem hx
  have := h3 j hj
  rw [lget_lt _ _ _ hj, e] at this
  exact this
def lcS (l : List Int) (i j : Nat) : Nat := lcpB (l.drop i) (l.drop j)
theorem lcpB_symm : ∀ a b : List Int, lcpB a b = lcpB b a
 | [], [] => rfl
 | [], y :: b => rfl
 | x :: a, [] => rfl
 | x :: a, y :: b => by
  simp only [lcpB]
  by_cases e : x = y
  ·rw [if_pos e, if_pos e.symm, lcpB_symm a b]
  ·rw [if_neg e, if_neg (fun h => e h.symm)]
theorem lcS_le (l : List Int) (i j : Nat) : lcS l i j ≤ l.length - i ∧ lcS l i j ≤ l.length - j := by
 have := lcpB_le (l.drop i) (l.drop j)
 rw [List.length_drop, List.length_drop] at this
 exact this
/-- p holds the longest so far, at the first place, of the pairs that D tells. -/
def BestOf (l : List Int) (D : Nat → Nat → Prop) (p : Int × Int) : Prop :=
 (∀ i j : Nat, i < j → j < l.length → D i j → (lcS l i j : Int) ≤ p.1) ∧ 0 ≤ p.1 ∧
 (p = (0, 0) ∨ ∃ i j : Nat, 0 < p.1 ∧ p.2 = (i : Int) ∧ i < j ∧ j < l.length ∧ (lcS l i j : Int) = p.1 ∧ ∀ i' j' : Nat, i' < i → i' < j' → j' < l.length → (lcS l i' j' : Int) < p.1)
def before (i j i' j' : Nat) : Prop := i' < i ∨ (i' = i ∧ j' < j)
def stepL (l : List Int) (i j : Nat) (p : Int × Int) : Int × Int := if (lcS l i j : Int) > p.1 then ((lcS l i j : Int), (i : Int)) else p
theorem step_best {l : List Int} {i j : Nat} {p : Int × Int} (hij : i < j) (hj : j < l.length) (h : BestOf l (before i j) p) : BestOf l (before i (j + 1)) (stepL l i j p) := by
 obtain ⟨h1, h0, h2⟩ := h
 unfold stepL
 by_cases c : (lcS l i j : Int) > p.1
 ·rw [if_pos c]
  refine ⟨fun i' j' a b hb => ?_, by simp, .inr ⟨i, j, by simp only; omega, rfl, hij, hj, rfl, fun i' j' a b b' => ?_⟩⟩
  ·simp only
   by_cases e : i' = i ∧ j' = j
   ·rw [e.1, e.2]; exact Int.le_refl _
   ·have := h1 i' j' a b (by unfold before at hb ⊢; omega)
    omega
  ·have := h1 i' j' b b' (.inl a)
   simp only
   omega
 ·rw [if_neg c]
  refine ⟨fun i' j' a b hb => ?_, h0, h2⟩
  by_cases e : i' = i ∧ j' = j
  ·rw [e.1, e.2]; omega
  ·exact h1 i' j' a b (by unfold before at hb ⊢; omega)
theorem specLongest_l (l : List Int) (hl : l.length ≤ 300) (m : Nat) : ∀ (d i j : Nat) (p : Int × Int), i + m = l.length → i < j → j + d = l.length → BestOf l (before i j) p →
  (∀ p', BestOf l (before (i + 1) 0) p' → ∃ r, Ev (fun k => spec_Longest.l0 k l p'.1 p'.2 (wrap64 ((i : Int) + 1))) r ∧ BestOf l (fun _ _ => True) r) →
  ∃ r, Ev (fun k => spec_Longest.l1 k l p.1 p.2 (i : Int) (j : Int)) r ∧ BestOf l (fun _ _ => True) r := by
 intro d
 induction d with
 | zero =>
  intro i j p hi hij hj hb next
  have hb' : BestOf l (before (i + 1) 0) p := ⟨fun i' j' a b c => hb.1 i' j' a b (by unfold before at c ⊢; omega), hb.2⟩
  obtain ⟨r, hr, h⟩ := next p hb'
  refine ⟨r, Ev.step (fun k => ?_) hr, h⟩
  rw [spec_Longest.l1, if_neg (by omega)]
 | succ d ih =>
  intro i j p hi hij hj hb next
  obtain ⟨r, hr, h⟩ := ih i (j + 1) (stepL l i j p) hi (by omega) (by omega) (step_best hij (by omega) hb) next
  obtain ⟨K1, k1⟩ := ev_out (specCommon_ev (l.drop i) (l.drop j) (by rw [List.length_drop]; omega) (by rw [List.length_drop]; omega))
  obtain ⟨K2, k2⟩ := ev_out hr
  refine ⟨r, ev_mk (K1 + K2 + 1) fun k hk => ?_, h⟩
  obtain ⟨k, rfl⟩ : ∃ n, k = n + 1 := ⟨k - 1, by omega⟩
  have e := k2 k (by omega)
  rw [spec_Longest.l1, if_pos (by omega), if_pos (by omega), if_pos (by omega), if_pos (by omega), if_pos (by omega), Int.toNat_natCast, Int.toNat_natCast, k1 _ (by omega), Option.bind_some, w64 (by omega) (by omega)]
  unfold stepL lcS at e
  rw [show ((j + 1 : Nat) : Int) = (j : Int) + 1 by omega] at e
  by_cases c : (lcpB (l.drop i) (l.drop j) : Int) > p.1
  ·rw [if_pos c] at e ⊢
   exact e
  ·rw [if_neg c] at e ⊢
   exact e
theorem specLongest_l0 (l : List Int) (hl : l.length ≤ 300) (m : Nat) : ∀ (i : Nat) (p : Int × Int), i + m = l.length → BestOf l (before i 0) p → ∃ r, Ev (fun k => spec_Longest.l0 k l p.1 p.2 (i : Int)) r ∧ BestOf l (fun _ _ => True) r := by
 induction m with
 | zero =>
  intro i p hi hb
  have hb' : BestOf l (fun _ _ => True) p := ⟨fun i' j' a b _ => hb.1 i' j' a b (.inl (by omega)), hb.2⟩
  refine ⟨p, Ev.step (f := fun k => spec_Longest.j1 k l p.1 p.2 (i : Int) false) (fun k => ?_) (Ev.step (f := fun _ => some p) (fun k => ?_) (Ev.now _)), hb'⟩
  ·rw [spec_Longest.l0]
   unfold spec_TextOk.f
   rw [Option.bind_some, decide_eq_true (show (l.length : Int) ≤ 300 by omega), if_pos rfl, decide_eq_false (by omega)]
  ·rw [spec_Longest.j1, if_neg Bool.false_ne_true]
 | succ m ih =>
  intro i p hi hb
  have hb' : BestOf l (before i (i + 1)) p := ⟨fun i' j' a b c => hb.1 i' j' a b (by unfold before at c ⊢; omega), hb.2⟩
  obtain ⟨r, hr, h⟩ := specLongest_l l hl (m + 1) m i (i + 1) p hi (by omega) (by omega) hb' (fun p' h' => by
   rw [w64 (by omega) (by omega)]
   exact ih (i + 1) p' (by omega) h')
  refine ⟨r, Ev.step (f := fun k => spec_Longest.j1 k l p.1 p.2 (i : Int) true) (fun k => ?_) (Ev.step (fun k => ?_) hr), h⟩
  ·rw [spec_Longest.l0]
   unfold spec_TextOk.f
   rw [Option.bind_some, decide_eq_true (show (l.length : Int) ≤ 300 by omega), if_pos rfl, decide_eq_true (by omega)]
  ·rw [spec_Longest.j1, if_pos rfl, w64 (by omega) (by omega)]
   rfl
theorem specLongest_ev (l : List Int) (hl : l.length ≤ 300) : ∃ r, Ev (fun k => spec_Longest.f k l) r ∧ BestOf l (fun _ _ => True) r :=
 specLongest_l0 l hl l.length 0 (0, 0) (by omega) ⟨fun i' j' _ _ c => by unfold before at c; omega, Int.le_refl _, .inl rfl⟩
theorem specLongest_long (l : List Int) (hl : ¬ l.length ≤ 300) : Ev (fun k => spec_Longest.f k l) (0, 0) := by
 refine ev_mk 2 fun k hk => ?_
 obtain ⟨k, rfl⟩ : ∃ n, k = n + 2 := ⟨k - 2, by omega⟩
 unfold spec_Longest.f
 rw [spec_Longest.l0]
 unfold spec_TextOk.f
 rw [Option.bind_some, decide_eq_false (show ¬ (l.length : Int) ≤ 300 by omega), if_neg Bool.false_ne_true, spec_Longest.j1, if_neg Bool.false_ne_true]
theorem row_is (l : List Int) (i : Nat) (h : i ≤ l.length) : ∃ a, a < l.length + 1 ∧ (rowsOf l).getD a 0 = (i : Int) := by
 have hm : ((i : Nat) : Int) ∈ rowsOf l := (rowsOf_mem l _).2 ⟨by omega, by omega⟩
 obtain ⟨a, ha, e⟩ := List.getElem_of_mem hm
 exact ⟨a, by rw [rowsOf_len] at ha; exact ha, by rw [lget_lt _ _ _ ha]; exact e⟩
theorem lcp_next (l : List Int) (a b : Nat) (h : a < b) (hb : b < l.length + 1) : (lcpB (rowAt l a) (rowAt l b) : Int) ≤ (lcpRows l).getD (a + 1) 0 := by
 rw [lcp_row l a (by omega)]
 by_cases e : b = a + 1
 ·rw [e]; exact Int.le_refl _
 ·have := lcpB_mono (rowAt l a) (rowAt l (a + 1)) (rowAt l b) (rowAt_lt l a (a + 1) (by omega) (by omega)) (rowAt_lt l (a + 1) b (by omega) hb)
  omega
theorem pair_le_rows (l : List Int) (i j : Nat) (hij : i < j) (hj : j < l.length) : ∃ x ∈ lcpRows l, (lcS l i j : Int) ≤ x := by
 obtain ⟨a, ha, ea⟩ := row_is l i (by omega)
 obtain ⟨b, hb, eb⟩ := row_is l j (by omega)
 have ra : rowAt l a = l.drop i := by unfold rowAt; rw [ea, Int.toNat_natCast]
 have rb : rowAt l b = l.drop j := by unfold rowAt; rw [eb, Int.toNat_natCast]
 have mem : ∀ c, c < l.length + 1 → (lcpRows l).getD c 0 ∈ lcpRows l := fun c hc => by
  rw [lget_lt _ _ _ (by rw [lcpRows_len]; exact hc)]; exact List.getElem_mem _
 have hne : a ≠ b := fun e => by rw [e, eb] at ea; omega
 by_cases c : a < b
 ·refine ⟨_, mem (a + 1) (by omega), ?_⟩
  have := lcp_next l a b c hb
  rw [ra, rb] at this
  exact this
 ·refine ⟨_, mem (b + 1) (by omega), ?_⟩
  have := lcp_next l b a (by omega) ha
  rw [ra, rb] at this
  unfold lcS
  rw [lcpB_symm]
  exact this
theorem rows_le_pair (l : List Int) (M : Int) (h0 : 0 ≤ M) (hM : ∀ i j : Nat, i < j → j < l.length → (lcS l i j : Int) ≤ M) : ∀ x ∈ lcpRows l, x ≤ M := by
 intro x hx
 obtain ⟨k, hk, e⟩ := List.getElem_of_mem hx
 rw [lcpRows_len] at hk
 have e' : (lcpRows l).getD k 0 = x := by rw [lget_lt _ _ _ (by rw [lcpRows_len]; exact hk)]; exact e
 rw [← e']
 cases k with
 | zero =>
  unfold lcpRows
  rw [lcpL_at _ _ _ (by rw [rowsOf_len]; omega)]
  unfold lcpAt
  rw [if_pos rfl]
  exact h0
 | succ k =>
  rw [lcp_row l k hk]
  have both : ∀ u v : Nat, u ≤ l.length → v ≤ l.length → u ≠ v → (lcpB (l.drop u) (l.drop v) : Int) ≤ M := fun u v hu hv hne => by
   have l1 := lcS_le l u v
   have hs : lcS l u v = lcS l v u := lcpB_symm _ _
   change (lcS l u v : Int) ≤ M
   by_cases c : u < v
   ·by_cases d : v < l.length
    ·exact hM u v c d
    ·omega
   ·by_cases d : u < l.length
    ·rw [hs]; exact hM v u (by omega) d
    ·omega
  have r1 := rowsOf_at l k (by omega)
  have r2 := rowsOf_at l (k + 1) hk
  unfold rowAt
  refine both _ _ (by omega) (by omega) fun e => ?_
  have hd := rowsOf_nodup l
  have q1 : k < (rowsOf l).length := by rw [rowsOf_len]; omega
  have q2 : k + 1 < (rowsOf l).length := by rw [rowsOf_len]; omega
  have e2 : (rowsOf l).getD k 0 = (rowsOf l).getD (k + 1) 0 := by omega
  rw [lget_lt _ _ _ q1, lget_lt _ _ _ q2] at e2
  exact List.pairwise_iff_getElem.1 hd k (k + 1) q1 q2 (by omega) e2
theorem bytes_inj : ∀ a b : List Int, bytesOk a → bytesOk b → Lib.bytesOf a = Lib.bytesOf b → a = b
 | [], [], _, _, _ => rfl
 | [], y :: b, _, _, h => by simp [Lib.bytesOf] at h
 | x :: a, [], _, _, h => by simp [Lib.bytesOf] at h
 | x :: a, y :: b, ha, hb, h => by
  simp only [Lib.bytesOf, List.map_cons, List.cons.injEq] at h
  obtain ⟨e, h⟩ := h
  have x1 := ha x List.mem_cons_self
  have y1 := hb y List.mem_cons_self
  have e' := congrArg UInt8.toNat e
  rw [UInt8.toNat_ofNat', UInt8.toNat_ofNat', Nat.mod_eq_of_lt (by omega), Nat.mod_eq_of_lt (by omega)] at e'
  rw [show x = y by omega, bytes_inj a b (fun z hz => ha z (List.mem_cons_of_mem _ hz)) (fun z hz => hb z (List.mem_cons_of_mem _ hz)) h]
theorem occ_iff (s p : List Int) (hs : bytesOk s) (hp : bytesOk p) (t : Nat) : Lib.occAt (Lib.bytesOf s) (Lib.bytesOf p) t = true ↔ p = (s.drop t).take p.length := by
 unfold Lib.occAt
 rw [List.isPrefixOf_iff_prefix, List.prefix_iff_eq_take]
 constructor
 ·intro h
  refine bytes_inj _ _ hp (bytesOk_take (bytesOk_drop hs _) _) ?_
  rw [h]
  simp [Lib.bytesOf, List.map_take, List.map_drop]
 ·intro h
  have : (Lib.bytesOf p).length = p.length := by simp [Lib.bytesOf]
  rw [this]
  conv => lhs; rw [h]
  simp [Lib.bytesOf, List.map_take, List.map_drop]
theorem contains_iff (s p : List Int) (hs : bytesOk s) (hp : bytesOk p) : Lib.contains (Lib.bytesOf s) (Lib.bytesOf p) = true ↔ ∃ t, t ≤ s.length ∧ p = (s.drop t).take p.length := by
 have hl : (Lib.bytesOf s).length = s.length := by simp [Lib.bytesOf]
 unfold Lib.contains
 rw [decide_eq_true_iff]
 constructor
 ·intro h
  by_cases q : ∃ t, t ≤ s.length ∧ p = (s.drop t).take p.length
  ·exact q
  ·exfalso
   have := Lib.index_none (s := Lib.bytesOf s) (sub := Lib.bytesOf p) (fun j hj => by
    rw [Bool.eq_false_iff]
    intro e
    exact q ⟨j, by rw [← hl]; exact hj, (occ_iff s p hs hp j).1 e⟩)
   omega
 ·rintro ⟨t, ht, e⟩
  by_cases q : ∃ u, u ≤ s.length ∧ p = (s.drop u).take p.length ∧ ∀ v, v < u → ¬ p = (s.drop v).take p.length
  ·obtain ⟨u, hu, e1, e2⟩ := q
   have := Lib.index_first (s := Lib.bytesOf s) (sub := Lib.bytesOf p) (i := u) (by omega) ((occ_iff s p hs hp u).2 e1) (fun j hj => by
    rw [Bool.eq_false_iff]
    intro e
    exact e2 j hj ((occ_iff s p hs hp j).1 e))
   omega
  ·exfalso
   have : ∀ n, ∀ v, v ≤ n → v ≤ s.length → ¬ p = (s.drop v).take p.length := by
    intro n
    induction n with
    | zero =>
     intro v hv _ e
     exact q ⟨v, by omega, e, fun w hw => by omega⟩
    | succ n ih =>
     intro v hv hs' e
     exact q ⟨v, hs', e, fun w hw => ih w (by omega) (by omega)⟩
   exact this t t (Nat.le_refl _) ht e
theorem found_iff (l : List Int) (hb : bytesOk l) (i c : Nat) (hc : 0 < c) (hi : i + c ≤ l.length) : Lib.contains (Lib.bytesOf (l.drop (i + 1))) (Lib.bytesOf ((l.take (i + c)).drop i)) = true ↔ ∃ j, i < j ∧ j < l.length ∧ c ≤ lcS l i j := by
 have hseg : (l.take (i + c)).drop i = (l.drop i).take c := by rw [List.drop_take, Nat.add_sub_cancel_left]
 have hlen : ((l.drop i).take c).length = c := by rw [List.length_take, List.length_drop]; omega
 rw [hseg, contains_iff _ _ (bytesOk_drop hb _) (bytesOk_take (bytesOk_drop hb _) _), hlen]
 constructor
 ·rintro ⟨t, ht, e⟩
  rw [List.drop_drop] at e
  have hl2 := congrArg List.length e
  rw [hlen, List.length_take, List.length_drop] at hl2
  refine ⟨i + 1 + t, by omega, by omega, ?_⟩
  unfold lcS
  exact take_lcpB _ _ _ (by rw [List.length_drop]; omega) (by rw [List.length_drop]; omega) e
 ·rintro ⟨j, h1, h2, h3⟩
  refine ⟨j - (i + 1), by rw [List.length_drop]; omega, ?_⟩
  rw [List.drop_drop, show i + 1 + (j - (i + 1)) = j by omega]
  exact lcpB_take _ _ _ h3
theorem bContains_eq (l : List Int) (hl : l.length ≤ 300) (hb : bytesOk l) (i c : Nat) (hc : 0 < c) (hi : i + c ≤ l.length) :
  bytes_Contains.f (l.drop (i + 1)) ((l.take (i + c)).drop i) = some (Lib.contains (Lib.bytesOf (l.drop (i + 1))) (Lib.bytesOf ((l.take (i + c)).drop i))) := by
 unfold bytes_Contains.f
 have e1 : ((l.take (i + c)).drop i).length = c := by rw [List.length_drop, List.length_take]; omega
 have e2 : (l.drop (i + 1)).length = l.length - (i + 1) := List.length_drop
 rw [all_isB (bytesOk_drop hb _), all_isB (bytesOk_drop (bytesOk_take hb _) _), e1, e2, decide_eq_true (show 0 < c from hc), decide_eq_true (by omega), decide_eq_true (by omega)]
 rfl
theorem implLongest_l0 (l : List Int) (hl : l.length ≤ 300) (hb : bytesOk l) (c i0 : Nat) (hc : 0 < c) (hi0 : i0 + c ≤ l.length) (hat : ∃ j, i0 < j ∧ j < l.length ∧ c ≤ lcS l i0 j) (hno : ∀ i j, i < i0 → i < j → j < l.length → lcS l i j < c) (d : Nat) : ∀ i : Nat, i + d = i0 →
  Ev (fun k => impl_Longest.l0 k l (c : Int) (l.length : Int) (i : Int)) ((c : Int), (i0 : Int)) := by
 induction d with
 | zero =>
  intro i h
  obtain rfl : i = i0 := by omega
  refine Ev.step (f := fun _ => some _) (fun k => ?_) (Ev.now _)
  have w1 : wrap64 ((i : Int) + (c : Int)) = ((i + c : Nat) : Int) := by rw [w64 (by omega) (by omega)]; omega
  have w2 : wrap64 ((i : Int) + 1) = ((i + 1 : Nat) : Int) := by rw [w64 (by omega) (by omega)]; omega
  rw [impl_Longest.l0, w1, w2, if_pos (by omega), if_pos (by omega), if_pos (by omega), if_pos (by omega), if_pos (by omega), if_pos (by omega), Int.toNat_natCast, Int.toNat_natCast, Int.toNat_natCast, bContains_eq l hl hb i c hc hi0, (found_iff l hb i c hc hi0).2 hat, Option.bind_some, if_pos rfl]
 | succ d ih =>
  intro i h
  refine Ev.step (fun k => ?_) (ih (i + 1) (by omega))
  have w1 : wrap64 ((i : Int) + (c : Int)) = ((i + c : Nat) : Int) := by rw [w64 (by omega) (by omega)]; omega
  have w2 : wrap64 ((i : Int) + 1) = ((i + 1 : Nat) : Int) := by rw [w64 (by omega) (by omega)]; omega
  rw [impl_Longest.l0, w1, w2, if_pos (by omega), if_pos (by omega), if_pos (by omega), if_pos (by omega), if_pos (by omega), if_pos (by omega), Int.toNat_natCast, Int.toNat_natCast, Int.toNat_natCast, bContains_eq l hl hb i c hc (by omega)]
  have : Lib.contains (Lib.bytesOf (l.drop (i + 1))) (Lib.bytesOf ((l.take (i + c)).drop i)) = false := by
   rw [Bool.eq_false_iff]
   intro e
   obtain ⟨j, h1, h2, h3⟩ := (found_iff l hb i c hc (by omega)).1 e
   have := hno i j (by omega) h1 h2
   omega
  rw [this, Option.bind_some, if_neg Bool.false_ne_true]
theorem implLongest_ev (l : List Int) (hl : l.length ≤ 300) (hb : bytesOk l) (r : Int × Int) (h : BestOf l (fun _ _ => True) r) : Ev (fun k => impl_Longest.f k l) r := by
 obtain ⟨K1, k1⟩ := ev_out (implLcp_ev l hl hb)
 obtain ⟨M, hM, m1, m2⟩ := max_ev (lcpRows l) (by rw [lcpRows_len]; omega) (by rw [lcpRows_len]; omega)
 obtain ⟨K2, k2⟩ := ev_out hM
 obtain ⟨b1, b0, b2⟩ := h
 have up : M ≤ r.1 := rows_le_pair l r.1 b0 (fun i j a b => b1 i j a b trivial) M m1
 have hT : impl_TextOk.f l = some true := by unfold impl_TextOk.f; rw [decide_eq_true (show (l.length : Int) ≤ 300 by omega)]
 have M0 : 0 ≤ M := by
  have := m2 ((lcpRows l).getD 0 0) (by rw [lget_lt _ _ _ (by rw [lcpRows_len]; omega)]; exact List.getElem_mem _)
  unfold lcpRows at this
  rw [lcpL_at _ _ _ (by rw [rowsOf_len]; omega)] at this
  exact Int.le_trans (lcpAt_le l (rowsOf l) 0).1 this
 rcases b2 with rfl | ⟨i, j, p0, e1, hij, hj, e2, hf⟩
 ·simp only at up
  obtain rfl : M = 0 := by omega
  refine ev_mk (K1 + K2) fun k hk => ?_
  unfold impl_Longest.f
  rw [hT, Option.bind_some, if_pos rfl, k1 _ (by omega), Option.bind_some, k2 _ (by omega), Option.bind_some, if_pos rfl]
 ·obtain ⟨x, hx, hle⟩ := pair_le_rows l i j hij hj
  have := m2 x hx
  obtain ⟨r1, r2⟩ := r
  simp only at up p0 e1 e2 hf
  obtain rfl : M = r1 := by omega
  subst e1
  subst e2
  have hle' := (lcS_le l i j).1
  obtain ⟨K3, k3⟩ := ev_out (implLongest_l0 l hl hb (lcS l i j) i (by omega) (by omega) ⟨j, hij, hj, Nat.le_refl _⟩ (fun i' j' a b c => by have := hf i' j' a b c; omega) i 0 (by omega))
  have k3' : ∀ k, K3 ≤ k → impl_Longest.l0 k l (lcS l i j : Int) (l.length : Int) 0 = some ((lcS l i j : Int), (i : Int)) := k3
  refine ev_mk (K1 + K2 + K3) fun k hk => ?_
  unfold impl_Longest.f
  rw [hT, Option.bind_some, if_pos rfl, k1 _ (by omega), Option.bind_some, k2 _ (by omega), Option.bind_some, if_neg (by omega)]
  exact k3' k (by omega)
theorem implLongest_long (l : List Int) (hl : ¬ l.length ≤ 300) : Ev (fun k => impl_Longest.f k l) (0, 0) := by
 refine ev_mk 0 fun k _ => ?_
 unfold impl_Longest.f impl_TextOk.f
 rw [Option.bind_some, decide_eq_false (show ¬ (l.length : Int) ≤ 300 by omega), if_neg Bool.false_ne_true]
theorem longest_both (l : List Int) (hb : bytesOk l) : ∃ r, Ev (fun k => spec_Longest.f k l) r ∧ Ev (fun k => impl_Longest.f k l) r := by
 by_cases hl : l.length ≤ 300
 ·obtain ⟨r, hr, h⟩ := specLongest_ev l hl
  exact ⟨r, hr, implLongest_ev l hl hb r h⟩
 ·exact ⟨_, specLongest_long l hl, implLongest_long l hl⟩
theorem FnExactLongest : laws_FnExactLongest.Pure := by
 intro l _ _ o0
 by_cases g0 : (l.length : Int) > 1048576
 ·exact ⟨0, by unfold laws_FnExactLongest.f; rw [if_pos g0]⟩
 have hb : bytesOk l := bytes_wf o0
 obtain ⟨K0, h0⟩ := ev_out (toByteS_ev l (by omega))
 obtain ⟨r, hr, hi⟩ := longest_both l hb
 obtain ⟨K1, h1⟩ := ev_out hr
 obtain ⟨K2, h2⟩ := ev_out hi
 obtain ⟨K3, h3⟩ := ev_out (eqByteS_ev l (by omega))
 obtain ⟨K, hK⟩ : ∃ K, K = K0 + K1 + K2 + K3 := ⟨_, rfl⟩
 refine ⟨K + 1, ?_⟩
 unfold laws_FnExactLongest.f
 rw [if_neg g0, h0 _ (by omega), Option.bind_some, h1 _ (by omega), Option.bind_some, Option.bind_some, h2 _ (by omega), Option.bind_some, if_pos rfl, bne_self_eq_false, laws_FnExactLongest.j0, if_neg Bool.false_ne_true, h0 _ (by omega), Option.bind_some, h3 _ (by omega), Option.bind_some, if_pos rfl]

end Go.Proofs.Ytoinagnieobbpaa.Pure
