/- The program's StretchOf returns what the reference's returns, for all arguments (texts of more than 2^20 bytes are let pass by the statement itself). -/
import Derived.Test.YtoinagnieobbpaaQFnExactStretchOfx5
import Derived.Test.YtoinagnieobbpaaBase
import Derived.Test.YtoinagnieobbpaaSx
namespace Go.Proofs.Ytoinagnieobbpaa.Pure
open Go.RowKit Go.Proofs.Ytoinagnieobbpaa.QFnExactStretchOf Go.Proofs.YtoinagnieobbpaaW.PrintWords Go.Proofs.YtoinagnieobbpaaW.PrintLast Go.Proofs.YtoinagnieobbpaaW.PrintMore
open Go.Proofs.Ytoinagnieobbpaa Go.Proofs.Ytoinagnieobbpaa.Base Go.Proofs.Ytoinagnieobbpaa.Sx
set_option linter.unusedVariables false
set_option linter.unusedSimpArgs false

theorem specCmp_l0 (a b : List Int) (ha : a.length ≤ 2000000) (hb : b.length ≤ 2000000) (d : Nat) : ∀ i : Nat, i + d = a.length → i ≤ b.length → Ev (fun k => spec_l05Cmp.l0 k a b (i : Int)) (Fv.cmpB (a.drop i) (b.drop i)) := by
 induction d with
 | zero =>
  intro i h hi
  refine Ev.step (f := fun k => spec_l05Cmp.j1 k a b (i : Int) false) (fun k => ?_) (Ev.step (f := fun _ => some _) (fun k => ?_) (Ev.now _))
  ·rw [spec_l05Cmp.l0, if_neg (by omega)]
  ·rw [spec_l05Cmp.j1, if_neg (by decide), List.drop_eq_nil_of_le (show a.length ≤ i by omega)]
   by_cases c : (a.length : Int) < (b.length : Int)
   ·rw [if_pos c, drop_at b i (by omega)]
    rfl
   ·rw [if_neg c, if_neg (by omega), List.drop_eq_nil_of_le (show b.length ≤ i by omega)]
    rfl
 | succ d ih =>
  intro i h hi
  rw [drop_at a i (by omega)]
  by_cases c : i < b.length
  ·rw [drop_at b i c, Fv.cmpB]
   by_cases c1 : a.getD i 0 < b.getD i 0
   ·refine Ev.step (f := fun k => spec_l05Cmp.j1 k a b (i : Int) true) (fun k => ?_) (Ev.step (f := fun _ => some _) (fun k => ?_) (Ev.now _))
    ·rw [spec_l05Cmp.l0, if_pos (by omega), decide_eq_true (show (i : Int) < (b.length : Int) by omega)]
    ·rw [spec_l05Cmp.j1, if_pos rfl, if_pos (by omega), if_pos (by omega), if_pos (by omega), rd_nat, rd_nat, if_pos c1, if_pos c1]
   ·by_cases c2 : b.getD i 0 < a.getD i 0
    ·refine Ev.step (f := fun k => spec_l05Cmp.j1 k a b (i : Int) true) (fun k => ?_) (Ev.step (f := fun _ => some _) (fun k => ?_) (Ev.now _))
     ·rw [spec_l05Cmp.l0, if_pos (by omega), decide_eq_true (show (i : Int) < (b.length : Int) by omega)]
     ·rw [spec_l05Cmp.j1, if_pos rfl, if_pos (by omega), if_pos (by omega), if_pos (by omega), rd_nat, rd_nat, if_neg c1, if_pos c2, if_neg c1, if_pos c2]
    ·rw [if_neg c1, if_neg c2]
     refine Ev.step (f := fun k => spec_l05Cmp.j1 k a b (i : Int) true) (fun k => ?_) (Ev.step (fun k => ?_) (ih (i + 1) (by omega) (by omega)))
     ·rw [spec_l05Cmp.l0, if_pos (by omega), decide_eq_true (show (i : Int) < (b.length : Int) by omega)]
     ·rw [spec_l05Cmp.j1, if_pos rfl, if_pos (by omega), if_pos (by omega), if_pos (by omega), rd_nat, rd_nat, if_neg c1, if_neg c2, w64 (by omega) (by omega)]
      rfl
  ·rw [List.drop_eq_nil_of_le (show b.length ≤ i by omega)]
   refine Ev.step (f := fun k => spec_l05Cmp.j1 k a b (i : Int) false) (fun k => ?_) (Ev.step (f := fun _ => some _) (fun k => ?_) (Ev.now _))
   ·rw [spec_l05Cmp.l0, if_pos (by omega), decide_eq_false (show ¬ (i : Int) < (b.length : Int) by omega)]
   ·rw [spec_l05Cmp.j1, if_neg (by decide), if_neg (by omega), if_pos (by omega)]
    rfl
theorem specCmp_ev (a b : List Int) (ha : a.length ≤ 2000000) (hb : b.length ≤ 2000000) : Ev (fun k => spec_l05Cmp.f k a b) (Fv.cmpB a b) := specCmp_l0 a b ha hb a.length 0 (by omega) (by omega)
theorem specCommon_l0 (a b : List Int) (ha : a.length ≤ 2000000) (hb : b.length ≤ 2000000) (d : Nat) : ∀ i : Nat, i + d = a.length → i ≤ b.length → Ev (fun k => spec_l05Common.l0 k a b (i : Int)) ((i : Int) + (lcpB (a.drop i) (b.drop i) : Int)) := by
 induction d with
 | zero =>
  intro i h hi
  refine Ev.step (f := fun k => spec_l05Common.j1 k a b (i : Int) false) (fun k => ?_) (Ev.step (f := fun _ => some _) (fun k => ?_) (Ev.now _))
  ·rw [spec_l05Common.l0, if_neg (by omega)]
  ·rw [spec_l05Common.j1, if_neg (by decide), List.drop_eq_nil_of_le (show a.length ≤ i by omega), lcpB]
   ·simp
   ·intro _ _ _ _ h _; cases h
 | succ d ih =>
  intro i h hi
  rw [drop_at a i (by omega)]
  by_cases c : i < b.length
  ·rw [drop_at b i c, lcpB]
   by_cases c1 : a.getD i 0 = b.getD i 0
   ·rw [if_pos c1]
    have e : ((i : Int) + ((lcpB (a.drop (i + 1)) (b.drop (i + 1)) + 1 : Nat) : Int)) = ((i + 1 : Nat) : Int) + (lcpB (a.drop (i + 1)) (b.drop (i + 1)) : Int) := by omega
    rw [e]
    refine Ev.step (f := fun k => spec_l05Common.j1 k a b (i : Int) true) (fun k => ?_) (Ev.step (fun k => ?_) (ih (i + 1) (by omega) (by omega)))
    ·rw [spec_l05Common.l0, if_pos (by omega), if_pos (by omega), if_pos (by omega), rd_nat, rd_nat, beq_iff_eq.mpr c1]
    ·rw [spec_l05Common.j1, if_pos rfl, w64 (by omega) (by omega)]
     rfl
   ·rw [if_neg c1]
    refine Ev.step (f := fun k => spec_l05Common.j1 k a b (i : Int) false) (fun k => ?_) (Ev.step (f := fun _ => some _) (fun k => ?_) (Ev.now _))
    ·rw [spec_l05Common.l0, if_pos (by omega), if_pos (by omega), if_pos (by omega), rd_nat, rd_nat, beq_eq_false_iff_ne.mpr c1]
    ·rw [spec_l05Common.j1, if_neg (by decide)]
     simp
  ·rw [List.drop_eq_nil_of_le (show b.length ≤ i by omega)]
   refine Ev.step (f := fun k => spec_l05Common.j1 k a b (i : Int) false) (fun k => ?_) (Ev.step (f := fun _ => some _) (fun k => ?_) (Ev.now _))
   ·rw [spec_l05Common.l0, if_pos (by omega), if_neg (by omega)]
   ·rw [spec_l05Common.j1, if_neg (by decide), lcpB]
    ·simp
    ·intro _ _ _ _ _ h; cases h
theorem specCommon_ev (a b : List Int) (ha : a.length ≤ 2000000) (hb : b.length ≤ 2000000) : Ev (fun k => spec_l05Common.f k a b) (lcpB a b : Int) := by
 have h := specCommon_l0 a b ha hb a.length 0 (by omega) (by omega)
 simp only [List.drop_zero] at h
 rw [show ((0 : Nat) : Int) + (lcpB a b : Int) = (lcpB a b : Int) by omega] at h
 exact h
theorem implCommon_l0 (a b : List Int) (ha : a.length ≤ 2000000) (hb : b.length ≤ 2000000) (d : Nat) : ∀ i : Nat, i + d = a.length → i ≤ b.length → Ev (fun k => impl_common.l0 k a b (i : Int)) ((i : Int) + (lcpB (a.drop i) (b.drop i) : Int)) := by
 have hmn : mn (a.length : Int) (b.length : Int) = ((min a.length b.length : Nat) : Int) := by unfold mn; split <;> omega
 induction d with
 | zero =>
  intro i h hi
  refine Ev.step (f := fun _ => some _) (fun k => ?_) (Ev.now _)
  rw [impl_common.l0, hmn, if_neg (by omega), List.drop_eq_nil_of_le (show a.length ≤ i by omega), lcpB]
  ·simp
  ·intro _ _ _ _ h _; cases h
 | succ d ih =>
  intro i h hi
  rw [drop_at a i (by omega)]
  by_cases c : i < b.length
  ·rw [drop_at b i c, lcpB]
   by_cases c1 : a.getD i 0 = b.getD i 0
   ·rw [if_pos c1]
    have e : ((i : Int) + ((lcpB (a.drop (i + 1)) (b.drop (i + 1)) + 1 : Nat) : Int)) = ((i + 1 : Nat) : Int) + (lcpB (a.drop (i + 1)) (b.drop (i + 1)) : Int) := by omega
    rw [e]
    refine Ev.step (fun k => ?_) (ih (i + 1) (by omega) (by omega))
    rw [impl_common.l0, hmn, if_pos (by omega), if_pos (by omega), if_pos (by omega), if_pos (by omega), rd_nat, rd_nat, if_pos c1, w64 (by omega) (by omega)]
    rfl
   ·rw [if_neg c1]
    refine Ev.step (f := fun _ => some _) (fun k => ?_) (Ev.now _)
    rw [impl_common.l0, hmn, if_pos (by omega), if_pos (by omega), if_pos (by omega), if_pos (by omega), rd_nat, rd_nat, if_neg c1]
    simp
  ·rw [List.drop_eq_nil_of_le (show b.length ≤ i by omega)]
   refine Ev.step (f := fun _ => some _) (fun k => ?_) (Ev.now _)
   rw [impl_common.l0, hmn, if_neg (by omega), lcpB]
   ·simp
   ·intro _ _ _ _ _ h; cases h
theorem implCommon_ev (a b : List Int) (ha : a.length ≤ 2000000) (hb : b.length ≤ 2000000) : Ev (fun k => impl_common.f k a b) (lcpB a b : Int) := by
 have h := implCommon_l0 a b ha hb a.length 0 (by omega) (by omega)
 simp only [List.drop_zero] at h
 rw [show ((0 : Nat) : Int) + (lcpB a b : Int) = (lcpB a b : Int) by omega] at h
 exact h
def bytesOk (l : List Int) : Prop := ∀ x ∈ l, 0 ≤ x ∧ x < 256
theorem rd_rows {l out : List Int} (ho : ∀ x ∈ out, 0 ≤ x ∧ x ≤ l.length) (j : Nat) (hj : j < out.length) : 0 ≤ out.getD j 0 ∧ out.getD j 0 ≤ l.length := by
 rw [lget_lt out j 0 hj]
 exact ho _ (List.getElem_mem _)
theorem specIns (l out : List Int) (i : Nat) (hl : l.length ≤ 300) (hi : i ≤ l.length) (ho : ∀ x ∈ out, 0 ≤ x ∧ x ≤ l.length) (hlen : out.length ≤ 1000) (hs : out.Pairwise (sl l)) (m : Nat) : ∀ lo hi_ : Nat, hi_ - lo ≤ m → lo ≤ hi_ → hi_ ≤ out.length →
  (∀ j, j < lo → j < out.length → sl l (out.getD j 0) i) → (∀ j, hi_ ≤ j → j < out.length → ¬ sl l (out.getD j 0) i) →
  ∃ p, p ≤ out.length ∧ (∀ j, j < p → j < out.length → sl l (out.getD j 0) i) ∧ (∀ j, p ≤ j → j < out.length → ¬ sl l (out.getD j 0) i) ∧
   ∀ r, Ev (fun k => spec_SuffixRows.l0 k l (out.take p ++ (i : Int) :: out.drop p) ((i : Int) - 1)) r → Ev (fun k => spec_SuffixRows.l1 k l out (i : Int) (lo : Int) (hi_ : Int)) r := by
 have pw : ∀ j j' : Nat, j < j' → j' < out.length → sl l (out.getD j 0) (out.getD j' 0) := fun j j' h h' => by
  rw [lget_lt out j 0 (by omega), lget_lt out j' 0 h']
  exact List.pairwise_iff_getElem.1 hs j j' (by omega) h' h
 induction m with
 | zero =>
  intro lo hi_ h1 h2 h3 h4 h5
  have e : hi_ = lo := by omega
  subst e
  refine ⟨hi_, h3, h4, h5, fun r hr => Ev.step (fun k => ?_) hr⟩
  rw [spec_SuffixRows.l1, if_neg (by omega), Option.bind_some, if_pos (by omega), if_pos (by omega), Option.bind_some, Int.toNat_natCast, if_pos (by simp; omega), Option.bind_some, Option.bind_some, Option.bind_some, if_pos (by simp; omega), Option.bind_some,
   if_pos (by simp; omega), w64 (by omega) (by omega)]
  simp
 | succ m ih =>
  intro lo hi_ h1 h2 h3 h4 h5
  by_cases e : lo < hi_
  ·have hmid : wrap64 (Int.tdiv (wrap64 ((lo : Int) + (hi_ : Int))) 2) = (((lo + hi_) / 2 : Nat) : Int) := by
    rw [show wrap64 ((lo : Int) + (hi_ : Int)) = (lo : Int) + (hi_ : Int) from w64 (by omega) (by omega), show Int.tdiv ((lo : Int) + (hi_ : Int)) 2 = (((lo + hi_) / 2 : Nat) : Int) from by rw [← Int.natCast_add]; rfl, w64 (by omega) (by omega)]
   obtain ⟨mid, hm⟩ : ∃ mid, mid = (lo + hi_) / 2 := ⟨_, rfl⟩
   rw [← hm] at hmid
   have hml : lo ≤ mid := by omega
   have hmh : mid < hi_ := by omega
   obtain ⟨b0, b1⟩ := rd_rows ho mid (by omega)
   obtain ⟨K, hK⟩ := ev_out (specCmp_ev (l.drop (out.getD mid 0).toNat) (l.drop i) (by rw [List.length_drop]; omega) (by rw [List.length_drop]; omega))
   by_cases c : sl l (out.getD mid 0) i
   ·have c' : Fv.cmpB (l.drop (out.getD mid 0).toNat) (l.drop i) < 0 := by have := c; unfold sl at this; rwa [Int.toNat_natCast] at this
    obtain ⟨p, q1, q2, q3, q4⟩ := ih (mid + 1) hi_ (by omega) (by omega) h3 (fun j hj hj' => by
     by_cases ej : j = mid
     ·rw [ej]; exact c
     ·exact sl_trans l _ _ _ (pw j mid (by omega) (by omega)) c) h5
    refine ⟨p, q1, q2, q3, fun r hr => ?_⟩
    obtain ⟨K2, hK2⟩ := ev_out (q4 r hr)
    refine ev_mk (K + K2 + 1) fun k hk => ?_
    obtain ⟨k, rfl⟩ : ∃ m, k = m + 1 := ⟨k - 1, by omega⟩
    rw [spec_SuffixRows.l1, if_pos (by omega), hmid, if_pos (by omega), if_pos (by omega), rd_nat, if_pos b0, if_pos b1, if_pos (by omega), if_pos (by omega), Int.toNat_natCast, hK k (by omega), Option.bind_some, if_pos c', w64 (by omega) (by omega)]
    exact hK2 k (by omega)
   ·have c' : ¬ Fv.cmpB (l.drop (out.getD mid 0).toNat) (l.drop i) < 0 := by have := c; unfold sl at this; rwa [Int.toNat_natCast] at this
    obtain ⟨p, q1, q2, q3, q4⟩ := ih lo mid (by omega) (by omega) (by omega) h4 (fun j hj hj' hh => by
     by_cases ej : j = mid
     ·rw [ej] at hh; exact c hh
     ·exact c (sl_trans l _ _ _ (pw mid j (by omega) (by omega)) hh))
    refine ⟨p, q1, q2, q3, fun r hr => ?_⟩
    obtain ⟨K2, hK2⟩ := ev_out (q4 r hr)
    refine ev_mk (K + K2 + 1) fun k hk => ?_
    obtain ⟨k, rfl⟩ : ∃ m, k = m + 1 := ⟨k - 1, by omega⟩
    rw [spec_SuffixRows.l1, if_pos (by omega), hmid, if_pos (by omega), if_pos (by omega), rd_nat, if_pos b0, if_pos b1, if_pos (by omega), if_pos (by omega), Int.toNat_natCast, hK k (by omega), Option.bind_some, if_neg c']
    exact hK2 k (by omega)
  ·obtain ⟨p, q1, q2, q3, q4⟩ := ih lo hi_ (by omega) h2 h3 h4 h5
   exact ⟨p, q1, q2, q3, q4⟩
def from_ (n d : Nat) : List Int := (upto n).filter fun x => decide ((d : Int) ≤ x)
theorem mem_from (n d : Nat) (x : Int) : x ∈ from_ n d ↔ (d : Int) ≤ x ∧ x ≤ n := by
 unfold from_
 rw [List.mem_filter, mem_upto, decide_eq_true_eq]
 omega
theorem from_nodup (n d : Nat) : (from_ n d).Nodup := (upto_nodup n).sublist List.filter_sublist
theorem from_cons (n d : Nat) (h : d ≤ n) : (from_ n d).Perm ((d : Int) :: from_ n (d + 1)) := by
 rw [List.perm_ext_iff_of_nodup (from_nodup _ _) (List.nodup_cons.2 ⟨fun h => by rw [mem_from] at h; omega, from_nodup _ _⟩)]
 intro x
 rw [List.mem_cons, mem_from, mem_from]
 omega
theorem from_zero (n : Nat) : (from_ n 0).Perm (upto n) := by
 rw [List.perm_ext_iff_of_nodup (from_nodup _ _) (upto_nodup _)]
 intro x
 rw [mem_from, mem_upto]
 omega
theorem from_top (n : Nat) : from_ n (n + 1) = [] := List.eq_nil_iff_forall_not_mem.2 fun x h => by rw [mem_from] at h; omega
theorem specRows_l0 (l : List Int) (hl : l.length ≤ 300) (d : Nat) : ∀ out : List Int, d ≤ l.length + 1 → out.Perm (from_ l.length d) → out.Pairwise (sl l) → Ev (fun k => spec_SuffixRows.l0 k l out ((d : Int) - 1)) (rowsOf l) := by
 induction d with
 | zero =>
  intro out _ hp hs
  refine Ev.step (f := fun _ => some _) (fun k => ?_) (Ev.now _)
  rw [spec_SuffixRows.l0, if_neg (by omega), rows_unique l out (hp.trans (from_zero _)) hs]
 | succ d ih =>
  intro out hd hp hs
  have hm : ∀ x ∈ out, 0 ≤ x ∧ x ≤ l.length := fun x hx => by have := (mem_from _ _ _).1 (hp.mem_iff.1 hx); omega
  have hn : (d : Int) ∉ out := fun h => by have := (mem_from _ _ _).1 (hp.mem_iff.1 h); omega
  have hlen : out.length ≤ 1000 := by
   have h1 := hp.length_eq
   have h2 : (from_ l.length (d + 1)).length ≤ (upto l.length).length := List.length_filter_le _ _
   have h3 : (upto l.length).length = l.length + 1 := by simp [upto]
   omega
  obtain ⟨p, q1, q2, q3, q4⟩ := specIns l out d hl (by omega) hm hlen hs out.length 0 out.length (by omega) (by omega) (by omega) (fun j hj => by omega) (fun j hj hj' => by omega)
  have hnew : (out.take p ++ (d : Int) :: out.drop p).Perm (from_ l.length d) := by
   refine List.perm_middle.trans ?_
   rw [List.take_append_drop]
   exact (hp.cons _).trans (from_cons _ _ (by omega)).symm
  have h := q4 _ (ih _ (by omega) hnew (ins_sorted l out d p (by omega) hm hn hs q2 q3))
  refine Ev.step (fun k => ?_) h
  rw [spec_SuffixRows.l0, if_pos (by omega), show ((d + 1 : Nat) : Int) - 1 = (d : Int) by omega]
  rfl
theorem specRows_ev (l : List Int) (hl : l.length ≤ 300) : Ev (fun k => spec_SuffixRows.f k l) (rowsOf l) := by
 have h := specRows_l0 l hl (l.length + 1) [] (by omega) (by rw [from_top]) List.Pairwise.nil
 refine Ev.congr (fun k => ?_) h
 unfold spec_SuffixRows.f spec_TextOk.f
 rw [Option.bind_some, decide_eq_true (by omega), if_pos rfl, show ((l.length + 1 : Nat) : Int) - 1 = (l.length : Int) by omega]
theorem implRows_l0 (l : List Int) (hl : l.length ≤ 300) (hb : bytesOk l) (d : Nat) : ∀ i : Nat, i + d = l.length + 1 → Ev (fun k => impl_suffixRows.l0 k ((List.range i).map fun (i : Nat) => (i : Int)) ((l.length : Int) + 1) (i : Int) l) (rowsOf l) := by
 induction d with
 | zero =>
  intro i h
  have e : i = l.length + 1 := by omega
  subst e
  refine Ev.step (f := fun _ => some _) (fun k => ?_) (Ev.now _)
  rw [impl_suffixRows.l0, if_neg (by omega), slices_SortFunc_66.f, if_pos ?_, Option.bind_some]
  ·rfl
  ·simp only [Bool.and_eq_true, List.all_eq_true, decide_eq_true_eq, Fv.isB]
   refine ⟨⟨hb, fun x hx => (mem_upto _ _).1 hx⟩, by simp; omega⟩
 | succ d ih =>
  intro i h
  refine Ev.step (fun k => ?_) (ih (i + 1) (by omega))
  rw [impl_suffixRows.l0, if_pos (by omega), if_pos (by simp; omega), w64 (by omega) (by omega), List.range_succ, List.map_append]
  rfl
theorem implRows_ev (l : List Int) (hl : l.length ≤ 300) (hb : bytesOk l) : Ev (fun k => impl_suffixRows.f k l) (rowsOf l) := by
 have h := implRows_l0 l hl hb (l.length + 1) 0 (by omega)
 refine Ev.congr (fun k => ?_) h
 unfold impl_suffixRows.f
 rw [w64 (by omega) (by omega)]
 rfl
theorem specLcp_l0 (l : List Int) (hl : l.length ≤ 300) (d : Nat) : ∀ i : Nat, i + d = (rowsOf l).length → Ev (fun k => spec_LcpRows.l0 k l ((lcpRows l).take i) (i : Int) (rowsOf l)) (lcpRows l) := by
 have hR := rowsOf_len l
 have hL := lcpRows_len l
 induction d with
 | zero =>
  intro i h
  refine Ev.step (f := fun _ => some _) (fun k => ?_) (Ev.now _)
  rw [spec_LcpRows.l0, if_neg (by omega), List.take_of_length_le (by omega)]
 | succ d ih =>
  intro i h
  have hat : (lcpRows l).getD i 0 = lcpAt l (rowsOf l) i := lcpL_at l (rowsOf l) i (by omega)
  by_cases c : i = 0
  ·subst c
   refine Ev.step (fun k => ?_) (ih 1 (by omega))
   rw [spec_LcpRows.l0, if_pos (by omega), if_pos (by omega), if_pos (by simp), w64 (by omega) (by omega), take_succ_getD _ 0 0 (by omega), hat]
   rfl
  ·obtain ⟨j, rfl⟩ : ∃ j, i = j + 1 := ⟨i - 1, by omega⟩
   obtain ⟨a0, a1⟩ := rowsOf_at l j (by omega)
   obtain ⟨b0, b1⟩ := rowsOf_at l (j + 1) (by omega)
   obtain ⟨K, hK⟩ := ev_out (specCommon_ev (l.drop ((rowsOf l).getD j 0).toNat) (l.drop ((rowsOf l).getD (j + 1) 0).toNat) (by rw [List.length_drop]; omega) (by rw [List.length_drop]; omega))
   obtain ⟨K2, hK2⟩ := ev_out (ih (j + 1 + 1) (by omega))
   refine ev_mk (K + K2 + 1) fun k hk => ?_
   obtain ⟨k, rfl⟩ : ∃ m, k = m + 1 := ⟨k - 1, by omega⟩
   rw [spec_LcpRows.l0, if_pos (by omega), if_neg (by omega), w64 (by omega) (by omega), show ((j + 1 : Nat) : Int) - 1 = (j : Int) by omega, if_pos (by omega), if_pos (by omega), rd_nat, rd_nat, if_pos a0, if_pos a1, if_pos (by omega), if_pos b0, if_pos b1,
    hK k (by omega), Option.bind_some, if_pos (by rw [List.length_take]; omega), w64 (by omega) (by omega)]
   rw [take_succ_getD _ 0 (j + 1) (by omega), hat] at hK2
   exact hK2 k (by omega)
theorem specLcp_ev (l : List Int) (hl : l.length ≤ 300) : Ev (fun k => spec_LcpRows.f k l) (lcpRows l) := by
 obtain ⟨K, hK⟩ := ev_out (specRows_ev l hl)
 obtain ⟨K2, hK2⟩ := ev_out (specLcp_l0 l hl (rowsOf l).length 0 (by omega))
 refine ev_mk (K + K2) fun k hk => ?_
 unfold spec_LcpRows.f
 rw [hK k (by omega), Option.bind_some]
 exact hK2 k (by omega)
theorem implLcp_l0 (l : List Int) (hl : l.length ≤ 300) (d : Nat) : ∀ i : Nat, 1 ≤ i → i + d = (rowsOf l).length → Ev (fun k => impl_lcpRows.l0 k l (i : Int) (rowsOf l) ((lcpRows l).take i ++ List.replicate d 0)) (lcpRows l) := by
 have hR := rowsOf_len l
 have hL := lcpRows_len l
 induction d with
 | zero =>
  intro i h1 h
  refine Ev.step (f := fun _ => some _) (fun k => ?_) (Ev.now _)
  rw [impl_lcpRows.l0, if_neg (by omega), List.take_of_length_le (by omega)]
  simp
 | succ d ih =>
  intro i h1 h
  have hat : (lcpRows l).getD i 0 = lcpAt l (rowsOf l) i := lcpL_at l (rowsOf l) i (by omega)
  obtain ⟨j, rfl⟩ : ∃ j, i = j + 1 := ⟨i - 1, by omega⟩
  obtain ⟨a0, a1⟩ := rowsOf_at l j (by omega)
  obtain ⟨b0, b1⟩ := rowsOf_at l (j + 1) (by omega)
  obtain ⟨K, hK⟩ := ev_out (implCommon_ev (l.drop ((rowsOf l).getD j 0).toNat) (l.drop ((rowsOf l).getD (j + 1) 0).toNat) (by rw [List.length_drop]; omega) (by rw [List.length_drop]; omega))
  obtain ⟨K2, hK2⟩ := ev_out (ih (j + 1 + 1) (by omega) (by omega))
  refine ev_mk (K + K2 + 1) fun k hk => ?_
  obtain ⟨k, rfl⟩ : ∃ m, k = m + 1 := ⟨k - 1, by omega⟩
  rw [impl_lcpRows.l0, if_pos (by omega), w64 (by omega) (by omega), show ((j + 1 : Nat) : Int) - 1 = (j : Int) by omega, if_pos (by omega), if_pos (by omega), rd_nat, rd_nat, if_pos a0, if_pos a1, if_pos (by omega), if_pos b0, if_pos b1,
   hK k (by omega), Option.bind_some, if_pos (by rw [fill_length _ 0 (j + 1) (d + 1) (by omega)]; omega), w64 (by omega) (by omega), Int.toNat_natCast, fill_set (lcpRows l) 0 _ (j + 1) d (by omega) (by rw [hat]; rfl)]
  exact hK2 k (by omega)
theorem implLcp_ev (l : List Int) (hl : l.length ≤ 300) (hb : bytesOk l) : Ev (fun k => impl_lcpRows.f k l) (lcpRows l) := by
 have hR := rowsOf_len l
 have hL := lcpRows_len l
 obtain ⟨K, hK⟩ := ev_out (implRows_ev l hl hb)
 obtain ⟨K2, hK2⟩ := ev_out (implLcp_l0 l hl l.length 1 (by omega) (by omega))
 refine ev_mk (K + K2) fun k hk => ?_
 unfold impl_lcpRows.f
 rw [hK k (by omega), Option.bind_some, if_pos (by omega), if_pos (by omega), Int.toNat_natCast, hR]
 have := hK2 k (by omega)
 rw [take_succ_getD _ 0 0 (by omega), lcpRows, lcpL_at l (rowsOf l) 0 (by omega)] at this
 exact this
theorem bytes_wf {l : List Int} (h : ∀ x ∈ l, (Lit.int .u8 x).wf = true) : bytesOk l := fun x hx => by
 have := h x hx
 simp [Lit.wf, IntKind.min, IntKind.max, IntKind.signed, IntKind.bits] at this
 omega
theorem toByteS_l0 (l : List Int) (hl : l.length ≤ 4000000) (d : Nat) : ∀ i : Nat, i + d = l.length → Ev (fun k => laws_toByteS.l0 k l (i : Int) (l.take i ++ List.replicate d 0)) l := by
 induction d with
 | zero =>
  intro i h
  refine Ev.step (f := fun _ => some l) (fun k => ?_) (Ev.now l)
  rw [laws_toByteS.l0]
  rw [if_neg (by omega), List.take_of_length_le (by omega)]
  simp
 | succ d ih =>
  intro i h
  refine Ev.step (f := fun k => laws_toByteS.l0 k l ((i + 1 : Nat) : Int) (l.take (i + 1) ++ List.replicate d 0)) (fun k => ?_) (ih (i + 1) (by omega))
  rw [laws_toByteS.l0]
  rw [if_pos (by omega), if_pos (by omega), if_pos (by rw [fill_length l 0 i (d + 1) h]; omega), w64 (by omega) (by omega), rd_nat, Int.toNat_natCast, fill_set l 0 _ i d h rfl]
  rfl
theorem toByteS_ev (l : List Int) (hl : l.length ≤ 4000000) : Ev (fun k => laws_toByteS.f k l) l := by
 refine Ev.congr (f := fun k => laws_toByteS.l0 k l ((0 : Nat) : Int) (l.take 0 ++ List.replicate l.length 0)) (fun k => ?_) (toByteS_l0 l hl l.length 0 (by omega))
 unfold laws_toByteS.f
 rw [if_pos (by omega), Int.toNat_natCast, if_pos (by omega)]
 rfl
theorem eqByteS_l0 (l : List Int) (hl : l.length ≤ 4000000) (d : Nat) : ∀ i : Nat, i + d = l.length → Ev (fun k => laws_eqByteS.l0 k l l (i : Int)) true := by
 induction d with
 | zero =>
  intro i h
  refine Ev.step (f := fun _ => some true) (fun k => ?_) (Ev.now true)
  rw [laws_eqByteS.l0]
  rw [if_neg (by omega)]
 | succ d ih =>
  intro i h
  refine Ev.step (f := fun k => laws_eqByteS.l0 k l l ((i + 1 : Nat) : Int)) (fun k => ?_) (ih (i + 1) (by omega))
  rw [laws_eqByteS.l0]
  rw [if_pos (by omega), if_pos (by omega), if_pos (by omega), if_pos rfl, w64 (by omega) (by omega)]
  rfl
theorem eqByteS_ev (l : List Int) (hl : l.length ≤ 4000000) : Ev (fun k => laws_eqByteS.f k l l) true := by
 refine Ev.congr (f := fun k => laws_eqByteS.l0 k l l ((0 : Nat) : Int)) (fun k => ?_) (eqByteS_l0 l hl l.length 0 (by omega))
 unfold laws_eqByteS.f
 rw [if_pos rfl]
 rfl
def depthOf (L : List Int) (lo hi : Nat) : Int := ((L.take hi).drop (lo + 1)).foldl mn (L.getD (lo + 1) 0)
theorem specDepth_l0 (L : List Int) (hi : Nat) (hl : L.length ≤ 1000000) (hh : hi ≤ L.length) (d : Nat) : ∀ (i : Nat) (v : Int), i + d = hi → Ev (fun k => spec_l11Depth.l0 k L (hi : Int) v (i : Int)) (((L.take hi).drop i).foldl mn v) := by
 induction d with
 | zero =>
  intro i v h
  refine Ev.step (f := fun _ => some _) (fun k => ?_) (Ev.now _)
  rw [spec_l11Depth.l0, if_neg (by omega), List.drop_eq_nil_of_le (by rw [List.length_take]; omega)]
  rfl
 | succ d ih =>
  intro i v h
  rw [drop_at (L.take hi) i (by rw [List.length_take]; omega), List.foldl_cons]
  have e : (L.take hi).getD i 0 = L.getD i 0 := by
   rw [lget_lt _ i 0 (by rw [List.length_take]; omega), lget_lt L i 0 (by omega), List.getElem_take]
  rw [e]
  refine Ev.step (fun k => ?_) (ih (i + 1) _ (by omega))
  rw [spec_l11Depth.l0, if_pos (by omega), if_pos (by omega), if_pos (by omega), rd_nat, w64 (by omega) (by omega)]
  rfl
theorem specDepth_ev (L : List Int) (lo hi : Nat) (hl : L.length ≤ 1000000) (h1 : lo + 2 ≤ hi) (h2 : hi ≤ L.length) : Ev (fun k => spec_l11Depth.f k L (lo : Int) (hi : Int)) (depthOf L lo hi) := by
 refine Ev.congr (fun k => ?_) (specDepth_l0 L hi hl h2 (hi - (lo + 1)) (lo + 1) (L.getD (lo + 1) 0) (by omega))
 unfold spec_l11Depth.f
 rw [w64 (by omega) (by omega), if_pos (by omega), if_pos (by omega), show (lo : Int) + 1 = ((lo + 1 : Nat) : Int) by omega, rd_nat]
theorem implMin_l0 (S : List Int) (hl : S.length ≤ 1000000) (d : Nat) : ∀ (i : Nat) (v : Int), i + d = S.length → Ev (fun k => slices_Min_int_int.l0 k S v (i : Int)) ((S.drop i).foldl mn v) := by
 induction d with
 | zero =>
  intro i v h
  refine Ev.step (f := fun _ => some _) (fun k => ?_) (Ev.now _)
  rw [slices_Min_int_int.l0, if_neg (by omega), List.drop_eq_nil_of_le (by omega)]
  rfl
 | succ d ih =>
  intro i v h
  rw [drop_at S i (by omega), List.foldl_cons]
  refine Ev.step (fun k => ?_) (ih (i + 1) _ (by omega))
  rw [slices_Min_int_int.l0, if_pos (by omega), if_pos (by omega), rd_nat, w64 (by omega) (by omega)]
  rfl
theorem implMin_ev (L : List Int) (lo hi : Nat) (hl : L.length ≤ 1000000) (h1 : lo + 2 ≤ hi) (h2 : hi ≤ L.length) : Ev (fun k => slices_Min_int_int.f k ((L.take hi).drop (lo + 1))) (depthOf L lo hi) := by
 have hS : ((L.take hi).drop (lo + 1)).length = hi - (lo + 1) := by rw [List.length_drop, List.length_take]; omega
 have e0 : rd ((L.take hi).drop (lo + 1)) 0 = L.getD (lo + 1) 0 := by
  refine (rd_nat ((L.take hi).drop (lo + 1)) 0).trans ?_
  rw [lget_lt _ 0 0 (by omega), List.getElem_drop, List.getElem_take, lget_lt L (lo + 1) 0 (by omega)]
 have h := implMin_l0 ((L.take hi).drop (lo + 1)) (by omega) (hi - (lo + 1) - 1) 1 (L.getD (lo + 1) 0) (by omega)
 have e1 : (((L.take hi).drop (lo + 1)).drop 1).foldl mn (L.getD (lo + 1) 0) = depthOf L lo hi := by
  unfold depthOf
  conv => rhs; rw [drop_at (L.take hi) (lo + 1) (by rw [List.length_take]; omega), List.foldl_cons]
  rw [lget_lt (L.take hi) (lo + 1) 0 (by rw [List.length_take]; omega), List.getElem_take, lget_lt L (lo + 1) 0 (by omega), mn_self, List.drop_drop]
 rw [e1] at h
 refine Ev.congr (fun k => ?_) h
 unfold slices_Min_int_int.f
 rw [if_neg (by omega), if_pos (by omega), e0]
 rfl
theorem strEq (a b : List Int) (ha : bytesOk a) (hb : bytesOk b) : ((strOfNums a).toList == (strOfNums b).toList) = decide (a = b) := by
 have inj : ∀ a b : List Int, bytesOk a → bytesOk b → (strOfNums a).toList = (strOfNums b).toList → a = b := by
  intro a
  induction a with
  | nil =>
   intro b _ _ h
   cases b with
   | nil => rfl
   | cons y b => simp [strOfNums] at h
  | cons x a ih =>
   intro b ha hb h
   cases b with
   | nil => simp [strOfNums] at h
   | cons y b =>
    simp only [strOfNums, ByteArray.toList_mk, List.map_cons, List.cons.injEq] at h
    have hx := ha x List.mem_cons_self
    have hy := hb y List.mem_cons_self
    have e : x.toNat = y.toNat := by
     have := congrArg UInt8.toNat h.1
     simp only [UInt8.toNat_ofNat'] at this
     omega
    have e' : x = y := by omega
    rw [e', ih b (fun z hz => ha z (List.mem_cons_of_mem _ hz)) (fun z hz => hb z (List.mem_cons_of_mem _ hz)) (by simp only [strOfNums, ByteArray.toList_mk]; exact h.2)]
 by_cases h : a = b
 ·rw [h, decide_eq_true rfl]
  simp
 ·rw [decide_eq_false h]
  exact beq_eq_false_iff_ne.mpr (fun e => h (inj a b ha hb e))
theorem bytesOk_drop {l : List Int} (h : bytesOk l) (i : Nat) : bytesOk (l.drop i) := fun x hx => h x (List.mem_of_mem_drop hx)
theorem bytesOk_take {l : List Int} (h : bytesOk l) (i : Nat) : bytesOk (l.take i) := fun x hx => h x (List.mem_of_mem_take hx)
/-- Does s begin with p. -/
def hasP (s p : List Int) : Bool := decide (p.length ≤ s.length) && decide (s.take p.length = p)
theorem specBegins_eq (s p : List Int) (hs : bytesOk s) (hp : bytesOk p) : spec_l05Begins.f s p = some (hasP s p) := by
 unfold spec_l05Begins.f hasP
 by_cases c : p.length ≤ s.length
 ·rw [if_pos (by omega), if_pos (by omega), Int.toNat_natCast, strEq _ _ (bytesOk_take hs _) hp, decide_eq_true c, Bool.true_and]
 ·rw [if_neg (by omega), decide_eq_false c, Bool.false_and]
theorem implPrefix_eq (s p : List Int) (hs : bytesOk s) (hp : bytesOk p) : bytes_HasPrefix.f s p = some (hasP s p) := by
 unfold bytes_HasPrefix.f bytes_Equal.f hasP
 by_cases c : p.length ≤ s.length
 ·rw [if_pos (by omega), if_pos (by omega), if_pos (by omega), Option.bind_some, Int.toNat_natCast, strEq _ _ (bytesOk_take hs _) hp, decide_eq_true c, Bool.true_and]
 ·rw [if_neg (by omega), decide_eq_false c, Bool.false_and]
theorem cmpB_app : ∀ p s : List Int, ¬ Fv.cmpB (p ++ s) p < 0
 | [], [] => by simp [Fv.cmpB]
 | [], _ :: _ => by simp [Fv.cmpB]
 | a :: p, s => by
  have := cmpB_app p s
  simp only [List.cons_append, Fv.cmpB]
  simpa using this
theorem hasP_cmp {s p : List Int} (h : hasP s p = true) : ¬ Fv.cmpB s p < 0 := by
 unfold hasP at h
 simp only [Bool.and_eq_true, decide_eq_true_eq] at h
 have := cmpB_app p (s.drop p.length)
 have e : p ++ s.drop p.length = s := by
  have e2 := List.take_append_drop p.length s
  rwa [h.2] at e2
 rwa [e] at this
def ltC (l p : List Int) : Nat → Nat
 | 0 => 0
 | i + 1 => ltC l p i + if Fv.cmpB (l.drop i) p < 0 then 1 else 0
def preC (l p : List Int) : Nat → Nat
 | 0 => 0
 | i + 1 => preC l p i + if hasP (l.drop i) p = true then 1 else 0
theorem lt_pre (l p : List Int) : ∀ i, ltC l p i + preC l p i ≤ i
 | 0 => by simp [ltC, preC]
 | i + 1 => by
  have := lt_pre l p i
  unfold ltC preC
  by_cases h : hasP (l.drop i) p = true
  ·rw [if_pos h, if_neg (hasP_cmp h)]; omega
  ·rw [if_neg h]; split <;> omega
theorem specOccurs_l0 (l p : List Int) (hl : l.length ≤ 300) (hb : bytesOk l) (hp : bytesOk p) (d : Nat) : ∀ (i : Nat) (out : List Int), i + d = l.length + 1 → out.length = preC l p i → ∃ r, Ev (fun k => spec_Occurs.l0 k l p out (i : Int)) r ∧ r.length = preC l p (l.length + 1) := by
 induction d with
 | zero =>
  intro i out h ho
  have e : i = l.length + 1 := by omega
  subst e
  refine ⟨out, ev_mk 2 fun k hk => ?_, ho⟩
  obtain ⟨k, rfl⟩ : ∃ m, k = m + 1 + 1 := ⟨k - 2, by omega⟩
  rw [spec_Occurs.l0, spec_TextOk.f, Option.bind_some, decide_eq_true (show (l.length : Int) ≤ 300 by omega), if_pos rfl, decide_eq_false (by omega), spec_Occurs.j1, if_neg (by decide)]
 | succ d ih =>
  intro i out h ho
  have hlp := lt_pre l p i
  by_cases c : hasP (l.drop i) p = true
  ·obtain ⟨r, hr, hr2⟩ := ih (i + 1) (out ++ [(i : Int)]) (by omega) (by rw [List.length_append, ho, preC, if_pos c]; rfl)
   obtain ⟨K, hK⟩ := ev_out hr
   refine ⟨r, ev_mk (K + 2) fun k hk => ?_, hr2⟩
   obtain ⟨k, rfl⟩ : ∃ m, k = m + 1 + 1 := ⟨k - 2, by omega⟩
   rw [spec_Occurs.l0, spec_TextOk.f, Option.bind_some, decide_eq_true (show (l.length : Int) ≤ 300 by omega), if_pos rfl, decide_eq_true (show (i : Int) ≤ (l.length : Int) by omega), spec_Occurs.j1, if_pos rfl, if_pos (by omega), if_pos (by omega), Int.toNat_natCast,
    specBegins_eq _ _ (bytesOk_drop hb i) hp, Option.bind_some, if_pos c, if_pos (by omega), w64 (by omega) (by omega)]
   exact hK k (by omega)
  ·obtain ⟨r, hr, hr2⟩ := ih (i + 1) out (by omega) (by rw [ho, preC, if_neg c, Nat.add_zero])
   obtain ⟨K, hK⟩ := ev_out hr
   refine ⟨r, ev_mk (K + 2) fun k hk => ?_, hr2⟩
   obtain ⟨k, rfl⟩ : ∃ m, k = m + 1 + 1 := ⟨k - 2, by omega⟩
   rw [spec_Occurs.l0, spec_TextOk.f, Option.bind_some, decide_eq_true (show (l.length : Int) ≤ 300 by omega), if_pos rfl, decide_eq_true (show (i : Int) ≤ (l.length : Int) by omega), spec_Occurs.j1, if_pos rfl, if_pos (by omega), if_pos (by omega), Int.toNat_natCast,
    specBegins_eq _ _ (bytesOk_drop hb i) hp, Option.bind_some, if_neg c, w64 (by omega) (by omega)]
   exact hK k (by omega)
def rowsR (l p : List Int) : Int × Int := if l.length ≤ 300 then ((ltC l p (l.length + 1) : Int), ((ltC l p (l.length + 1) + preC l p (l.length + 1) : Nat) : Int)) else (0, 0)
theorem specRowsOf_l0 (l p : List Int) (hl : l.length ≤ 300) (hpl : p.length ≤ 2000000) (hb : bytesOk l) (hp : bytesOk p) (d : Nat) : ∀ i : Nat, i + d = l.length + 1 → Ev (fun k => spec_RowsOf.l0 k l p (ltC l p i : Int) (i : Int)) (rowsR l p) := by
 induction d with
 | zero =>
  intro i h
  have e : i = l.length + 1 := by omega
  subst e
  obtain ⟨r, hr, hr2⟩ := specOccurs_l0 l p hl hb hp (l.length + 1) 0 [] (by omega) rfl
  obtain ⟨K, hK⟩ := ev_out hr
  have hlp := lt_pre l p (l.length + 1)
  refine ev_mk (K + 1) fun k hk => ?_
  obtain ⟨k, rfl⟩ : ∃ m, k = m + 1 := ⟨k - 1, by omega⟩
  rw [spec_RowsOf.l0, if_neg (by omega), spec_Occurs.f, show (0 : Int) = ((0 : Nat) : Int) from rfl, hK k (by omega), Option.bind_some, hr2, w64 (by omega) (by omega), rowsR, if_pos hl]
  simp
 | succ d ih =>
  intro i h
  have hlp := lt_pre l p i
  obtain ⟨K, hK⟩ := ev_out (specCmp_ev (l.drop i) p (by rw [List.length_drop]; omega) hpl)
  obtain ⟨K2, hK2⟩ := ev_out (ih (i + 1) (by omega))
  refine ev_mk (K + K2 + 1) fun k hk => ?_
  obtain ⟨k, rfl⟩ : ∃ m, k = m + 1 := ⟨k - 1, by omega⟩
  have h2 := hK2 k (by omega)
  rw [ltC] at h2
  rw [spec_RowsOf.l0, if_pos (by omega), if_pos (by omega), Int.toNat_natCast, hK k (by omega), Option.bind_some]
  by_cases c : Fv.cmpB (l.drop i) p < 0
  ·rw [if_pos c] at h2 ⊢
   rw [w64 (by omega) (by omega), w64 (by omega) (by omega)]
   exact h2
  ·rw [if_neg c] at h2 ⊢
   rw [w64 (by omega) (by omega)]
   exact h2
theorem specRowsOf_ev (l p : List Int) (hpl : p.length ≤ 2000000) (hb : bytesOk l) (hp : bytesOk p) : Ev (fun k => spec_RowsOf.f k l p) (rowsR l p) := by
 by_cases c : l.length ≤ 300
 ·refine Ev.congr (fun k => ?_) (specRowsOf_l0 l p c hpl hb hp (l.length + 1) 0 (by omega))
  unfold spec_RowsOf.f spec_TextOk.f
  rw [Option.bind_some, decide_eq_true (by omega), if_pos rfl]
  rfl
 ·refine ev_mk 0 fun k _ => ?_
  unfold spec_RowsOf.f spec_TextOk.f rowsR
  rw [Option.bind_some, decide_eq_false (by omega), if_neg (by decide), if_neg c]
theorem all_isB {l : List Int} (h : bytesOk l) : l.all Fv.isB = true := by
 simp only [List.all_eq_true, Fv.isB, decide_eq_true_eq]
 exact h
theorem implRowsOf_l0 (l p : List Int) (hl : l.length ≤ 300) (hb : bytesOk l) (hp : bytesOk p) (d : Nat) : ∀ i : Nat, i + d = l.length + 1 → Ev (fun k => impl_rowsOf.l0 k l p (ltC l p i : Int) (preC l p i : Int) ((l.length : Int) + 1) (i : Int)) (rowsR l p) := by
 induction d with
 | zero =>
  intro i h
  have e : i = l.length + 1 := by omega
  subst e
  have hlp := lt_pre l p (l.length + 1)
  refine Ev.step (f := fun _ => some _) (fun k => ?_) (Ev.now _)
  rw [impl_rowsOf.l0, if_neg (by omega), w64 (by omega) (by omega), rowsR, if_pos hl]
  simp
 | succ d ih =>
  intro i h
  have hlp := lt_pre l p i
  refine Ev.step (fun k => ?_) (ih (i + 1) (by omega))
  rw [impl_rowsOf.l0, if_pos (by omega), if_pos (by omega), if_pos (by omega), Int.toNat_natCast, implPrefix_eq _ _ (bytesOk_drop hb i) hp, Option.bind_some, ltC, preC]
  by_cases c : hasP (l.drop i) p = true
  ·rw [if_pos c, if_pos c, if_neg (hasP_cmp c), w64 (by omega) (by omega), w64 (by omega) (by omega)]
   rfl
  ·rw [if_neg c, if_neg c, bytes_Compare.f, all_isB (bytesOk_drop hb i), all_isB hp, Bool.and_self, if_pos rfl, Option.bind_some]
   by_cases c2 : Fv.cmpB (l.drop i) p < 0
   ·rw [if_pos c2, if_pos c2, w64 (by omega) (by omega), w64 (by omega) (by omega)]
    rfl
   ·rw [if_neg c2, if_neg c2, w64 (by omega) (by omega)]
    rfl
theorem implRowsOf_ev (l p : List Int) (hb : bytesOk l) (hp : bytesOk p) : Ev (fun k => impl_RowsOf.f k l p) (rowsR l p) := by
 by_cases c : l.length ≤ 300
 ·obtain ⟨K, hK⟩ := ev_out (implRowsOf_l0 l p c hb hp (l.length + 1) 0 (by omega))
  refine ev_mk K fun k hk => ?_
  unfold impl_RowsOf.f impl_TextOk.f impl_rowsOf.f
  have h := hK k hk
  rw [Option.bind_some, decide_eq_true (by omega), if_pos rfl, w64 (by omega) (by omega)]
  simp only [ltC, preC] at h
  have h2 : impl_rowsOf.l0 k l p 0 0 ((l.length : Int) + 1) 0 = some (rowsR l p) := h
  rw [h2]
  rfl
 ·refine ev_mk 0 fun k _ => ?_
  unfold impl_RowsOf.f impl_TextOk.f rowsR
  rw [Option.bind_some, decide_eq_false (by omega), if_neg (by decide), if_neg c]
def stretchR (l p : List Int) : Int × Int × Int × Bool := if (rowsR l p).2 - (rowsR l p).1 < 2 then (0, 0, 0, false) else ((rowsR l p).1, (rowsR l p).2, depthOf (lcpRows l) (rowsR l p).1.toNat (rowsR l p).2.toNat, true)
theorem rowsR_bd (l p : List Int) : 0 ≤ (rowsR l p).1 ∧ (rowsR l p).1 ≤ (rowsR l p).2 ∧ (rowsR l p).2 ≤ (l.length : Int) + 1 ∧ (¬ l.length ≤ 300 → rowsR l p = (0, 0)) := by
 have := lt_pre l p (l.length + 1)
 unfold rowsR
 by_cases c : l.length ≤ 300
 ·rw [if_pos c]
  exact ⟨by simp, by simp; omega, by simp; omega, fun h => absurd c h⟩
 ·rw [if_neg c]
  exact ⟨by simp, by simp, by simp; omega, fun _ => rfl⟩
theorem specStretchOf_ev (l p : List Int) (hpl : p.length ≤ 2000000) (hb : bytesOk l) (hp : bytesOk p) : Ev (fun k => spec_StretchOf.f k l p) (stretchR l p) := by
 obtain ⟨K, hK⟩ := ev_out (specRowsOf_ev l p hpl hb hp)
 obtain ⟨b0, b1, b2, b3⟩ := rowsR_bd l p
 generalize hr : rowsR l p = q at *
 obtain ⟨lo, hi⟩ := q
 simp only at b0 b1 b2
 unfold stretchR
 rw [hr]
 by_cases c : l.length ≤ 300
 ·by_cases c2 : hi - lo < 2
  ·refine ev_mk (K + 1) fun k hk => ?_
   obtain ⟨k, rfl⟩ : ∃ m, k = m + 1 := ⟨k - 1, by omega⟩
   unfold spec_StretchOf.f spec_TextOk.f
   rw [hK _ (by omega), Option.bind_some, Option.bind_some, decide_eq_true (show (l.length : Int) ≤ 300 by omega), if_pos rfl]
   dsimp only
   rw [w64 (by omega) (by omega), decide_eq_true c2, spec_StretchOf.j0, if_pos rfl, if_pos c2]
  ·obtain ⟨lo, rfl⟩ := Int.eq_ofNat_of_zero_le b0
   obtain ⟨hi, rfl⟩ := Int.eq_ofNat_of_zero_le (show 0 ≤ hi by omega)
   obtain ⟨K1, hK1⟩ := ev_out (specLcp_ev l c)
   obtain ⟨K2, hK2⟩ := ev_out (specDepth_ev (lcpRows l) lo hi (by rw [lcpRows_len]; omega) (by omega) (by rw [lcpRows_len]; omega))
   refine ev_mk (K + K1 + K2 + 1) fun k hk => ?_
   obtain ⟨k, rfl⟩ : ∃ m, k = m + 1 := ⟨k - 1, by omega⟩
   unfold spec_StretchOf.f spec_TextOk.f
   rw [hK _ (by omega), Option.bind_some, Option.bind_some, decide_eq_true (show (l.length : Int) ≤ 300 by omega), if_pos rfl]
   dsimp only
   rw [w64 (by omega) (by omega), decide_eq_false c2, spec_StretchOf.j0, if_neg (by decide), hK1 _ (by omega), Option.bind_some, hK2 _ (by omega), Option.bind_some, if_neg c2]
   rfl
 ·have e := b3 c
  injection e with e1 e2
  subst e1; subst e2
  refine ev_mk (K + 1) fun k hk => ?_
  obtain ⟨k, rfl⟩ : ∃ m, k = m + 1 := ⟨k - 1, by omega⟩
  unfold spec_StretchOf.f spec_TextOk.f
  rw [hK _ (by omega), Option.bind_some, Option.bind_some, decide_eq_false (show ¬ (l.length : Int) ≤ 300 by omega), if_neg (by decide), spec_StretchOf.j0, if_pos rfl]
  rfl
theorem implStretchOf_ev (l p : List Int) (hb : bytesOk l) (hp : bytesOk p) : Ev (fun k => impl_StretchOf.f k l p) (stretchR l p) := by
 obtain ⟨K, hK⟩ := ev_out (implRowsOf_ev l p hb hp)
 obtain ⟨b0, b1, b2, b3⟩ := rowsR_bd l p
 generalize hr : rowsR l p = q at *
 obtain ⟨lo, hi⟩ := q
 simp only at b0 b1 b2
 unfold stretchR
 rw [hr]
 by_cases c : l.length ≤ 300
 ·by_cases c2 : hi - lo < 2
  ·refine ev_mk K fun k hk => ?_
   unfold impl_StretchOf.f
   rw [hK _ (by omega), Option.bind_some]
   dsimp only
   rw [w64 (by omega) (by omega), if_pos c2, if_pos c2]
  ·obtain ⟨lo, rfl⟩ := Int.eq_ofNat_of_zero_le b0
   obtain ⟨hi, rfl⟩ := Int.eq_ofNat_of_zero_le (show 0 ≤ hi by omega)
   have hL := lcpRows_len l
   obtain ⟨K1, hK1⟩ := ev_out (implLcp_ev l c hb)
   obtain ⟨K2, hK2⟩ := ev_out (implMin_ev (lcpRows l) lo hi (by omega) (by omega) (by omega))
   refine ev_mk (K + K1 + K2) fun k hk => ?_
   unfold impl_StretchOf.f
   rw [hK _ (by omega), Option.bind_some]
   dsimp only
   rw [w64 (by omega) (by omega), if_neg c2, hK1 _ (by omega), Option.bind_some, w64 (by omega) (by omega), if_pos (by omega), if_pos (by omega), if_pos (by omega), Int.toNat_natCast, show ((lo : Int) + 1).toNat = lo + 1 by omega, hK2 _ (by omega), Option.bind_some, if_neg c2]
   rfl
 ·have e := b3 c
  injection e with e1 e2
  subst e1; subst e2
  refine ev_mk K fun k hk => ?_
  unfold impl_StretchOf.f
  rw [hK _ (by omega), Option.bind_some]
  dsimp only
  rw [w64 (by omega) (by omega), if_pos (by omega)]
  rfl
theorem FnExactStretchOf : laws_FnExactStretchOf.Pure := by
 intro l p _ _ o0 _ _ o1
 by_cases g0 : (l.length : Int) > 1048576
 ·exact ⟨0, by unfold laws_FnExactStretchOf.f; rw [if_pos g0]⟩
 by_cases g1 : (p.length : Int) > 1048576
 ·exact ⟨0, by unfold laws_FnExactStretchOf.f; rw [if_neg g0, if_pos g1]⟩
 have hb : bytesOk l := bytes_wf o0
 have hp : bytesOk p := bytes_wf o1
 obtain ⟨K0, h0⟩ := ev_out (toByteS_ev l (by omega))
 obtain ⟨K1, h1⟩ := ev_out (toByteS_ev p (by omega))
 obtain ⟨K2, h2⟩ := ev_out (specStretchOf_ev l p (by omega) hb hp)
 obtain ⟨K3, h3⟩ := ev_out (implStretchOf_ev l p hb hp)
 obtain ⟨K4, h4⟩ := ev_out (eqByteS_ev l (by omega))
 obtain ⟨K5, h5⟩ := ev_out (eqByteS_ev p (by omega))
 obtain ⟨K, hK⟩ : ∃ K, K = K0 + K1 + K2 + K3 + K4 + K5 := ⟨_, rfl⟩
 refine ⟨K + 1, ?_⟩
 unfold laws_FnExactStretchOf.f
 rw [if_neg g0, if_neg g1, h0 _ (by omega), Option.bind_some, h1 _ (by omega), Option.bind_some, h2 _ (by omega), Option.bind_some, Option.bind_some, Option.bind_some, h3 _ (by omega), Option.bind_some]
 unfold laws_eqStretch.f
 rw [if_pos rfl, if_pos rfl, if_pos rfl, Option.bind_some, if_pos rfl, bne_self_eq_false, laws_FnExactStretchOf.j0, if_neg (by decide), h0 _ (by omega), Option.bind_some, h4 _ (by omega), Option.bind_some, if_pos rfl, h1 _ (by omega), Option.bind_some, h5 _ (by omega), Option.bind_some, if_pos rfl]

end Go.Proofs.Ytoinagnieobbpaa.Pure
