/- The program's StretchKids returns what the reference's returns, for all arguments (texts of more than 2^20 bytes are let pass by the statement itself). -/
import Derived.Test.YtoinagnieobbpaaQFnExactStretchKidsx13
import Derived.Test.YtoinagnieobbpaaBase
import Derived.Test.YtoinagnieobbpaaSx
namespace Go.Proofs.Ytoinagnieobbpaa.Pure
open Go.RowKit Go.Proofs.Ytoinagnieobbpaa.QFnExactStretchKids Go.Proofs.YtoinagnieobbpaaW.PrintWords Go.Proofs.YtoinagnieobbpaaW.PrintLast Go.Proofs.YtoinagnieobbpaaW.PrintMore
open Go.Proofs.Ytoinagnieobbpaa Go.Proofs.Ytoinagnieobbpaa.Base Go.Proofs.Ytoinagnieobbpaa.Sx
set_option linter.unusedVariables false
set_option linter.unusedSimpArgs false

theorem specCmp_l0 (a b : List Int) (ha : a.length ≤ 2000000) (hb : b.length ≤ 2000000) (d : Nat) : ∀ i : Nat, i + d = a.length → i ≤ b.length → Ev (fun k => spec_l05Cmp.l0 k a b (i : Int)) (Fv.cmpB (a.drop i) (b.drop i)) := by
 induction d with
 | zero =>
  intro i h hi
  refine Ev.step (f := fun k => spec_l05Cmp.j1 k a b (i : Int) false) (fun k => ?_) (Ev.step (f := fun _ => some _) (fun k => ?_) (Ev.now _))
  ·rw [spec_l05Cmp.l0, if_neg (by omega)]
  ·rw [spec_l05Cmp.j1, if_neg (by decide), List.drop_eq_nil_of_le (show a.length ≤ i by omega)]
   by_cases c : (a.length : Int) < (b.length : Int)
   ·rw [if_pos c, drop_at b i (by omega)]
    rfl
   ·rw [if_neg c, if_neg (by omega), List.drop_eq_nil_of_le (show b.length ≤ i by omega)]
    rfl
 | succ d ih =>
  intro i h hi
  rw [drop_at a i (by omega)]
  by_cases c : i < b.length
  ·rw [drop_at b i c, Fv.cmpB]
   by_cases c1 : a.getD i 0 < b.getD i 0
   ·refine Ev.step (f := fun k => spec_l05Cmp.j1 k a b (i : Int) true) (fun k => ?_) (Ev.step (f := fun _ => some _) (fun k => ?_) (Ev.now _))
    ·rw [spec_l05Cmp.l0, if_pos (by omega), decide_eq_true (show (i : Int) < (b.length : Int) by omega)]
    ·rw [spec_l05Cmp.j1, if_pos rfl, if_pos (by omega), if_pos (by omega), if_pos (by omega), rd_nat, rd_nat, if_pos c1, if_pos c1]
   ·by_cases c2 : b.getD i 0 < a.getD i 0
    ·refine Ev.step (f := fun k => spec_l05Cmp.j1 k a b (i : Int) true) (fun k => ?_) (Ev.step (f := fun _ => some _) (fun k => ?_) (Ev.now _))
     ·rw [spec_l05Cmp.l0, if_pos (by omega), decide_eq_true (show (i : Int) < (b.length : Int) by omega)]
     ·rw [spec_l05Cmp.j1, if_pos rfl, if_pos (by omega), if_pos (by omega), if_pos (by omega), rd_nat, rd_nat, if_neg c1, if_pos c2, if_neg c1, if_pos c2]
    ·rw [if_neg c1, if_neg c2]
     refine Ev.step (f := fun k => spec_l05Cmp.j1 k a b (i : Int) true) (fun k => ?_) (Ev.step (fun k => ?_) (ih (i + 1) (by omega) (by omega)))
     ·rw [spec_l05Cmp.l0, if_pos (by omega), decide_eq_true (show (i : Int) < (b.length : Int) by omega)]
     ·rw [spec_l05Cmp.j1, if_pos rfl, if_pos (by omega), if_pos (by omega), if_pos (by omega), rd_nat, rd_nat, if_neg c1, if_neg c2, w64 (by omega) (by omega)]
      rfl
  ·rw [List.drop_eq_nil_of_le (show b.length ≤ i by omega)]
   refine Ev.step (f := fun k => spec_l05Cmp.j1 k a b (i : Int) false) (fun k => ?_) (Ev.step (f := fun _ => some _) (fun k => ?_) (Ev.now _))
   ·rw [spec_l05Cmp.l0, if_pos (by omega), decide_eq_false (show ¬ (i : Int) < (b.length : Int) by omega)]
   ·rw [spec_l05Cmp.j1, if_neg (by decide), if_neg (by omega), if_pos (by omega)]
    rfl
theorem specCmp_ev (a b : List Int) (ha : a.length ≤ 2000000) (hb : b.length ≤ 2000000) : Ev (fun k => spec_l05Cmp.f k a b) (Fv.cmpB a b) := specCmp_l0 a b ha hb a.length 0 (by omega) (by omega)
theorem specCommon_l0 (a b : List Int) (ha : a.length ≤ 2000000) (hb : b.length ≤ 2000000) (d : Nat) : ∀ i : Nat, i + d = a.length → i ≤ b.length → Ev (fun k => spec_l05Common.l0 k a b (i : Int)) ((i : Int) + (lcpB (a.drop i) (b.drop i) : Int)) := by
 induction d with
 | zero =>
  intro i h hi
  refine Ev.step (f := fun k => spec_l05Common.j1 k a b (i : Int) false) (fun k => ?_) (Ev.step (f := fun _ => some _) (fun k => ?_) (Ev.now _))
  ·rw [spec_l05Common.l0, if_neg (by omega)]
  ·rw [spec_l05Common.j1, if_neg (by decide), List.drop_eq_nil_of_le (show a.length ≤ i by omega), lcpB]
   ·simp
   ·intro _ _ _ _ h _; cases h
 | succ d ih =>
  intro i h hi
  rw [drop_at a i (by omega)]
  by_cases c : i < b.length
  ·rw [drop_at b i c, lcpB]
   by_cases c1 : a.getD i 0 = b.getD i 0
   ·rw [if_pos c1]
    have e : ((i : Int) + ((lcpB (a.drop (i + 1)) (b.drop (i + 1)) + 1 : Nat) : Int)) = ((i + 1 : Nat) : Int) + (lcpB (a.drop (i + 1)) (b.drop (i + 1)) : Int) := by omega
    rw [e]
    refine Ev.step (f := fun k => spec_l05Common.j1 k a b (i : Int) true) (fun k => ?_) (Ev.step (fun k => ?_) (ih (i + 1) (by omega) (by omega)))
    ·rw [spec_l05Common.l0, if_pos (by omega), if_pos (by omega), if_pos (by omega), rd_nat, rd_nat, beq_iff_eq.mpr c1]
    ·rw [spec_l05Common.j1, if_pos rfl, w64 (by omega) (by omega)]
     rfl
   ·rw [if_neg c1]
    refine Ev.step (f := fun k => spec_l05Common.j1 k a b (i : Int) false) (fun k => ?_) (Ev.step (f := fun _ => some _) (fun k => ?_) (Ev.now _))
    ·rw [spec_l05Common.l0, if_pos (by omega), if_pos (by omega), if_pos (by omega), rd_nat, rd_nat, beq_eq_false_iff_ne.mpr c1]
    ·rw [spec_l05Common.j1, if_neg (by decide)]
     simp
  ·rw [List.drop_eq_nil_of_le (show b.length ≤ i by omega)]
   refine Ev.step (f := fun k => spec_l05Common.j1 k a b (i : Int) false) (fun k => ?_) (Ev.step (f := fun _ => some _) (fun k => ?_) (Ev.now _))
   ·rw [spec_l05Common.l0, if_pos (by omega), if_neg (by omega)]
   ·rw [spec_l05Common.j1, if_neg (by decide), lcpB]
    ·simp
    ·intro _ _ _ _ _ h; cases h
theorem specCommon_ev (a b : List Int) (ha : a.length ≤ 2000000) (hb : b.length ≤ 2000000) : Ev (fun k => spec_l05Common.f k a b) (lcpB a b : Int) := by
 have h := specCommon_l0 a b ha hb a.length 0 (by omega) (by omega)
 simp only [List.drop_zero] at h
 rw [show ((0 : Nat) : Int) + (lcpB a b : Int) = (lcpB a b : Int) by omega] at h
 exact h
theorem implCommon_l0 (a b : List Int) (ha : a.length ≤ 2000000) (hb : b.length ≤ 2000000) (d : Nat) : ∀ i : Nat, i + d = a.length → i ≤ b.length → Ev (fun k => impl_common.l0 k a b (i : Int)) ((i : Int) + (lcpB (a.drop i) (b.drop i) : Int)) := by
 have hmn : mn (a.length : Int) (b.length : Int) = ((min a.length b.length : Nat) : Int) := by unfold mn; split <;> omega
 induction d with
 | zero =>
  intro i h hi
  refine Ev.step (f := fun _ => some _) (fun k => ?_) (Ev.now _)
  rw [impl_common.l0, hmn, if_neg (by omega), List.drop_eq_nil_of_le (show a.length ≤ i by omega), lcpB]
  ·simp
  ·intro _ _ _ _ h _; cases h
 | succ d ih =>
  intro i h hi
  rw [drop_at a i (by omega)]
  by_cases c : i < b.length
  ·rw [drop_at b i c, lcpB]
   by_cases c1 : a.getD i 0 = b.getD i 0
   ·rw [if_pos c1]
    have e : ((i : Int) + ((lcpB (a.drop (i + 1)) (b.drop (i + 1)) + 1 : Nat) : Int)) = ((i + 1 : Nat) : Int) + (lcpB (a.drop (i + 1)) (b.drop (i + 1)) : Int) := by omega
    rw [e]
    refine Ev.step (fun k => ?_) (ih (i + 1) (by omega) (by omega))
    rw [impl_common.l0, hmn, if_pos (by omega), if_pos (by omega), if_pos (by omega), if_pos (by omega), rd_nat, rd_nat, if_pos c1, w64 (by omega) (by omega)]
    rfl
   ·rw [if_neg c1]
    refine Ev.step (f := fun _ => some _) (fun k => ?_) (Ev.now _)
    rw [impl_common.l0, hmn, if_pos (by omega), if_pos (by omega), if_pos (by omega), if_pos (by omega), rd_nat, rd_nat, if_neg c1]
    simp
  ·rw [List.drop_eq_nil_of_le (show b.length ≤ i by omega)]
   refine Ev.step (f := fun _ => some _) (fun k => ?_) (Ev.now _)
   rw [impl_common.l0, hmn, if_neg (by omega), lcpB]
   ·simp
   ·intro _ _ _ _ _ h; cases h
theorem implCommon_ev (a b : List Int) (ha : a.length ≤ 2000000) (hb : b.length ≤ 2000000) : Ev (fun k => impl_common.f k a b) (lcpB a b : Int) := by
 have h := implCommon_l0 a b ha hb a.length 0 (by omega) (by omega)
 simp only [List.drop_zero] at h
 rw [show ((0 : Nat) : Int) + (lcpB a b : Int) = (lcpB a b : Int) by omega] at h
 exact h
def bytesOk (l : List Int) : Prop := ∀ x ∈ l, 0 ≤ x ∧ x < 256
theorem okb_bytes {l : List Int} (h : Fv.OkL (Fv.OkI .u8) l) : bytesOk l := fun x hx => by
 have := h.2 x hx
 unfold Fv.OkI at this
 simp [Lit.wf, IntKind.min, IntKind.max, IntKind.signed, IntKind.bits] at this
 omega
theorem rd_rows {l out : List Int} (ho : ∀ x ∈ out, 0 ≤ x ∧ x ≤ l.length) (j : Nat) (hj : j < out.length) : 0 ≤ out.getD j 0 ∧ out.getD j 0 ≤ l.length := by
 rw [lget_lt out j 0 hj]
 exact ho _ (List.getElem_mem _)
theorem specIns (l out : List Int) (i : Nat) (hl : l.length ≤ 300) (hi : i ≤ l.length) (ho : ∀ x ∈ out, 0 ≤ x ∧ x ≤ l.length) (hlen : out.length ≤ 1000) (hs : out.Pairwise (sl l)) (m : Nat) : ∀ lo hi_ : Nat, hi_ - lo ≤ m → lo ≤ hi_ → hi_ ≤ out.length →
  (∀ j, j < lo → j < out.length → sl l (out.getD j 0) i) → (∀ j, hi_ ≤ j → j < out.length → ¬ sl l (out.getD j 0) i) →
  ∃ p, p ≤ out.length ∧ (∀ j, j < p → j < out.length → sl l (out.getD j 0) i) ∧ (∀ j, p ≤ j → j < out.length → ¬ sl l (out.getD j 0) i) ∧
   ∀ r, Ev (fun k => spec_SuffixRows.l0 k l (out.take p ++ (i : Int) :: out.drop p) ((i : Int) - 1)) r → Ev (fun k => spec_SuffixRows.l1 k l out (i : Int) (lo : Int) (hi_ : Int)) r := by
 have pw : ∀ j j' : Nat, j < j' → j' < out.length → sl l (out.getD j 0) (out.getD j' 0) := fun j j' h h' => by
  rw [lget_lt out j 0 (by omega), lget_lt out j' 0 h']
  exact List.pairwise_iff_getElem.1 hs j j' (by omega) h' h
 induction m with
 | zero =>
  intro lo hi_ h1 h2 h3 h4 h5
  have e : hi_ = lo := by omega
  subst e
  refine ⟨hi_, h3, h4, h5, fun r hr => Ev.step (fun k => ?_) hr⟩
  rw [spec_SuffixRows.l1, if_neg (by omega), Option.bind_some, if_pos (by omega), if_pos (by omega), Option.bind_some, Int.toNat_natCast, if_pos (by simp; omega), Option.bind_some, Option.bind_some, Option.bind_some, if_pos (by simp; omega), Option.bind_some,
   if_pos (by simp; omega), w64 (by omega) (by omega)]
  simp
 | succ m ih =>
  intro lo hi_ h1 h2 h3 h4 h5
  by_cases e : lo < hi_
  ·have hmid : wrap64 (Int.tdiv (wrap64 ((lo : Int) + (hi_ : Int))) 2) = (((lo + hi_) / 2 : Nat) : Int) := by
    rw [show wrap64 ((lo : Int) + (hi_ : Int)) = (lo : Int) + (hi_ : Int) from w64 (by omega) (by omega), show Int.tdiv ((lo : Int) + (hi_ : Int)) 2 = (((lo + hi_) / 2 : Nat) : Int) from by rw [← Int.natCast_add]; rfl, w64 (by omega) (by omega)]
   obtain ⟨mid, hm⟩ : ∃ mid, mid = (lo + hi_) / 2 := ⟨_, rfl⟩
   rw [← hm] at hmid
   have hml : lo ≤ mid := by omega
   have hmh : mid < hi_ := by omega
   obtain ⟨b0, b1⟩ := rd_rows ho mid (by omega)
   obtain ⟨K, hK⟩ := ev_out (specCmp_ev (l.drop (out.getD mid 0).toNat) (l.drop i) (by rw [List.length_drop]; omega) (by rw [List.length_drop]; omega))
   by_cases c : sl l (out.getD mid 0) i
   ·have c' : Fv.cmpB (l.drop (out.getD mid 0).toNat) (l.drop i) < 0 := by have := c; unfold sl at this; rwa [Int.toNat_natCast] at this
    obtain ⟨p, q1, q2, q3, q4⟩ := ih (mid + 1) hi_ (by omega) (by omega) h3 (fun j hj hj' => by
     by_cases ej : j = mid
     ·rw [ej]; exact c
     ·exact sl_trans l _ _ _ (pw j mid (by omega) (by omega)) c) h5
    refine ⟨p, q1, q2, q3, fun r hr => ?_⟩
    obtain ⟨K2, hK2⟩ := ev_out (q4 r hr)
    refine ev_mk (K + K2 + 1) fun k hk => ?_
    obtain ⟨k, rfl⟩ : ∃ m, k = m + 1 := ⟨k - 1, by omega⟩
    rw [spec_SuffixRows.l1, if_pos (by omega), hmid, if_pos (by omega), if_pos (by omega), rd_nat, if_pos b0, if_pos b1, if_pos (by omega), if_pos (by omega), Int.toNat_natCast, hK k (by omega), Option.bind_some, if_pos c', w64 (by omega) (by omega)]
    exact hK2 k (by omega)
   ·have c' : ¬ Fv.cmpB (l.drop (out.getD mid 0).toNat) (l.drop i) < 0 := by have := c; unfold sl at this; rwa [Int.toNat_natCast] at this
    obtain ⟨p, q1, q2, q3, q4⟩ := ih lo mid (by omega) (by omega) (by omega) h4 (fun j hj hj' hh => by
     by_cases ej : j = mid
     ·rw [ej] at hh; exact c hh
     ·exact c (sl_trans l _ _ _ (pw mid j (by omega) (by omega)) hh))
    refine ⟨p, q1, q2, q3, fun r hr => ?_⟩
    obtain ⟨K2, hK2⟩ := ev_out (q4 r hr)
    refine ev_mk (K + K2 + 1) fun k hk => ?_
    obtain ⟨k, rfl⟩ : ∃ m, k = m + 1 := ⟨k - 1, by omega⟩
    rw [spec_SuffixRows.l1, if_pos (by omega), hmid, if_pos (by omega), if_pos (by omega), rd_nat, if_pos b0, if_pos b1, if_pos (by omega), if_pos (by omega), Int.toNat_natCast, hK k (by omega), Option.bind_some, if_neg c']
    exact hK2 k (by omega)
  ·obtain ⟨p, q1, q2, q3, q4⟩ := ih lo hi_ (by omega) h2 h3 h4 h5
   exact ⟨p, q1, q2, q3, q4⟩
def from_ (n d : Nat) : List Int := (upto n).filter fun x => decide ((d : Int) ≤ x)
theorem mem_from (n d : Nat) (x : Int) : x ∈ from_ n d ↔ (d : Int) ≤ x ∧ x ≤ n := by
 unfold from_
 rw [List.mem_filter, mem_upto, decide_eq_true_eq]
 omega
theorem from_nodup (n d : Nat) : (from_ n d).Nodup := (upto_nodup n).sublist List.filter_sublist
theorem from_cons (n d : Nat) (h : d ≤ n) : (from_ n d).Perm ((d : Int) :: from_ n (d + 1)) := by
 rw [List.perm_ext_iff_of_nodup (from_nodup _ _) (List.nodup_cons.2 ⟨fun h => by rw [mem_from] at h; omega, from_nodup _ _⟩)]
 intro x
 rw [List.mem_cons, mem_from, mem_from]
 omega
theorem from_zero (n : Nat) : (from_ n 0).Perm (upto n) := by
 rw [List.perm_ext_iff_of_nodup (from_nodup _ _) (upto_nodup _)]
 intro x
 rw [mem_from, mem_upto]
 omega
theorem from_top (n : Nat) : from_ n (n + 1) = [] := List.eq_nil_iff_forall_not_mem.2 fun x h => by rw [mem_from] at h; omega
theorem specRows_l0 (l : List Int) (hl : l.length ≤ 300) (d : Nat) : ∀ out : List Int, d ≤ l.length + 1 → out.Perm (from_ l.length d) → out.Pairwise (sl l) → Ev (fun k => spec_SuffixRows.l0 k l out ((d : Int) - 1)) (rowsOf l) := by
 induction d with
 | zero =>
  intro out _ hp hs
  refine Ev.step (f := fun _ => some _) (fun k => ?_) (Ev.now _)
  rw [spec_SuffixRows.l0, if_neg (by omega), rows_unique l out (hp.trans (from_zero _)) hs]
 | succ d ih =>
  intro out hd hp hs
  have hm : ∀ x ∈ out, 0 ≤ x ∧ x ≤ l.length := fun x hx => by have := (mem_from _ _ _).1 (hp.mem_iff.1 hx); omega
  have hn : (d : Int) ∉ out := fun h => by have := (mem_from _ _ _).1 (hp.mem_iff.1 h); omega
  have hlen : out.length ≤ 1000 := by
   have h1 := hp.length_eq
   have h2 : (from_ l.length (d + 1)).length ≤ (upto l.length).length := List.length_filter_le _ _
   have h3 : (upto l.length).length = l.length + 1 := by simp [upto]
   omega
  obtain ⟨p, q1, q2, q3, q4⟩ := specIns l out d hl (by omega) hm hlen hs out.length 0 out.length (by omega) (by omega) (by omega) (fun j hj => by omega) (fun j hj hj' => by omega)
  have hnew : (out.take p ++ (d : Int) :: out.drop p).Perm (from_ l.length d) := by
   refine List.perm_middle.trans ?_
   rw [List.take_append_drop]
   exact (hp.cons _).trans (from_cons _ _ (by omega)).symm
  have h := q4 _ (ih _ (by omega) hnew (ins_sorted l out d p (by omega) hm hn hs q2 q3))
  refine Ev.step (fun k => ?_) h
  rw [spec_SuffixRows.l0, if_pos (by omega), show ((d + 1 : Nat) : Int) - 1 = (d : Int) by omega]
  rfl
theorem specRows_ev (l : List Int) (hl : l.length ≤ 300) : Ev (fun k => spec_SuffixRows.f k l) (rowsOf l) := by
 have h := specRows_l0 l hl (l.length + 1) [] (by omega) (by rw [from_top]) List.Pairwise.nil
 refine Ev.congr (fun k => ?_) h
 unfold spec_SuffixRows.f spec_TextOk.f
 rw [Option.bind_some, decide_eq_true (by omega), if_pos rfl, show ((l.length + 1 : Nat) : Int) - 1 = (l.length : Int) by omega]
theorem implRows_l0 (l : List Int) (hl : l.length ≤ 300) (hb : bytesOk l) (d : Nat) : ∀ i : Nat, i + d = l.length + 1 → Ev (fun k => impl_suffixRows.l0 k ((List.range i).map fun (i : Nat) => (i : Int)) ((l.length : Int) + 1) (i : Int) l) (rowsOf l) := by
 induction d with
 | zero =>
  intro i h
  have e : i = l.length + 1 := by omega
  subst e
  refine Ev.step (f := fun _ => some _) (fun k => ?_) (Ev.now _)
  rw [impl_suffixRows.l0, if_neg (by omega), slices_SortFunc_66.f, if_pos ?_, Option.bind_some]
  ·rfl
  ·simp only [Bool.and_eq_true, List.all_eq_true, decide_eq_true_eq, Fv.isB]
   refine ⟨⟨hb, fun x hx => (mem_upto _ _).1 hx⟩, by simp; omega⟩
 | succ d ih =>
  intro i h
  refine Ev.step (fun k => ?_) (ih (i + 1) (by omega))
  rw [impl_suffixRows.l0, if_pos (by omega), if_pos (by simp; omega), w64 (by omega) (by omega), List.range_succ, List.map_append]
  rfl
theorem implRows_ev (l : List Int) (hl : l.length ≤ 300) (hb : bytesOk l) : Ev (fun k => impl_suffixRows.f k l) (rowsOf l) := by
 have h := implRows_l0 l hl hb (l.length + 1) 0 (by omega)
 refine Ev.congr (fun k => ?_) h
 unfold impl_suffixRows.f
 rw [w64 (by omega) (by omega)]
 rfl
theorem specLcp_l0 (l : List Int) (hl : l.length ≤ 300) (d : Nat) : ∀ i : Nat, i + d = (rowsOf l).length → Ev (fun k => spec_LcpRows.l0 k l ((lcpRows l).take i) (i : Int) (rowsOf l)) (lcpRows l) := by
 have hR := rowsOf_len l
 have hL := lcpRows_len l
 induction d with
 | zero =>
  intro i h
  refine Ev.step (f := fun _ => some _) (fun k => ?_) (Ev.now _)
  rw [spec_LcpRows.l0, if_neg (by omega), List.take_of_length_le (by omega)]
 | succ d ih =>
  intro i h
  have hat : (lcpRows l).getD i 0 = lcpAt l (rowsOf l) i := lcpL_at l (rowsOf l) i (by omega)
  by_cases c : i = 0
  ·subst c
   refine Ev.step (fun k => ?_) (ih 1 (by omega))
   rw [spec_LcpRows.l0, if_pos (by omega), if_pos (by omega), if_pos (by simp), w64 (by omega) (by omega), take_succ_getD _ 0 0 (by omega), hat]
   rfl
  ·obtain ⟨j, rfl⟩ : ∃ j, i = j + 1 := ⟨i - 1, by omega⟩
   obtain ⟨a0, a1⟩ := rowsOf_at l j (by omega)
   obtain ⟨b0, b1⟩ := rowsOf_at l (j + 1) (by omega)
   obtain ⟨K, hK⟩ := ev_out (specCommon_ev (l.drop ((rowsOf l).getD j 0).toNat) (l.drop ((rowsOf l).getD (j + 1) 0).toNat) (by rw [List.length_drop]; omega) (by rw [List.length_drop]; omega))
   obtain ⟨K2, hK2⟩ := ev_out (ih (j + 1 + 1) (by omega))
   refine ev_mk (K + K2 + 1) fun k hk => ?_
   obtain ⟨k, rfl⟩ : ∃ m, k = m + 1 := ⟨k - 1, by omega⟩
   rw [spec_LcpRows.l0, if_pos (by omega), if_neg (by omega), w64 (by omega) (by omega), show ((j + 1 : Nat) : Int) - 1 = (j : Int) by omega, if_pos (by omega), if_pos (by omega), rd_nat, rd_nat, if_pos a0, if_pos a1, if_pos (by omega), if_pos b0, if_pos b1,
    hK k (by omega), Option.bind_some, if_pos (by rw [List.length_take]; omega), w64 (by omega) (by omega)]
   rw [take_succ_getD _ 0 (j + 1) (by omega), hat] at hK2
   exact hK2 k (by omega)
theorem specLcp_ev (l : List Int) (hl : l.length ≤ 300) : Ev (fun k => spec_LcpRows.f k l) (lcpRows l) := by
 obtain ⟨K, hK⟩ := ev_out (specRows_ev l hl)
 obtain ⟨K2, hK2⟩ := ev_out (specLcp_l0 l hl (rowsOf l).length 0 (by omega))
 refine ev_mk (K + K2) fun k hk => ?_
 unfold spec_LcpRows.f
 rw [hK k (by omega), Option.bind_some]
 exact hK2 k (by omega)
theorem implLcp_l0 (l : List Int) (hl : l.length ≤ 300) (d : Nat) : ∀ i : Nat, 1 ≤ i → i + d = (rowsOf l).length → Ev (fun k => impl_lcpRows.l0 k l (i : Int) (rowsOf l) ((lcpRows l).take i ++ List.replicate d 0)) (lcpRows l) := by
 have hR := rowsOf_len l
 have hL := lcpRows_len l
 induction d with
 | zero =>
  intro i h1 h
  refine Ev.step (f := fun _ => some _) (fun k => ?_) (Ev.now _)
  rw [impl_lcpRows.l0, if_neg (by omega), List.take_of_length_le (by omega)]
  simp
 | succ d ih =>
  intro i h1 h
  have hat : (lcpRows l).getD i 0 = lcpAt l (rowsOf l) i := lcpL_at l (rowsOf l) i (by omega)
  obtain ⟨j, rfl⟩ : ∃ j, i = j + 1 := ⟨i - 1, by omega⟩
  obtain ⟨a0, a1⟩ := rowsOf_at l j (by omega)
  obtain ⟨b0, b1⟩ := rowsOf_at l (j + 1) (by omega)
  obtain ⟨K, hK⟩ := ev_out (implCommon_ev (l.drop ((rowsOf l).getD j 0).toNat) (l.drop ((rowsOf l).getD (j + 1) 0).toNat) (by rw [List.length_drop]; omega) (by rw [List.length_drop]; omega))
  obtain ⟨K2, hK2⟩ := ev_out (ih (j + 1 + 1) (by omega) (by omega))
  refine ev_mk (K + K2 + 1) fun k hk => ?_
  obtain ⟨k, rfl⟩ : ∃ m, k = m + 1 := ⟨k - 1, by omega⟩
  rw [impl_lcpRows.l0, if_pos (by omega), w64 (by omega) (by omega), show ((j + 1 : Nat) : Int) - 1 = (j : Int) by omega, if_pos (by omega), if_pos (by omega), rd_nat, rd_nat, if_pos a0, if_pos a1, if_pos (by omega), if_pos b0, if_pos b1,
   hK k (by omega), Option.bind_some, if_pos (by rw [fill_length _ 0 (j + 1) (d + 1) (by omega)]; omega), w64 (by omega) (by omega), Int.toNat_natCast, fill_set (lcpRows l) 0 _ (j + 1) d (by omega) (by rw [hat]; rfl)]
  exact hK2 k (by omega)
theorem implLcp_ev (l : List Int) (hl : l.length ≤ 300) (hb : bytesOk l) : Ev (fun k => impl_lcpRows.f k l) (lcpRows l) := by
 have hR := rowsOf_len l
 have hL := lcpRows_len l
 obtain ⟨K, hK⟩ := ev_out (implRows_ev l hl hb)
 obtain ⟨K2, hK2⟩ := ev_out (implLcp_l0 l hl l.length 1 (by omega) (by omega))
 refine ev_mk (K + K2) fun k hk => ?_
 unfold impl_lcpRows.f
 rw [hK k (by omega), Option.bind_some, if_pos (by omega), if_pos (by omega), Int.toNat_natCast, hR]
 have := hK2 k (by omega)
 rw [take_succ_getD _ 0 0 (by omega), lcpRows, lcpL_at l (rowsOf l) 0 (by omega)] at this
 exact this
theorem toByteS_l0 (l : List Int) (hl : l.length ≤ 4000000) (d : Nat) : ∀ i : Nat, i + d = l.length → Ev (fun k => laws_toByteS.l0 k l (i : Int) (l.take i ++ List.replicate d 0)) l := by
 induction d with
 | zero =>
  intro i h
  refine Ev.step (f := fun _ => some l) (fun k => ?_) (Ev.now l)
  rw [laws_toByteS.l0]
  rw [if_neg (by omega), List.take_of_length_le (by omega)]
  simp
 | succ d ih =>
  intro i h
  refine Ev.step (f := fun k => laws_toByteS.l0 k l ((i + 1 : Nat) : Int) (l.take (i + 1) ++ List.replicate d 0)) (fun k => ?_) (ih (i + 1) (by omega))
  rw [laws_toByteS.l0]
  rw [if_pos (by omega), if_pos (by omega), if_pos (by rw [fill_length l 0 i (d + 1) h]; omega), w64 (by omega) (by omega), rd_nat, Int.toNat_natCast, fill_set l 0 _ i d h rfl]
  rfl
theorem toByteS_ev (l : List Int) (hl : l.length ≤ 4000000) : Ev (fun k => laws_toByteS.f k l) l := by
 refine Ev.congr (f := fun k => laws_toByteS.l0 k l ((0 : Nat) : Int) (l.take 0 ++ List.replicate l.length 0)) (fun k => ?_) (toByteS_l0 l hl l.length 0 (by omega))
 unfold laws_toByteS.f
 rw [if_pos (by omega), Int.toNat_natCast, if_pos (by omega)]
 rfl
theorem eqByteS_l0 (l : List Int) (hl : l.length ≤ 4000000) (d : Nat) : ∀ i : Nat, i + d = l.length → Ev (fun k => laws_eqByteS.l0 k l l (i : Int)) true := by
 induction d with
 | zero =>
  intro i h
  refine Ev.step (f := fun _ => some true) (fun k => ?_) (Ev.now true)
  rw [laws_eqByteS.l0]
  rw [if_neg (by omega)]
 | succ d ih =>
  intro i h
  refine Ev.step (f := fun k => laws_eqByteS.l0 k l l ((i + 1 : Nat) : Int)) (fun k => ?_) (ih (i + 1) (by omega))
  rw [laws_eqByteS.l0]
  rw [if_pos (by omega), if_pos (by omega), if_pos (by omega), if_pos rfl, w64 (by omega) (by omega)]
  rfl
theorem eqByteS_ev (l : List Int) (hl : l.length ≤ 4000000) : Ev (fun k => laws_eqByteS.f k l l) true := by
 refine Ev.congr (f := fun k => laws_eqByteS.l0 k l l ((0 : Nat) : Int)) (fun k => ?_) (eqByteS_l0 l hl l.length 0 (by omega))
 unfold laws_eqByteS.f
 rw [if_pos rfl]
 rfl
def marksB (n : Nat) : List Int := (List.range n).map fun (j : Nat) => (1 + (j : Int)) % 256
theorem marksB_len (n : Nat) : (marksB n).length = n := by simp [marksB]
theorem marksB_get (n j : Nat) (h : j < n) : (marksB n).getD j 0 = (1 + (j : Int)) % 256 := by
 rw [lget_lt _ j 0 (by rw [marksB_len]; exact h)]
 simp [marksB]
theorem markB_l0 (l : List Int) (hl : l.length ≤ 4000000) (d : Nat) : ∀ i : Nat, i + d = l.length → Ev (fun k => laws_markByteS.l0 k ((marksB l.length).take i ++ l.drop i) (1 + (i : Int)) (i : Int)) (1 + (l.length : Int), marksB l.length) := by
 induction d with
 | zero =>
  intro i h
  obtain rfl : i = l.length := by omega
  refine Ev.step (f := fun _ => some _) (fun k => ?_) (Ev.now _)
  rw [laws_markByteS.l0, if_neg (by rw [over_len _ _ _ (marksB_len _) (by omega)]; omega), List.drop_length, List.append_nil, List.take_of_length_le (by rw [marksB_len]; omega)]
 | succ d ih =>
  intro i h
  refine Ev.step (f := fun k => laws_markByteS.l0 k ((marksB l.length).take (i + 1) ++ l.drop (i + 1)) (1 + ((i + 1 : Nat) : Int)) ((i + 1 : Nat) : Int)) (fun k => ?_) (ih (i + 1) (by omega))
  rw [laws_markByteS.l0, if_pos (by rw [over_len _ _ _ (marksB_len _) (by omega)]; omega), if_pos (by omega), w64 (by omega) (by omega), w64 (by omega) (by omega), Int.toNat_natCast, over_set (marksB l.length) l 0 _ i (marksB_len _) (by omega) (marksB_get _ _ (by omega)).symm]
  rfl
theorem markB_ev (l : List Int) (hl : l.length ≤ 4000000) : Ev (fun k => laws_markByteS.f k l 1) (1 + (l.length : Int), marksB l.length) :=
 Ev.congr (f := fun k => laws_markByteS.l0 k ((marksB l.length).take 0 ++ l.drop 0) (1 + ((0 : Nat) : Int)) ((0 : Nat) : Int)) (fun _ => rfl) (markB_l0 l hl l.length 0 (by omega))
def depthOf (L : List Int) (lo hi : Nat) : Int := ((L.take hi).drop (lo + 1)).foldl mn (L.getD (lo + 1) 0)
theorem specDepth_l0 (L : List Int) (hi : Nat) (hl : L.length ≤ 1000000) (hh : hi ≤ L.length) (d : Nat) : ∀ (i : Nat) (v : Int), i + d = hi → Ev (fun k => spec_l11Depth.l0 k L (hi : Int) v (i : Int)) (((L.take hi).drop i).foldl mn v) := by
 induction d with
 | zero =>
  intro i v h
  refine Ev.step (f := fun _ => some _) (fun k => ?_) (Ev.now _)
  rw [spec_l11Depth.l0, if_neg (by omega), List.drop_eq_nil_of_le (by rw [List.length_take]; omega)]
  rfl
 | succ d ih =>
  intro i v h
  rw [drop_at (L.take hi) i (by rw [List.length_take]; omega), List.foldl_cons]
  have e : (L.take hi).getD i 0 = L.getD i 0 := by
   rw [lget_lt _ i 0 (by rw [List.length_take]; omega), lget_lt L i 0 (by omega), List.getElem_take]
  rw [e]
  refine Ev.step (fun k => ?_) (ih (i + 1) _ (by omega))
  rw [spec_l11Depth.l0, if_pos (by omega), if_pos (by omega), if_pos (by omega), rd_nat, w64 (by omega) (by omega)]
  rfl
theorem specDepth_ev (L : List Int) (lo hi : Nat) (hl : L.length ≤ 1000000) (h1 : lo + 2 ≤ hi) (h2 : hi ≤ L.length) : Ev (fun k => spec_l11Depth.f k L (lo : Int) (hi : Int)) (depthOf L lo hi) := by
 refine Ev.congr (fun k => ?_) (specDepth_l0 L hi hl h2 (hi - (lo + 1)) (lo + 1) (L.getD (lo + 1) 0) (by omega))
 unfold spec_l11Depth.f
 rw [w64 (by omega) (by omega), if_pos (by omega), if_pos (by omega), show (lo : Int) + 1 = ((lo + 1 : Nat) : Int) by omega, rd_nat]
theorem implMin_l0 (S : List Int) (hl : S.length ≤ 1000000) (d : Nat) : ∀ (i : Nat) (v : Int), i + d = S.length → Ev (fun k => slices_Min_int_int.l0 k S v (i : Int)) ((S.drop i).foldl mn v) := by
 induction d with
 | zero =>
  intro i v h
  refine Ev.step (f := fun _ => some _) (fun k => ?_) (Ev.now _)
  rw [slices_Min_int_int.l0, if_neg (by omega), List.drop_eq_nil_of_le (by omega)]
  rfl
 | succ d ih =>
  intro i v h
  rw [drop_at S i (by omega), List.foldl_cons]
  refine Ev.step (fun k => ?_) (ih (i + 1) _ (by omega))
  rw [slices_Min_int_int.l0, if_pos (by omega), if_pos (by omega), rd_nat, w64 (by omega) (by omega)]
  rfl
theorem implMin_ev (L : List Int) (lo hi : Nat) (hl : L.length ≤ 1000000) (h1 : lo + 2 ≤ hi) (h2 : hi ≤ L.length) : Ev (fun k => slices_Min_int_int.f k ((L.take hi).drop (lo + 1))) (depthOf L lo hi) := by
 have hS : ((L.take hi).drop (lo + 1)).length = hi - (lo + 1) := by rw [List.length_drop, List.length_take]; omega
 have e0 : rd ((L.take hi).drop (lo + 1)) 0 = L.getD (lo + 1) 0 := by
  refine (rd_nat ((L.take hi).drop (lo + 1)) 0).trans ?_
  rw [lget_lt _ 0 0 (by omega), List.getElem_drop, List.getElem_take, lget_lt L (lo + 1) 0 (by omega)]
 have h := implMin_l0 ((L.take hi).drop (lo + 1)) (by omega) (hi - (lo + 1) - 1) 1 (L.getD (lo + 1) 0) (by omega)
 have e1 : (((L.take hi).drop (lo + 1)).drop 1).foldl mn (L.getD (lo + 1) 0) = depthOf L lo hi := by
  unfold depthOf
  conv => rhs; rw [drop_at (L.take hi) (lo + 1) (by rw [List.length_take]; omega), List.foldl_cons]
  rw [lget_lt (L.take hi) (lo + 1) 0 (by rw [List.length_take]; omega), List.getElem_take, lget_lt L (lo + 1) 0 (by omega), mn_self, List.drop_drop]
 rw [e1] at h
 refine Ev.congr (fun k => ?_) h
 unfold slices_Min_int_int.f
 rw [if_neg (by omega), if_pos (by omega), e0]
 rfl
def tailB (L : List Int) (lo hi d : Int) : Bool := if lo = 0 then (if hi = (L.length : Int) then true else decide (rd L hi < d)) else if rd L lo < d then (if hi = (L.length : Int) then true else decide (rd L hi < d)) else false
/-- Whether rows are a stretch. -/
def okS (L : List Int) (lo hi d : Int) : Bool := if 0 ≤ lo ∧ lo + 2 ≤ hi ∧ hi ≤ (L.length : Int) then (if d = depthOf L lo.toNat hi.toNat then tailB L lo hi d else false) else false
theorem specOkS_ev (L : List Int) (lo hi d : Int) (hl : L.length ≤ 1000000) : Ev (fun k => spec_l11Ok.f k L lo hi d) (okS L lo hi d) := by
 have no : okS L lo hi d = false → Ev (fun k => spec_l11Ok.j0 k L true lo hi d) (okS L lo hi d) := fun h => Ev.step (f := fun _ => some _) (fun k => by rw [spec_l11Ok.j0, if_pos rfl, h]) (Ev.now _)
 by_cases c1 : lo < 0
 ·refine Ev.congr (fun k => ?_) (no (by unfold okS; rw [if_neg (by omega)]))
  unfold spec_l11Ok.f
  rw [if_pos c1]
 by_cases c2 : lo > (L.length : Int)
 ·refine Ev.congr (fun k => ?_) (no (by unfold okS; rw [if_neg (by omega)]))
  unfold spec_l11Ok.f
  rw [if_neg c1, if_pos c2]
 by_cases c3 : hi > (L.length : Int)
 ·refine Ev.congr (fun k => ?_) (no (by unfold okS; rw [if_neg (by omega)]))
  unfold spec_l11Ok.f
  rw [if_neg c1, if_neg c2, if_pos c3]
 by_cases c4 : hi < lo + 2
 ·refine Ev.congr (fun k => ?_) (no (by unfold okS; rw [if_neg (by omega)]))
  unfold spec_l11Ok.f
  rw [if_neg c1, if_neg c2, if_neg c3, w64 (by omega) (by omega), if_pos c4]
 obtain ⟨lo, rfl⟩ := Int.eq_ofNat_of_zero_le (show 0 ≤ lo by omega)
 obtain ⟨hi, rfl⟩ := Int.eq_ofNat_of_zero_le (show 0 ≤ hi by omega)
 obtain ⟨K, hK⟩ := ev_out (specDepth_ev L lo hi hl (by omega) (by omega))
 have hok : okS L lo hi d = if d = depthOf L lo hi then tailB L lo hi d else false := by
  unfold okS
  rw [if_pos (by omega), Int.toNat_natCast, Int.toNat_natCast]
 have hj : Ev (fun k => spec_l11Ok.j0 k L (d != depthOf L lo hi) lo hi d) (okS L lo hi d) := by
  by_cases e : d = depthOf L lo hi
  ·refine Ev.step (f := fun _ => some _) (fun k => ?_) (Ev.now _)
   rw [hok, if_pos e, spec_l11Ok.j0, bne_eq_false_iff_eq.mpr e, if_neg (by decide)]
   unfold tailB
   by_cases e0 : (lo : Int) = 0
   ·rw [if_pos e0, if_pos e0]
    by_cases e1 : (hi : Int) = (L.length : Int)
    ·rw [if_pos e1, if_pos e1]
    ·rw [if_neg e1, if_neg e1, if_pos (by omega), if_pos (by omega)]
   ·rw [if_neg e0, if_neg e0, if_pos (by omega), if_pos (by omega)]
    by_cases e2 : rd L lo < d
    ·rw [if_pos e2, if_pos e2]
     by_cases e1 : (hi : Int) = (L.length : Int)
     ·rw [if_pos e1, if_pos e1]
     ·rw [if_neg e1, if_neg e1, if_pos (by omega), if_pos (by omega)]
    ·rw [if_neg e2, if_neg e2]
  ·refine Ev.step (f := fun _ => some _) (fun k => ?_) (Ev.now _)
   rw [hok, if_neg e, spec_l11Ok.j0, if_pos (bne_iff_ne.mpr e)]
 obtain ⟨K2, hK2⟩ := ev_out hj
 refine ev_mk (K + K2) fun k hk => ?_
 unfold spec_l11Ok.f
 rw [if_neg c1, if_neg c2, if_neg c3, w64 (by omega) (by omega), if_neg c4, hK k (by omega), Option.bind_some]
 exact hK2 k (by omega)
theorem isRange_eq (a b c : Int) : impl_isRange.f a b c = some (decide (0 ≤ a ∧ a ≤ b ∧ b ≤ c)) := by
 unfold impl_isRange.f
 by_cases h1 : 0 ≤ a
 ·by_cases h2 : a ≤ b
  ·rw [if_pos h1, if_pos h2]
   congr 1
   exact decide_eq_decide.2 ⟨fun h => ⟨h1, h2, h⟩, fun h => h.2.2⟩
  ·rw [if_pos h1, if_neg h2, decide_eq_false (fun h => h2 h.2.1)]
 ·rw [if_neg h1, decide_eq_false (fun h => h1 h.1)]
theorem implOkS_ev (L : List Int) (lo hi d : Int) (hl : L.length ≤ 1000000) : Ev (fun k => impl_isStretch.f k L lo hi d) (okS L lo hi d) := by
 have no : okS L lo hi d = false → Ev (fun k => impl_isStretch.j0 k L true lo hi d) (okS L lo hi d) := fun h => Ev.step (f := fun _ => some _) (fun k => by rw [impl_isStretch.j0, if_pos rfl, h]) (Ev.now _)
 by_cases c : 0 ≤ lo ∧ lo ≤ hi ∧ hi ≤ (L.length : Int)
 ·obtain ⟨c1, c2, c3⟩ := c
  obtain ⟨lo, rfl⟩ := Int.eq_ofNat_of_zero_le c1
  obtain ⟨hi, rfl⟩ := Int.eq_ofNat_of_zero_le (show 0 ≤ hi by omega)
  by_cases c4 : (hi : Int) - lo < 2
  ·refine Ev.congr (fun k => ?_) (no (by unfold okS; rw [if_neg (by omega)]))
   unfold impl_isStretch.f
   rw [isRange_eq, Option.bind_some, decide_eq_true ⟨c1, c2, c3⟩, if_pos rfl, w64 (by omega) (by omega), if_pos c4]
  obtain ⟨K, hK⟩ := ev_out (implMin_ev L lo hi hl (by omega) (by omega))
  have hok : okS L lo hi d = if d = depthOf L lo hi then tailB L lo hi d else false := by
   unfold okS
   rw [if_pos (by omega), Int.toNat_natCast, Int.toNat_natCast]
  have hj : Ev (fun k => impl_isStretch.j0 k L (depthOf L lo hi != d) lo hi d) (okS L lo hi d) := by
   by_cases e : d = depthOf L lo hi
   ·refine Ev.step (f := fun _ => some _) (fun k => ?_) (Ev.now _)
    rw [hok, if_pos e, impl_isStretch.j0, bne_eq_false_iff_eq.mpr e.symm, if_neg (by decide)]
    unfold tailB
    by_cases e0 : (lo : Int) = 0
    ·rw [if_pos e0, if_pos e0]
     by_cases e1 : (hi : Int) = (L.length : Int)
     ·rw [if_pos e1, if_pos e1]
     ·rw [if_neg e1, if_neg e1, if_pos (by omega), if_pos (by omega)]
    ·rw [if_neg e0, if_neg e0, if_pos (by omega), if_pos (by omega)]
     by_cases e2 : rd L lo < d
     ·rw [if_pos e2, if_pos e2]
      by_cases e1 : (hi : Int) = (L.length : Int)
      ·rw [if_pos e1, if_pos e1]
      ·rw [if_neg e1, if_neg e1, if_pos (by omega), if_pos (by omega)]
     ·rw [if_neg e2, if_neg e2]
   ·refine Ev.step (f := fun _ => some _) (fun k => ?_) (Ev.now _)
    rw [hok, if_neg e, impl_isStretch.j0, if_pos (bne_iff_ne.mpr (Ne.symm e))]
  obtain ⟨K2, hK2⟩ := ev_out hj
  refine ev_mk (K + K2) fun k hk => ?_
  unfold impl_isStretch.f
  rw [isRange_eq, Option.bind_some, decide_eq_true ⟨c1, c2, c3⟩, if_pos rfl, w64 (by omega) (by omega), if_neg c4, w64 (by omega) (by omega), if_pos (by omega), if_pos (by omega), if_pos c3, Int.toNat_natCast, show ((lo : Int) + 1).toNat = lo + 1 by omega,
   hK k (by omega), Option.bind_some]
  exact hK2 k (by omega)
 ·refine Ev.congr (fun k => ?_) (no (by unfold okS; rw [if_neg (by omega)]))
  unfold impl_isStretch.f
  rw [isRange_eq, Option.bind_some, decide_eq_false c, if_neg (by decide)]
def stretchB (l : List Int) (lo hi d : Int) : Bool := if l.length ≤ 300 then okS (lcpRows l) lo hi d else false
theorem specStretchOk_ev (l : List Int) (lo hi d : Int) : Ev (fun k => spec_StretchOk.f k l lo hi d) (stretchB l lo hi d) := by
 unfold spec_StretchOk.f spec_TextOk.f stretchB
 by_cases c : l.length ≤ 300
 ·obtain ⟨K, hK⟩ := ev_out (specLcp_ev l c)
  obtain ⟨K2, hK2⟩ := ev_out (specOkS_ev (lcpRows l) lo hi d (by rw [lcpRows_len]; omega))
  refine ev_mk (K + K2) fun k hk => ?_
  rw [Option.bind_some, decide_eq_true (by omega), if_pos rfl, hK k (by omega), Option.bind_some, hK2 k (by omega), Option.bind_some, if_pos c]
 ·refine ev_mk 0 fun k _ => ?_
  rw [Option.bind_some, decide_eq_false (by omega), if_neg (by decide), if_neg c]
theorem implStretchOk_ev (l : List Int) (lo hi d : Int) (hb : bytesOk l) : Ev (fun k => impl_StretchOk.f k l lo hi d) (stretchB l lo hi d) := by
 unfold impl_StretchOk.f impl_TextOk.f stretchB
 by_cases c : l.length ≤ 300
 ·obtain ⟨K, hK⟩ := ev_out (implLcp_ev l c hb)
  obtain ⟨K2, hK2⟩ := ev_out (implOkS_ev (lcpRows l) lo hi d (by rw [lcpRows_len]; omega))
  refine ev_mk (K + K2) fun k hk => ?_
  rw [Option.bind_some, decide_eq_true (by omega), if_pos rfl, hK k (by omega), Option.bind_some, hK2 k (by omega), Option.bind_some, if_pos c]
 ·refine ev_mk 0 fun k _ => ?_
  rw [Option.bind_some, decide_eq_false (by omega), if_neg (by decide), if_neg c]
def IsMin (L : List Int) (lo hi : Nat) (d : Int) : Prop := (∀ j, lo < j → j < hi → d ≤ L.getD j 0) ∧ ∃ j, lo < j ∧ j < hi ∧ L.getD j 0 = d
def OKs (L : List Int) (s : S27) : Prop := ∃ lo hi : Nat, s.f0 = (lo : Int) ∧ s.f1 = (hi : Int) ∧ lo + 2 ≤ hi ∧ hi ≤ L.length ∧ IsMin L lo hi s.f2 ∧ (lo = 0 ∨ L.getD lo 0 < s.f2) ∧ (hi = L.length ∨ L.getD hi 0 < s.f2)
def lt27 (a b : S27) : Prop := a.f0 < b.f0 ∨ (a.f0 = b.f0 ∧ b.f1 < a.f1)
theorem lt27_irrefl (a : S27) : ¬ lt27 a a := by unfold lt27; omega
theorem lt27_trans (a b c : S27) (h1 : lt27 a b) (h2 : lt27 b c) : lt27 a c := by unfold lt27 at *; omega
theorem IsMin.uniq {L : List Int} {lo hi : Nat} {d e : Int} (h1 : IsMin L lo hi d) (h2 : IsMin L lo hi e) : d = e := by
 obtain ⟨a1, j, b1, b2, b3⟩ := h1
 obtain ⟨a2, k, c1, c2, c3⟩ := h2
 have := a1 k c1 c2
 have := a2 j b1 b2
 omega
theorem ext27 {a b : S27} (h0 : a.f0 = b.f0) (h1 : a.f1 = b.f1) (h2 : a.f2 = b.f2) : a = b := by
 cases a; cases b
 simp only at h0 h1 h2
 rw [h0, h1, h2]
theorem OKs.uniq {L : List Int} {a b : S27} (ha : OKs L a) (hb : OKs L b) (h0 : a.f0 = b.f0) (h1 : a.f1 = b.f1) : a = b := by
 obtain ⟨lo, hi, e1, e2, _, _, m1, _⟩ := ha
 obtain ⟨lo', hi', e3, e4, _, _, m2, _⟩ := hb
 obtain rfl : lo = lo' := by omega
 obtain rfl : hi = hi' := by omega
 exact ext27 h0 h1 (m1.uniq m2)
theorem uniq_sorted {L : List Int} {xs ys : List S27} (hx : xs.Pairwise lt27) (hy : ys.Pairwise lt27) (mx : ∀ s, s ∈ xs ↔ OKs L s) (my : ∀ s, s ∈ ys ↔ OKs L s) : xs = ys := by
 have nd : ∀ {zs : List S27}, zs.Pairwise lt27 → zs.Nodup := fun h => h.imp (fun {a b} h (e : a = b) => lt27_irrefl a (by rw [← e] at h; exact h))
 exact strict_unique lt27 lt27_irrefl lt27_trans xs ys ((List.perm_ext_iff_of_nodup (nd hx) (nd hy)).2 (fun s => (mx s).trans (my s).symm)) hx hy
def spR (L : List Int) (lo : Nat) : Nat → Nat → Int → List S27 → List S27
 | 0, _, _, found => found
 | f + 1, hi, d, found =>
  if 0 < lo ∧ mn d (L.getD (hi - 1) 0) ≤ L.getD lo 0 then found
  else if hi = L.length ∨ L.getD hi 0 < mn d (L.getD (hi - 1) 0) then spR L lo f (hi + 1) (mn d (L.getD (hi - 1) 0)) ((⟨(lo : Int), (hi : Int), mn d (L.getD (hi - 1) 0)⟩ : S27) :: found)
  else spR L lo f (hi + 1) (mn d (L.getD (hi - 1) 0)) found
theorem spR_len (L : List Int) (lo : Nat) : ∀ f hi d found, (spR L lo f hi d found).length ≤ found.length + f
 | 0, _, _, _ => Nat.le_refl _
 | f + 1, hi, d, found => by
  rw [spR]
  split
  ·omega
  ·split
   ·have := spR_len L lo f (hi + 1) (mn d (L.getD (hi - 1) 0)) ((⟨(lo : Int), (hi : Int), mn d (L.getD (hi - 1) 0)⟩ : S27) :: found)
    simp only [List.length_cons] at this
    omega
   ·have := spR_len L lo f (hi + 1) (mn d (L.getD (hi - 1) 0)) found
    omega
structure SInv (L : List Int) (lo hi : Nat) (found : List S27) : Prop where
 sorted : found.Pairwise lt27
 mem : ∀ s, s ∈ found ↔ OKs L s ∧ s.f0 = (lo : Int) ∧ s.f1 < (hi : Int)
theorem spR_ok (L : List Int) (h3 : ∀ x ∈ L, x ≤ 300) (lo : Nat) : ∀ f hi d found, lo + 2 ≤ hi → hi + f = L.length + 1 → ((hi = lo + 2 ∧ d = 301) ∨ IsMin L lo (hi - 1) d) → SInv L lo hi found →
  SInv L lo (L.length + 1) (spR L lo f hi d found)
 | 0, hi, d, found, h1, h2, hm, hI => by
  obtain rfl : hi = L.length + 1 := by omega
  exact hI
 | f + 1, hi, d, found, h1, h2, hm, hI => by
  have hlt : hi - 1 < L.length := by omega
  have hle : L.getD (hi - 1) 0 ≤ 300 := by rw [lget_lt _ _ _ hlt]; exact h3 _ (List.getElem_mem hlt)
  have hmin : IsMin L lo hi (mn d (L.getD (hi - 1) 0)) := by
   rcases hm with ⟨ea, eb⟩ | hm
   ·have e : mn d (L.getD (hi - 1) 0) = L.getD (hi - 1) 0 := by unfold mn; split <;> omega
    rw [e]
    refine ⟨fun j a b => ?_, hi - 1, by omega, by omega, rfl⟩
    obtain rfl : j = hi - 1 := by omega
    exact Int.le_refl _
   ·obtain ⟨a1, j, b1, b2, b3⟩ := hm
    refine ⟨fun i c1 c2 => ?_, ?_⟩
    ·by_cases e : i = hi - 1
     ·rw [e]; unfold mn; split <;> omega
     ·have := a1 i c1 (by omega)
      unfold mn; split <;> omega
    ·by_cases c : L.getD (hi - 1) 0 < d
     ·exact ⟨hi - 1, by omega, by omega, by unfold mn; rw [if_pos c]⟩
     ·exact ⟨j, b1, by omega, by unfold mn; rw [if_neg c]; exact b3⟩
  rw [spR]
  generalize mn d (L.getD (hi - 1) 0) = e at hmin
  by_cases cb : 0 < lo ∧ e ≤ L.getD lo 0
  ·rw [if_pos cb]
   refine ⟨hI.sorted, fun s => ⟨fun hs => ?_, fun ⟨ho, e0, e1⟩ => ?_⟩⟩
   ·obtain ⟨a, b, c⟩ := (hI.mem s).1 hs
    exact ⟨a, b, by omega⟩
   ·refine (hI.mem s).2 ⟨ho, e0, ?_⟩
    obtain ⟨lo', hi', x0, x1, x2, x3, x4, x5, x6⟩ := ho
    obtain rfl : lo' = lo := by omega
    by_cases c : hi' < hi
    ·omega
    ·exfalso
     obtain ⟨_, j, b1, b2, b3⟩ := hmin
     have := x4.1 j b1 (by omega)
     omega
  ·rw [if_neg cb]
   have hlo : lo = 0 ∨ L.getD lo 0 < e := by omega
   by_cases ck : hi = L.length ∨ L.getD hi 0 < e
   ·rw [if_pos ck]
    have hok : OKs L (⟨(lo : Int), (hi : Int), e⟩ : S27) := ⟨lo, hi, rfl, rfl, h1, by omega, hmin, hlo, ck⟩
    refine spR_ok L h3 lo f (hi + 1) e _ (by omega) (by omega) (.inr hmin) ⟨List.pairwise_cons.2 ⟨fun s hs => ?_, hI.sorted⟩, fun s => ?_⟩
    ·obtain ⟨a, b, c⟩ := (hI.mem s).1 hs
     refine .inr ⟨?_, ?_⟩
     ·show (lo : Int) = s.f0
      omega
     ·show s.f1 < (hi : Int)
      exact c
    ·rw [List.mem_cons]
     refine ⟨fun h => ?_, fun ⟨ho, e0, e1⟩ => ?_⟩
     ·rcases h with rfl | h
      ·exact ⟨hok, rfl, by show (hi : Int) < _; omega⟩
      ·obtain ⟨a, b, c⟩ := (hI.mem s).1 h
       exact ⟨a, b, by omega⟩
     ·by_cases c : s.f1 < (hi : Int)
      ·exact .inr ((hI.mem s).2 ⟨ho, e0, c⟩)
      ·exact .inl (ho.uniq hok e0 (by show s.f1 = (hi : Int); omega))
   ·rw [if_neg ck]
    refine spR_ok L h3 lo f (hi + 1) e _ (by omega) (by omega) (.inr hmin) ⟨hI.sorted, fun s => ⟨fun hs => ?_, fun ⟨ho, e0, e1⟩ => ?_⟩⟩
    ·obtain ⟨a, b, c⟩ := (hI.mem s).1 hs
     exact ⟨a, b, by omega⟩
    ·refine (hI.mem s).2 ⟨ho, e0, ?_⟩
     obtain ⟨lo', hi', x0, x1, x2, x3, x4, x5, x6⟩ := ho
     obtain rfl : lo' = lo := by omega
     by_cases c : hi' < hi
     ·omega
     ·exfalso
      obtain rfl : hi' = hi := by omega
      have := x4.uniq hmin
      rw [this] at x6
      exact ck x6
def rowS (L : List Int) (lo : Nat) : List S27 := spR L lo (L.length - 1 - lo) (lo + 2) 301 []
def allS (L : List Int) (n : Nat) : List S27 := (List.range n).flatMap (rowS L)
theorem rowS_ok (L : List Int) (h3 : ∀ x ∈ L, x ≤ 300) (lo : Nat) (h : lo < L.length) : SInv L lo (L.length + 1) (rowS L lo) := by
 refine spR_ok L h3 lo _ (lo + 2) 301 [] (by omega) (by omega) (.inl ⟨rfl, rfl⟩) ⟨List.Pairwise.nil, fun s => ⟨fun h => (by cases h), fun ⟨⟨lo', hi', x0, x1, x2, _⟩, e0, e1⟩ => by exfalso; omega⟩⟩
theorem allS_len (L : List Int) (n : Nat) : (allS L n).length ≤ n * L.length := by
 unfold allS
 induction n with
 | zero => simp
 | succ n ih =>
  rw [List.range_succ, List.flatMap_append, List.length_append, List.flatMap_singleton, Nat.succ_mul]
  have : (rowS L n).length ≤ L.length := by
   unfold rowS
   have := spR_len L n (L.length - 1 - n) (n + 2) 301 []
   simp only [List.length_nil] at this
   omega
  omega
theorem allS_succ (L : List Int) (n : Nat) : allS L (n + 1) = allS L n ++ rowS L n := by
 unfold allS
 rw [List.range_succ, List.flatMap_append, List.flatMap_singleton]
theorem allS_mem (L : List Int) (h3 : ∀ x ∈ L, x ≤ 300) (s : S27) : s ∈ allS L L.length ↔ OKs L s := by
 unfold allS
 rw [List.mem_flatMap]
 constructor
 ·rintro ⟨lo, h, hs⟩
  exact (((rowS_ok L h3 lo (List.mem_range.1 h)).mem s).1 hs).1
 ·intro h
  obtain ⟨lo, hi, x0, x1, x2, x3, x4⟩ := id h
  exact ⟨lo, List.mem_range.2 (by omega), ((rowS_ok L h3 lo (by omega)).mem s).2 ⟨h, x0, by omega⟩⟩
theorem allS_sorted (L : List Int) (h3 : ∀ x ∈ L, x ≤ 300) : (allS L L.length).Pairwise lt27 := by
 unfold allS
 rw [List.pairwise_flatMap]
 refine ⟨fun lo h => (rowS_ok L h3 lo (List.mem_range.1 h)).sorted, ?_⟩
 refine List.pairwise_lt_range.imp_of_mem (fun {a b} ha hb hab x hx y hy => .inl ?_)
 have h1 := (((rowS_ok L h3 a (List.mem_range.1 ha)).mem x).1 hx).2.1
 have h2 := (((rowS_ok L h3 b (List.mem_range.1 hb)).mem y).1 hy).2.1
 omega
theorem specAll_l1 (L : List Int) (hl : L.length ≤ 1000) (h0 : ∀ x ∈ L, 0 ≤ x) (lo : Nat) (hlo : lo < L.length) (acc r : List S27) (hacc : acc.length ≤ 2000000) : ∀ f hi (d : Int) found, lo + 2 ≤ hi → hi + f = L.length + 1 → found.length ≤ hi →
  Ev (fun k => spec_l11All.l0 k L (acc ++ spR L lo f hi d found) ((lo + 1 : Nat) : Int)) r → Ev (fun k => spec_l11All.l1 k L acc (lo : Int) found d (hi : Int)) r
 | 0, hi, d, found, h1, h2, hf, h => by
  obtain ⟨K, hK⟩ := ev_out h
  refine ev_mk (K + 2) fun k hk => ?_
  obtain ⟨k, rfl⟩ : ∃ m, k = m + 2 := ⟨k - 2, by omega⟩
  rw [spec_l11All.l1, if_neg (by omega), spec_l11All.j2, if_neg (by decide), if_pos (by omega), w64 (by omega) (by omega)]
  exact hK k (by omega)
 | f + 1, hi, d, found, h1, h2, hf, h => by
  have e1 : wrap64 ((hi : Int) - 1) = ((hi - 1 : Nat) : Int) := by rw [w64 (by omega) (by omega)]; omega
  have e2 : wrap64 ((hi : Int) + 1) = ((hi + 1 : Nat) : Int) := w64 (by omega) (by omega)
  have e3 : wrap64 ((lo : Int) + 1) = ((lo + 1 : Nat) : Int) := w64 (by omega) (by omega)
  have hnn : 0 ≤ L.getD (hi - 1) 0 := by rw [lget_lt _ _ _ (show hi - 1 < L.length by omega)]; exact h0 _ (List.getElem_mem _)
  have ha : ∀ k, spec_l11All.l1 (k + 1) L acc (lo : Int) found d (hi : Int) = spec_l11All.j2 k L acc (lo : Int) found d (hi : Int) true := fun k => by
   rw [spec_l11All.l1, if_pos (by omega), e1, if_pos (by omega), if_pos (by omega), rd_nat, decide_eq_true hnn]
  rw [spR] at h
  have hj : ∀ k, spec_l11All.j2 (k + 1) L acc (lo : Int) found d (hi : Int) true = spec_l11All.j3 k L acc (lo : Int) found (mn d (L.getD (hi - 1) 0)) (hi : Int) (decide (0 < lo ∧ mn d (L.getD (hi - 1) 0) ≤ L.getD lo 0)) := fun k => by
   rw [spec_l11All.j2, if_pos rfl, e1, if_pos (by omega), if_pos (by omega), rd_nat]
   by_cases c : 0 < lo
   ·rw [if_pos (by omega), if_pos (by omega), if_pos (by omega), rd_nat]
    congr 1
    by_cases c2 : mn d (L.getD (hi - 1) 0) ≤ L.getD lo 0
    ·rw [decide_eq_true c2, decide_eq_true ⟨c, c2⟩]
    ·rw [decide_eq_false c2, decide_eq_false (fun h => c2 h.2)]
   ·rw [if_neg (by omega), decide_eq_false (fun h => c h.1)]
  generalize mn d (L.getD (hi - 1) 0) = e at h hj
  by_cases cb : 0 < lo ∧ e ≤ L.getD lo 0
  ·rw [if_pos cb] at h
   obtain ⟨K, hK⟩ := ev_out h
   refine ev_mk (K + 3) fun k hk => ?_
   obtain ⟨k, rfl⟩ : ∃ m, k = m + 3 := ⟨k - 3, by omega⟩
   rw [ha, hj, decide_eq_true cb, spec_l11All.j3, if_pos rfl, if_pos (by omega), e3]
   exact hK k (by omega)
  ·rw [if_neg cb] at h
   by_cases ck : hi = L.length ∨ L.getD hi 0 < e
   ·rw [if_pos ck] at h
    obtain ⟨K, hK⟩ := ev_out (specAll_l1 L hl h0 lo hlo acc r hacc f (hi + 1) e ((⟨(lo : Int), (hi : Int), e⟩ : S27) :: found) (by omega) (by omega) (by simp; omega) h)
    refine ev_mk (K + 3) fun k hk => ?_
    obtain ⟨k, rfl⟩ : ∃ m, k = m + 3 := ⟨k - 3, by omega⟩
    rw [ha, hj, decide_eq_false cb, spec_l11All.j3, if_neg (by decide)]
    by_cases c1 : hi = L.length
    ·rw [if_pos (by omega), Option.bind_some, if_pos (by simp; omega), e2]
     exact hK k (by omega)
    ·rw [if_neg (by omega), if_pos (by omega), if_pos (by omega), rd_nat, if_pos (by omega), Option.bind_some, if_pos (by simp; omega), e2]
     exact hK k (by omega)
   ·rw [if_neg ck] at h
    obtain ⟨K, hK⟩ := ev_out (specAll_l1 L hl h0 lo hlo acc r hacc f (hi + 1) e found (by omega) (by omega) (by omega) h)
    refine ev_mk (K + 3) fun k hk => ?_
    obtain ⟨k, rfl⟩ : ∃ m, k = m + 3 := ⟨k - 3, by omega⟩
    rw [ha, hj, decide_eq_false cb, spec_l11All.j3, if_neg (by decide), if_neg (by omega), if_pos (by omega), if_pos (by omega), rd_nat, if_neg (by omega), e2]
    exact hK k (by omega)
theorem specAll_l0 (L : List Int) (hl : L.length ≤ 1000) (h0 : ∀ x ∈ L, 0 ≤ x) (d : Nat) : ∀ lo : Nat, lo + d = L.length → Ev (fun k => spec_l11All.l0 k L (allS L lo) (lo : Int)) (allS L L.length) := by
 induction d with
 | zero =>
  intro lo h
  obtain rfl : lo = L.length := by omega
  refine Ev.step (f := fun _ => some _) (fun k => ?_) (Ev.now _)
  rw [spec_l11All.l0, if_neg (by omega)]
 | succ d ih =>
  intro lo h
  have h' := ih (lo + 1) (by omega)
  rw [allS_succ] at h'
  have hlen : (allS L lo).length ≤ 2000000 := Nat.le_trans (allS_len L lo) (Nat.le_trans (Nat.mul_le_mul (show lo ≤ 1000 by omega) hl) (by decide))
  refine Ev.step (fun k => ?_) (specAll_l1 L hl h0 lo (by omega) (allS L lo) _ hlen (L.length - 1 - lo) (lo + 2) 301 [] (by omega) (by omega) (by simp) h')
  rw [spec_l11All.l0, if_pos (by omega), w64 (by omega) (by omega)]
  rfl
theorem specAll_ev (L : List Int) (hl : L.length ≤ 1000) (h0 : ∀ x ∈ L, 0 ≤ x) : Ev (fun k => spec_l11All.f k L) (allS L L.length) :=
 Ev.congr (f := fun k => spec_l11All.l0 k L (allS L 0) ((0 : Nat) : Int)) (fun _ => rfl) (specAll_l0 L hl h0 L.length 0 (by omega))
def loL (L : List Int) (d : Int) : Nat → Nat
 | 0 => 0
 | m + 1 => if d ≤ L.getD (m + 1) 0 then loL L d m else m + 1
def hiL (L : List Int) (d : Int) : Nat → Nat → Nat
 | 0, hi => hi
 | f + 1, hi => if d ≤ L.getD hi 0 then hiL L d f (hi + 1) else hi
theorem loL_ok (L : List Int) (d : Int) : ∀ m, loL L d m ≤ m ∧ (loL L d m = 0 ∨ L.getD (loL L d m) 0 < d) ∧ ∀ j, loL L d m < j → j ≤ m → d ≤ L.getD j 0
 | 0 => ⟨Nat.le_refl _, .inl rfl, fun j h1 h2 => by omega⟩
 | m + 1 => by
  rw [loL]
  by_cases c : d ≤ L.getD (m + 1) 0
  ·rw [if_pos c]
   obtain ⟨a, b, e⟩ := loL_ok L d m
   refine ⟨by omega, b, fun j h1 h2 => ?_⟩
   by_cases q : j = m + 1
   ·rw [q]; exact c
   ·exact e j h1 (by omega)
  ·rw [if_neg c]
   exact ⟨Nat.le_refl _, .inr (by omega), fun j h1 h2 => by omega⟩
theorem hiL_ok (L : List Int) (d : Int) : ∀ f hi, hi + f = L.length → hi ≤ hiL L d f hi ∧ hiL L d f hi ≤ L.length ∧ (hiL L d f hi = L.length ∨ L.getD (hiL L d f hi) 0 < d) ∧ ∀ j, hi ≤ j → j < hiL L d f hi → d ≤ L.getD j 0
 | 0, hi, h => ⟨Nat.le_refl _, by show hi ≤ _; omega, .inl (by show hi = _; omega), fun j h1 h2 => by have h2 : j < hi := h2; omega⟩
 | f + 1, hi, h => by
  rw [hiL]
  by_cases c : d ≤ L.getD hi 0
  ·rw [if_pos c]
   obtain ⟨a, b, e, g⟩ := hiL_ok L d f (hi + 1) (by omega)
   refine ⟨by omega, b, e, fun j h1 h2 => ?_⟩
   by_cases q : j = hi
   ·rw [q]; exact c
   ·exact g j (by omega) h2
  ·rw [if_neg c]
   exact ⟨Nat.le_refl _, by omega, .inr (by omega), fun j h1 h2 => by omega⟩
def sOf (L : List Int) (j : Nat) : S27 := ⟨(loL L (L.getD j 0) (j - 1) : Int), (hiL L (L.getD j 0) (L.length - (j + 1)) (j + 1) : Int), L.getD j 0⟩
theorem sOf_ok (L : List Int) (j : Nat) (h1 : 1 ≤ j) (h2 : j < L.length) : OKs L (sOf L j) := by
 obtain ⟨a1, a2, a3⟩ := loL_ok L (L.getD j 0) (j - 1)
 obtain ⟨b1, b2, b3, b4⟩ := hiL_ok L (L.getD j 0) (L.length - (j + 1)) (j + 1) (by omega)
 refine ⟨loL L (L.getD j 0) (j - 1), hiL L (L.getD j 0) (L.length - (j + 1)) (j + 1), rfl, rfl, by omega, b2, ⟨fun i c1 c2 => ?_, j, by omega, by omega, rfl⟩, a2, b3⟩
 show L.getD j 0 ≤ L.getD i 0
 by_cases q : i = j
 ·rw [q]; exact Int.le_refl _
 ·by_cases q2 : i < j
  ·exact a3 i c1 (by omega)
  ·exact b4 i (by omega) c2
theorem ok_sOf (L : List Int) (s : S27) (h : OKs L s) : ∃ j, 1 ≤ j ∧ j < L.length ∧ s = sOf L j := by
 obtain ⟨lo, hi, x0, x1, x2, x3, ⟨x4, j, y1, y2, y3⟩, x5, x6⟩ := id h
 refine ⟨j, by omega, by omega, h.uniq (sOf_ok L j (by omega) (by omega)) ?_ ?_⟩
 ·obtain ⟨a1, a2, a3⟩ := loL_ok L (L.getD j 0) (j - 1)
  show s.f0 = ((loL L (L.getD j 0) (j - 1) : Nat) : Int)
  rw [x0]
  by_cases c : loL L (L.getD j 0) (j - 1) < lo
  ·have := a3 lo c (by omega)
   omega
  ·by_cases c2 : lo < loL L (L.getD j 0) (j - 1)
   ·have := x4 _ c2 (by omega)
    omega
   ·omega
 ·obtain ⟨b1, b2, b3, b4⟩ := hiL_ok L (L.getD j 0) (L.length - (j + 1)) (j + 1) (by omega)
  show s.f1 = ((hiL L (L.getD j 0) (L.length - (j + 1)) (j + 1) : Nat) : Int)
  rw [x1]
  by_cases c : hiL L (L.getD j 0) (L.length - (j + 1)) (j + 1) < hi
  ·have := x4 _ (show lo < hiL L (L.getD j 0) (L.length - (j + 1)) (j + 1) by omega) c
   omega
  ·by_cases c2 : hi < hiL L (L.getD j 0) (L.length - (j + 1)) (j + 1)
   ·have := b4 hi (by omega) c2
    omega
   ·omega
def sts (L : List Int) (n : Nat) : List S27 := (List.range (n - 1)).map fun i => sOf L (i + 1)
theorem sts_mem (L : List Int) (s : S27) : s ∈ sts L L.length ↔ OKs L s := by
 unfold sts
 rw [List.mem_map]
 constructor
 ·rintro ⟨i, hi, rfl⟩
  rw [List.mem_range] at hi
  exact sOf_ok L (i + 1) (by omega) (by omega)
 ·intro h
  obtain ⟨j, h1, h2, e⟩ := ok_sOf L s h
  exact ⟨j - 1, List.mem_range.2 (by omega), by rw [e, Nat.sub_add_cancel h1]⟩
theorem implSt_l1 (L : List Int) (hl : L.length ≤ 1000) (acc : List S27) (kk : Int) (hi : Nat) (d : Int) (r : List S27) : ∀ lo : Nat, lo < L.length → Ev (fun k => impl_stretches.j2 k L acc kk ((loL L d lo : Nat) : Int) (hi : Int) d) r →
  Ev (fun k => impl_stretches.l1 k acc kk L (lo : Int) (hi : Int) d) r
 | 0, h, hev => by
  refine Ev.step (fun k => ?_) hev
  rw [impl_stretches.l1, if_neg (by omega)]
  rfl
 | lo + 1, h, hev => by
  rw [loL] at hev
  by_cases c : d ≤ L.getD (lo + 1) 0
  ·rw [if_pos c] at hev
   refine Ev.step (fun k => ?_) (implSt_l1 L hl acc kk hi d r lo (by omega) hev)
   rw [impl_stretches.l1, if_pos (by omega), if_pos (by omega), if_pos (by omega), rd_nat, if_pos c, w64 (by omega) (by omega), show ((lo + 1 : Nat) : Int) - 1 = (lo : Int) by omega]
  ·rw [if_neg c] at hev
   refine Ev.step (fun k => ?_) hev
   rw [impl_stretches.l1, if_pos (by omega), if_pos (by omega), if_pos (by omega), rd_nat, if_neg c]
theorem implSt_l2 (L : List Int) (hl : L.length ≤ 1000) (acc : List S27) (ha : acc.length ≤ 2000) (kk : Nat) (hk : kk ≤ 1000) (lo : Int) (d : Int) (r : List S27) : ∀ f hi : Nat, hi + f = L.length →
  Ev (fun k => impl_stretches.l0 k (acc ++ [(⟨lo, ((hiL L d f hi : Nat) : Int), d⟩ : S27)]) ((kk + 1 : Nat) : Int) L) r → Ev (fun k => impl_stretches.l2 k L acc (kk : Int) lo (hi : Int) d) r
 | 0, hi, h, hev => by
  refine Ev.step (fun k => ?_) hev
  rw [impl_stretches.l2, if_neg (by omega), if_pos (by omega), w64 (by omega) (by omega)]
  rfl
 | f + 1, hi, h, hev => by
  rw [hiL] at hev
  by_cases c : d ≤ L.getD hi 0
  ·rw [if_pos c] at hev
   refine Ev.step (fun k => ?_) (implSt_l2 L hl acc ha kk hk lo d r f (hi + 1) (by omega) hev)
   rw [impl_stretches.l2, if_pos (by omega), if_pos (by omega), rd_nat, if_pos c, w64 (by omega) (by omega)]
   rfl
  ·rw [if_neg c] at hev
   refine Ev.step (fun k => ?_) hev
   rw [impl_stretches.l2, if_pos (by omega), if_pos (by omega), rd_nat, if_neg c, if_pos (by omega), w64 (by omega) (by omega)]
   rfl
def tri27 (x : S27) : Int × Int × Int := (x.f0, x.f1, x.f2)
def mk27 (t : Int × Int × Int) : S27 := ⟨t.1, t.2.1, t.2.2⟩
def finS (T : List S27) : List S27 := (Go.Lib.compact ((T.mergeSort (Str.le3 tri27)).map tri27)).map mk27
theorem sts_succ (L : List Int) (kk : Nat) (h : 1 ≤ kk) : sts L (kk + 1) = sts L kk ++ [sOf L kk] := by
 unfold sts
 obtain ⟨m, rfl⟩ : ∃ m, kk = m + 1 := ⟨kk - 1, by omega⟩
 show (List.range (m + 1)).map _ = (List.range m).map _ ++ _
 rw [List.range_succ, List.map_append]
 rfl
theorem sts_len (L : List Int) (kk : Nat) : (sts L kk).length = kk - 1 := by unfold sts; rw [List.length_map, List.length_range]
theorem okP_sts (L : List Int) (T : List S27) (hT : ∀ s ∈ T, OKs L s) : Str.okP (T.map tri27) = true := by
 unfold Str.okP
 rw [List.all_eq_true]
 intro x hx
 rw [List.all_eq_true]
 intro y hy
 obtain ⟨a, ha, rfl⟩ := List.mem_map.1 hx
 obtain ⟨b, hb, rfl⟩ := List.mem_map.1 hy
 by_cases c : a.f0 = b.f0 ∧ a.f1 = b.f1
 ·have e := (hT a ha).uniq (hT b hb) c.1 c.2
  subst e
  simp
 ·have : ((tri27 a).1 == (tri27 b).1 && (tri27 a).2.1 == (tri27 b).2.1) = false := by
   show (a.f0 == b.f0 && a.f1 == b.f1) = false
   rw [Bool.and_eq_false_iff]
   by_cases c1 : a.f0 = b.f0
   ·exact .inr (beq_eq_false_iff_ne.2 (fun e => c ⟨c1, e⟩))
   ·exact .inl (beq_eq_false_iff_ne.2 c1)
  rw [this]
  rfl
theorem implSt_fin (L : List Int) (hl : L.length ≤ 1000) (T : List S27) (hT : ∀ s ∈ T, OKs L s) (hlen : T.length ≤ 2000) (kk : Int) (hk : ¬ kk < (L.length : Int)) : Ev (fun k => impl_stretches.l0 k T kk L) (finS T) := by
 refine Ev.step (f := fun _ => some _) (fun k => ?_) (Ev.now _)
 have hok : Str.okP (T.map fun x : S27 => (x.f0, x.f1, x.f2)) = true := okP_sts L T hT
 have hms : (T.mergeSort (Str.le3 fun x : S27 => (x.f0, x.f1, x.f2))).length = T.length := List.length_mergeSort _
 rw [impl_stretches.l0, if_neg hk]
 unfold slices_SortFunc_72.f impl_Stretch_73.f
 rw [if_pos (by rw [hok, decide_eq_true (by omega)]; rfl), Option.bind_some, if_pos (by omega), Option.bind_some]
 rfl
theorem implSt_l0 (L : List Int) (hl : L.length ≤ 1000) (d : Nat) : ∀ kk : Nat, kk + d = L.length → 1 ≤ kk → Ev (fun k => impl_stretches.l0 k (sts L kk) (kk : Int) L) (finS (sts L L.length)) := by
 induction d with
 | zero =>
  intro kk h h1
  obtain rfl : kk = L.length := by omega
  exact implSt_fin L hl _ (fun s hs => (sts_mem L s).1 hs) (by rw [sts_len]; omega) _ (by omega)
 | succ d ih =>
  intro kk h h1
  have h' := ih (kk + 1) (by omega) (by omega)
  rw [sts_succ L kk h1] at h'
  have h2 := implSt_l2 L hl (sts L kk) (by rw [sts_len]; omega) kk (by omega) ((loL L (L.getD kk 0) (kk - 1) : Nat) : Int) (L.getD kk 0) _ (L.length - (kk + 1)) (kk + 1) (by omega) h'
  have h3 : Ev (fun k => impl_stretches.j2 k L (sts L kk) (kk : Int) ((loL L (L.getD kk 0) (kk - 1) : Nat) : Int) ((kk + 1 : Nat) : Int) (L.getD kk 0)) (finS (sts L L.length)) := Ev.step (fun k => by rw [impl_stretches.j2]) h2
  refine Ev.step (fun k => ?_) (implSt_l1 L hl (sts L kk) (kk : Int) (kk + 1) (L.getD kk 0) _ (kk - 1) (by omega) h3)
  rw [impl_stretches.l0, if_pos (by omega), if_pos (by omega), rd_nat, w64 (by omega) (by omega), w64 (by omega) (by omega), show ((kk : Int) - 1) = ((kk - 1 : Nat) : Int) by omega]
  rfl
theorem compact_ok {β : Type} [Inhabited β] [DecidableEq β] (lt : β → β → Prop) (d : Array β) (hanti : ∀ i j, i < d.size → j < d.size → ¬ lt d[i]! d[j]! → ¬ lt d[j]! d[i]! → d[i]! = d[j]!) (hs : ∀ i j, i < j → j < d.size → ¬ lt d[j]! d[i]!) : ∀ m, m ≤ d.size →
  (Go.Lib.compactUpTo d m).Pairwise lt ∧ ∀ x, x ∈ Go.Lib.compactUpTo d m ↔ ∃ j, j < m ∧ d[j]! = x
 | 0, _ => ⟨by show List.Pairwise lt []; exact List.Pairwise.nil, fun x => ⟨fun h => (by cases h), fun ⟨j, hj, _⟩ => (by omega)⟩⟩
 | m + 1, h => by
  obtain ⟨ih1, ih2⟩ := compact_ok lt d hanti hs m (by omega)
  rw [Go.Lib.compactUpTo_succ]
  by_cases hk : Go.Lib.keeps d m = true
  ·rw [if_pos hk]
   have hk' : m = 0 ∨ d[m]! ≠ d[m - 1]! := of_decide_eq_true hk
   refine ⟨List.pairwise_append.2 ⟨ih1, List.pairwise_singleton _ _, fun a ha b hb => ?_⟩, fun x => ?_⟩
   ·rw [List.mem_singleton] at hb
    subst hb
    obtain ⟨j, hj, rfl⟩ := (ih2 a).1 ha
    refine Classical.byContradiction fun hn => ?_
    have e1 := hanti j m (by omega) (by omega) hn (hs j m hj (by omega))
    have hne := hk'.resolve_left (by omega)
    by_cases q : j = m - 1
    ·rw [q] at e1; exact hne e1.symm
    ·have a1 := hs j (m - 1) (by omega) (by omega)
     have a2 := hs (m - 1) m (by omega) (by omega)
     rw [← e1] at a2
     have e2 := hanti j (m - 1) (by omega) (by omega) a2 a1
     exact hne (by rw [← e1, e2])
   ·rw [List.mem_append, List.mem_singleton, ih2]
    constructor
    ·rintro (⟨j, hj, e⟩ | rfl)
     ·exact ⟨j, by omega, e⟩
     ·exact ⟨m, by omega, rfl⟩
    ·rintro ⟨j, hj, e⟩
     by_cases q : j = m
     ·exact .inr (by rw [← e, q])
     ·exact .inl ⟨j, by omega, e⟩
  ·rw [if_neg hk, List.append_nil]
   have hk' : ¬ (m = 0 ∨ d[m]! ≠ d[m - 1]!) := fun h => hk (decide_eq_true h)
   refine ⟨ih1, fun x => ?_⟩
   rw [ih2]
   constructor
   ·rintro ⟨j, hj, e⟩
    exact ⟨j, by omega, e⟩
   ·rintro ⟨j, hj, e⟩
    by_cases q : j = m
    ·refine ⟨m - 1, by omega, ?_⟩
     rw [← e, q]
     exact (Classical.byContradiction fun hn => hk' (.inr hn) : d[m]! = d[m - 1]!).symm
    ·exact ⟨j, by omega, e⟩
def lt3 (a b : Int × Int × Int) : Prop := a.1 < b.1 ∨ (a.1 = b.1 ∧ b.2.1 < a.2.1)
theorem le3_iff (a b : S27) : Str.le3 tri27 a b = true ↔ ¬ lt27 b a := by
 unfold Str.le3
 rw [Bool.not_eq_true', decide_eq_false_iff_not, Str.cmp3_neg]
 exact Iff.rfl
theorem finS_ok (L : List Int) (T : List S27) (hT : ∀ s ∈ T, OKs L s) : (finS T).Pairwise lt27 ∧ ∀ s, s ∈ finS T ↔ s ∈ T := by
 have hS : (T.mergeSort (Str.le3 tri27)).Pairwise fun a b => Str.le3 tri27 a b := List.pairwise_mergeSort (le := Str.le3 tri27) (fun a b c h1 h2 => by
  rw [le3_iff] at *
  unfold lt27 at *
  omega) (fun a b => by
  by_cases c : lt27 b a
  ·have : Str.le3 tri27 b a = true := (le3_iff b a).2 (fun h => lt27_irrefl a (lt27_trans _ _ _ h c))
   rw [this, Bool.or_true]
  ·rw [(le3_iff a b).2 c, Bool.true_or]) T
 have hmem : ∀ s, s ∈ T.mergeSort (Str.le3 tri27) ↔ s ∈ T := fun s => List.mem_mergeSort
 unfold finS
 generalize T.mergeSort (Str.le3 tri27) = S at hS hmem
 have hsz : (S.map tri27).toArray.size = S.length := by simp
 have hd : ∀ i (h : i < S.length), (S.map tri27).toArray[i]! = tri27 S[i] := fun i h => by
  rw [getElem!_pos (S.map tri27).toArray i (by rw [hsz]; exact h)]
  simp
 have hC : Go.Lib.compact (S.map tri27) = Go.Lib.compactUpTo (S.map tri27).toArray (S.map tri27).toArray.size := by unfold Go.Lib.compact; rw [hsz, List.length_map]
 rw [hC]
 obtain ⟨h1, h2⟩ := compact_ok lt3 (S.map tri27).toArray (fun i j hi hj n1 n2 => by
  rw [hsz] at hi hj
  rw [hd i hi, hd j hj] at n1 n2 ⊢
  have u := (hT _ ((hmem _).1 (List.getElem_mem hi))).uniq (hT _ ((hmem _).1 (List.getElem_mem hj)))
  unfold lt3 tri27 at n1 n2
  simp only at n1 n2
  rw [u (by omega) (by omega)]) (fun i j hij hj => by
  rw [hsz] at hj
  rw [hd i (by omega), hd j hj]
  exact (le3_iff _ _).1 (List.pairwise_iff_getElem.1 hS i j (by omega) hj hij)) _ (Nat.le_refl _)
 refine ⟨?_, fun s => ?_⟩
 ·rw [List.pairwise_map]
  exact h1.imp (fun {a b} h => h)
 ·rw [List.mem_map]
  constructor
  ·rintro ⟨t, ht, rfl⟩
   obtain ⟨j, hj, rfl⟩ := (h2 t).1 ht
   rw [hsz] at hj
   rw [hd j hj]
   exact (hmem _).1 (List.getElem_mem hj)
  ·intro h
   obtain ⟨j, hj, e⟩ := List.getElem_of_mem ((hmem s).2 h)
   exact ⟨tri27 s, (h2 _).2 ⟨j, by rw [hsz]; exact hj, by rw [hd j hj, e]⟩, rfl⟩
theorem stretches_eq (L : List Int) (h3 : ∀ x ∈ L, x ≤ 300) : finS (sts L L.length) = allS L L.length := by
 obtain ⟨h1, h2⟩ := finS_ok L (sts L L.length) (fun s hs => (sts_mem L s).1 hs)
 exact uniq_sorted h1 (allS_sorted L h3) (fun s => (h2 s).trans (sts_mem L s)) (allS_mem L h3)
theorem lcpRows_bd (l : List Int) (hl : l.length ≤ 300) : ∀ x ∈ lcpRows l, 0 ≤ x ∧ x ≤ 300 := fun x hx => by
 obtain ⟨j, hj, rfl⟩ := List.getElem_of_mem hx
 rw [← lget_lt _ j 0 hj]
 unfold lcpRows at hj ⊢
 rw [lcpL_len] at hj
 rw [lcpL_at _ _ _ hj]
 have := lcpAt_le l (rowsOf l) j
 omega
def stretchesOf (l : List Int) : List S27 := if l.length ≤ 300 then allS (lcpRows l) (l.length + 1) else []
theorem stretchesOf_len (l : List Int) : (stretchesOf l).length ≤ 1000000 := by
 unfold stretchesOf
 by_cases c : l.length ≤ 300
 ·rw [if_pos c]
  refine Nat.le_trans (allS_len _ _) ?_
  rw [lcpRows_len]
  exact Nat.le_trans (Nat.mul_le_mul (show l.length + 1 ≤ 301 by omega) (show l.length + 1 ≤ 301 by omega)) (by decide)
 ·rw [if_neg c]
  exact Nat.zero_le _
theorem specStretchAll_ev (l : List Int) : Ev (fun k => spec_StretchAll.f k l) (stretchesOf l) := by
 unfold stretchesOf
 by_cases c : l.length ≤ 300
 ·obtain ⟨K1, k1⟩ := ev_out (specLcp_ev l c)
  obtain ⟨K2, k2⟩ := ev_out (specAll_ev (lcpRows l) (by rw [lcpRows_len]; omega) (fun x hx => (lcpRows_bd l c x hx).1))
  refine ev_mk (K1 + K2) fun k hk => ?_
  unfold spec_StretchAll.f spec_TextOk.f
  rw [Option.bind_some, decide_eq_true (show (l.length : Int) ≤ 300 by omega), if_pos rfl, k1 _ (by omega), Option.bind_some, k2 _ (by omega), Option.bind_some, if_pos c, lcpRows_len]
 ·refine ev_mk 0 fun k hk => ?_
  unfold spec_StretchAll.f spec_TextOk.f
  rw [Option.bind_some, decide_eq_false (show ¬ (l.length : Int) ≤ 300 by omega), if_neg (by decide), if_neg c]
theorem implStretches_ev (l : List Int) (c : l.length ≤ 300) (hb : bytesOk l) : Ev (fun k => impl_stretches.f k l) (stretchesOf l) := by
 unfold stretchesOf
 rw [if_pos c]
 obtain ⟨K1, k1⟩ := ev_out (implLcp_ev l c hb)
 obtain ⟨K2, k2⟩ := ev_out (implSt_l0 (lcpRows l) (by rw [lcpRows_len]; omega) (l.length) 1 (by rw [lcpRows_len]; omega) (Nat.le_refl _))
 refine ev_mk (K1 + K2) fun k hk => ?_
 unfold impl_stretches.f
 have := k2 k (by omega)
 rw [stretches_eq _ (fun x hx => (lcpRows_bd l c x hx).2), lcpRows_len] at this
 rw [k1 _ (by omega), Option.bind_some]
 exact this
theorem rdT27u (xs : List S27) (i : Nat) : rd_T27 xs (i : Int) = xs.getD i z27 := by unfold rd_T27; rw [Int.toNat_natCast]
def upC (s a : S27) : Bool := (!(a.f0 == s.f0) || (!(a.f1 == s.f1) || (!(a.f2 == s.f2))))
def upStep (s b a : S27) : S27 := if upC s a = true then (if a.f0 ≤ s.f0 then (if s.f1 ≤ a.f1 then (if b.f1 = 0 then a else if wrap64 (a.f1 - a.f0) < wrap64 (b.f1 - b.f0) then a else b) else b) else b) else b
def upR (l : List S27) (s b : S27) : S27 := l.foldl (upStep s) b
def upO (r : S27) : Int × Int × Int × Bool := (r.f0, r.f1, r.f2, decide (r.f1 > 0))
theorem drop_cons27 (l : List S27) (i : Nat) (h : i < l.length) : l.drop i = l.getD i z27 :: l.drop (i + 1) := by
 rw [List.drop_eq_getElem_cons h, lget_lt _ _ _ h]
theorem specUp_l0 (l : List S27) (hl : l.length ≤ 1000000) (s : S27) (d : Nat) : ∀ (i : Nat) (b : S27), i + d = l.length → Ev (fun k => spec_l11Up.l0 k l (i : Int) s.f0 s.f1 s.f2 b.f0 b.f1 b.f2) (upO (upR (l.drop i) s b)) := by
 induction d with
 | zero =>
  intro i b h
  refine Ev.step (f := fun _ => some _) (fun k => ?_) (Ev.now _)
  rw [spec_l11Up.l0, if_neg (by omega), List.drop_eq_nil_of_le (by omega)]
  rfl
 | succ d ih =>
  intro i b h
  rw [drop_cons27 l i (by omega)]
  have hr : rd_T27 l (i : Int) = l.getD i z27 := rdT27u l i
  generalize l.getD i z27 = a at hr
  obtain ⟨t, ht, hs⟩ : ∃ t : Bool, (∀ k, spec_l11Up.l0 (k + 1) l (i : Int) s.f0 s.f1 s.f2 b.f0 b.f1 b.f2 = spec_l11Up.j1 k l (i : Int) t s.f0 s.f1 s.f2 b.f0 b.f1 b.f2 a.f0 a.f1 a.f2) ∧ upStep s b a = if t = true then a else b := by
   unfold upStep
   by_cases c1 : upC s a = true
   ·have c1' : (!(a.f0 == s.f0) || (!(a.f1 == s.f1) || (!(a.f2 == s.f2)))) = true := c1
    by_cases c2 : a.f0 ≤ s.f0
    ·by_cases c3 : s.f1 ≤ a.f1
     ·by_cases c4 : b.f1 = 0
      ·exact ⟨true, fun k => by rw [spec_l11Up.l0, if_pos (by omega), if_pos (by omega), hr, if_pos c1', if_pos c2, if_pos c3, if_pos c4], by rw [if_pos c1, if_pos c2, if_pos c3, if_pos c4, if_pos rfl]⟩
      ·refine ⟨decide (wrap64 (a.f1 - a.f0) < wrap64 (b.f1 - b.f0)), fun k => by rw [spec_l11Up.l0, if_pos (by omega), if_pos (by omega), hr, if_pos c1', if_pos c2, if_pos c3, if_neg c4], ?_⟩
       rw [if_pos c1, if_pos c2, if_pos c3, if_neg c4]
       by_cases c5 : wrap64 (a.f1 - a.f0) < wrap64 (b.f1 - b.f0)
       ·rw [if_pos c5, decide_eq_true c5, if_pos rfl]
       ·rw [if_neg c5, decide_eq_false c5, if_neg (by decide)]
     ·exact ⟨false, fun k => by rw [spec_l11Up.l0, if_pos (by omega), if_pos (by omega), hr, if_pos c1', if_pos c2, if_neg c3], by rw [if_pos c1, if_pos c2, if_neg c3, if_neg (by decide)]⟩
    ·exact ⟨false, fun k => by rw [spec_l11Up.l0, if_pos (by omega), if_pos (by omega), hr, if_pos c1', if_neg c2], by rw [if_pos c1, if_neg c2, if_neg (by decide)]⟩
   ·have c1' : ¬ (!(a.f0 == s.f0) || (!(a.f1 == s.f1) || (!(a.f2 == s.f2)))) = true := c1
    exact ⟨false, fun k => by rw [spec_l11Up.l0, if_pos (by omega), if_pos (by omega), hr, if_neg c1'], by rw [if_neg c1, if_neg (by decide)]⟩
  show Ev _ (upO (upR (l.drop (i + 1)) s (upStep s b a)))
  rw [hs]
  have e1 : wrap64 ((i : Int) + 1) = ((i + 1 : Nat) : Int) := w64 (by omega) (by omega)
  cases t with
  | true =>
   obtain ⟨K, hK⟩ := ev_out (ih (i + 1) a (by omega))
   refine ev_mk (K + 2) fun k hk => ?_
   obtain ⟨k, rfl⟩ : ∃ m, k = m + 2 := ⟨k - 2, by omega⟩
   rw [ht, spec_l11Up.j1, if_pos rfl, e1, if_pos rfl]
   exact hK k (by omega)
  | false =>
   obtain ⟨K, hK⟩ := ev_out (ih (i + 1) b (by omega))
   refine ev_mk (K + 2) fun k hk => ?_
   obtain ⟨k, rfl⟩ : ∃ m, k = m + 2 := ⟨k - 2, by omega⟩
   rw [ht, spec_l11Up.j1, if_neg (by decide), e1, if_neg (by decide)]
   exact hK k (by omega)
theorem implUp_l0 (l : List S27) (hl : l.length ≤ 1000000) (hpos : ∀ a ∈ l, 0 < a.f1) (s : S27) (d : Nat) : ∀ (i : Nat) (b : S27), i + d = l.length → 0 ≤ b.f1 → Ev (fun k => impl_up.l0 k (decide (b.f1 > 0)) l (l.length : Int) (i : Int) s.f0 s.f1 s.f2 b.f0 b.f1 b.f2) (upO (upR (l.drop i) s b)) := by
 induction d with
 | zero =>
  intro i b h hb
  refine Ev.step (f := fun _ => some _) (fun k => ?_) (Ev.now _)
  rw [impl_up.l0, if_neg (by omega), List.drop_eq_nil_of_le (by omega)]
  rfl
 | succ d ih =>
  intro i b h hb
  rw [drop_cons27 l i (by omega)]
  have hr : rd_T27 l (i : Int) = l.getD i z27 := rdT27u l i
  have hap : 0 < (l.getD i z27).f1 := hpos _ (by rw [lget_lt _ _ _ (by omega)]; exact List.getElem_mem _)
  generalize l.getD i z27 = a at hr hap
  obtain ⟨t, ht, hs⟩ : ∃ t : Bool, (∀ k, impl_up.l0 (k + 1) (decide (b.f1 > 0)) l (l.length : Int) (i : Int) s.f0 s.f1 s.f2 b.f0 b.f1 b.f2 = impl_up.j1 k (decide (b.f1 > 0)) l (l.length : Int) (i : Int) t s.f0 s.f1 s.f2 b.f0 b.f1 b.f2 a.f0 a.f1 a.f2) ∧ upStep s b a = if t = true then a else b := by
   unfold upStep
   by_cases c1 : upC s a = true
   ·have c1' : (!(a.f0 == s.f0) || (!(a.f1 == s.f1) || (!(a.f2 == s.f2)))) = true := c1
    by_cases c2 : a.f0 ≤ s.f0
    ·by_cases c3 : s.f1 ≤ a.f1
     ·by_cases c4 : b.f1 = 0
      ·exact ⟨true, fun k => by rw [impl_up.l0, if_pos (by omega), if_pos (by omega), if_pos (by omega), hr, if_pos c1', if_pos c2, if_pos c3, if_neg (by rw [decide_eq_false (by omega)]; decide)], by rw [if_pos c1, if_pos c2, if_pos c3, if_pos c4, if_pos rfl]⟩
      ·refine ⟨decide (wrap64 (a.f1 - a.f0) < wrap64 (b.f1 - b.f0)), fun k => by rw [impl_up.l0, if_pos (by omega), if_pos (by omega), if_pos (by omega), hr, if_pos c1', if_pos c2, if_pos c3, if_pos (decide_eq_true (show b.f1 > 0 by omega))], ?_⟩
       rw [if_pos c1, if_pos c2, if_pos c3, if_neg c4]
       by_cases c5 : wrap64 (a.f1 - a.f0) < wrap64 (b.f1 - b.f0)
       ·rw [if_pos c5, decide_eq_true c5, if_pos rfl]
       ·rw [if_neg c5, decide_eq_false c5, if_neg (by decide)]
     ·exact ⟨false, fun k => by rw [impl_up.l0, if_pos (by omega), if_pos (by omega), if_pos (by omega), hr, if_pos c1', if_pos c2, if_neg c3], by rw [if_pos c1, if_pos c2, if_neg c3, if_neg (by decide)]⟩
    ·exact ⟨false, fun k => by rw [impl_up.l0, if_pos (by omega), if_pos (by omega), if_pos (by omega), hr, if_pos c1', if_neg c2], by rw [if_pos c1, if_neg c2, if_neg (by decide)]⟩
   ·have c1' : ¬ (!(a.f0 == s.f0) || (!(a.f1 == s.f1) || (!(a.f2 == s.f2)))) = true := c1
    exact ⟨false, fun k => by rw [impl_up.l0, if_pos (by omega), if_pos (by omega), if_pos (by omega), hr, if_neg c1'], by rw [if_neg c1, if_neg (by decide)]⟩
  show Ev _ (upO (upR (l.drop (i + 1)) s (upStep s b a)))
  rw [hs]
  have e1 : wrap64 ((i : Int) + 1) = ((i + 1 : Nat) : Int) := w64 (by omega) (by omega)
  cases t with
  | true =>
   obtain ⟨K, hK⟩ := ev_out (ih (i + 1) a (by omega) (by omega))
   refine ev_mk (K + 2) fun k hk => ?_
   obtain ⟨k, rfl⟩ : ∃ m, k = m + 2 := ⟨k - 2, by omega⟩
   have := hK k (by omega)
   rw [decide_eq_true (show a.f1 > 0 from hap)] at this
   rw [ht, impl_up.j1, if_pos rfl, e1, if_pos rfl]
   exact this
  | false =>
   obtain ⟨K, hK⟩ := ev_out (ih (i + 1) b (by omega) hb)
   refine ev_mk (K + 2) fun k hk => ?_
   obtain ⟨k, rfl⟩ : ∃ m, k = m + 2 := ⟨k - 2, by omega⟩
   rw [ht, impl_up.j1, if_neg (by decide), e1, if_neg (by decide)]
   exact hK k (by omega)
theorem specUp_ev (l : List S27) (hl : l.length ≤ 1000000) (s : S27) : Ev (fun k => spec_l11Up.f k l s.f0 s.f1 s.f2) (upO (upR l s ⟨0, 0, 0⟩)) :=
 Ev.congr (fun _ => rfl) (specUp_l0 l hl s l.length 0 ⟨0, 0, 0⟩ (by omega))
theorem implUp_ev (l : List S27) (hl : l.length ≤ 1000000) (hpos : ∀ a ∈ l, 0 < a.f1) (s : S27) : Ev (fun k => impl_up.f k l s.f0 s.f1 s.f2) (upO (upR l s ⟨0, 0, 0⟩)) :=
 Ev.congr (fun _ => rfl) (implUp_l0 l hl hpos s l.length 0 ⟨0, 0, 0⟩ (by omega) (by decide))
theorem stretchesOf_pos (l : List Int) : ∀ a ∈ stretchesOf l, 0 < a.f1 := fun a ha => by
 unfold stretchesOf at ha
 by_cases c : l.length ≤ 300
 ·rw [if_pos c] at ha
  have e : l.length + 1 = (lcpRows l).length := (lcpRows_len l).symm
  rw [e] at ha
  obtain ⟨lo, hi, _, h1, h2, _⟩ := (allS_mem (lcpRows l) (fun x hx => (lcpRows_bd l c x hx).2) a).1 ha
  omega
 ·rw [if_neg c] at ha
  cases ha
theorem rdT27 (xs : List S27) (i : Nat) : rd_T27 xs (i : Int) = xs.getD i z27 := by unfold rd_T27; rw [Int.toNat_natCast]
theorem eqStS_l0 (l : List S27) (hl : l.length ≤ 4000000) (d : Nat) : ∀ i : Nat, i + d = l.length → Ev (fun k => laws_eqStretchS.l0 k l l (i : Int)) true := by
 induction d with
 | zero =>
  intro i h
  refine Ev.step (f := fun _ => some _) (fun k => ?_) (Ev.now _)
  rw [laws_eqStretchS.l0, if_neg (by omega)]
 | succ d ih =>
  intro i h
  refine Ev.step (fun k => ?_) (ih (i + 1) (by omega))
  rw [laws_eqStretchS.l0, if_pos (by omega), if_pos (by omega), if_pos (by omega)]
  unfold laws_eqStretch.f
  rw [if_pos rfl, if_pos rfl, if_pos rfl, Option.bind_some, if_pos rfl, w64 (by omega) (by omega)]
  rfl
theorem eqStS_ev (l : List S27) (hl : l.length ≤ 4000000) : Ev (fun k => laws_eqStretchS.f k l l) true := by
 refine Ev.congr (fun k => ?_) (eqStS_l0 l hl l.length 0 (by omega))
 unfold laws_eqStretchS.f
 rw [if_pos rfl]
 rfl
def marksS (n : Nat) : List S27 := (List.range n).map fun (j : Nat) => ⟨1 + 3 * (j : Int), 2 + 3 * (j : Int), 3 + 3 * (j : Int)⟩
theorem marksS_len (n : Nat) : (marksS n).length = n := by simp [marksS]
theorem marksS_get (n j : Nat) (h : j < n) : (marksS n).getD j z27 = ⟨1 + 3 * (j : Int), 2 + 3 * (j : Int), 3 + 3 * (j : Int)⟩ := by
 rw [lget_lt _ j z27 (by rw [marksS_len]; exact h)]
 simp [marksS]
theorem markSt_l0 (l : List S27) (hl : l.length ≤ 4000000) (d : Nat) : ∀ i : Nat, i + d = l.length → Ev (fun k => laws_markStretchS.l0 k ((marksS l.length).take i ++ l.drop i) (1 + 3 * (i : Int)) (i : Int)) (1 + 3 * (l.length : Int), marksS l.length) := by
 induction d with
 | zero =>
  intro i h
  obtain rfl : i = l.length := by omega
  refine Ev.step (f := fun _ => some _) (fun k => ?_) (Ev.now _)
  rw [laws_markStretchS.l0, if_neg (by rw [over_len _ _ _ (marksS_len _) (by omega)]; omega), List.drop_length, List.append_nil, List.take_of_length_le (by rw [marksS_len]; omega)]
 | succ d ih =>
  intro i h
  refine Ev.step (f := fun k => laws_markStretchS.l0 k ((marksS l.length).take (i + 1) ++ l.drop (i + 1)) (1 + 3 * ((i + 1 : Nat) : Int)) ((i + 1 : Nat) : Int)) (fun k => ?_) (ih (i + 1) (by omega))
  have hol := over_len (marksS l.length) l i (marksS_len _) (by omega)
  have hset := over_set (marksS l.length) l z27 (⟨1 + 3 * (i : Int), 2 + 3 * (i : Int), 3 + 3 * (i : Int)⟩ : S27) i (marksS_len _) (by omega) (marksS_get _ _ (by omega)).symm
  generalize (marksS l.length).take i ++ l.drop i = x0 at hol hset
  have g : ∀ v : S27, (x0.set i v).getD i z27 = v := fun v => by rw [lset, if_pos ⟨rfl, by omega⟩]
  rw [laws_markStretchS.l0, if_pos (by omega), if_pos (by omega), Option.bind_some, Option.bind_some, Int.toNat_natCast]
  simp only [rdT27, List.set_set, g]
  rw [w64 (x := 1 + 3 * (i : Int) + 1) (by omega) (by omega), w64 (x := 1 + 3 * (i : Int) + 1 + 1) (by omega) (by omega), w64 (x := 1 + 3 * (i : Int) + 1 + 1 + 1) (by omega) (by omega), w64 (x := (i : Int) + 1) (by omega) (by omega),
   show 1 + 3 * (i : Int) + 1 = 2 + 3 * (i : Int) by omega, show 2 + 3 * (i : Int) + 1 = 3 + 3 * (i : Int) by omega, hset, show 3 + 3 * (i : Int) + 1 = 1 + 3 * ((i + 1 : Nat) : Int) by omega]
  rfl
theorem markSt_ev (l : List S27) (hl : l.length ≤ 4000000) : Ev (fun k => laws_markStretchS.f k l 1) (1 + 3 * (l.length : Int), marksS l.length) :=
 Ev.congr (f := fun k => laws_markStretchS.l0 k ((marksS l.length).take 0 ++ l.drop 0) (1 + 3 * ((0 : Nat) : Int)) ((0 : Nat) : Int)) (fun _ => rfl) (markSt_l0 l hl l.length 0 (by omega))
theorem heldSt_l0 (n : Nat) (hn : n ≤ 4000000) (d : Nat) : ∀ i : Nat, i + d = n → Ev (fun k => laws_heldStretchS.l0 k (marksS n) (1 + 3 * (i : Int)) (i : Int)) (1 + 3 * (n : Int)) := by
 have hl := marksS_len n
 induction d with
 | zero =>
  intro i h
  obtain rfl : i = n := by omega
  refine Ev.step (f := fun _ => some _) (fun k => ?_) (Ev.now _)
  rw [laws_heldStretchS.l0, if_neg (by omega)]
 | succ d ih =>
  intro i h
  refine Ev.step (f := fun k => laws_heldStretchS.l0 k (marksS n) (1 + 3 * ((i + 1 : Nat) : Int)) ((i + 1 : Nat) : Int)) (fun k => ?_) (ih (i + 1) (by omega))
  rw [laws_heldStretchS.l0, if_pos (by omega), if_pos (by omega), rdT27, marksS_get _ _ (by omega)]
  dsimp only
  rw [w64 (x := 1 + 3 * (i : Int) + 1) (by omega) (by omega), w64 (x := 1 + 3 * (i : Int) + 1 + 1) (by omega) (by omega), w64 (x := 1 + 3 * (i : Int) + 1 + 1 + 1) (by omega) (by omega), w64 (x := (i : Int) + 1) (by omega) (by omega), if_pos rfl, if_pos (by omega), if_pos (by omega),
   show 1 + 3 * (i : Int) + 1 + 1 + 1 = 1 + 3 * ((i + 1 : Nat) : Int) by omega]
  rfl
theorem heldSt_ev (n : Nat) (hn : n ≤ 4000000) : Ev (fun k => laws_heldStretchS.f k (marksS n) 1) (1 + 3 * (n : Int)) :=
 Ev.congr (f := fun k => laws_heldStretchS.l0 k (marksS n) (1 + 3 * ((0 : Nat) : Int)) ((0 : Nat) : Int)) (fun _ => rfl) (heldSt_l0 n hn n 0 (by omega))
def kidB (all : List S27) (s x : S27) : Bool := decide ((upR all x ⟨0, 0, 0⟩).f1 > 0) && decide ((upR all x ⟨0, 0, 0⟩).f0 = s.f0 ∧ (upR all x ⟨0, 0, 0⟩).f1 = s.f1 ∧ (upR all x ⟨0, 0, 0⟩).f2 = s.f2)
theorem kidB_up_eq (all : List S27) (s x : S27) : kidB all s x = ((upO (upR all x ⟨0, 0, 0⟩)).2.2.2 && ((upO (upR all x ⟨0, 0, 0⟩)).1 == s.f0 && ((upO (upR all x ⟨0, 0, 0⟩)).2.1 == s.f1 && (upO (upR all x ⟨0, 0, 0⟩)).2.2.1 == s.f2))) := by
 unfold kidB upO
 generalize upR all x ⟨0, 0, 0⟩ = u
 dsimp only
 congr 1
 rw [Bool.eq_iff_iff, decide_eq_true_eq]
 simp
theorem specKids_l0 (all : List S27) (hl : all.length ≤ 1000000) (s : S27) (d : Nat) : ∀ (i : Nat) (out : List S27), i + d = all.length → out.length ≤ i → Ev (fun k => spec_StretchKids.l0 k out (i : Int) all s.f0 s.f1 s.f2) (out ++ (all.drop i).filter (kidB all s)) := by
 induction d with
 | zero =>
  intro i out h _
  refine Ev.step (f := fun _ => some _) (fun k => ?_) (Ev.now _)
  rw [spec_StretchKids.l0, if_neg (by omega), List.drop_eq_nil_of_le (by omega), List.filter_nil, List.append_nil]
 | succ d ih =>
  intro i out h ho
  rw [drop_cons27 all i (by omega)]
  have hr : rd_T27 all (i : Int) = all.getD i z27 := rdT27u all i
  generalize all.getD i z27 = a at hr
  obtain ⟨K1, k1⟩ := ev_out (specUp_ev all hl a)
  rw [List.filter_cons]
  have ek := kidB_up_eq all s a
  generalize upO (upR all a ⟨0, 0, 0⟩) = u at k1 ek
  obtain ⟨u0, u1, u2, u3⟩ := u
  dsimp only at ek
  have e1 : wrap64 ((i : Int) + 1) = ((i + 1 : Nat) : Int) := w64 (by omega) (by omega)
  by_cases c : kidB all s a = true
  ·rw [if_pos c]
   obtain ⟨K2, k2⟩ := ev_out (ih (i + 1) (out ++ [a]) (by omega) (by rw [List.length_append]; simp; omega))
   rw [c, eq_comm, Bool.and_eq_true] at ek
   refine ev_mk (K1 + K2 + 1) fun k hk => ?_
   obtain ⟨k, rfl⟩ : ∃ m, k = m + 1 := ⟨k - 1, by omega⟩
   rw [spec_StretchKids.l0, if_pos (by omega), if_pos (by omega), hr, k1 k (by omega), Option.bind_some]
   dsimp only
   rw [if_pos ek.1, if_pos ek.2, if_pos (by omega), e1]
   have := k2 k (by omega)
   rw [List.append_assoc] at this
   exact this
  ·rw [if_neg c]
   obtain ⟨K2, k2⟩ := ev_out (ih (i + 1) out (by omega) (by omega))
   refine ev_mk (K1 + K2 + 1) fun k hk => ?_
   obtain ⟨k, rfl⟩ : ∃ m, k = m + 1 := ⟨k - 1, by omega⟩
   rw [spec_StretchKids.l0, if_pos (by omega), if_pos (by omega), hr, k1 k (by omega), Option.bind_some]
   dsimp only
   by_cases c1 : u3 = true
   ·rw [if_pos c1, if_neg (fun c2 => c (by rw [ek, c1, c2]; rfl)), e1]
    exact k2 k (by omega)
   ·rw [if_neg c1, e1]
    exact k2 k (by omega)
def kidsOf (l : List Int) (s : S27) : List S27 := if stretchB l s.f0 s.f1 s.f2 = true then (stretchesOf l).filter (kidB (stretchesOf l) s) else []
theorem kidsOf_len (l : List Int) (s : S27) : (kidsOf l s).length ≤ 1000000 := by
 unfold kidsOf
 split
 ·exact Nat.le_trans (List.length_filter_le _ _) (stretchesOf_len l)
 ·exact Nat.zero_le _
theorem specKids_ev (l : List Int) (s : S27) : Ev (fun k => spec_StretchKids.f k l s.f0 s.f1 s.f2) (kidsOf l s) := by
 obtain ⟨K1, k1⟩ := ev_out (specStretchOk_ev l s.f0 s.f1 s.f2)
 obtain ⟨K2, k2⟩ := ev_out (specStretchAll_ev l)
 obtain ⟨K3, k3⟩ := ev_out (specKids_l0 (stretchesOf l) (stretchesOf_len l) s (stretchesOf l).length 0 [] (by omega) (Nat.le_refl _))
 refine ev_mk (K1 + K2 + K3) fun k hk => ?_
 unfold spec_StretchKids.f kidsOf
 rw [k1 _ (by omega), Option.bind_some]
 by_cases c : stretchB l s.f0 s.f1 s.f2 = true
 ·rw [if_pos c, if_pos c, k2 _ (by omega), Option.bind_some]
  exact (k3 k (by omega)).trans (by rw [List.drop_zero, List.nil_append])
 ·rw [if_neg c, if_neg c]
theorem ev_all {α β : Type} (l : List α) (f : Nat → α → Option β) (g : α → β) (h : ∀ x ∈ l, Ev (fun k => f k x) (g x)) : ∃ K, ∀ x ∈ l, ∀ k, K ≤ k → f k x = some (g x) := by
 induction l with
 | nil => exact ⟨0, fun x h => (by cases h)⟩
 | cons a l ih =>
  obtain ⟨K1, k1⟩ := ev_out (h a List.mem_cons_self)
  obtain ⟨K2, k2⟩ := ih (fun x hx => h x (List.mem_cons_of_mem _ hx))
  refine ⟨K1 + K2, fun x hx k hk => ?_⟩
  rcases List.mem_cons.1 hx with rfl | hx
  ·exact k1 k (by omega)
  ·exact k2 x hx k (by omega)
theorem implKids_ev (l : List Int) (s : S27) (hb : bytesOk l) : Ev (fun k => impl_StretchKids.f k l s.f0 s.f1 s.f2) (kidsOf l s) := by
 obtain ⟨K1, k1⟩ := ev_out (implStretchOk_ev l s.f0 s.f1 s.f2 hb)
 by_cases c : stretchB l s.f0 s.f1 s.f2 = true
 ·have hl : l.length ≤ 300 := by
   unfold stretchB at c
   by_cases q : l.length ≤ 300
   ·exact q
   ·rw [if_neg q] at c; exact absurd c (by decide)
  obtain ⟨K2, k2⟩ := ev_out (implStretches_ev l hl hb)
  obtain ⟨K3, k3⟩ := ev_all (stretchesOf l) (fun k x => impl_up.f k (stretchesOf l) x.f0 x.f1 x.f2) (fun x => upO (upR (stretchesOf l) x ⟨0, 0, 0⟩)) (fun x _ => implUp_ev (stretchesOf l) (stretchesOf_len l) (stretchesOf_pos l) x)
  have hlen := stretchesOf_len l
  refine ev_mk (K1 + K2 + K3) fun k hk => ?_
  unfold impl_StretchKids.f kidsOf
  rw [k1 _ (by omega), Option.bind_some, if_pos c, if_pos c, k2 _ (by omega), Option.bind_some]
  have hk3 : ∀ x ∈ stretchesOf l, impl_up.f k (stretchesOf l) x.f0 x.f1 x.f2 = some (upO (upR (stretchesOf l) x ⟨0, 0, 0⟩)) := fun x hx => k3 x hx k (by omega)
  rw [if_pos (by
   rw [Bool.and_eq_true, List.all_eq_true, decide_eq_true_eq]
   exact ⟨by omega, fun x hx => by rw [hk3 x hx]; rfl⟩)]
  rw [List.filter_map, List.map_map]
  congr 1
  have e : (((fun t : Int × Int × Int => (⟨t.1, t.2.1, t.2.2⟩ : S27)) ∘ fun x : S27 => (x.f0, x.f1, x.f2)) : S27 → S27) = id := rfl
  rw [e, List.map_id]
  refine List.filter_congr fun x hx => ?_
  show (!impl_StretchKids.p k (stretchesOf l) (s.f0, s.f1, s.f2) (x.f0, x.f1, x.f2)) = _
  unfold impl_StretchKids.p
  dsimp only
  rw [hk3 x hx, kidB_up_eq]
  generalize upO (upR (stretchesOf l) x ⟨0, 0, 0⟩) = u
  obtain ⟨u0, u1, u2, u3⟩ := u
  dsimp only
  rw [Bool.not_or, Bool.not_not, Bool.not_not]
  congr 1
  rw [Bool.eq_iff_iff, decide_eq_true_eq]
  simp
 ·refine ev_mk K1 fun k hk => ?_
  unfold impl_StretchKids.f kidsOf
  rw [k1 _ (by omega), Option.bind_some, if_neg c, if_neg c]
theorem FnExactStretchKids : laws_FnExactStretchKids.Pure := by
 intro l lo hi d o0 _
 by_cases g0 : (l.length : Int) > 1048576
 ·exact ⟨0, by unfold laws_FnExactStretchKids.f; rw [if_pos g0]⟩
 have hwl := kidsOf_len l ⟨lo, hi, d⟩
 obtain ⟨K0, h0⟩ := ev_out (toByteS_ev l (by omega))
 obtain ⟨K1, h1⟩ := ev_out (specKids_ev l ⟨lo, hi, d⟩)
 obtain ⟨K2, h2⟩ := ev_out (implKids_ev l ⟨lo, hi, d⟩ (okb_bytes o0))
 obtain ⟨K3, h3⟩ := ev_out (eqByteS_ev l (by omega))
 obtain ⟨K4, h4⟩ := ev_out (eqStS_ev (kidsOf l ⟨lo, hi, d⟩) (by omega))
 obtain ⟨K5, h5⟩ := ev_out (markB_ev l (by omega))
 obtain ⟨K6, h6⟩ := ev_out (markSt_ev (kidsOf l ⟨lo, hi, d⟩) (by omega))
 obtain ⟨K7, h7⟩ := ev_out (heldSt_ev (kidsOf l ⟨lo, hi, d⟩).length (by omega))
 generalize kidsOf l ⟨lo, hi, d⟩ = W at *
 obtain ⟨K, hK⟩ : ∃ K, K = K0 + K1 + K2 + K3 + K4 + K5 + K6 + K7 := ⟨_, rfl⟩
 have h1' : ∀ k, K ≤ k → spec_StretchKids.f k l lo hi d = some W := fun k hk => h1 k (by omega)
 have h2' : ∀ k, K ≤ k → impl_StretchKids.f k l lo hi d = some W := fun k hk => h2 k (by omega)
 refine ⟨K + 1, ?_⟩
 unfold laws_FnExactStretchKids.f laws_toStretch.f
 rw [if_neg g0, h0 _ (by omega), Option.bind_some, Option.bind_some]
 dsimp only
 rw [h1' _ (by omega), Option.bind_some, Option.bind_some, Option.bind_some]
 dsimp only
 rw [h2' _ (by omega), Option.bind_some, h4 _ (by omega), Option.bind_some, if_pos rfl, Option.bind_some, h3 _ (by omega), Option.bind_some, if_pos rfl, h5 _ (by omega), Option.bind_some]
 dsimp only
 rw [if_neg (by omega), Option.bind_some, show (!true) = false from rfl, laws_FnExactStretchKids.j0, if_neg (by decide), h6 _ (by omega), Option.bind_some]
 dsimp only
 rw [h7 _ (by omega), Option.bind_some, if_neg (by omega), if_pos rfl, h0 _ (by omega), Option.bind_some]
 unfold laws_toStretch.f
 rw [Option.bind_some]
 dsimp only
 rw [h2' _ (by omega), Option.bind_some, h4 _ (by omega), Option.bind_some, if_pos rfl, Option.bind_some, if_neg (by omega), if_pos rfl]

end Go.Proofs.Ytoinagnieobbpaa.Pure
