/- The program's StretchWord returns what the reference's returns, for all arguments (texts of more than 2^20 bytes are let pass by the statement itself). -/
import Derived.Test.YtoinagnieobbpaaQFnExactStretchWordx9
import Derived.Test.YtoinagnieobbpaaBase
import Derived.Test.YtoinagnieobbpaaSx
namespace Go.Proofs.Ytoinagnieobbpaa.Pure
open Go.RowKit Go.Proofs.Ytoinagnieobbpaa.QFnExactStretchWord Go.Proofs.YtoinagnieobbpaaW.PrintWords Go.Proofs.YtoinagnieobbpaaW.PrintLast Go.Proofs.YtoinagnieobbpaaW.PrintMore
open Go.Proofs.Ytoinagnieobbpaa Go.Proofs.Ytoinagnieobbpaa.Base Go.Proofs.Ytoinagnieobbpaa.Sx
set_option linter.unusedVariables false
set_option linter.unusedSimpArgs false

theorem specCmp_l0 (a b : List Int) (ha : a.length ≤ 2000000) (hb : b.length ≤ 2000000) (d : Nat) : ∀ i : Nat, i + d = a.length → i ≤ b.length → Ev (fun k => spec_l05Cmp.l0 k a b (i : Int)) (Fv.cmpB (a.drop i) (b.drop i)) := by
 induction d with
 | zero =>
  intro i h hi
  refine Ev.step (f := fun k => spec_l05Cmp.j1 k a b (i : Int) false) (fun k => ?_) (Ev.step (f := fun _ => some _) (fun k => ?_) (Ev.now _))
  ·rw [spec_l05Cmp.l0, if_neg (by omega)]
  ·rw [spec_l05Cmp.j1, if_neg (by decide), List.drop_eq_nil_of_le (show a.length ≤ i by omega)]
   by_cases c : (a.length : Int) < (b.length : Int)
   ·rw [if_pos c, drop_at b i (by omega)]
    rfl
   ·rw [if_neg c, if_neg (by omega), List.drop_eq_nil_of_le (show b.length ≤ i by omega)]
    rfl
 | succ d ih =>
  intro i h hi
  rw [drop_at a i (by omega)]
  by_cases c : i < b.length
  ·rw [drop_at b i c, Fv.cmpB]
   by_cases c1 : a.getD i 0 < b.getD i 0
   ·refine Ev.step (f := fun k => spec_l05Cmp.j1 k a b (i : Int) true) (fun k => ?_) (Ev.step (f := fun _ => some _) (fun k => ?_) (Ev.now _))
    ·rw [spec_l05Cmp.l0, if_pos (by omega), decide_eq_true (show (i : Int) < (b.length : Int) by omega)]
    ·rw [spec_l05Cmp.j1, if_pos rfl, if_pos (by omega), if_pos (by omega), if_pos (by omega), rd_nat, rd_nat, if_pos c1, if_pos c1]
   ·by_cases c2 : b.getD i 0 < a.getD i 0
    ·refine Ev.step (f := fun k => spec_l05Cmp.j1 k a b (i : Int) true) (fun k => ?_) (Ev.step (f := fun _ => some _) (fun k => ?_) (Ev.now _))
     ·rw [spec_l05Cmp.l0, if_pos (by omega), decide_eq_true (show (i : Int) < (b.length : Int) by omega)]
     ·rw [spec_l05Cmp.j1, if_pos rfl, if_pos (by omega), if_pos (by omega), if_pos (by omega), rd_nat, rd_nat, if_neg c1, if_pos c2, if_neg c1, if_pos c2]
    ·rw [if_neg c1, if_neg c2]
     refine Ev.step (f := fun k => spec_l05Cmp.j1 k a b (i : Int) true) (fun k => ?_) (Ev.step (fun k => ?_) (ih (i + 1) (by omega) (by omega)))
     ·rw [spec_l05Cmp.l0, if_pos (by omega), decide_eq_true (show (i : Int) < (b.length : Int) by omega)]
     ·rw [spec_l05Cmp.j1, if_pos rfl, if_pos (by omega), if_pos (by omega), if_pos (by omega), rd_nat, rd_nat, if_neg c1, if_neg c2, w64 (by omega) (by omega)]
      rfl
  ·rw [List.drop_eq_nil_of_le (show b.length ≤ i by omega)]
   refine Ev.step (f := fun k => spec_l05Cmp.j1 k a b (i : Int) false) (fun k => ?_) (Ev.step (f := fun _ => some _) (fun k => ?_) (Ev.now _))
   ·rw [spec_l05Cmp.l0, if_pos (by omega), decide_eq_false (show ¬ (i : Int) < (b.length : Int) by omega)]
   ·rw [spec_l05Cmp.j1, if_neg (by decide), if_neg (by omega), if_pos (by omega)]
    rfl
theorem specCmp_ev (a b : List Int) (ha : a.length ≤ 2000000) (hb : b.length ≤ 2000000) : Ev (fun k => spec_l05Cmp.f k a b) (Fv.cmpB a b) := specCmp_l0 a b ha hb a.length 0 (by omega) (by omega)
theorem specCommon_l0 (a b : List Int) (ha : a.length ≤ 2000000) (hb : b.length ≤ 2000000) (d : Nat) : ∀ i : Nat, i + d = a.length → i ≤ b.length → Ev (fun k => spec_l05Common.l0 k a b (i : Int)) ((i : Int) + (lcpB (a.drop i) (b.drop i) : Int)) := by
 induction d with
 | zero =>
  intro i h hi
  refine Ev.step (f := fun k => spec_l05Common.j1 k a b (i : Int) false) (fun k => ?_) (Ev.step (f := fun _ => some _) (fun k => ?_) (Ev.now _))
  ·rw [spec_l05Common.l0, if_neg (by omega)]
  ·rw [spec_l05Common.j1, if_neg (by decide), List.drop_eq_nil_of_le (show a.length ≤ i by omega), lcpB]
   ·simp
   ·intro _ _ _ _ h _; cases h
 | succ d ih =>
  intro i h hi
  rw [drop_at a i (by omega)]
  by_cases c : i < b.length
  ·rw [drop_at b i c, lcpB]
   by_cases c1 : a.getD i 0 = b.getD i 0
   ·rw [if_pos c1]
    have e : ((i : Int) + ((lcpB (a.drop (i + 1)) (b.drop (i + 1)) + 1 : Nat) : Int)) = ((i + 1 : Nat) : Int) + (lcpB (a.drop (i + 1)) (b.drop (i + 1)) : Int) := by omega
    rw [e]
    refine Ev.step (f := fun k => spec_l05Common.j1 k a b (i : Int) true) (fun k => ?_) (Ev.step (fun k => ?_) (ih (i + 1) (by omega) (by omega)))
    ·rw [spec_l05Common.l0, if_pos (by omega), if_pos (by omega), if_pos (by omega), rd_nat, rd_nat, beq_iff_eq.mpr c1]
    ·rw [spec_l05Common.j1, if_pos rfl, w64 (by omega) (by omega)]
     rfl
   ·rw [if_neg c1]
    refine Ev.step (f := fun k => spec_l05Common.j1 k a b (i : Int) false) (fun k => ?_) (Ev.step (f := fun _ => some _) (fun k => ?_) (Ev.now _))
    ·rw [spec_l05Common.l0, if_pos (by omega), if_pos (by omega), if_pos (by omega), rd_nat, rd_nat, beq_eq_false_iff_ne.mpr c1]
    ·rw [spec_l05Common.j1, if_neg (by decide)]
     simp
  ·rw [List.drop_eq_nil_of_le (show b.length ≤ i by omega)]
   refine Ev.step (f := fun k => spec_l05Common.j1 k a b (i : Int) false) (fun k => ?_) (Ev.step (f := fun _ => some _) (fun k => ?_) (Ev.now _))
   ·rw [spec_l05Common.l0, if_pos (by omega), if_neg (by omega)]
   ·rw [spec_l05Common.j1, if_neg (by decide), lcpB]
    ·simp
    ·intro _ _ _ _ _ h; cases h
theorem specCommon_ev (a b : List Int) (ha : a.length ≤ 2000000) (hb : b.length ≤ 2000000) : Ev (fun k => spec_l05Common.f k a b) (lcpB a b : Int) := by
 have h := specCommon_l0 a b ha hb a.length 0 (by omega) (by omega)
 simp only [List.drop_zero] at h
 rw [show ((0 : Nat) : Int) + (lcpB a b : Int) = (lcpB a b : Int) by omega] at h
 exact h
theorem implCommon_l0 (a b : List Int) (ha : a.length ≤ 2000000) (hb : b.length ≤ 2000000) (d : Nat) : ∀ i : Nat, i + d = a.length → i ≤ b.length → Ev (fun k => impl_common.l0 k a b (i : Int)) ((i : Int) + (lcpB (a.drop i) (b.drop i) : Int)) := by
 have hmn : mn (a.length : Int) (b.length : Int) = ((min a.length b.length : Nat) : Int) := by unfold mn; split <;> omega
 induction d with
 | zero =>
  intro i h hi
  refine Ev.step (f := fun _ => some _) (fun k => ?_) (Ev.now _)
  rw [impl_common.l0, hmn, if_neg (by omega), List.drop_eq_nil_of_le (show a.length ≤ i by omega), lcpB]
  ·simp
  ·intro _ _ _ _ h _; cases h
 | succ d ih =>
  intro i h hi
  rw [drop_at a i (by omega)]
  by_cases c : i < b.length
  ·rw [drop_at b i c, lcpB]
   by_cases c1 : a.getD i 0 = b.getD i 0
   ·rw [if_pos c1]
    have e : ((i : Int) + ((lcpB (a.drop (i + 1)) (b.drop (i + 1)) + 1 : Nat) : Int)) = ((i + 1 : Nat) : Int) + (lcpB (a.drop (i + 1)) (b.drop (i + 1)) : Int) := by omega
    rw [e]
    refine Ev.step (fun k => ?_) (ih (i + 1) (by omega) (by omega))
    rw [impl_common.l0, hmn, if_pos (by omega), if_pos (by omega), if_pos (by omega), if_pos (by omega), rd_nat, rd_nat, if_pos c1, w64 (by omega) (by omega)]
    rfl
   ·rw [if_neg c1]
    refine Ev.step (f := fun _ => some _) (fun k => ?_) (Ev.now _)
    rw [impl_common.l0, hmn, if_pos (by omega), if_pos (by omega), if_pos (by omega), if_pos (by omega), rd_nat, rd_nat, if_neg c1]
    simp
  ·rw [List.drop_eq_nil_of_le (show b.length ≤ i by omega)]
   refine Ev.step (f := fun _ => some _) (fun k => ?_) (Ev.now _)
   rw [impl_common.l0, hmn, if_neg (by omega), lcpB]
   ·simp
   ·intro _ _ _ _ _ h; cases h
theorem implCommon_ev (a b : List Int) (ha : a.length ≤ 2000000) (hb : b.length ≤ 2000000) : Ev (fun k => impl_common.f k a b) (lcpB a b : Int) := by
 have h := implCommon_l0 a b ha hb a.length 0 (by omega) (by omega)
 simp only [List.drop_zero] at h
 rw [show ((0 : Nat) : Int) + (lcpB a b : Int) = (lcpB a b : Int) by omega] at h
 exact h
def bytesOk (l : List Int) : Prop := ∀ x ∈ l, 0 ≤ x ∧ x < 256
theorem okb_bytes {l : List Int} (h : Fv.OkL (Fv.OkI .u8) l) : bytesOk l := fun x hx => by
 have := h.2 x hx
 unfold Fv.OkI at this
 simp [Lit.wf, IntKind.min, IntKind.max, IntKind.signed, IntKind.bits] at this
 omega
theorem rd_rows {l out : List Int} (ho : ∀ x ∈ out, 0 ≤ x ∧ x ≤ l.length) (j : Nat) (hj : j < out.length) : 0 ≤ out.getD j 0 ∧ out.getD j 0 ≤ l.length := by
 rw [lget_lt out j 0 hj]
 exact ho _ (List.getElem_mem _)
theorem specIns (l out : List Int) (i : Nat) (hl : l.length ≤ 300) (hi : i ≤ l.length) (ho : ∀ x ∈ out, 0 ≤ x ∧ x ≤ l.length) (hlen : out.length ≤ 1000) (hs : out.Pairwise (sl l)) (m : Nat) : ∀ lo hi_ : Nat, hi_ - lo ≤ m → lo ≤ hi_ → hi_ ≤ out.length →
  (∀ j, j < lo → j < out.length → sl l (out.getD j 0) i) → (∀ j, hi_ ≤ j → j < out.length → ¬ sl l (out.getD j 0) i) →
  ∃ p, p ≤ out.length ∧ (∀ j, j < p → j < out.length → sl l (out.getD j 0) i) ∧ (∀ j, p ≤ j → j < out.length → ¬ sl l (out.getD j 0) i) ∧
   ∀ r, Ev (fun k => spec_SuffixRows.l0 k l (out.take p ++ (i : Int) :: out.drop p) ((i : Int) - 1)) r → Ev (fun k => spec_SuffixRows.l1 k l out (i : Int) (lo : Int) (hi_ : Int)) r := by
 have pw : ∀ j j' : Nat, j < j' → j' < out.length → sl l (out.getD j 0) (out.getD j' 0) := fun j j' h h' => by
  rw [lget_lt out j 0 (by omega), lget_lt out j' 0 h']
  exact List.pairwise_iff_getElem.1 hs j j' (by omega) h' h
 induction m with
 | zero =>
  intro lo hi_ h1 h2 h3 h4 h5
  have e : hi_ = lo := by omega
  subst e
  refine ⟨hi_, h3, h4, h5, fun r hr => Ev.step (fun k => ?_) hr⟩
  rw [spec_SuffixRows.l1, if_neg (by omega), Option.bind_some, if_pos (by omega), if_pos (by omega), Option.bind_some, Int.toNat_natCast, if_pos (by simp; omega), Option.bind_some, Option.bind_some, Option.bind_some, if_pos (by simp; omega), Option.bind_some,
   if_pos (by simp; omega), w64 (by omega) (by omega)]
  simp
 | succ m ih =>
  intro lo hi_ h1 h2 h3 h4 h5
  by_cases e : lo < hi_
  ·have hmid : wrap64 (Int.tdiv (wrap64 ((lo : Int) + (hi_ : Int))) 2) = (((lo + hi_) / 2 : Nat) : Int) := by
    rw [show wrap64 ((lo : Int) + (hi_ : Int)) = (lo : Int) + (hi_ : Int) from w64 (by omega) (by omega), show Int.tdiv ((lo : Int) + (hi_ : Int)) 2 = (((lo + hi_) / 2 : Nat) : Int) from by rw [← Int.natCast_add]; rfl, w64 (by omega) (by omega)]
   obtain ⟨mid, hm⟩ : ∃ mid, mid = (lo + hi_) / 2 := ⟨_, rfl⟩
   rw [← hm] at hmid
   have hml : lo ≤ mid := by omega
   have hmh : mid < hi_ := by omega
   obtain ⟨b0, b1⟩ := rd_rows ho mid (by omega)
   obtain ⟨K, hK⟩ := ev_out (specCmp_ev (l.drop (out.getD mid 0).toNat) (l.drop i) (by rw [List.length_drop]; omega) (by rw [List.length_drop]; omega))
   by_cases c : sl l (out.getD mid 0) i
   ·have c' : Fv.cmpB (l.drop (out.getD mid 0).toNat) (l.drop i) < 0 := by have := c; unfold sl at this; rwa [Int.toNat_natCast] at this
    obtain ⟨p, q1, q2, q3, q4⟩ := ih (mid + 1) hi_ (by omega) (by omega) h3 (fun j hj hj' => by
     by_cases ej : j = mid
     ·rw [ej]; exact c
     ·exact sl_trans l _ _ _ (pw j mid (by omega) (by omega)) c) h5
    refine ⟨p, q1, q2, q3, fun r hr => ?_⟩
    obtain ⟨K2, hK2⟩ := ev_out (q4 r hr)
    refine ev_mk (K + K2 + 1) fun k hk => ?_
    obtain ⟨k, rfl⟩ : ∃ m, k = m + 1 := ⟨k - 1, by omega⟩
    rw [spec_SuffixRows.l1, if_pos (by omega), hmid, if_pos (by omega), if_pos (by omega), rd_nat, if_pos b0, if_pos b1, if_pos (by omega), if_pos (by omega), Int.toNat_natCast, hK k (by omega), Option.bind_some, if_pos c', w64 (by omega) (by omega)]
    exact hK2 k (by omega)
   ·have c' : ¬ Fv.cmpB (l.drop (out.getD mid 0).toNat) (l.drop i) < 0 := by have := c; unfold sl at this; rwa [Int.toNat_natCast] at this
    obtain ⟨p, q1, q2, q3, q4⟩ := ih lo mid (by omega) (by omega) (by omega) h4 (fun j hj hj' hh => by
     by_cases ej : j = mid
     ·rw [ej] at hh; exact c hh
     ·exact c (sl_trans l _ _ _ (pw mid j (by omega) (by omega)) hh))
    refine ⟨p, q1, q2, q3, fun r hr => ?_⟩
    obtain ⟨K2, hK2⟩ := ev_out (q4 r hr)
    refine ev_mk (K + K2 + 1) fun k hk => ?_
    obtain ⟨k, rfl⟩ : ∃ m, k = m + 1 := ⟨k - 1, by omega⟩
    rw [spec_SuffixRows.l1, if_pos (by omega), hmid, if_pos (by omega), if_pos (by omega), rd_nat, if_pos b0, if_pos b1, if_pos (by omega), if_pos (by omega), Int.toNat_natCast, hK k (by omega), Option.bind_some, if_neg c']
    exact hK2 k (by omega)
  ·obtain ⟨p, q1, q2, q3, q4⟩ := ih lo hi_ (by omega) h2 h3 h4 h5
   exact ⟨p, q1, q2, q3, q4⟩
def from_ (n d : Nat) : List Int := (upto n).filter fun x => decide ((d : Int) ≤ x)
theorem mem_from (n d : Nat) (x : Int) : x ∈ from_ n d ↔ (d : Int) ≤ x ∧ x ≤ n := by
 unfold from_
 rw [List.mem_filter, mem_upto, decide_eq_true_eq]
 omega
theorem from_nodup (n d : Nat) : (from_ n d).Nodup := (upto_nodup n).sublist List.filter_sublist
theorem from_cons (n d : Nat) (h : d ≤ n) : (from_ n d).Perm ((d : Int) :: from_ n (d + 1)) := by
 rw [List.perm_ext_iff_of_nodup (from_nodup _ _) (List.nodup_cons.2 ⟨fun h => by rw [mem_from] at h; omega, from_nodup _ _⟩)]
 intro x
 rw [List.mem_cons, mem_from, mem_from]
 omega
theorem from_zero (n : Nat) : (from_ n 0).Perm (upto n) := by
 rw [List.perm_ext_iff_of_nodup (from_nodup _ _) (upto_nodup _)]
 intro x
 rw [mem_from, mem_upto]
 omega
theorem from_top (n : Nat) : from_ n (n + 1) = [] := List.eq_nil_iff_forall_not_mem.2 fun x h => by rw [mem_from] at h; omega
theorem specRows_l0 (l : List Int) (hl : l.length ≤ 300) (d : Nat) : ∀ out : List Int, d ≤ l.length + 1 → out.Perm (from_ l.length d) → out.Pairwise (sl l) → Ev (fun k => spec_SuffixRows.l0 k l out ((d : Int) - 1)) (rowsOf l) := by
 induction d with
 | zero =>
  intro out _ hp hs
  refine Ev.step (f := fun _ => some _) (fun k => ?_) (Ev.now _)
  rw [spec_SuffixRows.l0, if_neg (by omega), rows_unique l out (hp.trans (from_zero _)) hs]
 | succ d ih =>
  intro out hd hp hs
  have hm : ∀ x ∈ out, 0 ≤ x ∧ x ≤ l.length := fun x hx => by have := (mem_from _ _ _).1 (hp.mem_iff.1 hx); omega
  have hn : (d : Int) ∉ out := fun h => by have := (mem_from _ _ _).1 (hp.mem_iff.1 h); omega
  have hlen : out.length ≤ 1000 := by
   have h1 := hp.length_eq
   have h2 : (from_ l.length (d + 1)).length ≤ (upto l.length).length := List.length_filter_le _ _
   have h3 : (upto l.length).length = l.length + 1 := by simp [upto]
   omega
  obtain ⟨p, q1, q2, q3, q4⟩ := specIns l out d hl (by omega) hm hlen hs out.length 0 out.length (by omega) (by omega) (by omega) (fun j hj => by omega) (fun j hj hj' => by omega)
  have hnew : (out.take p ++ (d : Int) :: out.drop p).Perm (from_ l.length d) := by
   refine List.perm_middle.trans ?_
   rw [List.take_append_drop]
   exact (hp.cons _).trans (from_cons _ _ (by omega)).symm
  have h := q4 _ (ih _ (by omega) hnew (ins_sorted l out d p (by omega) hm hn hs q2 q3))
  refine Ev.step (fun k => ?_) h
  rw [spec_SuffixRows.l0, if_pos (by omega), show ((d + 1 : Nat) : Int) - 1 = (d : Int) by omega]
  rfl
theorem specRows_ev (l : List Int) (hl : l.length ≤ 300) : Ev (fun k => spec_SuffixRows.f k l) (rowsOf l) := by
 have h := specRows_l0 l hl (l.length + 1) [] (by omega) (by rw [from_top]) List.Pairwise.nil
 refine Ev.congr (fun k => ?_) h
 unfold spec_SuffixRows.f spec_TextOk.f
 rw [Option.bind_some, decide_eq_true (by omega), if_pos rfl, show ((l.length + 1 : Nat) : Int) - 1 = (l.length : Int) by omega]
theorem implRows_l0 (l : List Int) (hl : l.length ≤ 300) (hb : bytesOk l) (d : Nat) : ∀ i : Nat, i + d = l.length + 1 → Ev (fun k => impl_suffixRows.l0 k ((List.range i).map fun (i : Nat) => (i : Int)) ((l.length : Int) + 1) (i : Int) l) (rowsOf l) := by
 induction d with
 | zero =>
  intro i h
  have e : i = l.length + 1 := by omega
  subst e
  refine Ev.step (f := fun _ => some _) (fun k => ?_) (Ev.now _)
  rw [impl_suffixRows.l0, if_neg (by omega), slices_SortFunc_66.f, if_pos ?_, Option.bind_some]
  ·rfl
  ·simp only [Bool.and_eq_true, List.all_eq_true, decide_eq_true_eq, Fv.isB]
   refine ⟨⟨hb, fun x hx => (mem_upto _ _).1 hx⟩, by simp; omega⟩
 | succ d ih =>
  intro i h
  refine Ev.step (fun k => ?_) (ih (i + 1) (by omega))
  rw [impl_suffixRows.l0, if_pos (by omega), if_pos (by simp; omega), w64 (by omega) (by omega), List.range_succ, List.map_append]
  rfl
theorem implRows_ev (l : List Int) (hl : l.length ≤ 300) (hb : bytesOk l) : Ev (fun k => impl_suffixRows.f k l) (rowsOf l) := by
 have h := implRows_l0 l hl hb (l.length + 1) 0 (by omega)
 refine Ev.congr (fun k => ?_) h
 unfold impl_suffixRows.f
 rw [w64 (by omega) (by omega)]
 rfl
theorem specLcp_l0 (l : List Int) (hl : l.length ≤ 300) (d : Nat) : ∀ i : Nat, i + d = (rowsOf l).length → Ev (fun k => spec_LcpRows.l0 k l ((lcpRows l).take i) (i : Int) (rowsOf l)) (lcpRows l) := by
 have hR := rowsOf_len l
 have hL := lcpRows_len l
 induction d with
 | zero =>
  intro i h
  refine Ev.step (f := fun _ => some _) (fun k => ?_) (Ev.now _)
  rw [spec_LcpRows.l0, if_neg (by omega), List.take_of_length_le (by omega)]
 | succ d ih =>
  intro i h
  have hat : (lcpRows l).getD i 0 = lcpAt l (rowsOf l) i := lcpL_at l (rowsOf l) i (by omega)
  by_cases c : i = 0
  ·subst c
   refine Ev.step (fun k => ?_) (ih 1 (by omega))
   rw [spec_LcpRows.l0, if_pos (by omega), if_pos (by omega), if_pos (by simp), w64 (by omega) (by omega), take_succ_getD _ 0 0 (by omega), hat]
   rfl
  ·obtain ⟨j, rfl⟩ : ∃ j, i = j + 1 := ⟨i - 1, by omega⟩
   obtain ⟨a0, a1⟩ := rowsOf_at l j (by omega)
   obtain ⟨b0, b1⟩ := rowsOf_at l (j + 1) (by omega)
   obtain ⟨K, hK⟩ := ev_out (specCommon_ev (l.drop ((rowsOf l).getD j 0).toNat) (l.drop ((rowsOf l).getD (j + 1) 0).toNat) (by rw [List.length_drop]; omega) (by rw [List.length_drop]; omega))
   obtain ⟨K2, hK2⟩ := ev_out (ih (j + 1 + 1) (by omega))
   refine ev_mk (K + K2 + 1) fun k hk => ?_
   obtain ⟨k, rfl⟩ : ∃ m, k = m + 1 := ⟨k - 1, by omega⟩
   rw [spec_LcpRows.l0, if_pos (by omega), if_neg (by omega), w64 (by omega) (by omega), show ((j + 1 : Nat) : Int) - 1 = (j : Int) by omega, if_pos (by omega), if_pos (by omega), rd_nat, rd_nat, if_pos a0, if_pos a1, if_pos (by omega), if_pos b0, if_pos b1,
    hK k (by omega), Option.bind_some, if_pos (by rw [List.length_take]; omega), w64 (by omega) (by omega)]
   rw [take_succ_getD _ 0 (j + 1) (by omega), hat] at hK2
   exact hK2 k (by omega)
theorem specLcp_ev (l : List Int) (hl : l.length ≤ 300) : Ev (fun k => spec_LcpRows.f k l) (lcpRows l) := by
 obtain ⟨K, hK⟩ := ev_out (specRows_ev l hl)
 obtain ⟨K2, hK2⟩ := ev_out (specLcp_l0 l hl (rowsOf l).length 0 (by omega))
 refine ev_mk (K + K2) fun k hk => ?_
 unfold spec_LcpRows.f
 rw [hK k (by omega), Option.bind_some]
 exact hK2 k (by omega)
theorem implLcp_l0 (l : List Int) (hl : l.length ≤ 300) (d : Nat) : ∀ i : Nat, 1 ≤ i → i + d = (rowsOf l).length → Ev (fun k => impl_lcpRows.l0 k l (i : Int) (rowsOf l) ((lcpRows l).take i ++ List.replicate d 0)) (lcpRows l) := by
 have hR := rowsOf_len l
 have hL := lcpRows_len l
 induction d with
 | zero =>
  intro i h1 h
  refine Ev.step (f := fun _ => some _) (fun k => ?_) (Ev.now _)
  rw [impl_lcpRows.l0, if_neg (by omega), List.take_of_length_le (by omega)]
  simp
 | succ d ih =>
  intro i h1 h
  have hat : (lcpRows l).getD i 0 = lcpAt l (rowsOf l) i := lcpL_at l (rowsOf l) i (by omega)
  obtain ⟨j, rfl⟩ : ∃ j, i = j + 1 := ⟨i - 1, by omega⟩
  obtain ⟨a0, a1⟩ := rowsOf_at l j (by omega)
  obtain ⟨b0, b1⟩ := rowsOf_at l (j + 1) (by omega)
  obtain ⟨K, hK⟩ := ev_out (implCommon_ev (l.drop ((rowsOf l).getD j 0).toNat) (l.drop ((rowsOf l).getD (j + 1) 0).toNat) (by rw [List.length_drop]; omega) (by rw [List.length_drop]; omega))
  obtain ⟨K2, hK2⟩ := ev_out (ih (j + 1 + 1) (by omega) (by omega))
  refine ev_mk (K + K2 + 1) fun k hk => ?_
  obtain ⟨k, rfl⟩ : ∃ m, k = m + 1 := ⟨k - 1, by omega⟩
  rw [impl_lcpRows.l0, if_pos (by omega), w64 (by omega) (by omega), show ((j + 1 : Nat) : Int) - 1 = (j : Int) by omega, if_pos (by omega), if_pos (by omega), rd_nat, rd_nat, if_pos a0, if_pos a1, if_pos (by omega), if_pos b0, if_pos b1,
   hK k (by omega), Option.bind_some, if_pos (by rw [fill_length _ 0 (j + 1) (d + 1) (by omega)]; omega), w64 (by omega) (by omega), Int.toNat_natCast, fill_set (lcpRows l) 0 _ (j + 1) d (by omega) (by rw [hat]; rfl)]
  exact hK2 k (by omega)
theorem implLcp_ev (l : List Int) (hl : l.length ≤ 300) (hb : bytesOk l) : Ev (fun k => impl_lcpRows.f k l) (lcpRows l) := by
 have hR := rowsOf_len l
 have hL := lcpRows_len l
 obtain ⟨K, hK⟩ := ev_out (implRows_ev l hl hb)
 obtain ⟨K2, hK2⟩ := ev_out (implLcp_l0 l hl l.length 1 (by omega) (by omega))
 refine ev_mk (K + K2) fun k hk => ?_
 unfold impl_lcpRows.f
 rw [hK k (by omega), Option.bind_some, if_pos (by omega), if_pos (by omega), Int.toNat_natCast, hR]
 have := hK2 k (by omega)
 rw [take_succ_getD _ 0 0 (by omega), lcpRows, lcpL_at l (rowsOf l) 0 (by omega)] at this
 exact this
theorem toByteS_l0 (l : List Int) (hl : l.length ≤ 4000000) (d : Nat) : ∀ i : Nat, i + d = l.length → Ev (fun k => laws_toByteS.l0 k l (i : Int) (l.take i ++ List.replicate d 0)) l := by
 induction d with
 | zero =>
  intro i h
  refine Ev.step (f := fun _ => some l) (fun k => ?_) (Ev.now l)
  rw [laws_toByteS.l0]
  rw [if_neg (by omega), List.take_of_length_le (by omega)]
  simp
 | succ d ih =>
  intro i h
  refine Ev.step (f := fun k => laws_toByteS.l0 k l ((i + 1 : Nat) : Int) (l.take (i + 1) ++ List.replicate d 0)) (fun k => ?_) (ih (i + 1) (by omega))
  rw [laws_toByteS.l0]
  rw [if_pos (by omega), if_pos (by omega), if_pos (by rw [fill_length l 0 i (d + 1) h]; omega), w64 (by omega) (by omega), rd_nat, Int.toNat_natCast, fill_set l 0 _ i d h rfl]
  rfl
theorem toByteS_ev (l : List Int) (hl : l.length ≤ 4000000) : Ev (fun k => laws_toByteS.f k l) l := by
 refine Ev.congr (f := fun k => laws_toByteS.l0 k l ((0 : Nat) : Int) (l.take 0 ++ List.replicate l.length 0)) (fun k => ?_) (toByteS_l0 l hl l.length 0 (by omega))
 unfold laws_toByteS.f
 rw [if_pos (by omega), Int.toNat_natCast, if_pos (by omega)]
 rfl
theorem eqByteS_l0 (l : List Int) (hl : l.length ≤ 4000000) (d : Nat) : ∀ i : Nat, i + d = l.length → Ev (fun k => laws_eqByteS.l0 k l l (i : Int)) true := by
 induction d with
 | zero =>
  intro i h
  refine Ev.step (f := fun _ => some true) (fun k => ?_) (Ev.now true)
  rw [laws_eqByteS.l0]
  rw [if_neg (by omega)]
 | succ d ih =>
  intro i h
  refine Ev.step (f := fun k => laws_eqByteS.l0 k l l ((i + 1 : Nat) : Int)) (fun k => ?_) (ih (i + 1) (by omega))
  rw [laws_eqByteS.l0]
  rw [if_pos (by omega), if_pos (by omega), if_pos (by omega), if_pos rfl, w64 (by omega) (by omega)]
  rfl
theorem eqByteS_ev (l : List Int) (hl : l.length ≤ 4000000) : Ev (fun k => laws_eqByteS.f k l l) true := by
 refine Ev.congr (f := fun k => laws_eqByteS.l0 k l l ((0 : Nat) : Int)) (fun k => ?_) (eqByteS_l0 l hl l.length 0 (by omega))
 unfold laws_eqByteS.f
 rw [if_pos rfl]
 rfl
def depthOf (L : List Int) (lo hi : Nat) : Int := ((L.take hi).drop (lo + 1)).foldl mn (L.getD (lo + 1) 0)
theorem specDepth_l0 (L : List Int) (hi : Nat) (hl : L.length ≤ 1000000) (hh : hi ≤ L.length) (d : Nat) : ∀ (i : Nat) (v : Int), i + d = hi → Ev (fun k => spec_l11Depth.l0 k L (hi : Int) v (i : Int)) (((L.take hi).drop i).foldl mn v) := by
 induction d with
 | zero =>
  intro i v h
  refine Ev.step (f := fun _ => some _) (fun k => ?_) (Ev.now _)
  rw [spec_l11Depth.l0, if_neg (by omega), List.drop_eq_nil_of_le (by rw [List.length_take]; omega)]
  rfl
 | succ d ih =>
  intro i v h
  rw [drop_at (L.take hi) i (by rw [List.length_take]; omega), List.foldl_cons]
  have e : (L.take hi).getD i 0 = L.getD i 0 := by
   rw [lget_lt _ i 0 (by rw [List.length_take]; omega), lget_lt L i 0 (by omega), List.getElem_take]
  rw [e]
  refine Ev.step (fun k => ?_) (ih (i + 1) _ (by omega))
  rw [spec_l11Depth.l0, if_pos (by omega), if_pos (by omega), if_pos (by omega), rd_nat, w64 (by omega) (by omega)]
  rfl
theorem specDepth_ev (L : List Int) (lo hi : Nat) (hl : L.length ≤ 1000000) (h1 : lo + 2 ≤ hi) (h2 : hi ≤ L.length) : Ev (fun k => spec_l11Depth.f k L (lo : Int) (hi : Int)) (depthOf L lo hi) := by
 refine Ev.congr (fun k => ?_) (specDepth_l0 L hi hl h2 (hi - (lo + 1)) (lo + 1) (L.getD (lo + 1) 0) (by omega))
 unfold spec_l11Depth.f
 rw [w64 (by omega) (by omega), if_pos (by omega), if_pos (by omega), show (lo : Int) + 1 = ((lo + 1 : Nat) : Int) by omega, rd_nat]
theorem implMin_l0 (S : List Int) (hl : S.length ≤ 1000000) (d : Nat) : ∀ (i : Nat) (v : Int), i + d = S.length → Ev (fun k => slices_Min_int_int.l0 k S v (i : Int)) ((S.drop i).foldl mn v) := by
 induction d with
 | zero =>
  intro i v h
  refine Ev.step (f := fun _ => some _) (fun k => ?_) (Ev.now _)
  rw [slices_Min_int_int.l0, if_neg (by omega), List.drop_eq_nil_of_le (by omega)]
  rfl
 | succ d ih =>
  intro i v h
  rw [drop_at S i (by omega), List.foldl_cons]
  refine Ev.step (fun k => ?_) (ih (i + 1) _ (by omega))
  rw [slices_Min_int_int.l0, if_pos (by omega), if_pos (by omega), rd_nat, w64 (by omega) (by omega)]
  rfl
theorem implMin_ev (L : List Int) (lo hi : Nat) (hl : L.length ≤ 1000000) (h1 : lo + 2 ≤ hi) (h2 : hi ≤ L.length) : Ev (fun k => slices_Min_int_int.f k ((L.take hi).drop (lo + 1))) (depthOf L lo hi) := by
 have hS : ((L.take hi).drop (lo + 1)).length = hi - (lo + 1) := by rw [List.length_drop, List.length_take]; omega
 have e0 : rd ((L.take hi).drop (lo + 1)) 0 = L.getD (lo + 1) 0 := by
  refine (rd_nat ((L.take hi).drop (lo + 1)) 0).trans ?_
  rw [lget_lt _ 0 0 (by omega), List.getElem_drop, List.getElem_take, lget_lt L (lo + 1) 0 (by omega)]
 have h := implMin_l0 ((L.take hi).drop (lo + 1)) (by omega) (hi - (lo + 1) - 1) 1 (L.getD (lo + 1) 0) (by omega)
 have e1 : (((L.take hi).drop (lo + 1)).drop 1).foldl mn (L.getD (lo + 1) 0) = depthOf L lo hi := by
  unfold depthOf
  conv => rhs; rw [drop_at (L.take hi) (lo + 1) (by rw [List.length_take]; omega), List.foldl_cons]
  rw [lget_lt (L.take hi) (lo + 1) 0 (by rw [List.length_take]; omega), List.getElem_take, lget_lt L (lo + 1) 0 (by omega), mn_self, List.drop_drop]
 rw [e1] at h
 refine Ev.congr (fun k => ?_) h
 unfold slices_Min_int_int.f
 rw [if_neg (by omega), if_pos (by omega), e0]
 rfl
def tailB (L : List Int) (lo hi d : Int) : Bool := if lo = 0 then (if hi = (L.length : Int) then true else decide (rd L hi < d)) else if rd L lo < d then (if hi = (L.length : Int) then true else decide (rd L hi < d)) else false
/-- Whether rows are a stretch. -/
def okS (L : List Int) (lo hi d : Int) : Bool := if 0 ≤ lo ∧ lo + 2 ≤ hi ∧ hi ≤ (L.length : Int) then (if d = depthOf L lo.toNat hi.toNat then tailB L lo hi d else false) else false
theorem specOkS_ev (L : List Int) (lo hi d : Int) (hl : L.length ≤ 1000000) : Ev (fun k => spec_l11Ok.f k L lo hi d) (okS L lo hi d) := by
 have no : okS L lo hi d = false → Ev (fun k => spec_l11Ok.j0 k L true lo hi d) (okS L lo hi d) := fun h => Ev.step (f := fun _ => some _) (fun k => by rw [spec_l11Ok.j0, if_pos rfl, h]) (Ev.now _)
 by_cases c1 : lo < 0
 ·refine Ev.congr (fun k => ?_) (no (by unfold okS; rw [if_neg (by omega)]))
  unfold spec_l11Ok.f
  rw [if_pos c1]
 by_cases c2 : lo > (L.length : Int)
 ·refine Ev.congr (fun k => ?_) (no (by unfold okS; rw [if_neg (by omega)]))
  unfold spec_l11Ok.f
  rw [if_neg c1, if_pos c2]
 by_cases c3 : hi > (L.length : Int)
 ·refine Ev.congr (fun k => ?_) (no (by unfold okS; rw [if_neg (by omega)]))
  unfold spec_l11Ok.f
  rw [if_neg c1, if_neg c2, if_pos c3]
 by_cases c4 : hi < lo + 2
 ·refine Ev.congr (fun k => ?_) (no (by unfold okS; rw [if_neg (by omega)]))
  unfold spec_l11Ok.f
  rw [if_neg c1, if_neg c2, if_neg c3, w64 (by omega) (by omega), if_pos c4]
 obtain ⟨lo, rfl⟩ := Int.eq_ofNat_of_zero_le (show 0 ≤ lo by omega)
 obtain ⟨hi, rfl⟩ := Int.eq_ofNat_of_zero_le (show 0 ≤ hi by omega)
 obtain ⟨K, hK⟩ := ev_out (specDepth_ev L lo hi hl (by omega) (by omega))
 have hok : okS L lo hi d = if d = depthOf L lo hi then tailB L lo hi d else false := by
  unfold okS
  rw [if_pos (by omega), Int.toNat_natCast, Int.toNat_natCast]
 have hj : Ev (fun k => spec_l11Ok.j0 k L (d != depthOf L lo hi) lo hi d) (okS L lo hi d) := by
  by_cases e : d = depthOf L lo hi
  ·refine Ev.step (f := fun _ => some _) (fun k => ?_) (Ev.now _)
   rw [hok, if_pos e, spec_l11Ok.j0, bne_eq_false_iff_eq.mpr e, if_neg (by decide)]
   unfold tailB
   by_cases e0 : (lo : Int) = 0
   ·rw [if_pos e0, if_pos e0]
    by_cases e1 : (hi : Int) = (L.length : Int)
    ·rw [if_pos e1, if_pos e1]
    ·rw [if_neg e1, if_neg e1, if_pos (by omega), if_pos (by omega)]
   ·rw [if_neg e0, if_neg e0, if_pos (by omega), if_pos (by omega)]
    by_cases e2 : rd L lo < d
    ·rw [if_pos e2, if_pos e2]
     by_cases e1 : (hi : Int) = (L.length : Int)
     ·rw [if_pos e1, if_pos e1]
     ·rw [if_neg e1, if_neg e1, if_pos (by omega), if_pos (by omega)]
    ·rw [if_neg e2, if_neg e2]
  ·refine Ev.step (f := fun _ => some _) (fun k => ?_) (Ev.now _)
   rw [hok, if_neg e, spec_l11Ok.j0, if_pos (bne_iff_ne.mpr e)]
 obtain ⟨K2, hK2⟩ := ev_out hj
 refine ev_mk (K + K2) fun k hk => ?_
 unfold spec_l11Ok.f
 rw [if_neg c1, if_neg c2, if_neg c3, w64 (by omega) (by omega), if_neg c4, hK k (by omega), Option.bind_some]
 exact hK2 k (by omega)
theorem isRange_eq (a b c : Int) : impl_isRange.f a b c = some (decide (0 ≤ a ∧ a ≤ b ∧ b ≤ c)) := by
 unfold impl_isRange.f
 by_cases h1 : 0 ≤ a
 ·by_cases h2 : a ≤ b
  ·rw [if_pos h1, if_pos h2]
   congr 1
   exact decide_eq_decide.2 ⟨fun h => ⟨h1, h2, h⟩, fun h => h.2.2⟩
  ·rw [if_pos h1, if_neg h2, decide_eq_false (fun h => h2 h.2.1)]
 ·rw [if_neg h1, decide_eq_false (fun h => h1 h.1)]
theorem implOkS_ev (L : List Int) (lo hi d : Int) (hl : L.length ≤ 1000000) : Ev (fun k => impl_isStretch.f k L lo hi d) (okS L lo hi d) := by
 have no : okS L lo hi d = false → Ev (fun k => impl_isStretch.j0 k L true lo hi d) (okS L lo hi d) := fun h => Ev.step (f := fun _ => some _) (fun k => by rw [impl_isStretch.j0, if_pos rfl, h]) (Ev.now _)
 by_cases c : 0 ≤ lo ∧ lo ≤ hi ∧ hi ≤ (L.length : Int)
 ·obtain ⟨c1, c2, c3⟩ := c
  obtain ⟨lo, rfl⟩ := Int.eq_ofNat_of_zero_le c1
  obtain ⟨hi, rfl⟩ := Int.eq_ofNat_of_zero_le (show 0 ≤ hi by omega)
  by_cases c4 : (hi : Int) - lo < 2
  ·refine Ev.congr (fun k => ?_) (no (by unfold okS; rw [if_neg (by omega)]))
   unfold impl_isStretch.f
   rw [isRange_eq, Option.bind_some, decide_eq_true ⟨c1, c2, c3⟩, if_pos rfl, w64 (by omega) (by omega), if_pos c4]
  obtain ⟨K, hK⟩ := ev_out (implMin_ev L lo hi hl (by omega) (by omega))
  have hok : okS L lo hi d = if d = depthOf L lo hi then tailB L lo hi d else false := by
   unfold okS
   rw [if_pos (by omega), Int.toNat_natCast, Int.toNat_natCast]
  have hj : Ev (fun k => impl_isStretch.j0 k L (depthOf L lo hi != d) lo hi d) (okS L lo hi d) := by
   by_cases e : d = depthOf L lo hi
   ·refine Ev.step (f := fun _ => some _) (fun k => ?_) (Ev.now _)
    rw [hok, if_pos e, impl_isStretch.j0, bne_eq_false_iff_eq.mpr e.symm, if_neg (by decide)]
    unfold tailB
    by_cases e0 : (lo : Int) = 0
    ·rw [if_pos e0, if_pos e0]
     by_cases e1 : (hi : Int) = (L.length : Int)
     ·rw [if_pos e1, if_pos e1]
     ·rw [if_neg e1, if_neg e1, if_pos (by omega), if_pos (by omega)]
    ·rw [if_neg e0, if_neg e0, if_pos (by omega), if_pos (by omega)]
     by_cases e2 : rd L lo < d
     ·rw [if_pos e2, if_pos e2]
      by_cases e1 : (hi : Int) = (L.length : Int)
      ·rw [if_pos e1, if_pos e1]
      ·rw [if_neg e1, if_neg e1, if_pos (by omega), if_pos (by omega)]
     ·rw [if_neg e2, if_neg e2]
   ·refine Ev.step (f := fun _ => some _) (fun k => ?_) (Ev.now _)
    rw [hok, if_neg e, impl_isStretch.j0, if_pos (bne_iff_ne.mpr (Ne.symm e))]
  obtain ⟨K2, hK2⟩ := ev_out hj
  refine ev_mk (K + K2) fun k hk => ?_
  unfold impl_isStretch.f
  rw [isRange_eq, Option.bind_some, decide_eq_true ⟨c1, c2, c3⟩, if_pos rfl, w64 (by omega) (by omega), if_neg c4, w64 (by omega) (by omega), if_pos (by omega), if_pos (by omega), if_pos c3, Int.toNat_natCast, show ((lo : Int) + 1).toNat = lo + 1 by omega,
   hK k (by omega), Option.bind_some]
  exact hK2 k (by omega)
 ·refine Ev.congr (fun k => ?_) (no (by unfold okS; rw [if_neg (by omega)]))
  unfold impl_isStretch.f
  rw [isRange_eq, Option.bind_some, decide_eq_false c, if_neg (by decide)]
def stretchB (l : List Int) (lo hi d : Int) : Bool := if l.length ≤ 300 then okS (lcpRows l) lo hi d else false
theorem specStretchOk_ev (l : List Int) (lo hi d : Int) : Ev (fun k => spec_StretchOk.f k l lo hi d) (stretchB l lo hi d) := by
 unfold spec_StretchOk.f spec_TextOk.f stretchB
 by_cases c : l.length ≤ 300
 ·obtain ⟨K, hK⟩ := ev_out (specLcp_ev l c)
  obtain ⟨K2, hK2⟩ := ev_out (specOkS_ev (lcpRows l) lo hi d (by rw [lcpRows_len]; omega))
  refine ev_mk (K + K2) fun k hk => ?_
  rw [Option.bind_some, decide_eq_true (by omega), if_pos rfl, hK k (by omega), Option.bind_some, hK2 k (by omega), Option.bind_some, if_pos c]
 ·refine ev_mk 0 fun k _ => ?_
  rw [Option.bind_some, decide_eq_false (by omega), if_neg (by decide), if_neg c]
theorem implStretchOk_ev (l : List Int) (lo hi d : Int) (hb : bytesOk l) : Ev (fun k => impl_StretchOk.f k l lo hi d) (stretchB l lo hi d) := by
 unfold impl_StretchOk.f impl_TextOk.f stretchB
 by_cases c : l.length ≤ 300
 ·obtain ⟨K, hK⟩ := ev_out (implLcp_ev l c hb)
  obtain ⟨K2, hK2⟩ := ev_out (implOkS_ev (lcpRows l) lo hi d (by rw [lcpRows_len]; omega))
  refine ev_mk (K + K2) fun k hk => ?_
  rw [Option.bind_some, decide_eq_true (by omega), if_pos rfl, hK k (by omega), Option.bind_some, hK2 k (by omega), Option.bind_some, if_pos c]
 ·refine ev_mk 0 fun k _ => ?_
  rw [Option.bind_some, decide_eq_false (by omega), if_neg (by decide), if_neg c]
def marksB (n : Nat) : List Int := (List.range n).map fun (j : Nat) => (1 + (j : Int)) % 256
theorem marksB_len (n : Nat) : (marksB n).length = n := by simp [marksB]
theorem marksB_get (n j : Nat) (h : j < n) : (marksB n).getD j 0 = (1 + (j : Int)) % 256 := by
 rw [lget_lt _ j 0 (by rw [marksB_len]; exact h)]
 simp [marksB]
theorem markB_l0 (l : List Int) (hl : l.length ≤ 4000000) (d : Nat) : ∀ i : Nat, i + d = l.length → Ev (fun k => laws_markByteS.l0 k ((marksB l.length).take i ++ l.drop i) (1 + (i : Int)) (i : Int)) (1 + (l.length : Int), marksB l.length) := by
 induction d with
 | zero =>
  intro i h
  obtain rfl : i = l.length := by omega
  refine Ev.step (f := fun _ => some _) (fun k => ?_) (Ev.now _)
  rw [laws_markByteS.l0, if_neg (by rw [over_len _ _ _ (marksB_len _) (by omega)]; omega), List.drop_length, List.append_nil, List.take_of_length_le (by rw [marksB_len]; omega)]
 | succ d ih =>
  intro i h
  refine Ev.step (f := fun k => laws_markByteS.l0 k ((marksB l.length).take (i + 1) ++ l.drop (i + 1)) (1 + ((i + 1 : Nat) : Int)) ((i + 1 : Nat) : Int)) (fun k => ?_) (ih (i + 1) (by omega))
  rw [laws_markByteS.l0, if_pos (by rw [over_len _ _ _ (marksB_len _) (by omega)]; omega), if_pos (by omega), w64 (by omega) (by omega), w64 (by omega) (by omega), Int.toNat_natCast, over_set (marksB l.length) l 0 _ i (marksB_len _) (by omega) (marksB_get _ _ (by omega)).symm]
  rfl
theorem markB_ev (l : List Int) (hl : l.length ≤ 4000000) : Ev (fun k => laws_markByteS.f k l 1) (1 + (l.length : Int), marksB l.length) :=
 Ev.congr (f := fun k => laws_markByteS.l0 k ((marksB l.length).take 0 ++ l.drop 0) (1 + ((0 : Nat) : Int)) ((0 : Nat) : Int)) (fun _ => rfl) (markB_l0 l hl l.length 0 (by omega))
theorem heldB_l0 (n : Nat) (hn : n ≤ 4000000) (d : Nat) : ∀ i : Nat, i + d = n → Ev (fun k => laws_heldByteS.l0 k (marksB n) (1 + (i : Int)) (i : Int)) (1 + (n : Int)) := by
 have hl := marksB_len n
 induction d with
 | zero =>
  intro i h
  obtain rfl : i = n := by omega
  refine Ev.step (f := fun _ => some _) (fun k => ?_) (Ev.now _)
  rw [laws_heldByteS.l0, if_neg (by omega)]
 | succ d ih =>
  intro i h
  refine Ev.step (f := fun k => laws_heldByteS.l0 k (marksB n) (1 + ((i + 1 : Nat) : Int)) ((i + 1 : Nat) : Int)) (fun k => ?_) (ih (i + 1) (by omega))
  rw [laws_heldByteS.l0, if_pos (by omega), if_pos (by omega), rd_nat, marksB_get _ _ (by omega), if_pos rfl, w64 (by omega) (by omega), w64 (by omega) (by omega)]
  rfl
theorem heldB_ev (n : Nat) (hn : n ≤ 4000000) : Ev (fun k => laws_heldByteS.f k (marksB n) 1) (1 + (n : Int)) :=
 Ev.congr (f := fun k => laws_heldByteS.l0 k (marksB n) (1 + ((0 : Nat) : Int)) ((0 : Nat) : Int)) (fun _ => rfl) (heldB_l0 n hn n 0 (by omega))
theorem foldl_mn_le (l : List Int) : ∀ v : Int, l.foldl mn v ≤ v := by
 induction l with
 | nil => intro v; exact Int.le_refl _
 | cons x xs ih =>
  intro v
  rw [List.foldl_cons]
  refine Int.le_trans (ih _) ?_
  unfold mn; split <;> omega
theorem foldl_mn_ge (l : List Int) : ∀ v : Int, 0 ≤ v → (∀ x ∈ l, 0 ≤ x) → 0 ≤ l.foldl mn v := by
 induction l with
 | nil => intro v h _; exact h
 | cons x xs ih =>
  intro v h hx
  rw [List.foldl_cons]
  have := hx x (List.mem_cons_self ..)
  exact ih _ (by unfold mn; split <;> omega) (fun y hy => hx y (List.mem_cons_of_mem _ hy))
theorem rowsOf_bd (l : List Int) (j : Nat) (hj : j < l.length + 1) : 0 ≤ (rowsOf l).getD j 0 ∧ (rowsOf l).getD j 0 ≤ l.length :=
 rd_rows (fun x hx => (rowsOf_mem l x).1 hx) j (by rw [rowsOf_len]; exact hj)
theorem lcpRows_ge (l : List Int) : ∀ x ∈ lcpRows l, 0 ≤ x := fun x hx => by
 obtain ⟨j, hj, rfl⟩ := List.getElem_of_mem hx
 rw [← lget_lt _ j 0 hj]
 unfold lcpRows at hj ⊢
 rw [lcpL_len] at hj
 rw [lcpL_at _ _ _ hj]
 exact (lcpAt_le l _ j).1
theorem stretch_room {l : List Int} {lo hi d : Int} (h : stretchB l lo hi d = true) : l.length ≤ 300 ∧ ∃ a i dn : Nat, lo = (a : Int) ∧ d = (dn : Int) ∧ a < l.length + 1 ∧ (rowsOf l).getD a 0 = (i : Int) ∧ i + dn ≤ l.length := by
 unfold stretchB at h
 by_cases c : l.length ≤ 300
 case neg => rw [if_neg c] at h; exact absurd h (by decide)
 rw [if_pos c] at h
 unfold okS at h
 have hL := lcpRows_len l
 by_cases c2 : 0 ≤ lo ∧ lo + 2 ≤ hi ∧ hi ≤ ((lcpRows l).length : Int)
 case neg => rw [if_neg c2] at h; exact absurd h (by decide)
 rw [if_pos c2] at h
 by_cases c3 : d = depthOf (lcpRows l) lo.toNat hi.toNat
 case neg => rw [if_neg c3] at h; exact absurd h (by decide)
 obtain ⟨a, rfl⟩ := Int.eq_ofNat_of_zero_le c2.1
 rw [Int.toNat_natCast] at c3
 obtain ⟨r0, r1⟩ := rowsOf_bd l a (by omega)
 obtain ⟨i, hi'⟩ := Int.eq_ofNat_of_zero_le r0
 have hat : (lcpRows l).getD (a + 1) 0 = lcpAt l (rowsOf l) (a + 1) := lcpL_at l (rowsOf l) (a + 1) (by rw [rowsOf_len]; omega)
 have hge := lcpAt_le l (rowsOf l) (a + 1)
 have hle : lcpAt l (rowsOf l) (a + 1) ≤ (l.length : Int) - i := by
  unfold lcpAt
  rw [if_neg (by omega), Nat.add_sub_cancel, hi', Int.toNat_natCast]
  have := (lcpB_le (l.drop i) (l.drop ((rowsOf l).getD (a + 1) 0).toNat)).1
  rw [List.length_drop] at this
  omega
 have hd1 : d ≤ lcpAt l (rowsOf l) (a + 1) := by rw [c3, ← hat]; exact foldl_mn_le _ _
 have hd0 : 0 ≤ d := by
  rw [c3]
  refine foldl_mn_ge _ _ (by rw [hat]; exact hge.1) (fun x hx => lcpRows_ge l x (List.mem_of_mem_take (List.mem_of_mem_drop hx)))
 obtain ⟨dn, rfl⟩ := Int.eq_ofNat_of_zero_le hd0
 exact ⟨c, a, i, dn, rfl, rfl, by omega, hi', by omega⟩
def wordOf (l : List Int) (lo hi d : Int) : List Int := if stretchB l lo hi d = true then (l.drop ((rowsOf l).getD lo.toNat 0).toNat).take d.toNat else []
theorem wordOf_len (l : List Int) (lo hi d : Int) : (wordOf l lo hi d).length ≤ l.length := by
 unfold wordOf
 split
 ·rw [List.length_take, List.length_drop]; omega
 ·exact Nat.zero_le _
theorem take_drop_sw (l : List Int) (i d : Nat) : (l.take (i + d)).drop i = (l.drop i).take d := by rw [List.drop_take, Nat.add_sub_cancel_left]
theorem specWord_ev (l : List Int) (lo hi d : Int) : Ev (fun k => spec_StretchWord.f k l lo hi d) (wordOf l lo hi d) := by
 obtain ⟨K1, k1⟩ := ev_out (specStretchOk_ev l lo hi d)
 unfold wordOf
 by_cases c : stretchB l lo hi d = true
 ·obtain ⟨hl, a, i, dn, rfl, rfl, ha, hi', hr⟩ := stretch_room c
  obtain ⟨K2, k2⟩ := ev_out (specRows_ev l hl)
  refine ev_mk (K1 + K2) fun k hk => ?_
  have hlen := rowsOf_len l
  unfold spec_StretchWord.f
  rw [k1 _ (by omega), Option.bind_some, if_pos c, k2 _ (by omega), Option.bind_some, if_pos (by omega), if_pos (by omega), Option.bind_some, rd_nat, hi', w64 (by omega) (by omega), if_pos (by omega), if_pos (by omega), if_pos (by omega), if_pos (by simp; omega), if_pos c, Int.toNat_natCast, Int.toNat_natCast, Int.toNat_natCast, hi', Int.toNat_natCast,
   show (((i : Int) + (dn : Int)).toNat) = i + dn by omega, take_drop_sw, List.nil_append]
 ·refine ev_mk K1 fun k hk => ?_
  unfold spec_StretchWord.f
  rw [k1 _ (by omega), Option.bind_some, if_neg c, if_neg c]
theorem implWord_ev (l : List Int) (lo hi d : Int) (hb : bytesOk l) : Ev (fun k => impl_StretchWord.f k l lo hi d) (wordOf l lo hi d) := by
 obtain ⟨K1, k1⟩ := ev_out (implStretchOk_ev l lo hi d hb)
 unfold wordOf
 by_cases c : stretchB l lo hi d = true
 ·obtain ⟨hl, a, i, dn, rfl, rfl, ha, hi', hr⟩ := stretch_room c
  obtain ⟨K2, k2⟩ := ev_out (implRows_ev l hl hb)
  refine ev_mk (K1 + K2) fun k hk => ?_
  have hlen := rowsOf_len l
  have hdl : (l.drop i).length = l.length - i := List.length_drop
  unfold impl_StretchWord.f bytes_Clone.f
  rw [k1 _ (by omega), Option.bind_some, if_pos c, k2 _ (by omega), Option.bind_some, if_pos (by omega), if_pos (by omega), rd_nat, hi', if_pos (by omega), if_pos (by omega), if_pos (by omega), Int.toNat_natCast, if_pos (by omega), Int.toNat_natCast, if_pos (by rw [List.length_take]; omega), Option.bind_some, if_pos c, Int.toNat_natCast, hi', Int.toNat_natCast]
 ·refine ev_mk K1 fun k hk => ?_
  unfold impl_StretchWord.f
  rw [k1 _ (by omega), Option.bind_some, if_neg c, if_neg c]
theorem FnExactStretchWord : laws_FnExactStretchWord.Pure := by
 intro l lo hi d o0 _
 by_cases g0 : (l.length : Int) > 1048576
 ·exact ⟨0, by unfold laws_FnExactStretchWord.f; rw [if_pos g0]⟩
 have hwl := wordOf_len l lo hi d
 obtain ⟨K0, h0⟩ := ev_out (toByteS_ev l (by omega))
 obtain ⟨K1, h1⟩ := ev_out (specWord_ev l lo hi d)
 obtain ⟨K2, h2⟩ := ev_out (implWord_ev l lo hi d (okb_bytes o0))
 obtain ⟨K3, h3⟩ := ev_out (eqByteS_ev l (by omega))
 obtain ⟨K4, h4⟩ := ev_out (eqByteS_ev (wordOf l lo hi d) (by omega))
 obtain ⟨K5, h5⟩ := ev_out (markB_ev l (by omega))
 obtain ⟨K6, h6⟩ := ev_out (markB_ev (wordOf l lo hi d) (by omega))
 obtain ⟨K7, h7⟩ := ev_out (heldB_ev (wordOf l lo hi d).length (by omega))
 generalize wordOf l lo hi d = W at *
 obtain ⟨K, hK⟩ : ∃ K, K = K0 + K1 + K2 + K3 + K4 + K5 + K6 + K7 := ⟨_, rfl⟩
 refine ⟨K + 1, ?_⟩
 unfold laws_FnExactStretchWord.f laws_toStretch.f
 rw [if_neg g0, h0 _ (by omega), Option.bind_some, Option.bind_some]
 dsimp only
 rw [h1 _ (by omega), Option.bind_some, Option.bind_some, Option.bind_some]
 dsimp only
 rw [h2 _ (by omega), Option.bind_some, h4 _ (by omega), Option.bind_some, if_pos rfl, Option.bind_some, h3 _ (by omega), Option.bind_some, if_pos rfl, h5 _ (by omega), Option.bind_some]
 dsimp only
 rw [if_neg (by omega), Option.bind_some, show (!true) = false from rfl, laws_FnExactStretchWord.j0, if_neg (by decide), h6 _ (by omega), Option.bind_some]
 dsimp only
 rw [h7 _ (by omega), Option.bind_some, if_neg (by omega), if_pos rfl, h0 _ (by omega), Option.bind_some]
 unfold laws_toStretch.f
 rw [Option.bind_some]
 dsimp only
 rw [h2 _ (by omega), Option.bind_some, h4 _ (by omega), Option.bind_some, if_pos rfl, Option.bind_some, if_neg (by omega), if_pos rfl]

end Go.Proofs.Ytoinagnieobbpaa.Pure
