/- The program's FmOf returns what the reference's returns, for all arguments (texts of more than 2^20 bytes are let pass by the statement itself). -/
import Derived.Test.YtjfoaiabbmkdpaaQFnExactFmOfx15
import Derived.Test.YtjfoaiabbmkdpaaBase
import Derived.Test.YtjfoaiabbmkdpaaSx
import Derived.Test.YtjfoaiabbmkdpaaBits
namespace Go.Proofs.Ytjfoaiabbmkdpaa.Pure
open Go.RowKit Go.Proofs.Ytjfoaiabbmkdpaa.QFnExactFmOf Go.Proofs.YtjfoaiabbmkdpaaW.PrintWords Go.Proofs.YtjfoaiabbmkdpaaW.PrintLast Go.Proofs.YtjfoaiabbmkdpaaW.PrintMore
open Go.Proofs.Ytjfoaiabbmkdpaa Go.Proofs.Ytjfoaiabbmkdpaa.Base Go.Proofs.Ytjfoaiabbmkdpaa.Sx Go.Proofs.Ytjfoaiabbmkdpaa.Bits
set_option linter.unusedVariables false
set_option linter.unusedSimpArgs false

theorem specCmp_l0 (a b : List Int) (ha : a.length ≤ 2000000) (hb : b.length ≤ 2000000) (d : Nat) : ∀ i : Nat, i + d = a.length → i ≤ b.length → Ev (fun k => spec_l05Cmp.l0 k a b (i : Int)) (Fv.cmpB (a.drop i) (b.drop i)) := by
 induction d with
 | zero =>
  intro i h hi
  refine Ev.step (f := fun k => spec_l05Cmp.j1 k a b (i : Int) false) (fun k => ?_) (Ev.step (f := fun _ => some _) (fun k => ?_) (Ev.now _))
  ·rw [spec_l05Cmp.l0, if_neg (by omega)]
  ·rw [spec_l05Cmp.j1, if_neg (by decide), List.drop_eq_nil_of_le (show a.length ≤ i by omega)]
   by_cases c : (a.length : Int) < (b.length : Int)
   ·rw [if_pos c, drop_at b i (by omega)]
    rfl
   ·rw [if_neg c, if_neg (by omega), List.drop_eq_nil_of_le (show b.length ≤ i by omega)]
    rfl
 | succ d ih =>
  intro i h hi
  rw [drop_at a i (by omega)]
  by_cases c : i < b.length
  ·rw [drop_at b i c, Fv.cmpB]
   by_cases c1 : a.getD i 0 < b.getD i 0
   ·refine Ev.step (f := fun k => spec_l05Cmp.j1 k a b (i : Int) true) (fun k => ?_) (Ev.step (f := fun _ => some _) (fun k => ?_) (Ev.now _))
    ·rw [spec_l05Cmp.l0, if_pos (by omega), decide_eq_true (show (i : Int) < (b.length : Int) by omega)]
    ·rw [spec_l05Cmp.j1, if_pos rfl, if_pos (by omega), if_pos (by omega), if_pos (by omega), rd_nat, rd_nat, if_pos c1, if_pos c1]
   ·by_cases c2 : b.getD i 0 < a.getD i 0
    ·refine Ev.step (f := fun k => spec_l05Cmp.j1 k a b (i : Int) true) (fun k => ?_) (Ev.step (f := fun _ => some _) (fun k => ?_) (Ev.now _))
     ·rw [spec_l05Cmp.l0, if_pos (by omega), decide_eq_true (show (i : Int) < (b.length : Int) by omega)]
     ·rw [spec_l05Cmp.j1, if_pos rfl, if_pos (by omega), if_pos (by omega), if_pos (by omega), rd_nat, rd_nat, if_neg c1, if_pos c2, if_neg c1, if_pos c2]
    ·rw [if_neg c1, if_neg c2]
     refine Ev.step (f := fun k => spec_l05Cmp.j1 k a b (i : Int) true) (fun k => ?_) (Ev.step (fun k => ?_) (ih (i + 1) (by omega) (by omega)))
     ·rw [spec_l05Cmp.l0, if_pos (by omega), decide_eq_true (show (i : Int) < (b.length : Int) by omega)]
     ·rw [spec_l05Cmp.j1, if_pos rfl, if_pos (by omega), if_pos (by omega), if_pos (by omega), rd_nat, rd_nat, if_neg c1, if_neg c2, w64 (by omega) (by omega)]
      rfl
  ·rw [List.drop_eq_nil_of_le (show b.length ≤ i by omega)]
   refine Ev.step (f := fun k => spec_l05Cmp.j1 k a b (i : Int) false) (fun k => ?_) (Ev.step (f := fun _ => some _) (fun k => ?_) (Ev.now _))
   ·rw [spec_l05Cmp.l0, if_pos (by omega), decide_eq_false (show ¬ (i : Int) < (b.length : Int) by omega)]
   ·rw [spec_l05Cmp.j1, if_neg (by decide), if_neg (by omega), if_pos (by omega)]
    rfl
theorem specCmp_ev (a b : List Int) (ha : a.length ≤ 2000000) (hb : b.length ≤ 2000000) : Ev (fun k => spec_l05Cmp.f k a b) (Fv.cmpB a b) := specCmp_l0 a b ha hb a.length 0 (by omega) (by omega)
def bytesOk (l : List Int) : Prop := ∀ x ∈ l, 0 ≤ x ∧ x < 256
theorem rd_rows {l out : List Int} (ho : ∀ x ∈ out, 0 ≤ x ∧ x ≤ l.length) (j : Nat) (hj : j < out.length) : 0 ≤ out.getD j 0 ∧ out.getD j 0 ≤ l.length := by
 rw [lget_lt out j 0 hj]
 exact ho _ (List.getElem_mem _)
theorem specIns (l out : List Int) (i : Nat) (hl : l.length ≤ 300) (hi : i ≤ l.length) (ho : ∀ x ∈ out, 0 ≤ x ∧ x ≤ l.length) (hlen : out.length ≤ 1000) (hs : out.Pairwise (sl l)) (m : Nat) : ∀ lo hi_ : Nat, hi_ - lo ≤ m → lo ≤ hi_ → hi_ ≤ out.length →
  (∀ j, j < lo → j < out.length → sl l (out.getD j 0) i) → (∀ j, hi_ ≤ j → j < out.length → ¬ sl l (out.getD j 0) i) →
  ∃ p, p ≤ out.length ∧ (∀ j, j < p → j < out.length → sl l (out.getD j 0) i) ∧ (∀ j, p ≤ j → j < out.length → ¬ sl l (out.getD j 0) i) ∧
   ∀ r, Ev (fun k => spec_SuffixRows.l0 k l (out.take p ++ (i : Int) :: out.drop p) ((i : Int) - 1)) r → Ev (fun k => spec_SuffixRows.l1 k l out (i : Int) (lo : Int) (hi_ : Int)) r := by
 have pw : ∀ j j' : Nat, j < j' → j' < out.length → sl l (out.getD j 0) (out.getD j' 0) := fun j j' h h' => by
  rw [lget_lt out j 0 (by omega), lget_lt out j' 0 h']
  exact List.pairwise_iff_getElem.1 hs j j' (by omega) h' h
 induction m with
 | zero =>
  intro lo hi_ h1 h2 h3 h4 h5
  have e : hi_ = lo := by omega
  subst e
  refine ⟨hi_, h3, h4, h5, fun r hr => Ev.step (fun k => ?_) hr⟩
  rw [spec_SuffixRows.l1, if_neg (by omega), Option.bind_some, if_pos (by omega), if_pos (by omega), Option.bind_some, Int.toNat_natCast, if_pos (by simp; omega), Option.bind_some, Option.bind_some, Option.bind_some, if_pos (by simp; omega), Option.bind_some,
   if_pos (by simp; omega), w64 (by omega) (by omega)]
  simp
 | succ m ih =>
  intro lo hi_ h1 h2 h3 h4 h5
  by_cases e : lo < hi_
  ·have hmid : wrap64 (Int.tdiv (wrap64 ((lo : Int) + (hi_ : Int))) 2) = (((lo + hi_) / 2 : Nat) : Int) := by
    rw [show wrap64 ((lo : Int) + (hi_ : Int)) = (lo : Int) + (hi_ : Int) from w64 (by omega) (by omega), show Int.tdiv ((lo : Int) + (hi_ : Int)) 2 = (((lo + hi_) / 2 : Nat) : Int) from by rw [← Int.natCast_add]; rfl, w64 (by omega) (by omega)]
   obtain ⟨mid, hm⟩ : ∃ mid, mid = (lo + hi_) / 2 := ⟨_, rfl⟩
   rw [← hm] at hmid
   have hml : lo ≤ mid := by omega
   have hmh : mid < hi_ := by omega
   obtain ⟨b0, b1⟩ := rd_rows ho mid (by omega)
   obtain ⟨K, hK⟩ := ev_out (specCmp_ev (l.drop (out.getD mid 0).toNat) (l.drop i) (by rw [List.length_drop]; omega) (by rw [List.length_drop]; omega))
   by_cases c : sl l (out.getD mid 0) i
   ·have c' : Fv.cmpB (l.drop (out.getD mid 0).toNat) (l.drop i) < 0 := by have := c; unfold sl at this; rwa [Int.toNat_natCast] at this
    obtain ⟨p, q1, q2, q3, q4⟩ := ih (mid + 1) hi_ (by omega) (by omega) h3 (fun j hj hj' => by
     by_cases ej : j = mid
     ·rw [ej]; exact c
     ·exact sl_trans l _ _ _ (pw j mid (by omega) (by omega)) c) h5
    refine ⟨p, q1, q2, q3, fun r hr => ?_⟩
    obtain ⟨K2, hK2⟩ := ev_out (q4 r hr)
    refine ev_mk (K + K2 + 1) fun k hk => ?_
    obtain ⟨k, rfl⟩ : ∃ m, k = m + 1 := ⟨k - 1, by omega⟩
    rw [spec_SuffixRows.l1, if_pos (by omega), hmid, if_pos (by omega), if_pos (by omega), rd_nat, if_pos b0, if_pos b1, if_pos (by omega), if_pos (by omega), Int.toNat_natCast, hK k (by omega), Option.bind_some, if_pos c', w64 (by omega) (by omega)]
    exact hK2 k (by omega)
   ·have c' : ¬ Fv.cmpB (l.drop (out.getD mid 0).toNat) (l.drop i) < 0 := by have := c; unfold sl at this; rwa [Int.toNat_natCast] at this
    obtain ⟨p, q1, q2, q3, q4⟩ := ih lo mid (by omega) (by omega) (by omega) h4 (fun j hj hj' hh => by
     by_cases ej : j = mid
     ·rw [ej] at hh; exact c hh
     ·exact c (sl_trans l _ _ _ (pw mid j (by omega) (by omega)) hh))
    refine ⟨p, q1, q2, q3, fun r hr => ?_⟩
    obtain ⟨K2, hK2⟩ := ev_out (q4 r hr)
    refine ev_mk (K + K2 + 1) fun k hk => ?_
    obtain ⟨k, rfl⟩ : ∃ m, k = m + 1 := ⟨k - 1, by omega⟩
    rw [spec_SuffixRows.l1, if_pos (by omega), hmid, if_pos (by omega), if_pos (by omega), rd_nat, if_pos b0, if_pos b1, if_pos (by omega), if_pos (by omega), Int.toNat_natCast, hK k (by omega), Option.bind_some, if_neg c']
    exact hK2 k (by omega)
  ·obtain ⟨p, q1, q2, q3, q4⟩ := ih lo hi_ (by omega) h2 h3 h4 h5
   exact ⟨p, q1, q2, q3, q4⟩
def from_ (n d : Nat) : List Int := (upto n).filter fun x => decide ((d : Int) ≤ x)
theorem mem_from (n d : Nat) (x : Int) : x ∈ from_ n d ↔ (d : Int) ≤ x ∧ x ≤ n := by
 unfold from_
 rw [List.mem_filter, mem_upto, decide_eq_true_eq]
 omega
theorem from_nodup (n d : Nat) : (from_ n d).Nodup := (upto_nodup n).sublist List.filter_sublist
theorem from_cons (n d : Nat) (h : d ≤ n) : (from_ n d).Perm ((d : Int) :: from_ n (d + 1)) := by
 rw [List.perm_ext_iff_of_nodup (from_nodup _ _) (List.nodup_cons.2 ⟨fun h => by rw [mem_from] at h; omega, from_nodup _ _⟩)]
 intro x
 rw [List.mem_cons, mem_from, mem_from]
 omega
theorem from_zero (n : Nat) : (from_ n 0).Perm (upto n) := by
 rw [List.perm_ext_iff_of_nodup (from_nodup _ _) (upto_nodup _)]
 intro x
 rw [mem_from, mem_upto]
 omega
theorem from_top (n : Nat) : from_ n (n + 1) = [] := List.eq_nil_iff_forall_not_mem.2 fun x h => by rw [mem_from] at h; omega
theorem specRows_l0 (l : List Int) (hl : l.length ≤ 300) (d : Nat) : ∀ out : List Int, d ≤ l.length + 1 → out.Perm (from_ l.length d) → out.Pairwise (sl l) → Ev (fun k => spec_SuffixRows.l0 k l out ((d : Int) - 1)) (rowsOf l) := by
 induction d with
 | zero =>
  intro out _ hp hs
  refine Ev.step (f := fun _ => some _) (fun k => ?_) (Ev.now _)
  rw [spec_SuffixRows.l0, if_neg (by omega), rows_unique l out (hp.trans (from_zero _)) hs]
 | succ d ih =>
  intro out hd hp hs
  have hm : ∀ x ∈ out, 0 ≤ x ∧ x ≤ l.length := fun x hx => by have := (mem_from _ _ _).1 (hp.mem_iff.1 hx); omega
  have hn : (d : Int) ∉ out := fun h => by have := (mem_from _ _ _).1 (hp.mem_iff.1 h); omega
  have hlen : out.length ≤ 1000 := by
   have h1 := hp.length_eq
   have h2 : (from_ l.length (d + 1)).length ≤ (upto l.length).length := List.length_filter_le _ _
   have h3 : (upto l.length).length = l.length + 1 := by simp [upto]
   omega
  obtain ⟨p, q1, q2, q3, q4⟩ := specIns l out d hl (by omega) hm hlen hs out.length 0 out.length (by omega) (by omega) (by omega) (fun j hj => by omega) (fun j hj hj' => by omega)
  have hnew : (out.take p ++ (d : Int) :: out.drop p).Perm (from_ l.length d) := by
   refine List.perm_middle.trans ?_
   rw [List.take_append_drop]
   exact (hp.cons _).trans (from_cons _ _ (by omega)).symm
  have h := q4 _ (ih _ (by omega) hnew (ins_sorted l out d p (by omega) hm hn hs q2 q3))
  refine Ev.step (fun k => ?_) h
  rw [spec_SuffixRows.l0, if_pos (by omega), show ((d + 1 : Nat) : Int) - 1 = (d : Int) by omega]
  rfl
theorem specRows_ev (l : List Int) (hl : l.length ≤ 300) : Ev (fun k => spec_SuffixRows.f k l) (rowsOf l) := by
 have h := specRows_l0 l hl (l.length + 1) [] (by omega) (by rw [from_top]) List.Pairwise.nil
 refine Ev.congr (fun k => ?_) h
 unfold spec_SuffixRows.f spec_TextOk.f
 rw [Option.bind_some, decide_eq_true (by omega), if_pos rfl, show ((l.length + 1 : Nat) : Int) - 1 = (l.length : Int) by omega]
theorem implRows_l0 (l : List Int) (hl : l.length ≤ 300) (hb : bytesOk l) (d : Nat) : ∀ i : Nat, i + d = l.length + 1 → Ev (fun k => impl_suffixRows.l0 k ((List.range i).map fun (i : Nat) => (i : Int)) ((l.length : Int) + 1) (i : Int) l) (rowsOf l) := by
 induction d with
 | zero =>
  intro i h
  have e : i = l.length + 1 := by omega
  subst e
  refine Ev.step (f := fun _ => some _) (fun k => ?_) (Ev.now _)
  rw [impl_suffixRows.l0, if_neg (by omega), slices_SortFunc_58.f, if_pos ?_, Option.bind_some]
  ·rfl
  ·simp only [Bool.and_eq_true, List.all_eq_true, decide_eq_true_eq, Fv.isB]
   refine ⟨⟨hb, fun x hx => (mem_upto _ _).1 hx⟩, by simp; omega⟩
 | succ d ih =>
  intro i h
  refine Ev.step (fun k => ?_) (ih (i + 1) (by omega))
  rw [impl_suffixRows.l0, if_pos (by omega), if_pos (by simp; omega), w64 (by omega) (by omega), List.range_succ, List.map_append]
  rfl
theorem implRows_ev (l : List Int) (hl : l.length ≤ 300) (hb : bytesOk l) : Ev (fun k => impl_suffixRows.f k l) (rowsOf l) := by
 have h := implRows_l0 l hl hb (l.length + 1) 0 (by omega)
 refine Ev.congr (fun k => ?_) h
 unfold impl_suffixRows.f
 rw [w64 (by omega) (by omega)]
 rfl
theorem toByteS_l0 (l : List Int) (hl : l.length ≤ 4000000) (d : Nat) : ∀ i : Nat, i + d = l.length → Ev (fun k => laws_toByteS.l0 k l (i : Int) (l.take i ++ List.replicate d 0)) l := by
 induction d with
 | zero =>
  intro i h
  refine Ev.step (f := fun _ => some l) (fun k => ?_) (Ev.now l)
  rw [laws_toByteS.l0]
  rw [if_neg (by omega), List.take_of_length_le (by omega)]
  simp
 | succ d ih =>
  intro i h
  refine Ev.step (f := fun k => laws_toByteS.l0 k l ((i + 1 : Nat) : Int) (l.take (i + 1) ++ List.replicate d 0)) (fun k => ?_) (ih (i + 1) (by omega))
  rw [laws_toByteS.l0]
  rw [if_pos (by omega), if_pos (by omega), if_pos (by rw [fill_length l 0 i (d + 1) h]; omega), w64 (by omega) (by omega), rd_nat, Int.toNat_natCast, fill_set l 0 _ i d h rfl]
  rfl
theorem toByteS_ev (l : List Int) (hl : l.length ≤ 4000000) : Ev (fun k => laws_toByteS.f k l) l := by
 refine Ev.congr (f := fun k => laws_toByteS.l0 k l ((0 : Nat) : Int) (l.take 0 ++ List.replicate l.length 0)) (fun k => ?_) (toByteS_l0 l hl l.length 0 (by omega))
 unfold laws_toByteS.f
 rw [if_pos (by omega), Int.toNat_natCast, if_pos (by omega)]
 rfl
theorem eqByteS_l0 (l : List Int) (hl : l.length ≤ 4000000) (d : Nat) : ∀ i : Nat, i + d = l.length → Ev (fun k => laws_eqByteS.l0 k l l (i : Int)) true := by
 induction d with
 | zero =>
  intro i h
  refine Ev.step (f := fun _ => some true) (fun k => ?_) (Ev.now true)
  rw [laws_eqByteS.l0]
  rw [if_neg (by omega)]
 | succ d ih =>
  intro i h
  refine Ev.step (f := fun k => laws_eqByteS.l0 k l l ((i + 1 : Nat) : Int)) (fun k => ?_) (ih (i + 1) (by omega))
  rw [laws_eqByteS.l0]
  rw [if_pos (by omega), if_pos (by omega), if_pos (by omega), if_pos rfl, w64 (by omega) (by omega)]
  rfl
theorem eqByteS_ev (l : List Int) (hl : l.length ≤ 4000000) : Ev (fun k => laws_eqByteS.f k l l) true := by
 refine Ev.congr (f := fun k => laws_eqByteS.l0 k l l ((0 : Nat) : Int)) (fun k => ?_) (eqByteS_l0 l hl l.length 0 (by omega))
 unfold laws_eqByteS.f
 rw [if_pos rfl]
 rfl
def bwtAt (l : List Int) (r : Int) : Int := if r = 0 then 0 else l.getD (r - 1).toNat 0 + 1
def bwtL (l : List Int) : List Int := (rowsOf l).map (bwtAt l)
theorem bwtL_len (l : List Int) : (bwtL l).length = l.length + 1 := by unfold bwtL; rw [List.length_map, rowsOf_len]
theorem bwtL_at (l : List Int) (i : Nat) (h : i < l.length + 1) : (bwtL l).getD i 0 = bwtAt l ((rowsOf l).getD i 0) := by
 rw [lget_lt _ i 0 (by rw [bwtL_len]; exact h), lget_lt _ i 0 (by rw [rowsOf_len]; exact h)]
 simp [bwtL]
theorem byte_at {l : List Int} (hb : bytesOk l) (i : Nat) : 0 ≤ l.getD i 0 ∧ l.getD i 0 < 256 := by
 by_cases h : i < l.length
 ·rw [lget_lt l i 0 h]
  exact hb _ (List.getElem_mem _)
 ·rw [List.getD_eq_getElem?_getD, List.getElem?_eq_none (by omega)]
  decide
theorem specBwt_l0 (l : List Int) (hl : l.length ≤ 300) (hb : bytesOk l) (d : Nat) : ∀ i : Nat, i + d = l.length + 1 → Ev (fun k => spec_BwtOf.l0 k l ((bwtL l).take i) (i : Int) (rowsOf l)) (bwtL l) := by
 have hR := rowsOf_len l
 have hL := bwtL_len l
 induction d with
 | zero =>
  intro i h
  refine Ev.step (f := fun _ => some _) (fun k => ?_) (Ev.now _)
  rw [spec_BwtOf.l0, if_neg (by omega), List.take_of_length_le (by omega)]
 | succ d ih =>
  intro i h
  have hat := bwtL_at l i (by omega)
  obtain ⟨a0, a1⟩ := rowsOf_at l i (by omega)
  refine Ev.step (fun k => ?_) (ih (i + 1) (by omega))
  rw [take_succ_getD _ 0 i (by omega), hat, spec_BwtOf.l0, if_pos (by omega), if_pos (by omega), rd_nat]
  unfold bwtAt
  by_cases c : (rowsOf l).getD i 0 = 0
  ·rw [if_pos c, if_pos c, if_pos (by rw [List.length_take]; omega), w64 (by omega) (by omega)]
   rfl
  ·rw [if_neg c, if_neg c, w64 (by omega) (by omega), if_pos (by omega), if_pos (by omega), if_pos (by rw [List.length_take]; omega)]
   have hx := byte_at hb ((rowsOf l).getD i 0 - 1).toNat
   have hr : rd l ((rowsOf l).getD i 0 - 1) = l.getD ((rowsOf l).getD i 0 - 1).toNat 0 := rfl
   rw [hr]
   generalize l.getD ((rowsOf l).getD i 0 - 1).toNat 0 = x at hx ⊢
   rw [w64 (x := x) (by omega) (by omega), w64 (x := x + 1) (by omega) (by omega), w64 (by omega) (by omega)]
   rfl
theorem specBwt_ev (l : List Int) (hl : l.length ≤ 300) (hb : bytesOk l) : Ev (fun k => spec_BwtOf.f k l) (bwtL l) := by
 obtain ⟨K, hK⟩ := ev_out (specRows_ev l hl)
 obtain ⟨K2, hK2⟩ := ev_out (specBwt_l0 l hl hb (l.length + 1) 0 (by omega))
 refine ev_mk (K + K2) fun k hk => ?_
 unfold spec_BwtOf.f
 rw [hK k (by omega), Option.bind_some]
 exact hK2 k (by omega)
theorem implBwt_l0 (l : List Int) (hl : l.length ≤ 300) (hb : bytesOk l) (d : Nat) : ∀ i : Nat, i + d = l.length + 1 → Ev (fun k => impl_bwtOf.l0 k l ((bwtL l).take i) (rowsOf l) ((rowsOf l).length : Int) (i : Int)) (bwtL l) := by
 have hR := rowsOf_len l
 have hL := bwtL_len l
 induction d with
 | zero =>
  intro i h
  refine Ev.step (f := fun _ => some _) (fun k => ?_) (Ev.now _)
  rw [impl_bwtOf.l0, if_neg (by omega), List.take_of_length_le (by omega)]
 | succ d ih =>
  intro i h
  have hat := bwtL_at l i (by omega)
  obtain ⟨a0, a1⟩ := rowsOf_at l i (by omega)
  refine Ev.step (fun k => ?_) (ih (i + 1) (by omega))
  rw [take_succ_getD _ 0 i (by omega), hat, impl_bwtOf.l0, if_pos (by omega), if_pos (by omega), if_pos (by omega), rd_nat]
  unfold bwtAt
  by_cases c : (rowsOf l).getD i 0 = 0
  ·rw [if_pos c, if_pos c, if_pos (by rw [List.length_take]; omega), w64 (by omega) (by omega)]
   rfl
  ·rw [if_neg c, if_neg c, w64 (by omega) (by omega), if_pos (by omega), if_pos (by omega), if_pos (by rw [List.length_take]; omega)]
   have hx := byte_at hb ((rowsOf l).getD i 0 - 1).toNat
   have hr : rd l ((rowsOf l).getD i 0 - 1) = l.getD ((rowsOf l).getD i 0 - 1).toNat 0 := rfl
   rw [hr]
   generalize l.getD ((rowsOf l).getD i 0 - 1).toNat 0 = x at hx ⊢
   rw [w64 (x := x) (by omega) (by omega), w64 (x := x + 1) (by omega) (by omega), w64 (by omega) (by omega)]
   rfl
theorem implBwt_ev (l : List Int) (hl : l.length ≤ 300) (hb : bytesOk l) : Ev (fun k => impl_bwtOf.f k l) (bwtL l) := by
 obtain ⟨K, hK⟩ := ev_out (implRows_ev l hl hb)
 obtain ⟨K2, hK2⟩ := ev_out (implBwt_l0 l hl hb (l.length + 1) 0 (by omega))
 refine ev_mk (K + K2) fun k hk => ?_
 unfold impl_bwtOf.f
 rw [hK k (by omega), Option.bind_some]
 exact hK2 k (by omega)
theorem wu64 {x : Int} (h0 : 0 ≤ x) (h1 : x < 18446744073709551616) : IntKind.u64.wrap x = x := by
 simp [IntKind.wrap, IntKind.bits, IntKind.signed]
 omega
theorem td64 (i : Nat) : Int.tdiv (i : Int) 64 = ((i / 64 : Nat) : Int) := rfl
theorem tm64 (i : Nat) : Int.tmod (i : Int) 64 = ((i % 64 : Nat) : Int) := rfl
def Words (ws : List Int) : Prop := ∀ x ∈ ws, 0 ≤ x ∧ x < 2 ^ 64
theorem Words.get {ws : List Int} (h : Words ws) (j : Nat) (hj : j < ws.length) : ∃ a : Nat, ws.getD j 0 = (a : Int) ∧ a < 18446744073709551616 := by
 have := h _ (List.getElem_mem hj)
 rw [← lget_lt ws j 0 hj] at this
 refine ⟨(ws.getD j 0).toNat, by omega, by omega⟩
theorem l01Power_l0 (m : Nat) : ∀ (a : Nat), a * 2 ^ m < 18446744073709551616 → m ≤ 64 → Ev (fun k => spec_l01Power.l0 k (m : Int) (a : Int)) ((a * 2 ^ m : Nat) : Int) := by
 induction m with
 | zero =>
  intro a h hm
  refine Ev.step (f := fun _ => some _) (fun k => ?_) (Ev.now _)
  rw [spec_l01Power.l0, if_neg (by omega), Nat.pow_zero, Nat.mul_one]
 | succ m ih =>
  intro a h hm
  have hp : 0 < 2 ^ m := Nat.two_pow_pos m
  have e : a * 2 ^ (m + 1) = (2 * a) * 2 ^ m := by rw [Nat.pow_succ, Nat.mul_comm (2 ^ m) 2, ← Nat.mul_assoc, Nat.mul_comm a 2]
  rw [e] at h ⊢
  have : 2 * a ≤ (2 * a) * 2 ^ m := Nat.le_mul_of_pos_right _ hp
  refine Ev.step (f := fun k => spec_l01Power.l0 k (m : Int) ((2 * a : Nat) : Int)) (fun k => ?_) (ih (2 * a) h (by omega))
  rw [spec_l01Power.l0, if_pos (by omega), w64 (by omega) (by omega), wu64 (by omega) (by omega), show ((m + 1 : Nat) : Int) - 1 = (m : Int) by omega]
  rfl
theorem pow64 (m : Nat) (h : m < 64) : 2 ^ m < 18446744073709551616 := Nat.pow_lt_pow_right (a := 2) (n := 64) (by decide) h
theorem pow64i (m : Nat) (h : m ≤ 64) : (2 : Int) ^ m ≤ 18446744073709551616 := by
 have : 2 ^ m ≤ 2 ^ 64 := Nat.pow_le_pow_right (by decide) h
 have e : (2 : Int) ^ m = ((2 ^ m : Nat) : Int) := by simp
 omega
theorem l01Power_ev (m : Nat) (h : m < 64) : Ev (fun k => spec_l01Power.f k (m : Int)) ((2 : Int) ^ m) := by
 have := l01Power_l0 m 1 (by rw [Nat.one_mul]; exact pow64 m h) (by omega)
 rw [Nat.one_mul] at this
 rw [show (2 : Int) ^ m = ((2 ^ m : Nat) : Int) by simp]
 exact this
theorem bitsOf_j2 (l : List Int) (hb : ∀ i, i < l.length → l.getD i 0 = 0 ∨ l.getD i 0 = 1) (h5 : l.length ≤ 5000) (i : Nat) (hi : i < l.length) (r : Int × List Int × Bool)
  (hr : Ev (fun k => spec_BitsOf.l0 k l ((i + 1 : Nat) : Int) (l.length : Int) (wordsTo l (i + 1) (i / 64 + 1))) r) : Ev (fun k => spec_BitsOf.j2 k l (i : Int) (l.length : Int) (wordsTo l i (i / 64 + 1))) r := by
 have e1 : wrap64 ((i : Int) + 1) = ((i + 1 : Nat) : Int) := w64 (by omega) (by omega)
 rcases hb i hi with q | q
 ·refine Ev.step (f := fun k => spec_BitsOf.l0 k l ((i + 1 : Nat) : Int) (l.length : Int) (wordsTo l (i + 1) (i / 64 + 1))) (fun k => ?_) hr
  rw [spec_BitsOf.j2, if_pos (by omega), if_pos (by omega), rd_nat, q, if_neg (by decide), e1, wordsTo_skip l i _ q]
 ·obtain ⟨K1, h1⟩ := ev_out (l01Power_ev (i % 64) (by omega))
  obtain ⟨K2, h2⟩ := ev_out hr
  refine ev_mk (K1 + K2 + 1) fun k hk => ?_
  obtain ⟨k, rfl⟩ : ∃ m, k = m + 1 := ⟨k - 1, by omega⟩
  have hlen := wordsTo_length l i (i / 64 + 1)
  have hbd := wordAt_bound l hb i (i / 64) (by omega)
  rw [show min 64 (i - 64 * (i / 64)) = i % 64 by omega] at hbd
  have hp := pow64i (i % 64 + 1) (by omega)
  rw [Int.pow_succ] at hp
  rw [spec_BitsOf.j2, if_pos (by omega), if_pos (by omega), rd_nat, q, if_pos rfl, td64, tm64, w64 (by omega) (by omega), if_pos (by omega), if_pos (by rw [hlen]; omega), h1 k (by omega), Option.bind_some, e1, rd_nat, wordsTo_get _ _ _ _ (by omega),
   wu64 (by have := two_pos (i % 64); omega) (by omega), Int.toNat_natCast, wordsTo_set l i _ _ (by omega) (by rw [q, Int.one_mul])]
  exact h2 k (by omega)
theorem bitsOf_l0 (l : List Int) (hb : ∀ i, i < l.length → l.getD i 0 = 0 ∨ l.getD i 0 = 1) (h5 : l.length ≤ 5000) (d : Nat) : ∀ i : Nat, i + d = l.length →
  Ev (fun k => spec_BitsOf.l0 k l (i : Int) (l.length : Int) (wordsTo l i ((i + 63) / 64))) ((l.length : Int), wordsOf l, true) := by
 induction d with
 | zero =>
  intro i h
  obtain rfl : i = l.length := by omega
  refine Ev.step (f := fun _ => some _) (fun k => ?_) (Ev.now _)
  rw [spec_BitsOf.l0, if_neg (by omega)]
  rfl
 | succ d ih =>
  intro i h
  have hr := bitsOf_j2 l hb h5 i (by omega) _ (by have := ih (i + 1) (by omega); rwa [show (i + 1 + 63) / 64 = i / 64 + 1 by omega] at this)
  have hj : Ev (fun k => spec_BitsOf.j1 k l (i : Int) false (l.length : Int) (wordsTo l i ((i + 63) / 64))) ((l.length : Int), wordsOf l, true) := by
   refine Ev.step (fun k => ?_) hr
   rw [spec_BitsOf.j1, if_neg (by decide), tm64]
   by_cases q : i % 64 = 0
   ·rw [if_pos (by omega), if_pos (by rw [wordsTo_length]; omega), wordsTo_more l i q]
   ·rw [if_neg (by omega), show (i + 63) / 64 = i / 64 + 1 by omega]
  refine Ev.step (fun k => ?_) hj
  rw [spec_BitsOf.l0, if_pos (by omega), if_pos (by omega), rd_nat]
  rcases hb i (by omega) with q | q
  ·rw [q, if_pos rfl]
  ·rw [q, if_neg (by decide)]
   rfl
theorem specBitsOf_ev (l : List Int) (hb : ∀ i, i < l.length → l.getD i 0 = 0 ∨ l.getD i 0 = 1) (h5 : l.length ≤ 5000) : Ev (fun k => spec_BitsOf.f k l) ((l.length : Int), wordsOf l, true) := by
 refine Ev.congr (f := fun k => spec_BitsOf.l0 k l ((0 : Nat) : Int) (l.length : Int) (wordsTo l 0 ((0 + 63) / 64))) (fun k => ?_) (bitsOf_l0 l hb h5 l.length 0 (by omega))
 unfold spec_BitsOf.f
 rw [if_neg (by omega)]
 rfl
/-- Whether words are the words of a list of n bits. -/
theorem bitsOr_comm (x y : Int) : Go.bits .or .u64 x y = Go.bits .or .u64 y x := by
 unfold Go.bits
 dsimp only
 rw [BitVec.or_comm]
theorem or_bit (x : Int) (m : Nat) (v : Int) (hx : 0 ≤ x) (hx1 : x < 2 ^ m) (hm : m < 64) (hv : v = 0 ∨ v = 1) : Go.bits .or .u64 x (shl .u64 (IntKind.u64.wrap v) (m : Int)) = x + v * 2 ^ m := by
 have hp := pow64i (m + 1) (by omega)
 rw [Int.pow_succ] at hp
 have hp0 := two_pos m
 rcases hv with rfl | rfl
 ·have e : shl .u64 (IntKind.u64.wrap 0) (m : Int) = 0 := by
   unfold shl
   rw [wu64 (x := 0) (by decide) (by decide), Int.zero_mul]
   exact wu64 (by decide) (by decide)
  rw [e, bits_join .u64 64 (by decide) (fun n h0 h1 => wu64 h0 (by omega)) 0 x 0 hx (by simp [Int.emod_one]) (by omega) (by decide) (by decide) (by decide)]
  simp
 ·have e : shl .u64 (IntKind.u64.wrap 1) (m : Int) = 2 ^ m := by
   unfold shl
   rw [wu64 (x := 1) (by decide) (by decide), Int.one_mul, Int.toNat_natCast, show min m IntKind.u64.bits = m by show min m 64 = m; omega]
   exact wu64 (by omega) (by omega)
  rw [e, bitsOr_comm, bits_join .u64 64 (by decide) (fun n h0 h1 => wu64 h0 (by omega)) m (2 ^ m) x (by omega) Int.emod_self (by omega) hx hx1 (by omega)]
  omega
theorem implBitsOf_l0 (l : List Int) (hb : ∀ i, i < l.length → l.getD i 0 = 0 ∨ l.getD i 0 = 1) (h5 : l.length ≤ 5000) (d : Nat) : ∀ i : Nat, i + d = l.length →
  Ev (fun k => impl_bitsOf.l0 k l (l.length : Int) (i : Int) (l.length : Int) (wordsTo l i ((l.length + 63) / 64))) ((l.length : Int), wordsOf l) := by
 induction d with
 | zero =>
  intro i h
  obtain rfl : i = l.length := by omega
  refine Ev.step (f := fun _ => some _) (fun k => ?_) (Ev.now _)
  rw [impl_bitsOf.l0, if_neg (by omega)]
  rfl
 | succ d ih =>
  intro i h
  refine Ev.step (fun k => ?_) (ih (i + 1) (by omega))
  have hbd := wordAt_bound l hb i (i / 64) (by omega)
  rw [show min 64 (i - 64 * (i / 64)) = i % 64 by omega] at hbd
  rw [impl_bitsOf.l0, if_pos (by omega), if_pos (by omega), if_pos (by omega), td64, tm64, w64 (by omega) (by omega), if_pos (by omega), if_pos (by rw [wordsTo_length]; omega), if_pos (by omega), w64 (by omega) (by omega), rd_nat, rd_nat, Int.toNat_natCast,
   wordsTo_get _ _ _ _ (by omega), or_bit _ _ _ hbd.1 hbd.2 (by omega) (hb i (by omega)), wordsTo_set l i _ _ (by omega) rfl]
  rfl
theorem implBitsOf_ev (l : List Int) (hb : ∀ i, i < l.length → l.getD i 0 = 0 ∨ l.getD i 0 = 1) (h5 : l.length ≤ 5000) : Ev (fun k => impl_bitsOf.f k l) ((l.length : Int), wordsOf l) := by
 have e : wrap64 (Int.tdiv (wrap64 ((wrap64 ((l.length : Int) + 64)) - 1)) 64) = (((l.length + 63) / 64 : Nat) : Int) := by
  rw [w64 (x := (l.length : Int) + 64) (by omega) (by omega), w64 (x := (l.length : Int) + 64 - 1) (by omega) (by omega), show (l.length : Int) + 64 - 1 = ((l.length + 63 : Nat) : Int) by omega, td64, w64 (by omega) (by omega)]
 have z : wordsTo l 0 ((l.length + 63) / 64) = List.replicate ((l.length + 63) / 64) 0 := by
  apply ext_getD 0 (by rw [wordsTo_length, List.length_replicate])
  intro j hj
  rw [wordsTo_length] at hj
  rw [wordsTo_get _ _ _ _ hj, lrep]
  unfold wordAt
  rw [show min 64 (0 - 64 * j) = 0 by omega, wsum]
 refine Ev.congr (f := fun k => impl_bitsOf.l0 k l (l.length : Int) ((0 : Nat) : Int) (l.length : Int) (wordsTo l 0 ((l.length + 63) / 64))) (fun k => ?_) (implBitsOf_l0 l hb h5 l.length 0 (by omega))
 unfold impl_bitsOf.f
 rw [e, if_pos (by omega), Int.toNat_natCast, if_pos (by omega), z]
 rfl
def bl (l : Nat) (x : Int) : Int := x / 2 ^ (8 - l) % 2
def low (l : Nat) (A : List Int) : List Int := A.filter fun x => decide (bl l x = 0)
def high (l : Nat) (A : List Int) : List Int := A.filter fun x => !decide (bl l x = 0)
def bitsA (l : Nat) (A : List Int) : List Int := A.map (bl l)
def atL (list : List Int) : Nat → List Int
 | 0 => list
 | l + 1 => low l (atL list l) ++ high l (atL list l)
theorem bl_01 (l : Nat) (x : Int) : bl l x = 0 ∨ bl l x = 1 := by unfold bl; omega
theorem parts_length (q : Int → Bool) : ∀ A : List Int, (A.filter q).length + (A.filter fun x => !q x).length = A.length
 | [] => rfl
 | x :: A => by
  have := parts_length q A
  rw [List.filter_cons, List.filter_cons, List.length_cons]
  cases h : q x <;> simp <;> omega
theorem atL_length (list : List Int) : ∀ l, (atL list l).length = list.length
 | 0 => rfl
 | l + 1 => by
  rw [atL, List.length_append, ← atL_length list l]
  exact parts_length (fun x => decide (bl l x = 0)) _
theorem atL_mem (list : List Int) : ∀ (l : Nat) (x : Int), x ∈ atL list l → x ∈ list
 | 0, x, h => h
 | l + 1, x, h => by
  rw [atL] at h
  rcases List.mem_append.1 h with g | g
  ·exact atL_mem list l x (List.mem_filter.1 g).1
  ·exact atL_mem list l x (List.mem_filter.1 g).1
theorem bitsA_length (l : Nat) (A : List Int) : (bitsA l A).length = A.length := List.length_map _
theorem bitsA_get (l : Nat) (A : List Int) (i : Nat) (h : i < A.length) : (bitsA l A).getD i 0 = bl l (A.getD i 0) := by
 rw [lget_lt _ _ _ (by rw [bitsA_length]; exact h), lget_lt _ _ _ h]
 unfold bitsA
 rw [List.getElem_map]
theorem bitsA_01 (l : Nat) (A : List Int) : ∀ i, i < (bitsA l A).length → (bitsA l A).getD i 0 = 0 ∨ (bitsA l A).getD i 0 = 1 := by
 intro i hi
 rw [bitsA_length] at hi
 rw [bitsA_get l A i hi]
 exact bl_01 _ _
def encZ (list : List Int) (l : Nat) : List Int := (List.range l).map fun j => ((low j (atL list j)).length : Int)
def encL (list : List Int) (l : Nat) : List S29 := (List.range l).map fun j => (⟨(list.length : Int), wordsOf (bitsA j (atL list j))⟩ : S29)
theorem encZ_length (list : List Int) (l : Nat) : (encZ list l).length = l := by simp [encZ]
theorem encL_length (list : List Int) (l : Nat) : (encL list l).length = l := by simp [encL]
theorem encZ_succ (list : List Int) (l : Nat) : encZ list l ++ [((low l (atL list l)).length : Int)] = encZ list (l + 1) := by simp [encZ, List.range_succ]
theorem encL_succ (list : List Int) (l : Nat) : encL list l ++ [(⟨(list.length : Int), wordsOf (bitsA l (atL list l))⟩ : S29)] = encL list (l + 1) := by simp [encL, List.range_succ]
def okList (list : List Int) : Bool := decide (list.length ≤ 1000) && list.all Fv.p61
def encW (list : List Int) : Int × List Int × List S29 × Bool := if okList list = true then ((list.length : Int), encZ list 9, encL list 9, true) else (0, [], [], false)
theorem p61_iff (x : Int) : Fv.p61 x = true ↔ 0 ≤ x ∧ x ≤ 511 := by unfold Fv.p61 Fv.inR; simp
def Small (A : List Int) : Prop := A.length ≤ 1000 ∧ ∀ x ∈ A, 0 ≤ x ∧ x ≤ 511
theorem small_of {list : List Int} (h : okList list = true) : Small list := by
 unfold okList at h
 rw [Bool.and_eq_true] at h
 exact ⟨of_decide_eq_true h.1, fun x hx => (p61_iff x).1 (List.all_eq_true.1 h.2 x hx)⟩
theorem small_at {list : List Int} (h : Small list) (l : Nat) : Small (atL list l) := ⟨by rw [atL_length]; exact h.1, fun x hx => h.2 x (atL_mem list l x hx)⟩
theorem Small.get {A : List Int} (h : Small A) (i : Nat) (hi : i < A.length) : 0 ≤ A.getD i 0 ∧ A.getD i 0 ≤ 511 := by
 rw [lget_lt _ _ _ hi]
 exact h.2 _ (List.getElem_mem hi)
theorem low_take (l : Nat) (A : List Int) (i : Nat) (h : i < A.length) : low l (A.take (i + 1)) = if bl l (A.getD i 0) = 0 then low l (A.take i) ++ [A.getD i 0] else low l (A.take i) := by
 unfold low
 rw [take_succ_getD A 0 i h, List.filter_append]
 by_cases c : bl l (A.getD i 0) = 0
 ·rw [if_pos c, List.filter_cons_of_pos (by show decide (bl l (A.getD i 0) = 0) = true; exact decide_eq_true c), List.filter_nil]
 ·rw [if_neg c, List.filter_cons_of_neg (by show ¬ decide (bl l (A.getD i 0) = 0) = true; rw [decide_eq_false c]; decide), List.filter_nil, List.append_nil]
theorem high_take (l : Nat) (A : List Int) (i : Nat) (h : i < A.length) : high l (A.take (i + 1)) = if bl l (A.getD i 0) = 0 then high l (A.take i) else high l (A.take i) ++ [A.getD i 0] := by
 unfold high
 rw [take_succ_getD A 0 i h, List.filter_append]
 by_cases c : bl l (A.getD i 0) = 0
 ·rw [if_pos c, List.filter_cons_of_neg (by show ¬ (!decide (bl l (A.getD i 0) = 0)) = true; rw [decide_eq_true c]; decide), List.filter_nil, List.append_nil]
 ·rw [if_neg c, List.filter_cons_of_pos (by show (!decide (bl l (A.getD i 0) = 0)) = true; rw [decide_eq_false c]; rfl), List.filter_nil]
theorem bitsA_take (l : Nat) (A : List Int) (i : Nat) (h : i < A.length) : bitsA l (A.take (i + 1)) = bitsA l (A.take i) ++ [bl l (A.getD i 0)] := by
 unfold bitsA
 rw [take_succ_getD A 0 i h, List.map_append]
 rfl
theorem filter_le (q : Int → Bool) (A : List Int) : (A.filter q).length ≤ A.length := List.length_filter_le q A
theorem pow8 (m : Nat) (h : m ≤ 8) : 2 ^ m ≤ 256 := Nat.pow_le_pow_right (n := 2) (by decide) h
theorem and1i (a : Nat) (h : a < 1000000) : Go.bits .and .i64 (a : Int) 1 = ((a % 2 : Nat) : Int) := by
 have o : ∀ a : Nat, a < 10000000 → (BitVec.ofInt 64 (a : Int)).toNat = a := fun a h => by rw [BitVec.ofInt_natCast, BitVec.toNat_ofNat]; exact Nat.mod_eq_of_lt (by omega)
 show IntKind.i64.wrap ((BitVec.ofInt 64 (a : Int) &&& BitVec.ofInt 64 ((1 : Nat) : Int)).toNat : Int) = _
 rw [BitVec.toNat_and, o _ (by omega), o _ (by omega), Nat.and_one_is_mod, i64_w, w64 (by omega) (by omega)]
theorem implBit (x : Int) (l : Nat) (h0 : 0 ≤ x) (h1 : x ≤ 511) (hl : l < 9) : Go.bits .and .i64 (shr .i64 x (wrap64 (8 - (l : Int)))) 1 = bl l x := by
 obtain ⟨a, rfl⟩ := Int.eq_ofNat_of_zero_le h0
 rw [w64 (by omega) (by omega), show (8 : Int) - (l : Int) = ((8 - l : Nat) : Int) by omega]
 unfold shr
 rw [Int.toNat_natCast, show min (8 - l) IntKind.i64.bits = 8 - l by show min (8 - l) 64 = 8 - l; omega]
 have e : (a : Int) / 2 ^ (8 - l) = ((a / 2 ^ (8 - l) : Nat) : Int) := by simp
 have hle : a / 2 ^ (8 - l) ≤ a := Nat.div_le_self _ _
 unfold bl
 rw [e, and1i _ (by omega)]
 omega
theorem concat_ev (a b : List Int) (ha : a.length ≤ 2000) (hb : b.length ≤ 2000) : Ev (fun k => slices_Concat_int_int.f k [a, b]) (a ++ b) := by
 have r0 : rd_L5 [a, b] 0 = a := rfl
 have r1 : rd_L5 [a, b] 1 = b := rfl
 have hl : (([a, b] : List (List Int)).length : Int) = 2 := rfl
 have h1 : Ev (fun k => slices_Concat_int_int.l1 k [] [a, b] 2 0) (a ++ b) := by
  refine ev_mk 4 fun k hk => ?_
  obtain ⟨k, rfl⟩ : ∃ m, k = m + 3 := ⟨k - 3, by omega⟩
  rw [slices_Concat_int_int.l1, if_pos (by decide), if_pos (by decide), if_pos (by rw [hl]; decide), r0, if_pos (by simp only [List.length_nil]; omega), List.nil_append, show wrap64 (0 + 1) = 1 from w64 (x := 1) (by omega) (by omega),
   slices_Concat_int_int.l1, if_pos (by decide), if_pos (by decide), if_pos (by rw [hl]; decide), r1, if_pos (by omega), show wrap64 (1 + 1) = 2 from w64 (x := 2) (by omega) (by omega), slices_Concat_int_int.l1, if_neg (by decide)]
 obtain ⟨K1, k1⟩ := ev_out h1
 refine ev_mk (K1 + 4) fun k hk => ?_
 unfold slices_Concat_int_int.f
 obtain ⟨k, rfl⟩ : ∃ m, k = m + 3 := ⟨k - 3, by omega⟩
 have w1 : wrap64 (0 + (a.length : Int)) = (a.length : Int) := by rw [Int.zero_add]; exact w64 (by omega) (by omega)
 have w2 : wrap64 ((a.length : Int) + (b.length : Int)) = (a.length : Int) + (b.length : Int) := w64 (by omega) (by omega)
 rw [hl, slices_Concat_int_int.l0, if_pos (by decide), if_pos (by decide), if_pos (by rw [hl]; decide), r0, w1, if_neg (by omega), show wrap64 (0 + 1) = 1 from w64 (x := 1) (by omega) (by omega),
  slices_Concat_int_int.l0, if_pos (by decide), if_pos (by decide), if_pos (by rw [hl]; decide), r1, w2, if_neg (by omega), show wrap64 (1 + 1) = 2 from w64 (x := 2) (by omega) (by omega), slices_Concat_int_int.l0, if_neg (by decide)]
 unfold slices_Grow_nil23.f
 rw [if_pos (by omega), Option.bind_some, hl]
 exact k1 k (by omega)
theorem implW_l1 (A : List Int) (l : Nat) (N : Int) (Z : List Int) (Ls : List S29) (hA : Small A) (hl : l < 9) (hZ : Z.length ≤ 100) (hL : Ls.length ≤ 100) (r : Int × List Int × List S29 × Bool)
  (hk : Ev (fun k => impl_WaveOf.l0 k (low l A ++ high l A) ((l + 1 : Nat) : Int) N (Z ++ [((low l A).length : Int)]) (Ls ++ [(⟨(A.length : Int), wordsOf (bitsA l A)⟩ : S29)])) r) :
  ∀ d i : Nat, i + d = A.length → Ev (fun k => impl_WaveOf.l1 k A (l : Int) (low l (A.take i)) (high l (A.take i)) (bitsA l (A.take i)) (l : Int) (A.length : Int) (i : Int) N Z Ls) r := by
 have hlen := hA.1
 intro d
 induction d with
 | zero =>
  intro i h
  obtain rfl : i = A.length := by omega
  have hb := implBitsOf_ev (bitsA l A) (bitsA_01 l A) (by rw [bitsA_length]; omega)
  rw [bitsA_length] at hb
  obtain ⟨K0, k0⟩ := ev_out hb
  have f1 := filter_le (fun x => decide (bl l x = 0)) A
  have f2 := filter_le (fun x => !decide (bl l x = 0)) A
  obtain ⟨K1, k1⟩ := ev_out (concat_ev (low l A) (high l A) (by unfold low; omega) (by unfold high; omega))
  obtain ⟨K2, k2⟩ := ev_out hk
  refine ev_mk (K0 + K1 + K2 + 1) fun k hk' => ?_
  obtain ⟨k, rfl⟩ : ∃ m, k = m + 1 := ⟨k - 1, by omega⟩
  rw [impl_WaveOf.l1, if_neg (by omega), List.take_of_length_le (Nat.le_refl _), if_pos (by omega), k0 k (by omega), Option.bind_some, if_pos (by omega), k1 k (by omega), Option.bind_some, w64 (by omega) (by omega)]
  exact k2 k (by omega)
 | succ d ih =>
  intro i h
  have h1 := ih (i + 1) (by omega)
  rw [low_take l A i (by omega), high_take l A i (by omega), bitsA_take l A i (by omega)] at h1
  have hx := hA.get i (by omega)
  have f1 := filter_le (fun x => decide (bl l x = 0)) (A.take i)
  have f2 := filter_le (fun x => !decide (bl l x = 0)) (A.take i)
  have f3 : (A.take i).length ≤ 1000 := by rw [List.length_take]; omega
  have f4 : (low l (A.take i)).length ≤ 1000 := by unfold low; omega
  have f5 : (high l (A.take i)).length ≤ 1000 := by unfold high; omega
  have f6 : (bitsA l (A.take i)).length ≤ 1000 := by rw [bitsA_length]; exact f3
  have hb := implBit (A.getD i 0) l hx.1 hx.2 hl
  have hw : 0 ≤ wrap64 (8 - (l : Int)) := by rw [w64 (by omega) (by omega)]; omega
  by_cases c : bl l (A.getD i 0) = 0
  ·rw [if_pos c, if_pos c] at h1
   refine Ev.step (fun k => ?_) h1
   rw [impl_WaveOf.l1, if_pos (by omega), if_pos (by omega), if_pos (by omega), if_pos hw, if_pos (by omega), rd_nat, hb, Option.bind_some, if_pos c, if_pos (by omega), w64 (x := (i : Int) + 1) (by omega) (by omega)]
   rfl
  ·rw [if_neg c, if_neg c] at h1
   refine Ev.step (fun k => ?_) h1
   rw [impl_WaveOf.l1, if_pos (by omega), if_pos (by omega), if_pos (by omega), if_pos hw, if_pos (by omega), rd_nat, hb, Option.bind_some, if_neg c, if_pos (by omega), w64 (x := (i : Int) + 1) (by omega) (by omega)]
   rfl
theorem implW_l0 (list : List Int) (hs : Small list) : ∀ d l : Nat, l + d = 9 → Ev (fun k => impl_WaveOf.l0 k (atL list l) (l : Int) (list.length : Int) (encZ list l) (encL list l)) ((list.length : Int), encZ list 9, encL list 9, true) := by
 intro d
 induction d with
 | zero =>
  intro l h
  obtain rfl : l = 9 := by omega
  refine Ev.step (f := fun _ => some _) (fun k => ?_) (Ev.now _)
  rw [impl_WaveOf.l0, if_neg (by omega)]
 | succ d ih =>
  intro l h
  have h1 := ih (l + 1) (by omega)
  rw [atL, ← encZ_succ, ← encL_succ, ← atL_length list l] at h1
  have h2 := implW_l1 (atL list l) l ((atL list l).length : Int) (encZ list l) (encL list l) (small_at hs l) (by omega) (by rw [encZ_length]; omega) (by rw [encL_length]; omega) _ h1 (atL list l).length 0 (by omega)
  rw [List.take_zero] at h2
  rw [← atL_length list l]
  refine Ev.step (fun k => ?_) h2
  rw [impl_WaveOf.l0, if_pos (by omega)]
  rfl
theorem implW_ev (list : List Int) (hl : list.length ≤ 4000000) : Ev (fun k => impl_WaveOf.f k list) (encW list) := by
 have hj : okList list = false → ∀ k, 1 ≤ k → impl_WaveOf.j0 k list true = some (encW list) := by
  intro h k hk
  obtain ⟨k, rfl⟩ : ∃ m, k = m + 1 := ⟨k - 1, by omega⟩
  unfold encW
  rw [impl_WaveOf.j0, if_pos rfl, h, if_neg (by decide)]
 by_cases c1 : list.length ≤ 1000
 ·have hall : impl_areAll_61.f list = some (list.all Fv.p61) := by unfold impl_areAll_61.f; rw [if_pos (by unfold maxLen; omega)]
  by_cases c2 : list.all Fv.p61 = true
  ·have hok : okList list = true := by unfold okList; rw [decide_eq_true c1, c2]; rfl
   obtain ⟨K0, k0⟩ := ev_out (implW_l0 list (small_of hok) 9 0 (by omega))
   refine ev_mk (K0 + 1) fun k hk => ?_
   obtain ⟨k, rfl⟩ : ∃ m, k = m + 1 := ⟨k - 1, by omega⟩
   unfold impl_WaveOf.f encW
   rw [if_neg (by omega), hall, Option.bind_some, c2, Bool.not_true, impl_WaveOf.j0, if_neg (by decide), hok, if_pos rfl]
   exact k0 k (by omega)
  ·have hok : okList list = false := by unfold okList; rw [eq_false_of_ne_true c2, Bool.and_false]
   refine ev_mk 1 fun k hk => ?_
   unfold impl_WaveOf.f
   rw [if_neg (by omega), hall, Option.bind_some, eq_false_of_ne_true c2, Bool.not_false, hj hok k hk]
 ·have hok : okList list = false := by unfold okList; rw [decide_eq_false c1, Bool.false_and]
  refine ev_mk 1 fun k hk => ?_
  unfold impl_WaveOf.f
  rw [if_pos (by omega), hj hok k hk]
theorem pow_l0 (m : Nat) : ∀ (a : Nat), m ≤ 8 → a * 2 ^ m ≤ 100000 → Ev (fun k => spec_l02Pow.l0 k (m : Int) (a : Int)) ((a * 2 ^ m : Nat) : Int) := by
 induction m with
 | zero =>
  intro a _ h
  refine Ev.step (f := fun _ => some _) (fun k => ?_) (Ev.now _)
  rw [spec_l02Pow.l0, if_neg (by omega), Nat.pow_zero, Nat.mul_one]
 | succ m ih =>
  intro a h0 h
  have e : a * 2 ^ (m + 1) = (2 * a) * 2 ^ m := by rw [Nat.pow_succ, Nat.mul_comm 2 a, Nat.mul_assoc a 2, Nat.mul_comm (2 ^ m) 2]
  have hq : a ≤ a * 2 ^ (m + 1) := Nat.le_mul_of_pos_right a (Nat.two_pow_pos _)
  rw [e] at h ⊢
  refine Ev.step (fun k => ?_) (ih (2 * a) (by omega) h)
  rw [spec_l02Pow.l0, if_pos (by omega), w64 (by omega) (by omega), w64 (by omega) (by omega), show ((m + 1 : Nat) : Int) - 1 = (m : Int) by omega, show 2 * (a : Int) = ((2 * a : Nat) : Int) by omega]
theorem specBit (x : Int) (l : Nat) (h0 : 0 ≤ x) (h1 : x ≤ 511) : Int.tmod (wrap64 (Int.tdiv x ((2 ^ (8 - l) : Nat) : Int))) 2 = bl l x := by
 obtain ⟨a, rfl⟩ := Int.eq_ofNat_of_zero_le h0
 have hle : a / 2 ^ (8 - l) ≤ a := Nat.div_le_self _ _
 have e1 : Int.tdiv (a : Int) ((2 ^ (8 - l) : Nat) : Int) = ((a / 2 ^ (8 - l) : Nat) : Int) := rfl
 have e2 : (a : Int) / 2 ^ (8 - l) = ((a / 2 ^ (8 - l) : Nat) : Int) := by simp
 unfold bl
 rw [e1, e2]
 generalize a / 2 ^ (8 - l) = q at hle
 rw [w64 (by omega) (by omega)]
 rfl
theorem specW_l2 (A : List Int) (l : Nat) (N : Int) (Z : List Int) (Ls : List S29) (hA : Small A) (hl : l < 9) (hZ : Z.length ≤ 100) (hL : Ls.length ≤ 100) (r : Int × List Int × List S29 × Bool)
  (hk : Ev (fun k => spec_WaveOf.l1 k (low l A ++ high l A) ((l + 1 : Nat) : Int) N (Z ++ [((low l A).length : Int)]) (Ls ++ [(⟨(A.length : Int), wordsOf (bitsA l A)⟩ : S29)])) r) :
  ∀ d i : Nat, i + d = A.length → Ev (fun k => spec_WaveOf.l2 k A (l : Int) (bitsA l (A.take i)) (low l (A.take i)) (high l (A.take i)) (i : Int) N Z Ls) r := by
 have hlen := hA.1
 intro d
 induction d with
 | zero =>
  intro i h
  obtain rfl : i = A.length := by omega
  have hb := specBitsOf_ev (bitsA l A) (bitsA_01 l A) (by rw [bitsA_length]; omega)
  rw [bitsA_length] at hb
  obtain ⟨K0, k0⟩ := ev_out hb
  have f1 := filter_le (fun x => decide (bl l x = 0)) A
  have f2 := filter_le (fun x => !decide (bl l x = 0)) A
  have f4 : (low l A).length ≤ 1000 := by unfold low; omega
  have f5 : (high l A).length ≤ 1000 := by unfold high; omega
  obtain ⟨K2, k2⟩ := ev_out hk
  refine ev_mk (K0 + K2 + 1) fun k hk' => ?_
  obtain ⟨k, rfl⟩ : ∃ m, k = m + 1 := ⟨k - 1, by omega⟩
  rw [spec_WaveOf.l2, if_neg (by omega), List.take_of_length_le (Nat.le_refl _), k0 k (by omega), Option.bind_some, if_pos (by omega), if_pos (by omega), if_pos (by omega), w64 (by omega) (by omega)]
  exact k2 k (by omega)
 | succ d ih =>
  intro i h
  have h1 := ih (i + 1) (by omega)
  rw [low_take l A i (by omega), high_take l A i (by omega), bitsA_take l A i (by omega)] at h1
  have hx := hA.get i (by omega)
  have f1 := filter_le (fun x => decide (bl l x = 0)) (A.take i)
  have f2 := filter_le (fun x => !decide (bl l x = 0)) (A.take i)
  have f3 : (A.take i).length ≤ 1000 := by rw [List.length_take]; omega
  have f4 : (low l (A.take i)).length ≤ 1000 := by unfold low; omega
  have f5 : (high l (A.take i)).length ≤ 1000 := by unfold high; omega
  have f6 : (bitsA l (A.take i)).length ≤ 1000 := by rw [bitsA_length]; exact f3
  have hb := specBit (A.getD i 0) l hx.1 hx.2
  have hp8 := pow8 (8 - l) (by omega)
  have hp0 := Nat.two_pow_pos (8 - l)
  have hp := pow_l0 (8 - l) 1 (by omega) (by omega)
  rw [Nat.one_mul] at hp
  obtain ⟨K0, k0⟩ := ev_out hp
  have hpf : ∀ k, K0 ≤ k → spec_l02Pow.f k (wrap64 (8 - (l : Int))) = some ((2 ^ (8 - l) : Nat) : Int) := by
   intro k hk
   unfold spec_l02Pow.f
   rw [w64 (by omega) (by omega), show (8 : Int) - (l : Int) = ((8 - l : Nat) : Int) by omega]
   exact k0 k hk
  by_cases c : bl l (A.getD i 0) = 0
  ·rw [if_pos c, if_pos c] at h1
   obtain ⟨K1, k1⟩ := ev_out h1
   refine ev_mk (K0 + K1 + 1) fun k hk' => ?_
   obtain ⟨k, rfl⟩ : ∃ m, k = m + 1 := ⟨k - 1, by omega⟩
   rw [spec_WaveOf.l2, if_pos (by omega), if_pos (by omega), hpf k (by omega), Option.bind_some, if_neg (by omega), if_pos (by omega), rd_nat, hb, Option.bind_some, if_pos c, if_pos (by omega), w64 (x := (i : Int) + 1) (by omega) (by omega)]
   exact k1 k (by omega)
  ·rw [if_neg c, if_neg c] at h1
   obtain ⟨K1, k1⟩ := ev_out h1
   refine ev_mk (K0 + K1 + 1) fun k hk' => ?_
   obtain ⟨k, rfl⟩ : ∃ m, k = m + 1 := ⟨k - 1, by omega⟩
   rw [spec_WaveOf.l2, if_pos (by omega), if_pos (by omega), hpf k (by omega), Option.bind_some, if_neg (by omega), if_pos (by omega), rd_nat, hb, Option.bind_some, if_neg c, if_pos (by omega), w64 (x := (i : Int) + 1) (by omega) (by omega)]
   exact k1 k (by omega)
theorem specW_l1 (list : List Int) (hs : Small list) : ∀ d l : Nat, l + d = 9 → Ev (fun k => spec_WaveOf.l1 k (atL list l) (l : Int) (list.length : Int) (encZ list l) (encL list l)) ((list.length : Int), encZ list 9, encL list 9, true) := by
 intro d
 induction d with
 | zero =>
  intro l h
  obtain rfl : l = 9 := by omega
  refine Ev.step (f := fun _ => some _) (fun k => ?_) (Ev.now _)
  rw [spec_WaveOf.l1, if_neg (by omega)]
 | succ d ih =>
  intro l h
  have h1 := ih (l + 1) (by omega)
  rw [atL, ← encZ_succ, ← encL_succ, ← atL_length list l] at h1
  have h2 := specW_l2 (atL list l) l ((atL list l).length : Int) (encZ list l) (encL list l) (small_at hs l) (by omega) (by rw [encZ_length]; omega) (by rw [encL_length]; omega) _ h1 (atL list l).length 0 (by omega)
  rw [List.take_zero] at h2
  rw [← atL_length list l]
  refine Ev.step (fun k => ?_) h2
  rw [spec_WaveOf.l1, if_pos (by omega)]
  rfl
theorem specW_l0 (list : List Int) (h : list.length ≤ 1000) (d : Nat) : ∀ i : Nat, i + d = list.length → (∀ x ∈ list.take i, Fv.p61 x = true) → Ev (fun k => spec_WaveOf.l0 k list (i : Int)) (encW list) := by
 induction d with
 | zero =>
  intro i hi ha
  rw [List.take_of_length_le (by omega)] at ha
  have hok : okList list = true := by unfold okList; rw [decide_eq_true h, List.all_eq_true.2 ha]; rfl
  unfold encW
  rw [hok, if_pos rfl]
  refine Ev.step (fun k => ?_) (specW_l1 list (small_of hok) 9 0 (by omega))
  rw [spec_WaveOf.l0, if_neg (by omega), Option.bind_some, if_pos (by simp only [List.length_nil]; omega), List.nil_append]
  rfl
 | succ d ih =>
  intro i hi ha
  have hbad : Fv.p61 (list.getD i 0) ≠ true → okList list = false := by
   intro hc
   unfold okList
   rw [Bool.and_eq_false_iff]
   right
   rw [← Bool.not_eq_true]
   intro hall
   apply hc
   rw [lget_lt _ _ _ (by omega)]
   exact List.all_eq_true.1 hall _ (List.getElem_mem _)
  by_cases c1 : list.getD i 0 < 0
  ·have hok := hbad (by rw [Ne, p61_iff]; omega)
   unfold encW
   rw [hok, if_neg (by decide)]
   refine Ev.step (f := fun _ => some _) (fun k => ?_) (Ev.now _)
   rw [spec_WaveOf.l0, if_pos (by omega), if_pos (by omega), rd_nat, if_pos c1]
  ·by_cases c2 : list.getD i 0 > 511
   ·have hok := hbad (by rw [Ne, p61_iff]; omega)
    unfold encW
    rw [hok, if_neg (by decide)]
    refine Ev.step (f := fun _ => some _) (fun k => ?_) (Ev.now _)
    rw [spec_WaveOf.l0, if_pos (by omega), if_pos (by omega), rd_nat, if_neg c1, if_pos c2]
   ·refine Ev.step (fun k => ?_) (ih (i + 1) (by omega) (fun x hx => ?_))
    ·rw [spec_WaveOf.l0, if_pos (by omega), if_pos (by omega), rd_nat, if_neg c1, if_neg c2, w64 (by omega) (by omega)]
     rfl
    ·rw [take_succ_getD list 0 i (by omega)] at hx
     rcases List.mem_append.1 hx with g | g
     ·exact ha x g
     ·rw [List.mem_singleton.1 g, p61_iff]
      omega
theorem specW_ev (list : List Int) : Ev (fun k => spec_WaveOf.f k list) (encW list) := by
 by_cases c : list.length ≤ 1000
 ·refine Ev.congr (fun k => ?_) (specW_l0 list c list.length 0 (by omega) (by rw [List.take_zero]; intro x hx; cases hx))
  unfold spec_WaveOf.f
  rw [if_neg (by omega)]
  rfl
 ·have hok : okList list = false := by unfold okList; rw [decide_eq_false c, Bool.false_and]
  refine Ev.congr (f := fun _ => some (encW list)) (fun k => ?_) (Ev.now _)
  unfold spec_WaveOf.f encW
  rw [if_pos (by omega), hok, if_neg (by decide)]
def len2 (n : Nat) : Nat := if n = 0 then 0 else Nat.log2 n + 1
theorem len2_half (n : Nat) (h : 0 < n) : len2 n = len2 (n / 2) + 1 := by
 unfold len2
 rw [if_neg (by omega)]
 by_cases c : n / 2 = 0
 ·rw [if_pos c]
  have : n = 1 := by omega
  subst this
  rfl
 ·rw [if_neg c, Nat.log2_def n, if_pos (by omega)]
theorem len2_shift (m : Nat) : ∀ n : Nat, 0 < n / 2 ^ m → len2 n = len2 (n / 2 ^ m) + m := by
 induction m with
 | zero => intro n _; rw [Nat.pow_zero, Nat.div_one, Nat.add_zero]
 | succ m ih =>
  intro n h
  have e : n / 2 ^ (m + 1) = n / 2 / 2 ^ m := by rw [Nat.div_div_eq_div_mul, Nat.pow_succ, Nat.mul_comm]
  rw [e] at h ⊢
  have hn : 0 < n := by
   cases n with
   | zero => simp at h
   | succ n => omega
  rw [len2_half n hn, ih (n / 2) h]
  omega
theorem len2_le (n k : Nat) (h : n < 2 ^ k) : len2 n ≤ k := by
 unfold len2
 by_cases c : n = 0
 ·rw [if_pos c]; omega
 ·rw [if_neg c]
  have := (Nat.log2_lt c).2 h
  omega
set_option maxRecDepth 100000 in
def tabL : ByteArray := ⟨#[0, 1, 2, 2, 3, 3, 3, 3, 4, 4, 4, 4, 4, 4, 4, 4, 5, 5, 5, 5, 5, 5, 5, 5, 5, 5, 5, 5, 5, 5, 5, 5, 6, 6, 6, 6, 6, 6, 6, 6, 6, 6, 6, 6, 6, 6, 6, 6, 6, 6, 6, 6, 6, 6, 6, 6, 6, 6, 6, 6, 6, 6, 6, 6, 7, 7, 7, 7, 7, 7, 7, 7, 7, 7, 7, 7, 7, 7, 7, 7, 7, 7, 7, 7, 7, 7, 7, 7, 7, 7, 7, 7, 7, 7, 7, 7, 7, 7, 7, 7, 7, 7, 7, 7, 7, 7, 7, 7, 7, 7, 7, 7, 7, 7, 7, 7, 7, 7, 7, 7, 7, 7, 7, 7, 7, 7, 7, 7, 8, 8, 8, 8, 8, 8, 8, 8, 8, 8, 8, 8, 8, 8, 8, 8, 8, 8, 8, 8, 8, 8, 8, 8, 8, 8, 8, 8, 8, 8, 8, 8, 8, 8, 8, 8, 8, 8, 8, 8, 8, 8, 8, 8, 8, 8, 8, 8, 8, 8, 8, 8, 8, 8, 8, 8, 8, 8, 8, 8, 8, 8, 8, 8, 8, 8, 8, 8, 8, 8, 8, 8, 8, 8, 8, 8, 8, 8, 8, 8, 8, 8, 8, 8, 8, 8, 8, 8, 8, 8, 8, 8, 8, 8, 8, 8, 8, 8, 8, 8, 8, 8, 8, 8, 8, 8, 8, 8, 8, 8, 8, 8, 8, 8, 8, 8, 8, 8, 8, 8, 8, 8, 8, 8, 8, 8, 8, 8]⟩
set_option maxRecDepth 100000 in
theorem tab_all : ∀ i : Fin 256, bt tabL ((i.val : Nat) : Int) = ((len2 i.val : Nat) : Int) := by decide +kernel
theorem tab_len2 (i : Nat) (h : i < 256) : bt tabL (i : Int) = ((len2 i : Nat) : Int) := tab_all ⟨i, h⟩
set_option maxRecDepth 100000 in
theorem bitsLen64_j1 (x n : Nat) (hx : x < 65536) (hn : n ≤ 64) : Ev (fun k => bits_Len64.j1 k (x : Int) (n : Int)) ((n + len2 x : Nat) : Int) := by
 refine Ev.step (f := fun _ => some _) (fun k => ?_) (Ev.now _)
 rw [bits_Len64.j1]
 have ht : ∀ y : Int, bt tabL y = bt (⟨#[0, 1, 2, 2, 3, 3, 3, 3, 4, 4, 4, 4, 4, 4, 4, 4, 5, 5, 5, 5, 5, 5, 5, 5, 5, 5, 5, 5, 5, 5, 5, 5, 6, 6, 6, 6, 6, 6, 6, 6, 6, 6, 6, 6, 6, 6, 6, 6, 6, 6, 6, 6, 6, 6, 6, 6, 6, 6, 6, 6, 6, 6, 6, 6, 7, 7, 7, 7, 7, 7, 7, 7, 7, 7, 7, 7, 7, 7, 7, 7, 7, 7, 7, 7, 7, 7, 7, 7, 7, 7, 7, 7, 7, 7, 7, 7, 7, 7, 7, 7, 7, 7, 7, 7, 7, 7, 7, 7, 7, 7, 7, 7, 7, 7, 7, 7, 7, 7, 7, 7, 7, 7, 7, 7, 7, 7, 7, 7, 8, 8, 8, 8, 8, 8, 8, 8, 8, 8, 8, 8, 8, 8, 8, 8, 8, 8, 8, 8, 8, 8, 8, 8, 8, 8, 8, 8, 8, 8, 8, 8, 8, 8, 8, 8, 8, 8, 8, 8, 8, 8, 8, 8, 8, 8, 8, 8, 8, 8, 8, 8, 8, 8, 8, 8, 8, 8, 8, 8, 8, 8, 8, 8, 8, 8, 8, 8, 8, 8, 8, 8, 8, 8, 8, 8, 8, 8, 8, 8, 8, 8, 8, 8, 8, 8, 8, 8, 8, 8, 8, 8, 8, 8, 8, 8, 8, 8, 8, 8, 8, 8, 8, 8, 8, 8, 8, 8, 8, 8, 8, 8, 8, 8, 8, 8, 8, 8, 8, 8, 8, 8, 8, 8, 8, 8, 8, 8]⟩ : ByteArray) y := fun _ => rfl
 by_cases c : (x : Int) ≥ 256
 ·have e : ((x : Int) / 256) % 256 = ((x / 256 : Nat) : Int) := by omega
  have hl := len2_shift 8 x (by show 0 < x / 256; omega)
  have hle := len2_le (x / 256) 8 (by omega)
  rw [if_pos c, if_pos (by omega), if_pos (by omega), ← ht, e, tab_len2 _ (by omega), w64 (x := (n : Int) + 8) (by omega) (by omega), w64 (x := ((len2 (x / 256) : Nat) : Int)) (by omega) (by omega), w64 (by omega) (by omega)]
  rw [hl]
  congr 1
  show (n : Int) + 8 + ((len2 (x / 256) : Nat) : Int) = ((n + (len2 (x / 256) + 8) : Nat) : Int)
  omega
 ·have e : (x : Int) % 256 = (x : Int) := by omega
  have hle := len2_le x 8 (by omega)
  rw [if_neg c, if_pos (by omega), if_pos (by omega), ← ht, e, tab_len2 _ (by omega), w64 (x := ((len2 x : Nat) : Int)) (by omega) (by omega), w64 (by omega) (by omega)]
  congr 1
theorem bitsLen64_j0 (x n : Nat) (hx : x < 4294967296) (hn : n ≤ 32) : Ev (fun k => bits_Len64.j0 k (x : Int) (n : Int)) ((n + len2 x : Nat) : Int) := by
 by_cases c : (x : Int) ≥ 65536
 ·have hl := len2_shift 16 x (by show 0 < x / 65536; omega)
  have e : (x : Int) / 65536 = ((x / 65536 : Nat) : Int) := by omega
  have h := bitsLen64_j1 (x / 65536) (n + 16) (by omega) (by omega)
  have e2 : n + len2 x = n + 16 + len2 (x / 65536) := by rw [hl]; show n + (len2 (x / 65536) + 16) = _; omega
  rw [e2]
  refine Ev.step (fun k => ?_) h
  rw [bits_Len64.j0, if_pos c, e, w64 (by omega) (by omega)]
  rfl
 ·refine Ev.step (fun k => ?_) (bitsLen64_j1 x n (by omega) (by omega))
  rw [bits_Len64.j0, if_neg c]
theorem implWidthOf_ev (x : Nat) (hx : x < 4294967296) : Ev (fun k => impl_WidthOf.f k (x : Int)) ((len2 x : Nat) : Int) := by
 obtain ⟨K, h⟩ := ev_out (bitsLen64_j0 x 0 hx (by omega))
 refine ev_mk K fun k hk => ?_
 have h1 := h k hk
 rw [Nat.zero_add] at h1
 unfold impl_WidthOf.f bits_Len.f bits_Len64.f
 rw [if_neg (by omega), wu64 (by omega) (by omega), if_neg (by omega)]
 have h2 : bits_Len64.j0 k (x : Int) 0 = some ((len2 x : Nat) : Int) := h1
 rw [h2]
 rfl
theorem specWidth_l0 (d : Nat) : ∀ (x n : Nat), len2 x ≤ d → x < 4294967296 → n + d ≤ 1000 → Ev (fun k => spec_WidthOf.l0 k (x : Int) (n : Int)) ((n + len2 x : Nat) : Int) := by
 induction d with
 | zero =>
  intro x n h hx hn
  have hx0 : x = 0 := by
   cases x with
   | zero => rfl
   | succ x => rw [len2_half (x + 1) (by omega)] at h; omega
  subst hx0
  refine Ev.step (f := fun _ => some _) (fun k => ?_) (Ev.now _)
  rw [spec_WidthOf.l0, if_neg (by omega)]
  rfl
 | succ d ih =>
  intro x n h hx hn
  by_cases c : x = 0
  ·subst c
   refine Ev.step (f := fun _ => some _) (fun k => ?_) (Ev.now _)
   rw [spec_WidthOf.l0, if_neg (by omega)]
   rfl
  ·have e := len2_half x (by omega)
   have e3 : n + len2 x = n + 1 + len2 (x / 2) := by omega
   rw [e3]
   refine Ev.step (fun k => ?_) (ih (x / 2) (n + 1) (by omega) (by omega) (by omega))
   have e4 : Int.tdiv (x : Int) 2 = ((x / 2 : Nat) : Int) := rfl
   rw [spec_WidthOf.l0, if_pos (by omega), e4, w64 (by omega) (by omega), w64 (by omega) (by omega)]
   rfl
theorem p2 (m k : Nat) (h : m ≤ k) : 2 ^ m ≤ 2 ^ k := Nat.pow_le_pow_right (n := 2) (by decide) h
theorem pow02_l0 (m : Nat) : ∀ (a : Nat), a * 2 ^ m ≤ 4294967296 → m ≤ 32 → Ev (fun k => spec_l02Pow.l0 k (m : Int) (a : Int)) ((a * 2 ^ m : Nat) : Int) := by
 induction m with
 | zero =>
  intro a h _
  refine Ev.step (f := fun _ => some _) (fun k => ?_) (Ev.now _)
  rw [spec_l02Pow.l0, if_neg (by omega), Nat.pow_zero, Nat.mul_one]
 | succ m ih =>
  intro a h hm
  have e : a * 2 ^ (m + 1) = 2 * a * 2 ^ m := by rw [Nat.pow_succ, Nat.mul_comm (2 ^ m) 2, ← Nat.mul_assoc, Nat.mul_comm a 2]
  have hq : a ≤ a * 2 ^ (m + 1) := Nat.le_mul_of_pos_right a (Nat.two_pow_pos _)
  rw [e] at h ⊢
  refine Ev.step (fun k => ?_) (ih (2 * a) h (by omega))
  rw [spec_l02Pow.l0, if_pos (by omega), w64 (by omega) (by omega), w64 (by omega) (by omega), show ((m + 1 : Nat) : Int) - 1 = (m : Int) by omega, show 2 * (a : Int) = ((2 * a : Nat) : Int) by omega]
theorem pow02_ev (m : Nat) (h : m ≤ 32) : Ev (fun k => spec_l02Pow.f k (m : Int)) ((2 ^ m : Nat) : Int) := by
 have := pow02_l0 m 1 (by have := p2 m 32 h; omega) h
 rw [Nat.one_mul] at this
 exact this
def digs : Nat → Nat → List Int
 | 0, _ => []
 | w + 1, x => ((x % 2 : Nat) : Int) :: digs w (x / 2)
theorem digs_length (w : Nat) : ∀ x, (digs w x).length = w := by
 induction w with
 | zero => intro x; rfl
 | succ w ih => intro x; rw [digs, List.length_cons, ih]
theorem digs_01 (w : Nat) : ∀ x, ∀ y ∈ digs w x, y = 0 ∨ y = 1 := by
 induction w with
 | zero => intro x y h; cases h
 | succ w ih =>
  intro x y h
  rcases List.mem_cons.1 h with e | e
  ·omega
  ·exact ih _ y e
def packB (w : Nat) (l : List Int) : List Int := l.flatMap fun x => digs w x.toNat
theorem packB_length (w : Nat) (l : List Int) : (packB w l).length = l.length * w := by
 induction l with
 | nil => rw [packB, List.flatMap_nil, List.length_nil, Nat.zero_mul]
 | cons x l ih =>
  have e : packB w (x :: l) = digs w x.toNat ++ packB w l := List.flatMap_cons
  rw [e, List.length_append, ih, digs_length, List.length_cons, Nat.succ_mul]
  omega
theorem packB_snoc (w : Nat) (l : List Int) (x : Int) : packB w (l ++ [x]) = packB w l ++ digs w x.toNat := by
 unfold packB
 rw [List.flatMap_append]
 simp
theorem packB_01 (w : Nat) (l : List Int) : ∀ y ∈ packB w l, y = 0 ∨ y = 1 := by
 intro y h
 obtain ⟨x, _, hx⟩ := List.mem_flatMap.1 h
 exact digs_01 w _ y hx
theorem mem_get01 {l : List Int} (h : ∀ y ∈ l, y = 0 ∨ y = 1) : ∀ i, i < l.length → l.getD i 0 = 0 ∨ l.getD i 0 = 1 := by
 intro i hi
 rw [lget_lt _ _ _ hi]
 exact h _ (List.getElem_mem hi)
theorem and1s (a : Nat) (h : a < 4294967296) : Go.bits .and .i64 (a : Int) 1 = ((a % 2 : Nat) : Int) := by
 have o : ∀ a : Nat, a < 4294967296 → (BitVec.ofInt 64 (a : Int)).toNat = a := fun a h => by rw [BitVec.ofInt_natCast, BitVec.toNat_ofNat]; exact Nat.mod_eq_of_lt (by omega)
 show IntKind.i64.wrap ((BitVec.ofInt 64 (a : Int) &&& BitVec.ofInt 64 ((1 : Nat) : Int)).toNat : Int) = _
 rw [BitVec.toNat_and, o _ (by omega), o _ (by omega), Nat.and_one_is_mod, i64_w, w64 (by omega) (by omega)]
theorem implDigits_l0 (w : Nat) (hw : w ≤ 32) (d : Nat) : ∀ (x i : Nat) (acc : List Int), i + d = w → x < 4294967296 → acc.length + d ≤ 10000 → Ev (fun k => impl_digits.l0 k (x : Int) acc (w : Int) (i : Int)) (acc ++ digs d x) := by
 induction d with
 | zero =>
  intro x i acc h hx ha
  refine Ev.step (f := fun _ => some _) (fun k => ?_) (Ev.now _)
  rw [impl_digits.l0, if_neg (by omega), digs, List.append_nil]
 | succ d ih =>
  intro x i acc h hx ha
  rw [digs, List.append_cons]
  refine Ev.step (fun k => ?_) (ih (x / 2) (i + 1) (acc ++ [((x % 2 : Nat) : Int)]) (by omega) (by omega) (by rw [List.length_append]; simp; omega))
  have e : (x : Int) / 2 = ((x / 2 : Nat) : Int) := by omega
  rw [impl_digits.l0, if_pos (by omega), if_pos (by omega), and1s x hx, e, w64 (by omega) (by omega)]
  rfl
theorem implDigits_ev (w x : Nat) (hw : w ≤ 32) (hx : x < 4294967296) : Ev (fun k => impl_digits.f k (x : Int) (w : Int)) (digs w x) := by
 have := implDigits_l0 w hw w x 0 [] (by omega) hx (by simp; omega)
 rw [List.nil_append] at this
 exact this
def packR (w : Nat) (l : List Int) : Int × Int × Int × List Int × Bool := if l.length * w ≤ 5000 then ((w : Int), (l.length : Int), ((packB w l).length : Int), wordsOf (packB w l), true) else (0, 0, 0, [], false)
def InW (w : Nat) (l : List Int) : Prop := ∀ x ∈ l, 0 ≤ x ∧ x < ((2 ^ w : Nat) : Int)
theorem InW.get {w : Nat} {l : List Int} (h : InW w l) (i : Nat) (hi : i < l.length) : ∃ x : Nat, l.getD i 0 = (x : Int) ∧ x < 2 ^ w := by
 rw [lget_lt _ _ _ hi]
 obtain ⟨h0, h1⟩ := h _ (List.getElem_mem hi)
 obtain ⟨x, hx⟩ := Int.eq_ofNat_of_zero_le h0
 exact ⟨x, hx, by omega⟩
theorem shl1 (w : Nat) (h : w ≤ 32) : shl .i64 1 (w : Int) = ((2 ^ w : Nat) : Int) := by
 have hp := p2 w 32 h
 unfold shl
 rw [Int.toNat_natCast, show min w IntKind.i64.bits = w by show min w 64 = w; omega, Int.one_mul, i64_w]
 have e : (2 : Int) ^ w = ((2 ^ w : Nat) : Int) := by simp
 rw [e]
 generalize 2 ^ w = q at hp
 exact w64 (by omega) (by omega)
theorem all63 {w : Nat} {l : List Int} (h : InW w l) (hw : w ≤ 32) : l.all (Fv.p63 (w : Int)) = true := by
 refine List.all_eq_true.2 fun x hx => ?_
 obtain ⟨h0, h1⟩ := h x hx
 have hp := p2 w 32 hw
 unfold Fv.p63 Fv.inR
 rw [shl1 w hw]
 generalize 2 ^ w = q at hp h1
 rw [w64 (by omega) (by omega)]
 exact decide_eq_true ⟨h0, by omega⟩
theorem take_packB (w : Nat) (l : List Int) (i : Nat) (hi : i < l.length) : packB w (l.take (i + 1)) = packB w (l.take i) ++ digs w (l.getD i 0).toNat := by
 rw [take_succ_getD l 0 i hi, packB_snoc]
theorem take_packB_le (w : Nat) (l : List Int) (i : Nat) (hs : l.length * w ≤ 5000) : (packB w (l.take i)).length ≤ 5000 := by
 rw [packB_length]
 have : (l.take i).length * w ≤ l.length * w := Nat.mul_le_mul_right w (by rw [List.length_take]; omega)
 omega
theorem implPack_l0 (w : Nat) (l : List Int) (hl : InW w l) (hw : w ≤ 32) (h5 : l.length ≤ 5000) (hs : l.length * w ≤ 5000) (d : Nat) : ∀ i : Nat, i + d = l.length →
  Ev (fun k => impl_PackOf.l0 k l (packB w (l.take i)) l (l.length : Int) (i : Int) (w : Int)) ((w : Int), (l.length : Int), ((packB w l).length : Int), wordsOf (packB w l), true) := by
 induction d with
 | zero =>
  intro i h
  obtain rfl : i = l.length := by omega
  rw [List.take_length]
  have hle := take_packB_le w l l.length hs
  rw [List.take_length] at hle
  obtain ⟨K, hK⟩ := ev_out (implBitsOf_ev (packB w l) (mem_get01 (packB_01 w l)) hle)
  refine ev_mk (K + 1) fun k hk => ?_
  obtain ⟨k, rfl⟩ : ∃ m, k = m + 1 := ⟨k - 1, by omega⟩
  rw [impl_PackOf.l0, if_neg (by omega), hK k (by omega), Option.bind_some]
 | succ d ih =>
  intro i h
  obtain ⟨x, hx, hx2⟩ := hl.get i (by omega)
  have hp := p2 w 32 hw
  have hi1 := ih (i + 1) (by omega)
  rw [take_packB w l i (by omega), hx, Int.toNat_natCast] at hi1
  obtain ⟨K1, k1⟩ := ev_out (implDigits_ev w x hw (by omega))
  obtain ⟨K2, k2⟩ := ev_out hi1
  have hle := take_packB_le w l i hs
  refine ev_mk (K1 + K2 + 1) fun k hk => ?_
  obtain ⟨k, rfl⟩ : ∃ m, k = m + 1 := ⟨k - 1, by omega⟩
  have hd := digs_length w x
  rw [impl_PackOf.l0, if_pos (by omega), if_pos (by omega), if_pos (by omega), rd_nat, hx, k1 k (by omega), Option.bind_some, if_pos (by omega), w64 (by omega) (by omega)]
  exact k2 k (by omega)
theorem implPackOf_ev (w : Nat) (l : List Int) (hl : InW w l) (hw : w ≤ 32) (h5 : l.length ≤ 5000) : Ev (fun k => impl_PackOf.f k l (w : Int)) (packR w l) := by
 have hm : (l.length : Int) * (w : Int) = ((l.length * w : Nat) : Int) := by simp
 have hb : l.length * w ≤ 5000 * 32 := Nat.mul_le_mul h5 hw
 unfold packR
 by_cases hs : l.length * w ≤ 5000
 ·rw [if_pos hs]
  have h := implPack_l0 w l hl hw h5 hs l.length 0 (by omega)
  obtain ⟨K, hK⟩ := ev_out h
  refine ev_mk (K + 1) fun k hk => ?_
  obtain ⟨k, rfl⟩ : ∃ m, k = m + 1 := ⟨k - 1, by omega⟩
  unfold impl_PackOf.f impl_within.f impl_areAll_63.f
  rw [if_pos (by omega), Option.bind_some, if_pos (decide_eq_true (by omega)), if_neg (by omega), hm]
  generalize l.length * w = q at hs hb
  rw [w64 (by omega) (by omega), if_neg (by omega), if_pos ⟨by unfold maxLen; omega, by show (0 : Int) ≤ _; omega⟩, Option.bind_some, all63 hl hw, impl_PackOf.j0, if_neg (by decide)]
  exact hK k (by omega)
 ·rw [if_neg hs]
  refine ev_mk 1 fun k hk => ?_
  obtain ⟨k, rfl⟩ : ∃ m, k = m + 1 := ⟨k - 1, by omega⟩
  unfold impl_PackOf.f impl_within.f
  rw [if_pos (by omega), Option.bind_some, if_pos (decide_eq_true (by omega)), if_neg (by omega), hm]
  generalize l.length * w = q at hs hb
  rw [w64 (by omega) (by omega), if_pos (by omega), impl_PackOf.j0, if_pos rfl]
theorem specPack_l1 (l : List Int) (w : Nat) (hw : w ≤ 32) (i : Int) (r : Int × Int × Int × List Int × Bool) (d : Nat) : ∀ (x j : Nat) (acc : List Int), j + d = w → x < 4294967296 → acc.length + d ≤ 10000 →
  Ev (fun k => spec_PackOf.l0 k l (w : Int) (acc ++ digs d x) (wrap64 (i + 1))) r → Ev (fun k => spec_PackOf.l1 k l (w : Int) acc i (x : Int) (j : Int)) r := by
 induction d with
 | zero =>
  intro x j acc h hx ha hk
  rw [digs, List.append_nil] at hk
  refine Ev.step (fun k => ?_) hk
  rw [spec_PackOf.l1, if_neg (by omega)]
 | succ d ih =>
  intro x j acc h hx ha hk
  rw [digs, List.append_cons] at hk
  refine Ev.step (fun k => ?_) (ih (x / 2) (j + 1) (acc ++ [((x % 2 : Nat) : Int)]) (by omega) (by omega) (by rw [List.length_append]; simp; omega) hk)
  have e : Int.tdiv (x : Int) 2 = ((x / 2 : Nat) : Int) := rfl
  have e2 : Int.tmod (x : Int) 2 = ((x % 2 : Nat) : Int) := rfl
  rw [spec_PackOf.l1, if_pos (by omega), if_pos (by omega), e, e2, w64 (by omega) (by omega), w64 (by omega) (by omega)]
  rfl
theorem specPack_l0 (w : Nat) (l : List Int) (hl : InW w l) (hw : w ≤ 32) (h5 : l.length ≤ 5000) (hs : l.length * w ≤ 5000) (d : Nat) : ∀ i : Nat, i + d = l.length →
  Ev (fun k => spec_PackOf.l0 k l (w : Int) (packB w (l.take i)) (i : Int)) ((w : Int), (l.length : Int), ((packB w l).length : Int), wordsOf (packB w l), true) := by
 induction d with
 | zero =>
  intro i h
  obtain rfl : i = l.length := by omega
  rw [List.take_length]
  have hle := take_packB_le w l l.length hs
  rw [List.take_length] at hle
  obtain ⟨K, hK⟩ := ev_out (specBitsOf_ev (packB w l) (mem_get01 (packB_01 w l)) hle)
  refine ev_mk (K + 1) fun k hk => ?_
  obtain ⟨k, rfl⟩ : ∃ m, k = m + 1 := ⟨k - 1, by omega⟩
  rw [spec_PackOf.l0, if_neg (by omega), hK k (by omega), Option.bind_some]
 | succ d ih =>
  intro i h
  obtain ⟨x, hx, hx2⟩ := hl.get i (by omega)
  have hp := p2 w 32 hw
  have hi1 := ih (i + 1) (by omega)
  rw [take_packB w l i (by omega), hx, Int.toNat_natCast, show ((i + 1 : Nat) : Int) = wrap64 ((i : Int) + 1) from (w64 (by omega) (by omega)).symm] at hi1
  have hle := take_packB_le w l i hs
  obtain ⟨K2, k2⟩ := ev_out (specPack_l1 l w hw (i : Int) _ w x 0 (packB w (l.take i)) (by omega) (by omega) (by omega) hi1)
  obtain ⟨K1, k1⟩ := ev_out (pow02_ev w hw)
  refine ev_mk (K1 + K2 + 2) fun k hk => ?_
  obtain ⟨k, rfl⟩ : ∃ m, k = m + 2 := ⟨k - 2, by omega⟩
  rw [spec_PackOf.l0, if_pos (by omega), if_pos (by omega), rd_nat, hx, if_neg (by omega), k1 _ (by omega), Option.bind_some, decide_eq_false (by omega), spec_PackOf.j2, if_neg (by decide)]
  exact k2 k (by omega)
theorem specPackOf_ev (w : Nat) (l : List Int) (hl : InW w l) (hw : w ≤ 32) (h5 : l.length ≤ 5000) : Ev (fun k => spec_PackOf.f k l (w : Int)) (packR w l) := by
 have hm : (l.length : Int) * (w : Int) = ((l.length * w : Nat) : Int) := by simp
 have hb : l.length * w ≤ 5000 * 32 := Nat.mul_le_mul h5 hw
 unfold packR
 by_cases hs : l.length * w ≤ 5000
 ·rw [if_pos hs]
  have h := specPack_l0 w l hl hw h5 hs l.length 0 (by omega)
  obtain ⟨K, hK⟩ := ev_out h
  refine ev_mk (K + 1) fun k hk => ?_
  obtain ⟨k, rfl⟩ : ∃ m, k = m + 1 := ⟨k - 1, by omega⟩
  unfold spec_PackOf.f
  rw [if_neg (by omega), if_neg (by omega), if_neg (by omega), hm]
  generalize l.length * w = q at hs hb
  rw [w64 (by omega) (by omega), decide_eq_false (by omega), spec_PackOf.j0, if_neg (by decide)]
  exact hK k (by omega)
 ·rw [if_neg hs]
  refine ev_mk 1 fun k hk => ?_
  obtain ⟨k, rfl⟩ : ∃ m, k = m + 1 := ⟨k - 1, by omega⟩
  unfold spec_PackOf.f
  rw [if_neg (by omega), if_neg (by omega), if_neg (by omega), hm]
  generalize l.length * w = q at hs hb
  rw [w64 (by omega) (by omega), decide_eq_true (by omega), spec_PackOf.j0, if_pos rfl]
def invL (R : List Int) : List Int := (List.range R.length).map fun (j : Nat) => ((R.idxOf (j : Int) : Nat) : Int)
theorem invL_len (R : List Int) : (invL R).length = R.length := by unfold invL; simp
theorem invL_at (R : List Int) (j : Nat) (h : j < R.length) : (invL R).getD j 0 = ((R.idxOf (j : Int) : Nat) : Int) := by
 rw [lget_lt _ j 0 (by rw [invL_len]; exact h)]
 unfold invL
 simp
/-- All of 0, .., n - 1, each once. -/
def Full (R : List Int) : Prop := R.Nodup ∧ R.length ≤ 301 ∧ (∀ x ∈ R, 0 ≤ x ∧ x < (R.length : Int)) ∧ ∀ j : Nat, j < R.length → (j : Int) ∈ R
theorem full_at {R : List Int} (h : Full R) (i : Nat) (hi : i < R.length) : 0 ≤ R.getD i 0 ∧ R.getD i 0 < (R.length : Int) := by
 rw [lget_lt _ i 0 hi]
 exact h.2.2.1 _ (List.getElem_mem _)
theorem idx_at {R : List Int} (h : Full R) (i : Nat) (hi : i < R.length) : R.idxOf (R.getD i 0) = i := by
 rw [lget_lt _ i 0 hi]
 exact List.Nodup.idxOf_getElem h.1 i hi
theorem at_idx {R : List Int} (h : Full R) (j : Nat) (hj : j < R.length) : R.idxOf (j : Int) < R.length ∧ R.getD (R.idxOf (j : Int)) 0 = (j : Int) := by
 have hm := List.idxOf_lt_length_iff.2 (h.2.2.2 j hj)
 refine ⟨hm, ?_⟩
 rw [lget_lt _ _ 0 hm]
 exact List.getElem_idxOf hm
theorem specInv_l1 {R : List Int} (h : Full R) (acc : List Int) (j : Nat) (hj : j < R.length) (hacc : acc.length ≤ 301) (r : List Int × Bool)
  (hn : Ev (fun k => spec_Inverse.l0 k R (acc ++ [((R.idxOf (j : Int) : Nat) : Int)]) ((j + 1 : Nat) : Int)) r) (d : Nat) : ∀ i : Nat, i + d = R.length →
  ∀ x6 : Int, (i ≤ R.idxOf (j : Int) → x6 = -1) → (R.idxOf (j : Int) < i → x6 = ((R.idxOf (j : Int) : Nat) : Int)) → Ev (fun k => spec_Inverse.l1 k R acc (j : Int) x6 (i : Int)) r := by
 obtain ⟨q1, q2⟩ := at_idx h j hj
 have hL := h.2.1
 induction d with
 | zero =>
  intro i hi x6 _ h2
  have := h2 (by omega)
  subst this
  refine Ev.step (fun k => ?_) hn
  rw [spec_Inverse.l1, if_neg (by omega), if_neg (by omega), if_pos (by omega), w64 (by omega) (by omega)]
  rfl
 | succ d ih =>
  intro i hi x6 h1 h2
  by_cases c : R.getD i 0 = (j : Int)
  ·have e : R.idxOf (j : Int) = i := by rw [← c]; exact idx_at h i (by omega)
   refine Ev.step (fun k => ?_) (ih (i + 1) (by omega) ((i : Nat) : Int) (fun q => by omega) (fun _ => by rw [e]))
   rw [spec_Inverse.l1, if_pos (by omega), if_pos (by omega), rd_nat, if_pos c, w64 (by omega) (by omega)]
   rfl
  ·have ne : R.idxOf (j : Int) ≠ i := fun e => c (by rw [← e]; exact q2)
   refine Ev.step (fun k => ?_) (ih (i + 1) (by omega) x6 (fun q => h1 (by omega)) (fun q => h2 (by omega)))
   rw [spec_Inverse.l1, if_pos (by omega), if_pos (by omega), rd_nat, if_neg c, w64 (by omega) (by omega)]
   rfl
theorem specInv_l0 {R : List Int} (h : Full R) (d : Nat) : ∀ j : Nat, j + d = R.length → Ev (fun k => spec_Inverse.l0 k R ((invL R).take j) (j : Int)) (invL R, true) := by
 have hL := h.2.1
 have hI := invL_len R
 induction d with
 | zero =>
  intro j hj
  refine Ev.step (f := fun _ => some _) (fun k => ?_) (Ev.now _)
  rw [spec_Inverse.l0, if_neg (by omega), List.take_of_length_le (by omega)]
 | succ d ih =>
  intro j hj
  have hn := ih (j + 1) (by omega)
  rw [take_succ_getD (invL R) 0 j (by omega), invL_at R j (by omega)] at hn
  refine Ev.step (fun k => ?_) (specInv_l1 h ((invL R).take j) j (by omega) (by rw [List.length_take]; omega) _ hn R.length 0 (by omega) (-1) (fun _ => rfl) (fun q => by omega))
  rw [spec_Inverse.l0, if_pos (by omega)]
  rfl
theorem specInv_ev {R : List Int} (h : Full R) : Ev (fun k => spec_Inverse.f k R) (invL R, true) :=
 Ev.congr (f := fun k => spec_Inverse.l0 k R ((invL R).take 0) ((0 : Nat) : Int)) (fun _ => by have := h.2.1; rw [spec_Inverse.f, if_neg (by omega)]; rfl) (specInv_l0 h R.length 0 (by omega))
theorem implInv_l0 {R : List Int} (h : Full R) (d : Nat) : ∀ (i : Nat) (o : List Int), i + d = R.length → o.length = R.length → (∀ t, t < i → o.getD (R.getD t 0).toNat 0 = (t : Int)) → Ev (fun k => impl_inverse.l0 k o R (R.length : Int) (i : Int)) (invL R) := by
 have hL := h.2.1
 induction d with
 | zero =>
  intro i o hi ho hw
  refine Ev.step (f := fun _ => some _) (fun k => ?_) (Ev.now _)
  rw [impl_inverse.l0, if_neg (by omega)]
  congr 1
  refine List.ext_getElem (by rw [ho, invL_len]) fun j hj1 hj2 => ?_
  obtain ⟨q1, q2⟩ := at_idx h j (by omega)
  have q3 := hw (R.idxOf (j : Int)) (by omega)
  rw [q2, Int.toNat_natCast, lget_lt _ j 0 hj1] at q3
  have q4 := invL_at R j (by omega)
  rw [lget_lt _ j 0 hj2] at q4
  rw [q3, q4]
 | succ d ih =>
  intro i o hi ho hw
  obtain ⟨a0, a1⟩ := full_at h i (by omega)
  refine Ev.step (fun k => ?_) (ih (i + 1) (o.set (R.getD i 0).toNat (i : Int)) (by omega) (by rw [List.length_set]; exact ho) fun t ht => ?_)
  ·rw [impl_inverse.l0, if_pos (by omega), if_pos (by omega), if_pos (by omega), rd_nat, if_pos a0, if_pos (by omega), w64 (by omega) (by omega)]
   rfl
  ·by_cases e : t = i
   ·subst e
    rw [List.getD_eq_getElem?_getD, List.getElem?_set_self (by omega)]
    rfl
   ·have b := full_at h t (by omega)
    have ne : (R.getD i 0).toNat ≠ (R.getD t 0).toNat := fun q => by
     have : R.getD i 0 = R.getD t 0 := by omega
     have := congrArg R.idxOf this
     rw [idx_at h i (by omega), idx_at h t (by omega)] at this
     omega
    rw [List.getD_eq_getElem?_getD, List.getElem?_set_ne ne, ← List.getD_eq_getElem?_getD]
    exact hw t (by omega)
theorem implInv_ev {R : List Int} (h : Full R) : Ev (fun k => impl_inverse.f k R) (invL R) :=
 Ev.congr (f := fun k => impl_inverse.l0 k (List.replicate R.length 0) R (R.length : Int) ((0 : Nat) : Int)) (fun _ => by have := h.2.1; rw [impl_inverse.f, if_pos (by omega), Int.toNat_natCast, if_pos (by omega)]; rfl) (implInv_l0 h R.length 0 _ (by omega) (by simp) (fun t ht => by omega))
theorem rows_full (l : List Int) (hl : l.length ≤ 300) : Full (rowsOf l) := by
 have hn := rowsOf_len l
 refine ⟨rowsOf_nodup l, by omega, fun x hx => ?_, fun j hj => (rowsOf_mem l _).2 (by omega)⟩
 have := (rowsOf_mem l x).1 hx
 omega
theorem inv_at {R : List Int} (h : Full R) (j : Nat) (hj : j < R.length) : 0 ≤ (invL R).getD j 0 ∧ (invL R).getD j 0 < (R.length : Int) := by
 rw [invL_at R j hj]
 have := (at_idx h j hj).1
 omega
def cntL (l : List Int) (c : Nat) : Nat := l.countP fun x => decide (x < (c : Int))
def countsL (l : List Int) : List Int := (List.range 258).map fun (c : Nat) => (cntL l c : Int)
theorem countsL_len (l : List Int) : (countsL l).length = 258 := by unfold countsL; simp
theorem countsL_at (l : List Int) (c : Nat) (h : c < 258) : (countsL l).getD c 0 = (cntL l c : Int) := by
 rw [lget_lt _ c 0 (by rw [countsL_len]; exact h)]
 unfold countsL
 simp
def Syms (l : List Int) : Prop := l.length ≤ 301 ∧ ∀ x ∈ l, 0 ≤ x ∧ x ≤ 256
theorem syms_at {l : List Int} (h : Syms l) (i : Nat) (hi : i < l.length) : 0 ≤ l.getD i 0 ∧ l.getD i 0 ≤ 256 := by
 rw [lget_lt _ i 0 hi]
 exact h.2 _ (List.getElem_mem _)
theorem cnt_snoc (a : List Int) (x : Int) (c : Nat) : cntL (a ++ [x]) c = cntL a c + (if x < (c : Int) then 1 else 0) := by
 unfold cntL
 rw [List.countP_append, List.countP_singleton]
 by_cases h : x < (c : Int) <;> simp [h]
theorem cnt_le (l : List Int) (c : Nat) : cntL l c ≤ l.length := List.countP_le_length
theorem symsOk_l0 {l : List Int} (h : Syms l) (d : Nat) : ∀ i : Nat, i + d = l.length → Ev (fun k => spec_SymsOk.l0 k l (i : Int)) true := by
 have hL := h.1
 induction d with
 | zero =>
  intro i hi
  refine Ev.step (f := fun _ => some _) (fun k => ?_) (Ev.now _)
  rw [spec_SymsOk.l0, if_neg (by omega)]
 | succ d ih =>
  intro i hi
  have := syms_at h i (by omega)
  refine Ev.step (fun k => ?_) (ih (i + 1) (by omega))
  rw [spec_SymsOk.l0, if_pos (by omega), if_pos (by omega), rd_nat, if_neg (by omega), if_neg (by omega), w64 (by omega) (by omega)]
  rfl
theorem specCounts_l1 {l : List Int} (h : Syms l) (acc : List Int) (hacc : acc.length ≤ 300) (c : Nat) (hc : c ≤ 257) (r : List Int) (hn : Ev (fun k => spec_Counts.l0 k l (acc ++ [(cntL l c : Int)]) ((c + 1 : Nat) : Int)) r) (d : Nat) : ∀ i : Nat, i + d = l.length →
  Ev (fun k => spec_Counts.l1 k l acc (c : Int) (cntL (l.take i) c : Int) (i : Int)) r := by
 have hL := h.1
 induction d with
 | zero =>
  intro i hi
  refine Ev.step (fun k => ?_) hn
  rw [spec_Counts.l1, if_neg (by omega), if_pos (by omega), w64 (by omega) (by omega), List.take_of_length_le (by omega)]
  rfl
 | succ d ih =>
  intro i hi
  have q := ih (i + 1) (by omega)
  rw [take_succ_getD l 0 i (by omega), cnt_snoc] at q
  have hle := cnt_le (l.take i) c
  rw [List.length_take] at hle
  by_cases g : l.getD i 0 < (c : Int)
  ·rw [if_pos g] at q
   refine Ev.step (fun k => ?_) q
   rw [spec_Counts.l1, if_pos (by omega), if_pos (by omega), rd_nat, if_pos g, w64 (by omega) (by omega), w64 (by omega) (by omega)]
   rfl
  ·rw [if_neg g, Nat.add_zero] at q
   refine Ev.step (fun k => ?_) q
   rw [spec_Counts.l1, if_pos (by omega), if_pos (by omega), rd_nat, if_neg g, w64 (by omega) (by omega)]
   rfl
theorem specCounts_l0 {l : List Int} (h : Syms l) (d : Nat) : ∀ c : Nat, c + d = 258 → Ev (fun k => spec_Counts.l0 k l ((countsL l).take c) (c : Int)) (countsL l) := by
 have hC := countsL_len l
 induction d with
 | zero =>
  intro c hc
  refine Ev.step (f := fun _ => some _) (fun k => ?_) (Ev.now _)
  rw [spec_Counts.l0, if_neg (by omega), List.take_of_length_le (by omega)]
 | succ d ih =>
  intro c hc
  have hn := ih (c + 1) (by omega)
  rw [take_succ_getD (countsL l) 0 c (by omega), countsL_at l c (by omega)] at hn
  refine Ev.step (fun k => ?_) (specCounts_l1 h ((countsL l).take c) (by rw [List.length_take]; omega) c (by omega) _ hn l.length 0 (by omega))
  rw [spec_Counts.l0, if_pos (by omega)]
  rfl
theorem specCounts_ev {l : List Int} (h : Syms l) : Ev (fun k => spec_Counts.f k l) (countsL l) := by
 have hL := h.1
 obtain ⟨K1, h1⟩ := ev_out (symsOk_l0 h l.length 0 (by omega))
 obtain ⟨K2, h2⟩ := ev_out (specCounts_l0 h 258 0 (by omega))
 refine ev_mk (K1 + K2) fun k hk => ?_
 have q1 : spec_SymsOk.l0 k l 0 = some true := h1 k (by omega)
 unfold spec_Counts.f spec_SymsOk.f
 rw [if_neg (by omega), q1, Option.bind_some, if_pos rfl]
 exact h2 k (by omega)
/-- How often the one below stands there. -/
def one (l : List Int) (j : Nat) : Nat := l.countP fun x => decide (x + 1 = (j : Int))
theorem one_snoc (a : List Int) (x : Int) (j : Nat) : one (a ++ [x]) j = one a j + (if x + 1 = (j : Int) then 1 else 0) := by
 unfold one
 rw [List.countP_append, List.countP_singleton]
 by_cases h : x + 1 = (j : Int) <;> simp [h]
theorem one_le (l : List Int) (c : Nat) : one l c ≤ l.length := List.countP_le_length
theorem cnt_one (l : List Int) (j : Nat) : cntL l (j + 1) = cntL l j + one l (j + 1) := by
 induction l with
 | nil => rfl
 | cons x l ih =>
  unfold cntL one at *
  rw [List.countP_cons, List.countP_cons, List.countP_cons]
  by_cases a : x < (j : Int)
  ·rw [if_pos (decide_eq_true (show x < ((j + 1 : Nat) : Int) by omega)), if_pos (decide_eq_true a), if_neg (by rw [decide_eq_true_eq]; omega)]
   omega
  ·by_cases b : x + 1 = ((j + 1 : Nat) : Int)
   ·rw [if_pos (decide_eq_true (show x < ((j + 1 : Nat) : Int) by omega)), if_neg (by rw [decide_eq_true_eq]; exact a), if_pos (decide_eq_true b)]
    omega
   ·rw [if_neg (by rw [decide_eq_true_eq]; omega), if_neg (by rw [decide_eq_true_eq]; exact a), if_neg (by rw [decide_eq_true_eq]; exact b)]
    omega
theorem cnt_zero {l : List Int} (h : Syms l) : cntL l 0 = 0 := List.countP_eq_zero.2 fun x hx => by have := h.2 x hx; rw [decide_eq_true_eq]; omega
theorem one_zero {l : List Int} (h : ∀ x ∈ l, 0 ≤ x) : one l 0 = 0 := List.countP_eq_zero.2 fun x hx => by have := h x hx; rw [decide_eq_true_eq]; omega
theorem implCounts_l1 {l : List Int} (h : Syms l) (d : Nat) : ∀ (j : Nat) (o : List Int), j + d = 258 → 1 ≤ j → o.length = 258 → (∀ t, t < j → o.getD t 0 = (cntL l t : Int)) → (∀ t, j ≤ t → t < 258 → o.getD t 0 = (one l t : Int)) → Ev (fun k => impl_counts.l1 k (j : Int) o) (countsL l) := by
 have hL := h.1
 induction d with
 | zero =>
  intro j o hj h1 ho hw _
  refine Ev.step (f := fun _ => some _) (fun k => ?_) (Ev.now _)
  rw [impl_counts.l1, if_neg (by omega)]
  congr 1
  refine List.ext_getElem (by rw [ho, countsL_len]) fun t ht1 ht2 => ?_
  have q3 := hw t (by omega)
  rw [lget_lt _ t 0 ht1] at q3
  have q4 := countsL_at l t (by omega)
  rw [lget_lt _ t 0 ht2] at q4
  rw [q3, q4]
 | succ d ih =>
  intro j o hj h1 ho hw hv
  obtain ⟨j, rfl⟩ : ∃ m, j = m + 1 := ⟨j - 1, by omega⟩
  have a := hv (j + 1) (by omega) (by omega)
  have b := hw j (by omega)
  have e := cnt_one l j
  have l1 := cnt_le l (j + 1)
  have ew : wrap64 (((j + 1 : Nat) : Int) - 1) = (j : Int) := by rw [w64 (by omega) (by omega)]; omega
  refine Ev.step (fun k => ?_) (ih (j + 2) (o.set (j + 1) (cntL l (j + 1) : Int)) (by omega) (by omega) (by rw [List.length_set]; exact ho) (fun t ht => ?_) (fun t ht1 ht2 => ?_))
  ·rw [impl_counts.l1, if_pos (by omega), if_pos (by omega), if_pos (by omega), ew, if_pos (by omega), if_pos (by omega), rd_nat, rd_nat, a, b, w64 (x := ((j + 1 : Nat) : Int) + 1) (by omega) (by omega), w64 (by omega) (by omega), Int.toNat_natCast]
   congr 2
   omega
  ·by_cases g : t = j + 1
   ·subst g
    rw [List.getD_eq_getElem?_getD, List.getElem?_set_self (by omega)]
    rfl
   ·rw [List.getD_eq_getElem?_getD, List.getElem?_set_ne (by omega), ← List.getD_eq_getElem?_getD]
    exact hw t (by omega)
  ·rw [List.getD_eq_getElem?_getD, List.getElem?_set_ne (by omega), ← List.getD_eq_getElem?_getD]
   exact hv t (by omega) ht2
theorem implCounts_l0 {l : List Int} (h : Syms l) (d : Nat) : ∀ (i : Nat) (o : List Int), i + d = l.length → o.length = 258 → (∀ t, t < 258 → o.getD t 0 = (one (l.take i) t : Int)) → Ev (fun k => impl_counts.l0 k o l (l.length : Int) (i : Int)) (countsL l) := by
 have hL := h.1
 induction d with
 | zero =>
  intro i o hi ho hw
  rw [List.take_of_length_le (by omega)] at hw
  refine Ev.step (fun k => ?_) (implCounts_l1 h 257 1 o (by omega) (by omega) ho (fun t ht => ?_) (fun t _ ht => hw t ht))
  ·rw [impl_counts.l0, if_neg (by omega)]
   rfl
  ·obtain rfl : t = 0 := by omega
   rw [hw 0 (by omega), cnt_zero h, one_zero (fun x hx => (h.2 x hx).1)]
 | succ d ih =>
  intro i o hi ho hw
  obtain ⟨a0, a1⟩ := syms_at h i (by omega)
  obtain ⟨x, hx⟩ := Int.eq_ofNat_of_zero_le a0
  have hq := hw (x + 1) (by omega)
  have hle := one_le (l.take i) (x + 1)
  rw [List.length_take] at hle
  have ew : wrap64 (l.getD i 0 + 1) = ((x + 1 : Nat) : Int) := by rw [w64 (by omega) (by omega)]; omega
  refine Ev.step (fun k => ?_) (ih (i + 1) (o.set (x + 1) ((one (l.take i) (x + 1) + 1 : Nat) : Int)) (by omega) (by rw [List.length_set]; exact ho) fun t ht => ?_)
  ·rw [impl_counts.l0, if_pos (by omega), if_pos (by omega), if_pos (by omega), rd_nat, ew, if_pos (by omega), if_pos (by omega), rd_nat, hq, w64 (x := ((one (l.take i) (x + 1) : Nat) : Int) + 1) (by omega) (by omega), w64 (by omega) (by omega), Int.toNat_natCast]
   rfl
  ·rw [take_succ_getD l 0 i (by omega), one_snoc]
   by_cases g : t = x + 1
   ·subst g
    rw [List.getD_eq_getElem?_getD, List.getElem?_set_self (by omega), if_pos (by omega)]
    rfl
   ·rw [List.getD_eq_getElem?_getD, List.getElem?_set_ne (by omega), ← List.getD_eq_getElem?_getD, hw t ht, if_neg (by omega)]
    rfl
theorem implCounts_ev {l : List Int} (h : Syms l) : Ev (fun k => impl_counts.f k l) (countsL l) :=
 Ev.congr (f := fun k => impl_counts.l0 k (List.replicate 258 0) l (l.length : Int) ((0 : Nat) : Int)) (fun _ => by rw [impl_counts.f, if_pos (by omega)]; rfl) (implCounts_l0 h l.length 0 _ (by omega) List.length_replicate (fun t ht => by rw [List.take_zero, List.getD_eq_getElem?_getD, List.getElem?_replicate, if_pos ht]; rfl))
theorem specWidth_ev (n : Nat) (h : n ≤ 1000) : Ev (fun k => spec_WidthOf.f k (n : Int)) ((len2 n : Nat) : Int) :=
 Ev.congr (f := fun k => spec_WidthOf.l0 k (n : Int) ((0 : Nat) : Int)) (fun _ => by rw [spec_WidthOf.f, if_neg (by omega)]; rfl) (by have := specWidth_l0 32 n 0 (len2_le n 32 (by omega)) (by omega) (by omega); rwa [Nat.zero_add] at this)
theorem len2_lt (n : Nat) : n < 2 ^ len2 n := by
 unfold len2
 split
 ·omega
 ·exact Nat.lt_log2_self
def markL (r : Int) (R : List Int) : List Int := R.map fun x => if Int.tmod x r = 0 then 1 else 0
def saL (r : Int) (R : List Int) : List Int := (R.filter fun x => decide (Int.tmod x r = 0)).map fun x => Int.tdiv x r
theorem markL_len (r : Int) (R : List Int) : (markL r R).length = R.length := by unfold markL; rw [List.length_map]
theorem saL_len (r : Int) (R : List Int) : (saL r R).length ≤ R.length := by unfold saL; rw [List.length_map]; exact List.length_filter_le _ _
theorem markL_snoc (r x : Int) (R : List Int) : markL r (R ++ [x]) = markL r R ++ [if Int.tmod x r = 0 then 1 else 0] := by unfold markL; rw [List.map_append]; rfl
theorem saL_pos (r x : Int) (R : List Int) (h : Int.tmod x r = 0) : saL r (R ++ [x]) = saL r R ++ [Int.tdiv x r] := by
 unfold saL
 rw [List.filter_append, List.filter_cons_of_pos (by simpa using h), List.filter_nil, List.map_append]
 rfl
theorem saL_neg (r x : Int) (R : List Int) (h : ¬ Int.tmod x r = 0) : saL r (R ++ [x]) = saL r R := by
 unfold saL
 rw [List.filter_append, List.filter_cons_of_neg (by simpa using h), List.filter_nil, List.append_nil]
theorem div_in {x r : Int} (h0 : 0 ≤ x) (hr : 1 ≤ r) : 0 ≤ Int.tdiv x r ∧ Int.tdiv x r ≤ x := by
 rw [Int.tdiv_eq_ediv_of_nonneg h0]
 exact ⟨Int.ediv_nonneg h0 (by omega), Int.ediv_le_self _ h0⟩
def isaF (I : List Int) (r n : Nat) : Nat → Nat → List Int
 | 0, _ => []
 | f + 1, i => if i ≤ n then I.getD i 0 :: isaF I r n f (i + r) else []
abbrev FmT := Int × Int × Int × List Int × (List (S29)) × List Int × Int × List Int × Int × Int × Int × List Int × Int × Int × Int × List Int × Bool
def fmR (n r W : Int) (Z : List Int) (Ls : List S29) (C : List Int) (w : Nat) (mark sa isa : List Int) : FmT :=
 (n, r, W, Z, Ls, C, (mark.length : Int), wordsOf mark, (packR w sa).1, (packR w sa).2.1, (packR w sa).2.2.1, (packR w sa).2.2.2.1, (packR w isa).1, (packR w isa).2.1, (packR w isa).2.2.1, (packR w isa).2.2.2.1, true)
structure FmIn (l I : List Int) (r n : Nat) (mark sa : List Int) : Prop where
 ln : l.length = n
 n3 : n ≤ 300
 r1 : 1 ≤ r
 r64 : r ≤ 64
 il : I.length = n + 1
 iin : ∀ i, i ≤ n → 0 ≤ I.getD i 0 ∧ I.getD i 0 ≤ n
 ml : mark.length ≤ 301
 m01 : ∀ i, i < mark.length → mark.getD i 0 = 0 ∨ mark.getD i 0 = 1
 sl : sa.length ≤ 301
 sin : ∀ x ∈ sa, 0 ≤ x ∧ x ≤ n
theorem inW_of {n : Nat} {s : List Int} (h : ∀ x ∈ s, 0 ≤ x ∧ x ≤ (n : Int)) : InW (len2 n) s := fun x hx => by
 have := h x hx
 have := len2_lt n
 exact ⟨by omega, by omega⟩
theorem specFm_l1 {l I : List Int} {r n : Nat} {mark sa : List Int} (h : FmIn l I r n mark sa) (C : List Int) (W : Int) (Z : List Int) (Ls : List S29) (a b : Int) (f : Nat) : ∀ (i : Nat) (acc : List Int), n + 1 ≤ i + f → i ≤ n + 64 → acc.length + f ≤ 301 → (∀ x ∈ acc, 0 ≤ x ∧ x ≤ (n : Int)) →
  Ev (fun k => spec_FmOf.l1 k l (r : Int) mark sa acc (i : Int) I C a b W Z Ls 0 0 0 0 0 0 0) (fmR a b W Z Ls C (len2 n) mark sa (acc ++ isaF I r n f i)) := by
 have hln := h.ln
 have h3 := h.n3
 have hw : len2 n ≤ 32 := len2_le n 32 (by omega)
 have fin : ∀ (i : Nat) (acc : List Int), n < i → i ≤ n + 64 → acc.length ≤ 301 → (∀ x ∈ acc, 0 ≤ x ∧ x ≤ (n : Int)) → Ev (fun k => spec_FmOf.l1 k l (r : Int) mark sa acc (i : Int) I C a b W Z Ls 0 0 0 0 0 0 0) (fmR a b W Z Ls C (len2 n) mark sa acc) := by
  intro i acc hi hi2 hacc hin
  have ml := h.ml
  have sl := h.sl
  obtain ⟨K1, h1⟩ := ev_out (specBitsOf_ev mark h.m01 (by omega))
  obtain ⟨K2, h2⟩ := ev_out (specWidth_ev n (by omega))
  obtain ⟨K3, h3'⟩ := ev_out (specPackOf_ev (len2 n) sa (inW_of h.sin) hw (by omega))
  obtain ⟨K4, h4⟩ := ev_out (specPackOf_ev (len2 n) acc (inW_of hin) hw (by omega))
  refine ev_mk (K1 + K2 + K3 + K4 + 1) fun k hk => ?_
  obtain ⟨k, rfl⟩ : ∃ m, k = m + 1 := ⟨k - 1, by omega⟩
  rw [spec_FmOf.l1, if_neg (by omega), h1 k (by omega), Option.bind_some, hln, h2 k (by omega), Option.bind_some, h3' k (by omega), Option.bind_some, Option.bind_some, h4 k (by omega), Option.bind_some]
  rfl
 induction f with
 | zero =>
  intro i acc hi hi2 hacc hin
  unfold isaF
  rw [List.append_nil]
  exact fin i acc (by omega) hi2 (by omega) hin
 | succ f ih =>
  intro i acc hi hi2 hacc hin
  unfold isaF
  by_cases c : i ≤ n
  ·rw [if_pos c]
   have q := ih (i + r) (acc ++ [I.getD i 0]) (by have := h.r1; omega) (by have := h.r64; omega) (by rw [List.length_append, List.length_cons, List.length_nil]; omega) (fun x hx => by
    rcases List.mem_append.1 hx with g | g
    ·exact hin x g
    ·obtain rfl := List.mem_singleton.1 g; exact h.iin i c)
   rw [List.append_assoc] at q
   have r1 := h.r1
   have r64 := h.r64
   have il := h.il
   refine Ev.step (fun k => ?_) q
   rw [spec_FmOf.l1, if_pos (by omega), if_pos (by omega), if_pos (by omega), if_pos (by omega), rd_nat, w64 (by omega) (by omega)]
   rfl
  ·rw [if_neg c, List.append_nil]
   exact fin i acc (by omega) hi2 (by omega) hin
theorem specFm_l0 (l R I C : List Int) (r : Nat) (r1 : 1 ≤ r) (r64 : r ≤ 64) (hR : ∀ x ∈ R, 0 ≤ x ∧ x ≤ 300) (hl : R.length ≤ 301) (W : Int) (Z : List Int) (Ls : List S29) (a b : Int) (res : FmT)
  (hn : Ev (fun k => spec_FmOf.l1 k l (r : Int) (markL r R) (saL r R) [] 0 I C a b W Z Ls 0 0 0 0 0 0 0) res) (d : Nat) : ∀ i : Nat, i + d = R.length →
  Ev (fun k => spec_FmOf.l0 k l (r : Int) (markL r (R.take i)) (saL r (R.take i)) (i : Int) R I C a b W Z Ls 0 0 0 0 0 0 0) res := by
 induction d with
 | zero =>
  intro i hi
  refine Ev.step (fun k => ?_) hn
  rw [spec_FmOf.l0, if_neg (by omega), List.take_of_length_le (by omega)]
 | succ d ih =>
  intro i hi
  have q := ih (i + 1) (by omega)
  have hx : 0 ≤ R.getD i 0 ∧ R.getD i 0 ≤ 300 := by rw [lget_lt _ i 0 (by omega)]; exact hR _ (List.getElem_mem _)
  have hm := markL_len (r : Int) (R.take i)
  have hs := saL_len (r : Int) (R.take i)
  rw [List.length_take] at hm hs
  rw [take_succ_getD R 0 i (by omega), markL_snoc] at q
  obtain ⟨d0, d1⟩ := div_in (r := (r : Int)) hx.1 (by omega)
  by_cases c : Int.tmod (R.getD i 0) (r : Int) = 0
  ·rw [saL_pos _ _ _ c, if_pos c] at q
   refine Ev.step (fun k => ?_) q
   rw [spec_FmOf.l0, if_pos (by omega), if_pos (by omega), if_neg (by omega), rd_nat, c, spec_l01Bool.f, if_pos (by rfl), Option.bind_some, if_pos (by omega), Option.bind_some, if_pos rfl, if_pos (by omega), w64 (by omega) (by omega), w64 (by omega) (by omega)]
   rfl
  ·rw [saL_neg _ _ _ c, if_neg c] at q
   refine Ev.step (fun k => ?_) q
   rw [spec_FmOf.l0, if_pos (by omega), if_pos (by omega), if_neg (by omega), rd_nat, spec_l01Bool.f, if_neg (by simpa using c), Option.bind_some, if_pos (by omega), Option.bind_some, if_neg c, w64 (by omega) (by omega)]
   rfl
abbrev FmT' := Int × Int × Int × List Int × (List (S29)) × List Int × Int × List Int × Int × Int × Int × List Int × Int × Int × Int × List Int
def fmR' (n r W : Int) (Z : List Int) (Ls : List S29) (C : List Int) (w : Nat) (mark sa isa : List Int) : FmT' :=
 (n, r, W, Z, Ls, C, (mark.length : Int), wordsOf mark, (packR w sa).1, (packR w sa).2.1, (packR w sa).2.2.1, (packR w sa).2.2.2.1, (packR w isa).1, (packR w isa).2.1, (packR w isa).2.2.1, (packR w isa).2.2.2.1)
theorem implFm_l1 {l I : List Int} {r n : Nat} {mark sa : List Int} (h : FmIn l I r n mark sa) (C : List Int) (W : Int) (Z : List Int) (Ls : List S29) (a b : Int) (f : Nat) : ∀ (i : Nat) (acc : List Int), n + 1 ≤ i + f → i ≤ n + 64 → acc.length + f ≤ 301 → (∀ x ∈ acc, 0 ≤ x ∧ x ≤ (n : Int)) →
  Ev (fun k => impl_fmOf.l1 k l (r : Int) mark sa acc (i : Int) C I a b W Z Ls 0 0 0 0 0 0 0) (fmR' a b W Z Ls C (len2 n) mark sa (acc ++ isaF I r n f i)) := by
 have hln := h.ln
 have h3 := h.n3
 have hw : len2 n ≤ 32 := len2_le n 32 (by omega)
 have fin : ∀ (i : Nat) (acc : List Int), n < i → i ≤ n + 64 → acc.length ≤ 301 → (∀ x ∈ acc, 0 ≤ x ∧ x ≤ (n : Int)) → Ev (fun k => impl_fmOf.l1 k l (r : Int) mark sa acc (i : Int) C I a b W Z Ls 0 0 0 0 0 0 0) (fmR' a b W Z Ls C (len2 n) mark sa acc) := by
  intro i acc hi hi2 hacc hin
  have ml := h.ml
  have sl := h.sl
  obtain ⟨K1, h1⟩ := ev_out (implBitsOf_ev mark h.m01 (by omega))
  obtain ⟨K2, h2⟩ := ev_out (implWidthOf_ev n (by omega))
  obtain ⟨K3, h3'⟩ := ev_out (implPackOf_ev (len2 n) sa (inW_of h.sin) hw (by omega))
  obtain ⟨K4, h4⟩ := ev_out (implPackOf_ev (len2 n) acc (inW_of hin) hw (by omega))
  refine ev_mk (K1 + K2 + K3 + K4 + 1) fun k hk => ?_
  obtain ⟨k, rfl⟩ : ∃ m, k = m + 1 := ⟨k - 1, by omega⟩
  rw [impl_fmOf.l1, if_neg (by omega), h1 k (by omega), Option.bind_some, hln, h2 k (by omega), Option.bind_some, h3' k (by omega), Option.bind_some, Option.bind_some, h4 k (by omega), Option.bind_some]
  rfl
 induction f with
 | zero =>
  intro i acc hi hi2 hacc hin
  unfold isaF
  rw [List.append_nil]
  exact fin i acc (by omega) hi2 (by omega) hin
 | succ f ih =>
  intro i acc hi hi2 hacc hin
  unfold isaF
  by_cases c : i ≤ n
  ·rw [if_pos c]
   have q := ih (i + r) (acc ++ [I.getD i 0]) (by have := h.r1; omega) (by have := h.r64; omega) (by rw [List.length_append, List.length_cons, List.length_nil]; omega) (fun x hx => by
    rcases List.mem_append.1 hx with g | g
    ·exact hin x g
    ·obtain rfl := List.mem_singleton.1 g; exact h.iin i c)
   rw [List.append_assoc] at q
   have r1 := h.r1
   have r64 := h.r64
   have il := h.il
   refine Ev.step (fun k => ?_) q
   rw [impl_fmOf.l1, if_pos (by omega), if_pos (by omega), if_pos (by omega), Option.bind_some, if_pos (by simp only [List.length_cons, List.length_nil]; omega), rd_nat, w64 (by omega) (by omega)]
   rfl
  ·rw [if_neg c, List.append_nil]
   exact fin i acc (by omega) hi2 (by omega) hin
theorem implFm_l0 (l R I C : List Int) (r : Nat) (r1 : 1 ≤ r) (r64 : r ≤ 64) (hR : ∀ x ∈ R, 0 ≤ x ∧ x ≤ 300) (hl : R.length ≤ 301) (W : Int) (Z : List Int) (Ls : List S29) (a b : Int) (res : FmT')
  (hi : Ev (fun k => impl_inverse.f k R) I) (hn : Ev (fun k => impl_fmOf.l1 k l (r : Int) (markL r R) (saL r R) [] 0 C I a b W Z Ls 0 0 0 0 0 0 0) res) (d : Nat) : ∀ i : Nat, i + d = R.length →
  Ev (fun k => impl_fmOf.l0 k l (r : Int) (markL r (R.take i)) (saL r (R.take i)) R C (R.length : Int) (i : Int) a b W Z Ls 0 0 0 0 0 0 0) res := by
 obtain ⟨K1, h1⟩ := ev_out hi
 obtain ⟨K2, h2⟩ := ev_out hn
 induction d with
 | zero =>
  intro i hi
  refine ev_mk (K1 + K2 + 1) fun k hk => ?_
  obtain ⟨k, rfl⟩ : ∃ m, k = m + 1 := ⟨k - 1, by omega⟩
  rw [impl_fmOf.l0, if_neg (by omega), List.take_of_length_le (by omega), h1 k (by omega), Option.bind_some]
  exact h2 k (by omega)
 | succ d ih =>
  intro i hi
  have q := ih (i + 1) (by omega)
  have hx : 0 ≤ R.getD i 0 ∧ R.getD i 0 ≤ 300 := by rw [lget_lt _ i 0 (by omega)]; exact hR _ (List.getElem_mem _)
  have hm := markL_len (r : Int) (R.take i)
  have hs := saL_len (r : Int) (R.take i)
  rw [List.length_take] at hm hs
  rw [take_succ_getD R 0 i (by omega), markL_snoc] at q
  obtain ⟨d0, d1⟩ := div_in (r := (r : Int)) hx.1 (by omega)
  by_cases c : Int.tmod (R.getD i 0) (r : Int) = 0
  ·rw [saL_pos _ _ _ c, if_pos c] at q
   refine Ev.step (fun k => ?_) q
   rw [impl_fmOf.l0, if_pos (by omega), if_pos (by omega), if_pos (by omega), if_neg (by omega), rd_nat, if_pos c, Option.bind_some, if_pos (by simp only [List.length_cons, List.length_nil]; omega), Option.bind_some, if_pos (by simp only [List.length_cons, List.length_nil]; omega), w64 (by omega) (by omega), w64 (by omega) (by omega)]
   rfl
  ·rw [saL_neg _ _ _ c, if_neg c] at q
   refine Ev.step (fun k => ?_) q
   rw [impl_fmOf.l0, if_pos (by omega), if_pos (by omega), if_pos (by omega), if_neg (by omega), rd_nat, if_neg c, Option.bind_some, if_pos (by simp only [List.length_cons, List.length_nil]; omega), w64 (by omega) (by omega)]
   rfl
def fmZ : FmT := (0, 0, 0, [], [], [], 0, [], 0, 0, 0, [], 0, 0, 0, [], false)
def fmL (l : List Int) (r : Int) : FmT := if l.length ≤ 300 ∧ 1 ≤ r ∧ r ≤ 64 then
 fmR (l.length : Int) r (encW (bwtL l)).1 (encW (bwtL l)).2.1 (encW (bwtL l)).2.2.1 (countsL (bwtL l)) (len2 l.length) (markL r (rowsOf l)) (saL r (rowsOf l)) (isaF (invL (rowsOf l)) r.toNat l.length (l.length + 1) 0) else fmZ
theorem bwt_syms (l : List Int) (hl : l.length ≤ 300) (hb : bytesOk l) : Syms (bwtL l) := by
 have hn := bwtL_len l
 refine ⟨by omega, fun x hx => ?_⟩
 obtain ⟨j, hj, rfl⟩ := List.mem_iff_getElem.1 hx
 have e := bwtL_at l j (by omega)
 rw [lget_lt _ j 0 hj] at e
 rw [e]
 unfold bwtAt
 split
 ·omega
 ·rename_i hz
  obtain ⟨a0, a1⟩ := rowsOf_at l j (by omega)
  rw [lget_lt l _ 0 (by omega)]
  have := hb _ (List.getElem_mem (show ((rowsOf l).getD j 0 - 1).toNat < l.length by omega))
  omega
theorem fm_in (l : List Int) (r : Nat) (hl : l.length ≤ 300) (r1 : 1 ≤ r) (r64 : r ≤ 64) : FmIn l (invL (rowsOf l)) r l.length (markL r (rowsOf l)) (saL r (rowsOf l)) := by
 have hF := rows_full l hl
 have hn := rowsOf_len l
 have hm := markL_len (r : Int) (rowsOf l)
 have hs := saL_len (r : Int) (rowsOf l)
 refine ⟨rfl, hl, r1, r64, by rw [invL_len]; exact hn, fun i hi => by have := inv_at hF i (by omega); omega, by omega, fun i hi => ?_, by omega, fun x hx => ?_⟩
 ·have hm' : (markL (r : Int) (rowsOf l)).getD i 0 ∈ markL (r : Int) (rowsOf l) := by rw [lget_lt _ i 0 hi]; exact List.getElem_mem _
  obtain ⟨y, _, e⟩ := List.mem_map.1 hm'
  rw [← e]
  split
  ·exact .inr rfl
  ·exact .inl rfl
 ·obtain ⟨y, hy, rfl⟩ := List.mem_map.1 hx
  have h2 := (rowsOf_mem l y).1 (List.mem_filter.1 hy).1
  have := div_in (r := (r : Int)) h2.1 (by omega)
  omega
theorem specFm_ev (l : List Int) (r : Int) (hb : bytesOk l) : Ev (fun k => spec_FmOf.f k l r) (fmL l r) := by
 have zero : ∀ k, spec_FmOf.j0 (k + 1) l r true = some fmZ := fun k => by rw [spec_FmOf.j0, if_pos rfl]; rfl
 by_cases hl : l.length ≤ 300
 ·by_cases h1 : 1 ≤ r
  ·by_cases h2 : r ≤ 64
   ·obtain ⟨r, rfl⟩ := Int.eq_ofNat_of_zero_le (show 0 ≤ r by omega)
    have hF := rows_full l hl
    have hin := fm_in l r hl (by omega) (by omega)
    have hn := rowsOf_len l
    have q1 := specFm_l1 hin (countsL (bwtL l)) (encW (bwtL l)).1 (encW (bwtL l)).2.1 (encW (bwtL l)).2.2.1 (l.length : Int) (r : Int) (l.length + 1) 0 [] (by omega) (by omega) (by simp only [List.length_nil]; omega) (fun x hx => by cases hx)
    have q0 := specFm_l0 l (rowsOf l) (invL (rowsOf l)) (countsL (bwtL l)) r (by omega) (by omega) (fun x hx => by have := (rowsOf_mem l x).1 hx; omega) (by omega) _ _ _ _ _ _ q1 (rowsOf l).length 0 (by omega)
    obtain ⟨K0, h0⟩ := ev_out q0
    obtain ⟨K1, g1⟩ := ev_out (specRows_ev l (by omega))
    obtain ⟨K2, g2⟩ := ev_out (specInv_ev hF)
    obtain ⟨K3, g3⟩ := ev_out (specBwt_ev l hl hb)
    obtain ⟨K4, g4⟩ := ev_out (specCounts_ev (bwt_syms l hl hb))
    obtain ⟨K5, g5⟩ := ev_out (specW_ev (bwtL l))
    refine ev_mk (K0 + K1 + K2 + K3 + K4 + K5 + 1) fun k hk => ?_
    obtain ⟨k, rfl⟩ : ∃ m, k = m + 1 := ⟨k - 1, by omega⟩
    unfold spec_FmOf.f spec_TextOk.f spec_l09Rate.f fmL
    rw [Option.bind_some, decide_eq_true (show (l.length : Int) ≤ 300 by omega), if_pos rfl, if_pos h1, Option.bind_some, decide_eq_true h2, if_pos ⟨hl, h1, h2⟩]
    show spec_FmOf.j0 (k + 1) l (r : Int) false = _
    rw [spec_FmOf.j0, if_neg (by decide), g1 k (by omega), Option.bind_some, g2 k (by omega), Option.bind_some, g3 k (by omega), Option.bind_some, g4 k (by omega), Option.bind_some, g5 k (by omega), Option.bind_some]
    have q := h0 k (by omega)
    rw [Int.toNat_natCast]
    exact q
   ·refine ev_mk 1 fun k hk => ?_
    obtain ⟨k, rfl⟩ : ∃ m, k = m + 1 := ⟨k - 1, by omega⟩
    unfold spec_FmOf.f spec_TextOk.f spec_l09Rate.f fmL
    rw [Option.bind_some, decide_eq_true (show (l.length : Int) ≤ 300 by omega), if_pos rfl, if_pos h1, Option.bind_some, decide_eq_false h2, if_neg (by omega)]
    exact zero k
  ·refine ev_mk 1 fun k hk => ?_
   obtain ⟨k, rfl⟩ : ∃ m, k = m + 1 := ⟨k - 1, by omega⟩
   unfold spec_FmOf.f spec_TextOk.f spec_l09Rate.f fmL
   rw [Option.bind_some, decide_eq_true (show (l.length : Int) ≤ 300 by omega), if_pos rfl, if_neg (by omega), Option.bind_some, if_neg (by omega)]
   exact zero k
 ·refine ev_mk 1 fun k hk => ?_
  obtain ⟨k, rfl⟩ : ∃ m, k = m + 1 := ⟨k - 1, by omega⟩
  unfold spec_FmOf.f spec_TextOk.f fmL
  rw [Option.bind_some, decide_eq_false (show ¬ (l.length : Int) ≤ 300 by omega), if_neg (by decide), if_neg (by omega)]
  exact zero k
theorem implFm_ev (l : List Int) (r : Int) (hb : bytesOk l) : Ev (fun k => impl_FmOf.f k l r) (fmL l r) := by
 by_cases hl : l.length ≤ 300
 ·by_cases h1 : 1 ≤ r
  ·by_cases h2 : r ≤ 64
   ·obtain ⟨r, rfl⟩ := Int.eq_ofNat_of_zero_le (show 0 ≤ r by omega)
    have hF := rows_full l hl
    have hin := fm_in l r hl (by omega) (by omega)
    have hn := rowsOf_len l
    have hbl := bwtL_len l
    have q1 := implFm_l1 hin (countsL (bwtL l)) (encW (bwtL l)).1 (encW (bwtL l)).2.1 (encW (bwtL l)).2.2.1 (l.length : Int) (r : Int) (l.length + 1) 0 [] (by omega) (by omega) (by simp only [List.length_nil]; omega) (fun x hx => by cases hx)
    have q0 := implFm_l0 l (rowsOf l) (invL (rowsOf l)) (countsL (bwtL l)) r (by omega) (by omega) (fun x hx => by have := (rowsOf_mem l x).1 hx; omega) (by omega) _ _ _ _ _ _ (implInv_ev hF) q1 (rowsOf l).length 0 (by omega)
    obtain ⟨K0, h0⟩ := ev_out q0
    obtain ⟨K1, g1⟩ := ev_out (implRows_ev l (by omega) hb)
    obtain ⟨K3, g3⟩ := ev_out (implBwt_ev l hl hb)
    obtain ⟨K4, g4⟩ := ev_out (implCounts_ev (bwt_syms l hl hb))
    obtain ⟨K5, g5⟩ := ev_out (implW_ev (bwtL l) (by omega))
    refine ev_mk (K0 + K1 + K3 + K4 + K5) fun k hk => ?_
    unfold impl_FmOf.f impl_TextOk.f impl_isRate.f impl_within.f impl_fmOf.f fmL
    rw [Option.bind_some, decide_eq_true (show (l.length : Int) ≤ 300 by omega), if_pos rfl, if_pos h1, Option.bind_some, Option.bind_some, decide_eq_true h2, if_pos rfl, g1 k (by omega), Option.bind_some, g3 k (by omega), Option.bind_some, g4 k (by omega), Option.bind_some, g5 k (by omega), Option.bind_some, if_pos ⟨hl, h1, h2⟩]
    have q := h0 k (by omega)
    rw [show impl_fmOf.l0 k l ((r : Nat) : Int) [] [] (rowsOf l) (countsL (bwtL l)) ((rowsOf l).length : Int) 0 (l.length : Int) ((r : Nat) : Int) (encW (bwtL l)).1 (encW (bwtL l)).2.1 (encW (bwtL l)).2.2.1 0 0 0 0 0 0 0 = _ from q, Option.bind_some, Int.toNat_natCast]
    rfl
   ·refine ev_mk 0 fun k hk => ?_
    unfold impl_FmOf.f impl_TextOk.f impl_isRate.f impl_within.f fmL
    rw [Option.bind_some, decide_eq_true (show (l.length : Int) ≤ 300 by omega), if_pos rfl, if_pos h1, Option.bind_some, Option.bind_some, decide_eq_false h2, if_neg (by decide), if_neg (by omega)]
    rfl
  ·refine ev_mk 0 fun k hk => ?_
   unfold impl_FmOf.f impl_TextOk.f impl_isRate.f impl_within.f fmL
   rw [Option.bind_some, decide_eq_true (show (l.length : Int) ≤ 300 by omega), if_pos rfl, if_neg (by omega), Option.bind_some, Option.bind_some, if_neg (by decide), if_neg (by omega)]
   rfl
 ·refine ev_mk 0 fun k hk => ?_
  unfold impl_FmOf.f impl_TextOk.f fmL
  rw [Option.bind_some, decide_eq_false (show ¬ (l.length : Int) ≤ 300 by omega), if_neg (by decide), if_neg (by omega)]
  rfl
theorem eqIntS_l0 (l : List Int) (hl : l.length ≤ 4000000) (d : Nat) : ∀ i : Nat, i + d = l.length → Ev (fun k => laws_eqIntS.l0 k l l (i : Int)) true := by
 induction d with
 | zero =>
  intro i h
  refine Ev.step (f := fun _ => some true) (fun k => ?_) (Ev.now true)
  rw [laws_eqIntS.l0]
  rw [if_neg (by omega)]
 | succ d ih =>
  intro i h
  refine Ev.step (f := fun k => laws_eqIntS.l0 k l l ((i + 1 : Nat) : Int)) (fun k => ?_) (ih (i + 1) (by omega))
  rw [laws_eqIntS.l0]
  rw [if_pos (by omega), if_pos (by omega), if_pos (by omega), if_pos rfl, w64 (by omega) (by omega)]
  rfl
theorem eqIntS_ev (l : List Int) (hl : l.length ≤ 4000000) : Ev (fun k => laws_eqIntS.f k l l) true := by
 refine Ev.congr (f := fun k => laws_eqIntS.l0 k l l ((0 : Nat) : Int)) (fun k => ?_) (eqIntS_l0 l hl l.length 0 (by omega))
 unfold laws_eqIntS.f
 rw [if_pos rfl]
 rfl
theorem eqUint64S_l0 (l : List Int) (hl : l.length ≤ 4000000) (d : Nat) : ∀ i : Nat, i + d = l.length → Ev (fun k => laws_eqUint64S.l0 k l l (i : Int)) true := by
 induction d with
 | zero =>
  intro i h
  refine Ev.step (f := fun _ => some true) (fun k => ?_) (Ev.now true)
  rw [laws_eqUint64S.l0]
  rw [if_neg (by omega)]
 | succ d ih =>
  intro i h
  refine Ev.step (f := fun k => laws_eqUint64S.l0 k l l ((i + 1 : Nat) : Int)) (fun k => ?_) (ih (i + 1) (by omega))
  rw [laws_eqUint64S.l0]
  rw [if_pos (by omega), if_pos (by omega), if_pos (by omega), if_pos rfl, w64 (by omega) (by omega)]
  rfl
theorem eqUint64S_ev (l : List Int) (hl : l.length ≤ 4000000) : Ev (fun k => laws_eqUint64S.f k l l) true := by
 refine Ev.congr (f := fun k => laws_eqUint64S.l0 k l l ((0 : Nat) : Int)) (fun k => ?_) (eqUint64S_l0 l hl l.length 0 (by omega))
 unfold laws_eqUint64S.f
 rw [if_pos rfl]
 rfl
def marksB (n : Nat) : List Int := (List.range n).map fun (j : Nat) => (1 + (j : Int)) % 256
theorem marksB_len (n : Nat) : (marksB n).length = n := by simp [marksB]
theorem marksB_get (n j : Nat) (h : j < n) : (marksB n).getD j 0 = (1 + (j : Int)) % 256 := by
 rw [lget_lt _ j 0 (by rw [marksB_len]; exact h)]
 simp [marksB]
theorem markBy_l0 (l : List Int) (hl : l.length ≤ 4000000) (d : Nat) : ∀ i : Nat, i + d = l.length → Ev (fun k => laws_markByteS.l0 k ((marksB l.length).take i ++ l.drop i) (1 + (i : Int)) (i : Int)) (1 + (l.length : Int), marksB l.length) := by
 induction d with
 | zero =>
  intro i h
  obtain rfl : i = l.length := by omega
  refine Ev.step (f := fun _ => some _) (fun k => ?_) (Ev.now _)
  rw [laws_markByteS.l0, if_neg (by rw [over_len _ _ _ (marksB_len _) (by omega)]; omega), List.drop_length, List.append_nil, List.take_of_length_le (by rw [marksB_len]; omega)]
 | succ d ih =>
  intro i h
  refine Ev.step (f := fun k => laws_markByteS.l0 k ((marksB l.length).take (i + 1) ++ l.drop (i + 1)) (1 + ((i + 1 : Nat) : Int)) ((i + 1 : Nat) : Int)) (fun k => ?_) (ih (i + 1) (by omega))
  rw [laws_markByteS.l0, if_pos (by rw [over_len _ _ _ (marksB_len _) (by omega)]; omega), if_pos (by omega), w64 (by omega) (by omega), w64 (by omega) (by omega), Int.toNat_natCast, over_set (marksB l.length) l 0 _ i (marksB_len _) (by omega) (marksB_get _ _ (by omega)).symm]
  rfl
theorem markB_ev (l : List Int) (hl : l.length ≤ 4000000) : Ev (fun k => laws_markByteS.f k l 1) (1 + (l.length : Int), marksB l.length) :=
 Ev.congr (f := fun k => laws_markByteS.l0 k ((marksB l.length).take 0 ++ l.drop 0) (1 + ((0 : Nat) : Int)) ((0 : Nat) : Int)) (fun _ => rfl) (markBy_l0 l hl l.length 0 (by omega))
def marksF (s n : Nat) : List Int := (List.range n).map fun (j : Nat) => ((s + j : Nat) : Int)
theorem marksF_len (s n : Nat) : (marksF s n).length = n := by simp [marksF]
theorem marksF_get (s n j : Nat) (h : j < n) : (marksF s n).getD j 0 = ((s + j : Nat) : Int) := by
 rw [lget_lt _ j 0 (by rw [marksF_len]; exact h)]
 simp [marksF]
theorem markIntSF_l0 (l : List Int) (s : Nat) (hs : s ≤ 1000000000) (hl : l.length ≤ 4000000) (d : Nat) : ∀ i : Nat, i + d = l.length → Ev (fun k => laws_markIntS.l0 k ((marksF s l.length).take i ++ l.drop i) ((s + i : Nat) : Int) (i : Int)) (((s + l.length : Nat) : Int), marksF s l.length) := by
 induction d with
 | zero =>
  intro i h
  obtain rfl : i = l.length := by omega
  refine Ev.step (f := fun _ => some _) (fun k => ?_) (Ev.now _)
  rw [laws_markIntS.l0, if_neg (by rw [over_len _ _ _ (marksF_len _ _) (by omega)]; omega), List.drop_length, List.append_nil, List.take_of_length_le (by rw [marksF_len]; omega)]
 | succ d ih =>
  intro i h
  refine Ev.step (fun k => ?_) (ih (i + 1) (by omega))
  rw [laws_markIntS.l0, if_pos (by rw [over_len _ _ _ (marksF_len _ _) (by omega)]; omega), if_pos (by omega), w64 (by omega) (by omega), w64 (by omega) (by omega), Int.toNat_natCast, over_set (marksF s l.length) l 0 _ i (marksF_len _ _) (by omega) (marksF_get _ _ _ (by omega)).symm]
  rfl
theorem markIntSF_ev (l : List Int) (s : Nat) (hs : s ≤ 1000000000) (hl : l.length ≤ 4000000) : Ev (fun k => laws_markIntS.f k l (s : Int)) (((s + l.length : Nat) : Int), marksF s l.length) :=
 Ev.congr (f := fun k => laws_markIntS.l0 k ((marksF s l.length).take 0 ++ l.drop 0) ((s + 0 : Nat) : Int) ((0 : Nat) : Int)) (fun _ => rfl) (markIntSF_l0 l s hs hl l.length 0 (by omega))
theorem heldIntSF_l0 (n s : Nat) (hs : s ≤ 1000000000) (hn : n ≤ 4000000) (d : Nat) : ∀ i : Nat, i + d = n → Ev (fun k => laws_heldIntS.l0 k (marksF s n) ((s + i : Nat) : Int) (i : Int)) ((s + n : Nat) : Int) := by
 have hl := marksF_len s n
 induction d with
 | zero =>
  intro i h
  obtain rfl : i = n := by omega
  refine Ev.step (f := fun _ => some _) (fun k => ?_) (Ev.now _)
  rw [laws_heldIntS.l0, if_neg (by omega)]
 | succ d ih =>
  intro i h
  refine Ev.step (fun k => ?_) (ih (i + 1) (by omega))
  rw [laws_heldIntS.l0, if_pos (by omega), if_pos (by omega), rd_nat, marksF_get _ _ _ (by omega), if_pos rfl, w64 (by omega) (by omega), w64 (by omega) (by omega)]
  rfl
theorem heldIntSF_ev (n s : Nat) (hs : s ≤ 1000000000) (hn : n ≤ 4000000) : Ev (fun k => laws_heldIntS.f k (marksF s n) (s : Int)) ((s + n : Nat) : Int) :=
 Ev.congr (f := fun k => laws_heldIntS.l0 k (marksF s n) ((s + 0 : Nat) : Int) ((0 : Nat) : Int)) (fun _ => rfl) (heldIntSF_l0 n s hs hn n 0 (by omega))
theorem markUint64SF_l0 (l : List Int) (s : Nat) (hs : s ≤ 1000000000) (hl : l.length ≤ 4000000) (d : Nat) : ∀ i : Nat, i + d = l.length → Ev (fun k => laws_markUint64S.l0 k ((marksF s l.length).take i ++ l.drop i) ((s + i : Nat) : Int) (i : Int)) (((s + l.length : Nat) : Int), marksF s l.length) := by
 induction d with
 | zero =>
  intro i h
  obtain rfl : i = l.length := by omega
  refine Ev.step (f := fun _ => some _) (fun k => ?_) (Ev.now _)
  rw [laws_markUint64S.l0, if_neg (by rw [over_len _ _ _ (marksF_len _ _) (by omega)]; omega), List.drop_length, List.append_nil, List.take_of_length_le (by rw [marksF_len]; omega)]
 | succ d ih =>
  intro i h
  refine Ev.step (fun k => ?_) (ih (i + 1) (by omega))
  rw [laws_markUint64S.l0, if_pos (by rw [over_len _ _ _ (marksF_len _ _) (by omega)]; omega), if_pos (by omega), wu64 (x := ((s + i : Nat) : Int)) (by omega) (by omega), w64 (by omega) (by omega), w64 (by omega) (by omega), Int.toNat_natCast, over_set (marksF s l.length) l 0 _ i (marksF_len _ _) (by omega) (marksF_get _ _ _ (by omega)).symm]
  rfl
theorem markUint64SF_ev (l : List Int) (s : Nat) (hs : s ≤ 1000000000) (hl : l.length ≤ 4000000) : Ev (fun k => laws_markUint64S.f k l (s : Int)) (((s + l.length : Nat) : Int), marksF s l.length) :=
 Ev.congr (f := fun k => laws_markUint64S.l0 k ((marksF s l.length).take 0 ++ l.drop 0) ((s + 0 : Nat) : Int) ((0 : Nat) : Int)) (fun _ => rfl) (markUint64SF_l0 l s hs hl l.length 0 (by omega))
theorem heldUint64SF_l0 (n s : Nat) (hs : s ≤ 1000000000) (hn : n ≤ 4000000) (d : Nat) : ∀ i : Nat, i + d = n → Ev (fun k => laws_heldUint64S.l0 k (marksF s n) ((s + i : Nat) : Int) (i : Int)) ((s + n : Nat) : Int) := by
 have hl := marksF_len s n
 induction d with
 | zero =>
  intro i h
  obtain rfl : i = n := by omega
  refine Ev.step (f := fun _ => some _) (fun k => ?_) (Ev.now _)
  rw [laws_heldUint64S.l0, if_neg (by omega)]
 | succ d ih =>
  intro i h
  refine Ev.step (fun k => ?_) (ih (i + 1) (by omega))
  rw [laws_heldUint64S.l0, if_pos (by omega), if_pos (by omega), rd_nat, marksF_get _ _ _ (by omega), wu64 (x := ((s + i : Nat) : Int)) (by omega) (by omega), if_pos rfl, w64 (by omega) (by omega), w64 (by omega) (by omega)]
  rfl
theorem heldUint64SF_ev (n s : Nat) (hs : s ≤ 1000000000) (hn : n ≤ 4000000) : Ev (fun k => laws_heldUint64S.f k (marksF s n) (s : Int)) ((s + n : Nat) : Int) :=
 Ev.congr (f := fun k => laws_heldUint64S.l0 k (marksF s n) ((s + 0 : Nat) : Int) ((0 : Nat) : Int)) (fun _ => rfl) (heldUint64SF_l0 n s hs hn n 0 (by omega))
def markedB : Nat → List S29 → List S29
 | _, [] => []
 | s, b :: bs => ⟨(s : Int), marksF (s + 1) b.f1.length⟩ :: markedB (s + 1 + b.f1.length) bs
def endB : Nat → List S29 → Nat
 | s, [] => s
 | s, b :: bs => endB (s + 1 + b.f1.length) bs
theorem endB_le (bs : List S29) : ∀ s : Nat, (∀ b ∈ bs, b.f1.length ≤ 1000) → endB s bs ≤ s + 1001 * bs.length := by
 induction bs with
 | nil => intro s _; exact Nat.le_refl _
 | cons b bs ih =>
  intro s h
  have h1 := h b List.mem_cons_self
  have h2 := ih (s + 1 + b.f1.length) (fun q hq => h q (List.mem_cons_of_mem _ hq))
  show endB (s + 1 + b.f1.length) bs ≤ _
  rw [List.length_cons]
  omega
theorem midB_get (D bs : List S29) (b : S29) : (D ++ b :: bs).getD D.length z29 = b := by
 rw [List.getD_eq_getElem?_getD, List.getElem?_append_right (Nat.le_refl _), Nat.sub_self]
 rfl
theorem midB_set (D bs : List S29) (b q : S29) : (D ++ b :: bs).set D.length q = (D ++ [q]) ++ bs := by
 rw [List.set_append_right _ _ (Nat.le_refl _), Nat.sub_self]
 simp
theorem markB_l0 (bs : List S29) : ∀ (D : List S29) (s : Nat), s + 1001 * bs.length ≤ 10000000 → D.length + bs.length ≤ 1000 → (∀ b ∈ bs, b.f1.length ≤ 1000) →
  Ev (fun k => laws_markBitsS.l0 k (D ++ bs) (s : Int) (D.length : Int)) ((endB s bs : Int), D ++ markedB s bs) := by
 induction bs with
 | nil =>
  intro D s _ _ _
  refine Ev.step (f := fun _ => some _) (fun k => ?_) (Ev.now _)
  rw [laws_markBitsS.l0, List.append_nil, if_neg (by omega)]
  show _ = some ((s : Int), D ++ [])
  rw [List.append_nil]
 | cons b bs ih =>
  intro D s h1 h2 h3
  have hb := h3 b List.mem_cons_self
  rw [List.length_cons] at h1 h2
  have h4 := ih (D ++ [⟨(s : Int), marksF (s + 1) b.f1.length⟩]) (s + 1 + b.f1.length) (by omega) (by rw [List.length_append, List.length_cons, List.length_nil]; omega) (fun q hq => h3 q (List.mem_cons_of_mem _ hq))
  obtain ⟨K1, hK1⟩ := ev_out h4
  obtain ⟨K2, hK2⟩ := ev_out (markUint64SF_ev b.f1 (s + 1) (by omega) (by omega))
  refine ev_mk (K1 + K2 + 1) fun k hk => ?_
  obtain ⟨k, rfl⟩ : ∃ m, k = m + 1 := ⟨k - 1, by omega⟩
  have hq := hK1 k (by omega)
  have e5 : ((D ++ [(⟨(s : Int), marksF (s + 1) b.f1.length⟩ : S29)]).length : Int) = (D.length : Int) + 1 := by rw [List.length_append]; rfl
  have ew : wrap64 ((s : Int) + 1) = ((s + 1 : Nat) : Int) := w64 (by omega) (by omega)
  rw [e5, List.append_assoc] at hq
  rw [laws_markBitsS.l0, if_pos (by rw [List.length_append, List.length_cons]; omega), if_pos (by omega), Int.toNat_natCast, midB_get, ew, hK2 k (by omega), Option.bind_some, midB_set]
  dsimp only
  rw [w64 (x := (D.length : Int) + 1) (by omega) (by omega), List.append_assoc, hq, List.append_assoc]
  rfl
theorem heldB_l0 (bs : List S29) : ∀ (D : List S29) (s : Nat), s + 1001 * bs.length ≤ 10000000 → D.length + bs.length ≤ 1000 → (∀ b ∈ bs, b.f1.length ≤ 1000) →
  Ev (fun k => laws_heldBitsS.l0 k (D ++ markedB s bs) (s : Int) (D.length : Int)) (endB s bs : Int) := by
 induction bs with
 | nil =>
  intro D s _ _ _
  refine Ev.step (f := fun _ => some _) (fun k => ?_) (Ev.now _)
  show laws_heldBitsS.l0 (k + 1) (D ++ []) (s : Int) (D.length : Int) = _
  rw [laws_heldBitsS.l0, List.append_nil, if_neg (by omega)]
  rfl
 | cons b bs ih =>
  intro D s h1 h2 h3
  have hb := h3 b List.mem_cons_self
  rw [List.length_cons] at h1 h2
  have h4 := ih (D ++ [⟨(s : Int), marksF (s + 1) b.f1.length⟩]) (s + 1 + b.f1.length) (by omega) (by rw [List.length_append, List.length_cons, List.length_nil]; omega) (fun q hq => h3 q (List.mem_cons_of_mem _ hq))
  obtain ⟨K1, hK1⟩ := ev_out h4
  obtain ⟨K2, hK2⟩ := ev_out (heldUint64SF_ev b.f1.length (s + 1) (by omega) (by omega))
  refine ev_mk (K1 + K2 + 1) fun k hk => ?_
  obtain ⟨k, rfl⟩ : ∃ m, k = m + 1 := ⟨k - 1, by omega⟩
  have hq := hK1 k (by omega)
  have e5 : ((D ++ [(⟨(s : Int), marksF (s + 1) b.f1.length⟩ : S29)]).length : Int) = (D.length : Int) + 1 := by rw [List.length_append]; rfl
  have ew : wrap64 ((s : Int) + 1) = ((s + 1 : Nat) : Int) := w64 (by omega) (by omega)
  rw [e5, List.append_assoc] at hq
  show laws_heldBitsS.l0 (k + 1) (D ++ ⟨(s : Int), marksF (s + 1) b.f1.length⟩ :: markedB (s + 1 + b.f1.length) bs) (s : Int) (D.length : Int) = some ((endB (s + 1 + b.f1.length) bs : Nat) : Int)
  have er : rd_T29 (D ++ ⟨(s : Int), marksF (s + 1) b.f1.length⟩ :: markedB (s + 1 + b.f1.length) bs) (D.length : Int) = ⟨(s : Int), marksF (s + 1) b.f1.length⟩ := by
   unfold rd_T29
   rw [Int.toNat_natCast, midB_get]
  rw [laws_heldBitsS.l0, if_pos (by rw [List.length_append, List.length_cons]; omega), if_pos (by omega), er, if_pos rfl]
  dsimp only
  rw [ew, hK2 k (by omega), Option.bind_some, if_neg (by omega), w64 (x := (D.length : Int) + 1) (by omega) (by omega)]
  exact hq
theorem eqB_l0 (P : List S29) (hP : P.length ≤ 1000) (hw : ∀ p ∈ P, p.f1.length ≤ 1000) (d : Nat) : ∀ i : Nat, i + d = P.length → Ev (fun k => laws_eqBitsS.l0 k P P (i : Int)) true := by
 induction d with
 | zero =>
  intro i h
  refine Ev.step (f := fun _ => some _) (fun k => ?_) (Ev.now _)
  rw [laws_eqBitsS.l0, if_neg (by omega)]
 | succ d ih =>
  intro i h
  obtain ⟨K1, hK1⟩ := ev_out (ih (i + 1) (by omega))
  have hp : (P.getD i z29).f1.length ≤ 1000 := by
   rw [lget_lt P i z29 (by omega)]
   exact hw _ (List.getElem_mem _)
  obtain ⟨K2, hK2⟩ := ev_out (eqUint64S_ev (P.getD i z29).f1 (by omega))
  refine ev_mk (K1 + K2 + 1) fun k hk => ?_
  obtain ⟨k, rfl⟩ : ∃ m, k = m + 1 := ⟨k - 1, by omega⟩
  have er : rd_T29 P (i : Int) = P.getD i z29 := by unfold rd_T29; rw [Int.toNat_natCast]
  rw [laws_eqBitsS.l0, if_pos (by omega), if_pos (by omega), if_pos (by omega), er, laws_eqBits.f, if_pos rfl, hK2 k (by omega), Option.bind_some, if_pos rfl, Option.bind_some, if_pos rfl, w64 (by omega) (by omega)]
  exact hK1 k (by omega)
theorem eqB_ev (P : List S29) (hP : P.length ≤ 1000) (hw : ∀ p ∈ P, p.f1.length ≤ 1000) : Ev (fun k => laws_eqBitsS.f k P P) true :=
 Ev.congr (f := fun k => laws_eqBitsS.l0 k P P ((0 : Nat) : Int)) (fun _ => by rw [laws_eqBitsS.f, if_pos rfl]; rfl) (eqB_l0 P hP hw P.length 0 (by omega))
/-- Rows of bounded lengths. -/
structure FmSz (Z : List Int) (Ls : List S29) (C a b c : List Int) : Prop where
 hz : Z.length ≤ 1000
 hl : Ls.length ≤ 1000
 hw : ∀ p ∈ Ls, p.f1.length ≤ 1000
 hC : C.length ≤ 1000
 ha : a.length ≤ 1000
 hb : b.length ≤ 1000
 hc : c.length ≤ 1000
theorem eqFm_ev {Z : List Int} {Ls : List S29} {C a b c : List Int} (h : FmSz Z Ls C a b c) (x0 x1 x2 x6 x8 x9 x10 x12 x13 x14 : Int) : Ev (fun k => laws_eqFm.f k x0 x1 x2 Z Ls C x6 a x8 x9 x10 b x12 x13 x14 c x0 x1 x2 Z Ls C x6 a x8 x9 x10 b x12 x13 x14 c) true := by
 have h1 := h.hz
 have h2 := h.hC
 have h3 := h.ha
 have h4 := h.hb
 have h5 := h.hc
 obtain ⟨K1, g1⟩ := ev_out (eqIntS_ev Z (by omega))
 obtain ⟨K2, g2⟩ := ev_out (eqB_ev Ls h.hl h.hw)
 obtain ⟨K3, g3⟩ := ev_out (eqIntS_ev C (by omega))
 obtain ⟨K4, g4⟩ := ev_out (eqUint64S_ev a (by omega))
 obtain ⟨K5, g5⟩ := ev_out (eqUint64S_ev b (by omega))
 obtain ⟨K6, g6⟩ := ev_out (eqUint64S_ev c (by omega))
 refine ev_mk (K1 + K2 + K3 + K4 + K5 + K6) fun k hk => ?_
 unfold laws_eqFm.f laws_eqWave.f laws_eqPacked.f laws_eqBits.f
 rw [if_pos rfl, if_pos rfl, if_pos rfl, g1 k (by omega), Option.bind_some, if_pos rfl, g2 k (by omega), Option.bind_some, if_pos rfl, Option.bind_some, if_pos rfl, g3 k (by omega), Option.bind_some, if_pos rfl, if_pos rfl, g4 k (by omega), Option.bind_some, if_pos rfl, Option.bind_some, if_pos rfl, if_pos rfl, if_pos rfl, if_pos rfl, g5 k (by omega), Option.bind_some, if_pos rfl, Option.bind_some, if_pos rfl, Option.bind_some, if_pos rfl, if_pos rfl, if_pos rfl, if_pos rfl, g6 k (by omega), Option.bind_some, if_pos rfl, Option.bind_some, if_pos rfl, Option.bind_some, if_pos rfl]
/-- Where the marks of each row begin. -/
def fs1 (Z : List Int) : Nat := 1 + Z.length
def fs2 (Z : List Int) (Ls : List S29) : Nat := endB (fs1 Z) Ls
def fs3 (Z : List Int) (Ls : List S29) (C : List Int) : Nat := fs2 Z Ls + C.length
def fs4 (Z : List Int) (Ls : List S29) (C a : List Int) : Nat := fs3 Z Ls C + a.length
def fs5 (Z : List Int) (Ls : List S29) (C a b : List Int) : Nat := fs4 Z Ls C a + b.length
def fs6 (Z : List Int) (Ls : List S29) (C a b c : List Int) : Nat := fs5 Z Ls C a b + c.length
theorem heldFm_ev {Z : List Int} {Ls : List S29} {C a b c : List Int} (h : FmSz Z Ls C a b c) (x0 x1 x2 x6 x8 x9 x10 x12 x13 x14 : Int) :
  Ev (fun k => laws_heldFm.f k x0 x1 x2 (marksF 1 Z.length) (markedB (fs1 Z) Ls) (marksF (fs2 Z Ls) C.length) x6 (marksF (fs3 Z Ls C) a.length) x8 x9 x10 (marksF (fs4 Z Ls C a) b.length) x12 x13 x14 (marksF (fs5 Z Ls C a b) c.length) 1) (fs6 Z Ls C a b c : Int) := by
 have h1 := h.hz
 have h2 := h.hC
 have h3 := h.ha
 have h4 := h.hb
 have h5 := h.hc
 have h6 := h.hl
 have e1 : fs1 Z ≤ 1001 := by unfold fs1; omega
 have e2 : fs2 Z Ls ≤ 1002001 := by have := endB_le Ls (fs1 Z) h.hw; unfold fs2; omega
 have e3 : fs3 Z Ls C ≤ 1003001 := by unfold fs3; omega
 have e4 : fs4 Z Ls C a ≤ 1004001 := by unfold fs4; omega
 have e5 : fs5 Z Ls C a b ≤ 1005001 := by unfold fs5; omega
 obtain ⟨K1, g1⟩ := ev_out (heldIntSF_ev Z.length 1 (by omega) (by omega))
 obtain ⟨K2, g2⟩ := ev_out (heldB_l0 Ls [] (fs1 Z) (by omega) (by simp only [List.length_nil]; omega) h.hw)
 obtain ⟨K3, g3⟩ := ev_out (heldIntSF_ev C.length (fs2 Z Ls) (by omega) (by omega))
 obtain ⟨K4, g4⟩ := ev_out (heldUint64SF_ev a.length (fs3 Z Ls C) (by omega) (by omega))
 obtain ⟨K5, g5⟩ := ev_out (heldUint64SF_ev b.length (fs4 Z Ls C a) (by omega) (by omega))
 obtain ⟨K6, g6⟩ := ev_out (heldUint64SF_ev c.length (fs5 Z Ls C a b) (by omega) (by omega))
 refine ev_mk (K1 + K2 + K3 + K4 + K5 + K6) fun k hk => ?_
 have q1 : laws_heldIntS.f k (marksF 1 Z.length) 1 = some ((fs1 Z : Nat) : Int) := g1 k (by omega)
 have q2 : laws_heldBitsS.l0 k (markedB (fs1 Z) Ls) ((fs1 Z : Nat) : Int) 0 = some ((fs2 Z Ls : Nat) : Int) := g2 k (by omega)
 have q3 : laws_heldIntS.f k (marksF (fs2 Z Ls) C.length) ((fs2 Z Ls : Nat) : Int) = some ((fs3 Z Ls C : Nat) : Int) := g3 k (by omega)
 have q4 : laws_heldUint64S.f k (marksF (fs3 Z Ls C) a.length) ((fs3 Z Ls C : Nat) : Int) = some ((fs4 Z Ls C a : Nat) : Int) := g4 k (by omega)
 have q5 : laws_heldUint64S.f k (marksF (fs4 Z Ls C a) b.length) ((fs4 Z Ls C a : Nat) : Int) = some ((fs5 Z Ls C a b : Nat) : Int) := g5 k (by omega)
 have q6 : laws_heldUint64S.f k (marksF (fs5 Z Ls C a b) c.length) ((fs5 Z Ls C a b : Nat) : Int) = some ((fs6 Z Ls C a b c : Nat) : Int) := g6 k (by omega)
 unfold laws_heldFm.f laws_heldWave.f laws_heldPacked.f laws_heldBits.f laws_heldBitsS.f
 rw [q1, Option.bind_some, if_neg (by omega), q2, Option.bind_some, if_neg (by omega), Option.bind_some, if_neg (by omega), q3, Option.bind_some, if_neg (by omega), q4, Option.bind_some, if_neg (by omega), Option.bind_some, if_neg (by omega), q5, Option.bind_some, if_neg (by omega), Option.bind_some, if_neg (by omega), Option.bind_some, if_neg (by omega), q6, Option.bind_some, if_neg (by omega), Option.bind_some, if_neg (by omega), Option.bind_some, if_neg (by omega)]
theorem markFm_ev {Z : List Int} {Ls : List S29} {C a b c : List Int} (h : FmSz Z Ls C a b c) (x0 x1 x2 x6 x8 x9 x10 x12 x13 x14 : Int) :
  Ev (fun k => laws_markFm.f k x0 x1 x2 Z Ls C x6 a x8 x9 x10 b x12 x13 x14 c 1) ((fs6 Z Ls C a b c : Int), marksF 1 Z.length, markedB (fs1 Z) Ls, marksF (fs2 Z Ls) C.length, marksF (fs3 Z Ls C) a.length, marksF (fs4 Z Ls C a) b.length, marksF (fs5 Z Ls C a b) c.length) := by
 have h1 := h.hz
 have h2 := h.hC
 have h3 := h.ha
 have h4 := h.hb
 have h5 := h.hc
 have h6 := h.hl
 have e1 : fs1 Z ≤ 1001 := by unfold fs1; omega
 have e2 : fs2 Z Ls ≤ 1002001 := by have := endB_le Ls (fs1 Z) h.hw; unfold fs2; omega
 have e3 : fs3 Z Ls C ≤ 1003001 := by unfold fs3; omega
 have e4 : fs4 Z Ls C a ≤ 1004001 := by unfold fs4; omega
 have e5 : fs5 Z Ls C a b ≤ 1005001 := by unfold fs5; omega
 obtain ⟨K1, g1⟩ := ev_out (markIntSF_ev Z 1 (by omega) (by omega))
 obtain ⟨K2, g2⟩ := ev_out (markB_l0 Ls [] (fs1 Z) (by omega) (by simp only [List.length_nil]; omega) h.hw)
 obtain ⟨K3, g3⟩ := ev_out (markIntSF_ev C (fs2 Z Ls) (by omega) (by omega))
 obtain ⟨K4, g4⟩ := ev_out (markUint64SF_ev a (fs3 Z Ls C) (by omega) (by omega))
 obtain ⟨K5, g5⟩ := ev_out (markUint64SF_ev b (fs4 Z Ls C a) (by omega) (by omega))
 obtain ⟨K6, g6⟩ := ev_out (markUint64SF_ev c (fs5 Z Ls C a b) (by omega) (by omega))
 refine ev_mk (K1 + K2 + K3 + K4 + K5 + K6) fun k hk => ?_
 have q1 : laws_markIntS.f k Z 1 = some (((fs1 Z : Nat) : Int), marksF 1 Z.length) := g1 k (by omega)
 have q2 : laws_markBitsS.l0 k Ls ((fs1 Z : Nat) : Int) 0 = some (((fs2 Z Ls : Nat) : Int), markedB (fs1 Z) Ls) := g2 k (by omega)
 have q3 : laws_markIntS.f k C ((fs2 Z Ls : Nat) : Int) = some (((fs3 Z Ls C : Nat) : Int), marksF (fs2 Z Ls) C.length) := g3 k (by omega)
 have q4 : laws_markUint64S.f k a ((fs3 Z Ls C : Nat) : Int) = some (((fs4 Z Ls C a : Nat) : Int), marksF (fs3 Z Ls C) a.length) := g4 k (by omega)
 have q5 : laws_markUint64S.f k b ((fs4 Z Ls C a : Nat) : Int) = some (((fs5 Z Ls C a b : Nat) : Int), marksF (fs4 Z Ls C a) b.length) := g5 k (by omega)
 have q6 : laws_markUint64S.f k c ((fs5 Z Ls C a b : Nat) : Int) = some (((fs6 Z Ls C a b c : Nat) : Int), marksF (fs5 Z Ls C a b) c.length) := g6 k (by omega)
 unfold laws_markFm.f laws_markWave.f laws_markPacked.f laws_markBits.f laws_markBitsS.f
 rw [q1, Option.bind_some, q2, Option.bind_some, Option.bind_some]
 dsimp only
 rw [q3, Option.bind_some, q4, Option.bind_some, Option.bind_some]
 dsimp only
 rw [q5, Option.bind_some, Option.bind_some, Option.bind_some]
 dsimp only
 rw [q6, Option.bind_some, Option.bind_some, Option.bind_some]
theorem wordsOf_le (l : List Int) (h : l.length ≤ 5000) : (wordsOf l).length ≤ 1000 := by unfold wordsOf; rw [wordsTo_length]; omega
theorem packR_le (w : Nat) (l : List Int) : (packR w l).2.2.2.1.length ≤ 1000 := by
 unfold packR
 by_cases c : l.length * w ≤ 5000
 ·rw [if_pos c]
  exact wordsOf_le _ (by rw [packB_length]; exact c)
 ·rw [if_neg c]
  exact Nat.zero_le _
theorem encW_sz (l : List Int) (hl : l.length ≤ 1000) : (encW l).2.1.length ≤ 1000 ∧ (encW l).2.2.1.length ≤ 1000 ∧ ∀ p ∈ (encW l).2.2.1, p.f1.length ≤ 1000 := by
 unfold encW
 by_cases c : okList l = true
 ·rw [if_pos c]
  refine ⟨by show (encZ l 9).length ≤ 1000; rw [encZ_length]; omega, by show (encL l 9).length ≤ 1000; rw [encL_length]; omega, fun p hp => ?_⟩
  obtain ⟨j, hj, rfl⟩ := List.mem_map.1 (show p ∈ encL l 9 from hp)
  exact wordsOf_le _ (by rw [bitsA_length, atL_length]; omega)
 ·rw [if_neg c]
  exact ⟨Nat.zero_le _, Nat.zero_le _, fun p hp => by cases hp⟩
/-- What both answer: its rows are short. -/
theorem fmL_sz (l : List Int) (r : Int) : FmSz (fmL l r).2.2.2.1 (fmL l r).2.2.2.2.1 (fmL l r).2.2.2.2.2.1 (fmL l r).2.2.2.2.2.2.2.1 (fmL l r).2.2.2.2.2.2.2.2.2.2.2.1 (fmL l r).2.2.2.2.2.2.2.2.2.2.2.2.2.2.2.1 := by
 unfold fmL
 by_cases c : l.length ≤ 300 ∧ 1 ≤ r ∧ r ≤ 64
 ·rw [if_pos c]
  have hb := bwtL_len l
  obtain ⟨e1, e2, e3⟩ := encW_sz (bwtL l) (by omega)
  exact ⟨e1, e2, e3, by show (countsL _).length ≤ 1000; rw [countsL_len]; omega, wordsOf_le _ (by rw [markL_len, rowsOf_len]; omega), packR_le _ _, packR_le _ _⟩
 ·rw [if_neg c]
  exact ⟨Nat.zero_le _, Nat.zero_le _, (fun p hp => by cases hp), Nat.zero_le _, Nat.zero_le _, Nat.zero_le _, Nat.zero_le _⟩
theorem okb_wf {l : List Int} (h : ∀ x ∈ l, (Lit.int .u8 x).wf = true) : bytesOk l := fun x hx => by
 have := h x hx
 simp [Lit.wf, IntKind.min, IntKind.max, IntKind.signed, IntKind.bits] at this
 omega
theorem FnExactFmOf : laws_FnExactFmOf.Pure := by
 intro l0 a1 _ _ o0 _
 by_cases g0 : (l0.length : Int) > 1048576
 ·exact ⟨0, by unfold laws_FnExactFmOf.f; rw [if_pos g0]⟩
 have hs := fmL_sz l0 a1
 obtain ⟨K1, h1⟩ := ev_out (toByteS_ev l0 (by omega))
 obtain ⟨K2, h2⟩ := ev_out (specFm_ev l0 a1 (okb_wf o0))
 obtain ⟨K3, h3⟩ := ev_out (implFm_ev l0 a1 (okb_wf o0))
 generalize fmL l0 a1 = R at *
 obtain ⟨x0, x1, x2, Z, Ls, C, x6, a, x8, x9, x10, b, x12, x13, x14, c, x17⟩ := R
 replace hs : FmSz Z Ls C a b c := hs
 obtain ⟨K4, h4⟩ := ev_out (eqFm_ev hs x0 x1 x2 x6 x8 x9 x10 x12 x13 x14)
 obtain ⟨K5, h5⟩ := ev_out (eqByteS_ev l0 (by omega))
 obtain ⟨K6, h6⟩ := ev_out (markB_ev l0 (by omega))
 obtain ⟨K7, h7⟩ := ev_out (markFm_ev hs x0 x1 x2 x6 x8 x9 x10 x12 x13 x14)
 obtain ⟨K8, h8⟩ := ev_out (heldFm_ev hs x0 x1 x2 x6 x8 x9 x10 x12 x13 x14)
 refine ⟨K1 + K2 + K3 + K4 + K5 + K6 + K7 + K8, ?_⟩
 unfold laws_FnExactFmOf.f
 rw [if_neg g0, h1 _ (by omega), Option.bind_some, h2 _ (by omega), Option.bind_some, h3 _ (by omega), Option.bind_some]
 dsimp only
 rw [h4 _ (by omega), Option.bind_some, h5 _ (by omega), Option.bind_some, h6 _ (by omega), Option.bind_some, h7 _ (by omega), Option.bind_some]
 dsimp only
 rw [h8 _ (by omega), Option.bind_some, if_pos ⟨rfl, rfl, by omega, by omega, rfl, rfl⟩]

end Go.Proofs.Ytjfoaiabbmkdpaa.Pure
