/- The program's Parts returns what the reference's returns, for all arguments (texts of more than 2^20 bytes are let pass by the statement itself). -/
import Derived.Test.YtadhngelhognaaaQFnExactPartsx6
import Derived.Test.YtadhngelhognaaaBase
import Derived.Test.YtadhngelhognaaaSx
import Derived.Test.YtadhngelhognaaaWz
import Derived.Test.YtadhngelhognaaaWs
namespace Go.Proofs.Ytadhngelhognaaa.Pure
open Go.RowKit Go.Proofs.Ytadhngelhognaaa.QFnExactParts Go.Proofs.YtadhngelhognaaaW.PrintWords Go.Proofs.YtadhngelhognaaaW.PrintLast Go.Proofs.YtadhngelhognaaaW.PrintMore
open Go.Proofs.Ytadhngelhognaaa Go.Proofs.Ytadhngelhognaaa.Base Go.Proofs.Ytadhngelhognaaa.Sx Go.Proofs.Ytadhngelhognaaa.Wz Go.Proofs.Ytadhngelhognaaa.Ws
set_option linter.unusedVariables false
set_option linter.unusedSimpArgs false

theorem specCmp_l0 (a b : List Int) (ha : a.length ≤ 2000000) (hb : b.length ≤ 2000000) (d : Nat) : ∀ i : Nat, i + d = a.length → i ≤ b.length → Ev (fun k => spec_l05Cmp.l0 k a b (i : Int)) (Fv.cmpB (a.drop i) (b.drop i)) := by
 induction d with
 | zero =>
  intro i h hi
  refine Ev.step (f := fun k => spec_l05Cmp.j1 k a b (i : Int) false) (fun k => ?_) (Ev.step (f := fun _ => some _) (fun k => ?_) (Ev.now _))
  ·rw [spec_l05Cmp.l0, if_neg (by omega)]
  ·rw [spec_l05Cmp.j1, if_neg (by decide), List.drop_eq_nil_of_le (show a.length ≤ i by omega)]
   by_cases c : (a.length : Int) < (b.length : Int)
   ·rw [if_pos c, drop_at b i (by omega)]
    rfl
   ·rw [if_neg c, if_neg (by omega), List.drop_eq_nil_of_le (show b.length ≤ i by omega)]
    rfl
 | succ d ih =>
  intro i h hi
  rw [drop_at a i (by omega)]
  by_cases c : i < b.length
  ·rw [drop_at b i c, Fv.cmpB]
   by_cases c1 : a.getD i 0 < b.getD i 0
   ·refine Ev.step (f := fun k => spec_l05Cmp.j1 k a b (i : Int) true) (fun k => ?_) (Ev.step (f := fun _ => some _) (fun k => ?_) (Ev.now _))
    ·rw [spec_l05Cmp.l0, if_pos (by omega), decide_eq_true (show (i : Int) < (b.length : Int) by omega)]
    ·rw [spec_l05Cmp.j1, if_pos rfl, if_pos (by omega), if_pos (by omega), if_pos (by omega), rd_nat, rd_nat, if_pos c1, if_pos c1]
   ·by_cases c2 : b.getD i 0 < a.getD i 0
    ·refine Ev.step (f := fun k => spec_l05Cmp.j1 k a b (i : Int) true) (fun k => ?_) (Ev.step (f := fun _ => some _) (fun k => ?_) (Ev.now _))
     ·rw [spec_l05Cmp.l0, if_pos (by omega), decide_eq_true (show (i : Int) < (b.length : Int) by omega)]
     ·rw [spec_l05Cmp.j1, if_pos rfl, if_pos (by omega), if_pos (by omega), if_pos (by omega), rd_nat, rd_nat, if_neg c1, if_pos c2, if_neg c1, if_pos c2]
    ·rw [if_neg c1, if_neg c2]
     refine Ev.step (f := fun k => spec_l05Cmp.j1 k a b (i : Int) true) (fun k => ?_) (Ev.step (fun k => ?_) (ih (i + 1) (by omega) (by omega)))
     ·rw [spec_l05Cmp.l0, if_pos (by omega), decide_eq_true (show (i : Int) < (b.length : Int) by omega)]
     ·rw [spec_l05Cmp.j1, if_pos rfl, if_pos (by omega), if_pos (by omega), if_pos (by omega), rd_nat, rd_nat, if_neg c1, if_neg c2, w64 (by omega) (by omega)]
      rfl
  ·rw [List.drop_eq_nil_of_le (show b.length ≤ i by omega)]
   refine Ev.step (f := fun k => spec_l05Cmp.j1 k a b (i : Int) false) (fun k => ?_) (Ev.step (f := fun _ => some _) (fun k => ?_) (Ev.now _))
   ·rw [spec_l05Cmp.l0, if_pos (by omega), decide_eq_false (show ¬ (i : Int) < (b.length : Int) by omega)]
   ·rw [spec_l05Cmp.j1, if_neg (by decide), if_neg (by omega), if_pos (by omega)]
    rfl
theorem specCmp_ev (a b : List Int) (ha : a.length ≤ 2000000) (hb : b.length ≤ 2000000) : Ev (fun k => spec_l05Cmp.f k a b) (Fv.cmpB a b) := specCmp_l0 a b ha hb a.length 0 (by omega) (by omega)
def bytesOk (l : List Int) : Prop := ∀ x ∈ l, 0 ≤ x ∧ x < 256
theorem rd_rows {l out : List Int} (ho : ∀ x ∈ out, 0 ≤ x ∧ x ≤ l.length) (j : Nat) (hj : j < out.length) : 0 ≤ out.getD j 0 ∧ out.getD j 0 ≤ l.length := by
 rw [lget_lt out j 0 hj]
 exact ho _ (List.getElem_mem _)
theorem specIns (l out : List Int) (i : Nat) (hl : l.length ≤ 300) (hi : i ≤ l.length) (ho : ∀ x ∈ out, 0 ≤ x ∧ x ≤ l.length) (hlen : out.length ≤ 1000) (hs : out.Pairwise (sl l)) (m : Nat) : ∀ lo hi_ : Nat, hi_ - lo ≤ m → lo ≤ hi_ → hi_ ≤ out.length →
  (∀ j, j < lo → j < out.length → sl l (out.getD j 0) i) → (∀ j, hi_ ≤ j → j < out.length → ¬ sl l (out.getD j 0) i) →
  ∃ p, p ≤ out.length ∧ (∀ j, j < p → j < out.length → sl l (out.getD j 0) i) ∧ (∀ j, p ≤ j → j < out.length → ¬ sl l (out.getD j 0) i) ∧
   ∀ r, Ev (fun k => spec_SuffixRows.l0 k l (out.take p ++ (i : Int) :: out.drop p) ((i : Int) - 1)) r → Ev (fun k => spec_SuffixRows.l1 k l out (i : Int) (lo : Int) (hi_ : Int)) r := by
 have pw : ∀ j j' : Nat, j < j' → j' < out.length → sl l (out.getD j 0) (out.getD j' 0) := fun j j' h h' => by
  rw [lget_lt out j 0 (by omega), lget_lt out j' 0 h']
  exact List.pairwise_iff_getElem.1 hs j j' (by omega) h' h
 induction m with
 | zero =>
  intro lo hi_ h1 h2 h3 h4 h5
  have e : hi_ = lo := by omega
  subst e
  refine ⟨hi_, h3, h4, h5, fun r hr => Ev.step (fun k => ?_) hr⟩
  rw [spec_SuffixRows.l1, if_neg (by omega), Option.bind_some, if_pos (by omega), if_pos (by omega), Option.bind_some, Int.toNat_natCast, if_pos (by simp; omega), Option.bind_some, Option.bind_some, Option.bind_some, if_pos (by simp; omega), Option.bind_some,
   if_pos (by simp; omega), w64 (by omega) (by omega)]
  simp
 | succ m ih =>
  intro lo hi_ h1 h2 h3 h4 h5
  by_cases e : lo < hi_
  ·have hmid : wrap64 (Int.tdiv (wrap64 ((lo : Int) + (hi_ : Int))) 2) = (((lo + hi_) / 2 : Nat) : Int) := by
    rw [show wrap64 ((lo : Int) + (hi_ : Int)) = (lo : Int) + (hi_ : Int) from w64 (by omega) (by omega), show Int.tdiv ((lo : Int) + (hi_ : Int)) 2 = (((lo + hi_) / 2 : Nat) : Int) from by rw [← Int.natCast_add]; rfl, w64 (by omega) (by omega)]
   obtain ⟨mid, hm⟩ : ∃ mid, mid = (lo + hi_) / 2 := ⟨_, rfl⟩
   rw [← hm] at hmid
   have hml : lo ≤ mid := by omega
   have hmh : mid < hi_ := by omega
   obtain ⟨b0, b1⟩ := rd_rows ho mid (by omega)
   obtain ⟨K, hK⟩ := ev_out (specCmp_ev (l.drop (out.getD mid 0).toNat) (l.drop i) (by rw [List.length_drop]; omega) (by rw [List.length_drop]; omega))
   by_cases c : sl l (out.getD mid 0) i
   ·have c' : Fv.cmpB (l.drop (out.getD mid 0).toNat) (l.drop i) < 0 := by have := c; unfold sl at this; rwa [Int.toNat_natCast] at this
    obtain ⟨p, q1, q2, q3, q4⟩ := ih (mid + 1) hi_ (by omega) (by omega) h3 (fun j hj hj' => by
     by_cases ej : j = mid
     ·rw [ej]; exact c
     ·exact sl_trans l _ _ _ (pw j mid (by omega) (by omega)) c) h5
    refine ⟨p, q1, q2, q3, fun r hr => ?_⟩
    obtain ⟨K2, hK2⟩ := ev_out (q4 r hr)
    refine ev_mk (K + K2 + 1) fun k hk => ?_
    obtain ⟨k, rfl⟩ : ∃ m, k = m + 1 := ⟨k - 1, by omega⟩
    rw [spec_SuffixRows.l1, if_pos (by omega), hmid, if_pos (by omega), if_pos (by omega), rd_nat, if_pos b0, if_pos b1, if_pos (by omega), if_pos (by omega), Int.toNat_natCast, hK k (by omega), Option.bind_some, if_pos c', w64 (by omega) (by omega)]
    exact hK2 k (by omega)
   ·have c' : ¬ Fv.cmpB (l.drop (out.getD mid 0).toNat) (l.drop i) < 0 := by have := c; unfold sl at this; rwa [Int.toNat_natCast] at this
    obtain ⟨p, q1, q2, q3, q4⟩ := ih lo mid (by omega) (by omega) (by omega) h4 (fun j hj hj' hh => by
     by_cases ej : j = mid
     ·rw [ej] at hh; exact c hh
     ·exact c (sl_trans l _ _ _ (pw mid j (by omega) (by omega)) hh))
    refine ⟨p, q1, q2, q3, fun r hr => ?_⟩
    obtain ⟨K2, hK2⟩ := ev_out (q4 r hr)
    refine ev_mk (K + K2 + 1) fun k hk => ?_
    obtain ⟨k, rfl⟩ : ∃ m, k = m + 1 := ⟨k - 1, by omega⟩
    rw [spec_SuffixRows.l1, if_pos (by omega), hmid, if_pos (by omega), if_pos (by omega), rd_nat, if_pos b0, if_pos b1, if_pos (by omega), if_pos (by omega), Int.toNat_natCast, hK k (by omega), Option.bind_some, if_neg c']
    exact hK2 k (by omega)
  ·obtain ⟨p, q1, q2, q3, q4⟩ := ih lo hi_ (by omega) h2 h3 h4 h5
   exact ⟨p, q1, q2, q3, q4⟩
def from_ (n d : Nat) : List Int := (upto n).filter fun x => decide ((d : Int) ≤ x)
theorem mem_from (n d : Nat) (x : Int) : x ∈ from_ n d ↔ (d : Int) ≤ x ∧ x ≤ n := by
 unfold from_
 rw [List.mem_filter, mem_upto, decide_eq_true_eq]
 omega
theorem from_nodup (n d : Nat) : (from_ n d).Nodup := (upto_nodup n).sublist List.filter_sublist
theorem from_cons (n d : Nat) (h : d ≤ n) : (from_ n d).Perm ((d : Int) :: from_ n (d + 1)) := by
 rw [List.perm_ext_iff_of_nodup (from_nodup _ _) (List.nodup_cons.2 ⟨fun h => by rw [mem_from] at h; omega, from_nodup _ _⟩)]
 intro x
 rw [List.mem_cons, mem_from, mem_from]
 omega
theorem from_zero (n : Nat) : (from_ n 0).Perm (upto n) := by
 rw [List.perm_ext_iff_of_nodup (from_nodup _ _) (upto_nodup _)]
 intro x
 rw [mem_from, mem_upto]
 omega
theorem from_top (n : Nat) : from_ n (n + 1) = [] := List.eq_nil_iff_forall_not_mem.2 fun x h => by rw [mem_from] at h; omega
theorem specRows_l0 (l : List Int) (hl : l.length ≤ 300) (d : Nat) : ∀ out : List Int, d ≤ l.length + 1 → out.Perm (from_ l.length d) → out.Pairwise (sl l) → Ev (fun k => spec_SuffixRows.l0 k l out ((d : Int) - 1)) (rowsOf l) := by
 induction d with
 | zero =>
  intro out _ hp hs
  refine Ev.step (f := fun _ => some _) (fun k => ?_) (Ev.now _)
  rw [spec_SuffixRows.l0, if_neg (by omega), rows_unique l out (hp.trans (from_zero _)) hs]
 | succ d ih =>
  intro out hd hp hs
  have hm : ∀ x ∈ out, 0 ≤ x ∧ x ≤ l.length := fun x hx => by have := (mem_from _ _ _).1 (hp.mem_iff.1 hx); omega
  have hn : (d : Int) ∉ out := fun h => by have := (mem_from _ _ _).1 (hp.mem_iff.1 h); omega
  have hlen : out.length ≤ 1000 := by
   have h1 := hp.length_eq
   have h2 : (from_ l.length (d + 1)).length ≤ (upto l.length).length := List.length_filter_le _ _
   have h3 : (upto l.length).length = l.length + 1 := by simp [upto]
   omega
  obtain ⟨p, q1, q2, q3, q4⟩ := specIns l out d hl (by omega) hm hlen hs out.length 0 out.length (by omega) (by omega) (by omega) (fun j hj => by omega) (fun j hj hj' => by omega)
  have hnew : (out.take p ++ (d : Int) :: out.drop p).Perm (from_ l.length d) := by
   refine List.perm_middle.trans ?_
   rw [List.take_append_drop]
   exact (hp.cons _).trans (from_cons _ _ (by omega)).symm
  have h := q4 _ (ih _ (by omega) hnew (ins_sorted l out d p (by omega) hm hn hs q2 q3))
  refine Ev.step (fun k => ?_) h
  rw [spec_SuffixRows.l0, if_pos (by omega), show ((d + 1 : Nat) : Int) - 1 = (d : Int) by omega]
  rfl
theorem specRows_ev (l : List Int) (hl : l.length ≤ 300) : Ev (fun k => spec_SuffixRows.f k l) (rowsOf l) := by
 have h := specRows_l0 l hl (l.length + 1) [] (by omega) (by rw [from_top]) List.Pairwise.nil
 refine Ev.congr (fun k => ?_) h
 unfold spec_SuffixRows.f spec_TextOk.f
 rw [Option.bind_some, decide_eq_true (by omega), if_pos rfl, show ((l.length + 1 : Nat) : Int) - 1 = (l.length : Int) by omega]
theorem implRows_l0 (l : List Int) (hl : l.length ≤ 300) (hb : bytesOk l) (d : Nat) : ∀ i : Nat, i + d = l.length + 1 → Ev (fun k => impl_suffixRows.l0 k ((List.range i).map fun (i : Nat) => (i : Int)) ((l.length : Int) + 1) (i : Int) l) (rowsOf l) := by
 induction d with
 | zero =>
  intro i h
  have e : i = l.length + 1 := by omega
  subst e
  refine Ev.step (f := fun _ => some _) (fun k => ?_) (Ev.now _)
  rw [impl_suffixRows.l0, if_neg (by omega), slices_SortFunc_79.f, if_pos ?_, Option.bind_some]
  ·rfl
  ·simp only [Bool.and_eq_true, List.all_eq_true, decide_eq_true_eq, Fv.isB]
   refine ⟨⟨hb, fun x hx => (mem_upto _ _).1 hx⟩, by simp; omega⟩
 | succ d ih =>
  intro i h
  refine Ev.step (fun k => ?_) (ih (i + 1) (by omega))
  rw [impl_suffixRows.l0, if_pos (by omega), if_pos (by simp; omega), w64 (by omega) (by omega), List.range_succ, List.map_append]
  rfl
theorem implRows_ev (l : List Int) (hl : l.length ≤ 300) (hb : bytesOk l) : Ev (fun k => impl_suffixRows.f k l) (rowsOf l) := by
 have h := implRows_l0 l hl hb (l.length + 1) 0 (by omega)
 refine Ev.congr (fun k => ?_) h
 unfold impl_suffixRows.f
 rw [w64 (by omega) (by omega)]
 rfl
theorem toByteS_l0 (l : List Int) (hl : l.length ≤ 4000000) (d : Nat) : ∀ i : Nat, i + d = l.length → Ev (fun k => laws_toByteS.l0 k l (i : Int) (l.take i ++ List.replicate d 0)) l := by
 induction d with
 | zero =>
  intro i h
  refine Ev.step (f := fun _ => some l) (fun k => ?_) (Ev.now l)
  rw [laws_toByteS.l0]
  rw [if_neg (by omega), List.take_of_length_le (by omega)]
  simp
 | succ d ih =>
  intro i h
  refine Ev.step (f := fun k => laws_toByteS.l0 k l ((i + 1 : Nat) : Int) (l.take (i + 1) ++ List.replicate d 0)) (fun k => ?_) (ih (i + 1) (by omega))
  rw [laws_toByteS.l0]
  rw [if_pos (by omega), if_pos (by omega), if_pos (by rw [fill_length l 0 i (d + 1) h]; omega), w64 (by omega) (by omega), rd_nat, Int.toNat_natCast, fill_set l 0 _ i d h rfl]
  rfl
theorem toByteS_ev (l : List Int) (hl : l.length ≤ 4000000) : Ev (fun k => laws_toByteS.f k l) l := by
 refine Ev.congr (f := fun k => laws_toByteS.l0 k l ((0 : Nat) : Int) (l.take 0 ++ List.replicate l.length 0)) (fun k => ?_) (toByteS_l0 l hl l.length 0 (by omega))
 unfold laws_toByteS.f
 rw [if_pos (by omega), Int.toNat_natCast, if_pos (by omega)]
 rfl
theorem eqByteS_l0 (l : List Int) (hl : l.length ≤ 4000000) (d : Nat) : ∀ i : Nat, i + d = l.length → Ev (fun k => laws_eqByteS.l0 k l l (i : Int)) true := by
 induction d with
 | zero =>
  intro i h
  refine Ev.step (f := fun _ => some true) (fun k => ?_) (Ev.now true)
  rw [laws_eqByteS.l0]
  rw [if_neg (by omega)]
 | succ d ih =>
  intro i h
  refine Ev.step (f := fun k => laws_eqByteS.l0 k l l ((i + 1 : Nat) : Int)) (fun k => ?_) (ih (i + 1) (by omega))
  rw [laws_eqByteS.l0]
  rw [if_pos (by omega), if_pos (by omega), if_pos (by omega), if_pos rfl, w64 (by omega) (by omega)]
  rfl
theorem eqByteS_ev (l : List Int) (hl : l.length ≤ 4000000) : Ev (fun k => laws_eqByteS.f k l l) true := by
 refine Ev.congr (f := fun k => laws_eqByteS.l0 k l l ((0 : Nat) : Int)) (fun k => ?_) (eqByteS_l0 l hl l.length 0 (by omega))
 unfold laws_eqByteS.f
 rw [if_pos rfl]
 rfl
theorem rdL2 (T : List (List Int)) (i : Nat) : rd_L2 T (i : Int) = T.getD i [] := by unfold rd_L2; rw [Int.toNat_natCast]
theorem mid_take (l : List Int) (r d m : Nat) (h : r ≤ l.length) (hm : m = min l.length (r + d)) : (l.take m).drop r = (l.drop r).take d := by
 rw [List.drop_take, hm]
 by_cases c : r + d ≤ l.length
 ·rw [Nat.min_eq_right c, Nat.add_sub_cancel_left]
 ·rw [Nat.min_eq_left (by omega), List.take_of_length_le (by rw [List.length_drop]; omega), List.take_of_length_le (by rw [List.length_drop]; omega)]
theorem mn_min (a b : Nat) : mn (a : Int) (b : Int) = ((min a b : Nat) : Int) := by unfold mn; split <;> omega
theorem specHead_eq (l : List Int) (hl : l.length ≤ 300) (r d : Int) (a0 : 0 ≤ r) (a1 : r ≤ l.length) (h0 : 0 ≤ d) (h8 : d ≤ 8) : spec_l13Head.f l r d = some ((l.drop r.toNat).take d.toNat) := by
 obtain ⟨r, rfl⟩ := Int.eq_ofNat_of_zero_le a0
 obtain ⟨d, rfl⟩ := Int.eq_ofNat_of_zero_le h0
 unfold spec_l13Head.f
 rw [w64 (by omega) (by omega), ← Int.natCast_add, mn_min, if_pos (by omega), if_pos (by omega), if_pos (by omega), Int.toNat_natCast, Int.toNat_natCast, Int.toNat_natCast, mid_take l r d _ (by omega) rfl]
theorem specHeads_l0 (l : List Int) (hl : l.length ≤ 300) (d : Int) (h0 : 0 ≤ d) (h8 : d ≤ 8) (n : Nat) : ∀ i : Nat, i + n = l.length + 1 → Ev (fun k => spec_l13Heads.l0 k l d ((headsOf l d.toNat).take i) (i : Int) (rowsOf l)) (headsOf l d.toNat) := by
 have hR := rowsOf_len l
 have hL := headsOf_len l d.toNat
 induction n with
 | zero =>
  intro i h
  refine Ev.step (f := fun _ => some _) (fun k => ?_) (Ev.now _)
  rw [spec_l13Heads.l0, if_neg (by omega), List.take_of_length_le (by omega)]
 | succ n ih =>
  intro i h
  have hat := headsOf_at l d.toNat i (by omega)
  obtain ⟨a0, a1⟩ := rowsOf_at l i (by omega)
  refine Ev.step (fun k => ?_) (ih (i + 1) (by omega))
  rw [take_succ_getD _ [] i (by omega), hat, spec_l13Heads.l0, if_pos (by omega), if_pos (by omega), rd_nat, specHead_eq l hl _ d a0 a1 h0 h8, Option.bind_some, if_pos (by rw [List.length_take]; omega), w64 (by omega) (by omega)]
  rfl
theorem specHeads_ev (l : List Int) (hl : l.length ≤ 300) (d : Int) (h0 : 0 ≤ d) (h8 : d ≤ 8) : Ev (fun k => spec_l13Heads.f k l d) (headsOf l d.toNat) := by
 obtain ⟨K, hK⟩ := ev_out (specRows_ev l hl)
 obtain ⟨K2, hK2⟩ := ev_out (specHeads_l0 l hl d h0 h8 (l.length + 1) 0 (by omega))
 refine ev_mk (K + K2) fun k hk => ?_
 unfold spec_l13Heads.f
 rw [hK k (by omega), Option.bind_some]
 exact hK2 k (by omega)
def headsS (l : List Int) (d : Int) : List ByteArray := (headsOf l d.toNat).map strOfNums
theorem headsS_len (l : List Int) (d : Int) : (headsS l d).length = l.length + 1 := by unfold headsS; rw [List.length_map, headsOf_len]
theorem headsS_at (l : List Int) (d : Int) (i : Nat) (h : i < l.length + 1) : (headsS l d).getD i ByteArray.empty = strOfNums ((headsOf l d.toNat).getD i []) := by
 rw [lget_lt _ i _ (by rw [headsS_len]; exact h), lget_lt _ i _ (by rw [headsOf_len]; exact h)]
 simp [headsS]
theorem implHeads_l0 (l : List Int) (hl : l.length ≤ 300) (d : Int) (h0 : 0 ≤ d) (h8 : d ≤ 8) (n : Nat) : ∀ i : Nat, i + n = l.length + 1 → Ev (fun k => impl_heads.l0 k l d ((headsS l d).take i) (rowsOf l) ((rowsOf l).length : Int) (i : Int)) (headsS l d) := by
 have hR := rowsOf_len l
 have hL := headsS_len l d
 induction n with
 | zero =>
  intro i h
  refine Ev.step (f := fun _ => some _) (fun k => ?_) (Ev.now _)
  rw [impl_heads.l0, if_neg (by omega), List.take_of_length_le (by omega)]
 | succ n ih =>
  intro i h
  have hat := headsOf_at l d.toNat i (by omega)
  obtain ⟨a0, a1⟩ := rowsOf_at l i (by omega)
  refine Ev.step (fun k => ?_) (ih (i + 1) (by omega))
  rw [take_succ_getD _ ByteArray.empty i (by omega), headsS_at l d i (by omega), hat, impl_heads.l0, if_pos (by omega), if_pos (by omega), if_pos (by omega), rd_nat]
  generalize (rowsOf l).getD i 0 = r at a0 a1 ⊢
  obtain ⟨r, rfl⟩ := Int.eq_ofNat_of_zero_le a0
  obtain ⟨d, rfl⟩ := Int.eq_ofNat_of_zero_le h0
  rw [w64 (x := (r : Int) + (d : Int)) (by omega) (by omega), ← Int.natCast_add, mn_min, if_pos (by omega), if_pos (by omega), if_pos (by omega), if_pos (by rw [List.length_take]; omega), Int.toNat_natCast, Int.toNat_natCast, Int.toNat_natCast, mid_take l r d _ (by omega) (Nat.min_comm _ _), w64 (by omega) (by omega)]
  rfl
theorem implHeads_ev (l : List Int) (hl : l.length ≤ 300) (hb : bytesOk l) (d : Int) (h0 : 0 ≤ d) (h8 : d ≤ 8) : Ev (fun k => impl_heads.f k l d) (headsS l d) := by
 obtain ⟨K, hK⟩ := ev_out (implRows_ev l hl hb)
 obtain ⟨K2, hK2⟩ := ev_out (implHeads_l0 l hl d h0 h8 (l.length + 1) 0 (by omega))
 refine ev_mk (K + K2) fun k hk => ?_
 unfold impl_heads.f
 rw [hK k (by omega), Option.bind_some]
 exact hK2 k (by omega)
theorem headsS_num (l : List Int) (hb : bytesOk l) (d : Int) : (headsS l d).map bytesOf = headsOf l d.toNat := by
 unfold headsS
 rw [List.map_map]
 refine (List.map_congr_left fun x hx => ?_).trans (List.map_id _)
 exact Ws.num_of x fun y hy => hb y ((headsOf_mem hx).2 y hy)
theorem headsS_size (l : List Int) (d : Int) (x : ByteArray) (hx : x ∈ headsS l d) : x.size ≤ l.length := by
 obtain ⟨y, hy, rfl⟩ := List.mem_map.1 hx
 rw [strOfNums_size]
 exact (headsOf_mem hy).1
/-- Small words. -/
def Smalls (ws : LL) : Prop := ws.length ≤ 1000 ∧ ∀ x ∈ ws, x.length ≤ 300
theorem Smalls.at {ws : LL} (h : Smalls ws) (i : Nat) : (ws.getD i []).length ≤ 300 := by
 by_cases c : i < ws.length
 ·rw [lget_lt ws i [] c]
  exact h.2 _ (List.getElem_mem c)
 ·rw [List.getD_eq_getElem?_getD, List.getElem?_eq_none (by omega)]
  decide
theorem smalls_heads (l : List Int) (hl : l.length ≤ 300) (d : Nat) : Smalls (headsOf l d) := ⟨by rw [headsOf_len]; omega, fun x hx => by have := (headsOf_mem hx).1; omega⟩
theorem smalls_words {hs_ : LL} (h : Smalls hs_) : Smalls (wordsL hs_) := ⟨Nat.le_trans (wordsL_le _) h.1, fun x hx => h.2 x ((wordsL_mem _ _).1 hx)⟩
theorem wordsL_snoc (a : LL) (x : List Int) : wordsL (a ++ [x]) = insW x (wordsL a) := by unfold wordsL; rw [List.foldl_append]; rfl
theorem loOf_snoc (a : LL) (x w : List Int) : loOf (a ++ [x]) w = loOf a w + (if Fv.cmpB x w < 0 then 1 else 0) := by
 unfold loOf
 rw [List.countP_append, List.countP_singleton]
 by_cases c : Fv.cmpB x w < 0 <;> simp [c]
theorem hiOf_snoc (a : LL) (x w : List Int) : hiOf (a ++ [x]) w = hiOf a w + (if Fv.cmpB x w ≤ 0 then 1 else 0) := by
 unfold hiOf
 rw [List.countP_append, List.countP_singleton]
 by_cases c : Fv.cmpB x w ≤ 0 <;> simp [c]
theorem specSpan_l0 (hs_ : LL) (w : List Int) (hh : Smalls hs_) (hw : w.length ≤ 300) (n : Nat) : ∀ i : Nat, i + n = hs_.length → Ev (fun k => spec_l13Span.l0 k hs_ w (loOf (hs_.take i) w : Int) (hiOf (hs_.take i) w : Int) (i : Int)) ((loOf hs_ w : Int), (hiOf hs_ w : Int)) := by
 induction n with
 | zero =>
  intro i h
  refine Ev.step (f := fun _ => some _) (fun k => ?_) (Ev.now _)
  rw [spec_l13Span.l0, if_neg (by omega), List.take_of_length_le (by omega)]
 | succ n ih =>
  intro i h
  have h1 := ih (i + 1) (by omega)
  have l1 := lo_le (hs_.take i) w
  have l2 := hi_le (hs_.take i) w
  have l3 : (hs_.take i).length ≤ 1000 := by rw [List.length_take]; have := hh.1; omega
  have l4 := hh.1
  rw [take_succ_getD hs_ [] i (by omega), loOf_snoc, hiOf_snoc] at h1
  have hx := hh.at i
  obtain ⟨K, hK⟩ := ev_out (specCmp_ev (hs_.getD i []) w (by omega) (by omega))
  obtain ⟨K2, hK2⟩ := ev_out h1
  refine ev_mk (K + K2 + 2) fun k hk => ?_
  obtain ⟨k, rfl⟩ : ∃ m, k = m + 2 := ⟨k - 2, by omega⟩
  have hk2 := hK2 k (by omega)
  rw [spec_l13Span.l0, if_pos (by omega), if_pos (by omega), rdL2, hK (k + 1) (by omega), Option.bind_some]
  generalize Fv.cmpB (hs_.getD i []) w = c at hk2 ⊢
  generalize loOf (hs_.take i) w = u at l1 hk2 ⊢
  generalize hiOf (hs_.take i) w = v at l1 l2 hk2 ⊢
  by_cases c1 : c < 0
  ·rw [if_pos c1, if_pos (by omega)] at hk2
   rw [if_pos c1, spec_l13Span.j1, if_pos (by omega), w64 (by omega) (by omega), w64 (by omega) (by omega), w64 (by omega) (by omega)]
   exact hk2
  ·by_cases c2 : c ≤ 0
   ·rw [if_neg c1, if_pos c2] at hk2
    rw [if_neg c1, spec_l13Span.j1, if_pos c2, w64 (by omega) (by omega), w64 (by omega) (by omega)]
    exact hk2
   ·rw [if_neg c1, if_neg c2] at hk2
    rw [if_neg c1, spec_l13Span.j1, if_neg c2, w64 (by omega) (by omega)]
    exact hk2
theorem specSpan_ev (hs_ : LL) (w : List Int) (hh : Smalls hs_) (hw : w.length ≤ 300) : Ev (fun k => spec_l13Span.f k hs_ w) ((loOf hs_ w : Int), (hiOf hs_ w : Int)) := specSpan_l0 hs_ w hh hw hs_.length 0 (by omega)
theorem rdT48 (l : List S48) (i : Nat) : rd_T48 l (i : Int) = l.getD i z48 := by unfold rd_T48; rw [Int.toNat_natCast]
def partOf (A B : LL) (w : List Int) : S48 := ⟨w, loOf A w, hiOf A w, loOf B w, hiOf B w⟩
def partsL (A B : LL) : List S48 := (wordsL (A ++ B)).map (partOf A B)
theorem partsL_len (A B : LL) : (partsL A B).length = (wordsL (A ++ B)).length := by unfold partsL; rw [List.length_map]
theorem partsL_at (A B : LL) (i : Nat) (h : i < (wordsL (A ++ B)).length) : (partsL A B).getD i z48 = partOf A B ((wordsL (A ++ B)).getD i []) := by
 rw [lget_lt _ i _ (by rw [partsL_len]; exact h), lget_lt _ i _ h]
 simp [partsL]
theorem smalls_app {A B : LL} (h : (A ++ B).length ≤ 1000) (hA : Smalls A) (hB : Smalls B) : Smalls (A ++ B) := ⟨h, fun x hx => by
 rcases List.mem_append.1 hx with hx | hx
 ·exact hA.2 x hx
 ·exact hB.2 x hx⟩
/-- Where the search for a word's place stands. -/
def Stand (ws : LL) (x : List Int) (j : Nat) (f : Bool) : Prop := (f = false ∧ ∀ i, i < j → Fv.cmpB (ws.getD i []) x < 0) ∨ (f = true ∧ insW x ws = ws)
theorem specParts_j2 (ws A B H : LL) (i j : Nat) (f : Bool) (hw : ws.length ≤ 2000) (hi : i < H.length) (hH : H.length ≤ 1000) (hj : j ≤ ws.length) (hs : Stand ws (H.getD i []) j f) (hx : f = false → j < ws.length → 0 < Fv.cmpB (ws.getD j []) (H.getD i [])) (r : List S48)
  (hr : Ev (fun k => spec_Parts.l0 k (insW (H.getD i []) ws) ((i + 1 : Nat) : Int) A B H) r) : Ev (fun k => spec_Parts.j2 k A B H ws (i : Int) (j : Int) f) r := by
 rcases hs with ⟨rfl, h1⟩ | ⟨rfl, h1⟩
 ·rw [insW_new _ ws j hj h1 (hx rfl)] at hr
  refine Ev.step (fun k => ?_) hr
  rw [spec_Parts.j2, if_neg (by decide), if_pos (by omega), if_pos (by omega), Option.bind_some, if_pos (by omega), if_pos (by omega), Option.bind_some, Int.toNat_natCast, if_pos (by simp; omega), Option.bind_some, Option.bind_some, Option.bind_some, if_pos (by simp; omega), Option.bind_some, if_pos (by simp; omega), w64 (by omega) (by omega), rdL2]
  simp
 ·rw [h1] at hr
  refine Ev.step (fun k => ?_) hr
  rw [spec_Parts.j2, if_pos rfl, w64 (by omega) (by omega)]
  rfl
theorem specParts_l1 (ws A B H : LL) (i : Nat) (hw : ws.length ≤ 2000) (hs : ∀ x ∈ ws, x.length ≤ 300) (hi : i < H.length) (hH : Smalls H) (r : List S48)
  (hr : Ev (fun k => spec_Parts.l0 k (insW (H.getD i []) ws) ((i + 1 : Nat) : Int) A B H) r) (n : Nat) : ∀ (j : Nat) (f : Bool), j + n = ws.length → Stand ws (H.getD i []) j f → Ev (fun k => spec_Parts.l1 k ws (i : Int) (j : Int) f A B H) r := by
 have hl := hH.1
 have hx := hH.at i
 induction n with
 | zero =>
  intro j f h hst
  refine Ev.step (fun k => ?_) (specParts_j2 ws A B H i j f hw hi hl (by omega) hst (fun _ hj => by omega) r hr)
  rw [spec_Parts.l1, if_neg (by omega)]
 | succ n ih =>
  intro j f h hst
  have hy : (ws.getD j []).length ≤ 300 := by rw [lget_lt ws j [] (by omega)]; exact hs _ (List.getElem_mem _)
  obtain ⟨K, hK⟩ := ev_out (specCmp_ev (ws.getD j []) (H.getD i []) (by omega) (by omega))
  by_cases c : Fv.cmpB (ws.getD j []) (H.getD i []) ≤ 0
  ·have hst' : Stand ws (H.getD i []) (j + 1) (f || (Fv.cmpB (ws.getD j []) (H.getD i []) == 0)) := by
    rcases hst with ⟨rfl, h1⟩ | ⟨rfl, h1⟩
    ·by_cases e : Fv.cmpB (ws.getD j []) (H.getD i []) = 0
     ·exact .inr ⟨by rw [e]; rfl, insW_old _ ws j (by omega) h1 e⟩
     ·refine .inl ⟨by rw [Bool.false_or, beq_eq_false_iff_ne]; exact e, fun i' hi' => ?_⟩
      by_cases e' : i' = j
      ·subst e'; omega
      ·exact h1 i' (by omega)
    ·exact .inr ⟨rfl, h1⟩
   obtain ⟨K2, hK2⟩ := ev_out (ih (j + 1) _ (by omega) hst')
   refine ev_mk (K + K2 + 1) fun k hk => ?_
   obtain ⟨k, rfl⟩ : ∃ m, k = m + 1 := ⟨k - 1, by omega⟩
   have h2 := hK2 k (by omega)
   rw [spec_Parts.l1, if_pos (by omega), if_pos (by omega), if_pos (by omega), if_pos (by omega), rdL2, rdL2, hK k (by omega), Option.bind_some, if_pos c, w64 (by omega) (by omega)]
   cases f with
   | true =>
    rw [if_pos rfl]
    exact h2
   | false =>
    rw [if_neg (by decide), Option.bind_some]
    exact h2
  ·obtain ⟨K2, hK2⟩ := ev_out (specParts_j2 ws A B H i j f hw hi hl (by omega) hst (fun _ _ => by omega) r hr)
   refine ev_mk (K + K2 + 1) fun k hk => ?_
   obtain ⟨k, rfl⟩ : ∃ m, k = m + 1 := ⟨k - 1, by omega⟩
   rw [spec_Parts.l1, if_pos (by omega), if_pos (by omega), if_pos (by omega), if_pos (by omega), rdL2, rdL2, hK k (by omega), Option.bind_some, if_neg c]
   exact hK2 k (by omega)
theorem specParts_l2 (A B : LL) (hA : Smalls A) (hB : Smalls B) (hAB : Smalls (A ++ B)) (n : Nat) : ∀ i : Nat, i + n = (wordsL (A ++ B)).length → Ev (fun k => spec_Parts.l2 k (wordsL (A ++ B)) ((partsL A B).take i) (i : Int) A B) (partsL A B) := by
 have hW := smalls_words hAB
 have hl := hW.1
 have hL := partsL_len A B
 induction n with
 | zero =>
  intro i h
  refine Ev.step (f := fun _ => some _) (fun k => ?_) (Ev.now _)
  rw [spec_Parts.l2, if_neg (by omega), List.take_of_length_le (by omega)]
 | succ n ih =>
  intro i h
  have hx := hW.at i
  obtain ⟨K, hK⟩ := ev_out (specSpan_ev A ((wordsL (A ++ B)).getD i []) hA hx)
  obtain ⟨K1, hK1⟩ := ev_out (specSpan_ev B ((wordsL (A ++ B)).getD i []) hB hx)
  obtain ⟨K2, hK2⟩ := ev_out (ih (i + 1) (by omega))
  refine ev_mk (K + K1 + K2 + 1) fun k hk => ?_
  obtain ⟨k, rfl⟩ : ∃ m, k = m + 1 := ⟨k - 1, by omega⟩
  have h2 := hK2 k (by omega)
  rw [take_succ_getD _ z48 i (by omega), partsL_at A B i (by omega)] at h2
  rw [spec_Parts.l2, if_pos (by omega), Option.bind_some, if_pos (by omega), rdL2, if_pos (by simp only [List.length_nil]; omega), hK k (by omega), Option.bind_some, hK1 k (by omega), Option.bind_some, if_pos (by rw [List.length_take]; omega), w64 (by omega) (by omega), List.nil_append]
  exact h2
theorem specParts_l0 (A B : LL) (hA : Smalls A) (hB : Smalls B) (hAB : Smalls (A ++ B)) (n : Nat) : ∀ i : Nat, i + n = (A ++ B).length → Ev (fun k => spec_Parts.l0 k (wordsL ((A ++ B).take i)) (i : Int) A B (A ++ B)) (partsL A B) := by
 have hl := hAB.1
 induction n with
 | zero =>
  intro i h
  refine Ev.step (fun k => ?_) (specParts_l2 A B hA hB hAB (wordsL (A ++ B)).length 0 (by omega))
  rw [spec_Parts.l0, if_neg (by omega), List.take_of_length_le (by omega)]
  rfl
 | succ n ih =>
  intro i h
  have h1 := ih (i + 1) (by omega)
  rw [take_succ_getD _ [] i (by omega), wordsL_snoc] at h1
  have hT : Smalls ((A ++ B).take i) := ⟨by rw [List.length_take]; omega, fun x hx => hAB.2 x (List.mem_of_mem_take hx)⟩
  have hW := smalls_words hT
  refine Ev.step (fun k => ?_) (specParts_l1 (wordsL ((A ++ B).take i)) A B (A ++ B) i (by have := hW.1; omega) hW.2 (by omega) hAB _ h1 _ 0 false (Nat.zero_add _) (.inl ⟨rfl, fun j hj => by omega⟩))
  rw [spec_Parts.l0, if_pos (by omega)]
  rfl
def fitB (a b : List Int) (d : Int) : Bool := decide (a.length ≤ 300 ∧ b.length ≤ 300 ∧ 0 ≤ d ∧ d ≤ 8)
theorem specFit_eq (a b : List Int) (d : Int) : spec_l13Fit.f a b d = some (fitB a b d) := by
 unfold spec_l13Fit.f spec_TextOk.f fitB
 by_cases ha : a.length ≤ 300
 ·by_cases hb : b.length ≤ 300
  ·rw [Option.bind_some, decide_eq_true (show (a.length : Int) ≤ 300 by omega), if_pos rfl, Option.bind_some, decide_eq_true (show (b.length : Int) ≤ 300 by omega), if_pos rfl]
   by_cases hd : d ≥ 0
   ·rw [if_pos hd]
    congr 1
    exact decide_eq_decide.2 ⟨fun h => ⟨ha, hb, hd, h⟩, fun h => h.2.2.2⟩
   ·rw [if_neg hd, decide_eq_false (fun h => hd h.2.2.1)]
  ·rw [Option.bind_some, decide_eq_true (show (a.length : Int) ≤ 300 by omega), if_pos rfl, Option.bind_some, decide_eq_false (show ¬ (b.length : Int) ≤ 300 by omega), if_neg (by decide), decide_eq_false (fun h => hb h.2.1)]
 ·rw [Option.bind_some, decide_eq_false (show ¬ (a.length : Int) ≤ 300 by omega), if_neg (by decide), decide_eq_false (fun h => ha h.1)]
theorem isShared_fit (a b : List Int) (d : Int) : impl_isShared.f a b d = some (fitB a b d) := by
 unfold impl_isShared.f impl_TextOk.f impl_within.f fitB
 by_cases ha : a.length ≤ 300
 ·by_cases hb : b.length ≤ 300
  ·rw [Option.bind_some, decide_eq_true (show (a.length : Int) ≤ 300 by omega), if_pos rfl, Option.bind_some, decide_eq_true (show (b.length : Int) ≤ 300 by omega), if_pos rfl]
   by_cases hd : 0 ≤ d
   ·rw [if_pos hd, Option.bind_some]
    congr 1
    exact decide_eq_decide.2 ⟨fun h => ⟨ha, hb, hd, h⟩, fun h => h.2.2.2⟩
   ·rw [if_neg hd, Option.bind_some, decide_eq_false (fun h => hd h.2.2.1)]
  ·rw [Option.bind_some, decide_eq_true (show (a.length : Int) ≤ 300 by omega), if_pos rfl, Option.bind_some, decide_eq_false (show ¬ (b.length : Int) ≤ 300 by omega), if_neg (by decide), decide_eq_false (fun h => hb h.2.1)]
 ·rw [Option.bind_some, decide_eq_false (show ¬ (a.length : Int) ≤ 300 by omega), if_neg (by decide), decide_eq_false (fun h => ha h.1)]
theorem smalls_two (a b : List Int) (ha : a.length ≤ 300) (hb : b.length ≤ 300) (d : Nat) : Smalls (headsOf a d ++ headsOf b d) :=
 smalls_app (by rw [List.length_append, headsOf_len, headsOf_len]; omega) (smalls_heads a ha d) (smalls_heads b hb d)
def partsAB (a b : List Int) (d : Int) : List S48 := partsL (headsOf a d.toNat) (headsOf b d.toNat)
theorem specParts_ev (a b : List Int) (d : Int) (ha : a.length ≤ 300) (hb : b.length ≤ 300) (h0 : 0 ≤ d) (h8 : d ≤ 8) : Ev (fun k => spec_Parts.f k a b d) (partsAB a b d) := by
 have hs := smalls_two a b ha hb d.toNat
 have hA := headsOf_len a d.toNat
 have hB := headsOf_len b d.toNat
 obtain ⟨K, hK⟩ := ev_out (specHeads_ev a ha d h0 h8)
 obtain ⟨K1, hK1⟩ := ev_out (specHeads_ev b hb d h0 h8)
 obtain ⟨K2, hK2⟩ := ev_out (specParts_l0 _ _ (smalls_heads a ha d.toNat) (smalls_heads b hb d.toNat) hs _ 0 (Nat.zero_add _))
 refine ev_mk (K + K1 + K2) fun k hk => ?_
 unfold spec_Parts.f
 rw [specFit_eq, Option.bind_some, fitB, decide_eq_true ⟨ha, hb, h0, h8⟩, if_pos rfl, hK k (by omega), Option.bind_some, hK1 k (by omega), Option.bind_some, Option.bind_some, if_pos (by simp only [List.length_nil]; omega), Option.bind_some, if_pos (by rw [List.nil_append]; omega), List.nil_append]
 exact hK2 k (by omega)
theorem specParts_no (a b : List Int) (d : Int) (h : fitB a b d = false) (k : Nat) : spec_Parts.f k a b d = some [] := by
 unfold spec_Parts.f
 rw [specFit_eq, Option.bind_some, h, if_neg (by decide)]
theorem rdStr (xs : List ByteArray) (i : Nat) : rdOf ByteArray.empty xs (i : Int) = xs.getD i ByteArray.empty := by unfold rdOf; rw [Int.toNat_natCast]
theorem num_at (xs : List ByteArray) (i : Nat) : bytesOf (xs.getD i ByteArray.empty) = (xs.map bytesOf).getD i [] := by
 by_cases h : i < xs.length
 ·rw [lget_lt xs i _ h, lget_lt _ i _ (by rw [List.length_map]; exact h), List.getElem_map]
 ·rw [List.getD_eq_getElem?_getD, List.getElem?_eq_none (by omega), List.getD_eq_getElem?_getD, List.getElem?_eq_none (by rw [List.length_map]; omega)]
  rfl
theorem isNaN_eq (s : ByteArray) : cmp_isNaN_string.f s = some false := by unfold cmp_isNaN_string.f; rw [bne_self_eq_false]
theorem isNaN_eq' (s : ByteArray) : slices_isNaN_string.f s = some false := by unfold slices_isNaN_string.f; rw [bne_self_eq_false]
theorem less_eq (s t : ByteArray) : cmp_Less_string.f s t = some (decide (Fv.cmpB (bytesOf s) (bytesOf t) < 0)) := by
 unfold cmp_Less_string.f
 rw [isNaN_eq, Option.bind_some, if_neg (by decide), Ws.less_cmp]
theorem search_l0 (a : List ByteArray) (w : ByteArray) (ha : a.length ≤ 1000) (hs : (a.map bytesOf).Pairwise fun x y => Fv.cmpB x y ≤ 0) (m : Nat) : ∀ lo hi_ : Nat, hi_ - lo ≤ m → lo ≤ loOf (a.map bytesOf) (bytesOf w) → loOf (a.map bytesOf) (bytesOf w) ≤ hi_ → hi_ ≤ a.length →
  ∃ f, Ev (fun k => slices_BinarySearch_string_string.l0 k a w (a.length : Int) (lo : Int) (hi_ : Int)) ((loOf (a.map bytesOf) (bytesOf w) : Int), f) := by
 have hlen : (a.map bytesOf).length = a.length := List.length_map _
 induction m with
 | zero =>
  intro lo hi_ h1 h2 h3 h4
  obtain rfl : hi_ = lo := by omega
  have e : loOf (a.map bytesOf) (bytesOf w) = hi_ := by omega
  rw [e]
  by_cases c : (hi_ : Int) < (a.length : Int)
  ·by_cases c2 : (rdOf ByteArray.empty a (hi_ : Int)).toList = w.toList
   ·refine ⟨true, Ev.step (f := fun _ => some _) (fun k => ?_) (Ev.now _)⟩
    rw [slices_BinarySearch_string_string.l0, if_neg (by omega), if_pos c, if_pos (by omega), if_pos c, if_pos c2]
   ·refine ⟨false, Ev.step (f := fun _ => some _) (fun k => ?_) (Ev.now _)⟩
    rw [slices_BinarySearch_string_string.l0, if_neg (by omega), if_pos c, if_pos (by omega), if_pos c, if_neg c2, isNaN_eq', Option.bind_some, if_neg (by decide)]
  ·refine ⟨false, Ev.step (f := fun _ => some _) (fun k => ?_) (Ev.now _)⟩
   rw [slices_BinarySearch_string_string.l0, if_neg (by omega), if_neg c]
 | succ m ih =>
  intro lo hi_ h1 h2 h3 h4
  by_cases e : lo < hi_
  ·have hmid : wrap64 ((IntKind.u64.wrap (wrap64 ((lo : Int) + (hi_ : Int)))) / 2) = (((lo + hi_) / 2 : Nat) : Int) := by
    rw [w64 (x := (lo : Int) + (hi_ : Int)) (by omega) (by omega), show IntKind.u64.wrap ((lo : Int) + (hi_ : Int)) = (lo : Int) + (hi_ : Int) from by simp only [IntKind.wrap, IntKind.bits, IntKind.signed]; simp; omega, w64 (by omega) (by omega)]
    omega
   obtain ⟨mid, hm⟩ : ∃ mid, mid = (lo + hi_) / 2 := ⟨_, rfl⟩
   rw [← hm] at hmid
   have hml : lo ≤ mid := by omega
   have hmh : mid < hi_ := by omega
   have hat := lo_at hs (bytesOf w) mid (by omega)
   rw [← num_at] at hat
   by_cases c : mid < loOf (a.map bytesOf) (bytesOf w)
   ·obtain ⟨f, hf⟩ := ih (mid + 1) hi_ (by omega) (by omega) h3 h4
    refine ⟨f, Ev.step (fun k => ?_) hf⟩
    rw [slices_BinarySearch_string_string.l0, if_pos (by omega), hmid, if_pos (by omega), if_pos (by omega), less_eq, Option.bind_some, rdStr, decide_eq_true (hat.2 c), if_pos rfl, w64 (by omega) (by omega)]
    rfl
   ·obtain ⟨f, hf⟩ := ih lo mid (by omega) h2 (by omega) (by omega)
    refine ⟨f, Ev.step (fun k => ?_) hf⟩
    rw [slices_BinarySearch_string_string.l0, if_pos (by omega), hmid, if_pos (by omega), if_pos (by omega), less_eq, Option.bind_some, rdStr, decide_eq_false (fun h => c (hat.1 h)), if_neg (by decide)]
  ·exact ih lo hi_ (by omega) h2 h3 h4
theorem headRows_l0 (a : List ByteArray) (w : ByteArray) (u : Int) (ha : a.length ≤ 1000) (hs : (a.map bytesOf).Pairwise fun x y => Fv.cmpB x y ≤ 0) (n : Nat) : ∀ i : Nat, i + n = hiOf (a.map bytesOf) (bytesOf w) → loOf (a.map bytesOf) (bytesOf w) ≤ i → Ev (fun k => impl_headRows.l0 k a w u (i : Int)) (u, (hiOf (a.map bytesOf) (bytesOf w) : Int)) := by
 have hlen : (a.map bytesOf).length = a.length := List.length_map _
 have hle := hi_le (a.map bytesOf) (bytesOf w)
 induction n with
 | zero =>
  intro i h h1
  have e : hiOf (a.map bytesOf) (bytesOf w) = i := by omega
  refine Ev.step (f := fun _ => some _) (fun k => ?_) (Ev.now _)
  rw [e]
  by_cases c : (i : Int) < (a.length : Int)
  ·have hat := hi_at hs (bytesOf w) i (by omega)
   rw [← num_at] at hat
   rw [impl_headRows.l0, if_pos c, if_pos (by omega), rdStr, if_neg]
   intro hq
   rw [Ws.toList_iff] at hq
   have := hat.1 (by rw [hq, Fv.cmpB_self]; decide)
   omega
  ·rw [impl_headRows.l0, if_neg c]
 | succ n ih =>
  intro i h h1
  have hat := hi_at hs (bytesOf w) i (by omega)
  have hat' := lo_at hs (bytesOf w) i (by omega)
  rw [← num_at] at hat hat'
  refine Ev.step (fun k => ?_) (ih (i + 1) (by omega) (by omega))
  rw [impl_headRows.l0, if_pos (by omega), if_pos (by omega), rdStr, if_pos, w64 (by omega) (by omega)]
  ·rfl
  ·rw [Ws.toList_iff]
   have q1 := hat.2 (by omega)
   have q2 : ¬ Fv.cmpB (bytesOf (a.getD i ByteArray.empty)) (bytesOf w) < 0 := fun h => by have := hat'.1 h; omega
   exact Fv.cmpB_zero _ _ (by omega)
theorem headRows_ev (a : List ByteArray) (w : ByteArray) (ha : a.length ≤ 1000) (hs : (a.map bytesOf).Pairwise fun x y => Fv.cmpB x y ≤ 0) : Ev (fun k => impl_headRows.f k a w) ((loOf (a.map bytesOf) (bytesOf w) : Int), (hiOf (a.map bytesOf) (bytesOf w) : Int)) := by
 have hlen : (a.map bytesOf).length = a.length := List.length_map _
 have hle := hi_le (a.map bytesOf) (bytesOf w)
 have hll := lo_le (a.map bytesOf) (bytesOf w)
 obtain ⟨f, hf⟩ := search_l0 a w ha hs a.length 0 a.length (by omega) (by omega) (by omega) (by omega)
 obtain ⟨K, hK⟩ := ev_out hf
 obtain ⟨K2, hK2⟩ := ev_out (headRows_l0 a w (loOf (a.map bytesOf) (bytesOf w) : Int) ha hs (hiOf (a.map bytesOf) (bytesOf w) - loOf (a.map bytesOf) (bytesOf w)) (loOf (a.map bytesOf) (bytesOf w)) (by omega) (by omega))
 refine ev_mk (K + K2) fun k hk => ?_
 unfold impl_headRows.f slices_BinarySearch_string_string.f
 have h1 := hK k (by omega)
 simp only [Int.natCast_zero] at h1
 rw [h1, Option.bind_some]
 exact hK2 k (by omega)
theorem concatS_ev (a b : List ByteArray) (ha : a.length ≤ 1000) (hb : b.length ≤ 1000) : Ev (fun k => slices_Concat_string_string.f k [a, b]) (a ++ b) := by
 have r0 : rd_L5 [a, b] 0 = a := rfl
 have r1 : rd_L5 [a, b] 1 = b := rfl
 have hl : (([a, b] : List (List ByteArray)).length : Int) = 2 := rfl
 have h1 : Ev (fun k => slices_Concat_string_string.l1 k [] [a, b] 2 0) (a ++ b) := by
  refine ev_mk 4 fun k hk => ?_
  obtain ⟨k, rfl⟩ : ∃ m, k = m + 3 := ⟨k - 3, by omega⟩
  rw [slices_Concat_string_string.l1, if_pos (by decide), if_pos (by decide), if_pos (by rw [hl]; decide), r0, if_pos (by simp only [List.length_nil]; omega), List.nil_append, show wrap64 (0 + 1) = 1 from w64 (x := 1) (by omega) (by omega),
   slices_Concat_string_string.l1, if_pos (by decide), if_pos (by decide), if_pos (by rw [hl]; decide), r1, if_pos (by omega), show wrap64 (1 + 1) = 2 from w64 (x := 2) (by omega) (by omega), slices_Concat_string_string.l1, if_neg (by decide)]
 obtain ⟨K1, k1⟩ := ev_out h1
 refine ev_mk (K1 + 4) fun k hk => ?_
 unfold slices_Concat_string_string.f
 obtain ⟨k, rfl⟩ : ∃ m, k = m + 3 := ⟨k - 3, by omega⟩
 have w1 : wrap64 (0 + (a.length : Int)) = (a.length : Int) := by rw [Int.zero_add]; exact w64 (by omega) (by omega)
 have w2 : wrap64 ((a.length : Int) + (b.length : Int)) = (a.length : Int) + (b.length : Int) := w64 (by omega) (by omega)
 rw [hl, slices_Concat_string_string.l0, if_pos (by decide), if_pos (by decide), if_pos (by rw [hl]; decide), r0, w1, if_neg (by omega), show wrap64 (0 + 1) = 1 from w64 (x := 1) (by omega) (by omega),
  slices_Concat_string_string.l0, if_pos (by decide), if_pos (by decide), if_pos (by rw [hl]; decide), r1, w2, if_neg (by omega), show wrap64 (1 + 1) = 2 from w64 (x := 2) (by omega) (by omega), slices_Concat_string_string.l0, if_neg (by decide)]
 unfold slices_Grow_nil82.f
 rw [if_pos (by omega), Option.bind_some, hl]
 exact k1 k (by omega)
theorem implParts_l0 (a b ws : List ByteArray) (A B : LL) (hA : a.map bytesOf = A) (hB : b.map bytesOf = B) (hws : ws.map bytesOf = wordsL (A ++ B)) (ha : a.length ≤ 1000) (hb : b.length ≤ 1000) (hl : ws.length ≤ 1000) (sA : A.Pairwise fun x y => Fv.cmpB x y ≤ 0) (sB : B.Pairwise fun x y => Fv.cmpB x y ≤ 0) (n : Nat) :
  ∀ i : Nat, i + n = ws.length → Ev (fun k => impl_parts.l0 k a b ws (i : Int) ((partsL A B).take i)) (partsL A B) := by
 have hW : (wordsL (A ++ B)).length = ws.length := by rw [← hws, List.length_map]
 have hL := partsL_len A B
 induction n with
 | zero =>
  intro i h
  refine Ev.step (f := fun _ => some _) (fun k => ?_) (Ev.now _)
  rw [impl_parts.l0, if_neg (by omega), List.take_of_length_le (by omega)]
 | succ n ih =>
  intro i h
  obtain ⟨K, hK⟩ := ev_out (headRows_ev a (ws.getD i ByteArray.empty) ha (by rw [hA]; exact sA))
  obtain ⟨K1, hK1⟩ := ev_out (headRows_ev b (ws.getD i ByteArray.empty) hb (by rw [hB]; exact sB))
  obtain ⟨K2, hK2⟩ := ev_out (ih (i + 1) (by omega))
  refine ev_mk (K + K1 + K2 + 1) fun k hk => ?_
  obtain ⟨k, rfl⟩ : ∃ m, k = m + 1 := ⟨k - 1, by omega⟩
  have h2 := hK2 k (by omega)
  rw [take_succ_getD _ z48 i (by omega), partsL_at A B i (by omega)] at h2
  have e := num_at ws i
  rw [hws] at e
  have h3 := hK k (by omega)
  have h4 := hK1 k (by omega)
  rw [hA, e] at h3
  rw [hB, e] at h4
  rw [impl_parts.l0, if_pos (by omega), if_pos (by omega), rdStr, h3, Option.bind_some, h4, Option.bind_some, if_pos (by rw [List.length_take]; omega), w64 (by omega) (by omega), e]
  exact h2
theorem implParts_ev (a b : List Int) (d : Int) (ha : a.length ≤ 300) (hb : b.length ≤ 300) (ba : bytesOk a) (bb : bytesOk b) (h0 : 0 ≤ d) (h8 : d ≤ 8) : Ev (fun k => impl_parts.f k a b d) (partsAB a b d) := by
 have lA := headsS_len a d
 have lB := headsS_len b d
 have nA := headsS_num a ba d
 have nB := headsS_num b bb d
 have hw : (Srt.wordsOf (headsS a d ++ headsS b d)).map bytesOf = wordsL (headsOf a d.toNat ++ headsOf b d.toNat) := by rw [Ws.words_num, List.map_append, nA, nB]
 have hwl := Ws.words_len (headsS a d ++ headsS b d)
 rw [List.length_append] at hwl
 obtain ⟨K, hK⟩ := ev_out (implHeads_ev a ha ba d h0 h8)
 obtain ⟨K1, hK1⟩ := ev_out (implHeads_ev b hb bb d h0 h8)
 obtain ⟨K2, hK2⟩ := ev_out (concatS_ev (headsS a d) (headsS b d) (by omega) (by omega))
 obtain ⟨K3, hK3⟩ := ev_out (implParts_l0 (headsS a d) (headsS b d) _ _ _ nA nB hw (by omega) (by omega) (by omega) (headsOf_sorted _ _) (headsOf_sorted _ _) _ 0 (Nat.zero_add _))
 refine ev_mk (K + K1 + K2 + K3) fun k hk => ?_
 unfold impl_parts.f
 rw [hK k (by omega), Option.bind_some, hK1 k (by omega), Option.bind_some, hK2 k (by omega), Option.bind_some, if_pos]
 ·exact hK3 k (by omega)
 ·refine ⟨by rw [List.length_append]; omega, fun x hx => ?_⟩
  rcases List.mem_append.1 hx with hx | hx
  ·have := headsS_size a d x hx; omega
  ·have := headsS_size b d x hx; omega
def marksC (c : Int) (n : Nat) : List Int := (List.range n).map fun (j : Nat) => (c + (j : Int)) % 256
theorem marksC_len (c : Int) (n : Nat) : (marksC c n).length = n := by simp [marksC]
theorem marksC_get (c : Int) (n j : Nat) (h : j < n) : (marksC c n).getD j 0 = (c + (j : Int)) % 256 := by
 rw [lget_lt _ j 0 (by rw [marksC_len]; exact h)]
 simp [marksC]
theorem markC_l0 (c : Int) (h0 : 0 ≤ c) (h1 : c ≤ 1000000000) (l : List Int) (hl : l.length ≤ 4000000) (d : Nat) : ∀ i : Nat, i + d = l.length → Ev (fun k => laws_markByteS.l0 k ((marksC c l.length).take i ++ l.drop i) (c + (i : Int)) (i : Int)) (c + (l.length : Int), marksC c l.length) := by
 induction d with
 | zero =>
  intro i h
  obtain rfl : i = l.length := by omega
  refine Ev.step (f := fun _ => some _) (fun k => ?_) (Ev.now _)
  rw [laws_markByteS.l0, if_neg (by rw [over_len _ _ _ (marksC_len _ _) (by omega)]; omega), List.drop_length, List.append_nil, List.take_of_length_le (by rw [marksC_len]; omega)]
 | succ d ih =>
  intro i h
  refine Ev.step (f := fun k => laws_markByteS.l0 k ((marksC c l.length).take (i + 1) ++ l.drop (i + 1)) (c + ((i + 1 : Nat) : Int)) ((i + 1 : Nat) : Int)) (fun k => ?_) (ih (i + 1) (by omega))
  have e : c + (i : Int) + 1 = c + ((i + 1 : Nat) : Int) := by omega
  rw [laws_markByteS.l0, if_pos (by rw [over_len _ _ _ (marksC_len _ _) (by omega)]; omega), if_pos (by omega), w64 (by omega) (by omega), w64 (by omega) (by omega), Int.toNat_natCast, over_set (marksC c l.length) l 0 _ i (marksC_len _ _) (by omega) (marksC_get _ _ _ (by omega)).symm, e]
  rfl
theorem markC_ev (c : Int) (h0 : 0 ≤ c) (h1 : c ≤ 1000000000) (l : List Int) (hl : l.length ≤ 4000000) : Ev (fun k => laws_markByteS.f k l c) (c + (l.length : Int), marksC c l.length) :=
 Ev.congr (f := fun k => laws_markByteS.l0 k ((marksC c l.length).take 0 ++ l.drop 0) (c + ((0 : Nat) : Int)) ((0 : Nat) : Int)) (fun _ => by rw [laws_markByteS.f, List.take_zero, List.nil_append, List.drop_zero]; simp) (markC_l0 c h0 h1 l hl l.length 0 (by omega))
theorem heldC_l0 (c : Int) (h0 : 0 ≤ c) (h1 : c ≤ 1000000000) (n : Nat) (hn : n ≤ 4000000) (d : Nat) : ∀ i : Nat, i + d = n → Ev (fun k => laws_heldByteS.l0 k (marksC c n) (c + (i : Int)) (i : Int)) (c + (n : Int)) := by
 have hl := marksC_len c n
 induction d with
 | zero =>
  intro i h
  obtain rfl : i = n := by omega
  refine Ev.step (f := fun _ => some _) (fun k => ?_) (Ev.now _)
  rw [laws_heldByteS.l0, if_neg (by omega)]
 | succ d ih =>
  intro i h
  refine Ev.step (f := fun k => laws_heldByteS.l0 k (marksC c n) (c + ((i + 1 : Nat) : Int)) ((i + 1 : Nat) : Int)) (fun k => ?_) (ih (i + 1) (by omega))
  have e : c + (i : Int) + 1 = c + ((i + 1 : Nat) : Int) := by omega
  rw [laws_heldByteS.l0, if_pos (by omega), if_pos (by omega), rd_nat, marksC_get _ _ _ (by omega), if_pos rfl, w64 (by omega) (by omega), w64 (by omega) (by omega), e]
  rfl
theorem heldC_ev (c : Int) (h0 : 0 ≤ c) (h1 : c ≤ 1000000000) (n : Nat) (hn : n ≤ 4000000) : Ev (fun k => laws_heldByteS.f k (marksC c n) c) (c + (n : Int)) :=
 Ev.congr (f := fun k => laws_heldByteS.l0 k (marksC c n) (c + ((0 : Nat) : Int)) ((0 : Nat) : Int)) (fun _ => by rw [laws_heldByteS.f]; simp) (heldC_l0 c h0 h1 n hn n 0 (by omega))
def endP : Int → List S48 → Int
 | c, [] => c
 | c, p :: ps => endP (c + (p.f0.length : Int) + 4) ps
def markedP : Int → List S48 → List S48
 | _, [] => []
 | c, p :: ps => ⟨marksC c p.f0.length, c + (p.f0.length : Int), c + (p.f0.length : Int) + 1, c + (p.f0.length : Int) + 2, c + (p.f0.length : Int) + 3⟩ :: markedP (c + (p.f0.length : Int) + 4) ps
theorem endP_le : ∀ (ps : List S48) (c : Int), c ≤ endP c ps
 | [], c => Int.le_refl c
 | p :: ps, c => by
  have := endP_le ps (c + (p.f0.length : Int) + 4)
  show c ≤ endP (c + (p.f0.length : Int) + 4) ps
  omega
theorem mid_get (D ps : List S48) (p : S48) : (D ++ p :: ps).getD D.length z48 = p := by
 rw [List.getD_eq_getElem?_getD, List.getElem?_append_right (Nat.le_refl _), Nat.sub_self]
 rfl
theorem mid_set (D ps : List S48) (p q : S48) : (D ++ p :: ps).set D.length q = (D ++ [q]) ++ ps := by
 rw [List.set_append_right _ _ (Nat.le_refl _), Nat.sub_self]
 simp
theorem markP_l0 (ps : List S48) : ∀ (D : List S48) (c : Int), 0 ≤ c → c + 400 * (ps.length : Int) ≤ 1000000 → (D.length : Int) + (ps.length : Int) ≤ 1000 → (∀ p ∈ ps, p.f0.length ≤ 300) →
  Ev (fun k => laws_markPartS.l0 k (D ++ ps) c (D.length : Int)) (endP c ps, D ++ markedP c ps) := by
 induction ps with
 | nil =>
  intro D c _ _ _ _
  refine Ev.step (f := fun _ => some _) (fun k => ?_) (Ev.now _)
  rw [laws_markPartS.l0, List.append_nil, if_neg (by omega)]
  show _ = some (c, D ++ [])
  rw [List.append_nil]
 | cons p ps ih =>
  intro D c h0 h1 h2 h3
  have hp := h3 p List.mem_cons_self
  rw [List.length_cons] at h1 h2
  have h4 := ih (D ++ [⟨marksC c p.f0.length, c + (p.f0.length : Int), c + (p.f0.length : Int) + 1, c + (p.f0.length : Int) + 2, c + (p.f0.length : Int) + 3⟩]) (c + (p.f0.length : Int) + 4) (by omega) (by omega) (by rw [List.length_append, List.length_cons, List.length_nil]; omega) (fun q hq => h3 q (List.mem_cons_of_mem _ hq))
  obtain ⟨K1, hK1⟩ := ev_out h4
  obtain ⟨K2, hK2⟩ := ev_out (markC_ev c h0 (by omega) p.f0 (by omega))
  refine ev_mk (K1 + K2 + 1) fun k hk => ?_
  obtain ⟨k, rfl⟩ : ∃ m, k = m + 1 := ⟨k - 1, by omega⟩
  have hq := hK1 k (by omega)
  rw [List.append_assoc] at hq
  rw [laws_markPartS.l0, if_pos (by rw [List.length_append, List.length_cons]; omega), if_pos (by omega), Int.toNat_natCast, mid_get, hK2 k (by omega), Option.bind_some, mid_set]
  dsimp only
  rw [w64 (x := c + (p.f0.length : Int) + 1) (by omega) (by omega), w64 (x := c + (p.f0.length : Int) + 1 + 1) (by omega) (by omega), w64 (x := c + (p.f0.length : Int) + 1 + 1 + 1) (by omega) (by omega), w64 (x := c + (p.f0.length : Int) + 1 + 1 + 1 + 1) (by omega) (by omega), w64 (x := (D.length : Int) + 1) (by omega) (by omega)]
  have e2 : c + (p.f0.length : Int) + 1 + 1 = c + (p.f0.length : Int) + 2 := by omega
  have e3 : c + (p.f0.length : Int) + 2 + 1 = c + (p.f0.length : Int) + 3 := by omega
  have e4 : c + (p.f0.length : Int) + 3 + 1 = c + (p.f0.length : Int) + 4 := by omega
  have e5 : ((D ++ [(⟨marksC c p.f0.length, c + (p.f0.length : Int), c + (p.f0.length : Int) + 1, c + (p.f0.length : Int) + 2, c + (p.f0.length : Int) + 3⟩ : S48)]).length : Int) = (D.length : Int) + 1 := by rw [List.length_append]; rfl
  rw [e2, e3, e4]
  rw [e5] at hq
  rw [List.append_assoc, hq, List.append_assoc]
  rfl
theorem heldP_l0 (ps : List S48) : ∀ (D : List S48) (c : Int), 0 ≤ c → c + 400 * (ps.length : Int) ≤ 1000000 → (D.length : Int) + (ps.length : Int) ≤ 1000 → (∀ p ∈ ps, p.f0.length ≤ 300) →
  Ev (fun k => laws_heldPartS.l0 k (D ++ markedP c ps) c (D.length : Int)) (endP c ps) := by
 induction ps with
 | nil =>
  intro D c _ _ _ _
  refine Ev.step (f := fun _ => some _) (fun k => ?_) (Ev.now _)
  show laws_heldPartS.l0 (k + 1) (D ++ []) c (D.length : Int) = _
  rw [laws_heldPartS.l0, List.append_nil, if_neg (by omega)]
  rfl
 | cons p ps ih =>
  intro D c h0 h1 h2 h3
  have hp := h3 p List.mem_cons_self
  rw [List.length_cons] at h1 h2
  have h4 := ih (D ++ [⟨marksC c p.f0.length, c + (p.f0.length : Int), c + (p.f0.length : Int) + 1, c + (p.f0.length : Int) + 2, c + (p.f0.length : Int) + 3⟩]) (c + (p.f0.length : Int) + 4) (by omega) (by omega) (by rw [List.length_append, List.length_cons, List.length_nil]; omega) (fun q hq => h3 q (List.mem_cons_of_mem _ hq))
  obtain ⟨K1, hK1⟩ := ev_out h4
  obtain ⟨K2, hK2⟩ := ev_out (heldC_ev c h0 (by omega) p.f0.length (by omega))
  refine ev_mk (K1 + K2 + 1) fun k hk => ?_
  obtain ⟨k, rfl⟩ : ∃ m, k = m + 1 := ⟨k - 1, by omega⟩
  have hq := hK1 k (by omega)
  rw [List.append_assoc] at hq
  show laws_heldPartS.l0 (k + 1) (D ++ ⟨marksC c p.f0.length, c + (p.f0.length : Int), c + (p.f0.length : Int) + 1, c + (p.f0.length : Int) + 2, c + (p.f0.length : Int) + 3⟩ :: markedP (c + (p.f0.length : Int) + 4) ps) c (D.length : Int) = some (endP (c + (p.f0.length : Int) + 4) ps)
  rw [laws_heldPartS.l0, if_pos (by rw [List.length_append, List.length_cons]; omega), if_pos (by omega), rdT48, mid_get]
  dsimp only
  have e2 : c + (p.f0.length : Int) + 1 + 1 = c + (p.f0.length : Int) + 2 := by omega
  have e3 : c + (p.f0.length : Int) + 2 + 1 = c + (p.f0.length : Int) + 3 := by omega
  have e4 : c + (p.f0.length : Int) + 3 + 1 = c + (p.f0.length : Int) + 4 := by omega
  have e5 : ((D ++ [(⟨marksC c p.f0.length, c + (p.f0.length : Int), c + (p.f0.length : Int) + 1, c + (p.f0.length : Int) + 2, c + (p.f0.length : Int) + 3⟩ : S48)]).length : Int) = (D.length : Int) + 1 := by rw [List.length_append]; rfl
  rw [hK2 k (by omega), Option.bind_some, if_neg (by omega), if_pos rfl, w64 (x := c + (p.f0.length : Int) + 1) (by omega) (by omega), if_pos rfl, w64 (x := c + (p.f0.length : Int) + 1 + 1) (by omega) (by omega), e2, if_pos rfl, w64 (x := c + (p.f0.length : Int) + 2 + 1) (by omega) (by omega), e3, if_pos rfl, w64 (x := c + (p.f0.length : Int) + 3 + 1) (by omega) (by omega), e4, w64 (x := (D.length : Int) + 1) (by omega) (by omega)]
  rw [e5] at hq
  exact hq
theorem eqP_l0 (P : List S48) (hP : P.length ≤ 1000) (hw : ∀ p ∈ P, p.f0.length ≤ 300) (d : Nat) : ∀ i : Nat, i + d = P.length → Ev (fun k => laws_eqPartS.l0 k P P (i : Int)) true := by
 induction d with
 | zero =>
  intro i h
  refine Ev.step (f := fun _ => some _) (fun k => ?_) (Ev.now _)
  rw [laws_eqPartS.l0, if_neg (by omega)]
 | succ d ih =>
  intro i h
  obtain ⟨K1, hK1⟩ := ev_out (ih (i + 1) (by omega))
  have hp : (P.getD i z48).f0.length ≤ 300 := by
   rw [lget_lt P i z48 (by omega)]
   exact hw _ (List.getElem_mem _)
  obtain ⟨K2, hK2⟩ := ev_out (eqByteS_ev (P.getD i z48).f0 (by omega))
  refine ev_mk (K1 + K2 + 1) fun k hk => ?_
  obtain ⟨k, rfl⟩ : ∃ m, k = m + 1 := ⟨k - 1, by omega⟩
  rw [laws_eqPartS.l0, if_pos (by omega), if_pos (by omega), if_pos (by omega), rdT48, laws_eqPart.f, hK2 k (by omega), Option.bind_some, if_pos rfl, if_pos rfl, if_pos rfl, if_pos rfl, if_pos rfl, Option.bind_some, if_pos rfl, w64 (by omega) (by omega)]
  exact hK1 k (by omega)
theorem eqP_ev (P : List S48) (hP : P.length ≤ 1000) (hw : ∀ p ∈ P, p.f0.length ≤ 300) : Ev (fun k => laws_eqPartS.f k P P) true :=
 Ev.congr (f := fun k => laws_eqPartS.l0 k P P ((0 : Nat) : Int)) (fun _ => by rw [laws_eqPartS.f, if_pos rfl]; rfl) (eqP_l0 P hP hw P.length 0 (by omega))
theorem parts_words (a b : List Int) (d : Int) (ha : a.length ≤ 300) (hb : b.length ≤ 300) : (partsAB a b d).length ≤ 1000 ∧ ∀ p ∈ partsAB a b d, p.f0.length ≤ 300 := by
 have hS := smalls_words (smalls_two a b ha hb d.toNat)
 refine ⟨by unfold partsAB; rw [partsL_len]; exact hS.1, fun p hp => ?_⟩
 obtain ⟨w, hw, rfl⟩ := List.mem_map.1 hp
 exact hS.2 w hw
theorem okb_wf {l : List Int} (h : ∀ x ∈ l, (Lit.int .u8 x).wf = true) : bytesOk l := fun x hx => by
 have := h x hx
 simp [Lit.wf, IntKind.min, IntKind.max, IntKind.signed, IntKind.bits] at this
 omega
theorem FnExactParts : laws_FnExactParts.Pure := by
 intro l0 l1 a2 _ _ o0 _ _ o1 _
 by_cases g0 : (l0.length : Int) > 1048576
 ·exact ⟨0, by unfold laws_FnExactParts.f; rw [if_pos g0]⟩
 by_cases g1 : (l1.length : Int) > 1048576
 ·exact ⟨0, by unfold laws_FnExactParts.f; rw [if_neg g0, if_pos g1]⟩
 obtain ⟨P, hP1, hP2, hP3, hP4⟩ : ∃ P, Ev (fun k => spec_Parts.f k l0 l1 a2) P ∧ Ev (fun k => impl_Parts.f k l0 l1 a2) P ∧ P.length ≤ 1000 ∧ ∀ p ∈ P, p.f0.length ≤ 300 := by
  by_cases h : fitB l0 l1 a2 = true
  ·have h' := of_decide_eq_true h
   obtain ⟨q1, q2⟩ := parts_words l0 l1 a2 h'.1 h'.2.1
   obtain ⟨K, hK⟩ := ev_out (implParts_ev l0 l1 a2 h'.1 h'.2.1 (okb_wf o0) (okb_wf o1) h'.2.2.1 h'.2.2.2)
   refine ⟨partsAB l0 l1 a2, specParts_ev l0 l1 a2 h'.1 h'.2.1 h'.2.2.1 h'.2.2.2, ev_mk K fun k hk => ?_, q1, q2⟩
   unfold impl_Parts.f
   rw [isShared_fit, Option.bind_some, if_pos h, hK k hk, Option.bind_some]
  ·refine ⟨[], ev_mk 0 fun k _ => specParts_no l0 l1 a2 (by simpa using h) k, ev_mk 0 fun k _ => ?_, by simp, fun p hp => by cases hp⟩
   unfold impl_Parts.f
   rw [isShared_fit, Option.bind_some, if_neg h]
 obtain ⟨K0, h0⟩ := ev_out (toByteS_ev l0 (by omega))
 obtain ⟨K1, h1⟩ := ev_out (toByteS_ev l1 (by omega))
 obtain ⟨K2, h2⟩ := ev_out hP1
 obtain ⟨K3, h3⟩ := ev_out hP2
 obtain ⟨K4, h4⟩ := ev_out (eqP_ev P hP3 hP4)
 obtain ⟨K5, h5⟩ := ev_out (eqByteS_ev l0 (by omega))
 obtain ⟨K6, h6⟩ := ev_out (eqByteS_ev l1 (by omega))
 obtain ⟨K7, h7⟩ := ev_out (markC_ev 1 (by omega) (by omega) l0 (by omega))
 obtain ⟨K8, h8⟩ := ev_out (markC_ev (1 + (l0.length : Int)) (by omega) (by omega) l1 (by omega))
 obtain ⟨K9, h9⟩ := ev_out (markP_l0 P [] 1 (by omega) (by omega) (by simp only [List.length_nil]; omega) hP4)
 obtain ⟨K10, h10⟩ := ev_out (heldP_l0 P [] 1 (by omega) (by omega) (by simp only [List.length_nil]; omega) hP4)
 have he := endP_le P 1
 have h9' : ∀ k, K9 ≤ k → laws_markPartS.f k P 1 = some (endP 1 P, markedP 1 P) := fun k hk => h9 k hk
 have h10' : ∀ k, K10 ≤ k → laws_heldPartS.f k (markedP 1 P) 1 = some (endP 1 P) := fun k hk => h10 k hk
 refine ⟨K0 + K1 + K2 + K3 + K4 + K5 + K6 + K7 + K8 + K9 + K10, ?_⟩
 unfold laws_FnExactParts.f
 rw [if_neg g0, if_neg g1, h0 _ (by omega), Option.bind_some, h1 _ (by omega), Option.bind_some, h2 _ (by omega), Option.bind_some, h3 _ (by omega), Option.bind_some, h4 _ (by omega), Option.bind_some, h5 _ (by omega), Option.bind_some, h6 _ (by omega), Option.bind_some, h7 _ (by omega), Option.bind_some]
 dsimp only
 rw [h8 _ (by omega), Option.bind_some, h9' _ (by omega), Option.bind_some]
 dsimp only
 rw [h10' _ (by omega), Option.bind_some, if_pos ⟨rfl, rfl, rfl, by omega, by omega, rfl⟩]

end Go.Proofs.Ytadhngelhognaaa.Pure
