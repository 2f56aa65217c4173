/- The program's ShareOk returns what the reference's returns, for all arguments (arguments that hold more than 2^20 values are let pass by the statement itself). -/
import Derived.Test.YtadhngelhognaaaQFnExactShareOkx6
import Derived.Test.YtadhngelhognaaaBase
import Derived.Test.YtadhngelhognaaaSx
namespace Go.Proofs.Ytadhngelhognaaa.Pure
open Go.RowKit Go.Proofs.Ytadhngelhognaaa.QFnExactShareOk Go.Proofs.YtadhngelhognaaaW.PrintWords Go.Proofs.YtadhngelhognaaaW.PrintLast Go.Proofs.YtadhngelhognaaaW.PrintMore
open Go.Proofs.Ytadhngelhognaaa Go.Proofs.Ytadhngelhognaaa.Base Go.Proofs.Ytadhngelhognaaa.Sx
set_option linter.unusedVariables false
set_option linter.unusedSimpArgs false

theorem specCmp_l0 (a b : List Int) (ha : a.length ≤ 2000000) (hb : b.length ≤ 2000000) (d : Nat) : ∀ i : Nat, i + d = a.length → i ≤ b.length → Ev (fun k => spec_l05Cmp.l0 k a b (i : Int)) (Fv.cmpB (a.drop i) (b.drop i)) := by
 induction d with
 | zero =>
  intro i h hi
  refine Ev.step (f := fun k => spec_l05Cmp.j1 k a b (i : Int) false) (fun k => ?_) (Ev.step (f := fun _ => some _) (fun k => ?_) (Ev.now _))
  ·rw [spec_l05Cmp.l0, if_neg (by omega)]
  ·rw [spec_l05Cmp.j1, if_neg (by decide), List.drop_eq_nil_of_le (show a.length ≤ i by omega)]
   by_cases c : (a.length : Int) < (b.length : Int)
   ·rw [if_pos c, drop_at b i (by omega)]
    rfl
   ·rw [if_neg c, if_neg (by omega), List.drop_eq_nil_of_le (show b.length ≤ i by omega)]
    rfl
 | succ d ih =>
  intro i h hi
  rw [drop_at a i (by omega)]
  by_cases c : i < b.length
  ·rw [drop_at b i c, Fv.cmpB]
   by_cases c1 : a.getD i 0 < b.getD i 0
   ·refine Ev.step (f := fun k => spec_l05Cmp.j1 k a b (i : Int) true) (fun k => ?_) (Ev.step (f := fun _ => some _) (fun k => ?_) (Ev.now _))
    ·rw [spec_l05Cmp.l0, if_pos (by omega), decide_eq_true (show (i : Int) < (b.length : Int) by omega)]
    ·rw [spec_l05Cmp.j1, if_pos rfl, if_pos (by omega), if_pos (by omega), if_pos (by omega), rd_nat, rd_nat, if_pos c1, if_pos c1]
   ·by_cases c2 : b.getD i 0 < a.getD i 0
    ·refine Ev.step (f := fun k => spec_l05Cmp.j1 k a b (i : Int) true) (fun k => ?_) (Ev.step (f := fun _ => some _) (fun k => ?_) (Ev.now _))
     ·rw [spec_l05Cmp.l0, if_pos (by omega), decide_eq_true (show (i : Int) < (b.length : Int) by omega)]
     ·rw [spec_l05Cmp.j1, if_pos rfl, if_pos (by omega), if_pos (by omega), if_pos (by omega), rd_nat, rd_nat, if_neg c1, if_pos c2, if_neg c1, if_pos c2]
    ·rw [if_neg c1, if_neg c2]
     refine Ev.step (f := fun k => spec_l05Cmp.j1 k a b (i : Int) true) (fun k => ?_) (Ev.step (fun k => ?_) (ih (i + 1) (by omega) (by omega)))
     ·rw [spec_l05Cmp.l0, if_pos (by omega), decide_eq_true (show (i : Int) < (b.length : Int) by omega)]
     ·rw [spec_l05Cmp.j1, if_pos rfl, if_pos (by omega), if_pos (by omega), if_pos (by omega), rd_nat, rd_nat, if_neg c1, if_neg c2, w64 (by omega) (by omega)]
      rfl
  ·rw [List.drop_eq_nil_of_le (show b.length ≤ i by omega)]
   refine Ev.step (f := fun k => spec_l05Cmp.j1 k a b (i : Int) false) (fun k => ?_) (Ev.step (f := fun _ => some _) (fun k => ?_) (Ev.now _))
   ·rw [spec_l05Cmp.l0, if_pos (by omega), decide_eq_false (show ¬ (i : Int) < (b.length : Int) by omega)]
   ·rw [spec_l05Cmp.j1, if_neg (by decide), if_neg (by omega), if_pos (by omega)]
    rfl
theorem specCmp_ev (a b : List Int) (ha : a.length ≤ 2000000) (hb : b.length ≤ 2000000) : Ev (fun k => spec_l05Cmp.f k a b) (Fv.cmpB a b) := specCmp_l0 a b ha hb a.length 0 (by omega) (by omega)
def bytesOk (l : List Int) : Prop := ∀ x ∈ l, 0 ≤ x ∧ x < 256
theorem okb_bytes {l : List Int} (h : Fv.OkL (Fv.OkI .u8) l) : bytesOk l := fun x hx => by
 have := h.2 x hx
 unfold Fv.OkI at this
 simp [Lit.wf, IntKind.min, IntKind.max, IntKind.signed, IntKind.bits] at this
 omega
theorem rd_rows {l out : List Int} (ho : ∀ x ∈ out, 0 ≤ x ∧ x ≤ l.length) (j : Nat) (hj : j < out.length) : 0 ≤ out.getD j 0 ∧ out.getD j 0 ≤ l.length := by
 rw [lget_lt out j 0 hj]
 exact ho _ (List.getElem_mem _)
theorem specIns (l out : List Int) (i : Nat) (hl : l.length ≤ 300) (hi : i ≤ l.length) (ho : ∀ x ∈ out, 0 ≤ x ∧ x ≤ l.length) (hlen : out.length ≤ 1000) (hs : out.Pairwise (sl l)) (m : Nat) : ∀ lo hi_ : Nat, hi_ - lo ≤ m → lo ≤ hi_ → hi_ ≤ out.length →
  (∀ j, j < lo → j < out.length → sl l (out.getD j 0) i) → (∀ j, hi_ ≤ j → j < out.length → ¬ sl l (out.getD j 0) i) →
  ∃ p, p ≤ out.length ∧ (∀ j, j < p → j < out.length → sl l (out.getD j 0) i) ∧ (∀ j, p ≤ j → j < out.length → ¬ sl l (out.getD j 0) i) ∧
   ∀ r, Ev (fun k => spec_SuffixRows.l0 k l (out.take p ++ (i : Int) :: out.drop p) ((i : Int) - 1)) r → Ev (fun k => spec_SuffixRows.l1 k l out (i : Int) (lo : Int) (hi_ : Int)) r := by
 have pw : ∀ j j' : Nat, j < j' → j' < out.length → sl l (out.getD j 0) (out.getD j' 0) := fun j j' h h' => by
  rw [lget_lt out j 0 (by omega), lget_lt out j' 0 h']
  exact List.pairwise_iff_getElem.1 hs j j' (by omega) h' h
 induction m with
 | zero =>
  intro lo hi_ h1 h2 h3 h4 h5
  have e : hi_ = lo := by omega
  subst e
  refine ⟨hi_, h3, h4, h5, fun r hr => Ev.step (fun k => ?_) hr⟩
  rw [spec_SuffixRows.l1, if_neg (by omega), Option.bind_some, if_pos (by omega), if_pos (by omega), Option.bind_some, Int.toNat_natCast, if_pos (by simp; omega), Option.bind_some, Option.bind_some, Option.bind_some, if_pos (by simp; omega), Option.bind_some,
   if_pos (by simp; omega), w64 (by omega) (by omega)]
  simp
 | succ m ih =>
  intro lo hi_ h1 h2 h3 h4 h5
  by_cases e : lo < hi_
  ·have hmid : wrap64 (Int.tdiv (wrap64 ((lo : Int) + (hi_ : Int))) 2) = (((lo + hi_) / 2 : Nat) : Int) := by
    rw [show wrap64 ((lo : Int) + (hi_ : Int)) = (lo : Int) + (hi_ : Int) from w64 (by omega) (by omega), show Int.tdiv ((lo : Int) + (hi_ : Int)) 2 = (((lo + hi_) / 2 : Nat) : Int) from by rw [← Int.natCast_add]; rfl, w64 (by omega) (by omega)]
   obtain ⟨mid, hm⟩ : ∃ mid, mid = (lo + hi_) / 2 := ⟨_, rfl⟩
   rw [← hm] at hmid
   have hml : lo ≤ mid := by omega
   have hmh : mid < hi_ := by omega
   obtain ⟨b0, b1⟩ := rd_rows ho mid (by omega)
   obtain ⟨K, hK⟩ := ev_out (specCmp_ev (l.drop (out.getD mid 0).toNat) (l.drop i) (by rw [List.length_drop]; omega) (by rw [List.length_drop]; omega))
   by_cases c : sl l (out.getD mid 0) i
   ·have c' : Fv.cmpB (l.drop (out.getD mid 0).toNat) (l.drop i) < 0 := by have := c; unfold sl at this; rwa [Int.toNat_natCast] at this
    obtain ⟨p, q1, q2, q3, q4⟩ := ih (mid + 1) hi_ (by omega) (by omega) h3 (fun j hj hj' => by
     by_cases ej : j = mid
     ·rw [ej]; exact c
     ·exact sl_trans l _ _ _ (pw j mid (by omega) (by omega)) c) h5
    refine ⟨p, q1, q2, q3, fun r hr => ?_⟩
    obtain ⟨K2, hK2⟩ := ev_out (q4 r hr)
    refine ev_mk (K + K2 + 1) fun k hk => ?_
    obtain ⟨k, rfl⟩ : ∃ m, k = m + 1 := ⟨k - 1, by omega⟩
    rw [spec_SuffixRows.l1, if_pos (by omega), hmid, if_pos (by omega), if_pos (by omega), rd_nat, if_pos b0, if_pos b1, if_pos (by omega), if_pos (by omega), Int.toNat_natCast, hK k (by omega), Option.bind_some, if_pos c', w64 (by omega) (by omega)]
    exact hK2 k (by omega)
   ·have c' : ¬ Fv.cmpB (l.drop (out.getD mid 0).toNat) (l.drop i) < 0 := by have := c; unfold sl at this; rwa [Int.toNat_natCast] at this
    obtain ⟨p, q1, q2, q3, q4⟩ := ih lo mid (by omega) (by omega) (by omega) h4 (fun j hj hj' hh => by
     by_cases ej : j = mid
     ·rw [ej] at hh; exact c hh
     ·exact c (sl_trans l _ _ _ (pw mid j (by omega) (by omega)) hh))
    refine ⟨p, q1, q2, q3, fun r hr => ?_⟩
    obtain ⟨K2, hK2⟩ := ev_out (q4 r hr)
    refine ev_mk (K + K2 + 1) fun k hk => ?_
    obtain ⟨k, rfl⟩ : ∃ m, k = m + 1 := ⟨k - 1, by omega⟩
    rw [spec_SuffixRows.l1, if_pos (by omega), hmid, if_pos (by omega), if_pos (by omega), rd_nat, if_pos b0, if_pos b1, if_pos (by omega), if_pos (by omega), Int.toNat_natCast, hK k (by omega), Option.bind_some, if_neg c']
    exact hK2 k (by omega)
  ·obtain ⟨p, q1, q2, q3, q4⟩ := ih lo hi_ (by omega) h2 h3 h4 h5
   exact ⟨p, q1, q2, q3, q4⟩
def from_ (n d : Nat) : List Int := (upto n).filter fun x => decide ((d : Int) ≤ x)
theorem mem_from (n d : Nat) (x : Int) : x ∈ from_ n d ↔ (d : Int) ≤ x ∧ x ≤ n := by
 unfold from_
 rw [List.mem_filter, mem_upto, decide_eq_true_eq]
 omega
theorem from_nodup (n d : Nat) : (from_ n d).Nodup := (upto_nodup n).sublist List.filter_sublist
theorem from_cons (n d : Nat) (h : d ≤ n) : (from_ n d).Perm ((d : Int) :: from_ n (d + 1)) := by
 rw [List.perm_ext_iff_of_nodup (from_nodup _ _) (List.nodup_cons.2 ⟨fun h => by rw [mem_from] at h; omega, from_nodup _ _⟩)]
 intro x
 rw [List.mem_cons, mem_from, mem_from]
 omega
theorem from_zero (n : Nat) : (from_ n 0).Perm (upto n) := by
 rw [List.perm_ext_iff_of_nodup (from_nodup _ _) (upto_nodup _)]
 intro x
 rw [mem_from, mem_upto]
 omega
theorem from_top (n : Nat) : from_ n (n + 1) = [] := List.eq_nil_iff_forall_not_mem.2 fun x h => by rw [mem_from] at h; omega
theorem specRows_l0 (l : List Int) (hl : l.length ≤ 300) (d : Nat) : ∀ out : List Int, d ≤ l.length + 1 → out.Perm (from_ l.length d) → out.Pairwise (sl l) → Ev (fun k => spec_SuffixRows.l0 k l out ((d : Int) - 1)) (rowsOf l) := by
 induction d with
 | zero =>
  intro out _ hp hs
  refine Ev.step (f := fun _ => some _) (fun k => ?_) (Ev.now _)
  rw [spec_SuffixRows.l0, if_neg (by omega), rows_unique l out (hp.trans (from_zero _)) hs]
 | succ d ih =>
  intro out hd hp hs
  have hm : ∀ x ∈ out, 0 ≤ x ∧ x ≤ l.length := fun x hx => by have := (mem_from _ _ _).1 (hp.mem_iff.1 hx); omega
  have hn : (d : Int) ∉ out := fun h => by have := (mem_from _ _ _).1 (hp.mem_iff.1 h); omega
  have hlen : out.length ≤ 1000 := by
   have h1 := hp.length_eq
   have h2 : (from_ l.length (d + 1)).length ≤ (upto l.length).length := List.length_filter_le _ _
   have h3 : (upto l.length).length = l.length + 1 := by simp [upto]
   omega
  obtain ⟨p, q1, q2, q3, q4⟩ := specIns l out d hl (by omega) hm hlen hs out.length 0 out.length (by omega) (by omega) (by omega) (fun j hj => by omega) (fun j hj hj' => by omega)
  have hnew : (out.take p ++ (d : Int) :: out.drop p).Perm (from_ l.length d) := by
   refine List.perm_middle.trans ?_
   rw [List.take_append_drop]
   exact (hp.cons _).trans (from_cons _ _ (by omega)).symm
  have h := q4 _ (ih _ (by omega) hnew (ins_sorted l out d p (by omega) hm hn hs q2 q3))
  refine Ev.step (fun k => ?_) h
  rw [spec_SuffixRows.l0, if_pos (by omega), show ((d + 1 : Nat) : Int) - 1 = (d : Int) by omega]
  rfl
theorem specRows_ev (l : List Int) (hl : l.length ≤ 300) : Ev (fun k => spec_SuffixRows.f k l) (rowsOf l) := by
 have h := specRows_l0 l hl (l.length + 1) [] (by omega) (by rw [from_top]) List.Pairwise.nil
 refine Ev.congr (fun k => ?_) h
 unfold spec_SuffixRows.f spec_TextOk.f
 rw [Option.bind_some, decide_eq_true (by omega), if_pos rfl, show ((l.length + 1 : Nat) : Int) - 1 = (l.length : Int) by omega]
theorem implRows_l0 (l : List Int) (hl : l.length ≤ 300) (hb : bytesOk l) (d : Nat) : ∀ i : Nat, i + d = l.length + 1 → Ev (fun k => impl_suffixRows.l0 k ((List.range i).map fun (i : Nat) => (i : Int)) ((l.length : Int) + 1) (i : Int) l) (rowsOf l) := by
 induction d with
 | zero =>
  intro i h
  have e : i = l.length + 1 := by omega
  subst e
  refine Ev.step (f := fun _ => some _) (fun k => ?_) (Ev.now _)
  rw [impl_suffixRows.l0, if_neg (by omega), slices_SortFunc_79.f, if_pos ?_, Option.bind_some]
  ·rfl
  ·simp only [Bool.and_eq_true, List.all_eq_true, decide_eq_true_eq, Fv.isB]
   refine ⟨⟨hb, fun x hx => (mem_upto _ _).1 hx⟩, by simp; omega⟩
 | succ d ih =>
  intro i h
  refine Ev.step (fun k => ?_) (ih (i + 1) (by omega))
  rw [impl_suffixRows.l0, if_pos (by omega), if_pos (by simp; omega), w64 (by omega) (by omega), List.range_succ, List.map_append]
  rfl
theorem implRows_ev (l : List Int) (hl : l.length ≤ 300) (hb : bytesOk l) : Ev (fun k => impl_suffixRows.f k l) (rowsOf l) := by
 have h := implRows_l0 l hl hb (l.length + 1) 0 (by omega)
 refine Ev.congr (fun k => ?_) h
 unfold impl_suffixRows.f
 rw [w64 (by omega) (by omega)]
 rfl
theorem toByteS_l0 (l : List Int) (hl : l.length ≤ 4000000) (d : Nat) : ∀ i : Nat, i + d = l.length → Ev (fun k => laws_toByteS.l0 k l (i : Int) (l.take i ++ List.replicate d 0)) l := by
 induction d with
 | zero =>
  intro i h
  refine Ev.step (f := fun _ => some l) (fun k => ?_) (Ev.now l)
  rw [laws_toByteS.l0]
  rw [if_neg (by omega), List.take_of_length_le (by omega)]
  simp
 | succ d ih =>
  intro i h
  refine Ev.step (f := fun k => laws_toByteS.l0 k l ((i + 1 : Nat) : Int) (l.take (i + 1) ++ List.replicate d 0)) (fun k => ?_) (ih (i + 1) (by omega))
  rw [laws_toByteS.l0]
  rw [if_pos (by omega), if_pos (by omega), if_pos (by rw [fill_length l 0 i (d + 1) h]; omega), w64 (by omega) (by omega), rd_nat, Int.toNat_natCast, fill_set l 0 _ i d h rfl]
  rfl
theorem toByteS_ev (l : List Int) (hl : l.length ≤ 4000000) : Ev (fun k => laws_toByteS.f k l) l := by
 refine Ev.congr (f := fun k => laws_toByteS.l0 k l ((0 : Nat) : Int) (l.take 0 ++ List.replicate l.length 0)) (fun k => ?_) (toByteS_l0 l hl l.length 0 (by omega))
 unfold laws_toByteS.f
 rw [if_pos (by omega), Int.toNat_natCast, if_pos (by omega)]
 rfl
theorem eqByteS_l0 (l : List Int) (hl : l.length ≤ 4000000) (d : Nat) : ∀ i : Nat, i + d = l.length → Ev (fun k => laws_eqByteS.l0 k l l (i : Int)) true := by
 induction d with
 | zero =>
  intro i h
  refine Ev.step (f := fun _ => some true) (fun k => ?_) (Ev.now true)
  rw [laws_eqByteS.l0]
  rw [if_neg (by omega)]
 | succ d ih =>
  intro i h
  refine Ev.step (f := fun k => laws_eqByteS.l0 k l l ((i + 1 : Nat) : Int)) (fun k => ?_) (ih (i + 1) (by omega))
  rw [laws_eqByteS.l0]
  rw [if_pos (by omega), if_pos (by omega), if_pos (by omega), if_pos rfl, w64 (by omega) (by omega)]
  rfl
theorem eqByteS_ev (l : List Int) (hl : l.length ≤ 4000000) : Ev (fun k => laws_eqByteS.f k l l) true := by
 refine Ev.congr (f := fun k => laws_eqByteS.l0 k l l ((0 : Nat) : Int)) (fun k => ?_) (eqByteS_l0 l hl l.length 0 (by omega))
 unfold laws_eqByteS.f
 rw [if_pos rfl]
 rfl
theorem rdT56 (l : List S56) (i : Nat) : rd_T56 l (i : Int) = l.getD i z56 := by unfold rd_T56; rw [Int.toNat_natCast]
theorem eqPairS_l0 (l : List S56) (hl : l.length ≤ 4000000) (d : Nat) : ∀ i : Nat, i + d = l.length → Ev (fun k => laws_eqPairS.l0 k l l (i : Int)) true := by
 induction d with
 | zero =>
  intro i h
  refine Ev.step (f := fun _ => some true) (fun k => ?_) (Ev.now true)
  rw [laws_eqPairS.l0, if_neg (by omega)]
 | succ d ih =>
  intro i h
  refine Ev.step (f := fun k => laws_eqPairS.l0 k l l ((i + 1 : Nat) : Int)) (fun k => ?_) (ih (i + 1) (by omega))
  rw [laws_eqPairS.l0, if_pos (by omega), if_pos (by omega), if_pos (by omega)]
  unfold laws_eqPair.f
  rw [if_pos rfl, if_pos rfl, Option.bind_some, if_pos rfl, w64 (by omega) (by omega)]
  rfl
theorem eqPairS_ev (l : List S56) (hl : l.length ≤ 4000000) : Ev (fun k => laws_eqPairS.f k l l) true := by
 refine Ev.congr (f := fun k => laws_eqPairS.l0 k l l ((0 : Nat) : Int)) (fun k => ?_) (eqPairS_l0 l hl l.length 0 (by omega))
 unfold laws_eqPairS.f
 rw [if_pos rfl]
 rfl
theorem areListed_eq' (a b : List Int) : impl_areListed.f a b = some (decide (a.length ≤ 301 ∧ b.length ≤ 301)) := by
 unfold impl_areListed.f
 by_cases ha : a.length ≤ 301
 ·rw [if_pos (by omega)]
  congr 1
  by_cases hb : b.length ≤ 301
  ·rw [decide_eq_true (by omega), decide_eq_true ⟨ha, hb⟩]
  ·rw [decide_eq_false (by omega), decide_eq_false (fun h => hb h.2)]
 ·rw [if_neg (by omega), decide_eq_false (fun h => ha h.1)]
def good (a b : List Int) (l : List S56) (i : Nat) : Prop :=
 0 ≤ (l.getD i z56).f0 ∧ (l.getD i z56).f0 < (a.length : Int) ∧ 0 ≤ (l.getD i z56).f1 ∧ (l.getD i z56).f1 < (b.length : Int) ∧ rd a (l.getD i z56).f0 = rd b (l.getD i z56).f1 ∧
 (0 < i → (l.getD (i - 1) z56).f0 < (l.getD i z56).f0 ∧ (l.getD (i - 1) z56).f1 < (l.getD i z56).f1)
instance (a b : List Int) (l : List S56) (i : Nat) : Decidable (good a b l i) := by unfold good; infer_instance
def goodFrom (a b : List Int) (l : List S56) : Nat → Nat → Bool
 | 0, _ => true
 | d + 1, i => if good a b l i then goodFrom a b l d (i + 1) else false
theorem spec_j2_true (a b : List Int) (l : List S56) (i x y : Int) : Ev (fun k => spec_CommonOk.j2 k a b l i true x y) false :=
 Ev.step (f := fun _ => some false) (fun k => by rw [spec_CommonOk.j2, if_pos rfl]) (Ev.now _)
theorem spec_j3_true (a b : List Int) (l : List S56) (i : Int) : Ev (fun k => spec_CommonOk.j3 k a b l i true) false :=
 Ev.step (f := fun _ => some false) (fun k => by rw [spec_CommonOk.j3, if_pos rfl]) (Ev.now _)
theorem impl_j1_true (a b : List Int) (l m : List S56) (n i : Int) : Ev (fun k => impl_CommonOk.j1 k a b l m n i true) false :=
 Ev.step (f := fun _ => some false) (fun k => by rw [impl_CommonOk.j1, if_pos rfl]) (Ev.now _)
theorem specCommonOk_l0 (a b : List Int) (l : List S56) (hl : l.length ≤ 1048576) (d : Nat) : ∀ i : Nat, i + d = l.length → Ev (fun k => spec_CommonOk.l0 k a b l (i : Int)) (goodFrom a b l d i) := by
 induction d with
 | zero =>
  intro i h
  refine Ev.step (f := fun _ => some true) (fun k => ?_) (Ev.now _)
  rw [spec_CommonOk.l0, if_neg (by omega)]
 | succ d ih =>
  intro i h
  unfold goodFrom
  by_cases g : good a b l i
  ·rw [if_pos g]
   obtain ⟨g1, g2, g3, g4, g5, g6⟩ := g
   have hn := ih (i + 1) (by omega)
   have h3 : Ev (fun k => spec_CommonOk.j3 k a b l (i : Int) false) (goodFrom a b l d (i + 1)) := by
    refine Ev.step (fun k => ?_) hn
    rw [spec_CommonOk.j3, if_neg (by decide), w64 (by omega) (by omega)]
    rfl
   have h2 : Ev (fun k => spec_CommonOk.j2 k a b l (i : Int) false (l.getD i z56).f0 (l.getD i z56).f1) (goodFrom a b l d (i + 1)) := by
    refine Ev.step (fun k => ?_) h3
    rw [spec_CommonOk.j2, if_neg (by decide)]
    by_cases hi : 0 < i
    ·obtain ⟨q1, q2⟩ := g6 hi
     have e : (i : Int) - 1 = ((i - 1 : Nat) : Int) := by omega
     rw [if_pos (by omega), w64 (by omega) (by omega), e, if_pos (by omega), if_pos (by omega), rdT56, if_neg (by omega), decide_eq_false (by omega)]
    ·rw [if_neg (by omega)]
   refine Ev.step (fun k => ?_) h2
   rw [spec_CommonOk.l0, if_pos (by omega), if_pos (by omega), rdT56, if_neg (by omega), if_neg (by omega), if_neg (by omega), if_neg (by omega), if_pos g1, if_pos g2, if_pos g3, if_pos g4, g5]
   simp
  ·rw [if_neg g]
   have step : ∀ x : Bool, (Ev (fun k => spec_CommonOk.j2 k a b l (i : Int) x (l.getD i z56).f0 (l.getD i z56).f1) false) → (∀ k, spec_CommonOk.l0 (k + 1) a b l (i : Int) = spec_CommonOk.j2 k a b l (i : Int) x (l.getD i z56).f0 (l.getD i z56).f1) → Ev (fun k => spec_CommonOk.l0 k a b l (i : Int)) false := fun x h1 h2 => Ev.step h2 h1
   by_cases c1 : (l.getD i z56).f0 < 0
   ·exact step true (spec_j2_true _ _ _ _ _ _) (fun k => by rw [spec_CommonOk.l0, if_pos (by omega), if_pos (by omega), rdT56, if_pos c1])
   by_cases c2 : (l.getD i z56).f0 ≥ (a.length : Int)
   ·exact step true (spec_j2_true _ _ _ _ _ _) (fun k => by rw [spec_CommonOk.l0, if_pos (by omega), if_pos (by omega), rdT56, if_neg c1, if_pos c2])
   by_cases c3 : (l.getD i z56).f1 < 0
   ·exact step true (spec_j2_true _ _ _ _ _ _) (fun k => by rw [spec_CommonOk.l0, if_pos (by omega), if_pos (by omega), rdT56, if_neg c1, if_neg c2, if_pos c3])
   by_cases c4 : (l.getD i z56).f1 ≥ (b.length : Int)
   ·exact step true (spec_j2_true _ _ _ _ _ _) (fun k => by rw [spec_CommonOk.l0, if_pos (by omega), if_pos (by omega), rdT56, if_neg c1, if_neg c2, if_neg c3, if_pos c4])
   by_cases c5 : rd a (l.getD i z56).f0 = rd b (l.getD i z56).f1
   ·refine step false ?_ (fun k => by rw [spec_CommonOk.l0, if_pos (by omega), if_pos (by omega), rdT56, if_neg c1, if_neg c2, if_neg c3, if_neg c4, if_pos (by omega), if_pos (by omega), if_pos (by omega), if_pos (by omega), c5]; simp)
    have hi : 0 < i := by
     rcases Nat.eq_zero_or_pos i with h0 | h0
     ·exact absurd ⟨by omega, by omega, by omega, by omega, c5, fun hp => by omega⟩ g
     ·exact h0
    have e : (i : Int) - 1 = ((i - 1 : Nat) : Int) := by omega
    by_cases c6 : (l.getD (i - 1) z56).f0 ≥ (l.getD i z56).f0
    ·refine Ev.step (fun k => ?_) (spec_j3_true a b l (i : Int))
     rw [spec_CommonOk.j2, if_neg (by decide), if_pos (by omega), w64 (by omega) (by omega), e, if_pos (by omega), if_pos (by omega), rdT56, if_pos c6]
    ·refine Ev.step (fun k => ?_) (spec_j3_true a b l (i : Int))
     have c7 : (l.getD (i - 1) z56).f1 ≥ (l.getD i z56).f1 := by
      by_cases h7 : (l.getD (i - 1) z56).f1 < (l.getD i z56).f1
      ·exact absurd ⟨by omega, by omega, by omega, by omega, c5, fun _ => ⟨by omega, h7⟩⟩ g
      ·omega
     rw [spec_CommonOk.j2, if_neg (by decide), if_pos (by omega), w64 (by omega) (by omega), e, if_pos (by omega), if_pos (by omega), rdT56, if_neg c6, decide_eq_true c7]
   ·exact step true (spec_j2_true _ _ _ _ _ _) (fun k => by rw [spec_CommonOk.l0, if_pos (by omega), if_pos (by omega), rdT56, if_neg c1, if_neg c2, if_neg c3, if_neg c4, if_pos (by omega), if_pos (by omega), if_pos (by omega), if_pos (by omega), show (rd a (l.getD i z56).f0 != rd b (l.getD i z56).f1) = true from bne_iff_ne.2 c5])
theorem within_eq (x lo hi : Int) : impl_within.f x lo hi = some (decide (lo ≤ x ∧ x ≤ hi)) := by
 unfold impl_within.f
 by_cases h : lo ≤ x
 ·rw [if_pos h]
  congr 1
  by_cases h2 : x ≤ hi
  ·rw [decide_eq_true h2, decide_eq_true ⟨h, h2⟩]
  ·rw [decide_eq_false h2, decide_eq_false (fun q => h2 q.2)]
 ·rw [if_neg h, decide_eq_false (fun q => h q.1)]
theorem implCommonOk_l0 (a b : List Int) (ha : a.length ≤ 1048576) (hb : b.length ≤ 1048576) (l : List S56) (hl : l.length ≤ 1048576) (d : Nat) : ∀ i : Nat, i + d = l.length → Ev (fun k => impl_CommonOk.l0 k a b l l (l.length : Int) (i : Int)) (goodFrom a b l d i) := by
 induction d with
 | zero =>
  intro i h
  refine Ev.step (f := fun _ => some true) (fun k => ?_) (Ev.now _)
  rw [impl_CommonOk.l0, if_neg (by omega)]
 | succ d ih =>
  intro i h
  unfold goodFrom
  have ew : wrap64 ((a.length : Int) - 1) = (a.length : Int) - 1 := w64 (by omega) (by omega)
  have ew2 : wrap64 ((b.length : Int) - 1) = (b.length : Int) - 1 := w64 (by omega) (by omega)
  by_cases g : good a b l i
  ·rw [if_pos g]
   obtain ⟨g1, g2, g3, g4, g5, g6⟩ := g
   have hn := ih (i + 1) (by omega)
   have h1 : Ev (fun k => impl_CommonOk.j1 k a b l l (l.length : Int) (i : Int) false) (goodFrom a b l d (i + 1)) := by
    refine Ev.step (fun k => ?_) hn
    rw [impl_CommonOk.j1, if_neg (by decide), w64 (by omega) (by omega)]
    rfl
   refine Ev.step (fun k => ?_) h1
   rw [impl_CommonOk.l0, if_pos (by omega), if_pos (by omega), if_pos (by omega), rdT56, ew, ew2, within_eq, Option.bind_some, if_pos (decide_eq_true ⟨g1, by omega⟩), within_eq, Option.bind_some, if_pos (decide_eq_true ⟨g3, by omega⟩), if_pos g1, if_pos g2, if_pos g3, if_pos g4, if_pos g5]
   by_cases hi : 0 < i
   ·obtain ⟨q1, q2⟩ := g6 hi
    have e : (i : Int) - 1 = ((i - 1 : Nat) : Int) := by omega
    rw [if_pos (by omega), w64 (by omega) (by omega), e, if_pos (by omega), if_pos (by omega), rdT56, if_neg (by omega), decide_eq_false (by omega)]
   ·rw [if_neg (by omega)]
  ·rw [if_neg g]
   refine Ev.step (fun k => ?_) (impl_j1_true a b l l (l.length : Int) (i : Int))
   rw [impl_CommonOk.l0, if_pos (by omega), if_pos (by omega), if_pos (by omega), rdT56, ew, ew2, within_eq, Option.bind_some]
   by_cases c1 : 0 ≤ (l.getD i z56).f0 ∧ (l.getD i z56).f0 ≤ (a.length : Int) - 1
   ·rw [if_pos (decide_eq_true c1), within_eq, Option.bind_some]
    by_cases c2 : 0 ≤ (l.getD i z56).f1 ∧ (l.getD i z56).f1 ≤ (b.length : Int) - 1
    ·rw [if_pos (decide_eq_true c2), if_pos (by omega), if_pos (by omega), if_pos (by omega), if_pos (by omega)]
     by_cases c5 : rd a (l.getD i z56).f0 = rd b (l.getD i z56).f1
     ·have hi : 0 < i := by
       rcases Nat.eq_zero_or_pos i with h0 | h0
       ·exact absurd ⟨by omega, by omega, by omega, by omega, c5, fun hp => by omega⟩ g
       ·exact h0
      have e : (i : Int) - 1 = ((i - 1 : Nat) : Int) := by omega
      rw [if_pos c5, if_pos (by omega), w64 (by omega) (by omega), e, if_pos (by omega), if_pos (by omega), rdT56]
      by_cases c6 : (l.getD i z56).f0 ≤ (l.getD (i - 1) z56).f0
      ·rw [if_pos c6]
      ·rw [if_neg c6]
       have c7 : (l.getD i z56).f1 ≤ (l.getD (i - 1) z56).f1 := by
        by_cases h7 : (l.getD (i - 1) z56).f1 < (l.getD i z56).f1
        ·exact absurd ⟨by omega, by omega, by omega, by omega, c5, fun _ => ⟨by omega, h7⟩⟩ g
        ·omega
       rw [decide_eq_true c7]
     ·rw [if_neg c5]
    ·rw [if_neg (by rw [decide_eq_false c2]; decide)]
   ·rw [if_neg (by rw [decide_eq_false c1]; decide)]
def okOf (a b : List Int) (l : List S56) : Bool := if a.length ≤ 301 ∧ b.length ≤ 301 then goodFrom a b l l.length 0 else false
theorem specCommonOk_ev (a b : List Int) (l : List S56) (hl : l.length ≤ 1048576) : Ev (fun k => spec_CommonOk.f k a b l) (okOf a b l) := by
 have no : ∀ (h : ¬ (a.length ≤ 301 ∧ b.length ≤ 301)), Ev (fun k => spec_CommonOk.j0 k a b l true) (okOf a b l) := fun h => by
  refine Ev.step (f := fun _ => some (okOf a b l)) (fun k => ?_) (Ev.now _)
  unfold okOf
  rw [spec_CommonOk.j0, if_pos rfl, if_neg h]
 by_cases ha : a.length ≤ 301
 ·by_cases hb : b.length ≤ 301
  ·obtain ⟨K, hK⟩ := ev_out (specCommonOk_l0 a b l hl l.length 0 (by omega))
   refine ev_mk (K + 1) fun k hk => ?_
   obtain ⟨k, rfl⟩ : ∃ m, k = m + 1 := ⟨k - 1, by omega⟩
   unfold spec_CommonOk.f spec_l12Right.f okOf
   rw [Option.bind_some, if_pos (decide_eq_true (by omega)), Option.bind_some, decide_eq_true (by omega), Bool.not_true, spec_CommonOk.j0, if_neg (by decide), if_pos ⟨ha, hb⟩]
   exact hK k (by omega)
  ·obtain ⟨K, hK⟩ := ev_out (no (fun h => hb h.2))
   refine ev_mk K fun k hk => ?_
   unfold spec_CommonOk.f spec_l12Right.f
   rw [Option.bind_some, if_pos (decide_eq_true (by omega)), Option.bind_some, decide_eq_false (by omega), Bool.not_false]
   exact hK k hk
 ·obtain ⟨K, hK⟩ := ev_out (no (fun h => ha h.1))
  refine ev_mk K fun k hk => ?_
  unfold spec_CommonOk.f spec_l12Right.f
  rw [Option.bind_some, if_neg (fun h => ha (by have := of_decide_eq_true h; omega))]
  exact hK k hk
theorem implCommonOk_ev (a b : List Int) (l : List S56) (hl : l.length ≤ 1048576) : Ev (fun k => impl_CommonOk.f k a b l) (okOf a b l) := by
 by_cases h : a.length ≤ 301 ∧ b.length ≤ 301
 ·obtain ⟨K, hK⟩ := ev_out (implCommonOk_l0 a b (by omega) (by omega) l hl l.length 0 (by omega))
  refine ev_mk K fun k hk => ?_
  unfold impl_CommonOk.f okOf
  rw [areListed_eq', Option.bind_some, if_pos (decide_eq_true h), if_pos h]
  exact hK k hk
 ·refine ev_mk 0 fun k _ => ?_
  unfold impl_CommonOk.f okOf
  rw [areListed_eq', Option.bind_some, if_neg (by rw [decide_eq_false h]; decide), if_neg h]
def conv (x : S65) : S56 := ⟨x.f0, x.f1⟩
theorem rdT58 (l : List S65) (i : Nat) : rd_T65 l (i : Int) = l.getD i z65 := by unfold rd_T65; rw [Int.toNat_natCast]
theorem toPairS_l0 (l : List S65) (hl : l.length ≤ 1048576) (d : Nat) : ∀ i : Nat, i + d = l.length →
  Ev (fun k => laws_toPairS.l0 k l (i : Int) ((l.map conv).take i ++ List.replicate d z56)) (l.map conv) := by
 have hm : (l.map conv).length = l.length := List.length_map _
 induction d with
 | zero =>
  intro i h
  refine Ev.step (f := fun _ => some (l.map conv)) (fun k => ?_) (Ev.now _)
  rw [laws_toPairS.l0, if_neg (by omega), List.take_of_length_le (by omega)]
  simp
 | succ d ih =>
  intro i h
  refine Ev.step (fun k => ?_) (ih (i + 1) (by omega))
  rw [laws_toPairS.l0, if_pos (by omega), if_pos (by omega), rdT58]
  unfold laws_toPair.f
  rw [Option.bind_some, if_pos (by rw [fill_length (l.map conv) z56 i (d + 1) (by omega)]; omega), w64 (by omega) (by omega), Int.toNat_natCast,
   fill_set (l.map conv) z56 _ i d (by omega) (by
    rw [lget_lt (l.map conv) i z56 (by omega), List.getElem_map, lget_lt l i z65 (by omega)]
    rfl)]
  rfl
theorem toPairS_ev (l : List S65) (hl : l.length ≤ 1048576) : Ev (fun k => laws_toPairS.f k l) (l.map conv) := by
 refine Ev.congr (f := fun k => laws_toPairS.l0 k l ((0 : Nat) : Int) ((l.map conv).take 0 ++ List.replicate l.length z56)) (fun k => ?_) (toPairS_l0 l hl l.length 0 (by omega))
 unfold laws_toPairS.f
 rw [if_pos (by omega), Int.toNat_natCast, if_pos (by omega)]
 rfl
def bwtAt (l : List Int) (r : Int) : Int := if r = 0 then 0 else l.getD (r - 1).toNat 0 + 1
def bwtL (l : List Int) : List Int := (rowsOf l).map (bwtAt l)
theorem bwtL_len (l : List Int) : (bwtL l).length = l.length + 1 := by unfold bwtL; rw [List.length_map, rowsOf_len]
theorem bwtL_at (l : List Int) (i : Nat) (h : i < l.length + 1) : (bwtL l).getD i 0 = bwtAt l ((rowsOf l).getD i 0) := by
 rw [lget_lt _ i 0 (by rw [bwtL_len]; exact h), lget_lt _ i 0 (by rw [rowsOf_len]; exact h)]
 simp [bwtL]
theorem byte_at {l : List Int} (hb : bytesOk l) (i : Nat) : 0 ≤ l.getD i 0 ∧ l.getD i 0 < 256 := by
 by_cases h : i < l.length
 ·rw [lget_lt l i 0 h]
  exact hb _ (List.getElem_mem _)
 ·rw [List.getD_eq_getElem?_getD, List.getElem?_eq_none (by omega)]
  decide
theorem specBwt_l0 (l : List Int) (hl : l.length ≤ 300) (hb : bytesOk l) (d : Nat) : ∀ i : Nat, i + d = l.length + 1 → Ev (fun k => spec_BwtOf.l0 k l ((bwtL l).take i) (i : Int) (rowsOf l)) (bwtL l) := by
 have hR := rowsOf_len l
 have hL := bwtL_len l
 induction d with
 | zero =>
  intro i h
  refine Ev.step (f := fun _ => some _) (fun k => ?_) (Ev.now _)
  rw [spec_BwtOf.l0, if_neg (by omega), List.take_of_length_le (by omega)]
 | succ d ih =>
  intro i h
  have hat := bwtL_at l i (by omega)
  obtain ⟨a0, a1⟩ := rowsOf_at l i (by omega)
  refine Ev.step (fun k => ?_) (ih (i + 1) (by omega))
  rw [take_succ_getD _ 0 i (by omega), hat, spec_BwtOf.l0, if_pos (by omega), if_pos (by omega), rd_nat]
  unfold bwtAt
  by_cases c : (rowsOf l).getD i 0 = 0
  ·rw [if_pos c, if_pos c, if_pos (by rw [List.length_take]; omega), w64 (by omega) (by omega)]
   rfl
  ·rw [if_neg c, if_neg c, w64 (by omega) (by omega), if_pos (by omega), if_pos (by omega), if_pos (by rw [List.length_take]; omega)]
   have hx := byte_at hb ((rowsOf l).getD i 0 - 1).toNat
   have hr : rd l ((rowsOf l).getD i 0 - 1) = l.getD ((rowsOf l).getD i 0 - 1).toNat 0 := rfl
   rw [hr]
   generalize l.getD ((rowsOf l).getD i 0 - 1).toNat 0 = x at hx ⊢
   rw [w64 (x := x) (by omega) (by omega), w64 (x := x + 1) (by omega) (by omega), w64 (by omega) (by omega)]
   rfl
theorem specBwt_ev (l : List Int) (hl : l.length ≤ 300) (hb : bytesOk l) : Ev (fun k => spec_BwtOf.f k l) (bwtL l) := by
 obtain ⟨K, hK⟩ := ev_out (specRows_ev l hl)
 obtain ⟨K2, hK2⟩ := ev_out (specBwt_l0 l hl hb (l.length + 1) 0 (by omega))
 refine ev_mk (K + K2) fun k hk => ?_
 unfold spec_BwtOf.f
 rw [hK k (by omega), Option.bind_some]
 exact hK2 k (by omega)
theorem implBwt_l0 (l : List Int) (hl : l.length ≤ 300) (hb : bytesOk l) (d : Nat) : ∀ i : Nat, i + d = l.length + 1 → Ev (fun k => impl_bwtOf.l0 k l ((bwtL l).take i) (rowsOf l) ((rowsOf l).length : Int) (i : Int)) (bwtL l) := by
 have hR := rowsOf_len l
 have hL := bwtL_len l
 induction d with
 | zero =>
  intro i h
  refine Ev.step (f := fun _ => some _) (fun k => ?_) (Ev.now _)
  rw [impl_bwtOf.l0, if_neg (by omega), List.take_of_length_le (by omega)]
 | succ d ih =>
  intro i h
  have hat := bwtL_at l i (by omega)
  obtain ⟨a0, a1⟩ := rowsOf_at l i (by omega)
  refine Ev.step (fun k => ?_) (ih (i + 1) (by omega))
  rw [take_succ_getD _ 0 i (by omega), hat, impl_bwtOf.l0, if_pos (by omega), if_pos (by omega), if_pos (by omega), rd_nat]
  unfold bwtAt
  by_cases c : (rowsOf l).getD i 0 = 0
  ·rw [if_pos c, if_pos c, if_pos (by rw [List.length_take]; omega), w64 (by omega) (by omega)]
   rfl
  ·rw [if_neg c, if_neg c, w64 (by omega) (by omega), if_pos (by omega), if_pos (by omega), if_pos (by rw [List.length_take]; omega)]
   have hx := byte_at hb ((rowsOf l).getD i 0 - 1).toNat
   have hr : rd l ((rowsOf l).getD i 0 - 1) = l.getD ((rowsOf l).getD i 0 - 1).toNat 0 := rfl
   rw [hr]
   generalize l.getD ((rowsOf l).getD i 0 - 1).toNat 0 = x at hx ⊢
   rw [w64 (x := x) (by omega) (by omega), w64 (x := x + 1) (by omega) (by omega), w64 (by omega) (by omega)]
   rfl
theorem implBwt_ev (l : List Int) (hl : l.length ≤ 300) (hb : bytesOk l) : Ev (fun k => impl_bwtOf.f k l) (bwtL l) := by
 obtain ⟨K, hK⟩ := ev_out (implRows_ev l hl hb)
 obtain ⟨K2, hK2⟩ := ev_out (implBwt_l0 l hl hb (l.length + 1) 0 (by omega))
 refine ev_mk (K + K2) fun k hk => ?_
 unfold impl_bwtOf.f
 rw [hK k (by omega), Option.bind_some]
 exact hK2 k (by omega)
theorem isShared_eq (a b : List Int) (d : Int) : impl_isShared.f a b d = some (decide (a.length ≤ 300 ∧ b.length ≤ 300 ∧ 0 ≤ d ∧ d ≤ 8)) := by
 unfold impl_isShared.f impl_TextOk.f
 by_cases ha : a.length ≤ 300
 ·by_cases hb : b.length ≤ 300
  ·rw [Option.bind_some, decide_eq_true (show (a.length : Int) ≤ 300 by omega), if_pos rfl, Option.bind_some, decide_eq_true (show (b.length : Int) ≤ 300 by omega), if_pos rfl, within_eq, Option.bind_some]
   congr 1
   exact decide_eq_decide.2 ⟨fun h => ⟨ha, hb, h.1, h.2⟩, fun h => ⟨h.2.2.1, h.2.2.2⟩⟩
  ·rw [Option.bind_some, decide_eq_true (show (a.length : Int) ≤ 300 by omega), if_pos rfl, Option.bind_some, decide_eq_false (show ¬ (b.length : Int) ≤ 300 by omega), if_neg (by decide), decide_eq_false (fun h => hb h.2.1)]
 ·rw [Option.bind_some, decide_eq_false (show ¬ (a.length : Int) ≤ 300 by omega), if_neg (by decide), decide_eq_false (fun h => ha h.1)]
def shareOkB (a b : List Int) (l : List S56) : Bool := if a.length ≤ 300 ∧ b.length ≤ 300 then okOf (bwtL a) (bwtL b) l else false
theorem specShareOk_ev (a b : List Int) (l : List S56) (hl : l.length ≤ 1048576) (ha : bytesOk a) (hb : bytesOk b) : Ev (fun k => spec_ShareOk.f k a b l) (shareOkB a b l) := by
 unfold spec_ShareOk.f spec_TextOk.f shareOkB
 by_cases ca : a.length ≤ 300
 ·by_cases cb : b.length ≤ 300
  ·obtain ⟨K0, h0⟩ := ev_out (specBwt_ev a ca ha)
   obtain ⟨K1, h1⟩ := ev_out (specBwt_ev b cb hb)
   obtain ⟨K2, h2⟩ := ev_out (specCommonOk_ev (bwtL a) (bwtL b) l hl)
   refine ev_mk (K0 + K1 + K2) fun k hk => ?_
   rw [Option.bind_some, decide_eq_true (show (a.length : Int) ≤ 300 by omega), if_pos rfl, Option.bind_some, decide_eq_true (show (b.length : Int) ≤ 300 by omega), if_pos rfl, h0 k (by omega), Option.bind_some, h1 k (by omega), Option.bind_some, h2 k (by omega), Option.bind_some, if_pos ⟨ca, cb⟩]
  ·refine ev_mk 0 fun k _ => ?_
   rw [Option.bind_some, decide_eq_true (show (a.length : Int) ≤ 300 by omega), if_pos rfl, Option.bind_some, decide_eq_false (show ¬ (b.length : Int) ≤ 300 by omega), if_neg (by decide), if_neg (fun h => cb h.2)]
 ·refine ev_mk 0 fun k _ => ?_
  rw [Option.bind_some, decide_eq_false (show ¬ (a.length : Int) ≤ 300 by omega), if_neg (by decide), if_neg (fun h => ca h.1)]
theorem implShareOk_ev (a b : List Int) (l : List S56) (hl : l.length ≤ 1048576) (ha : bytesOk a) (hb : bytesOk b) : Ev (fun k => impl_ShareOk.f k a b l) (shareOkB a b l) := by
 unfold impl_ShareOk.f shareOkB
 by_cases c : a.length ≤ 300 ∧ b.length ≤ 300
 ·obtain ⟨K0, h0⟩ := ev_out (implBwt_ev a c.1 ha)
  obtain ⟨K1, h1⟩ := ev_out (implBwt_ev b c.2 hb)
  obtain ⟨K2, h2⟩ := ev_out (implCommonOk_ev (bwtL a) (bwtL b) l hl)
  refine ev_mk (K0 + K1 + K2) fun k hk => ?_
  rw [isShared_eq, Option.bind_some, decide_eq_true ⟨c.1, c.2, by omega, by omega⟩, if_pos rfl, h0 k (by omega), Option.bind_some, h1 k (by omega), Option.bind_some, h2 k (by omega), Option.bind_some, if_pos c]
 ·refine ev_mk 0 fun k _ => ?_
  rw [isShared_eq, Option.bind_some, decide_eq_false (fun h => c ⟨h.1, h.2.1⟩), if_neg (by decide), if_neg c]
theorem FnExactShareOk : laws_FnExactShareOk.Pure := by
 intro l0 l1 l2 o0 o1 o2
 by_cases g0 : (l0.length : Int) > 1048576
 ·exact ⟨0, by unfold laws_FnExactShareOk.f; rw [if_pos g0]⟩
 by_cases g1 : (l1.length : Int) > 1048576
 ·exact ⟨0, by unfold laws_FnExactShareOk.f; rw [if_neg g0, if_pos g1]⟩
 have hl2 : l2.length ≤ 9223372036854775807 := by have := o2.1; unfold maxLen at this; omega
 by_cases hn : (1048576 : Int) < (l2.length : Int)
 ·refine ⟨0, ?_⟩
  unfold laws_FnExactShareOk.f laws_szPairS.f
  rw [if_neg g0, if_neg g1, w64 (by omega) (by omega), if_pos (by omega), Option.bind_some, if_pos (by decide)]
 have hm : (l2.map conv).length = l2.length := List.length_map _
 have b0 := okb_bytes o0
 have b1 := okb_bytes o1
 obtain ⟨K0, h0⟩ := ev_out (toByteS_ev l0 (by omega))
 obtain ⟨K1, h1⟩ := ev_out (toByteS_ev l1 (by omega))
 obtain ⟨K2, h2⟩ := ev_out (toPairS_ev l2 (by omega))
 obtain ⟨K3, h3⟩ := ev_out (specShareOk_ev l0 l1 (l2.map conv) (by omega) b0 b1)
 obtain ⟨K4, h4⟩ := ev_out (implShareOk_ev l0 l1 (l2.map conv) (by omega) b0 b1)
 obtain ⟨K5, h5⟩ := ev_out (eqByteS_ev l0 (by omega))
 obtain ⟨K6, h6⟩ := ev_out (eqByteS_ev l1 (by omega))
 obtain ⟨K7, h7⟩ := ev_out (eqPairS_ev (l2.map conv) (by omega))
 refine ⟨K0 + K1 + K2 + K3 + K4 + K5 + K6 + K7, ?_⟩
 unfold laws_FnExactShareOk.f laws_szPairS.f
 rw [if_neg g0, if_neg g1, w64 (by omega) (by omega), if_neg (by omega), Option.bind_some, if_neg (by omega), h0 _ (by omega), Option.bind_some, h1 _ (by omega), Option.bind_some, h2 _ (by omega), Option.bind_some, h3 _ (by omega), Option.bind_some, Option.bind_some, Option.bind_some, Option.bind_some, h4 _ (by omega), Option.bind_some, if_neg (by simp), Option.bind_some, h5 _ (by omega), Option.bind_some, if_pos rfl, Option.bind_some, h6 _ (by omega), Option.bind_some, if_pos rfl, Option.bind_some, h7 _ (by omega), Option.bind_some, if_pos rfl]

end Go.Proofs.Ytadhngelhognaaa.Pure
