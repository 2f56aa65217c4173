/- The program's ShareOf returns what the reference's returns, for all arguments (texts of more than 2^20 bytes are let pass by the statement itself). -/
import Derived.Test.YtadhngelhognaaaQFnExactShareOfx14
import Derived.Test.YtadhngelhognaaaBase
import Derived.Test.YtadhngelhognaaaLcs
import Derived.Test.YtadhngelhognaaaSx
import Derived.Test.YtadhngelhognaaaWz
import Derived.Test.YtadhngelhognaaaWs
namespace Go.Proofs.Ytadhngelhognaaa.Pure
open Go.RowKit Go.Proofs.Ytadhngelhognaaa.QFnExactShareOf Go.Proofs.YtadhngelhognaaaW.PrintWords Go.Proofs.YtadhngelhognaaaW.PrintLast Go.Proofs.YtadhngelhognaaaW.PrintMore
open Go.Proofs.Ytadhngelhognaaa Go.Proofs.Ytadhngelhognaaa.Base Go.Proofs.Ytadhngelhognaaa.Sx Go.Proofs.Ytadhngelhognaaa.Wz Go.Proofs.Ytadhngelhognaaa.Ws
set_option linter.unusedVariables false
set_option linter.unusedSimpArgs false

theorem bs {α β : Type} (a : α) (f : α → Option β) : (some a).bind f = f a := rfl
theorem ip {c : Prop} [h : Decidable c] (hc : c) {α : Type} {t e : α} : (if c then t else e) = t := if_pos hc
theorem iq {c : Prop} [h : Decidable c] (hc : ¬ c) {α : Type} {t e : α} : (if c then t else e) = e := if_neg hc
theorem ek {k m : Nat} (h : m + 1 ≤ k) : ∃ m, k = m + 1 := ⟨k - 1, by omega⟩
theorem specCmp_l0 (a b : List Int) (ha : a.length ≤ 2000000) (hb : b.length ≤ 2000000) (d : Nat) : ∀ i : Nat, i + d = a.length → i ≤ b.length → Ev (fun k => spec_l05Cmp.l0 k a b (i : Int)) (Fv.cmpB (a.drop i) (b.drop i)) := by
 induction d with
 | zero =>
  intro i h hi
  refine Ev.step (f := fun k => spec_l05Cmp.j1 k a b (i : Int) false) (fun k => ?_) (Ev.step (f := fun _ => some _) (fun k => ?_) (Ev.now _))
  ·rw [spec_l05Cmp.l0, iq (by omega)]
  ·rw [spec_l05Cmp.j1, iq (by decide), List.drop_eq_nil_of_le (show a.length ≤ i by omega)]
   by_cases c : (a.length : Int) < (b.length : Int)
   ·rw [ip c, drop_at b i (by omega)]
    rfl
   ·rw [iq c, iq (by omega), List.drop_eq_nil_of_le (show b.length ≤ i by omega)]
    rfl
 | succ d ih =>
  intro i h hi
  rw [drop_at a i (by omega)]
  by_cases c : i < b.length
  ·rw [drop_at b i c, Fv.cmpB]
   by_cases c1 : a.getD i 0 < b.getD i 0
   ·refine Ev.step (f := fun k => spec_l05Cmp.j1 k a b (i : Int) true) (fun k => ?_) (Ev.step (f := fun _ => some _) (fun k => ?_) (Ev.now _))
    ·rw [spec_l05Cmp.l0, ip (by omega), decide_eq_true (show (i : Int) < (b.length : Int) by omega)]
    ·rw [spec_l05Cmp.j1, ip rfl, ip (by omega), ip (by omega), ip (by omega), rd_nat, rd_nat, ip c1, ip c1]
   ·by_cases c2 : b.getD i 0 < a.getD i 0
    ·refine Ev.step (f := fun k => spec_l05Cmp.j1 k a b (i : Int) true) (fun k => ?_) (Ev.step (f := fun _ => some _) (fun k => ?_) (Ev.now _))
     ·rw [spec_l05Cmp.l0, ip (by omega), decide_eq_true (show (i : Int) < (b.length : Int) by omega)]
     ·rw [spec_l05Cmp.j1, ip rfl, ip (by omega), ip (by omega), ip (by omega), rd_nat, rd_nat, iq c1, ip c2, iq c1, ip c2]
    ·rw [iq c1, iq c2]
     refine Ev.step (f := fun k => spec_l05Cmp.j1 k a b (i : Int) true) (fun k => ?_) (Ev.step (fun k => ?_) (ih (i + 1) (by omega) (by omega)))
     ·rw [spec_l05Cmp.l0, ip (by omega), decide_eq_true (show (i : Int) < (b.length : Int) by omega)]
     ·rw [spec_l05Cmp.j1, ip rfl, ip (by omega), ip (by omega), ip (by omega), rd_nat, rd_nat, iq c1, iq c2, w64 (by omega) (by omega)]
      rfl
  ·rw [List.drop_eq_nil_of_le (show b.length ≤ i by omega)]
   refine Ev.step (f := fun k => spec_l05Cmp.j1 k a b (i : Int) false) (fun k => ?_) (Ev.step (f := fun _ => some _) (fun k => ?_) (Ev.now _))
   ·rw [spec_l05Cmp.l0, ip (by omega), decide_eq_false (show ¬ (i : Int) < (b.length : Int) by omega)]
   ·rw [spec_l05Cmp.j1, iq (by decide), iq (by omega), ip (by omega)]
    rfl
theorem specCmp_ev (a b : List Int) (ha : a.length ≤ 2000000) (hb : b.length ≤ 2000000) : Ev (fun k => spec_l05Cmp.f k a b) (Fv.cmpB a b) := specCmp_l0 a b ha hb a.length 0 (by omega) (by omega)
def bytesOk (l : List Int) : Prop := ∀ x ∈ l, 0 ≤ x ∧ x < 256
theorem rd_rows {l out : List Int} (ho : ∀ x ∈ out, 0 ≤ x ∧ x ≤ l.length) (j : Nat) (hj : j < out.length) : 0 ≤ out.getD j 0 ∧ out.getD j 0 ≤ l.length := by
 rw [lget_lt out j 0 hj]
 exact ho _ (List.getElem_mem _)
theorem specIns (l out : List Int) (i : Nat) (hl : l.length ≤ 300) (hi : i ≤ l.length) (ho : ∀ x ∈ out, 0 ≤ x ∧ x ≤ l.length) (hlen : out.length ≤ 1000) (hs : out.Pairwise (sl l)) (m : Nat) : ∀ lo hi_ : Nat, hi_ - lo ≤ m → lo ≤ hi_ → hi_ ≤ out.length →
  (∀ j, j < lo → j < out.length → sl l (out.getD j 0) i) → (∀ j, hi_ ≤ j → j < out.length → ¬ sl l (out.getD j 0) i) →
  ∃ p, p ≤ out.length ∧ (∀ j, j < p → j < out.length → sl l (out.getD j 0) i) ∧ (∀ j, p ≤ j → j < out.length → ¬ sl l (out.getD j 0) i) ∧
   ∀ r, Ev (fun k => spec_SuffixRows.l0 k l (out.take p ++ (i : Int) :: out.drop p) ((i : Int) - 1)) r → Ev (fun k => spec_SuffixRows.l1 k l out (i : Int) (lo : Int) (hi_ : Int)) r := by
 have pw : ∀ j j' : Nat, j < j' → j' < out.length → sl l (out.getD j 0) (out.getD j' 0) := fun j j' h h' => by
  rw [lget_lt out j 0 (by omega), lget_lt out j' 0 h']
  exact List.pairwise_iff_getElem.1 hs j j' (by omega) h' h
 induction m with
 | zero =>
  intro lo hi_ h1 h2 h3 h4 h5
  have e : hi_ = lo := by omega
  subst e
  refine ⟨hi_, h3, h4, h5, fun r hr => Ev.step (fun k => ?_) hr⟩
  rw [spec_SuffixRows.l1, iq (by omega), bs, ip (by omega), ip (by omega), bs, Int.toNat_natCast, ip (by simp; omega), bs, bs, bs, ip (by simp; omega), bs,
   ip (by simp; omega), w64 (by omega) (by omega)]
  simp
 | succ m ih =>
  intro lo hi_ h1 h2 h3 h4 h5
  by_cases e : lo < hi_
  ·have hmid : wrap64 (Int.tdiv (wrap64 ((lo : Int) + (hi_ : Int))) 2) = (((lo + hi_) / 2 : Nat) : Int) := by
    rw [show wrap64 ((lo : Int) + (hi_ : Int)) = (lo : Int) + (hi_ : Int) from w64 (by omega) (by omega), show Int.tdiv ((lo : Int) + (hi_ : Int)) 2 = (((lo + hi_) / 2 : Nat) : Int) from by rw [← Int.natCast_add]; rfl, w64 (by omega) (by omega)]
   obtain ⟨mid, hm⟩ : ∃ mid, mid = (lo + hi_) / 2 := ⟨_, rfl⟩
   rw [← hm] at hmid
   have hml : lo ≤ mid := by omega
   have hmh : mid < hi_ := by omega
   obtain ⟨b0, b1⟩ := rd_rows ho mid (by omega)
   obtain ⟨K, hK⟩ := ev_out (specCmp_ev (l.drop (out.getD mid 0).toNat) (l.drop i) (by rw [List.length_drop]; omega) (by rw [List.length_drop]; omega))
   by_cases c : sl l (out.getD mid 0) i
   ·have c' : Fv.cmpB (l.drop (out.getD mid 0).toNat) (l.drop i) < 0 := by have := c; unfold sl at this; rwa [Int.toNat_natCast] at this
    obtain ⟨p, q1, q2, q3, q4⟩ := ih (mid + 1) hi_ (by omega) (by omega) h3 (fun j hj hj' => by
     by_cases ej : j = mid
     ·rw [ej]; exact c
     ·exact sl_trans l _ _ _ (pw j mid (by omega) (by omega)) c) h5
    refine ⟨p, q1, q2, q3, fun r hr => ?_⟩
    obtain ⟨K2, hK2⟩ := ev_out (q4 r hr)
    refine ev_mk (K + K2 + 1) fun k hk => ?_
    obtain ⟨k, rfl⟩ : ∃ m, k = m + 1 := ⟨k - 1, by omega⟩
    rw [spec_SuffixRows.l1, ip (by omega), hmid, ip (by omega), ip (by omega), rd_nat, ip b0, ip b1, ip (by omega), ip (by omega), Int.toNat_natCast, hK k (by omega), bs, ip c', w64 (by omega) (by omega)]
    exact hK2 k (by omega)
   ·have c' : ¬ Fv.cmpB (l.drop (out.getD mid 0).toNat) (l.drop i) < 0 := by have := c; unfold sl at this; rwa [Int.toNat_natCast] at this
    obtain ⟨p, q1, q2, q3, q4⟩ := ih lo mid (by omega) (by omega) (by omega) h4 (fun j hj hj' hh => by
     by_cases ej : j = mid
     ·rw [ej] at hh; exact c hh
     ·exact c (sl_trans l _ _ _ (pw mid j (by omega) (by omega)) hh))
    refine ⟨p, q1, q2, q3, fun r hr => ?_⟩
    obtain ⟨K2, hK2⟩ := ev_out (q4 r hr)
    refine ev_mk (K + K2 + 1) fun k hk => ?_
    obtain ⟨k, rfl⟩ : ∃ m, k = m + 1 := ⟨k - 1, by omega⟩
    rw [spec_SuffixRows.l1, ip (by omega), hmid, ip (by omega), ip (by omega), rd_nat, ip b0, ip b1, ip (by omega), ip (by omega), Int.toNat_natCast, hK k (by omega), bs, iq c']
    exact hK2 k (by omega)
  ·obtain ⟨p, q1, q2, q3, q4⟩ := ih lo hi_ (by omega) h2 h3 h4 h5
   exact ⟨p, q1, q2, q3, q4⟩
def from_ (n d : Nat) : List Int := (upto n).filter fun x => decide ((d : Int) ≤ x)
theorem mem_from (n d : Nat) (x : Int) : x ∈ from_ n d ↔ (d : Int) ≤ x ∧ x ≤ n := by
 unfold from_
 rw [List.mem_filter, mem_upto, decide_eq_true_eq]
 omega
theorem from_nodup (n d : Nat) : (from_ n d).Nodup := (upto_nodup n).sublist List.filter_sublist
theorem from_cons (n d : Nat) (h : d ≤ n) : (from_ n d).Perm ((d : Int) :: from_ n (d + 1)) := by
 rw [List.perm_ext_iff_of_nodup (from_nodup _ _) (List.nodup_cons.2 ⟨fun h => by rw [mem_from] at h; omega, from_nodup _ _⟩)]
 intro x
 rw [List.mem_cons, mem_from, mem_from]
 omega
theorem from_zero (n : Nat) : (from_ n 0).Perm (upto n) := by
 rw [List.perm_ext_iff_of_nodup (from_nodup _ _) (upto_nodup _)]
 intro x
 rw [mem_from, mem_upto]
 omega
theorem from_top (n : Nat) : from_ n (n + 1) = [] := List.eq_nil_iff_forall_not_mem.2 fun x h => by rw [mem_from] at h; omega
theorem specRows_l0 (l : List Int) (hl : l.length ≤ 300) (d : Nat) : ∀ out : List Int, d ≤ l.length + 1 → out.Perm (from_ l.length d) → out.Pairwise (sl l) → Ev (fun k => spec_SuffixRows.l0 k l out ((d : Int) - 1)) (rowsOf l) := by
 induction d with
 | zero =>
  intro out _ hp hs
  refine Ev.step (f := fun _ => some _) (fun k => ?_) (Ev.now _)
  rw [spec_SuffixRows.l0, iq (by omega), rows_unique l out (hp.trans (from_zero _)) hs]
 | succ d ih =>
  intro out hd hp hs
  have hm : ∀ x ∈ out, 0 ≤ x ∧ x ≤ l.length := fun x hx => by have := (mem_from _ _ _).1 (hp.mem_iff.1 hx); omega
  have hn : (d : Int) ∉ out := fun h => by have := (mem_from _ _ _).1 (hp.mem_iff.1 h); omega
  have hlen : out.length ≤ 1000 := by
   have h1 := hp.length_eq
   have h2 : (from_ l.length (d + 1)).length ≤ (upto l.length).length := List.length_filter_le _ _
   have h3 : (upto l.length).length = l.length + 1 := by simp [upto]
   omega
  obtain ⟨p, q1, q2, q3, q4⟩ := specIns l out d hl (by omega) hm hlen hs out.length 0 out.length (by omega) (by omega) (by omega) (fun j hj => by omega) (fun j hj hj' => by omega)
  have hnew : (out.take p ++ (d : Int) :: out.drop p).Perm (from_ l.length d) := by
   refine List.perm_middle.trans ?_
   rw [List.take_append_drop]
   exact (hp.cons _).trans (from_cons _ _ (by omega)).symm
  have h := q4 _ (ih _ (by omega) hnew (ins_sorted l out d p (by omega) hm hn hs q2 q3))
  refine Ev.step (fun k => ?_) h
  rw [spec_SuffixRows.l0, ip (by omega), show ((d + 1 : Nat) : Int) - 1 = (d : Int) by omega]
  rfl
theorem specRows_ev (l : List Int) (hl : l.length ≤ 300) : Ev (fun k => spec_SuffixRows.f k l) (rowsOf l) := by
 have h := specRows_l0 l hl (l.length + 1) [] (by omega) (by rw [from_top]) List.Pairwise.nil
 refine Ev.congr (fun k => ?_) h
 unfold spec_SuffixRows.f spec_TextOk.f
 rw [bs, decide_eq_true (by omega), ip rfl, show ((l.length + 1 : Nat) : Int) - 1 = (l.length : Int) by omega]
theorem implRows_l0 (l : List Int) (hl : l.length ≤ 300) (hb : bytesOk l) (d : Nat) : ∀ i : Nat, i + d = l.length + 1 → Ev (fun k => impl_suffixRows.l0 k ((List.range i).map fun (i : Nat) => (i : Int)) ((l.length : Int) + 1) (i : Int) l) (rowsOf l) := by
 induction d with
 | zero =>
  intro i h
  have e : i = l.length + 1 := by omega
  subst e
  refine Ev.step (f := fun _ => some _) (fun k => ?_) (Ev.now _)
  rw [impl_suffixRows.l0, iq (by omega), slices_SortFunc_79.f, ip ?_, bs]
  ·rfl
  ·simp only [Bool.and_eq_true, List.all_eq_true, decide_eq_true_eq, Fv.isB]
   refine ⟨⟨hb, fun x hx => (mem_upto _ _).1 hx⟩, by simp; omega⟩
 | succ d ih =>
  intro i h
  refine Ev.step (fun k => ?_) (ih (i + 1) (by omega))
  rw [impl_suffixRows.l0, ip (by omega), ip (by simp; omega), w64 (by omega) (by omega), List.range_succ, List.map_append]
  rfl
theorem implRows_ev (l : List Int) (hl : l.length ≤ 300) (hb : bytesOk l) : Ev (fun k => impl_suffixRows.f k l) (rowsOf l) := by
 have h := implRows_l0 l hl hb (l.length + 1) 0 (by omega)
 refine Ev.congr (fun k => ?_) h
 unfold impl_suffixRows.f
 rw [w64 (by omega) (by omega)]
 rfl
theorem toByteS_l0 (l : List Int) (hl : l.length ≤ 4000000) (d : Nat) : ∀ i : Nat, i + d = l.length → Ev (fun k => laws_toByteS.l0 k l (i : Int) (l.take i ++ List.replicate d 0)) l := by
 induction d with
 | zero =>
  intro i h
  refine Ev.step (f := fun _ => some l) (fun k => ?_) (Ev.now l)
  rw [laws_toByteS.l0]
  rw [iq (by omega), List.take_of_length_le (by omega)]
  simp
 | succ d ih =>
  intro i h
  refine Ev.step (f := fun k => laws_toByteS.l0 k l ((i + 1 : Nat) : Int) (l.take (i + 1) ++ List.replicate d 0)) (fun k => ?_) (ih (i + 1) (by omega))
  rw [laws_toByteS.l0]
  rw [ip (by omega), ip (by omega), ip (by rw [fill_length l 0 i (d + 1) h]; omega), w64 (by omega) (by omega), rd_nat, Int.toNat_natCast, fill_set l 0 _ i d h rfl]
  rfl
theorem toByteS_ev (l : List Int) (hl : l.length ≤ 4000000) : Ev (fun k => laws_toByteS.f k l) l := by
 refine Ev.congr (f := fun k => laws_toByteS.l0 k l ((0 : Nat) : Int) (l.take 0 ++ List.replicate l.length 0)) (fun k => ?_) (toByteS_l0 l hl l.length 0 (by omega))
 unfold laws_toByteS.f
 rw [ip (by omega), Int.toNat_natCast, ip (by omega)]
 rfl
theorem eqByteS_l0 (l : List Int) (hl : l.length ≤ 4000000) (d : Nat) : ∀ i : Nat, i + d = l.length → Ev (fun k => laws_eqByteS.l0 k l l (i : Int)) true := by
 induction d with
 | zero =>
  intro i h
  refine Ev.step (f := fun _ => some true) (fun k => ?_) (Ev.now true)
  rw [laws_eqByteS.l0]
  rw [iq (by omega)]
 | succ d ih =>
  intro i h
  refine Ev.step (f := fun k => laws_eqByteS.l0 k l l ((i + 1 : Nat) : Int)) (fun k => ?_) (ih (i + 1) (by omega))
  rw [laws_eqByteS.l0]
  rw [ip (by omega), ip (by omega), ip (by omega), ip rfl, w64 (by omega) (by omega)]
  rfl
theorem eqByteS_ev (l : List Int) (hl : l.length ≤ 4000000) : Ev (fun k => laws_eqByteS.f k l l) true := by
 refine Ev.congr (f := fun k => laws_eqByteS.l0 k l l ((0 : Nat) : Int)) (fun k => ?_) (eqByteS_l0 l hl l.length 0 (by omega))
 unfold laws_eqByteS.f
 rw [ip rfl]
 rfl
theorem rdL (T : List (List Int)) (i : Nat) : rd_L4 T (i : Int) = T.getD i [] := by unfold rd_L4; rw [Int.toNat_natCast]
theorem mx_eq (x y : Nat) : mx (x : Int) (y : Int) = ((max x y : Nat) : Int) := by unfold mx; split <;> omega
theorem L_le301 {a b : List Int} (ha : a.length ≤ 301) (i j : Nat) : Lcs.L a b i j ≤ 301 := Nat.le_trans (Lcs.L_le a b i j) ha
theorem specTable_l1 (a b : List Int) (ha : a.length ≤ 301) (hb : b.length ≤ 301) (i : Nat) (hi : i ≤ a.length)
  (next : ∀ T, Lcs.Rows a b i T → ∃ R, Ev (fun k => spec_l12Table.l0 k a b ((i : Int) - 1) T) R ∧ Lcs.Rows a b 0 R) (j : Nat) :
  ∀ T, j ≤ b.length + 1 → Lcs.Part a b i j T → ∃ R, Ev (fun k => spec_l12Table.l1 k a b (i : Int) ((j : Int) - 1) T) R ∧ Lcs.Rows a b 0 R := by
 induction j with
 | zero =>
  intro T _ hT
  obtain ⟨R, hR, h0⟩ := next T (Lcs.part_rows hT)
  refine ⟨R, Ev.step (f := fun k => spec_l12Table.l0 k a b ((i : Int) - 1) T) (fun k => ?_) hR, h0⟩
  rw [spec_l12Table.l1]
  rw [iq (by omega), w64 (by omega) (by omega)]
 | succ j ih =>
  intro T hj hT
  have e1 : ((j + 1 : Nat) : Int) - 1 = (j : Int) := by omega
  rw [e1]
  by_cases hin : i < a.length ∧ j < b.length
  ·obtain ⟨hi2, hj2⟩ := hin
   obtain ⟨t1, t2, t3, t4, t5⟩ := id hT
   have r1 := t2 (i + 1) (by omega) (by omega)
   have lL := L_le301 (b := b) ha (i + 1) (j + 1)
   have e2 : ((i : Int) + 1) = ((i + 1 : Nat) : Int) := by omega
   have e3 : ((j : Int) + 1) = ((j + 1 : Nat) : Int) := by omega
   have c1 : ((T.getD (i + 1) []).getD j 0) = (Lcs.L a b (i + 1) j : Int) := r1.2 j (by omega)
   have c2 : ((T.getD i []).getD (j + 1) 0) = (Lcs.L a b i (j + 1) : Int) := t4 (j + 1) (by omega) (by omega)
   have c3 : ((T.getD (i + 1) []).getD (j + 1) 0) = (Lcs.L a b (i + 1) (j + 1) : Int) := r1.2 (j + 1) (by omega)
   obtain ⟨R, hR, h0⟩ := ih (Lcs.put T i j (Lcs.L a b i j : Int)) (by omega) (Lcs.part_put hT (by omega) (by omega) rfl)
   refine ⟨R, Ev.step (f := fun k => spec_l12Table.j2 k a b T (i : Int) (j : Int) true) (fun k => ?_) (Ev.step (f := fun k => spec_l12Table.l1 k a b (i : Int) ((j : Int) - 1) (Lcs.put T i j (Lcs.L a b i j : Int))) (fun k => ?_) hR), h0⟩
   ·rw [spec_l12Table.l1]
    rw [ip (by omega), ip (by omega), decide_eq_true (by omega)]
   ·have hL := Lcs.L_max a b i j hi2 hj2
    rw [spec_l12Table.j2]
    rw [ip rfl, ip (by omega), ip (by omega), w64 (x := (i : Int) + 1) (by omega) (by omega), w64 (x := (j : Int) + 1) (by omega) (by omega), w64 (x := (j : Int) - 1) (by omega) (by omega), e2, e3, rdL, rdL, ip (by omega), ip (by omega), ip (by omega), ip (by rw [r1.1]; omega), ip (by omega), ip (by rw [t3]; omega), ip (by rw [t3]; omega)]
    rw [bs, ip (by omega), ip (by omega), rd_nat, rd_nat, rd_nat, rd_nat, c1, c2, mx_eq, Int.toNat_natCast, Int.toNat_natCast]
    have hp : ∀ v, T.set i ((T.getD i []).set j v) = Lcs.put T i j v := fun v => rfl
    rw [hp]
    by_cases he : a.getD i 0 = b.getD j 0
    ·rw [ip he] at hL
     rw [ip he, rdL, rdL, Lcs.put_row _ _ _ _ (by omega), Lcs.put_other _ _ _ _ _ (by omega), ip (by rw [List.length_set, t3]; omega), ip (by rw [r1.1]; omega), rd_nat, rd_nat, c3, lset_self _ _ _ _ (by omega), w64 (by omega) (by omega)]
     have e4 : (1 : Int) + (Lcs.L a b (i + 1) (j + 1) : Int) = ((1 + Lcs.L a b (i + 1) (j + 1) : Nat) : Int) := by omega
     rw [e4, mx_eq, ← hL, ← Lcs.put_row T i j _ (by omega)]
     have hq : ∀ (U : List (List Int)) (v : Int), U.set i ((U.getD i []).set j v) = Lcs.put U i j v := fun _ _ => rfl
     rw [hq, Lcs.put_put _ _ _ _ _ (by omega)]
    ·rw [iq he] at hL
     rw [iq he, hL, Nat.max_zero]
  ·have hz : Lcs.L a b i j = 0 := by
    by_cases h1 : i < a.length
    ·exact Lcs.L_end' a b i j (by omega)
    ·exact Lcs.L_end a b i j (by omega)
   obtain ⟨R, hR, h0⟩ := ih T (by omega) (Lcs.part_skip hT hz)
   refine ⟨R, Ev.step (f := fun k => spec_l12Table.j2 k a b T (i : Int) (j : Int) false) (fun k => ?_) (Ev.step (f := fun k => spec_l12Table.l1 k a b (i : Int) ((j : Int) - 1) T) (fun k => ?_) hR), h0⟩
   ·rw [spec_l12Table.l1]
    rw [ip (by omega)]
    by_cases h1 : i < a.length
    ·rw [ip (by omega), decide_eq_false (by omega)]
    ·rw [iq (by omega)]
   ·rw [spec_l12Table.j2]
    rw [iq (by decide), w64 (by omega) (by omega)]
theorem specTable_l0 (a b : List Int) (ha : a.length ≤ 301) (hb : b.length ≤ 301) (i : Nat) :
  ∀ T, i ≤ a.length + 1 → Lcs.Rows a b i T → ∃ R, Ev (fun k => spec_l12Table.l0 k a b ((i : Int) - 1) T) R ∧ Lcs.Rows a b 0 R := by
 induction i with
 | zero =>
  intro T _ hT
  refine ⟨T, Ev.step (f := fun _ => some T) (fun k => ?_) (Ev.now T), hT⟩
  rw [spec_l12Table.l0]
  rw [iq (by omega)]
 | succ i ih =>
  intro T hi hT
  have e1 : ((i + 1 : Nat) : Int) - 1 = (i : Int) := by omega
  have e2 : ((b.length : Int) + 1) = ((b.length + 1 : Nat) : Int) := by omega
  have e3 : (b.length : Int) = ((b.length + 1 : Nat) : Int) - 1 := by omega
  rw [e1]
  obtain ⟨R, hR, h0⟩ := specTable_l1 a b ha hb i (by omega) (fun T' hT' => ih T' (by omega) hT') (b.length + 1) _ (Nat.le_refl _) (Lcs.rows_part hT (by omega))
  refine ⟨R, Ev.step (f := fun k => spec_l12Table.l1 k a b (i : Int) (((b.length + 1 : Nat) : Int) - 1) (T.set i (List.replicate (b.length + 1) 0))) (fun k => ?_) hR, h0⟩
  rw [spec_l12Table.l0]
  rw [ip (by omega), w64 (by omega) (by omega), ip (by omega), e2, Int.toNat_natCast, ip (by omega), ip (by omega), ip (by have := hT.1; omega), Int.toNat_natCast, e3]
theorem specTable_ev (a b : List Int) (ha : a.length ≤ 301) (hb : b.length ≤ 301) : ∃ R, Ev (fun k => spec_l12Table.f k a b) R ∧ Lcs.Rows a b 0 R := by
 obtain ⟨R, hR, h0⟩ := specTable_l0 a b ha hb (a.length + 1) _ (Nat.le_refl _) (Lcs.rows_none a b)
 have e2 : ((a.length : Int) + 1) = ((a.length + 1 : Nat) : Int) := by omega
 have e3 : (a.length : Int) = ((a.length + 1 : Nat) : Int) - 1 := by omega
 refine ⟨R, Ev.congr (f := fun k => spec_l12Table.l0 k a b (((a.length + 1 : Nat) : Int) - 1) (List.replicate (a.length + 1) [])) (fun k => ?_) hR, h0⟩
 unfold spec_l12Table.f
 rw [w64 (by omega) (by omega), ip (by omega), e2, Int.toNat_natCast, ip (by omega), ← e3]
theorem implTable_l1 (a b : List Int) (ha : a.length ≤ 301) (hb : b.length ≤ 301) (i : Nat) (hi : i < a.length)
  (next : ∀ T, Lcs.Rows a b i T → ∃ R, Ev (fun k => impl_commonTable.l0 k a b ((i : Int) - 1) T) R ∧ Lcs.Rows a b 0 R) (j : Nat) :
  ∀ T, j ≤ b.length → Lcs.Part a b i j T → ∃ R, Ev (fun k => impl_commonTable.l1 k a b (i : Int) ((j : Int) - 1) T) R ∧ Lcs.Rows a b 0 R := by
 induction j with
 | zero =>
  intro T _ hT
  obtain ⟨R, hR, h0⟩ := next T (Lcs.part_rows hT)
  refine ⟨R, Ev.step (f := fun k => impl_commonTable.l0 k a b ((i : Int) - 1) T) (fun k => ?_) hR, h0⟩
  rw [impl_commonTable.l1]
  rw [iq (by omega), w64 (by omega) (by omega)]
 | succ j ih =>
  intro T hj hT
  have e1 : ((j + 1 : Nat) : Int) - 1 = (j : Int) := by omega
  rw [e1]
  obtain ⟨t1, t2, t3, t4, t5⟩ := id hT
  have r1 := t2 (i + 1) (by omega) (by omega)
  have lL := L_le301 (b := b) ha (i + 1) (j + 1)
  have e2 : ((i : Int) + 1) = ((i + 1 : Nat) : Int) := by omega
  have e3 : ((j : Int) + 1) = ((j + 1 : Nat) : Int) := by omega
  have c1 : ((T.getD (i + 1) []).getD j 0) = (Lcs.L a b (i + 1) j : Int) := r1.2 j (by omega)
  have c2 : ((T.getD i []).getD (j + 1) 0) = (Lcs.L a b i (j + 1) : Int) := t4 (j + 1) (by omega) (by omega)
  have c3 : ((T.getD (i + 1) []).getD (j + 1) 0) = (Lcs.L a b (i + 1) (j + 1) : Int) := r1.2 (j + 1) (by omega)
  have hL := Lcs.L_eq a b i j hi (by omega)
  obtain ⟨R, hR, h0⟩ := ih (Lcs.put T i j (Lcs.L a b i j : Int)) (by omega) (Lcs.part_put hT (by omega) (by omega) rfl)
  refine ⟨R, Ev.step (f := fun k => impl_commonTable.l1 k a b (i : Int) ((j : Int) - 1) (Lcs.put T i j (Lcs.L a b i j : Int))) (fun k => ?_) hR, h0⟩
  have hp : ∀ v, T.set i ((T.getD i []).set j v) = Lcs.put T i j v := fun v => rfl
  rw [impl_commonTable.l1]
  rw [ip (by omega), ip (by omega), ip (by omega), ip (by omega), ip (by omega), w64 (x := (i : Int) + 1) (by omega) (by omega), w64 (x := (j : Int) + 1) (by omega) (by omega), w64 (x := (j : Int) - 1) (by omega) (by omega), e2, e3]
  simp only [rdL, rd_nat, c1, c2, c3, mx_eq, Int.toNat_natCast, hp]
  by_cases he : a.getD i 0 = b.getD j 0
  ·rw [ip he] at hL
   rw [ip he, ip (by omega), ip (by omega), ip (by omega), ip (by omega), ip (by rw [r1.1]; omega), ip (by rw [t3]; omega), w64 (by omega) (by omega), hL]
   rfl
  ·rw [iq he] at hL
   rw [iq he, ip (by omega), ip (by omega), ip (by omega), ip (by rw [r1.1]; omega), ip (by omega), ip (by rw [t3]; omega), ip (by rw [t3]; omega), hL]
theorem implTable_l0 (a b : List Int) (ha : a.length ≤ 301) (hb : b.length ≤ 301) (i : Nat) :
  ∀ T, i ≤ a.length → Lcs.Rows a b i T → ∃ R, Ev (fun k => impl_commonTable.l0 k a b ((i : Int) - 1) T) R ∧ Lcs.Rows a b 0 R := by
 induction i with
 | zero =>
  intro T _ hT
  refine ⟨T, Ev.step (f := fun _ => some T) (fun k => ?_) (Ev.now T), hT⟩
  rw [impl_commonTable.l0]
  rw [iq (by omega)]
 | succ i ih =>
  intro T hi hT
  have e1 : ((i + 1 : Nat) : Int) - 1 = (i : Int) := by omega
  have e2 : ((b.length : Int) + 1) = ((b.length + 1 : Nat) : Int) := by omega
  rw [e1]
  obtain ⟨R, hR, h0⟩ := implTable_l1 a b ha hb i (by omega) (fun T' hT' => ih T' (by omega) hT') b.length _ (Nat.le_refl _) (Lcs.part_skip (Lcs.rows_part hT (by omega)) (Lcs.L_end' a b i _ (Nat.le_refl _)))
  refine ⟨R, Ev.step (f := fun k => impl_commonTable.l1 k a b (i : Int) ((b.length : Int) - 1) (T.set i (List.replicate (b.length + 1) 0))) (fun k => ?_) hR, h0⟩
  rw [impl_commonTable.l0]
  rw [ip (by omega), w64 (x := (b.length : Int) + 1) (by omega) (by omega), ip (by omega), e2, Int.toNat_natCast, ip (by omega), ip (by omega), ip (by have := hT.1; omega), Int.toNat_natCast, w64 (by omega) (by omega)]
theorem implTable_ev (a b : List Int) (ha : a.length ≤ 301) (hb : b.length ≤ 301) : ∃ R, Ev (fun k => impl_commonTable.f k a b) R ∧ Lcs.Rows a b 0 R := by
 have h1 := Lcs.rows_part (Lcs.rows_none a b) (Nat.le_refl _)
 obtain ⟨R, hR, h0⟩ := implTable_l0 a b ha hb a.length _ (Nat.le_refl _) (Lcs.part_rows (Lcs.part_zero (fun c => Lcs.L_end a b _ c (Nat.le_refl _)) _ h1))
 have e2 : ((a.length : Int) + 1) = ((a.length + 1 : Nat) : Int) := by omega
 have e3 : ((b.length : Int) + 1) = ((b.length + 1 : Nat) : Int) := by omega
 refine ⟨R, Ev.congr (f := fun k => impl_commonTable.l0 k a b ((a.length : Int) - 1) ((List.replicate (a.length + 1) []).set a.length (List.replicate (b.length + 1) 0))) (fun k => ?_) hR, h0⟩
 unfold impl_commonTable.f
 rw [w64 (x := (a.length : Int) + 1) (by omega) (by omega), w64 (x := (b.length : Int) + 1) (by omega) (by omega), ip (by omega), e2, e3, Int.toNat_natCast, Int.toNat_natCast, Int.toNat_natCast, ip (by omega), bs, ip (by omega), ip (by omega), ip (by omega), ip (by rw [List.length_replicate]; omega), w64 (by omega) (by omega)]
theorem rows_00 {a b : List Int} {R : List (List Int)} (h : Lcs.Rows a b 0 R) : 0 < (R.length : Int) ∧ 0 < ((rd_L4 R 0).length : Int) ∧ rd (rd_L4 R 0) 0 = (Lcs.lcs a b : Int) := by
 have h0 := h.2 0 (by omega) (by omega)
 have e0 : rd_L4 R 0 = R.getD 0 [] := rdL R 0
 have e1 : rd (R.getD 0 []) 0 = (R.getD 0 []).getD 0 0 := rd_nat _ 0
 rw [e0, e1]
 exact ⟨by have := h.1; omega, by have := h0.1; omega, h0.2 0 (by omega)⟩
def lenOf (a b : List Int) : Int := if a.length ≤ 301 ∧ b.length ≤ 301 then (Lcs.lcs a b : Int) else -1
theorem specCommonLen_ev (a b : List Int) : Ev (fun k => spec_CommonLen.f k a b) (lenOf a b) := by
 by_cases ha : a.length ≤ 301
 ·by_cases hb : b.length ≤ 301
  ·obtain ⟨R, hR, h0⟩ := specTable_ev a b ha hb
   obtain ⟨K, hR⟩ := ev_out hR
   obtain ⟨g1, g2, g3⟩ := rows_00 h0
   refine ev_mk K fun k hk => ?_
   unfold spec_CommonLen.f spec_l12Right.f lenOf
   rw [bs, ip (decide_eq_true (by omega)), bs, ip (decide_eq_true (by omega)), hR k hk, bs, ip g1, ip g2, g3, ip ⟨ha, hb⟩]
  ·refine ev_mk 0 fun k _ => ?_
   unfold spec_CommonLen.f spec_l12Right.f lenOf
   rw [bs, ip (decide_eq_true (by omega)), bs, iq (fun h => hb (by have := of_decide_eq_true h; omega)), iq (fun h => hb h.2)]
 ·refine ev_mk 0 fun k _ => ?_
  unfold spec_CommonLen.f spec_l12Right.f lenOf
  rw [bs, iq (fun h => ha (by have := of_decide_eq_true h; omega)), iq (fun h => ha h.1)]
theorem areListed_eq (a b : List Int) : impl_areListed.f a b = some (decide (a.length ≤ 301 ∧ b.length ≤ 301)) := by
 unfold impl_areListed.f
 by_cases ha : a.length ≤ 301
 ·rw [ip (by omega)]
  congr 1
  by_cases hb : b.length ≤ 301
  ·rw [decide_eq_true (by omega), decide_eq_true ⟨ha, hb⟩]
  ·rw [decide_eq_false (by omega), decide_eq_false (fun h => hb h.2)]
 ·rw [iq (by omega), decide_eq_false (fun h => ha h.1)]
theorem rdT56 (l : List S56) (i : Nat) : rd_T56 l (i : Int) = l.getD i z56 := by unfold rd_T56; rw [Int.toNat_natCast]
theorem eqPairS_l0 (l : List S56) (hl : l.length ≤ 4000000) (d : Nat) : ∀ i : Nat, i + d = l.length → Ev (fun k => laws_eqPairS.l0 k l l (i : Int)) true := by
 induction d with
 | zero =>
  intro i h
  refine Ev.step (f := fun _ => some true) (fun k => ?_) (Ev.now true)
  rw [laws_eqPairS.l0, iq (by omega)]
 | succ d ih =>
  intro i h
  refine Ev.step (f := fun k => laws_eqPairS.l0 k l l ((i + 1 : Nat) : Int)) (fun k => ?_) (ih (i + 1) (by omega))
  rw [laws_eqPairS.l0, ip (by omega), ip (by omega), ip (by omega)]
  unfold laws_eqPair.f
  rw [ip rfl, ip rfl, bs, ip rfl, w64 (by omega) (by omega)]
  rfl
theorem eqPairS_ev (l : List S56) (hl : l.length ≤ 4000000) : Ev (fun k => laws_eqPairS.f k l l) true := by
 refine Ev.congr (f := fun k => laws_eqPairS.l0 k l l ((0 : Nat) : Int)) (fun k => ?_) (eqPairS_l0 l hl l.length 0 (by omega))
 unfold laws_eqPairS.f
 rw [ip rfl]
 rfl
def toS (p : Nat × Nat) : S56 := ⟨(p.1 : Int), (p.2 : Int)⟩
theorem index_l0 (b : List Int) (v : Int) (j : Nat) (hj : j ≤ b.length) (hb : b.length ≤ 301) (c : Nat) : ∀ i : Nat, j + i + c = b.length →
  Ev (fun k => slices_Index_int_int.l0 k (b.drop j) v ((b.drop j).length : Int) (i : Int)) (match Lcs.nextAt b v c (j + i) with | none => -1 | some j0 => (j0 : Int) - (j : Int)) := by
 have hlen : (b.drop j).length = b.length - j := List.length_drop
 induction c with
 | zero =>
  intro i h
  refine Ev.step (f := fun _ => some (-1)) (fun k => ?_) (Ev.now _)
  rw [slices_Index_int_int.l0, iq (by omega)]
 | succ c ih =>
  intro i h
  have hr : rd (b.drop j) (i : Int) = b.getD (j + i) 0 := by
   rw [rd_nat, List.getD_eq_getElem?_getD, List.getElem?_drop, ← List.getD_eq_getElem?_getD]
  unfold Lcs.nextAt
  by_cases e : v = b.getD (j + i) 0
  ·rw [ip e]
   refine Ev.step (f := fun _ => some ((i : Nat) : Int)) (fun k => ?_) ?_
   ·rw [slices_Index_int_int.l0, ip (by omega), ip (by omega), ip (by omega), hr, ip e]
   ·have q : ((j + i : Nat) : Int) - (j : Int) = (i : Int) := by omega
    show Ev _ (((j + i : Nat) : Int) - (j : Int))
    rw [q]
    exact Ev.now _
  ·rw [iq e]
   refine Ev.step (f := fun k => slices_Index_int_int.l0 k (b.drop j) v ((b.drop j).length : Int) ((i + 1 : Nat) : Int)) (fun k => ?_) (ih (i + 1) (by omega))
   rw [slices_Index_int_int.l0, ip (by omega), ip (by omega), ip (by omega), hr, iq e, w64 (by omega) (by omega)]
   rfl
theorem index_ev (b : List Int) (v : Int) (j : Nat) (hj : j ≤ b.length) (hb : b.length ≤ 301) :
  Ev (fun k => slices_Index_int_int.f k (b.drop j) v) (match Lcs.nextAt b v (b.length - j) j with | none => -1 | some j0 => (j0 : Int) - (j : Int)) :=
 Ev.congr (f := fun k => slices_Index_int_int.l0 k (b.drop j) v ((b.drop j).length : Int) ((0 : Nat) : Int)) (fun _ => rfl) (index_l0 b v j hj hb (b.length - j) 0 (by omega))
/-- What the table holds at a place. -/
theorem at_table {a b : List Int} {T : List (List Int)} (hT : Lcs.Rows a b 0 T) (i j : Nat) (hi : i ≤ a.length) (hj : j ≤ b.length) :
  ((i : Int) < (T.length : Int)) ∧ ((j : Int) < ((rd_L4 T (i : Int)).length : Int)) ∧ rd (rd_L4 T (i : Int)) (j : Int) = (Lcs.L a b i j : Int) := by
 have h := hT.2 i (by omega) hi
 rw [rdL, rd_nat]
 exact ⟨by have := hT.1; omega, by have := h.1; omega, h.2 j hj⟩
theorem implCommonOf_l0 (a b : List Int) (ha : a.length ≤ 301) (hb : b.length ≤ 301) (T : List (List Int)) (hT : Lcs.Rows a b 0 T) (d : Nat) : ∀ (i j : Nat) (acc : List S56), i + d = a.length → j ≤ b.length → acc.length ≤ i →
  Ev (fun k => impl_commonOf.l0 k a b acc (i : Int) (j : Int) T) (acc ++ (Lcs.firstC a b d i j).map toS) := by
 induction d with
 | zero =>
  intro i j acc h hj hacc
  obtain ⟨t1, t2, t3⟩ := at_table hT i j (by omega) hj
  refine Ev.step (f := fun _ => some (acc ++ [])) (fun k => ?_) (Ev.now _)
  rw [impl_commonOf.l0, ip (by omega), ip t1, ip (by omega), ip t2, t3, Lcs.L_end a b i j (by omega), iq (by decide), List.append_nil]
 | succ d ih =>
  intro i j acc h hj hacc
  obtain ⟨t1, t2, t3⟩ := at_table hT i j (by omega) hj
  by_cases h0 : Lcs.L a b i j = 0
  ·refine Ev.step (f := fun _ => some (acc ++ (Lcs.firstC a b (d + 1) i j).map toS)) (fun k => ?_) (Ev.now _)
   rw [impl_commonOf.l0, ip (by omega), ip t1, ip (by omega), ip t2, t3, h0, iq (by decide), Lcs.firstC_none h0, List.map_nil, List.append_nil]
  ·have hx := index_ev b (a.getD i 0) j hj hb
   cases hn : Lcs.nextAt b (a.getD i 0) (b.length - j) j with
   | none =>
    rw [hn] at hx
    rw [Lcs.firstC_miss h0 hn]
    obtain ⟨K, hK⟩ := ev_out hx
    obtain ⟨K2, hK2⟩ := ev_out (ih (i + 1) j acc (by omega) hj (by omega))
    refine ev_mk (K + K2 + 1) fun k hk => ?_
    obtain ⟨k, rfl⟩ : ∃ m, k = m + 1 := ⟨k - 1, by omega⟩
    rw [impl_commonOf.l0, ip (by omega), ip t1, ip (by omega), ip t2, t3, ip (by omega), ip (by omega), ip (by omega), Int.toNat_natCast, rd_nat, hK k (by omega), bs, iq (by show ¬ (-1 : Int) ≥ 0; decide), w64 (x := (i : Int) + 1) (by omega) (by omega)]
    exact hK2 k (by omega)
   | some j0 =>
    rw [hn] at hx
    obtain ⟨q1, q2, q3, _⟩ := Lcs.nextAt_some b _ _ _ _ hn
    obtain ⟨K, hK⟩ := ev_out hx
    obtain ⟨s1, s2, s3⟩ := at_table hT (i + 1) (j0 + 1) (by omega) (by omega)
    have lL := L_le301 (b := b) ha (i + 1) (j0 + 1)
    have e1 : (match some j0 with | none => (-1 : Int) | some j0 => (j0 : Int) - (j : Int)) = (j0 : Int) - (j : Int) := rfl
    have e2 : (j : Int) + ((j0 : Int) - (j : Int)) = (j0 : Int) := by omega
    have e3 : (i : Int) + 1 = ((i + 1 : Nat) : Int) := by omega
    have e4 : (j0 : Int) + 1 = ((j0 + 1 : Nat) : Int) := by omega
    have e5 : (j : Int) + ((j0 : Int) - (j : Int) + 1) = ((j0 + 1 : Nat) : Int) := by omega
    by_cases e : 1 + Lcs.L a b (i + 1) (j0 + 1) = Lcs.L a b i j
    ·obtain ⟨K2, hK2⟩ := ev_out (ih (i + 1) (j0 + 1) (acc ++ [toS (i, j0)]) (by omega) (by omega) (by simp; omega))
     refine ev_mk (K + K2 + 1) fun k hk => ?_
     obtain ⟨k, rfl⟩ : ∃ m, k = m + 1 := ⟨k - 1, by omega⟩
     rw [impl_commonOf.l0, ip (by omega), ip t1, ip (by omega), ip t2, t3, ip (by omega), ip (by omega), ip (by omega), Int.toNat_natCast, rd_nat, hK k (by omega), bs, e1, ip (by omega), w64 (x := (j : Int) + ((j0 : Int) - (j : Int))) (by omega) (by omega), e2, w64 (x := (i : Int) + 1) (by omega) (by omega), w64 (x := (j0 : Int) + 1) (by omega) (by omega), w64 (x := (j0 : Int) - (j : Int) + 1) (by omega) (by omega), w64 (x := (j : Int) + ((j0 : Int) - (j : Int) + 1)) (by omega) (by omega), e5, e3, e4, ip (by omega), ip s1, ip (by omega), ip s2, s3, w64 (by omega) (by omega), ip (by omega), ip (by omega)]
     have hr := hK2 k (by omega)
     rw [Lcs.firstC_hit h0 hn e, List.map_cons]
     rw [List.append_assoc] at hr
     exact hr
    ·obtain ⟨K2, hK2⟩ := ev_out (ih (i + 1) j acc (by omega) hj (by omega))
     refine ev_mk (K + K2 + 1) fun k hk => ?_
     obtain ⟨k, rfl⟩ : ∃ m, k = m + 1 := ⟨k - 1, by omega⟩
     rw [impl_commonOf.l0, ip (by omega), ip t1, ip (by omega), ip t2, t3, ip (by omega), ip (by omega), ip (by omega), Int.toNat_natCast, rd_nat, hK k (by omega), bs, e1, ip (by omega), w64 (x := (j : Int) + ((j0 : Int) - (j : Int))) (by omega) (by omega), e2, w64 (x := (i : Int) + 1) (by omega) (by omega), w64 (x := (j0 : Int) + 1) (by omega) (by omega), e3, e4, ip (by omega), ip s1, ip (by omega), ip s2, s3, w64 (by omega) (by omega), iq (by omega)]
     rw [Lcs.firstC_pass h0 hn e]
     exact hK2 k (by omega)
theorem implcommonOf_ev (a b : List Int) (ha : a.length ≤ 301) (hb : b.length ≤ 301) : Ev (fun k => impl_commonOf.f k a b) ((Lcs.firstC a b a.length 0 0).map toS) := by
 obtain ⟨T, hT, hR⟩ := implTable_ev a b ha hb
 obtain ⟨K, hK⟩ := ev_out hT
 obtain ⟨K2, hK2⟩ := ev_out (implCommonOf_l0 a b ha hb T hR a.length 0 0 [] (by omega) (by omega) (by simp))
 refine ev_mk (K + K2) fun k hk => ?_
 unfold impl_commonOf.f
 rw [hK k (by omega), bs]
 exact hK2 k (by omega)
/-- The reference's search for the smallest place. -/
def pick (a b : List Int) (x t : Nat) (j : Nat) : Nat → Int → Int
 | 0, y => y
 | c + 1, y => pick a b x t j c (if a.getD x 0 = b.getD (j + c) 0 ∧ 1 + Lcs.L a b (x + 1) (j + c + 1) = t then ((j + c : Nat) : Int) else y)
theorem pick_none (a b : List Int) (x t j : Nat) (c : Nat) : ∀ y, (∀ k, j ≤ k → k < j + c → ¬ (a.getD x 0 = b.getD k 0 ∧ 1 + Lcs.L a b (x + 1) (k + 1) = t)) → pick a b x t j c y = y := by
 induction c with
 | zero => intro y _; rfl
 | succ c ih =>
  intro y h
  unfold pick
  rw [iq (h (j + c) (by omega) (by omega)), ih y (fun k h1 h2 => h k h1 (by omega))]
theorem pick_some (a b : List Int) (x t j j0 : Nat) (h0 : j ≤ j0) (hp : a.getD x 0 = b.getD j0 0 ∧ 1 + Lcs.L a b (x + 1) (j0 + 1) = t) (hq : ∀ k, j ≤ k → k < j0 → ¬ (a.getD x 0 = b.getD k 0 ∧ 1 + Lcs.L a b (x + 1) (k + 1) = t)) (c : Nat) : ∀ y, j0 < j + c → pick a b x t j c y = (j0 : Int) := by
 induction c with
 | zero => intro y h; omega
 | succ c ih =>
  intro y h
  unfold pick
  by_cases e : j0 = j + c
  ·rw [← e, ip hp]
   exact pick_none a b x t j c _ (fun k h1 h2 => hq k h1 (by omega))
  ·exact ih _ (by omega)
theorem specCommonOf_l2 (a b : List Int) (ha : a.length ≤ 301) (hb : b.length ≤ 301) (T : List (List Int)) (hT : Lcs.Rows a b 0 T) (acc : List S56) (i j x : Nat) (hi : i ≤ a.length) (hj : j ≤ b.length) (hx : x < a.length) (R : List S56) (c : Nat) :
  ∀ y : Int, j + c ≤ b.length → Ev (fun k => spec_CommonOf.l1 k a b acc (i : Int) (j : Int) ((x + 1 : Nat) : Int) (pick a b x (Lcs.L a b i j) j c y) T) R →
   Ev (fun k => spec_CommonOf.l2 k a b acc (i : Int) (j : Int) (x : Int) y (((j + c : Nat) : Int) - 1) T) R := by
 induction c with
 | zero =>
  intro y hc h
  refine Ev.step (fun k => ?_) h
  rw [spec_CommonOf.l2, iq (by omega), w64 (by omega) (by omega)]
  rfl
 | succ c ih =>
  intro y hc h
  obtain ⟨t1, t2, t3⟩ := at_table hT i j hi hj
  obtain ⟨s1, s2, s3⟩ := at_table hT (x + 1) (j + c + 1) (by omega) (by omega)
  have lL := L_le301 (b := b) ha (x + 1) (j + c + 1)
  have e0 : ((j + (c + 1) : Nat) : Int) - 1 = ((j + c : Nat) : Int) := by omega
  have e3 : (x : Int) + 1 = ((x + 1 : Nat) : Int) := by omega
  have e4 : ((j + c : Nat) : Int) + 1 = ((j + c + 1 : Nat) : Int) := by omega
  rw [e0]
  by_cases e : a.getD x 0 = b.getD (j + c) 0
  ·by_cases e2 : 1 + Lcs.L a b (x + 1) (j + c + 1) = Lcs.L a b i j
   ·unfold pick at h
    rw [ip ⟨e, e2⟩] at h
    refine Ev.step (fun k => ?_) (ih _ (by omega) h)
    rw [spec_CommonOf.l2, ip (by omega), ip (by omega), ip (by omega), ip (by omega), ip (by omega), rd_nat, rd_nat, ip e, w64 (x := (x : Int) + 1) (by omega) (by omega), w64 (x := ((j + c : Nat) : Int) + 1) (by omega) (by omega), e3, e4, ip (by omega), ip s1, ip (by omega), ip s2, ip (by omega), ip t1, ip (by omega), ip t2, s3, t3, w64 (x := 1 + (Lcs.L a b (x + 1) (j + c + 1) : Int)) (by omega) (by omega), ip (by omega), w64 (by omega) (by omega)]
   ·unfold pick at h
    rw [iq (fun q => e2 q.2)] at h
    refine Ev.step (fun k => ?_) (ih _ (by omega) h)
    rw [spec_CommonOf.l2, ip (by omega), ip (by omega), ip (by omega), ip (by omega), ip (by omega), rd_nat, rd_nat, ip e, w64 (x := (x : Int) + 1) (by omega) (by omega), w64 (x := ((j + c : Nat) : Int) + 1) (by omega) (by omega), e3, e4, ip (by omega), ip s1, ip (by omega), ip s2, ip (by omega), ip t1, ip (by omega), ip t2, s3, t3, w64 (x := 1 + (Lcs.L a b (x + 1) (j + c + 1) : Int)) (by omega) (by omega), iq (by omega), w64 (by omega) (by omega)]
  ·unfold pick at h
   rw [iq (fun q => e q.1)] at h
   refine Ev.step (fun k => ?_) (ih _ (by omega) h)
   rw [spec_CommonOf.l2, ip (by omega), ip (by omega), ip (by omega), ip (by omega), ip (by omega), rd_nat, rd_nat, iq e, w64 (by omega) (by omega)]
/-- From element x on, where what is left is as much as at i: what is shown of d elements. -/
def Goes (a b : List Int) (T : List (List Int)) (d : Nat) : Prop := ∀ (i j x : Nat) (acc : List S56), x + d = a.length → i ≤ x → j ≤ b.length → acc.length ≤ i → Lcs.L a b x j = Lcs.L a b i j → Lcs.L a b i j ≠ 0 →
  Ev (fun k => spec_CommonOf.l1 k a b acc (i : Int) (j : Int) (x : Int) (-1) T) (acc ++ (Lcs.firstC a b d x j).map toS)
theorem specCommonOf_go (a b : List Int) (ha : a.length ≤ 301) (hb : b.length ≤ 301) (T : List (List Int)) (hT : Lcs.Rows a b 0 T) (d : Nat) (hq : Goes a b T d) (i j : Nat) (acc : List S56) (h : i + d = a.length) (hj : j ≤ b.length) (hacc : acc.length ≤ i) :
  Ev (fun k => spec_CommonOf.l0 k a b acc (i : Int) (j : Int) T) (acc ++ (Lcs.firstC a b d i j).map toS) := by
 obtain ⟨t1, t2, t3⟩ := at_table hT i j (by omega) hj
 by_cases h0 : Lcs.L a b i j = 0
 ·refine Ev.step (f := fun _ => some (acc ++ (Lcs.firstC a b d i j).map toS)) (fun k => ?_) (Ev.now _)
  rw [spec_CommonOf.l0, ip (by omega), ip t1, ip (by omega), ip t2, t3, h0, iq (by decide), Lcs.firstC_none h0, List.map_nil, List.append_nil]
 ·refine Ev.step (fun k => ?_) (hq i j i acc h (Nat.le_refl _) hj hacc rfl h0)
  rw [spec_CommonOf.l0, ip (by omega), ip t1, ip (by omega), ip t2, t3, ip (by omega)]
/-- From element x on, where what is left is as much as at i. -/
theorem specCommonOf_l1 (a b : List Int) (ha : a.length ≤ 301) (hb : b.length ≤ 301) (T : List (List Int)) (hT : Lcs.Rows a b 0 T) (d : Nat) : Goes a b T d := by
 induction d with
 | zero => intro i j x acc h hi hj hacc he h0; rw [Lcs.L_end a b x j (by omega)] at he; exact absurd he.symm h0
 | succ d ih =>
  intro i j x acc h hi hj hacc he h0
  have h0' : Lcs.L a b x j ≠ 0 := by rw [he]; exact h0
  have hf := Lcs.L_first a b x (by omega) (b.length - j) j (by omega)
  refine Ev.step (f := fun k => spec_CommonOf.l2 k a b acc (i : Int) (j : Int) (x : Int) (-1) (((j + (b.length - j) : Nat) : Int) - 1) T) (fun k => ?_) (specCommonOf_l2 a b ha hb T hT acc i j x (by omega) hj (by omega) _ (b.length - j) (-1) (by omega) ?_)
  ·rw [spec_CommonOf.l1, ip (by decide), w64 (by omega) (by omega)]
   congr 1
   omega
  ·have over : ∀ j0, j ≤ j0 → a.getD x 0 = b.getD j0 0 → j0 < b.length → ∀ k, j0 ≤ k → 1 + Lcs.L a b (x + 1) (k + 1) ≤ 1 + Lcs.L a b (x + 1) (j0 + 1) := fun j0 _ _ _ k hk => by have := Lcs.L_mono' a b (x + 1) (j0 + 1) (k + 1) (by omega); omega
   cases hn : Lcs.nextAt b (a.getD x 0) (b.length - j) j with
   | none =>
    rw [hn] at hf
    have hno := Lcs.nextAt_none b _ _ _ hn
    rw [pick_none a b x _ j _ _ (fun k h1 h2 q => hno k h1 h2 q.1), Lcs.firstC_miss h0' hn]
    have hf' : Lcs.L a b x j = Lcs.L a b (x + 1) j := hf
    exact ih i j (x + 1) acc (by omega) (by omega) hj hacc (by omega) h0
   | some j0 =>
    rw [hn] at hf
    obtain ⟨q1, q2, q3, q4⟩ := Lcs.nextAt_some b _ _ _ _ hn
    have hf' : Lcs.L a b x j = max (Lcs.L a b (x + 1) j) (1 + Lcs.L a b (x + 1) (j0 + 1)) := hf
    by_cases e : 1 + Lcs.L a b (x + 1) (j0 + 1) = Lcs.L a b x j
    ·rw [pick_some a b x _ j j0 q1 ⟨q3, by omega⟩ (fun k h1 h2 q => q4 k h1 h2 q.1) _ _ (by omega), Lcs.firstC_hit h0' hn e, List.map_cons]
     obtain ⟨K, hK⟩ := ev_out (specCommonOf_go a b ha hb T hT d ih (x + 1) (j0 + 1) (acc ++ [toS (x, j0)]) (by omega) (by omega) (by simp; omega))
     refine ev_mk (K + 1) fun k hk => ?_
     obtain ⟨k, rfl⟩ : ∃ m, k = m + 1 := ⟨k - 1, by omega⟩
     have hr := hK k (by omega)
     rw [spec_CommonOf.l1, iq (by omega), ip (by omega), w64 (by omega) (by omega), w64 (by omega) (by omega)]
     rw [List.append_assoc] at hr
     have e6 : ((x + 1 : Nat) : Int) - 1 = (x : Int) := by omega
     rw [e6]
     exact hr
    ·rw [pick_none a b x _ j _ _ (fun k h1 h2 q => ?_), Lcs.firstC_pass h0' hn e]
     ·exact ih i j (x + 1) acc (by omega) (by omega) hj hacc (by omega) h0
     ·by_cases hk : j0 ≤ k
      ·have := over j0 q1 q3 (by omega) k hk
       have := q.2
       omega
      ·exact q4 k h1 (by omega) q.1
def pairsOf (a b : List Int) : List S56 := if a.length ≤ 301 ∧ b.length ≤ 301 then (Lcs.firstC a b a.length 0 0).map toS else []
theorem pairsOf_len (a b : List Int) : (pairsOf a b).length ≤ 301 := by
 unfold pairsOf
 by_cases h : a.length ≤ 301 ∧ b.length ≤ 301
 ·rw [ip h, List.length_map, Lcs.firstC_length a b a.length 0 0 (by omega) (by omega)]
  exact L_le301 h.1 0 0
 ·rw [iq h]
  simp
theorem specCommonOf_ev (a b : List Int) : Ev (fun k => spec_CommonOf.f k a b) (pairsOf a b) := by
 have no : ∀ (h : ¬ (a.length ≤ 301 ∧ b.length ≤ 301)), Ev (fun k => spec_CommonOf.j0 k a b true) (pairsOf a b) := fun h => by
  refine Ev.step (f := fun _ => some (pairsOf a b)) (fun k => ?_) (Ev.now _)
  unfold pairsOf
  rw [spec_CommonOf.j0, ip rfl, iq h]
 by_cases ha : a.length ≤ 301
 ·by_cases hb : b.length ≤ 301
  ·obtain ⟨T, hT, hR⟩ := specTable_ev a b ha hb
   obtain ⟨K, hK⟩ := ev_out hT
   obtain ⟨K2, hK2⟩ := ev_out (specCommonOf_go a b ha hb T hR a.length (specCommonOf_l1 a b ha hb T hR a.length) 0 0 [] (by omega) (by omega) (by simp))
   refine ev_mk (K + K2 + 1) fun k hk => ?_
   obtain ⟨k, rfl⟩ : ∃ m, k = m + 1 := ⟨k - 1, by omega⟩
   unfold spec_CommonOf.f spec_l12Right.f pairsOf
   rw [bs, ip (decide_eq_true (by omega)), bs, decide_eq_true (by omega), Bool.not_true, spec_CommonOf.j0, iq (by decide), hK k (by omega), bs, ip ⟨ha, hb⟩]
   exact hK2 k (by omega)
  ·obtain ⟨K, hK⟩ := ev_out (no (fun h => hb h.2))
   refine ev_mk K fun k hk => ?_
   unfold spec_CommonOf.f spec_l12Right.f
   rw [bs, ip (decide_eq_true (by omega)), bs, decide_eq_false (by omega), Bool.not_false]
   exact hK k hk
 ·obtain ⟨K, hK⟩ := ev_out (no (fun h => ha h.1))
  refine ev_mk K fun k hk => ?_
  unfold spec_CommonOf.f spec_l12Right.f
  rw [bs, iq (fun h => ha (by have := of_decide_eq_true h; omega))]
  exact hK k hk
def withinOf (a b : List Int) (budget : Int) : List S56 := if a.length ≤ 301 ∧ b.length ≤ 301 then (if (a.length : Int) + (b.length : Int) - 2 * (Lcs.lcs a b : Int) > budget then [] else pairsOf a b) else []
theorem pairsOf_lcs {a b : List Int} (h : a.length ≤ 301 ∧ b.length ≤ 301) : (pairsOf a b).length = Lcs.lcs a b := by
 unfold pairsOf
 rw [ip h, List.length_map, Lcs.firstC_length a b a.length 0 0 (by omega) (by omega), Lcs.L_zero]
theorem withinOf_len (a b : List Int) (budget : Int) : (withinOf a b budget).length ≤ 301 := by
 have := pairsOf_len a b
 unfold withinOf
 split
 ·split
  ·simp
  ·exact this
 ·simp
theorem specCommonWithin_ev (a b : List Int) (budget : Int) : Ev (fun k => spec_CommonWithin.f k a b budget) (withinOf a b budget) := by
 obtain ⟨K, hK⟩ := ev_out (specCommonLen_ev a b)
 obtain ⟨K2, hK2⟩ := ev_out (specCommonOf_ev a b)
 refine ev_mk (K + K2) fun k hk => ?_
 unfold spec_CommonWithin.f withinOf
 rw [hK k (by omega), bs]
 unfold lenOf
 by_cases h : a.length ≤ 301 ∧ b.length ≤ 301
 ·have hl := Lcs.lcs_le_left a b
  rw [ip h, ip h, iq (by omega), w64 (x := 2 * (Lcs.lcs a b : Int)) (by omega) (by omega), w64 (x := (a.length : Int) + (b.length : Int)) (by omega) (by omega), w64 (by omega) (by omega)]
  by_cases g : (a.length : Int) + (b.length : Int) - 2 * (Lcs.lcs a b : Int) > budget
  ·rw [ip g, ip g]
  ·rw [iq g, iq g, hK2 k (by omega), bs]
 ·rw [iq h, iq h, ip (by decide)]
theorem implCommonWithin_ev (a b : List Int) (budget : Int) : Ev (fun k => impl_CommonWithin.f k a b budget) (withinOf a b budget) := by
 by_cases h : a.length ≤ 301 ∧ b.length ≤ 301
 ·obtain ⟨K, hK⟩ := ev_out (implcommonOf_ev a b h.1 h.2)
  have hp : pairsOf a b = (Lcs.firstC a b a.length 0 0).map toS := ip h
  have hl := pairsOf_lcs h
  have hL := Lcs.lcs_le_left a b
  refine ev_mk K fun k hk => ?_
  unfold impl_CommonWithin.f withinOf
  rw [areListed_eq, bs, ip (decide_eq_true h), hK k hk, bs, ip h, ← hp, hl, w64 (x := 2 * (Lcs.lcs a b : Int)) (by omega) (by omega), w64 (x := (a.length : Int) + (b.length : Int)) (by omega) (by omega), w64 (by omega) (by omega)]
  by_cases g : (a.length : Int) + (b.length : Int) - 2 * (Lcs.lcs a b : Int) > budget
  ·rw [ip g, ip g]
  ·rw [iq g, iq g]
 ·refine ev_mk 0 fun k _ => ?_
  unfold impl_CommonWithin.f withinOf
  rw [areListed_eq, bs, iq (by rw [decide_eq_false h]; decide), iq h]
def bwtAt (l : List Int) (r : Int) : Int := if r = 0 then 0 else l.getD (r - 1).toNat 0 + 1
def bwtL (l : List Int) : List Int := (rowsOf l).map (bwtAt l)
theorem bwtL_len (l : List Int) : (bwtL l).length = l.length + 1 := by unfold bwtL; rw [List.length_map, rowsOf_len]
theorem bwtL_at (l : List Int) (i : Nat) (h : i < l.length + 1) : (bwtL l).getD i 0 = bwtAt l ((rowsOf l).getD i 0) := by
 rw [lget_lt _ i 0 (by rw [bwtL_len]; exact h), lget_lt _ i 0 (by rw [rowsOf_len]; exact h)]
 simp [bwtL]
theorem byte_at {l : List Int} (hb : bytesOk l) (i : Nat) : 0 ≤ l.getD i 0 ∧ l.getD i 0 < 256 := by
 by_cases h : i < l.length
 ·rw [lget_lt l i 0 h]
  exact hb _ (List.getElem_mem _)
 ·rw [List.getD_eq_getElem?_getD, List.getElem?_eq_none (by omega)]
  decide
theorem specBwt_l0 (l : List Int) (hl : l.length ≤ 300) (hb : bytesOk l) (d : Nat) : ∀ i : Nat, i + d = l.length + 1 → Ev (fun k => spec_BwtOf.l0 k l ((bwtL l).take i) (i : Int) (rowsOf l)) (bwtL l) := by
 have hR := rowsOf_len l
 have hL := bwtL_len l
 induction d with
 | zero =>
  intro i h
  refine Ev.step (f := fun _ => some _) (fun k => ?_) (Ev.now _)
  rw [spec_BwtOf.l0, iq (by omega), List.take_of_length_le (by omega)]
 | succ d ih =>
  intro i h
  have hat := bwtL_at l i (by omega)
  obtain ⟨a0, a1⟩ := rowsOf_at l i (by omega)
  refine Ev.step (fun k => ?_) (ih (i + 1) (by omega))
  rw [take_succ_getD _ 0 i (by omega), hat, spec_BwtOf.l0, ip (by omega), ip (by omega), rd_nat]
  unfold bwtAt
  by_cases c : (rowsOf l).getD i 0 = 0
  ·rw [ip c, ip c, ip (by rw [List.length_take]; omega), w64 (by omega) (by omega)]
   rfl
  ·rw [iq c, iq c, w64 (by omega) (by omega), ip (by omega), ip (by omega), ip (by rw [List.length_take]; omega)]
   have hx := byte_at hb ((rowsOf l).getD i 0 - 1).toNat
   have hr : rd l ((rowsOf l).getD i 0 - 1) = l.getD ((rowsOf l).getD i 0 - 1).toNat 0 := rfl
   rw [hr]
   generalize l.getD ((rowsOf l).getD i 0 - 1).toNat 0 = x at hx ⊢
   rw [w64 (x := x) (by omega) (by omega), w64 (x := x + 1) (by omega) (by omega), w64 (by omega) (by omega)]
   rfl
theorem specBwt_ev (l : List Int) (hl : l.length ≤ 300) (hb : bytesOk l) : Ev (fun k => spec_BwtOf.f k l) (bwtL l) := by
 obtain ⟨K, hK⟩ := ev_out (specRows_ev l hl)
 obtain ⟨K2, hK2⟩ := ev_out (specBwt_l0 l hl hb (l.length + 1) 0 (by omega))
 refine ev_mk (K + K2) fun k hk => ?_
 unfold spec_BwtOf.f
 rw [hK k (by omega), bs]
 exact hK2 k (by omega)
theorem implBwt_l0 (l : List Int) (hl : l.length ≤ 300) (hb : bytesOk l) (d : Nat) : ∀ i : Nat, i + d = l.length + 1 → Ev (fun k => impl_bwtOf.l0 k l ((bwtL l).take i) (rowsOf l) ((rowsOf l).length : Int) (i : Int)) (bwtL l) := by
 have hR := rowsOf_len l
 have hL := bwtL_len l
 induction d with
 | zero =>
  intro i h
  refine Ev.step (f := fun _ => some _) (fun k => ?_) (Ev.now _)
  rw [impl_bwtOf.l0, iq (by omega), List.take_of_length_le (by omega)]
 | succ d ih =>
  intro i h
  have hat := bwtL_at l i (by omega)
  obtain ⟨a0, a1⟩ := rowsOf_at l i (by omega)
  refine Ev.step (fun k => ?_) (ih (i + 1) (by omega))
  rw [take_succ_getD _ 0 i (by omega), hat, impl_bwtOf.l0, ip (by omega), ip (by omega), ip (by omega), rd_nat]
  unfold bwtAt
  by_cases c : (rowsOf l).getD i 0 = 0
  ·rw [ip c, ip c, ip (by rw [List.length_take]; omega), w64 (by omega) (by omega)]
   rfl
  ·rw [iq c, iq c, w64 (by omega) (by omega), ip (by omega), ip (by omega), ip (by rw [List.length_take]; omega)]
   have hx := byte_at hb ((rowsOf l).getD i 0 - 1).toNat
   have hr : rd l ((rowsOf l).getD i 0 - 1) = l.getD ((rowsOf l).getD i 0 - 1).toNat 0 := rfl
   rw [hr]
   generalize l.getD ((rowsOf l).getD i 0 - 1).toNat 0 = x at hx ⊢
   rw [w64 (x := x) (by omega) (by omega), w64 (x := x + 1) (by omega) (by omega), w64 (by omega) (by omega)]
   rfl
theorem implBwt_ev (l : List Int) (hl : l.length ≤ 300) (hb : bytesOk l) : Ev (fun k => impl_bwtOf.f k l) (bwtL l) := by
 obtain ⟨K, hK⟩ := ev_out (implRows_ev l hl hb)
 obtain ⟨K2, hK2⟩ := ev_out (implBwt_l0 l hl hb (l.length + 1) 0 (by omega))
 refine ev_mk (K + K2) fun k hk => ?_
 unfold impl_bwtOf.f
 rw [hK k (by omega), bs]
 exact hK2 k (by omega)
theorem rdL2 (T : List (List Int)) (i : Nat) : rd_L2 T (i : Int) = T.getD i [] := by unfold rd_L2; rw [Int.toNat_natCast]
theorem mid_take (l : List Int) (r d m : Nat) (h : r ≤ l.length) (hm : m = min l.length (r + d)) : (l.take m).drop r = (l.drop r).take d := by
 rw [List.drop_take, hm]
 by_cases c : r + d ≤ l.length
 ·rw [Nat.min_eq_right c, Nat.add_sub_cancel_left]
 ·rw [Nat.min_eq_left (by omega), List.take_of_length_le (by rw [List.length_drop]; omega), List.take_of_length_le (by rw [List.length_drop]; omega)]
theorem mn_min (a b : Nat) : mn (a : Int) (b : Int) = ((min a b : Nat) : Int) := by unfold mn; split <;> omega
theorem specHead_eq (l : List Int) (hl : l.length ≤ 300) (r d : Int) (a0 : 0 ≤ r) (a1 : r ≤ l.length) (h0 : 0 ≤ d) (h8 : d ≤ 8) : spec_l13Head.f l r d = some ((l.drop r.toNat).take d.toNat) := by
 obtain ⟨r, rfl⟩ := Int.eq_ofNat_of_zero_le a0
 obtain ⟨d, rfl⟩ := Int.eq_ofNat_of_zero_le h0
 unfold spec_l13Head.f
 rw [w64 (by omega) (by omega), ← Int.natCast_add, mn_min, ip (by omega), ip (by omega), ip (by omega), Int.toNat_natCast, Int.toNat_natCast, Int.toNat_natCast, mid_take l r d _ (by omega) rfl]
theorem specHeads_l0 (l : List Int) (hl : l.length ≤ 300) (d : Int) (h0 : 0 ≤ d) (h8 : d ≤ 8) (n : Nat) : ∀ i : Nat, i + n = l.length + 1 → Ev (fun k => spec_l13Heads.l0 k l d ((headsOf l d.toNat).take i) (i : Int) (rowsOf l)) (headsOf l d.toNat) := by
 have hR := rowsOf_len l
 have hL := headsOf_len l d.toNat
 induction n with
 | zero =>
  intro i h
  refine Ev.step (f := fun _ => some _) (fun k => ?_) (Ev.now _)
  rw [spec_l13Heads.l0, iq (by omega), List.take_of_length_le (by omega)]
 | succ n ih =>
  intro i h
  have hat := headsOf_at l d.toNat i (by omega)
  obtain ⟨a0, a1⟩ := rowsOf_at l i (by omega)
  refine Ev.step (fun k => ?_) (ih (i + 1) (by omega))
  rw [take_succ_getD _ [] i (by omega), hat, spec_l13Heads.l0, ip (by omega), ip (by omega), rd_nat, specHead_eq l hl _ d a0 a1 h0 h8, bs, ip (by rw [List.length_take]; omega), w64 (by omega) (by omega)]
  rfl
theorem specHeads_ev (l : List Int) (hl : l.length ≤ 300) (d : Int) (h0 : 0 ≤ d) (h8 : d ≤ 8) : Ev (fun k => spec_l13Heads.f k l d) (headsOf l d.toNat) := by
 obtain ⟨K, hK⟩ := ev_out (specRows_ev l hl)
 obtain ⟨K2, hK2⟩ := ev_out (specHeads_l0 l hl d h0 h8 (l.length + 1) 0 (by omega))
 refine ev_mk (K + K2) fun k hk => ?_
 unfold spec_l13Heads.f
 rw [hK k (by omega), bs]
 exact hK2 k (by omega)
def headsS (l : List Int) (d : Int) : List ByteArray := (headsOf l d.toNat).map strOfNums
theorem headsS_len (l : List Int) (d : Int) : (headsS l d).length = l.length + 1 := by unfold headsS; rw [List.length_map, headsOf_len]
theorem headsS_at (l : List Int) (d : Int) (i : Nat) (h : i < l.length + 1) : (headsS l d).getD i ByteArray.empty = strOfNums ((headsOf l d.toNat).getD i []) := by
 rw [lget_lt _ i _ (by rw [headsS_len]; exact h), lget_lt _ i _ (by rw [headsOf_len]; exact h)]
 simp [headsS]
theorem implHeads_l0 (l : List Int) (hl : l.length ≤ 300) (d : Int) (h0 : 0 ≤ d) (h8 : d ≤ 8) (n : Nat) : ∀ i : Nat, i + n = l.length + 1 → Ev (fun k => impl_heads.l0 k l d ((headsS l d).take i) (rowsOf l) ((rowsOf l).length : Int) (i : Int)) (headsS l d) := by
 have hR := rowsOf_len l
 have hL := headsS_len l d
 induction n with
 | zero =>
  intro i h
  refine Ev.step (f := fun _ => some _) (fun k => ?_) (Ev.now _)
  rw [impl_heads.l0, iq (by omega), List.take_of_length_le (by omega)]
 | succ n ih =>
  intro i h
  have hat := headsOf_at l d.toNat i (by omega)
  obtain ⟨a0, a1⟩ := rowsOf_at l i (by omega)
  refine Ev.step (fun k => ?_) (ih (i + 1) (by omega))
  rw [take_succ_getD _ ByteArray.empty i (by omega), headsS_at l d i (by omega), hat, impl_heads.l0, ip (by omega), ip (by omega), ip (by omega), rd_nat]
  generalize (rowsOf l).getD i 0 = r at a0 a1 ⊢
  obtain ⟨r, rfl⟩ := Int.eq_ofNat_of_zero_le a0
  obtain ⟨d, rfl⟩ := Int.eq_ofNat_of_zero_le h0
  rw [w64 (x := (r : Int) + (d : Int)) (by omega) (by omega), ← Int.natCast_add, mn_min, ip (by omega), ip (by omega), ip (by omega), ip (by rw [List.length_take]; omega), Int.toNat_natCast, Int.toNat_natCast, Int.toNat_natCast, mid_take l r d _ (by omega) (Nat.min_comm _ _), w64 (by omega) (by omega)]
  rfl
theorem implHeads_ev (l : List Int) (hl : l.length ≤ 300) (hb : bytesOk l) (d : Int) (h0 : 0 ≤ d) (h8 : d ≤ 8) : Ev (fun k => impl_heads.f k l d) (headsS l d) := by
 obtain ⟨K, hK⟩ := ev_out (implRows_ev l hl hb)
 obtain ⟨K2, hK2⟩ := ev_out (implHeads_l0 l hl d h0 h8 (l.length + 1) 0 (by omega))
 refine ev_mk (K + K2) fun k hk => ?_
 unfold impl_heads.f
 rw [hK k (by omega), bs]
 exact hK2 k (by omega)
theorem headsS_num (l : List Int) (hb : bytesOk l) (d : Int) : (headsS l d).map bytesOf = headsOf l d.toNat := by
 unfold headsS
 rw [List.map_map]
 refine (List.map_congr_left fun x hx => ?_).trans (List.map_id _)
 exact Ws.num_of x fun y hy => hb y ((headsOf_mem hx).2 y hy)
theorem headsS_size (l : List Int) (d : Int) (x : ByteArray) (hx : x ∈ headsS l d) : x.size ≤ l.length := by
 obtain ⟨y, hy, rfl⟩ := List.mem_map.1 hx
 rw [strOfNums_size]
 exact (headsOf_mem hy).1
/-- Small words. -/
def Smalls (ws : LL) : Prop := ws.length ≤ 1000 ∧ ∀ x ∈ ws, x.length ≤ 300
theorem Smalls.at {ws : LL} (h : Smalls ws) (i : Nat) : (ws.getD i []).length ≤ 300 := by
 by_cases c : i < ws.length
 ·rw [lget_lt ws i [] c]
  exact h.2 _ (List.getElem_mem c)
 ·rw [List.getD_eq_getElem?_getD, List.getElem?_eq_none (by omega)]
  decide
theorem smalls_heads (l : List Int) (hl : l.length ≤ 300) (d : Nat) : Smalls (headsOf l d) := ⟨by rw [headsOf_len]; omega, fun x hx => by have := (headsOf_mem hx).1; omega⟩
theorem smalls_words {hs_ : LL} (h : Smalls hs_) : Smalls (wordsL hs_) := ⟨Nat.le_trans (wordsL_le _) h.1, fun x hx => h.2 x ((wordsL_mem _ _).1 hx)⟩
theorem wordsL_snoc (a : LL) (x : List Int) : wordsL (a ++ [x]) = insW x (wordsL a) := by unfold wordsL; rw [List.foldl_append]; rfl
theorem loOf_snoc (a : LL) (x w : List Int) : loOf (a ++ [x]) w = loOf a w + (if Fv.cmpB x w < 0 then 1 else 0) := by
 unfold loOf
 rw [List.countP_append, List.countP_singleton]
 by_cases c : Fv.cmpB x w < 0 <;> simp [c]
theorem hiOf_snoc (a : LL) (x w : List Int) : hiOf (a ++ [x]) w = hiOf a w + (if Fv.cmpB x w ≤ 0 then 1 else 0) := by
 unfold hiOf
 rw [List.countP_append, List.countP_singleton]
 by_cases c : Fv.cmpB x w ≤ 0 <;> simp [c]
theorem specSpan_l0 (hs_ : LL) (w : List Int) (hh : Smalls hs_) (hw : w.length ≤ 300) (n : Nat) : ∀ i : Nat, i + n = hs_.length → Ev (fun k => spec_l13Span.l0 k hs_ w (loOf (hs_.take i) w : Int) (hiOf (hs_.take i) w : Int) (i : Int)) ((loOf hs_ w : Int), (hiOf hs_ w : Int)) := by
 induction n with
 | zero =>
  intro i h
  refine Ev.step (f := fun _ => some _) (fun k => ?_) (Ev.now _)
  rw [spec_l13Span.l0, iq (by omega), List.take_of_length_le (by omega)]
 | succ n ih =>
  intro i h
  have h1 := ih (i + 1) (by omega)
  have l1 := lo_le (hs_.take i) w
  have l2 := hi_le (hs_.take i) w
  have l3 : (hs_.take i).length ≤ 1000 := by rw [List.length_take]; have := hh.1; omega
  have l4 := hh.1
  rw [take_succ_getD hs_ [] i (by omega), loOf_snoc, hiOf_snoc] at h1
  have hx := hh.at i
  obtain ⟨K, hK⟩ := ev_out (specCmp_ev (hs_.getD i []) w (by omega) (by omega))
  obtain ⟨K2, hK2⟩ := ev_out h1
  refine ev_mk (K + K2 + 2) fun k hk => ?_
  obtain ⟨k, rfl⟩ : ∃ m, k = m + 2 := ⟨k - 2, by omega⟩
  have hk2 := hK2 k (by omega)
  rw [spec_l13Span.l0, ip (by omega), ip (by omega), rdL2, hK (k + 1) (by omega), bs]
  generalize Fv.cmpB (hs_.getD i []) w = c at hk2 ⊢
  generalize loOf (hs_.take i) w = u at l1 hk2 ⊢
  generalize hiOf (hs_.take i) w = v at l1 l2 hk2 ⊢
  by_cases c1 : c < 0
  ·rw [ip c1, ip (by omega)] at hk2
   rw [ip c1, spec_l13Span.j1, ip (by omega), w64 (by omega) (by omega), w64 (by omega) (by omega), w64 (by omega) (by omega)]
   exact hk2
  ·by_cases c2 : c ≤ 0
   ·rw [iq c1, ip c2] at hk2
    rw [iq c1, spec_l13Span.j1, ip c2, w64 (by omega) (by omega), w64 (by omega) (by omega)]
    exact hk2
   ·rw [iq c1, iq c2] at hk2
    rw [iq c1, spec_l13Span.j1, iq c2, w64 (by omega) (by omega)]
    exact hk2
theorem specSpan_ev (hs_ : LL) (w : List Int) (hh : Smalls hs_) (hw : w.length ≤ 300) : Ev (fun k => spec_l13Span.f k hs_ w) ((loOf hs_ w : Int), (hiOf hs_ w : Int)) := specSpan_l0 hs_ w hh hw hs_.length 0 (by omega)
def partOf (A B : LL) (w : List Int) : S48 := ⟨w, loOf A w, hiOf A w, loOf B w, hiOf B w⟩
def partsL (A B : LL) : List S48 := (wordsL (A ++ B)).map (partOf A B)
theorem partsL_len (A B : LL) : (partsL A B).length = (wordsL (A ++ B)).length := by unfold partsL; rw [List.length_map]
theorem partsL_at (A B : LL) (i : Nat) (h : i < (wordsL (A ++ B)).length) : (partsL A B).getD i z48 = partOf A B ((wordsL (A ++ B)).getD i []) := by
 rw [lget_lt _ i _ (by rw [partsL_len]; exact h), lget_lt _ i _ h]
 simp [partsL]
theorem smalls_app {A B : LL} (h : (A ++ B).length ≤ 1000) (hA : Smalls A) (hB : Smalls B) : Smalls (A ++ B) := ⟨h, fun x hx => by
 rcases List.mem_append.1 hx with hx | hx
 ·exact hA.2 x hx
 ·exact hB.2 x hx⟩
/-- Where the search for a word's place stands. -/
def Stand (ws : LL) (x : List Int) (j : Nat) (f : Bool) : Prop := (f = false ∧ ∀ i, i < j → Fv.cmpB (ws.getD i []) x < 0) ∨ (f = true ∧ insW x ws = ws)
theorem specParts_j2 (ws A B H : LL) (i j : Nat) (f : Bool) (hw : ws.length ≤ 2000) (hi : i < H.length) (hH : H.length ≤ 1000) (hj : j ≤ ws.length) (hs : Stand ws (H.getD i []) j f) (hx : f = false → j < ws.length → 0 < Fv.cmpB (ws.getD j []) (H.getD i [])) (r : List S48)
  (hr : Ev (fun k => spec_Parts.l0 k (insW (H.getD i []) ws) ((i + 1 : Nat) : Int) A B H) r) : Ev (fun k => spec_Parts.j2 k A B H ws (i : Int) (j : Int) f) r := by
 rcases hs with ⟨rfl, h1⟩ | ⟨rfl, h1⟩
 ·rw [insW_new _ ws j hj h1 (hx rfl)] at hr
  refine Ev.step (fun k => ?_) hr
  rw [spec_Parts.j2, iq (by decide), ip (by omega), ip (by omega), bs, ip (by omega), ip (by omega), bs, Int.toNat_natCast, ip (by simp; omega), bs, bs, bs, ip (by simp; omega), bs, ip (by simp; omega), w64 (by omega) (by omega), rdL2]
  simp
 ·rw [h1] at hr
  refine Ev.step (fun k => ?_) hr
  rw [spec_Parts.j2, ip rfl, w64 (by omega) (by omega)]
  rfl
theorem specParts_l1 (ws A B H : LL) (i : Nat) (hw : ws.length ≤ 2000) (hs : ∀ x ∈ ws, x.length ≤ 300) (hi : i < H.length) (hH : Smalls H) (r : List S48)
  (hr : Ev (fun k => spec_Parts.l0 k (insW (H.getD i []) ws) ((i + 1 : Nat) : Int) A B H) r) (n : Nat) : ∀ (j : Nat) (f : Bool), j + n = ws.length → Stand ws (H.getD i []) j f → Ev (fun k => spec_Parts.l1 k ws (i : Int) (j : Int) f A B H) r := by
 have hl := hH.1
 have hx := hH.at i
 induction n with
 | zero =>
  intro j f h hst
  refine Ev.step (fun k => ?_) (specParts_j2 ws A B H i j f hw hi hl (by omega) hst (fun _ hj => by omega) r hr)
  rw [spec_Parts.l1, iq (by omega)]
 | succ n ih =>
  intro j f h hst
  have hy : (ws.getD j []).length ≤ 300 := by rw [lget_lt ws j [] (by omega)]; exact hs _ (List.getElem_mem _)
  obtain ⟨K, hK⟩ := ev_out (specCmp_ev (ws.getD j []) (H.getD i []) (by omega) (by omega))
  by_cases c : Fv.cmpB (ws.getD j []) (H.getD i []) ≤ 0
  ·have hst' : Stand ws (H.getD i []) (j + 1) (f || (Fv.cmpB (ws.getD j []) (H.getD i []) == 0)) := by
    rcases hst with ⟨rfl, h1⟩ | ⟨rfl, h1⟩
    ·by_cases e : Fv.cmpB (ws.getD j []) (H.getD i []) = 0
     ·exact .inr ⟨by rw [e]; rfl, insW_old _ ws j (by omega) h1 e⟩
     ·refine .inl ⟨by rw [Bool.false_or, beq_eq_false_iff_ne]; exact e, fun i' hi' => ?_⟩
      by_cases e' : i' = j
      ·subst e'; omega
      ·exact h1 i' (by omega)
    ·exact .inr ⟨rfl, h1⟩
   obtain ⟨K2, hK2⟩ := ev_out (ih (j + 1) _ (by omega) hst')
   refine ev_mk (K + K2 + 1) fun k hk => ?_
   obtain ⟨k, rfl⟩ : ∃ m, k = m + 1 := ⟨k - 1, by omega⟩
   have h2 := hK2 k (by omega)
   rw [spec_Parts.l1, ip (by omega), ip (by omega), ip (by omega), ip (by omega), rdL2, rdL2, hK k (by omega), bs, ip c, w64 (by omega) (by omega)]
   cases f with
   | true =>
    rw [ip rfl]
    exact h2
   | false =>
    rw [iq (by decide), bs]
    exact h2
  ·obtain ⟨K2, hK2⟩ := ev_out (specParts_j2 ws A B H i j f hw hi hl (by omega) hst (fun _ _ => by omega) r hr)
   refine ev_mk (K + K2 + 1) fun k hk => ?_
   obtain ⟨k, rfl⟩ : ∃ m, k = m + 1 := ⟨k - 1, by omega⟩
   rw [spec_Parts.l1, ip (by omega), ip (by omega), ip (by omega), ip (by omega), rdL2, rdL2, hK k (by omega), bs, iq c]
   exact hK2 k (by omega)
theorem specParts_l2 (A B : LL) (hA : Smalls A) (hB : Smalls B) (hAB : Smalls (A ++ B)) (n : Nat) : ∀ i : Nat, i + n = (wordsL (A ++ B)).length → Ev (fun k => spec_Parts.l2 k (wordsL (A ++ B)) ((partsL A B).take i) (i : Int) A B) (partsL A B) := by
 have hW := smalls_words hAB
 have hl := hW.1
 have hL := partsL_len A B
 induction n with
 | zero =>
  intro i h
  refine Ev.step (f := fun _ => some _) (fun k => ?_) (Ev.now _)
  rw [spec_Parts.l2, iq (by omega), List.take_of_length_le (by omega)]
 | succ n ih =>
  intro i h
  have hx := hW.at i
  obtain ⟨K, hK⟩ := ev_out (specSpan_ev A ((wordsL (A ++ B)).getD i []) hA hx)
  obtain ⟨K1, hK1⟩ := ev_out (specSpan_ev B ((wordsL (A ++ B)).getD i []) hB hx)
  obtain ⟨K2, hK2⟩ := ev_out (ih (i + 1) (by omega))
  refine ev_mk (K + K1 + K2 + 1) fun k hk => ?_
  obtain ⟨k, rfl⟩ : ∃ m, k = m + 1 := ⟨k - 1, by omega⟩
  have h2 := hK2 k (by omega)
  rw [take_succ_getD _ z48 i (by omega), partsL_at A B i (by omega)] at h2
  rw [spec_Parts.l2, ip (by omega), bs, ip (by omega), rdL2, ip (by simp only [List.length_nil]; omega), hK k (by omega), bs, hK1 k (by omega), bs, ip (by rw [List.length_take]; omega), w64 (by omega) (by omega), List.nil_append]
  exact h2
theorem specParts_l0 (A B : LL) (hA : Smalls A) (hB : Smalls B) (hAB : Smalls (A ++ B)) (n : Nat) : ∀ i : Nat, i + n = (A ++ B).length → Ev (fun k => spec_Parts.l0 k (wordsL ((A ++ B).take i)) (i : Int) A B (A ++ B)) (partsL A B) := by
 have hl := hAB.1
 induction n with
 | zero =>
  intro i h
  refine Ev.step (fun k => ?_) (specParts_l2 A B hA hB hAB (wordsL (A ++ B)).length 0 (by omega))
  rw [spec_Parts.l0, iq (by omega), List.take_of_length_le (by omega)]
  rfl
 | succ n ih =>
  intro i h
  have h1 := ih (i + 1) (by omega)
  rw [take_succ_getD _ [] i (by omega), wordsL_snoc] at h1
  have hT : Smalls ((A ++ B).take i) := ⟨by rw [List.length_take]; omega, fun x hx => hAB.2 x (List.mem_of_mem_take hx)⟩
  have hW := smalls_words hT
  refine Ev.step (fun k => ?_) (specParts_l1 (wordsL ((A ++ B).take i)) A B (A ++ B) i (by have := hW.1; omega) hW.2 (by omega) hAB _ h1 _ 0 false (Nat.zero_add _) (.inl ⟨rfl, fun j hj => by omega⟩))
  rw [spec_Parts.l0, ip (by omega)]
  rfl
def fitB (a b : List Int) (d : Int) : Bool := decide (a.length ≤ 300 ∧ b.length ≤ 300 ∧ 0 ≤ d ∧ d ≤ 8)
theorem specFit_eq (a b : List Int) (d : Int) : spec_l13Fit.f a b d = some (fitB a b d) := by
 unfold spec_l13Fit.f spec_TextOk.f fitB
 by_cases ha : a.length ≤ 300
 ·by_cases hb : b.length ≤ 300
  ·rw [bs, decide_eq_true (show (a.length : Int) ≤ 300 by omega), ip rfl, bs, decide_eq_true (show (b.length : Int) ≤ 300 by omega), ip rfl]
   by_cases hd : d ≥ 0
   ·rw [ip hd]
    congr 1
    exact decide_eq_decide.2 ⟨fun h => ⟨ha, hb, hd, h⟩, fun h => h.2.2.2⟩
   ·rw [iq hd, decide_eq_false (fun h => hd h.2.2.1)]
  ·rw [bs, decide_eq_true (show (a.length : Int) ≤ 300 by omega), ip rfl, bs, decide_eq_false (show ¬ (b.length : Int) ≤ 300 by omega), iq (by decide), decide_eq_false (fun h => hb h.2.1)]
 ·rw [bs, decide_eq_false (show ¬ (a.length : Int) ≤ 300 by omega), iq (by decide), decide_eq_false (fun h => ha h.1)]
theorem isShared_fit (a b : List Int) (d : Int) : impl_isShared.f a b d = some (fitB a b d) := by
 unfold impl_isShared.f impl_TextOk.f impl_within.f fitB
 by_cases ha : a.length ≤ 300
 ·by_cases hb : b.length ≤ 300
  ·rw [bs, decide_eq_true (show (a.length : Int) ≤ 300 by omega), ip rfl, bs, decide_eq_true (show (b.length : Int) ≤ 300 by omega), ip rfl]
   by_cases hd : 0 ≤ d
   ·rw [ip hd, bs]
    congr 1
    exact decide_eq_decide.2 ⟨fun h => ⟨ha, hb, hd, h⟩, fun h => h.2.2.2⟩
   ·rw [iq hd, bs, decide_eq_false (fun h => hd h.2.2.1)]
  ·rw [bs, decide_eq_true (show (a.length : Int) ≤ 300 by omega), ip rfl, bs, decide_eq_false (show ¬ (b.length : Int) ≤ 300 by omega), iq (by decide), decide_eq_false (fun h => hb h.2.1)]
 ·rw [bs, decide_eq_false (show ¬ (a.length : Int) ≤ 300 by omega), iq (by decide), decide_eq_false (fun h => ha h.1)]
theorem smalls_two (a b : List Int) (ha : a.length ≤ 300) (hb : b.length ≤ 300) (d : Nat) : Smalls (headsOf a d ++ headsOf b d) :=
 smalls_app (by rw [List.length_append, headsOf_len, headsOf_len]; omega) (smalls_heads a ha d) (smalls_heads b hb d)
def partsAB (a b : List Int) (d : Int) : List S48 := partsL (headsOf a d.toNat) (headsOf b d.toNat)
theorem specParts_ev (a b : List Int) (d : Int) (ha : a.length ≤ 300) (hb : b.length ≤ 300) (h0 : 0 ≤ d) (h8 : d ≤ 8) : Ev (fun k => spec_Parts.f k a b d) (partsAB a b d) := by
 have hs := smalls_two a b ha hb d.toNat
 have hA := headsOf_len a d.toNat
 have hB := headsOf_len b d.toNat
 obtain ⟨K, hK⟩ := ev_out (specHeads_ev a ha d h0 h8)
 obtain ⟨K1, hK1⟩ := ev_out (specHeads_ev b hb d h0 h8)
 obtain ⟨K2, hK2⟩ := ev_out (specParts_l0 _ _ (smalls_heads a ha d.toNat) (smalls_heads b hb d.toNat) hs _ 0 (Nat.zero_add _))
 refine ev_mk (K + K1 + K2) fun k hk => ?_
 unfold spec_Parts.f
 rw [specFit_eq, bs, fitB, decide_eq_true ⟨ha, hb, h0, h8⟩, ip rfl, hK k (by omega), bs, hK1 k (by omega), bs, bs, ip (by simp only [List.length_nil]; omega), bs, ip (by rw [List.nil_append]; omega), List.nil_append]
 exact hK2 k (by omega)
theorem specParts_no (a b : List Int) (d : Int) (h : fitB a b d = false) (k : Nat) : spec_Parts.f k a b d = some [] := by
 unfold spec_Parts.f
 rw [specFit_eq, bs, h, iq (by decide)]
theorem rdStr (xs : List ByteArray) (i : Nat) : rdOf ByteArray.empty xs (i : Int) = xs.getD i ByteArray.empty := by unfold rdOf; rw [Int.toNat_natCast]
theorem num_at (xs : List ByteArray) (i : Nat) : bytesOf (xs.getD i ByteArray.empty) = (xs.map bytesOf).getD i [] := by
 by_cases h : i < xs.length
 ·rw [lget_lt xs i _ h, lget_lt _ i _ (by rw [List.length_map]; exact h), List.getElem_map]
 ·rw [List.getD_eq_getElem?_getD, List.getElem?_eq_none (by omega), List.getD_eq_getElem?_getD, List.getElem?_eq_none (by rw [List.length_map]; omega)]
  rfl
theorem isNaN_eq (s : ByteArray) : cmp_isNaN_string.f s = some false := by unfold cmp_isNaN_string.f; rw [bne_self_eq_false]
theorem isNaN_eq' (s : ByteArray) : slices_isNaN_string.f s = some false := by unfold slices_isNaN_string.f; rw [bne_self_eq_false]
theorem less_eq (s t : ByteArray) : cmp_Less_string.f s t = some (decide (Fv.cmpB (bytesOf s) (bytesOf t) < 0)) := by
 unfold cmp_Less_string.f
 rw [isNaN_eq, bs, iq (by decide), Ws.less_cmp]
theorem search_l0 (a : List ByteArray) (w : ByteArray) (ha : a.length ≤ 1000) (hs : (a.map bytesOf).Pairwise fun x y => Fv.cmpB x y ≤ 0) (m : Nat) : ∀ lo hi_ : Nat, hi_ - lo ≤ m → lo ≤ loOf (a.map bytesOf) (bytesOf w) → loOf (a.map bytesOf) (bytesOf w) ≤ hi_ → hi_ ≤ a.length →
  ∃ f, Ev (fun k => slices_BinarySearch_string_string.l0 k a w (a.length : Int) (lo : Int) (hi_ : Int)) ((loOf (a.map bytesOf) (bytesOf w) : Int), f) := by
 have hlen : (a.map bytesOf).length = a.length := List.length_map _
 induction m with
 | zero =>
  intro lo hi_ h1 h2 h3 h4
  obtain rfl : hi_ = lo := by omega
  have e : loOf (a.map bytesOf) (bytesOf w) = hi_ := by omega
  rw [e]
  by_cases c : (hi_ : Int) < (a.length : Int)
  ·by_cases c2 : (rdOf ByteArray.empty a (hi_ : Int)).toList = w.toList
   ·refine ⟨true, Ev.step (f := fun _ => some _) (fun k => ?_) (Ev.now _)⟩
    rw [slices_BinarySearch_string_string.l0, iq (by omega), ip c, ip (by omega), ip c, ip c2]
   ·refine ⟨false, Ev.step (f := fun _ => some _) (fun k => ?_) (Ev.now _)⟩
    rw [slices_BinarySearch_string_string.l0, iq (by omega), ip c, ip (by omega), ip c, iq c2, isNaN_eq', bs, iq (by decide)]
  ·refine ⟨false, Ev.step (f := fun _ => some _) (fun k => ?_) (Ev.now _)⟩
   rw [slices_BinarySearch_string_string.l0, iq (by omega), iq c]
 | succ m ih =>
  intro lo hi_ h1 h2 h3 h4
  by_cases e : lo < hi_
  ·have hmid : wrap64 ((IntKind.u64.wrap (wrap64 ((lo : Int) + (hi_ : Int)))) / 2) = (((lo + hi_) / 2 : Nat) : Int) := by
    rw [w64 (x := (lo : Int) + (hi_ : Int)) (by omega) (by omega), show IntKind.u64.wrap ((lo : Int) + (hi_ : Int)) = (lo : Int) + (hi_ : Int) from by simp only [IntKind.wrap, IntKind.bits, IntKind.signed]; simp; omega, w64 (by omega) (by omega)]
    omega
   obtain ⟨mid, hm⟩ : ∃ mid, mid = (lo + hi_) / 2 := ⟨_, rfl⟩
   rw [← hm] at hmid
   have hml : lo ≤ mid := by omega
   have hmh : mid < hi_ := by omega
   have hat := lo_at hs (bytesOf w) mid (by omega)
   rw [← num_at] at hat
   by_cases c : mid < loOf (a.map bytesOf) (bytesOf w)
   ·obtain ⟨f, hf⟩ := ih (mid + 1) hi_ (by omega) (by omega) h3 h4
    refine ⟨f, Ev.step (fun k => ?_) hf⟩
    rw [slices_BinarySearch_string_string.l0, ip (by omega), hmid, ip (by omega), ip (by omega), less_eq, bs, rdStr, decide_eq_true (hat.2 c), ip rfl, w64 (by omega) (by omega)]
    rfl
   ·obtain ⟨f, hf⟩ := ih lo mid (by omega) h2 (by omega) (by omega)
    refine ⟨f, Ev.step (fun k => ?_) hf⟩
    rw [slices_BinarySearch_string_string.l0, ip (by omega), hmid, ip (by omega), ip (by omega), less_eq, bs, rdStr, decide_eq_false (fun h => c (hat.1 h)), iq (by decide)]
  ·exact ih lo hi_ (by omega) h2 h3 h4
theorem headRows_l0 (a : List ByteArray) (w : ByteArray) (u : Int) (ha : a.length ≤ 1000) (hs : (a.map bytesOf).Pairwise fun x y => Fv.cmpB x y ≤ 0) (n : Nat) : ∀ i : Nat, i + n = hiOf (a.map bytesOf) (bytesOf w) → loOf (a.map bytesOf) (bytesOf w) ≤ i → Ev (fun k => impl_headRows.l0 k a w u (i : Int)) (u, (hiOf (a.map bytesOf) (bytesOf w) : Int)) := by
 have hlen : (a.map bytesOf).length = a.length := List.length_map _
 have hle := hi_le (a.map bytesOf) (bytesOf w)
 induction n with
 | zero =>
  intro i h h1
  have e : hiOf (a.map bytesOf) (bytesOf w) = i := by omega
  refine Ev.step (f := fun _ => some _) (fun k => ?_) (Ev.now _)
  rw [e]
  by_cases c : (i : Int) < (a.length : Int)
  ·have hat := hi_at hs (bytesOf w) i (by omega)
   rw [← num_at] at hat
   rw [impl_headRows.l0, ip c, ip (by omega), rdStr, iq]
   intro hq
   rw [Ws.toList_iff] at hq
   have := hat.1 (by rw [hq, Fv.cmpB_self]; decide)
   omega
  ·rw [impl_headRows.l0, iq c]
 | succ n ih =>
  intro i h h1
  have hat := hi_at hs (bytesOf w) i (by omega)
  have hat' := lo_at hs (bytesOf w) i (by omega)
  rw [← num_at] at hat hat'
  refine Ev.step (fun k => ?_) (ih (i + 1) (by omega) (by omega))
  rw [impl_headRows.l0, ip (by omega), ip (by omega), rdStr, ip, w64 (by omega) (by omega)]
  ·rfl
  ·rw [Ws.toList_iff]
   have q1 := hat.2 (by omega)
   have q2 : ¬ Fv.cmpB (bytesOf (a.getD i ByteArray.empty)) (bytesOf w) < 0 := fun h => by have := hat'.1 h; omega
   exact Fv.cmpB_zero _ _ (by omega)
theorem headRows_ev (a : List ByteArray) (w : ByteArray) (ha : a.length ≤ 1000) (hs : (a.map bytesOf).Pairwise fun x y => Fv.cmpB x y ≤ 0) : Ev (fun k => impl_headRows.f k a w) ((loOf (a.map bytesOf) (bytesOf w) : Int), (hiOf (a.map bytesOf) (bytesOf w) : Int)) := by
 have hlen : (a.map bytesOf).length = a.length := List.length_map _
 have hle := hi_le (a.map bytesOf) (bytesOf w)
 have hll := lo_le (a.map bytesOf) (bytesOf w)
 obtain ⟨f, hf⟩ := search_l0 a w ha hs a.length 0 a.length (by omega) (by omega) (by omega) (by omega)
 obtain ⟨K, hK⟩ := ev_out hf
 obtain ⟨K2, hK2⟩ := ev_out (headRows_l0 a w (loOf (a.map bytesOf) (bytesOf w) : Int) ha hs (hiOf (a.map bytesOf) (bytesOf w) - loOf (a.map bytesOf) (bytesOf w)) (loOf (a.map bytesOf) (bytesOf w)) (by omega) (by omega))
 refine ev_mk (K + K2) fun k hk => ?_
 unfold impl_headRows.f slices_BinarySearch_string_string.f
 have h1 := hK k (by omega)
 simp only [Int.natCast_zero] at h1
 rw [h1, bs]
 exact hK2 k (by omega)
theorem concatS_ev (a b : List ByteArray) (ha : a.length ≤ 1000) (hb : b.length ≤ 1000) : Ev (fun k => slices_Concat_string_string.f k [a, b]) (a ++ b) := by
 have r0 : rd_L7 [a, b] 0 = a := rfl
 have r1 : rd_L7 [a, b] 1 = b := rfl
 have hl : (([a, b] : List (List ByteArray)).length : Int) = 2 := rfl
 have h1 : Ev (fun k => slices_Concat_string_string.l1 k [] [a, b] 2 0) (a ++ b) := by
  refine ev_mk 4 fun k hk => ?_
  obtain ⟨k, rfl⟩ : ∃ m, k = m + 3 := ⟨k - 3, by omega⟩
  rw [slices_Concat_string_string.l1, ip (by decide), ip (by decide), ip (by rw [hl]; decide), r0, ip (by simp only [List.length_nil]; omega), List.nil_append, show wrap64 (0 + 1) = 1 from w64 (x := 1) (by omega) (by omega),
   slices_Concat_string_string.l1, ip (by decide), ip (by decide), ip (by rw [hl]; decide), r1, ip (by omega), show wrap64 (1 + 1) = 2 from w64 (x := 2) (by omega) (by omega), slices_Concat_string_string.l1, iq (by decide)]
 obtain ⟨K1, k1⟩ := ev_out h1
 refine ev_mk (K1 + 4) fun k hk => ?_
 unfold slices_Concat_string_string.f
 obtain ⟨k, rfl⟩ : ∃ m, k = m + 3 := ⟨k - 3, by omega⟩
 have w1 : wrap64 (0 + (a.length : Int)) = (a.length : Int) := by rw [Int.zero_add]; exact w64 (by omega) (by omega)
 have w2 : wrap64 ((a.length : Int) + (b.length : Int)) = (a.length : Int) + (b.length : Int) := w64 (by omega) (by omega)
 rw [hl, slices_Concat_string_string.l0, ip (by decide), ip (by decide), ip (by rw [hl]; decide), r0, w1, iq (by omega), show wrap64 (0 + 1) = 1 from w64 (x := 1) (by omega) (by omega),
  slices_Concat_string_string.l0, ip (by decide), ip (by decide), ip (by rw [hl]; decide), r1, w2, iq (by omega), show wrap64 (1 + 1) = 2 from w64 (x := 2) (by omega) (by omega), slices_Concat_string_string.l0, iq (by decide)]
 unfold slices_Grow_nil82.f
 rw [ip (by omega), bs, hl]
 exact k1 k (by omega)
theorem implParts_l0 (a b ws : List ByteArray) (A B : LL) (hA : a.map bytesOf = A) (hB : b.map bytesOf = B) (hws : ws.map bytesOf = wordsL (A ++ B)) (ha : a.length ≤ 1000) (hb : b.length ≤ 1000) (hl : ws.length ≤ 1000) (sA : A.Pairwise fun x y => Fv.cmpB x y ≤ 0) (sB : B.Pairwise fun x y => Fv.cmpB x y ≤ 0) (n : Nat) :
  ∀ i : Nat, i + n = ws.length → Ev (fun k => impl_parts.l0 k a b ws (i : Int) ((partsL A B).take i)) (partsL A B) := by
 have hW : (wordsL (A ++ B)).length = ws.length := by rw [← hws, List.length_map]
 have hL := partsL_len A B
 induction n with
 | zero =>
  intro i h
  refine Ev.step (f := fun _ => some _) (fun k => ?_) (Ev.now _)
  rw [impl_parts.l0, iq (by omega), List.take_of_length_le (by omega)]
 | succ n ih =>
  intro i h
  obtain ⟨K, hK⟩ := ev_out (headRows_ev a (ws.getD i ByteArray.empty) ha (by rw [hA]; exact sA))
  obtain ⟨K1, hK1⟩ := ev_out (headRows_ev b (ws.getD i ByteArray.empty) hb (by rw [hB]; exact sB))
  obtain ⟨K2, hK2⟩ := ev_out (ih (i + 1) (by omega))
  refine ev_mk (K + K1 + K2 + 1) fun k hk => ?_
  obtain ⟨k, rfl⟩ : ∃ m, k = m + 1 := ⟨k - 1, by omega⟩
  have h2 := hK2 k (by omega)
  rw [take_succ_getD _ z48 i (by omega), partsL_at A B i (by omega)] at h2
  have e := num_at ws i
  rw [hws] at e
  have h3 := hK k (by omega)
  have h4 := hK1 k (by omega)
  rw [hA, e] at h3
  rw [hB, e] at h4
  rw [impl_parts.l0, ip (by omega), ip (by omega), rdStr, h3, bs, h4, bs, ip (by rw [List.length_take]; omega), w64 (by omega) (by omega), e]
  exact h2
theorem implParts_ev (a b : List Int) (d : Int) (ha : a.length ≤ 300) (hb : b.length ≤ 300) (ba : bytesOk a) (bb : bytesOk b) (h0 : 0 ≤ d) (h8 : d ≤ 8) : Ev (fun k => impl_parts.f k a b d) (partsAB a b d) := by
 have lA := headsS_len a d
 have lB := headsS_len b d
 have nA := headsS_num a ba d
 have nB := headsS_num b bb d
 have hw : (Srt.wordsOf (headsS a d ++ headsS b d)).map bytesOf = wordsL (headsOf a d.toNat ++ headsOf b d.toNat) := by rw [Ws.words_num, List.map_append, nA, nB]
 have hwl := Ws.words_len (headsS a d ++ headsS b d)
 rw [List.length_append] at hwl
 obtain ⟨K, hK⟩ := ev_out (implHeads_ev a ha ba d h0 h8)
 obtain ⟨K1, hK1⟩ := ev_out (implHeads_ev b hb bb d h0 h8)
 obtain ⟨K2, hK2⟩ := ev_out (concatS_ev (headsS a d) (headsS b d) (by omega) (by omega))
 obtain ⟨K3, hK3⟩ := ev_out (implParts_l0 (headsS a d) (headsS b d) _ _ _ nA nB hw (by omega) (by omega) (by omega) (headsOf_sorted _ _) (headsOf_sorted _ _) _ 0 (Nat.zero_add _))
 refine ev_mk (K + K1 + K2 + K3) fun k hk => ?_
 unfold impl_parts.f
 rw [hK k (by omega), bs, hK1 k (by omega), bs, hK2 k (by omega), bs, ip]
 ·exact hK3 k (by omega)
 ·refine ⟨by rw [List.length_append]; omega, fun x hx => ?_⟩
  rcases List.mem_append.1 hx with hx | hx
  ·have := headsS_size a d x hx; omega
  ·have := headsS_size b d x hx; omega
theorem rdT48 (l : List S48) (i : Nat) : rd_T48 l (i : Int) = l.getD i z48 := by unfold rd_T48; rw [Int.toNat_natCast]
theorem rdT56' (l : List S56) (i : Nat) : rd_T56 l (i : Int) = l.getD i z56 := by unfold rd_T56; rw [Int.toNat_natCast]
def cutOf (x : List Int) (lo hi_ : Int) : List Int := (x.take hi_.toNat).drop lo.toNat
def movedOf (p : S48) (s : S56) : S56 := ⟨wrap64 (s.f0 + p.f1), wrap64 (s.f1 + p.f3)⟩
def sharesOf (u : Int) (x y : List Int) (p : S48) : List S56 := (withinOf (cutOf x p.f1 p.f2) (cutOf y p.f3 p.f4) u).map (movedOf p)
theorem sharesOf_len (u : Int) (x y : List Int) (p : S48) : (sharesOf u x y p).length ≤ 301 := by unfold sharesOf; rw [List.length_map]; exact withinOf_len _ _ _
def shareAll (u : Int) (x y : List Int) (P : List S48) : List S56 := P.flatMap (sharesOf u x y)
theorem shareAll_len (u : Int) (x y : List Int) (P : List S48) : (shareAll u x y P).length ≤ 301 * P.length := by
 unfold shareAll
 induction P with
 | nil => simp
 | cons p P ih =>
  have := sharesOf_len u x y p
  rw [List.flatMap_cons, List.length_append, List.length_cons]
  omega
def PartIn (x y : List Int) (p : S48) : Prop := 0 ≤ p.f1 ∧ p.f1 ≤ p.f2 ∧ p.f2 ≤ (x.length : Int) ∧ 0 ≤ p.f3 ∧ p.f3 ≤ p.f4 ∧ p.f4 ≤ (y.length : Int)
theorem shareAll_snoc (u : Int) (x y : List Int) (P : List S48) (i : Nat) (h : i < P.length) : shareAll u x y (P.take (i + 1)) = shareAll u x y (P.take i) ++ sharesOf u x y (P.getD i z48) := by
 rw [take_succ_getD P z48 i h]
 unfold shareAll
 rw [List.flatMap_append, List.flatMap_cons, List.flatMap_nil, List.append_nil]
theorem specShare_l1 (u : Int) (x y : List Int) (P : List S48) (i : Nat) (hi : i < P.length) (hP : P.length ≤ 1000) (acc : List S56) (hacc : acc.length ≤ 400000) (W : List S56) (hW : W.length ≤ 301) (p : S48) (r : List S56)
  (hr : Ev (fun k => spec_ShareOf.l0 k u (acc ++ W.map (movedOf p)) ((i + 1 : Nat) : Int) P x y) r) (n : Nat) : ∀ j : Nat, j + n = W.length → Ev (fun k => spec_ShareOf.l1 k u (acc ++ (W.take j).map (movedOf p)) (i : Int) (j : Int) P x y W p.f0 p.f1 p.f2 p.f3 p.f4) r := by
 induction n with
 | zero =>
  intro j h
  refine Ev.step (fun k => ?_) hr
  rw [spec_ShareOf.l1, iq (by omega), List.take_of_length_le (by omega), w64 (by omega) (by omega)]
  rfl
 | succ n ih =>
  intro j h
  have h1 := ih (j + 1) (by omega)
  rw [take_succ_getD W z56 j (by omega), List.map_append, ← List.append_assoc] at h1
  refine Ev.step (fun k => ?_) h1
  rw [spec_ShareOf.l1, ip (by omega), ip (by omega), ip (by rw [List.length_append, List.length_map, List.length_take]; omega), w64 (x := (j : Int) + 1) (by omega) (by omega), rdT56']
  rfl
theorem specShare_l0 (u : Int) (x y : List Int) (P : List S48) (hP : P.length ≤ 1000) (hin : ∀ p ∈ P, PartIn x y p) (n : Nat) : ∀ i : Nat, i + n = P.length → Ev (fun k => spec_ShareOf.l0 k u (shareAll u x y (P.take i)) (i : Int) P x y) (shareAll u x y P) := by
 induction n with
 | zero =>
  intro i h
  refine Ev.step (f := fun _ => some _) (fun k => ?_) (Ev.now _)
  rw [spec_ShareOf.l0, iq (by omega), List.take_of_length_le (by omega)]
 | succ n ih =>
  intro i h
  have h1 := ih (i + 1) (by omega)
  rw [shareAll_snoc u x y P i (by omega)] at h1
  have hl := shareAll_len u x y (P.take i)
  have hl2 : (P.take i).length ≤ 1000 := by rw [List.length_take]; omega
  obtain ⟨q1, q2, q3, q4, q5, q6⟩ : PartIn x y (P.getD i z48) := by rw [lget_lt P i _ (by omega)]; exact hin _ (List.getElem_mem _)
  have hc := specCommonWithin_ev (cutOf x (P.getD i z48).f1 (P.getD i z48).f2) (cutOf y (P.getD i z48).f3 (P.getD i z48).f4) u
  obtain ⟨K, hK⟩ := ev_out hc
  obtain ⟨K2, hK2⟩ := ev_out (specShare_l1 u x y P i (by omega) hP (shareAll u x y (P.take i)) (by omega) _ (withinOf_len (cutOf x (P.getD i z48).f1 (P.getD i z48).f2) (cutOf y (P.getD i z48).f3 (P.getD i z48).f4) u) (P.getD i z48) _ h1 _ 0 (Nat.zero_add _))
  refine ev_mk (K + K2 + 1) fun k hk => ?_
  obtain ⟨k, rfl⟩ : ∃ m, k = m + 1 := ⟨k - 1, by omega⟩
  have h2 := hK2 k (by omega)
  rw [List.take_zero, List.map_nil, List.append_nil] at h2
  have h3 := hK k (by omega)
  unfold cutOf at h3 h2
  rw [spec_ShareOf.l0, ip (by omega), ip (by omega), rdT48, ip q1, ip q2, ip q3, ip q4, ip q5, ip q6, h3, bs]
  exact h2
theorem implShare_l1 (u : Int) (x y : List Int) (P : List S48) (m : Int) (i : Nat) (hi : i < P.length) (hP : P.length ≤ 1000) (acc : List S56) (hacc : acc.length ≤ 400000) (W : List S56) (hW : W.length ≤ 301) (p : S48) (r : List S56)
  (hr : Ev (fun k => impl_shareOf.l0 k u (acc ++ W.map (movedOf p)) x y P m ((i + 1 : Nat) : Int)) r) (n : Nat) : ∀ j : Nat, j + n = W.length → Ev (fun k => impl_shareOf.l1 k u (acc ++ (W.take j).map (movedOf p)) x y P m (i : Int) W (W.length : Int) (j : Int) p.f0 p.f1 p.f2 p.f3 p.f4) r := by
 induction n with
 | zero =>
  intro j h
  refine Ev.step (fun k => ?_) hr
  rw [impl_shareOf.l1, iq (by omega), List.take_of_length_le (by omega), w64 (by omega) (by omega)]
  rfl
 | succ n ih =>
  intro j h
  have h1 := ih (j + 1) (by omega)
  rw [take_succ_getD W z56 j (by omega), List.map_append, ← List.append_assoc] at h1
  refine Ev.step (fun k => ?_) h1
  rw [impl_shareOf.l1, ip (by omega), ip (by omega), ip (by omega), ip (by rw [List.length_append, List.length_map, List.length_take]; omega), w64 (x := (j : Int) + 1) (by omega) (by omega), rdT56']
  rfl
theorem implShare_l0 (u : Int) (x y : List Int) (P : List S48) (hP : P.length ≤ 1000) (hin : ∀ p ∈ P, PartIn x y p) (n : Nat) : ∀ i : Nat, i + n = P.length → Ev (fun k => impl_shareOf.l0 k u (shareAll u x y (P.take i)) x y P (P.length : Int) (i : Int)) (shareAll u x y P) := by
 induction n with
 | zero =>
  intro i h
  refine Ev.step (f := fun _ => some _) (fun k => ?_) (Ev.now _)
  rw [impl_shareOf.l0, iq (by omega), List.take_of_length_le (by omega)]
 | succ n ih =>
  intro i h
  have h1 := ih (i + 1) (by omega)
  rw [shareAll_snoc u x y P i (by omega)] at h1
  have hl := shareAll_len u x y (P.take i)
  have hl2 : (P.take i).length ≤ 1000 := by rw [List.length_take]; omega
  obtain ⟨q1, q2, q3, q4, q5, q6⟩ : PartIn x y (P.getD i z48) := by rw [lget_lt P i _ (by omega)]; exact hin _ (List.getElem_mem _)
  have hc := implCommonWithin_ev (cutOf x (P.getD i z48).f1 (P.getD i z48).f2) (cutOf y (P.getD i z48).f3 (P.getD i z48).f4) u
  obtain ⟨K, hK⟩ := ev_out hc
  obtain ⟨K2, hK2⟩ := ev_out (implShare_l1 u x y P (P.length : Int) i (by omega) hP (shareAll u x y (P.take i)) (by omega) _ (withinOf_len (cutOf x (P.getD i z48).f1 (P.getD i z48).f2) (cutOf y (P.getD i z48).f3 (P.getD i z48).f4) u) (P.getD i z48) _ h1 _ 0 (Nat.zero_add _))
  refine ev_mk (K + K2 + 1) fun k hk => ?_
  obtain ⟨k, rfl⟩ : ∃ m, k = m + 1 := ⟨k - 1, by omega⟩
  have h2 := hK2 k (by omega)
  rw [List.take_zero, List.map_nil, List.append_nil] at h2
  have h3 := hK k (by omega)
  unfold cutOf at h3 h2
  rw [impl_shareOf.l0, ip (by omega), ip (by omega), ip (by omega), rdT48, ip q1, ip q2, ip q3, ip q4, ip q5, ip q6, h3, bs]
  exact h2
theorem parts_in (a b : List Int) (d : Int) : ∀ p ∈ partsAB a b d, PartIn (bwtL a) (bwtL b) p := by
 intro p hp
 obtain ⟨w, _, rfl⟩ := List.mem_map.1 hp
 have h1 := lo_le (headsOf a d.toNat) w
 have h2 := hi_le (headsOf a d.toNat) w
 have h3 := lo_le (headsOf b d.toNat) w
 have h4 := hi_le (headsOf b d.toNat) w
 rw [headsOf_len] at h2 h4
 have l1 := bwtL_len a
 have l2 := bwtL_len b
 refine ⟨?_, ?_, ?_, ?_, ?_, ?_⟩ <;> simp only [partOf] <;> omega
theorem parts_small (a b : List Int) (ha : a.length ≤ 300) (hb : b.length ≤ 300) (d : Int) : (partsAB a b d).length ≤ 1000 := by
 unfold partsAB
 rw [partsL_len]
 exact (smalls_words (smalls_two a b ha hb d.toNat)).1
def shareL (a b : List Int) (d u : Int) : List S56 := if fitB a b d = true then shareAll u (bwtL a) (bwtL b) (partsAB a b d) else []
theorem shareL_len (a b : List Int) (d u : Int) : (shareL a b d u).length ≤ 301000 := by
 unfold shareL
 split
 ·rename_i h
  have h' := of_decide_eq_true h
  have h1 := shareAll_len u (bwtL a) (bwtL b) (partsAB a b d)
  have h2 := parts_small a b h'.1 h'.2.1 d
  omega
 ·simp
theorem bwt_any (a : List Int) (ha : bytesOk a) : ∃ r, Ev (fun k => spec_BwtOf.f k a) r := by
 by_cases h : a.length ≤ 300
 ·exact ⟨_, specBwt_ev a h ha⟩
 ·refine ⟨[], ev_mk 1 fun k hk => ?_⟩
  obtain ⟨k, rfl⟩ : ∃ m, k = m + 1 := ⟨k - 1, by omega⟩
  unfold spec_BwtOf.f spec_SuffixRows.f spec_TextOk.f
  rw [bs, decide_eq_false (by omega), iq (by decide), bs, spec_BwtOf.l0, iq (by decide)]
theorem specShareOf_ev (a b : List Int) (d u : Int) (ha : bytesOk a) (hb : bytesOk b) : Ev (fun k => spec_ShareOf.f k a b d u) (shareL a b d u) := by
 by_cases h : fitB a b d = true
 ·have h' := of_decide_eq_true h
  obtain ⟨K, hK⟩ := ev_out (specParts_ev a b d h'.1 h'.2.1 h'.2.2.1 h'.2.2.2)
  obtain ⟨K1, hK1⟩ := ev_out (specBwt_ev a h'.1 ha)
  obtain ⟨K2, hK2⟩ := ev_out (specBwt_ev b h'.2.1 hb)
  obtain ⟨K3, hK3⟩ := ev_out (specShare_l0 u (bwtL a) (bwtL b) (partsAB a b d) (parts_small a b h'.1 h'.2.1 d) (parts_in a b d) _ 0 (Nat.zero_add _))
  refine ev_mk (K + K1 + K2 + K3) fun k hk => ?_
  unfold spec_ShareOf.f shareL
  rw [hK k (by omega), bs, hK1 k (by omega), bs, hK2 k (by omega), bs, ip h]
  exact hK3 k (by omega)
 ·obtain ⟨x, hx⟩ := bwt_any a ha
  obtain ⟨y, hy⟩ := bwt_any b hb
  obtain ⟨K1, hK1⟩ := ev_out hx
  obtain ⟨K2, hK2⟩ := ev_out hy
  refine ev_mk (K1 + K2 + 1) fun k hk => ?_
  obtain ⟨k, rfl⟩ : ∃ m, k = m + 1 := ⟨k - 1, by omega⟩
  unfold spec_ShareOf.f shareL
  rw [specParts_no a b d (by simpa using h), bs, hK1 (k + 1) (by omega), bs, hK2 (k + 1) (by omega), bs, iq h, spec_ShareOf.l0, iq (by decide)]
theorem implShare_ev (a b : List Int) (d u : Int) (ha : bytesOk a) (hb : bytesOk b) (h : fitB a b d = true) : Ev (fun k => impl_shareOf.f k a b d u) (shareL a b d u) := by
 have h' := of_decide_eq_true h
 obtain ⟨K, hK⟩ := ev_out (implParts_ev a b d h'.1 h'.2.1 ha hb h'.2.2.1 h'.2.2.2)
 obtain ⟨K1, hK1⟩ := ev_out (implBwt_ev a h'.1 ha)
 obtain ⟨K2, hK2⟩ := ev_out (implBwt_ev b h'.2.1 hb)
 obtain ⟨K3, hK3⟩ := ev_out (implShare_l0 u (bwtL a) (bwtL b) (partsAB a b d) (parts_small a b h'.1 h'.2.1 d) (parts_in a b d) _ 0 (Nat.zero_add _))
 refine ev_mk (K + K1 + K2 + K3) fun k hk => ?_
 unfold impl_shareOf.f shareL
 rw [hK1 k (by omega), bs, hK2 k (by omega), bs, hK k (by omega), bs, ip h]
 exact hK3 k (by omega)
theorem okb_wf {l : List Int} (h : ∀ x ∈ l, (Lit.int .u8 x).wf = true) : bytesOk l := fun x hx => by
 have := h x hx
 simp [Lit.wf, IntKind.min, IntKind.max, IntKind.signed, IntKind.bits] at this
 omega
def marks56 (n : Nat) : List S56 := (List.range n).map fun (j : Nat) => ⟨1 + 2 * (j : Int), 2 + 2 * (j : Int)⟩
theorem marks56_len (n : Nat) : (marks56 n).length = n := by unfold marks56; simp
theorem marks56_get (n j : Nat) (h : j < n) : (marks56 n).getD j z56 = ⟨1 + 2 * (j : Int), 2 + 2 * (j : Int)⟩ := by
 rw [lget_lt _ j z56 (by rw [marks56_len]; exact h)]
 unfold marks56
 simp
theorem markPairS_l0 (l : List S56) (hl : l.length ≤ 4000000) (d : Nat) : ∀ i : Nat, i + d = l.length →
  Ev (fun k => laws_markPairS.l0 k ((marks56 l.length).take i ++ l.drop i) (1 + 2 * (i : Int)) (i : Int)) (1 + 2 * (l.length : Int), marks56 l.length) := by
 induction d with
 | zero =>
  intro i h
  have e : i = l.length := by omega
  refine Ev.step (f := fun _ => some (1 + 2 * (l.length : Int), marks56 l.length)) (fun k => ?_) (Ev.now _)
  rw [laws_markPairS.l0, iq (by rw [over_len _ _ _ (marks56_len _) (by omega)]; omega), e, List.drop_length, List.append_nil, List.take_of_length_le (by rw [marks56_len]; omega)]
 | succ d ih =>
  intro i h
  have hi : i < ((marks56 l.length).take i ++ l.drop i).length := by rw [over_len _ _ _ (marks56_len _) (by omega)]; omega
  refine Ev.step (f := fun k => laws_markPairS.l0 k ((marks56 l.length).take (i + 1) ++ l.drop (i + 1)) (1 + 2 * ((i + 1 : Nat) : Int)) ((i + 1 : Nat) : Int)) (fun k => ?_) (ih (i + 1) (by omega))
  rw [laws_markPairS.l0, ip (by omega), ip (by omega), bs, w64 (x := 1 + 2 * (i : Int) + 1) (by omega) (by omega), w64 (x := 1 + 2 * (i : Int) + 1 + 1) (by omega) (by omega), w64 (x := (i : Int) + 1) (by omega) (by omega), Int.toNat_natCast, rdT56, rdT56, lset_self _ _ _ _ hi, List.set_set,
   over_set (marks56 l.length) l z56 _ i (marks56_len _) (by omega) (by rw [marks56_get _ _ (by omega)]; congr 1; omega)]
  congr 1
  all_goals omega
theorem markPairS_ev (l : List S56) (hl : l.length ≤ 4000000) : Ev (fun k => laws_markPairS.f k l 1) (1 + 2 * (l.length : Int), marks56 l.length) :=
 Ev.congr (f := fun k => laws_markPairS.l0 k ((marks56 l.length).take 0 ++ l.drop 0) (1 + 2 * ((0 : Nat) : Int)) ((0 : Nat) : Int)) (fun _ => rfl) (markPairS_l0 l hl l.length 0 (by omega))
theorem heldPairS_l0 (n : Nat) (hn : n ≤ 4000000) (d : Nat) : ∀ i : Nat, i + d = n → Ev (fun k => laws_heldPairS.l0 k (marks56 n) (1 + 2 * (i : Int)) (i : Int)) (1 + 2 * (n : Int)) := by
 have hl := marks56_len n
 induction d with
 | zero =>
  intro i h
  refine Ev.step (f := fun _ => some _) (fun k => ?_) (Ev.now _)
  rw [laws_heldPairS.l0, iq (by omega)]
  congr 2
  omega
 | succ d ih =>
  intro i h
  refine Ev.step (f := fun k => laws_heldPairS.l0 k (marks56 n) (1 + 2 * ((i + 1 : Nat) : Int)) ((i + 1 : Nat) : Int)) (fun k => ?_) (ih (i + 1) (by omega))
  rw [laws_heldPairS.l0, ip (by omega), ip (by omega), rdT56, marks56_get _ _ (by omega), ip rfl, w64 (x := 1 + 2 * (i : Int) + 1) (by omega) (by omega), ip (by show 2 + 2 * (i : Int) = 1 + 2 * (i : Int) + 1; omega), w64 (x := 1 + 2 * (i : Int) + 1 + 1) (by omega) (by omega), w64 (x := (i : Int) + 1) (by omega) (by omega)]
  congr 1
  all_goals omega
theorem heldPairS_ev (n : Nat) (hn : n ≤ 4000000) : Ev (fun k => laws_heldPairS.f k (marks56 n) 1) (1 + 2 * (n : Int)) :=
 Ev.congr (f := fun k => laws_heldPairS.l0 k (marks56 n) (1 + 2 * ((0 : Nat) : Int)) ((0 : Nat) : Int)) (fun _ => rfl) (heldPairS_l0 n hn n 0 (by omega))
theorem markByteS_l0 (d : Nat) : ∀ (i : Nat) (l : List Int) (c : Int), l.length ≤ 4000000 → 0 ≤ c → c ≤ 1000000000 + (i : Int) → i + d = l.length → ∃ l', Ev (fun k => laws_markByteS.l0 k l c (i : Int)) (c + (d : Int), l') := by
 induction d with
 | zero =>
  intro i l c hl h0 h1 h
  refine ⟨l, Ev.step (f := fun _ => some _) (fun k => ?_) (Ev.now _)⟩
  rw [laws_markByteS.l0, iq (by omega)]
  congr 2
  omega
 | succ d ih =>
  intro i l c hl h0 h1 h
  obtain ⟨l', h'⟩ := ih (i + 1) (l.set i (c % 256)) (c + 1) (by rw [List.length_set]; omega) (by omega) (by omega) (by rw [List.length_set]; omega)
  refine ⟨l', Ev.step (f := fun k => laws_markByteS.l0 k (l.set i (c % 256)) (c + 1) ((i + 1 : Nat) : Int)) (fun k => ?_) ?_⟩
  ·rw [laws_markByteS.l0, ip (by omega), ip (by omega), w64 (by omega) (by omega), w64 (by omega) (by omega), Int.toNat_natCast]
   rfl
  ·have e : c + ((d + 1 : Nat) : Int) = c + 1 + (d : Int) := by omega
   rw [e]
   exact h'
theorem markByteS_ev (l : List Int) (c : Int) (hl : l.length ≤ 4000000) (h0 : 0 ≤ c) (h1 : c ≤ 1000000000) : ∃ l', Ev (fun k => laws_markByteS.f k l c) (c + (l.length : Int), l') := by
 obtain ⟨l', h⟩ := markByteS_l0 l.length 0 l c hl h0 (by omega) (by omega)
 exact ⟨l', Ev.congr (f := fun k => laws_markByteS.l0 k l c ((0 : Nat) : Int)) (fun _ => rfl) h⟩
theorem implShareOf_ev (a b : List Int) (d u : Int) (ha : bytesOk a) (hb : bytesOk b) : Ev (fun k => impl_ShareOf.f k a b d u) (shareL a b d u) := by
 by_cases h : fitB a b d = true
 ·obtain ⟨K, hK⟩ := ev_out (implShare_ev a b d u ha hb h)
  refine ev_mk K fun k hk => ?_
  unfold impl_ShareOf.f
  rw [isShared_fit, bs, ip h, hK k hk, bs]
 ·refine ev_mk 0 fun k _ => ?_
  unfold impl_ShareOf.f shareL
  rw [isShared_fit, bs, iq h, iq h]
theorem shareOf_j0 (a b : List Int) (d u : Int) (ha : a.length ≤ 1048576) (hb : b.length ≤ 1048576) (ba : bytesOk a) (bb : bytesOk b) : Ev (fun k => laws_FnExactShareOf.j0 k a b d u (shareL a b d u) (shareL a b d u) false) true := by
 have hl := shareL_len a b d u
 obtain ⟨K0, h0⟩ := ev_out (markPairS_ev (shareL a b d u) (by omega))
 obtain ⟨K1, h1⟩ := ev_out (heldPairS_ev (shareL a b d u).length (by omega))
 obtain ⟨K2, h2⟩ := ev_out (toByteS_ev a (by omega))
 obtain ⟨K3, h3⟩ := ev_out (toByteS_ev b (by omega))
 obtain ⟨K4, h4⟩ := ev_out (implShareOf_ev a b d u ba bb)
 obtain ⟨K5, h5⟩ := ev_out (eqPairS_ev (shareL a b d u) (by omega))
 refine ev_mk (K0 + K1 + K2 + K3 + K4 + K5 + 1) fun k hk => ?_
 obtain ⟨k, rfl⟩ : ∃ m, k = m + 1 := ⟨k - 1, by omega⟩
 rw [laws_FnExactShareOf.j0, iq (by decide), h0 k (by omega), bs, h1 k (by omega), bs, iq (by omega), ip rfl, h2 k (by omega), bs, h3 k (by omega), bs, h4 k (by omega), bs, h5 k (by omega), bs, ip rfl, bs, iq (by omega), ip rfl]
theorem FnExactShareOf : laws_FnExactShareOf.Pure := by
 intro l0 l1 a2 a3 _ _ o0 _ _ o1 _ _
 by_cases g0 : (l0.length : Int) > 1048576
 ·exact ⟨0, by unfold laws_FnExactShareOf.f; rw [ip g0]⟩
 by_cases g1 : (l1.length : Int) > 1048576
 ·exact ⟨0, by unfold laws_FnExactShareOf.f; rw [iq g0, ip g1]⟩
 have hl := shareL_len l0 l1 a2 a3
 obtain ⟨K0, h0⟩ := ev_out (toByteS_ev l0 (by omega))
 obtain ⟨K1, h1⟩ := ev_out (toByteS_ev l1 (by omega))
 obtain ⟨K2, h2⟩ := ev_out (specShareOf_ev l0 l1 a2 a3 (okb_wf o0) (okb_wf o1))
 obtain ⟨K3, h3⟩ := ev_out (implShareOf_ev l0 l1 a2 a3 (okb_wf o0) (okb_wf o1))
 obtain ⟨K4, h4⟩ := ev_out (eqPairS_ev (shareL l0 l1 a2 a3) (by omega))
 obtain ⟨K5, h5⟩ := ev_out (eqByteS_ev l0 (by omega))
 obtain ⟨K6, h6⟩ := ev_out (eqByteS_ev l1 (by omega))
 obtain ⟨m0, hm0⟩ := markByteS_ev l0 1 (by omega) (by omega) (by omega)
 obtain ⟨m1, hm1⟩ := markByteS_ev l1 (1 + (l0.length : Int)) (by omega) (by omega) (by omega)
 obtain ⟨K7, h7⟩ := ev_out hm0
 obtain ⟨K8, h8⟩ := ev_out hm1
 obtain ⟨K9, h9⟩ := ev_out (shareOf_j0 l0 l1 a2 a3 (by omega) (by omega) (okb_wf o0) (okb_wf o1))
 refine ⟨K0 + K1 + K2 + K3 + K4 + K5 + K6 + K7 + K8 + K9, ?_⟩
 unfold laws_FnExactShareOf.f
 rw [iq g0, iq g1, h0 _ (by omega), bs, h1 _ (by omega), bs, h2 _ (by omega), bs, bs, bs, h3 _ (by omega), bs, h4 _ (by omega), bs, ip rfl, bs, h5 _ (by omega), bs, ip rfl, bs, h6 _ (by omega), bs, ip rfl, h7 _ (by omega), bs, h8 _ (by omega), bs, iq (by show ¬ (1 + (l0.length : Int) + (l1.length : Int) < 0); omega), bs]
 exact h9 _ (by omega)

end Go.Proofs.Ytadhngelhognaaa.Pure
