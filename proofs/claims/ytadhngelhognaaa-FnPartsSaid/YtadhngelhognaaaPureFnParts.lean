/- For two drawn texts and a depth: the program's Parts are as many as the reference's, their words stand in order, every row in a part's span begins with its word, and PartsOk says yes. -/
import Derived.Test.YtadhngelhognaaaQFnPartsx7
import Derived.Test.YtadhngelhognaaaBase
import Derived.Test.YtadhngelhognaaaSx
import Derived.Test.YtadhngelhognaaaWz
import Derived.Test.YtadhngelhognaaaWs
namespace Go.Proofs.Ytadhngelhognaaa.Pure
open Go.RowKit Go.Proofs.Ytadhngelhognaaa.QFnParts Go.Proofs.YtadhngelhognaaaW.PrintWords Go.Proofs.YtadhngelhognaaaW.PrintLast Go.Proofs.YtadhngelhognaaaW.PrintMore
open Go.Proofs.Ytadhngelhognaaa Go.Proofs.Ytadhngelhognaaa.Base Go.Proofs.Ytadhngelhognaaa.Sx Go.Proofs.Ytadhngelhognaaa.Wz Go.Proofs.Ytadhngelhognaaa.Ws
set_option linter.unusedVariables false
set_option linter.unusedSimpArgs false

/-- A cursor over code: what is kept of it. 'B': how far it may have gone. -/
def Cur (code : List Int) (B : Int) (t u : Int) : Prop := (∀ x ∈ code, 0 ≤ x ∧ x ≤ 255) ∧ code.length ≤ 140737488351232 ∧ 0 ≤ t ∧ t ≤ B ∧ 0 ≤ u ∧ u ≤ 66600
theorem Cur.more {code : List Int} {B B' t u : Int} (h : Cur code B t u) (hB : B ≤ B') : Cur code B' t u := ⟨h.1, h.2.1, h.2.2.1, by have := h.2.2.2.1; omega, h.2.2.2.2⟩
theorem rd_code {code : List Int} (h : ∀ x ∈ code, 0 ≤ x ∧ x ≤ 255) (i : Int) : 0 ≤ rd code i ∧ rd code i ≤ 255 := by
 unfold rd
 rw [List.getD_eq_getElem?_getD]
 cases hq : code[i.toNat]? with
 | none => exact ⟨by show (0 : Int) ≤ 0; omega, by show (0 : Int) ≤ 255; omega⟩
 | some x => exact h x (List.mem_of_getElem? hq)
theorem pick_ev {code : List Int} {B t u : Int} (h : Cur code B t u) (hB : B ≤ 1000000000) (n : Int) (hn : n ≤ 1000000000000) :
  ∃ v t' u', spec_l01Cur_pick.f code t u n = some (v, t', u') ∧ 0 ≤ v ∧ (1 ≤ n → v < n) ∧ (n < 2 → v = 0) ∧ Cur code (B + 1) t' u' := by
 obtain ⟨h1, h2, h3, h4, h5, h6⟩ := h
 unfold spec_l01Cur_pick.f
 by_cases c0 : n < 2
 ·exact ⟨0, t, u, if_pos c0, by omega, fun _ => by omega, fun _ => rfl, h1, h2, h3, by omega, h5, h6⟩
 ·have npos : 0 < n := by omega
  have wt : wrap64 (t + 1) = t + 1 := w64 (by omega) (by omega)
  rw [if_neg c0]
  by_cases c1 : t < (code.length : Int)
  ·obtain ⟨r0, r1⟩ := rd_code h1 t
   refine ⟨Int.tmod (rd code t) n, t + 1, u, by rw [if_pos c1, if_pos h3, if_neg (by omega), w64 (by omega) (by omega), wt], Int.tmod_nonneg _ r0, fun _ => Int.tmod_lt_of_pos _ npos, fun hn2 => absurd hn2 c0, h1, h2, by omega, by omega, h5, h6⟩
  ·have w1 : wrap64 (u * 1103) = u * 1103 := w64 (by omega) (by omega)
   have w2 : wrap64 (u * 1103 + 12345) = u * 1103 + 12345 := w64 (by omega) (by omega)
   have s0 : 0 ≤ Int.tmod (u * 1103 + 12345) 65521 := Int.tmod_nonneg _ (by omega)
   have s1 : Int.tmod (u * 1103 + 12345) 65521 < 65521 := Int.tmod_lt_of_pos _ (by omega)
   by_cases c2 : (code.length : Int) > 0
   ·have i0 : 0 ≤ Int.tmod t (code.length : Int) := Int.tmod_nonneg _ h3
    have i1 : Int.tmod t (code.length : Int) < (code.length : Int) := Int.tmod_lt_of_pos _ c2
    obtain ⟨r0, r1⟩ := rd_code h1 (Int.tmod t (code.length : Int))
    have d0 : 0 ≤ Int.tdiv (Int.tmod (u * 1103 + 12345) 65521) 7 := Int.tdiv_nonneg s0 (by omega)
    have d1 : Int.tdiv (Int.tmod (u * 1103 + 12345) 65521) 7 ≤ 65521 := by
     have := Int.tdiv_le_self 7 s0
     omega
    refine ⟨Int.tmod (Int.tdiv (Int.tmod (u * 1103 + 12345) 65521) 7 + rd code (Int.tmod t (code.length : Int))) n, t + 1, Int.tmod (u * 1103 + 12345) 65521, ?_, Int.tmod_nonneg _ (by omega), fun _ => Int.tmod_lt_of_pos _ npos, fun hn2 => absurd hn2 c0, h1, h2, by omega, by omega, s0, by omega⟩
    rw [if_neg c1, if_pos c2, if_neg (by omega), if_pos i0, if_pos i1, if_neg (by omega), w1, w2, wt, w64 (x := Int.tdiv (Int.tmod (u * 1103 + 12345) 65521) 7) (by omega) (by omega), w64 (x := rd code (Int.tmod t (code.length : Int))) (by omega) (by omega), w64 (by omega) (by omega)]
   ·refine ⟨(0 : Int) % n, t + 1, Int.tmod (u * 1103 + 12345) 65521, by rw [if_neg c1, if_neg c2, if_neg (by omega), w1, w2, wt], Int.emod_nonneg _ (by omega), fun _ => Int.emod_lt_of_pos _ npos, fun hn2 => absurd hn2 c0, h1, h2, by omega, by omega, s0, by omega⟩
theorem open_ev {code : List Int} (h1 : ∀ x ∈ code, 0 ≤ x ∧ x ≤ 255) (h2 : code.length ≤ 140737488351232) : ∃ t u, spec_l01Open.f code = some (code, t, u) ∧ Cur code 0 t u := by
 refine ⟨0, 89 + ((code.length : Int) % 1000), rfl, h1, h2, by omega, by omega, ?_, ?_⟩
 ·have := Int.emod_nonneg (code.length : Int) (show (1000 : Int) ≠ 0 by omega); omega
 ·have := Int.emod_lt_of_pos (code.length : Int) (show (0 : Int) < 1000 by omega); omega
theorem code_wf {code : List Int} (h : ∀ x ∈ code, (Lit.int .u8 x).wf = true) : ∀ x ∈ code, 0 ≤ x ∧ x ≤ 255 := fun x hx => by
 have := h x hx
 simp only [Lit.wf, IntKind.min, IntKind.max, IntKind.signed, IntKind.bits, Bool.and_eq_true, decide_eq_true_eq] at this
 simpa using this
theorem size_ev {code : List Int} {B t u : Int} (h : Cur code B t u) (hB : B ≤ 1000000000) (n : Int) (h0 : 0 ≤ n) (hn : n ≤ 1000000) :
  ∃ v t' u', spec_l01Cur_size.f code t u n = some (v, t', u') ∧ 0 ≤ v ∧ v ≤ n ∧ Cur code (B + 1) t' u' := by
 have hl := h.2.1
 unfold spec_l01Cur_size.f
 have w1 : wrap64 ((code.length : Int) / 8) = (code.length : Int) / 8 := w64 (by omega) (by omega)
 have w2 : wrap64 (1 + (code.length : Int) / 8) = 1 + (code.length : Int) / 8 := w64 (by omega) (by omega)
 have m1 : mn n (1 + (code.length : Int) / 8) ≤ n ∧ 0 ≤ mn n (1 + (code.length : Int) / 8) := by unfold mn; split <;> omega
 rw [w1, w2, w64 (x := mn n (1 + (code.length : Int) / 8) + 1) (by omega) (by omega)]
 obtain ⟨v, t', u', e, v0, v1, _, hc⟩ := pick_ev h hB (mn n (1 + (code.length : Int) / 8) + 1) (by omega)
 refine ⟨v, t', u', ?_, v0, ?_, hc⟩
 ·rw [e, Option.bind_some]
 ·have := v1 (by omega); omega
theorem raw_ev {code : List Int} {B t u : Int} (h : Cur code B t u) (hB : B ≤ 900000000) :
  ∃ v t' u', spec_l01Cur_raw.f code t u = some (v, t', u') ∧ -9223372036854775808 ≤ v ∧ v ≤ 9223372036854775807 ∧ Cur code (B + 2) t' u' := by
 obtain ⟨v1, t1, u1, e1, a1, b1, _, c1⟩ := pick_ev h (by omega) 8 (by omega)
 have b1 := b1 (by omega)
 unfold spec_l01Cur_raw.f
 rw [e1, Option.bind_some]
 by_cases g0 : v1 = 0
 ·obtain ⟨v2, t2, u2, e2, a2, b2, _, c2⟩ := pick_ev c1 (by omega) 256 (by omega)
  have b2 := b2 (by omega)
  exact ⟨v2 - 128, t2, u2, by rw [if_pos g0, e2, Option.bind_some, w64 (by omega) (by omega)], by omega, by omega, c2.more (by omega)⟩
 ·by_cases g1 : v1 = 1
  ·obtain ⟨v2, t2, u2, e2, a2, b2, _, c2⟩ := pick_ev c1 (by omega) 8 (by omega)
   have b2 := b2 (by omega)
   obtain ⟨j, rfl⟩ := Int.eq_ofNat_of_zero_le a2
   have hin : ∀ x ∈ ([9223372036854775807, (-9223372036854775808), 4611686018427387904, 4294967295, 4294967296, (-1000), 1000, 257] : List Int), -9223372036854775808 ≤ x ∧ x ≤ 9223372036854775807 := by
    intro x hx
    simp at hx
    omega
   have hr := hin (rd [9223372036854775807, (-9223372036854775808), 4611686018427387904, 4294967295, 4294967296, (-1000), 1000, 257] (j : Int)) (by
    rw [rd_nat, lget_lt _ j 0 (by simp; omega)]
    exact List.getElem_mem _)
   exact ⟨_, t2, u2, by rw [if_neg g0, if_pos g1, Option.bind_some, e2, Option.bind_some, if_pos (by omega), if_pos (by simp; omega)], hr.1, hr.2, c2.more (by omega)⟩
  ·obtain ⟨v2, t2, u2, e2, a2, b2, _, c2⟩ := pick_ev c1 (by omega) 14 (by omega)
   have b2 := b2 (by omega)
   exact ⟨v2 - 3, t2, u2, by rw [if_neg g0, if_neg g1, e2, Option.bind_some, w64 (by omega) (by omega)], by omega, by omega, c2.more (by omega)⟩
theorem once_ev {code : List Int} {B t u : Int} (h : Cur code B t u) (hB : B ≤ 1000000000) (n : Int) (hn : n ≤ 1000000000000) :
  ∃ b t' u', spec_l01Cur_once.f code t u n = some (b, t', u') ∧ Cur code (B + 1) t' u' := by
 obtain ⟨v, t', u', e, _, _, _, hc⟩ := pick_ev h hB n hn
 refine ⟨(v == wrap64 (n - 1)), t', u', ?_, hc⟩
 unfold spec_l01Cur_once.f
 rw [e, Option.bind_some]
theorem specCmp_l0 (a b : List Int) (ha : a.length ≤ 2000000) (hb : b.length ≤ 2000000) (d : Nat) : ∀ i : Nat, i + d = a.length → i ≤ b.length → Ev (fun k => spec_l05Cmp.l0 k a b (i : Int)) (Fv.cmpB (a.drop i) (b.drop i)) := by
 induction d with
 | zero =>
  intro i h hi
  refine Ev.step (f := fun k => spec_l05Cmp.j1 k a b (i : Int) false) (fun k => ?_) (Ev.step (f := fun _ => some _) (fun k => ?_) (Ev.now _))
  ·rw [spec_l05Cmp.l0, if_neg (by omega)]
  ·rw [spec_l05Cmp.j1, if_neg (by decide), List.drop_eq_nil_of_le (show a.length ≤ i by omega)]
   by_cases c : (a.length : Int) < (b.length : Int)
   ·rw [if_pos c, drop_at b i (by omega)]
    rfl
   ·rw [if_neg c, if_neg (by omega), List.drop_eq_nil_of_le (show b.length ≤ i by omega)]
    rfl
 | succ d ih =>
  intro i h hi
  rw [drop_at a i (by omega)]
  by_cases c : i < b.length
  ·rw [drop_at b i c, Fv.cmpB]
   by_cases c1 : a.getD i 0 < b.getD i 0
   ·refine Ev.step (f := fun k => spec_l05Cmp.j1 k a b (i : Int) true) (fun k => ?_) (Ev.step (f := fun _ => some _) (fun k => ?_) (Ev.now _))
    ·rw [spec_l05Cmp.l0, if_pos (by omega), decide_eq_true (show (i : Int) < (b.length : Int) by omega)]
    ·rw [spec_l05Cmp.j1, if_pos rfl, if_pos (by omega), if_pos (by omega), if_pos (by omega), rd_nat, rd_nat, if_pos c1, if_pos c1]
   ·by_cases c2 : b.getD i 0 < a.getD i 0
    ·refine Ev.step (f := fun k => spec_l05Cmp.j1 k a b (i : Int) true) (fun k => ?_) (Ev.step (f := fun _ => some _) (fun k => ?_) (Ev.now _))
     ·rw [spec_l05Cmp.l0, if_pos (by omega), decide_eq_true (show (i : Int) < (b.length : Int) by omega)]
     ·rw [spec_l05Cmp.j1, if_pos rfl, if_pos (by omega), if_pos (by omega), if_pos (by omega), rd_nat, rd_nat, if_neg c1, if_pos c2, if_neg c1, if_pos c2]
    ·rw [if_neg c1, if_neg c2]
     refine Ev.step (f := fun k => spec_l05Cmp.j1 k a b (i : Int) true) (fun k => ?_) (Ev.step (fun k => ?_) (ih (i + 1) (by omega) (by omega)))
     ·rw [spec_l05Cmp.l0, if_pos (by omega), decide_eq_true (show (i : Int) < (b.length : Int) by omega)]
     ·rw [spec_l05Cmp.j1, if_pos rfl, if_pos (by omega), if_pos (by omega), if_pos (by omega), rd_nat, rd_nat, if_neg c1, if_neg c2, w64 (by omega) (by omega)]
      rfl
  ·rw [List.drop_eq_nil_of_le (show b.length ≤ i by omega)]
   refine Ev.step (f := fun k => spec_l05Cmp.j1 k a b (i : Int) false) (fun k => ?_) (Ev.step (f := fun _ => some _) (fun k => ?_) (Ev.now _))
   ·rw [spec_l05Cmp.l0, if_pos (by omega), decide_eq_false (show ¬ (i : Int) < (b.length : Int) by omega)]
   ·rw [spec_l05Cmp.j1, if_neg (by decide), if_neg (by omega), if_pos (by omega)]
    rfl
theorem specCmp_ev (a b : List Int) (ha : a.length ≤ 2000000) (hb : b.length ≤ 2000000) : Ev (fun k => spec_l05Cmp.f k a b) (Fv.cmpB a b) := specCmp_l0 a b ha hb a.length 0 (by omega) (by omega)
def bytesOk (l : List Int) : Prop := ∀ x ∈ l, 0 ≤ x ∧ x < 256
theorem rd_rows {l out : List Int} (ho : ∀ x ∈ out, 0 ≤ x ∧ x ≤ l.length) (j : Nat) (hj : j < out.length) : 0 ≤ out.getD j 0 ∧ out.getD j 0 ≤ l.length := by
 rw [lget_lt out j 0 hj]
 exact ho _ (List.getElem_mem _)
theorem specIns (l out : List Int) (i : Nat) (hl : l.length ≤ 300) (hi : i ≤ l.length) (ho : ∀ x ∈ out, 0 ≤ x ∧ x ≤ l.length) (hlen : out.length ≤ 1000) (hs : out.Pairwise (sl l)) (m : Nat) : ∀ lo hi_ : Nat, hi_ - lo ≤ m → lo ≤ hi_ → hi_ ≤ out.length →
  (∀ j, j < lo → j < out.length → sl l (out.getD j 0) i) → (∀ j, hi_ ≤ j → j < out.length → ¬ sl l (out.getD j 0) i) →
  ∃ p, p ≤ out.length ∧ (∀ j, j < p → j < out.length → sl l (out.getD j 0) i) ∧ (∀ j, p ≤ j → j < out.length → ¬ sl l (out.getD j 0) i) ∧
   ∀ r, Ev (fun k => spec_SuffixRows.l0 k l (out.take p ++ (i : Int) :: out.drop p) ((i : Int) - 1)) r → Ev (fun k => spec_SuffixRows.l1 k l out (i : Int) (lo : Int) (hi_ : Int)) r := by
 have pw : ∀ j j' : Nat, j < j' → j' < out.length → sl l (out.getD j 0) (out.getD j' 0) := fun j j' h h' => by
  rw [lget_lt out j 0 (by omega), lget_lt out j' 0 h']
  exact List.pairwise_iff_getElem.1 hs j j' (by omega) h' h
 induction m with
 | zero =>
  intro lo hi_ h1 h2 h3 h4 h5
  have e : hi_ = lo := by omega
  subst e
  refine ⟨hi_, h3, h4, h5, fun r hr => Ev.step (fun k => ?_) hr⟩
  rw [spec_SuffixRows.l1, if_neg (by omega), Option.bind_some, if_pos (by omega), if_pos (by omega), Option.bind_some, Int.toNat_natCast, if_pos (by simp; omega), Option.bind_some, Option.bind_some, Option.bind_some, if_pos (by simp; omega), Option.bind_some,
   if_pos (by simp; omega), w64 (by omega) (by omega)]
  simp
 | succ m ih =>
  intro lo hi_ h1 h2 h3 h4 h5
  by_cases e : lo < hi_
  ·have hmid : wrap64 (Int.tdiv (wrap64 ((lo : Int) + (hi_ : Int))) 2) = (((lo + hi_) / 2 : Nat) : Int) := by
    rw [show wrap64 ((lo : Int) + (hi_ : Int)) = (lo : Int) + (hi_ : Int) from w64 (by omega) (by omega), show Int.tdiv ((lo : Int) + (hi_ : Int)) 2 = (((lo + hi_) / 2 : Nat) : Int) from by rw [← Int.natCast_add]; rfl, w64 (by omega) (by omega)]
   obtain ⟨mid, hm⟩ : ∃ mid, mid = (lo + hi_) / 2 := ⟨_, rfl⟩
   rw [← hm] at hmid
   have hml : lo ≤ mid := by omega
   have hmh : mid < hi_ := by omega
   obtain ⟨b0, b1⟩ := rd_rows ho mid (by omega)
   obtain ⟨K, hK⟩ := ev_out (specCmp_ev (l.drop (out.getD mid 0).toNat) (l.drop i) (by rw [List.length_drop]; omega) (by rw [List.length_drop]; omega))
   by_cases c : sl l (out.getD mid 0) i
   ·have c' : Fv.cmpB (l.drop (out.getD mid 0).toNat) (l.drop i) < 0 := by have := c; unfold sl at this; rwa [Int.toNat_natCast] at this
    obtain ⟨p, q1, q2, q3, q4⟩ := ih (mid + 1) hi_ (by omega) (by omega) h3 (fun j hj hj' => by
     by_cases ej : j = mid
     ·rw [ej]; exact c
     ·exact sl_trans l _ _ _ (pw j mid (by omega) (by omega)) c) h5
    refine ⟨p, q1, q2, q3, fun r hr => ?_⟩
    obtain ⟨K2, hK2⟩ := ev_out (q4 r hr)
    refine ev_mk (K + K2 + 1) fun k hk => ?_
    obtain ⟨k, rfl⟩ : ∃ m, k = m + 1 := ⟨k - 1, by omega⟩
    rw [spec_SuffixRows.l1, if_pos (by omega), hmid, if_pos (by omega), if_pos (by omega), rd_nat, if_pos b0, if_pos b1, if_pos (by omega), if_pos (by omega), Int.toNat_natCast, hK k (by omega), Option.bind_some, if_pos c', w64 (by omega) (by omega)]
    exact hK2 k (by omega)
   ·have c' : ¬ Fv.cmpB (l.drop (out.getD mid 0).toNat) (l.drop i) < 0 := by have := c; unfold sl at this; rwa [Int.toNat_natCast] at this
    obtain ⟨p, q1, q2, q3, q4⟩ := ih lo mid (by omega) (by omega) (by omega) h4 (fun j hj hj' hh => by
     by_cases ej : j = mid
     ·rw [ej] at hh; exact c hh
     ·exact c (sl_trans l _ _ _ (pw mid j (by omega) (by omega)) hh))
    refine ⟨p, q1, q2, q3, fun r hr => ?_⟩
    obtain ⟨K2, hK2⟩ := ev_out (q4 r hr)
    refine ev_mk (K + K2 + 1) fun k hk => ?_
    obtain ⟨k, rfl⟩ : ∃ m, k = m + 1 := ⟨k - 1, by omega⟩
    rw [spec_SuffixRows.l1, if_pos (by omega), hmid, if_pos (by omega), if_pos (by omega), rd_nat, if_pos b0, if_pos b1, if_pos (by omega), if_pos (by omega), Int.toNat_natCast, hK k (by omega), Option.bind_some, if_neg c']
    exact hK2 k (by omega)
  ·obtain ⟨p, q1, q2, q3, q4⟩ := ih lo hi_ (by omega) h2 h3 h4 h5
   exact ⟨p, q1, q2, q3, q4⟩
def from_ (n d : Nat) : List Int := (upto n).filter fun x => decide ((d : Int) ≤ x)
theorem mem_from (n d : Nat) (x : Int) : x ∈ from_ n d ↔ (d : Int) ≤ x ∧ x ≤ n := by
 unfold from_
 rw [List.mem_filter, mem_upto, decide_eq_true_eq]
 omega
theorem from_nodup (n d : Nat) : (from_ n d).Nodup := (upto_nodup n).sublist List.filter_sublist
theorem from_cons (n d : Nat) (h : d ≤ n) : (from_ n d).Perm ((d : Int) :: from_ n (d + 1)) := by
 rw [List.perm_ext_iff_of_nodup (from_nodup _ _) (List.nodup_cons.2 ⟨fun h => by rw [mem_from] at h; omega, from_nodup _ _⟩)]
 intro x
 rw [List.mem_cons, mem_from, mem_from]
 omega
theorem from_zero (n : Nat) : (from_ n 0).Perm (upto n) := by
 rw [List.perm_ext_iff_of_nodup (from_nodup _ _) (upto_nodup _)]
 intro x
 rw [mem_from, mem_upto]
 omega
theorem from_top (n : Nat) : from_ n (n + 1) = [] := List.eq_nil_iff_forall_not_mem.2 fun x h => by rw [mem_from] at h; omega
theorem specRows_l0 (l : List Int) (hl : l.length ≤ 300) (d : Nat) : ∀ out : List Int, d ≤ l.length + 1 → out.Perm (from_ l.length d) → out.Pairwise (sl l) → Ev (fun k => spec_SuffixRows.l0 k l out ((d : Int) - 1)) (rowsOf l) := by
 induction d with
 | zero =>
  intro out _ hp hs
  refine Ev.step (f := fun _ => some _) (fun k => ?_) (Ev.now _)
  rw [spec_SuffixRows.l0, if_neg (by omega), rows_unique l out (hp.trans (from_zero _)) hs]
 | succ d ih =>
  intro out hd hp hs
  have hm : ∀ x ∈ out, 0 ≤ x ∧ x ≤ l.length := fun x hx => by have := (mem_from _ _ _).1 (hp.mem_iff.1 hx); omega
  have hn : (d : Int) ∉ out := fun h => by have := (mem_from _ _ _).1 (hp.mem_iff.1 h); omega
  have hlen : out.length ≤ 1000 := by
   have h1 := hp.length_eq
   have h2 : (from_ l.length (d + 1)).length ≤ (upto l.length).length := List.length_filter_le _ _
   have h3 : (upto l.length).length = l.length + 1 := by simp [upto]
   omega
  obtain ⟨p, q1, q2, q3, q4⟩ := specIns l out d hl (by omega) hm hlen hs out.length 0 out.length (by omega) (by omega) (by omega) (fun j hj => by omega) (fun j hj hj' => by omega)
  have hnew : (out.take p ++ (d : Int) :: out.drop p).Perm (from_ l.length d) := by
   refine List.perm_middle.trans ?_
   rw [List.take_append_drop]
   exact (hp.cons _).trans (from_cons _ _ (by omega)).symm
  have h := q4 _ (ih _ (by omega) hnew (ins_sorted l out d p (by omega) hm hn hs q2 q3))
  refine Ev.step (fun k => ?_) h
  rw [spec_SuffixRows.l0, if_pos (by omega), show ((d + 1 : Nat) : Int) - 1 = (d : Int) by omega]
  rfl
theorem specRows_ev (l : List Int) (hl : l.length ≤ 300) : Ev (fun k => spec_SuffixRows.f k l) (rowsOf l) := by
 have h := specRows_l0 l hl (l.length + 1) [] (by omega) (by rw [from_top]) List.Pairwise.nil
 refine Ev.congr (fun k => ?_) h
 unfold spec_SuffixRows.f spec_TextOk.f
 rw [Option.bind_some, decide_eq_true (by omega), if_pos rfl, show ((l.length + 1 : Nat) : Int) - 1 = (l.length : Int) by omega]
theorem implRows_l0 (l : List Int) (hl : l.length ≤ 300) (hb : bytesOk l) (d : Nat) : ∀ i : Nat, i + d = l.length + 1 → Ev (fun k => impl_suffixRows.l0 k ((List.range i).map fun (i : Nat) => (i : Int)) ((l.length : Int) + 1) (i : Int) l) (rowsOf l) := by
 induction d with
 | zero =>
  intro i h
  have e : i = l.length + 1 := by omega
  subst e
  refine Ev.step (f := fun _ => some _) (fun k => ?_) (Ev.now _)
  rw [impl_suffixRows.l0, if_neg (by omega), slices_SortFunc_79.f, if_pos ?_, Option.bind_some]
  ·rfl
  ·simp only [Bool.and_eq_true, List.all_eq_true, decide_eq_true_eq, Fv.isB]
   refine ⟨⟨hb, fun x hx => (mem_upto _ _).1 hx⟩, by simp; omega⟩
 | succ d ih =>
  intro i h
  refine Ev.step (fun k => ?_) (ih (i + 1) (by omega))
  rw [impl_suffixRows.l0, if_pos (by omega), if_pos (by simp; omega), w64 (by omega) (by omega), List.range_succ, List.map_append]
  rfl
theorem implRows_ev (l : List Int) (hl : l.length ≤ 300) (hb : bytesOk l) : Ev (fun k => impl_suffixRows.f k l) (rowsOf l) := by
 have h := implRows_l0 l hl hb (l.length + 1) 0 (by omega)
 refine Ev.congr (fun k => ?_) h
 unfold impl_suffixRows.f
 rw [w64 (by omega) (by omega)]
 rfl
theorem bytesOk_take {l : List Int} (h : bytesOk l) (i : Nat) : bytesOk (l.take i) := fun x hx => h x (List.mem_of_mem_take hx)
theorem bytesOk_drop {l : List Int} (h : bytesOk l) (i : Nat) : bytesOk (l.drop i) := fun x hx => h x (List.mem_of_mem_drop hx)
theorem bytesOk_app {a b : List Int} (ha : bytesOk a) (hb : bytesOk b) : bytesOk (a ++ b) := fun x hx => by
 rcases List.mem_append.1 hx with h | h
 ·exact ha x h
 ·exact hb x h
theorem textOf_l0 (S : ByteArray) (hS : 1 ≤ S.size) (hS2 : S.size ≤ 100) (c : Nat) : ∀ {code : List Int} {B t u : Int} (out : List Int), Cur code B t u → B + 3 * (c : Int) ≤ 900000000 → out.length + 10 * c ≤ 10000000 → bytesOk out →
  ∃ l t' u', Ev (fun k => spec_l01Cur_textOf.l0 k 24 out S (c : Int) code t u) (l, t', u') ∧ l.length ≤ 24 ∧ bytesOk l ∧ Cur code (B + 3 * (c : Int)) t' u' := by
 induction c with
 | zero =>
  intro code B t u out h _ _ ho
  by_cases c : (out.length : Int) > 24
  ·refine ⟨out.take 24, t, u, Ev.step (f := fun _ => some (out.take 24, t, u)) (fun k => ?_) (Ev.now _), by rw [List.length_take]; omega, fun x hx => ho x (List.mem_of_mem_take hx), h.more (by omega)⟩
   rw [spec_l01Cur_textOf.l0, if_neg (by omega), if_pos c, if_pos (by omega), if_pos (by omega)]
   rfl
  ·refine ⟨out, t, u, Ev.step (f := fun _ => some (out, t, u)) (fun k => ?_) (Ev.now _), by omega, ho, h.more (by omega)⟩
   rw [spec_l01Cur_textOf.l0, if_neg (by omega), if_neg c]
 | succ c ih =>
  intro code B t u out h hB hl ho
  have e1 : wrap64 (((c + 1 : Nat) : Int) - 1) = (c : Int) := by rw [w64 (by omega) (by omega)]; omega
  have plain : ∀ {B1 t1 u1 : Int}, Cur code B1 t1 u1 → B1 ≤ B + 1 → ∃ l t' u', Ev (fun k => spec_l01Cur_textOf.j1 k 24 out S ((c + 1 : Nat) : Int) false code t1 u1) (l, t', u') ∧ l.length ≤ 24 ∧ bytesOk l ∧ Cur code (B + 3 * ((c + 1 : Nat) : Int)) t' u' := fun {B1 t1 u1} h1 hB1 => by
   obtain ⟨v, t2, u2, e2, a2, b2, _, c2⟩ := pick_ev h1 (by omega) (S.size : Int) (by omega)
   have b2 := b2 (by omega)
   have hb := bt_range S v
   obtain ⟨l, t', u', hev, hlen, hin, hc⟩ := ih (out ++ [bt S v]) c2 (by omega) (by simp; omega) (bytesOk_app ho (fun x hx => by rw [List.mem_singleton.1 hx]; omega))
   refine ⟨l, t', u', Ev.step (fun k => ?_) hev, hlen, hin, hc.more (by omega)⟩
   rw [spec_l01Cur_textOf.j1, if_neg (by decide), e2, Option.bind_some, if_pos a2, if_pos b2, if_pos (by omega), e1]
  by_cases g : (out.length : Int) > 3
  ·obtain ⟨b, t1, u1, eb, h1⟩ := once_ev h (by omega) 6 (by omega)
   cases b with
   | false =>
    obtain ⟨l, t', u', hev, r⟩ := plain h1 (by omega)
    refine ⟨l, t', u', Ev.step (fun k => ?_) hev, r⟩
    rw [spec_l01Cur_textOf.l0, if_pos (by omega), if_pos g, eb, Option.bind_some]
   | true =>
    obtain ⟨v, t2, u2, e2, a2, b2, _, c2⟩ := pick_ev h1 (by omega) (out.length : Int) (by omega)
    have b2 := b2 (by omega)
    obtain ⟨v3, t3, u3, e3, a3, b3, _, c3⟩ := pick_ev c2 (by omega) 6 (by omega)
    have b3 := b3 (by omega)
    obtain ⟨i, rfl⟩ := Int.eq_ofNat_of_zero_le a2
    obtain ⟨q, rfl⟩ := Int.eq_ofNat_of_zero_le a3
    obtain ⟨m, hm, hm1, hm2, hm3⟩ : ∃ m : Nat, mn (out.length : Int) (wrap64 (wrap64 ((i : Int) + 1) + (q : Int))) = (m : Int) ∧ i ≤ m ∧ m ≤ out.length ∧ m ≤ i + 7 := by
     rw [w64 (x := (i : Int) + 1) (by omega) (by omega), w64 (by omega) (by omega)]
     unfold mn
     split
     ·exact ⟨i + 1 + q, by omega, by omega, by omega, by omega⟩
     ·exact ⟨out.length, rfl, by omega, by omega, by omega⟩
    have hpl : ((out.take m).drop i).length ≤ 7 := by rw [List.length_drop, List.length_take]; omega
    obtain ⟨l, t', u', hev, hlen, hin, hc⟩ := ih (out ++ (out.take m).drop i) c3 (by omega) (by rw [List.length_append]; omega) (bytesOk_app ho (bytesOk_drop (bytesOk_take ho m) i))
    refine ⟨l, t', u', Ev.step (f := fun k => spec_l01Cur_textOf.j1 k 24 out S ((c + 1 : Nat) : Int) true code t1 u1) (fun k => ?_) (Ev.step (fun k => ?_) hev), hlen, hin, hc.more (by omega)⟩
    ·rw [spec_l01Cur_textOf.l0, if_pos (by omega), if_pos g, eb, Option.bind_some]
    ·rw [spec_l01Cur_textOf.j1, if_pos rfl, e2, Option.bind_some, e3, Option.bind_some]
     dsimp only
     rw [hm, if_pos (by omega), if_pos (by omega), if_pos (by omega), Option.bind_some, Int.toNat_natCast, Int.toNat_natCast, if_pos (by omega), e1]
  ·obtain ⟨l, t', u', hev, r⟩ := plain h (by omega)
   refine ⟨l, t', u', Ev.step (fun k => ?_) hev, r⟩
   rw [spec_l01Cur_textOf.l0, if_pos (by omega), if_neg g]
theorem textOf_ev {code : List Int} {B t u : Int} (h : Cur code B t u) (hB : B ≤ 500000000) : ∃ l t' u', Ev (fun k => spec_l01Cur_textOf.f k code t u 24) (l, t', u') ∧ l.length ≤ 24 ∧ bytesOk l ∧ Cur code (B + 100) t' u' := by
 obtain ⟨v, t1, u1, e1, a1, b1, _, c1⟩ := pick_ev h (by omega) 5 (by omega)
 have b1 := b1 (by omega)
 obtain ⟨n, t2, u2, e2, a2, b2, c2⟩ := size_ev c1 (by omega) 24 (by omega) (by omega)
 obtain ⟨n, rfl⟩ := Int.eq_ofNat_of_zero_le a2
 obtain ⟨S, hS, hS1, hS2⟩ : ∃ S : ByteArray, rdOf ByteArray.empty [(⟨#[97]⟩ : ByteArray), (⟨#[97, 98]⟩ : ByteArray), (⟨#[97, 98, 99]⟩ : ByteArray), (⟨#[97, 99, 103, 116]⟩ : ByteArray), (⟨#[0, 255]⟩ : ByteArray)] v = S ∧ 1 ≤ S.size ∧ S.size ≤ 100 := by
  rcases (show v = 0 ∨ v = 1 ∨ v = 2 ∨ v = 3 ∨ v = 4 by omega) with rfl | rfl | rfl | rfl | rfl
  ·exact ⟨_, rfl, by decide, by decide⟩
  ·exact ⟨_, rfl, by decide, by decide⟩
  ·exact ⟨_, rfl, by decide, by decide⟩
  ·exact ⟨_, rfl, by decide, by decide⟩
  ·exact ⟨_, rfl, by decide, by decide⟩
 obtain ⟨l, t', u', hev, hlen, hin, hc⟩ := textOf_l0 S hS1 hS2 n [] c2 (by omega) (by simp; omega) (fun x hx => by simp at hx)
 refine ⟨l, t', u', Ev.congr (fun k => ?_) hev, hlen, hin, hc.more (by omega)⟩
 unfold spec_l01Cur_textOf.f
 rw [Option.bind_some, e1, Option.bind_some, if_pos a1, if_pos (by simp; omega), e2, Option.bind_some]
 dsimp only
 rw [hS]
theorem bytesOk_str (s : ByteArray) : bytesOk (bytesOf s) := fun x hx => by
 obtain ⟨b, _, rfl⟩ := List.mem_map.1 hx
 have := b.toNat_lt
 omega
theorem twin_j1 {code : List Int} {B t u : Int} (h : Cur code B t u) (r x : List Int) (hr : r.length ≤ 24) (br : bytesOk r) (bx : bytesOk x) :
  ∃ y t' u', Ev (fun k => spec_l01Cur_twin.j1 k 24 r x code t u) (r, y, t', u') ∧ y.length ≤ 24 ∧ bytesOk y ∧ Cur code B t' u' := by
 by_cases c : (x.length : Int) > 24
 ·refine ⟨x.take 24, t, u, Ev.step (f := fun _ => some (r, x.take 24, t, u)) (fun k => ?_) (Ev.now _), by rw [List.length_take]; omega, bytesOk_take bx _, h⟩
  rw [spec_l01Cur_twin.j1, if_pos c, if_pos (by omega), if_pos (by omega)]
  rfl
 ·refine ⟨x, t, u, Ev.step (f := fun _ => some (r, x, t, u)) (fun k => ?_) (Ev.now _), by omega, bx, h⟩
  rw [spec_l01Cur_twin.j1, if_neg c]
theorem twin_l0 (r : List Int) (hr : r.length ≤ 24) (br : bytesOk r) (c : Nat) : ∀ {code : List Int} {B t u : Int} (x : List Int), Cur code B t u → B + 3 * (c : Int) ≤ 400000000 → x.length + 2 * c ≤ 1000 → bytesOk x →
  ∃ y t' u', Ev (fun k => spec_l01Cur_twin.l0 k 24 x (c : Int) r code t u) (r, y, t', u') ∧ y.length ≤ 24 ∧ bytesOk y ∧ Cur code (B + 3 * (c : Int) + 200) t' u' := by
 induction c with
 | zero =>
  intro code B t u x h hB hx bx
  obtain ⟨b, t1, u1, eb, h1⟩ := once_ev h (by omega) 6 (by omega)
  cases b with
  | false =>
   obtain ⟨y, t', u', hev, hy, by_, hc⟩ := twin_j1 h1 r x hr br bx
   refine ⟨y, t', u', Ev.step (fun k => ?_) hev, hy, by_, hc.more (by omega)⟩
   rw [spec_l01Cur_twin.l0, if_neg (by omega), eb, Option.bind_some, if_neg (by simp)]
  | true =>
   obtain ⟨z, t2, u2, hev2, hz, bz, h2⟩ := textOf_ev h1 (by omega)
   obtain ⟨y, t', u', hev, hy, by_, hc⟩ := twin_j1 h2 r z hr br bz
   obtain ⟨K, hK⟩ := ev_out hev2
   obtain ⟨K2, hK2⟩ := ev_out hev
   refine ⟨y, t', u', ev_mk (K + K2 + 1) fun k hk => ?_, hy, by_, hc.more (by omega)⟩
   obtain ⟨k, rfl⟩ : ∃ m, k = m + 1 := ⟨k - 1, by omega⟩
   rw [spec_l01Cur_twin.l0, if_neg (by omega), eb, Option.bind_some, if_pos rfl, hK k (by omega), Option.bind_some]
   exact hK2 k (by omega)
 | succ c ih =>
  intro code B t u x h hB hx bx
  obtain ⟨v1, t1, u1, e1, a1, b1, _, c1⟩ := pick_ev h (by omega) ((x.length : Int) + 1) (by omega)
  have b1 := b1 (by omega)
  obtain ⟨v2, t2, u2, e2, a2, b2, _, c2⟩ := pick_ev c1 (by omega) 4 (by omega)
  have b2 := b2 (by omega)
  obtain ⟨v3, t3, u3, e3, a3, b3, _, c3⟩ := pick_ev c2 (by omega) 3 (by omega)
  have b3 := b3 (by omega)
  obtain ⟨S, hS, hS1⟩ : ∃ S : ByteArray, rdOf ByteArray.empty [(⟨#[]⟩ : ByteArray), (⟨#[97]⟩ : ByteArray), (⟨#[98]⟩ : ByteArray), (⟨#[122, 122]⟩ : ByteArray)] v2 = S ∧ S.size ≤ 2 := by
   rcases (show v2 = 0 ∨ v2 = 1 ∨ v2 = 2 ∨ v2 = 3 by omega) with rfl | rfl | rfl | rfl
   ·exact ⟨_, rfl, by decide⟩
   ·exact ⟨_, rfl, by decide⟩
   ·exact ⟨_, rfl, by decide⟩
   ·exact ⟨_, rfl, by decide⟩
  obtain ⟨i, rfl⟩ := Int.eq_ofNat_of_zero_le a1
  obtain ⟨q, rfl⟩ := Int.eq_ofNat_of_zero_le a3
  obtain ⟨m, hm, hm1, hm2⟩ : ∃ m : Nat, mn (x.length : Int) (wrap64 ((i : Int) + (q : Int))) = (m : Int) ∧ i ≤ m ∧ m ≤ x.length := by
   rw [w64 (by omega) (by omega)]
   unfold mn
   split
   ·exact ⟨i + q, by omega, by omega, by omega⟩
   ·exact ⟨x.length, rfl, by omega, by omega⟩
  have hl : (x.take i ++ bytesOf S ++ x.drop m).length ≤ x.length + 2 := by
   rw [List.length_append, List.length_append, bytesOf_length, List.length_take, List.length_drop]
   omega
  obtain ⟨y, t', u', hev, hy, by_, hc⟩ := ih (x.take i ++ bytesOf S ++ x.drop m) c3 (by omega) (by omega) (bytesOk_app (bytesOk_app (bytesOk_take bx i) (bytesOk_str S)) (bytesOk_drop bx m))
  have l1 : (x.take i).length ≤ 1000 := by rw [List.length_take]; omega
  refine ⟨y, t', u', Ev.step (fun k => ?_) hev, hy, by_, hc.more (by omega)⟩
  rw [spec_l01Cur_twin.l0, if_pos (by omega), w64 (x := (x.length : Int) + 1) (by omega) (by omega), e1, Option.bind_some, Option.bind_some, e2, Option.bind_some]
  dsimp only
  rw [if_pos a2, if_pos (by simp; omega), Option.bind_some, if_pos a1, if_pos (by omega), Option.bind_some, Int.toNat_natCast, if_pos (by simp only [List.length_nil]; omega), Option.bind_some, hS, List.nil_append, if_pos (by omega), Option.bind_some, e3, Option.bind_some]
  dsimp only
  rw [hm, if_pos (by omega), if_pos (by omega), Int.toNat_natCast, Option.bind_some, if_pos (by rw [List.length_append, List.length_append, bytesOf_length, List.length_take, List.length_drop] at hl; rw [List.length_append, bytesOf_length, List.length_take, List.length_drop]; omega), show wrap64 (((c + 1 : Nat) : Int) - 1) = (c : Int) from by rw [w64 (by omega) (by omega)]; omega]
theorem twin_ev {code : List Int} {B t u : Int} (h : Cur code B t u) (hB : B ≤ 300000000) : ∃ r x t' u', Ev (fun k => spec_l01Cur_twin.f k code t u 24) (r, x, t', u') ∧ r.length ≤ 24 ∧ x.length ≤ 24 ∧ bytesOk r ∧ bytesOk x ∧ Cur code (B + 1000) t' u' := by
 obtain ⟨r, t1, u1, hev1, hr, br, c1⟩ := textOf_ev h (by omega)
 obtain ⟨v, t2, u2, e2, a2, b2, _, c2⟩ := pick_ev c1 (by omega) 4 (by omega)
 have b2 := b2 (by omega)
 obtain ⟨c, rfl⟩ := Int.eq_ofNat_of_zero_le a2
 obtain ⟨y, t', u', hev, hy, by_, hc⟩ := twin_l0 r hr br c r c2 (by omega) (by omega) br
 obtain ⟨K, hK⟩ := ev_out hev1
 obtain ⟨K2, hK2⟩ := ev_out hev
 refine ⟨r, y, t', u', ev_mk (K + K2) fun k hk => ?_, hr, hy, br, by_, hc.more (by omega)⟩
 unfold spec_l01Cur_twin.f
 rw [hK k (by omega), Option.bind_some, Option.bind_some]
 dsimp only
 rw [if_pos (by simp only [List.length_nil]; omega), e2, Option.bind_some, List.nil_append]
 exact hK2 k (by omega)
theorem depth_ev {code : List Int} {B t u : Int} (h : Cur code B t u) (hB : B ≤ 300000000) : ∃ d t' u', spec_l01Cur_depthOf.f code t u = some (d, t', u') ∧ Cur code (B + 10) t' u' := by
 obtain ⟨v, t1, u1, e1, _, _, c1⟩ := raw_ev h (by omega)
 obtain ⟨v2, t2, u2, e2, a2, b2, _, c2⟩ := pick_ev c1 (by omega) 6 (by omega)
 have b2 := b2 (by omega)
 refine ⟨rd [0, 1, 2, 3, 8, v] v2, t2, u2, ?_, c2.more (by omega)⟩
 unfold spec_l01Cur_depthOf.f
 rw [e1, Option.bind_some, Option.bind_some]
 dsimp only
 rw [e2, Option.bind_some]
 dsimp only
 rw [if_pos a2, if_pos (by simp; omega)]
theorem rdL2 (T : List (List Int)) (i : Nat) : rd_L3 T (i : Int) = T.getD i [] := by unfold rd_L3; rw [Int.toNat_natCast]
theorem mid_take (l : List Int) (r d m : Nat) (h : r ≤ l.length) (hm : m = min l.length (r + d)) : (l.take m).drop r = (l.drop r).take d := by
 rw [List.drop_take, hm]
 by_cases c : r + d ≤ l.length
 ·rw [Nat.min_eq_right c, Nat.add_sub_cancel_left]
 ·rw [Nat.min_eq_left (by omega), List.take_of_length_le (by rw [List.length_drop]; omega), List.take_of_length_le (by rw [List.length_drop]; omega)]
theorem mn_min (a b : Nat) : mn (a : Int) (b : Int) = ((min a b : Nat) : Int) := by unfold mn; split <;> omega
theorem specHead_eq (l : List Int) (hl : l.length ≤ 300) (r d : Int) (a0 : 0 ≤ r) (a1 : r ≤ l.length) (h0 : 0 ≤ d) (h8 : d ≤ 8) : spec_l13Head.f l r d = some ((l.drop r.toNat).take d.toNat) := by
 obtain ⟨r, rfl⟩ := Int.eq_ofNat_of_zero_le a0
 obtain ⟨d, rfl⟩ := Int.eq_ofNat_of_zero_le h0
 unfold spec_l13Head.f
 rw [w64 (by omega) (by omega), ← Int.natCast_add, mn_min, if_pos (by omega), if_pos (by omega), if_pos (by omega), Int.toNat_natCast, Int.toNat_natCast, Int.toNat_natCast, mid_take l r d _ (by omega) rfl]
theorem specHeads_l0 (l : List Int) (hl : l.length ≤ 300) (d : Int) (h0 : 0 ≤ d) (h8 : d ≤ 8) (n : Nat) : ∀ i : Nat, i + n = l.length + 1 → Ev (fun k => spec_l13Heads.l0 k l d ((headsOf l d.toNat).take i) (i : Int) (rowsOf l)) (headsOf l d.toNat) := by
 have hR := rowsOf_len l
 have hL := headsOf_len l d.toNat
 induction n with
 | zero =>
  intro i h
  refine Ev.step (f := fun _ => some _) (fun k => ?_) (Ev.now _)
  rw [spec_l13Heads.l0, if_neg (by omega), List.take_of_length_le (by omega)]
 | succ n ih =>
  intro i h
  have hat := headsOf_at l d.toNat i (by omega)
  obtain ⟨a0, a1⟩ := rowsOf_at l i (by omega)
  refine Ev.step (fun k => ?_) (ih (i + 1) (by omega))
  rw [take_succ_getD _ [] i (by omega), hat, spec_l13Heads.l0, if_pos (by omega), if_pos (by omega), rd_nat, specHead_eq l hl _ d a0 a1 h0 h8, Option.bind_some, if_pos (by rw [List.length_take]; omega), w64 (by omega) (by omega)]
  rfl
theorem specHeads_ev (l : List Int) (hl : l.length ≤ 300) (d : Int) (h0 : 0 ≤ d) (h8 : d ≤ 8) : Ev (fun k => spec_l13Heads.f k l d) (headsOf l d.toNat) := by
 obtain ⟨K, hK⟩ := ev_out (specRows_ev l hl)
 obtain ⟨K2, hK2⟩ := ev_out (specHeads_l0 l hl d h0 h8 (l.length + 1) 0 (by omega))
 refine ev_mk (K + K2) fun k hk => ?_
 unfold spec_l13Heads.f
 rw [hK k (by omega), Option.bind_some]
 exact hK2 k (by omega)
def headsS (l : List Int) (d : Int) : List ByteArray := (headsOf l d.toNat).map strOfNums
theorem headsS_len (l : List Int) (d : Int) : (headsS l d).length = l.length + 1 := by unfold headsS; rw [List.length_map, headsOf_len]
theorem headsS_at (l : List Int) (d : Int) (i : Nat) (h : i < l.length + 1) : (headsS l d).getD i ByteArray.empty = strOfNums ((headsOf l d.toNat).getD i []) := by
 rw [lget_lt _ i _ (by rw [headsS_len]; exact h), lget_lt _ i _ (by rw [headsOf_len]; exact h)]
 simp [headsS]
theorem implHeads_l0 (l : List Int) (hl : l.length ≤ 300) (d : Int) (h0 : 0 ≤ d) (h8 : d ≤ 8) (n : Nat) : ∀ i : Nat, i + n = l.length + 1 → Ev (fun k => impl_heads.l0 k l d ((headsS l d).take i) (rowsOf l) ((rowsOf l).length : Int) (i : Int)) (headsS l d) := by
 have hR := rowsOf_len l
 have hL := headsS_len l d
 induction n with
 | zero =>
  intro i h
  refine Ev.step (f := fun _ => some _) (fun k => ?_) (Ev.now _)
  rw [impl_heads.l0, if_neg (by omega), List.take_of_length_le (by omega)]
 | succ n ih =>
  intro i h
  have hat := headsOf_at l d.toNat i (by omega)
  obtain ⟨a0, a1⟩ := rowsOf_at l i (by omega)
  refine Ev.step (fun k => ?_) (ih (i + 1) (by omega))
  rw [take_succ_getD _ ByteArray.empty i (by omega), headsS_at l d i (by omega), hat, impl_heads.l0, if_pos (by omega), if_pos (by omega), if_pos (by omega), rd_nat]
  generalize (rowsOf l).getD i 0 = r at a0 a1 ⊢
  obtain ⟨r, rfl⟩ := Int.eq_ofNat_of_zero_le a0
  obtain ⟨d, rfl⟩ := Int.eq_ofNat_of_zero_le h0
  rw [w64 (x := (r : Int) + (d : Int)) (by omega) (by omega), ← Int.natCast_add, mn_min, if_pos (by omega), if_pos (by omega), if_pos (by omega), if_pos (by rw [List.length_take]; omega), Int.toNat_natCast, Int.toNat_natCast, Int.toNat_natCast, mid_take l r d _ (by omega) (Nat.min_comm _ _), w64 (by omega) (by omega)]
  rfl
theorem implHeads_ev (l : List Int) (hl : l.length ≤ 300) (hb : bytesOk l) (d : Int) (h0 : 0 ≤ d) (h8 : d ≤ 8) : Ev (fun k => impl_heads.f k l d) (headsS l d) := by
 obtain ⟨K, hK⟩ := ev_out (implRows_ev l hl hb)
 obtain ⟨K2, hK2⟩ := ev_out (implHeads_l0 l hl d h0 h8 (l.length + 1) 0 (by omega))
 refine ev_mk (K + K2) fun k hk => ?_
 unfold impl_heads.f
 rw [hK k (by omega), Option.bind_some]
 exact hK2 k (by omega)
theorem headsS_num (l : List Int) (hb : bytesOk l) (d : Int) : (headsS l d).map bytesOf = headsOf l d.toNat := by
 unfold headsS
 rw [List.map_map]
 refine (List.map_congr_left fun x hx => ?_).trans (List.map_id _)
 exact Ws.num_of x fun y hy => hb y ((headsOf_mem hx).2 y hy)
theorem headsS_size (l : List Int) (d : Int) (x : ByteArray) (hx : x ∈ headsS l d) : x.size ≤ l.length := by
 obtain ⟨y, hy, rfl⟩ := List.mem_map.1 hx
 rw [strOfNums_size]
 exact (headsOf_mem hy).1
/-- Small words. -/
def Smalls (ws : LL) : Prop := ws.length ≤ 1000 ∧ ∀ x ∈ ws, x.length ≤ 300
theorem Smalls.at {ws : LL} (h : Smalls ws) (i : Nat) : (ws.getD i []).length ≤ 300 := by
 by_cases c : i < ws.length
 ·rw [lget_lt ws i [] c]
  exact h.2 _ (List.getElem_mem c)
 ·rw [List.getD_eq_getElem?_getD, List.getElem?_eq_none (by omega)]
  decide
theorem smalls_heads (l : List Int) (hl : l.length ≤ 300) (d : Nat) : Smalls (headsOf l d) := ⟨by rw [headsOf_len]; omega, fun x hx => by have := (headsOf_mem hx).1; omega⟩
theorem smalls_words {hs_ : LL} (h : Smalls hs_) : Smalls (wordsL hs_) := ⟨Nat.le_trans (wordsL_le _) h.1, fun x hx => h.2 x ((wordsL_mem _ _).1 hx)⟩
theorem wordsL_snoc (a : LL) (x : List Int) : wordsL (a ++ [x]) = insW x (wordsL a) := by unfold wordsL; rw [List.foldl_append]; rfl
theorem loOf_snoc (a : LL) (x w : List Int) : loOf (a ++ [x]) w = loOf a w + (if Fv.cmpB x w < 0 then 1 else 0) := by
 unfold loOf
 rw [List.countP_append, List.countP_singleton]
 by_cases c : Fv.cmpB x w < 0 <;> simp [c]
theorem hiOf_snoc (a : LL) (x w : List Int) : hiOf (a ++ [x]) w = hiOf a w + (if Fv.cmpB x w ≤ 0 then 1 else 0) := by
 unfold hiOf
 rw [List.countP_append, List.countP_singleton]
 by_cases c : Fv.cmpB x w ≤ 0 <;> simp [c]
theorem specSpan_l0 (hs_ : LL) (w : List Int) (hh : Smalls hs_) (hw : w.length ≤ 300) (n : Nat) : ∀ i : Nat, i + n = hs_.length → Ev (fun k => spec_l13Span.l0 k hs_ w (loOf (hs_.take i) w : Int) (hiOf (hs_.take i) w : Int) (i : Int)) ((loOf hs_ w : Int), (hiOf hs_ w : Int)) := by
 induction n with
 | zero =>
  intro i h
  refine Ev.step (f := fun _ => some _) (fun k => ?_) (Ev.now _)
  rw [spec_l13Span.l0, if_neg (by omega), List.take_of_length_le (by omega)]
 | succ n ih =>
  intro i h
  have h1 := ih (i + 1) (by omega)
  have l1 := lo_le (hs_.take i) w
  have l2 := hi_le (hs_.take i) w
  have l3 : (hs_.take i).length ≤ 1000 := by rw [List.length_take]; have := hh.1; omega
  have l4 := hh.1
  rw [take_succ_getD hs_ [] i (by omega), loOf_snoc, hiOf_snoc] at h1
  have hx := hh.at i
  obtain ⟨K, hK⟩ := ev_out (specCmp_ev (hs_.getD i []) w (by omega) (by omega))
  obtain ⟨K2, hK2⟩ := ev_out h1
  refine ev_mk (K + K2 + 2) fun k hk => ?_
  obtain ⟨k, rfl⟩ : ∃ m, k = m + 2 := ⟨k - 2, by omega⟩
  have hk2 := hK2 k (by omega)
  rw [spec_l13Span.l0, if_pos (by omega), if_pos (by omega), rdL2, hK (k + 1) (by omega), Option.bind_some]
  generalize Fv.cmpB (hs_.getD i []) w = c at hk2 ⊢
  generalize loOf (hs_.take i) w = u at l1 hk2 ⊢
  generalize hiOf (hs_.take i) w = v at l1 l2 hk2 ⊢
  by_cases c1 : c < 0
  ·rw [if_pos c1, if_pos (by omega)] at hk2
   rw [if_pos c1, spec_l13Span.j1, if_pos (by omega), w64 (by omega) (by omega), w64 (by omega) (by omega), w64 (by omega) (by omega)]
   exact hk2
  ·by_cases c2 : c ≤ 0
   ·rw [if_neg c1, if_pos c2] at hk2
    rw [if_neg c1, spec_l13Span.j1, if_pos c2, w64 (by omega) (by omega), w64 (by omega) (by omega)]
    exact hk2
   ·rw [if_neg c1, if_neg c2] at hk2
    rw [if_neg c1, spec_l13Span.j1, if_neg c2, w64 (by omega) (by omega)]
    exact hk2
theorem specSpan_ev (hs_ : LL) (w : List Int) (hh : Smalls hs_) (hw : w.length ≤ 300) : Ev (fun k => spec_l13Span.f k hs_ w) ((loOf hs_ w : Int), (hiOf hs_ w : Int)) := specSpan_l0 hs_ w hh hw hs_.length 0 (by omega)
theorem rdT48 (l : List S48) (i : Nat) : rd_T48 l (i : Int) = l.getD i z48 := by unfold rd_T48; rw [Int.toNat_natCast]
def partOf (A B : LL) (w : List Int) : S48 := ⟨w, loOf A w, hiOf A w, loOf B w, hiOf B w⟩
def partsL (A B : LL) : List S48 := (wordsL (A ++ B)).map (partOf A B)
theorem partsL_len (A B : LL) : (partsL A B).length = (wordsL (A ++ B)).length := by unfold partsL; rw [List.length_map]
theorem partsL_at (A B : LL) (i : Nat) (h : i < (wordsL (A ++ B)).length) : (partsL A B).getD i z48 = partOf A B ((wordsL (A ++ B)).getD i []) := by
 rw [lget_lt _ i _ (by rw [partsL_len]; exact h), lget_lt _ i _ h]
 simp [partsL]
theorem smalls_app {A B : LL} (h : (A ++ B).length ≤ 1000) (hA : Smalls A) (hB : Smalls B) : Smalls (A ++ B) := ⟨h, fun x hx => by
 rcases List.mem_append.1 hx with hx | hx
 ·exact hA.2 x hx
 ·exact hB.2 x hx⟩
/-- Where the search for a word's place stands. -/
def Stand (ws : LL) (x : List Int) (j : Nat) (f : Bool) : Prop := (f = false ∧ ∀ i, i < j → Fv.cmpB (ws.getD i []) x < 0) ∨ (f = true ∧ insW x ws = ws)
theorem specParts_j2 (ws A B H : LL) (i j : Nat) (f : Bool) (hw : ws.length ≤ 2000) (hi : i < H.length) (hH : H.length ≤ 1000) (hj : j ≤ ws.length) (hs : Stand ws (H.getD i []) j f) (hx : f = false → j < ws.length → 0 < Fv.cmpB (ws.getD j []) (H.getD i [])) (r : List S48)
  (hr : Ev (fun k => spec_Parts.l0 k (insW (H.getD i []) ws) ((i + 1 : Nat) : Int) A B H) r) : Ev (fun k => spec_Parts.j2 k A B H ws (i : Int) (j : Int) f) r := by
 rcases hs with ⟨rfl, h1⟩ | ⟨rfl, h1⟩
 ·rw [insW_new _ ws j hj h1 (hx rfl)] at hr
  refine Ev.step (fun k => ?_) hr
  rw [spec_Parts.j2, if_neg (by decide), if_pos (by omega), if_pos (by omega), Option.bind_some, if_pos (by omega), if_pos (by omega), Option.bind_some, Int.toNat_natCast, if_pos (by simp; omega), Option.bind_some, Option.bind_some, Option.bind_some, if_pos (by simp; omega), Option.bind_some, if_pos (by simp; omega), w64 (by omega) (by omega), rdL2]
  simp
 ·rw [h1] at hr
  refine Ev.step (fun k => ?_) hr
  rw [spec_Parts.j2, if_pos rfl, w64 (by omega) (by omega)]
  rfl
theorem specParts_l1 (ws A B H : LL) (i : Nat) (hw : ws.length ≤ 2000) (hs : ∀ x ∈ ws, x.length ≤ 300) (hi : i < H.length) (hH : Smalls H) (r : List S48)
  (hr : Ev (fun k => spec_Parts.l0 k (insW (H.getD i []) ws) ((i + 1 : Nat) : Int) A B H) r) (n : Nat) : ∀ (j : Nat) (f : Bool), j + n = ws.length → Stand ws (H.getD i []) j f → Ev (fun k => spec_Parts.l1 k ws (i : Int) (j : Int) f A B H) r := by
 have hl := hH.1
 have hx := hH.at i
 induction n with
 | zero =>
  intro j f h hst
  refine Ev.step (fun k => ?_) (specParts_j2 ws A B H i j f hw hi hl (by omega) hst (fun _ hj => by omega) r hr)
  rw [spec_Parts.l1, if_neg (by omega)]
 | succ n ih =>
  intro j f h hst
  have hy : (ws.getD j []).length ≤ 300 := by rw [lget_lt ws j [] (by omega)]; exact hs _ (List.getElem_mem _)
  obtain ⟨K, hK⟩ := ev_out (specCmp_ev (ws.getD j []) (H.getD i []) (by omega) (by omega))
  by_cases c : Fv.cmpB (ws.getD j []) (H.getD i []) ≤ 0
  ·have hst' : Stand ws (H.getD i []) (j + 1) (f || (Fv.cmpB (ws.getD j []) (H.getD i []) == 0)) := by
    rcases hst with ⟨rfl, h1⟩ | ⟨rfl, h1⟩
    ·by_cases e : Fv.cmpB (ws.getD j []) (H.getD i []) = 0
     ·exact .inr ⟨by rw [e]; rfl, insW_old _ ws j (by omega) h1 e⟩
     ·refine .inl ⟨by rw [Bool.false_or, beq_eq_false_iff_ne]; exact e, fun i' hi' => ?_⟩
      by_cases e' : i' = j
      ·subst e'; omega
      ·exact h1 i' (by omega)
    ·exact .inr ⟨rfl, h1⟩
   obtain ⟨K2, hK2⟩ := ev_out (ih (j + 1) _ (by omega) hst')
   refine ev_mk (K + K2 + 1) fun k hk => ?_
   obtain ⟨k, rfl⟩ : ∃ m, k = m + 1 := ⟨k - 1, by omega⟩
   have h2 := hK2 k (by omega)
   rw [spec_Parts.l1, if_pos (by omega), if_pos (by omega), if_pos (by omega), if_pos (by omega), rdL2, rdL2, hK k (by omega), Option.bind_some, if_pos c, w64 (by omega) (by omega)]
   cases f with
   | true =>
    rw [if_pos rfl]
    exact h2
   | false =>
    rw [if_neg (by decide), Option.bind_some]
    exact h2
  ·obtain ⟨K2, hK2⟩ := ev_out (specParts_j2 ws A B H i j f hw hi hl (by omega) hst (fun _ _ => by omega) r hr)
   refine ev_mk (K + K2 + 1) fun k hk => ?_
   obtain ⟨k, rfl⟩ : ∃ m, k = m + 1 := ⟨k - 1, by omega⟩
   rw [spec_Parts.l1, if_pos (by omega), if_pos (by omega), if_pos (by omega), if_pos (by omega), rdL2, rdL2, hK k (by omega), Option.bind_some, if_neg c]
   exact hK2 k (by omega)
theorem specParts_l2 (A B : LL) (hA : Smalls A) (hB : Smalls B) (hAB : Smalls (A ++ B)) (n : Nat) : ∀ i : Nat, i + n = (wordsL (A ++ B)).length → Ev (fun k => spec_Parts.l2 k (wordsL (A ++ B)) ((partsL A B).take i) (i : Int) A B) (partsL A B) := by
 have hW := smalls_words hAB
 have hl := hW.1
 have hL := partsL_len A B
 induction n with
 | zero =>
  intro i h
  refine Ev.step (f := fun _ => some _) (fun k => ?_) (Ev.now _)
  rw [spec_Parts.l2, if_neg (by omega), List.take_of_length_le (by omega)]
 | succ n ih =>
  intro i h
  have hx := hW.at i
  obtain ⟨K, hK⟩ := ev_out (specSpan_ev A ((wordsL (A ++ B)).getD i []) hA hx)
  obtain ⟨K1, hK1⟩ := ev_out (specSpan_ev B ((wordsL (A ++ B)).getD i []) hB hx)
  obtain ⟨K2, hK2⟩ := ev_out (ih (i + 1) (by omega))
  refine ev_mk (K + K1 + K2 + 1) fun k hk => ?_
  obtain ⟨k, rfl⟩ : ∃ m, k = m + 1 := ⟨k - 1, by omega⟩
  have h2 := hK2 k (by omega)
  rw [take_succ_getD _ z48 i (by omega), partsL_at A B i (by omega)] at h2
  rw [spec_Parts.l2, if_pos (by omega), Option.bind_some, if_pos (by omega), rdL2, if_pos (by simp only [List.length_nil]; omega), hK k (by omega), Option.bind_some, hK1 k (by omega), Option.bind_some, if_pos (by rw [List.length_take]; omega), w64 (by omega) (by omega), List.nil_append]
  exact h2
theorem specParts_l0 (A B : LL) (hA : Smalls A) (hB : Smalls B) (hAB : Smalls (A ++ B)) (n : Nat) : ∀ i : Nat, i + n = (A ++ B).length → Ev (fun k => spec_Parts.l0 k (wordsL ((A ++ B).take i)) (i : Int) A B (A ++ B)) (partsL A B) := by
 have hl := hAB.1
 induction n with
 | zero =>
  intro i h
  refine Ev.step (fun k => ?_) (specParts_l2 A B hA hB hAB (wordsL (A ++ B)).length 0 (by omega))
  rw [spec_Parts.l0, if_neg (by omega), List.take_of_length_le (by omega)]
  rfl
 | succ n ih =>
  intro i h
  have h1 := ih (i + 1) (by omega)
  rw [take_succ_getD _ [] i (by omega), wordsL_snoc] at h1
  have hT : Smalls ((A ++ B).take i) := ⟨by rw [List.length_take]; omega, fun x hx => hAB.2 x (List.mem_of_mem_take hx)⟩
  have hW := smalls_words hT
  refine Ev.step (fun k => ?_) (specParts_l1 (wordsL ((A ++ B).take i)) A B (A ++ B) i (by have := hW.1; omega) hW.2 (by omega) hAB _ h1 _ 0 false (Nat.zero_add _) (.inl ⟨rfl, fun j hj => by omega⟩))
  rw [spec_Parts.l0, if_pos (by omega)]
  rfl
def fitB (a b : List Int) (d : Int) : Bool := decide (a.length ≤ 300 ∧ b.length ≤ 300 ∧ 0 ≤ d ∧ d ≤ 8)
theorem specFit_eq (a b : List Int) (d : Int) : spec_l13Fit.f a b d = some (fitB a b d) := by
 unfold spec_l13Fit.f spec_TextOk.f fitB
 by_cases ha : a.length ≤ 300
 ·by_cases hb : b.length ≤ 300
  ·rw [Option.bind_some, decide_eq_true (show (a.length : Int) ≤ 300 by omega), if_pos rfl, Option.bind_some, decide_eq_true (show (b.length : Int) ≤ 300 by omega), if_pos rfl]
   by_cases hd : d ≥ 0
   ·rw [if_pos hd]
    congr 1
    exact decide_eq_decide.2 ⟨fun h => ⟨ha, hb, hd, h⟩, fun h => h.2.2.2⟩
   ·rw [if_neg hd, decide_eq_false (fun h => hd h.2.2.1)]
  ·rw [Option.bind_some, decide_eq_true (show (a.length : Int) ≤ 300 by omega), if_pos rfl, Option.bind_some, decide_eq_false (show ¬ (b.length : Int) ≤ 300 by omega), if_neg (by decide), decide_eq_false (fun h => hb h.2.1)]
 ·rw [Option.bind_some, decide_eq_false (show ¬ (a.length : Int) ≤ 300 by omega), if_neg (by decide), decide_eq_false (fun h => ha h.1)]
theorem isShared_fit (a b : List Int) (d : Int) : impl_isShared.f a b d = some (fitB a b d) := by
 unfold impl_isShared.f impl_TextOk.f impl_within.f fitB
 by_cases ha : a.length ≤ 300
 ·by_cases hb : b.length ≤ 300
  ·rw [Option.bind_some, decide_eq_true (show (a.length : Int) ≤ 300 by omega), if_pos rfl, Option.bind_some, decide_eq_true (show (b.length : Int) ≤ 300 by omega), if_pos rfl]
   by_cases hd : 0 ≤ d
   ·rw [if_pos hd, Option.bind_some]
    congr 1
    exact decide_eq_decide.2 ⟨fun h => ⟨ha, hb, hd, h⟩, fun h => h.2.2.2⟩
   ·rw [if_neg hd, Option.bind_some, decide_eq_false (fun h => hd h.2.2.1)]
  ·rw [Option.bind_some, decide_eq_true (show (a.length : Int) ≤ 300 by omega), if_pos rfl, Option.bind_some, decide_eq_false (show ¬ (b.length : Int) ≤ 300 by omega), if_neg (by decide), decide_eq_false (fun h => hb h.2.1)]
 ·rw [Option.bind_some, decide_eq_false (show ¬ (a.length : Int) ≤ 300 by omega), if_neg (by decide), decide_eq_false (fun h => ha h.1)]
theorem smalls_two (a b : List Int) (ha : a.length ≤ 300) (hb : b.length ≤ 300) (d : Nat) : Smalls (headsOf a d ++ headsOf b d) :=
 smalls_app (by rw [List.length_append, headsOf_len, headsOf_len]; omega) (smalls_heads a ha d) (smalls_heads b hb d)
def partsAB (a b : List Int) (d : Int) : List S48 := partsL (headsOf a d.toNat) (headsOf b d.toNat)
theorem specParts_ev (a b : List Int) (d : Int) (ha : a.length ≤ 300) (hb : b.length ≤ 300) (h0 : 0 ≤ d) (h8 : d ≤ 8) : Ev (fun k => spec_Parts.f k a b d) (partsAB a b d) := by
 have hs := smalls_two a b ha hb d.toNat
 have hA := headsOf_len a d.toNat
 have hB := headsOf_len b d.toNat
 obtain ⟨K, hK⟩ := ev_out (specHeads_ev a ha d h0 h8)
 obtain ⟨K1, hK1⟩ := ev_out (specHeads_ev b hb d h0 h8)
 obtain ⟨K2, hK2⟩ := ev_out (specParts_l0 _ _ (smalls_heads a ha d.toNat) (smalls_heads b hb d.toNat) hs _ 0 (Nat.zero_add _))
 refine ev_mk (K + K1 + K2) fun k hk => ?_
 unfold spec_Parts.f
 rw [specFit_eq, Option.bind_some, fitB, decide_eq_true ⟨ha, hb, h0, h8⟩, if_pos rfl, hK k (by omega), Option.bind_some, hK1 k (by omega), Option.bind_some, Option.bind_some, if_pos (by simp only [List.length_nil]; omega), Option.bind_some, if_pos (by rw [List.nil_append]; omega), List.nil_append]
 exact hK2 k (by omega)
theorem specParts_no (a b : List Int) (d : Int) (h : fitB a b d = false) (k : Nat) : spec_Parts.f k a b d = some [] := by
 unfold spec_Parts.f
 rw [specFit_eq, Option.bind_some, h, if_neg (by decide)]
theorem rdStr (xs : List ByteArray) (i : Nat) : rdOf ByteArray.empty xs (i : Int) = xs.getD i ByteArray.empty := by unfold rdOf; rw [Int.toNat_natCast]
theorem num_at (xs : List ByteArray) (i : Nat) : bytesOf (xs.getD i ByteArray.empty) = (xs.map bytesOf).getD i [] := by
 by_cases h : i < xs.length
 ·rw [lget_lt xs i _ h, lget_lt _ i _ (by rw [List.length_map]; exact h), List.getElem_map]
 ·rw [List.getD_eq_getElem?_getD, List.getElem?_eq_none (by omega), List.getD_eq_getElem?_getD, List.getElem?_eq_none (by rw [List.length_map]; omega)]
  rfl
theorem isNaN_eq (s : ByteArray) : cmp_isNaN_string.f s = some false := by unfold cmp_isNaN_string.f; rw [bne_self_eq_false]
theorem isNaN_eq' (s : ByteArray) : slices_isNaN_string.f s = some false := by unfold slices_isNaN_string.f; rw [bne_self_eq_false]
theorem less_eq (s t : ByteArray) : cmp_Less_string.f s t = some (decide (Fv.cmpB (bytesOf s) (bytesOf t) < 0)) := by
 unfold cmp_Less_string.f
 rw [isNaN_eq, Option.bind_some, if_neg (by decide), Ws.less_cmp]
theorem search_l0 (a : List ByteArray) (w : ByteArray) (ha : a.length ≤ 1000) (hs : (a.map bytesOf).Pairwise fun x y => Fv.cmpB x y ≤ 0) (m : Nat) : ∀ lo hi_ : Nat, hi_ - lo ≤ m → lo ≤ loOf (a.map bytesOf) (bytesOf w) → loOf (a.map bytesOf) (bytesOf w) ≤ hi_ → hi_ ≤ a.length →
  ∃ f, Ev (fun k => slices_BinarySearch_string_string.l0 k a w (a.length : Int) (lo : Int) (hi_ : Int)) ((loOf (a.map bytesOf) (bytesOf w) : Int), f) := by
 have hlen : (a.map bytesOf).length = a.length := List.length_map _
 induction m with
 | zero =>
  intro lo hi_ h1 h2 h3 h4
  obtain rfl : hi_ = lo := by omega
  have e : loOf (a.map bytesOf) (bytesOf w) = hi_ := by omega
  rw [e]
  by_cases c : (hi_ : Int) < (a.length : Int)
  ·by_cases c2 : (rdOf ByteArray.empty a (hi_ : Int)).toList = w.toList
   ·refine ⟨true, Ev.step (f := fun _ => some _) (fun k => ?_) (Ev.now _)⟩
    rw [slices_BinarySearch_string_string.l0, if_neg (by omega), if_pos c, if_pos (by omega), if_pos c, if_pos c2]
   ·refine ⟨false, Ev.step (f := fun _ => some _) (fun k => ?_) (Ev.now _)⟩
    rw [slices_BinarySearch_string_string.l0, if_neg (by omega), if_pos c, if_pos (by omega), if_pos c, if_neg c2, isNaN_eq', Option.bind_some, if_neg (by decide)]
  ·refine ⟨false, Ev.step (f := fun _ => some _) (fun k => ?_) (Ev.now _)⟩
   rw [slices_BinarySearch_string_string.l0, if_neg (by omega), if_neg c]
 | succ m ih =>
  intro lo hi_ h1 h2 h3 h4
  by_cases e : lo < hi_
  ·have hmid : wrap64 ((IntKind.u64.wrap (wrap64 ((lo : Int) + (hi_ : Int)))) / 2) = (((lo + hi_) / 2 : Nat) : Int) := by
    rw [w64 (x := (lo : Int) + (hi_ : Int)) (by omega) (by omega), show IntKind.u64.wrap ((lo : Int) + (hi_ : Int)) = (lo : Int) + (hi_ : Int) from by simp only [IntKind.wrap, IntKind.bits, IntKind.signed]; simp; omega, w64 (by omega) (by omega)]
    omega
   obtain ⟨mid, hm⟩ : ∃ mid, mid = (lo + hi_) / 2 := ⟨_, rfl⟩
   rw [← hm] at hmid
   have hml : lo ≤ mid := by omega
   have hmh : mid < hi_ := by omega
   have hat := lo_at hs (bytesOf w) mid (by omega)
   rw [← num_at] at hat
   by_cases c : mid < loOf (a.map bytesOf) (bytesOf w)
   ·obtain ⟨f, hf⟩ := ih (mid + 1) hi_ (by omega) (by omega) h3 h4
    refine ⟨f, Ev.step (fun k => ?_) hf⟩
    rw [slices_BinarySearch_string_string.l0, if_pos (by omega), hmid, if_pos (by omega), if_pos (by omega), less_eq, Option.bind_some, rdStr, decide_eq_true (hat.2 c), if_pos rfl, w64 (by omega) (by omega)]
    rfl
   ·obtain ⟨f, hf⟩ := ih lo mid (by omega) h2 (by omega) (by omega)
    refine ⟨f, Ev.step (fun k => ?_) hf⟩
    rw [slices_BinarySearch_string_string.l0, if_pos (by omega), hmid, if_pos (by omega), if_pos (by omega), less_eq, Option.bind_some, rdStr, decide_eq_false (fun h => c (hat.1 h)), if_neg (by decide)]
  ·exact ih lo hi_ (by omega) h2 h3 h4
theorem headRows_l0 (a : List ByteArray) (w : ByteArray) (u : Int) (ha : a.length ≤ 1000) (hs : (a.map bytesOf).Pairwise fun x y => Fv.cmpB x y ≤ 0) (n : Nat) : ∀ i : Nat, i + n = hiOf (a.map bytesOf) (bytesOf w) → loOf (a.map bytesOf) (bytesOf w) ≤ i → Ev (fun k => impl_headRows.l0 k a w u (i : Int)) (u, (hiOf (a.map bytesOf) (bytesOf w) : Int)) := by
 have hlen : (a.map bytesOf).length = a.length := List.length_map _
 have hle := hi_le (a.map bytesOf) (bytesOf w)
 induction n with
 | zero =>
  intro i h h1
  have e : hiOf (a.map bytesOf) (bytesOf w) = i := by omega
  refine Ev.step (f := fun _ => some _) (fun k => ?_) (Ev.now _)
  rw [e]
  by_cases c : (i : Int) < (a.length : Int)
  ·have hat := hi_at hs (bytesOf w) i (by omega)
   rw [← num_at] at hat
   rw [impl_headRows.l0, if_pos c, if_pos (by omega), rdStr, if_neg]
   intro hq
   rw [Ws.toList_iff] at hq
   have := hat.1 (by rw [hq, Fv.cmpB_self]; decide)
   omega
  ·rw [impl_headRows.l0, if_neg c]
 | succ n ih =>
  intro i h h1
  have hat := hi_at hs (bytesOf w) i (by omega)
  have hat' := lo_at hs (bytesOf w) i (by omega)
  rw [← num_at] at hat hat'
  refine Ev.step (fun k => ?_) (ih (i + 1) (by omega) (by omega))
  rw [impl_headRows.l0, if_pos (by omega), if_pos (by omega), rdStr, if_pos, w64 (by omega) (by omega)]
  ·rfl
  ·rw [Ws.toList_iff]
   have q1 := hat.2 (by omega)
   have q2 : ¬ Fv.cmpB (bytesOf (a.getD i ByteArray.empty)) (bytesOf w) < 0 := fun h => by have := hat'.1 h; omega
   exact Fv.cmpB_zero _ _ (by omega)
theorem headRows_ev (a : List ByteArray) (w : ByteArray) (ha : a.length ≤ 1000) (hs : (a.map bytesOf).Pairwise fun x y => Fv.cmpB x y ≤ 0) : Ev (fun k => impl_headRows.f k a w) ((loOf (a.map bytesOf) (bytesOf w) : Int), (hiOf (a.map bytesOf) (bytesOf w) : Int)) := by
 have hlen : (a.map bytesOf).length = a.length := List.length_map _
 have hle := hi_le (a.map bytesOf) (bytesOf w)
 have hll := lo_le (a.map bytesOf) (bytesOf w)
 obtain ⟨f, hf⟩ := search_l0 a w ha hs a.length 0 a.length (by omega) (by omega) (by omega) (by omega)
 obtain ⟨K, hK⟩ := ev_out hf
 obtain ⟨K2, hK2⟩ := ev_out (headRows_l0 a w (loOf (a.map bytesOf) (bytesOf w) : Int) ha hs (hiOf (a.map bytesOf) (bytesOf w) - loOf (a.map bytesOf) (bytesOf w)) (loOf (a.map bytesOf) (bytesOf w)) (by omega) (by omega))
 refine ev_mk (K + K2) fun k hk => ?_
 unfold impl_headRows.f slices_BinarySearch_string_string.f
 have h1 := hK k (by omega)
 simp only [Int.natCast_zero] at h1
 rw [h1, Option.bind_some]
 exact hK2 k (by omega)
theorem concatS_ev (a b : List ByteArray) (ha : a.length ≤ 1000) (hb : b.length ≤ 1000) : Ev (fun k => slices_Concat_string_string.f k [a, b]) (a ++ b) := by
 have r0 : rd_L5 [a, b] 0 = a := rfl
 have r1 : rd_L5 [a, b] 1 = b := rfl
 have hl : (([a, b] : List (List ByteArray)).length : Int) = 2 := rfl
 have h1 : Ev (fun k => slices_Concat_string_string.l1 k [] [a, b] 2 0) (a ++ b) := by
  refine ev_mk 4 fun k hk => ?_
  obtain ⟨k, rfl⟩ : ∃ m, k = m + 3 := ⟨k - 3, by omega⟩
  rw [slices_Concat_string_string.l1, if_pos (by decide), if_pos (by decide), if_pos (by rw [hl]; decide), r0, if_pos (by simp only [List.length_nil]; omega), List.nil_append, show wrap64 (0 + 1) = 1 from w64 (x := 1) (by omega) (by omega),
   slices_Concat_string_string.l1, if_pos (by decide), if_pos (by decide), if_pos (by rw [hl]; decide), r1, if_pos (by omega), show wrap64 (1 + 1) = 2 from w64 (x := 2) (by omega) (by omega), slices_Concat_string_string.l1, if_neg (by decide)]
 obtain ⟨K1, k1⟩ := ev_out h1
 refine ev_mk (K1 + 4) fun k hk => ?_
 unfold slices_Concat_string_string.f
 obtain ⟨k, rfl⟩ : ∃ m, k = m + 3 := ⟨k - 3, by omega⟩
 have w1 : wrap64 (0 + (a.length : Int)) = (a.length : Int) := by rw [Int.zero_add]; exact w64 (by omega) (by omega)
 have w2 : wrap64 ((a.length : Int) + (b.length : Int)) = (a.length : Int) + (b.length : Int) := w64 (by omega) (by omega)
 rw [hl, slices_Concat_string_string.l0, if_pos (by decide), if_pos (by decide), if_pos (by rw [hl]; decide), r0, w1, if_neg (by omega), show wrap64 (0 + 1) = 1 from w64 (x := 1) (by omega) (by omega),
  slices_Concat_string_string.l0, if_pos (by decide), if_pos (by decide), if_pos (by rw [hl]; decide), r1, w2, if_neg (by omega), show wrap64 (1 + 1) = 2 from w64 (x := 2) (by omega) (by omega), slices_Concat_string_string.l0, if_neg (by decide)]
 unfold slices_Grow_nil82.f
 rw [if_pos (by omega), Option.bind_some, hl]
 exact k1 k (by omega)
theorem implParts_l0 (a b ws : List ByteArray) (A B : LL) (hA : a.map bytesOf = A) (hB : b.map bytesOf = B) (hws : ws.map bytesOf = wordsL (A ++ B)) (ha : a.length ≤ 1000) (hb : b.length ≤ 1000) (hl : ws.length ≤ 1000) (sA : A.Pairwise fun x y => Fv.cmpB x y ≤ 0) (sB : B.Pairwise fun x y => Fv.cmpB x y ≤ 0) (n : Nat) :
  ∀ i : Nat, i + n = ws.length → Ev (fun k => impl_parts.l0 k a b ws (i : Int) ((partsL A B).take i)) (partsL A B) := by
 have hW : (wordsL (A ++ B)).length = ws.length := by rw [← hws, List.length_map]
 have hL := partsL_len A B
 induction n with
 | zero =>
  intro i h
  refine Ev.step (f := fun _ => some _) (fun k => ?_) (Ev.now _)
  rw [impl_parts.l0, if_neg (by omega), List.take_of_length_le (by omega)]
 | succ n ih =>
  intro i h
  obtain ⟨K, hK⟩ := ev_out (headRows_ev a (ws.getD i ByteArray.empty) ha (by rw [hA]; exact sA))
  obtain ⟨K1, hK1⟩ := ev_out (headRows_ev b (ws.getD i ByteArray.empty) hb (by rw [hB]; exact sB))
  obtain ⟨K2, hK2⟩ := ev_out (ih (i + 1) (by omega))
  refine ev_mk (K + K1 + K2 + 1) fun k hk => ?_
  obtain ⟨k, rfl⟩ : ∃ m, k = m + 1 := ⟨k - 1, by omega⟩
  have h2 := hK2 k (by omega)
  rw [take_succ_getD _ z48 i (by omega), partsL_at A B i (by omega)] at h2
  have e := num_at ws i
  rw [hws] at e
  have h3 := hK k (by omega)
  have h4 := hK1 k (by omega)
  rw [hA, e] at h3
  rw [hB, e] at h4
  rw [impl_parts.l0, if_pos (by omega), if_pos (by omega), rdStr, h3, Option.bind_some, h4, Option.bind_some, if_pos (by rw [List.length_take]; omega), w64 (by omega) (by omega), e]
  exact h2
theorem implParts_ev (a b : List Int) (d : Int) (ha : a.length ≤ 300) (hb : b.length ≤ 300) (ba : bytesOk a) (bb : bytesOk b) (h0 : 0 ≤ d) (h8 : d ≤ 8) : Ev (fun k => impl_parts.f k a b d) (partsAB a b d) := by
 have lA := headsS_len a d
 have lB := headsS_len b d
 have nA := headsS_num a ba d
 have nB := headsS_num b bb d
 have hw : (Srt.wordsOf (headsS a d ++ headsS b d)).map bytesOf = wordsL (headsOf a d.toNat ++ headsOf b d.toNat) := by rw [Ws.words_num, List.map_append, nA, nB]
 have hwl := Ws.words_len (headsS a d ++ headsS b d)
 rw [List.length_append] at hwl
 obtain ⟨K, hK⟩ := ev_out (implHeads_ev a ha ba d h0 h8)
 obtain ⟨K1, hK1⟩ := ev_out (implHeads_ev b hb bb d h0 h8)
 obtain ⟨K2, hK2⟩ := ev_out (concatS_ev (headsS a d) (headsS b d) (by omega) (by omega))
 obtain ⟨K3, hK3⟩ := ev_out (implParts_l0 (headsS a d) (headsS b d) _ _ _ nA nB hw (by omega) (by omega) (by omega) (headsOf_sorted _ _) (headsOf_sorted _ _) _ 0 (Nat.zero_add _))
 refine ev_mk (K + K1 + K2 + K3) fun k hk => ?_
 unfold impl_parts.f
 rw [hK k (by omega), Option.bind_some, hK1 k (by omega), Option.bind_some, hK2 k (by omega), Option.bind_some, if_pos]
 ·exact hK3 k (by omega)
 ·refine ⟨by rw [List.length_append]; omega, fun x hx => ?_⟩
  rcases List.mem_append.1 hx with hx | hx
  ·have := headsS_size a d x hx; omega
  ·have := headsS_size b d x hx; omega
theorem lo_lt {A : LL} {w : List Int} (h : w ∈ A) : loOf A w < hiOf A w := by
 induction A with
 | nil => simp at h
 | cons a A ih =>
  have hle := lo_le A w
  unfold loOf hiOf at *
  rw [List.countP_cons, List.countP_cons]
  rcases List.mem_cons.1 h with rfl | h
  ·rw [Fv.cmpB_self]
   simp
   omega
  ·have := ih h
   by_cases c : Fv.cmpB a w < 0
   ·simp [c, Int.le_of_lt c]; omega
   ·by_cases d : Fv.cmpB a w ≤ 0
    ·simp [c, d]; omega
    ·simp [c, d]; omega
theorem words_at {ws : LL} (hs : ws.Pairwise fun a b => Fv.cmpB a b < 0) (i j : Nat) (hij : i < j) (hj : j < ws.length) : Fv.cmpB (ws.getD i []) (ws.getD j []) < 0 := by
 rw [lget_lt _ i [] (by omega), lget_lt _ j [] hj]
 exact List.pairwise_iff_getElem.1 hs i j (by omega) hj hij
theorem words_of {H A : LL} (hA : ∀ h ∈ A, h ∈ H) {h : List Int} (hh : h ∈ A) : ∃ j, j < (wordsL H).length ∧ (wordsL H).getD j [] = h := by
 obtain ⟨j, hj, e⟩ := List.mem_iff_getElem.1 ((wordsL_mem H h).2 (hA h hh))
 exact ⟨j, hj, by rw [lget_lt _ j [] hj]; exact e⟩
theorem lo_first {H A : LL} (hA : ∀ h ∈ A, h ∈ H) : loOf A ((wordsL H).getD 0 []) = 0 := by
 unfold loOf
 refine List.countP_eq_zero.2 fun h hh => ?_
 obtain ⟨j, hj, e⟩ := words_of hA hh
 rw [decide_eq_true_eq, ← e]
 intro hq
 rcases Nat.eq_zero_or_pos j with rfl | h0
 ·rw [Fv.cmpB_self] at hq; exact absurd hq (by decide)
 ·have := words_at (wordsL_sorted H) 0 j h0 hj
  rw [Fv.cmpB_anti] at this
  omega
theorem lo_next {H A : LL} (hA : ∀ h ∈ A, h ∈ H) (i : Nat) (hi : i + 1 < (wordsL H).length) : loOf A ((wordsL H).getD (i + 1) []) = hiOf A ((wordsL H).getD i []) := by
 unfold loOf hiOf
 refine List.countP_congr fun h hh => ?_
 obtain ⟨j, hj, e⟩ := words_of hA hh
 rw [decide_eq_true_eq, decide_eq_true_eq, ← e]
 have hs := wordsL_sorted H
 rcases Nat.lt_trichotomy j i with c | rfl | c
 ·have q1 := words_at hs j i c (by omega)
  have q2 := words_at hs j (i + 1) (by omega) hi
  constructor <;> intro <;> omega
 ·have q2 := words_at hs j (j + 1) (by omega) hi
  rw [Fv.cmpB_self]
  constructor <;> intro <;> omega
 ·have q1 := words_at hs i j c hj
  rw [Fv.cmpB_anti] at q1
  have q3 : ¬ Fv.cmpB ((wordsL H).getD j []) ((wordsL H).getD (i + 1) []) < 0 := by
   rcases Nat.eq_or_lt_of_le (show i + 1 ≤ j by omega) with e2 | c2
   ·rw [e2, Fv.cmpB_self]; decide
   ·have q2 := words_at hs (i + 1) j c2 hj
    rw [Fv.cmpB_anti] at q2
    omega
  constructor <;> intro <;> omega
theorem hi_last {H A : LL} (hA : ∀ h ∈ A, h ∈ H) (i : Nat) (hi : i + 1 = (wordsL H).length) : hiOf A ((wordsL H).getD i []) = A.length := by
 unfold hiOf
 refine List.countP_eq_length.2 fun h hh => ?_
 obtain ⟨j, hj, e⟩ := words_of hA hh
 rw [decide_eq_true_eq, ← e]
 rcases Nat.eq_or_lt_of_le (show j ≤ i by omega) with e2 | c
 ·rw [e2, Fv.cmpB_self]; decide
 ·have := words_at (wordsL_sorted H) j i c (by omega)
  omega
theorem drawParts_ev {code : List Int} (h1 : ∀ x ∈ code, 0 ≤ x ∧ x ≤ 255) (h2 : code.length ≤ 140737488351232) : ∃ r x d, Ev (fun k => spec_DrawParts.f k code) (r, x, d) ∧ r.length ≤ 24 ∧ x.length ≤ 24 ∧ bytesOk r ∧ bytesOk x := by
 obtain ⟨t, u, e0, c0⟩ := open_ev h1 h2
 obtain ⟨r, x, t1, u1, hev, hr, hx, br, bx, c1⟩ := twin_ev c0 (by omega)
 obtain ⟨d, t2, u2, e2, _⟩ := depth_ev c1 (by omega)
 obtain ⟨K, hK⟩ := ev_out hev
 refine ⟨r, x, d, ev_mk K fun k hk => ?_, hr, hx, br, bx⟩
 unfold spec_DrawParts.f
 rw [e0, Option.bind_some]
 dsimp only
 rw [hK k hk, Option.bind_some]
 dsimp only
 rw [e2, Option.bind_some]
theorem partsOkT_l0 (a b : List Int) (d : Nat) (ha : a.length ≤ 300) (hb : b.length ≤ 300) (n : Nat) : ∀ i : Nat, i + n = (wordsL (headsOf a d ++ headsOf b d)).length →
  ∀ u v : Int, (i < (wordsL (headsOf a d ++ headsOf b d)).length → u = (loOf (headsOf a d) ((wordsL (headsOf a d ++ headsOf b d)).getD i []) : Int) ∧ v = (loOf (headsOf b d) ((wordsL (headsOf a d ++ headsOf b d)).getD i []) : Int)) → (i = (wordsL (headsOf a d ++ headsOf b d)).length → u = (a.length : Int) + 1 ∧ v = (b.length : Int) + 1) →
  Ev (fun k => impl_PartsOk.l0 k a b u v (partsL (headsOf a d) (headsOf b d)) ((partsL (headsOf a d) (headsOf b d)).length : Int) (i : Int)) true := by
 have hP := partsL_len (headsOf a d) (headsOf b d)
 have hS := (smalls_words (smalls_two a b ha hb d)).1
 have hA : ∀ h ∈ headsOf a d, h ∈ headsOf a d ++ headsOf b d := fun h hh => List.mem_append_left _ hh
 have hB : ∀ h ∈ headsOf b d, h ∈ headsOf a d ++ headsOf b d := fun h hh => List.mem_append_right _ hh
 induction n with
 | zero =>
  intro i h u v _ h2
  obtain ⟨rfl, rfl⟩ := h2 (by omega)
  refine Ev.step (f := fun _ => some _) (fun k => ?_) (Ev.now _)
  rw [impl_PartsOk.l0, if_neg (by omega), w64 (by omega) (by omega), w64 (by omega) (by omega), if_pos rfl]
  simp
 | succ n ih =>
  intro i h u v h1 _
  obtain ⟨rfl, rfl⟩ := h1 (by omega)
  have hat := partsL_at (headsOf a d) (headsOf b d) i (by omega)
  have g1 := lo_le (headsOf a d) ((wordsL (headsOf a d ++ headsOf b d)).getD i [])
  have g2 := lo_le (headsOf b d) ((wordsL (headsOf a d ++ headsOf b d)).getD i [])
  have hn := ih (i + 1) (by omega) (hiOf (headsOf a d) ((wordsL (headsOf a d ++ headsOf b d)).getD i []) : Int) (hiOf (headsOf b d) ((wordsL (headsOf a d ++ headsOf b d)).getD i []) : Int)
   (fun q => ⟨by rw [lo_next hA i q], by rw [lo_next hB i q]⟩) (fun q => ⟨by rw [hi_last hA i q, headsOf_len]; omega, by rw [hi_last hB i q, headsOf_len]; omega⟩)
  have e1 : ((partsL (headsOf a d) (headsOf b d)).getD i z48).f1 = (loOf (headsOf a d) ((wordsL (headsOf a d ++ headsOf b d)).getD i []) : Int) := by rw [hat]; rfl
  have e2 : ((partsL (headsOf a d) (headsOf b d)).getD i z48).f2 = (hiOf (headsOf a d) ((wordsL (headsOf a d ++ headsOf b d)).getD i []) : Int) := by rw [hat]; rfl
  have e3 : ((partsL (headsOf a d) (headsOf b d)).getD i z48).f3 = (loOf (headsOf b d) ((wordsL (headsOf a d ++ headsOf b d)).getD i []) : Int) := by rw [hat]; rfl
  have e4 : ((partsL (headsOf a d) (headsOf b d)).getD i z48).f4 = (hiOf (headsOf b d) ((wordsL (headsOf a d ++ headsOf b d)).getD i []) : Int) := by rw [hat]; rfl
  refine Ev.step (f := fun k => impl_PartsOk.j2 k a b (partsL (headsOf a d) (headsOf b d)) ((partsL (headsOf a d) (headsOf b d)).length : Int) (i : Int) false ((partsL (headsOf a d) (headsOf b d)).getD i z48).f0 ((partsL (headsOf a d) (headsOf b d)).getD i z48).f1 ((partsL (headsOf a d) (headsOf b d)).getD i z48).f2 ((partsL (headsOf a d) (headsOf b d)).getD i z48).f3 ((partsL (headsOf a d) (headsOf b d)).getD i z48).f4) (fun k => ?_) (Ev.step (fun k => ?_) hn)
  ·rw [impl_PartsOk.l0, if_pos (by omega), if_pos (by omega), if_pos (by omega), rdT48, if_pos e1, if_pos e3, if_neg (by omega), decide_eq_false (by omega)]
  ·rw [impl_PartsOk.j2, if_neg (by decide), w64 (by omega) (by omega), e2, e4]
   rfl
theorem implPartsOk_true (a b : List Int) (d : Nat) (ha : a.length ≤ 300) (hb : b.length ≤ 300) (hne : (partsL (headsOf a d) (headsOf b d)).length ≠ 0) : Ev (fun k => impl_PartsOk.f k a b (partsL (headsOf a d) (headsOf b d))) true := by
 have hP := partsL_len (headsOf a d) (headsOf b d)
 have hA : ∀ h ∈ headsOf a d, h ∈ headsOf a d ++ headsOf b d := fun h hh => List.mem_append_left _ hh
 have hB : ∀ h ∈ headsOf b d, h ∈ headsOf a d ++ headsOf b d := fun h hh => List.mem_append_right _ hh
 obtain ⟨K, hK⟩ := ev_out (partsOkT_l0 a b d ha hb _ 0 (Nat.zero_add _) 0 0 (fun _ => ⟨by rw [lo_first hA]; rfl, by rw [lo_first hB]; rfl⟩) (fun q => absurd q (by omega)))
 refine ev_mk (K + 1) fun k hk => ?_
 obtain ⟨k, rfl⟩ : ∃ m, k = m + 1 := ⟨k - 1, by omega⟩
 unfold impl_PartsOk.f
 rw [isShared_fit, Option.bind_some, fitB, decide_eq_true ⟨ha, hb, by omega, by omega⟩, if_pos rfl, impl_PartsOk.j0, if_neg (fun h => by have := beq_iff_eq.1 h; omega)]
 exact hK k (by omega)
theorem in_span {A : LL} (hA : A.Pairwise fun x y => Fv.cmpB x y ≤ 0) (w : List Int) (j : Nat) (h1 : loOf A w ≤ j) (h2 : j < hiOf A w) : A.getD j [] = w := by
 have hle := hi_le A w
 have q1 := hi_at hA w j (by omega)
 have q2 := lo_at hA w j (by omega)
 have q3 := q1.2 h2
 have q4 : ¬ Fv.cmpB (A.getD j []) w < 0 := fun h => by have := q2.1 h; omega
 exact Fv.cmpB_zero _ _ (by omega)
theorem head_row (l : List Int) (hl : l.length ≤ 300) (d : Int) (h0 : 0 ≤ d) (h8 : d ≤ 8) (j : Nat) (hj : j < l.length + 1) :
  ∃ r : Nat, (rowsOf l).getD j 0 = (r : Int) ∧ r ≤ l.length ∧ ∃ m : Nat, mn (l.length : Int) (wrap64 ((r : Int) + d)) = (m : Int) ∧ r ≤ m ∧ m ≤ l.length ∧ (l.take m).drop r = (headsOf l d.toNat).getD j [] := by
 obtain ⟨a0, a1⟩ := rowsOf_at l j hj
 have hat := headsOf_at l d.toNat j hj
 rw [hat]
 generalize (rowsOf l).getD j 0 = x at a0 a1 ⊢
 obtain ⟨r, rfl⟩ := Int.eq_ofNat_of_zero_le a0
 obtain ⟨d, rfl⟩ := Int.eq_ofNat_of_zero_le h0
 refine ⟨r, rfl, by omega, min l.length (r + d), ?_, by omega, by omega, ?_⟩
 ·rw [w64 (by omega) (by omega), ← Int.natCast_add, mn_min]
 ·rw [Int.toNat_natCast, Int.toNat_natCast, mid_take l r d _ (by omega) rfl]
theorem fnParts_l2 (a b : List Int) (d : Int) (P : List S48) (i : Nat) (hi : i < 1000) (ha : a.length ≤ 300) (hb : b.length ≤ 300) (h0 : 0 ≤ d) (h8 : d ≤ 8) (w : List Int) (f1 f2 : Int)
  (hn : Ev (fun k => laws_FnParts.l0 k a b d P ((i + 1 : Nat) : Int) (rowsOf a) (rowsOf b)) true) (n : Nat) : ∀ j : Nat, j + n = hiOf (headsOf b d.toNat) w → loOf (headsOf b d.toNat) w ≤ j →
  Ev (fun k => laws_FnParts.l2 k a b d P (rowsOf a) (rowsOf b) (i : Int) (j : Int) w f1 f2 (loOf (headsOf b d.toNat) w : Int) (hiOf (headsOf b d.toNat) w : Int)) true := by
 have hle := hi_le (headsOf b d.toNat) w
 have hL := headsOf_len b d.toNat
 have hR := rowsOf_len b
 induction n with
 | zero =>
  intro j h h1
  refine Ev.step (fun k => ?_) hn
  rw [laws_FnParts.l2, if_neg (by omega), w64 (by omega) (by omega)]
  rfl
 | succ n ih =>
  intro j h h1
  obtain ⟨r, e1, e2, m, e3, e4, e5, e6⟩ := head_row b hb d h0 h8 j (by omega)
  have e7 := in_span (headsOf_sorted b d.toNat) w j h1 (by omega)
  refine Ev.step (fun k => ?_) (ih (j + 1) (by omega) (by omega))
  rw [laws_FnParts.l2, if_pos (by omega), if_pos (by omega), if_pos (by omega), rd_nat, e1, if_pos (by omega), e3, if_pos (by omega), if_pos (by omega), Int.toNat_natCast, Int.toNat_natCast, e6, e7, if_pos rfl, w64 (by omega) (by omega)]
  rfl
theorem fnParts_l1 (a b : List Int) (d : Int) (P : List S48) (i : Nat) (hi : i < 1000) (ha : a.length ≤ 300) (hb : b.length ≤ 300) (h0 : 0 ≤ d) (h8 : d ≤ 8) (w : List Int)
  (hn : Ev (fun k => laws_FnParts.l0 k a b d P ((i + 1 : Nat) : Int) (rowsOf a) (rowsOf b)) true) (n : Nat) : ∀ j : Nat, j + n = hiOf (headsOf a d.toNat) w → loOf (headsOf a d.toNat) w ≤ j →
  Ev (fun k => laws_FnParts.l1 k a b d P (rowsOf a) (rowsOf b) (i : Int) (j : Int) w (loOf (headsOf a d.toNat) w : Int) (hiOf (headsOf a d.toNat) w : Int) (loOf (headsOf b d.toNat) w : Int) (hiOf (headsOf b d.toNat) w : Int)) true := by
 have hle := hi_le (headsOf a d.toNat) w
 have hL := headsOf_len a d.toNat
 have hR := rowsOf_len a
 induction n with
 | zero =>
  intro j h h1
  have hll := lo_le (headsOf b d.toNat) w
  refine Ev.step (fun k => ?_) (fnParts_l2 a b d P i hi ha hb h0 h8 w (loOf (headsOf a d.toNat) w : Int) (hiOf (headsOf a d.toNat) w : Int) hn (hiOf (headsOf b d.toNat) w - loOf (headsOf b d.toNat) w) (loOf (headsOf b d.toNat) w) (by omega) (Nat.le_refl _))
  rw [laws_FnParts.l1, if_neg (by omega)]
 | succ n ih =>
  intro j h h1
  obtain ⟨r, e1, e2, m, e3, e4, e5, e6⟩ := head_row a ha d h0 h8 j (by omega)
  have e7 := in_span (headsOf_sorted a d.toNat) w j h1 (by omega)
  refine Ev.step (fun k => ?_) (ih (j + 1) (by omega) (by omega))
  rw [laws_FnParts.l1, if_pos (by omega), if_pos (by omega), if_pos (by omega), rd_nat, e1, if_pos (by omega), e3, if_pos (by omega), if_pos (by omega), Int.toNat_natCast, Int.toNat_natCast, e6, e7, if_pos rfl, w64 (by omega) (by omega)]
  rfl
theorem fnParts_l0 (a b : List Int) (d : Int) (ha : a.length ≤ 300) (hb : b.length ≤ 300) (ba : bytesOk a) (bb : bytesOk b) (h0 : 0 ≤ d) (h8 : d ≤ 8) (hne : (partsAB a b d).length ≠ 0) (n : Nat) : ∀ i : Nat, i + n = (partsAB a b d).length →
  Ev (fun k => laws_FnParts.l0 k a b d (partsAB a b d) (i : Int) (rowsOf a) (rowsOf b)) true := by
 have hP : (partsAB a b d).length = (wordsL (headsOf a d.toNat ++ headsOf b d.toNat)).length := partsL_len _ _
 have hS := (smalls_words (smalls_two a b ha hb d.toNat)).1
 have hRa := rowsOf_len a
 have hRb := rowsOf_len b
 have hLa := headsOf_len a d.toNat
 have hLb := headsOf_len b d.toNat
 induction n with
 | zero =>
  intro i h
  obtain ⟨K, hK⟩ := ev_out (implPartsOk_true a b d.toNat ha hb hne)
  refine ev_mk (K + 1) fun k hk => ?_
  obtain ⟨k, rfl⟩ : ∃ m, k = m + 1 := ⟨k - 1, by omega⟩
  rw [laws_FnParts.l0, if_neg (by omega)]
  show (impl_PartsOk.f k a b (partsL (headsOf a d.toNat) (headsOf b d.toNat))).bind _ = _
  rw [hK k (by omega), Option.bind_some]
 | succ n ih =>
  intro i h
  have hat : (partsAB a b d).getD i z48 = partOf (headsOf a d.toNat) (headsOf b d.toNat) ((wordsL (headsOf a d.toNat ++ headsOf b d.toNat)).getD i []) := partsL_at _ _ i (by omega)
  have hmem : (wordsL (headsOf a d.toNat ++ headsOf b d.toNat)).getD i [] ∈ headsOf a d.toNat ++ headsOf b d.toNat := by
   rw [← wordsL_mem, lget_lt _ i [] (by omega)]
   exact List.getElem_mem _
  have hby : ∀ i : Nat, i < (wordsL (headsOf a d.toNat ++ headsOf b d.toNat)).length → bytesOk ((wordsL (headsOf a d.toNat ++ headsOf b d.toNat)).getD i []) := fun i hi => by
   have hm : (wordsL (headsOf a d.toNat ++ headsOf b d.toNat)).getD i [] ∈ headsOf a d.toNat ++ headsOf b d.toNat := by
    rw [← wordsL_mem, lget_lt _ i [] hi]
    exact List.getElem_mem _
   rcases List.mem_append.1 hm with q | q
   ·exact fun y hy => ba y ((headsOf_mem q).2 y hy)
   ·exact fun y hy => bb y ((headsOf_mem q).2 y hy)
  have hpos : loOf (headsOf a d.toNat) ((wordsL (headsOf a d.toNat ++ headsOf b d.toNat)).getD i []) + loOf (headsOf b d.toNat) ((wordsL (headsOf a d.toNat ++ headsOf b d.toNat)).getD i []) < hiOf (headsOf a d.toNat) ((wordsL (headsOf a d.toNat ++ headsOf b d.toNat)).getD i []) + hiOf (headsOf b d.toNat) ((wordsL (headsOf a d.toNat ++ headsOf b d.toNat)).getD i []) := by
   have q1 := lo_le (headsOf a d.toNat) ((wordsL (headsOf a d.toNat ++ headsOf b d.toNat)).getD i [])
   have q2 := lo_le (headsOf b d.toNat) ((wordsL (headsOf a d.toNat ++ headsOf b d.toNat)).getD i [])
   rcases List.mem_append.1 hmem with q | q
   ·have := lo_lt q; omega
   ·have := lo_lt q; omega
  have g1 := lo_le (headsOf a d.toNat) ((wordsL (headsOf a d.toNat ++ headsOf b d.toNat)).getD i [])
  have g2 := lo_le (headsOf b d.toNat) ((wordsL (headsOf a d.toNat ++ headsOf b d.toNat)).getD i [])
  have g3 := hi_le (headsOf a d.toNat) ((wordsL (headsOf a d.toNat ++ headsOf b d.toNat)).getD i [])
  have g4 := hi_le (headsOf b d.toNat) ((wordsL (headsOf a d.toNat ++ headsOf b d.toNat)).getD i [])
  have hl1 := fnParts_l1 a b d (partsAB a b d) i (by omega) ha hb h0 h8 ((wordsL (headsOf a d.toNat ++ headsOf b d.toNat)).getD i []) (ih (i + 1) (by omega)) (hiOf (headsOf a d.toNat) ((wordsL (headsOf a d.toNat ++ headsOf b d.toNat)).getD i []) - loOf (headsOf a d.toNat) ((wordsL (headsOf a d.toNat ++ headsOf b d.toNat)).getD i [])) (loOf (headsOf a d.toNat) ((wordsL (headsOf a d.toNat ++ headsOf b d.toNat)).getD i [])) (by omega) (Nat.le_refl _)
  have hless : 0 < i → Op.bytesLess (strOfNums ((partsAB a b d).getD (i - 1) z48).f0).toList (strOfNums ((partsAB a b d).getD i z48).f0).toList = true := fun hi0 => by
   have hat1 : (partsAB a b d).getD (i - 1) z48 = partOf (headsOf a d.toNat) (headsOf b d.toNat) ((wordsL (headsOf a d.toNat ++ headsOf b d.toNat)).getD (i - 1) []) := partsL_at _ _ (i - 1) (by omega)
   rw [Ws.less_cmp, hat, hat1, decide_eq_true_eq]
   show Fv.cmpB (bytesOf (strOfNums ((wordsL (headsOf a d.toNat ++ headsOf b d.toNat)).getD (i - 1) []))) (bytesOf (strOfNums ((wordsL (headsOf a d.toNat ++ headsOf b d.toNat)).getD i []))) < 0
   rw [Ws.num_of _ (hby (i - 1) (by omega)), Ws.num_of _ (hby i (by omega))]
   exact words_at (wordsL_sorted _) (i - 1) i (by omega) (by omega)
  refine Ev.step (f := fun k => laws_FnParts.j2 k a b d (partsAB a b d) (rowsOf a) (rowsOf b) (i : Int) false ((partsAB a b d).getD i z48).f0 ((partsAB a b d).getD i z48).f1 ((partsAB a b d).getD i z48).f2 ((partsAB a b d).getD i z48).f3 ((partsAB a b d).getD i z48).f4) (fun k => ?_) (Ev.step (fun k => ?_) hl1)
  ·have t1 : ¬ wrap64 (wrap64 (wrap64 (((partsAB a b d).getD i z48).f2 - ((partsAB a b d).getD i z48).f1) + ((partsAB a b d).getD i z48).f4) - ((partsAB a b d).getD i z48).f3) < 1 := by
    rw [hat]
    simp only [partOf]
    rw [w64 (x := (hiOf (headsOf a d.toNat) ((wordsL (headsOf a d.toNat ++ headsOf b d.toNat)).getD i []) : Int) - (loOf (headsOf a d.toNat) ((wordsL (headsOf a d.toNat ++ headsOf b d.toNat)).getD i []) : Int)) (by omega) (by omega), w64 (x := (hiOf (headsOf a d.toNat) ((wordsL (headsOf a d.toNat ++ headsOf b d.toNat)).getD i []) : Int) - (loOf (headsOf a d.toNat) ((wordsL (headsOf a d.toNat ++ headsOf b d.toNat)).getD i []) : Int) + (hiOf (headsOf b d.toNat) ((wordsL (headsOf a d.toNat ++ headsOf b d.toNat)).getD i []) : Int)) (by omega) (by omega), w64 (by omega) (by omega)]
    omega
   have t2 : ¬ ((partsAB a b d).getD i z48).f1 < 0 := by rw [hat]; simp only [partOf]; omega
   have t3 : ¬ ((partsAB a b d).getD i z48).f2 > ((rowsOf a).length : Int) := by rw [hat]; simp only [partOf]; omega
   have t4 : ¬ ((partsAB a b d).getD i z48).f3 < 0 := by rw [hat]; simp only [partOf]; omega
   have t5 : ¬ ((partsAB a b d).getD i z48).f4 > ((rowsOf b).length : Int) := by rw [hat]; simp only [partOf]; omega
   by_cases hi0 : 0 < i
   ·have e : wrap64 ((i : Int) - 1) = ((i - 1 : Nat) : Int) := by rw [w64 (by omega) (by omega)]; omega
    rw [laws_FnParts.l0, if_pos (by omega), if_pos (by omega), if_pos (by omega), e, if_pos (by omega), if_pos (by omega), rdT48, rdT48, if_pos (hless hi0), if_neg t1, if_neg t2, if_neg t3, if_neg t4, decide_eq_false t5]
   ·rw [laws_FnParts.l0, if_pos (by omega), if_pos (by omega), if_neg (by omega), rdT48, if_neg t1, if_neg t2, if_neg t3, if_neg t4, decide_eq_false t5]
  ·rw [laws_FnParts.j2, if_neg (by decide), hat]
   rfl
theorem FnParts : laws_FnParts.Pure := by
 intro l0 hl0 hl1 ho
 by_cases g0 : (l0.length : Int) > 1048576
 ·exact ⟨0, by unfold laws_FnParts.f laws_big.f; rw [Option.bind_some, decide_eq_true g0, if_pos rfl]⟩
 obtain ⟨r, x, d, hev, hr, hx, br, bx⟩ := drawParts_ev (code_wf ho) (by omega)
 obtain ⟨K, hK⟩ := ev_out hev
 have bo : ∀ l : List Int, l.length ≤ 24 → laws_bytesOf.f l = some l := fun l hl => by
  unfold laws_bytesOf.f
  rw [Option.bind_some, if_pos (by simp only [List.length_nil]; omega), List.nil_append]
 by_cases h : fitB r x d = true
 ·have h' := of_decide_eq_true h
  obtain ⟨K1, hK1⟩ := ev_out (specParts_ev r x d h'.1 h'.2.1 h'.2.2.1 h'.2.2.2)
  obtain ⟨K2, hK2⟩ := ev_out (implParts_ev r x d h'.1 h'.2.1 br bx h'.2.2.1 h'.2.2.2)
  obtain ⟨K3, hK3⟩ := ev_out (specRows_ev r (by omega))
  obtain ⟨K4, hK4⟩ := ev_out (specRows_ev x (by omega))
  by_cases hz : (partsAB r x d).length = 0
  ·refine ⟨K + K1 + K2 + 1, ?_⟩
   unfold laws_FnParts.f laws_big.f impl_Parts.f
   rw [Option.bind_some, decide_eq_false g0, if_neg (by decide), hK _ (by omega), Option.bind_some]
   dsimp only
   rw [hK1 _ (by omega), Option.bind_some, bo r hr, Option.bind_some, bo x hx, Option.bind_some, isShared_fit, Option.bind_some, if_pos h, hK2 _ (by omega), Option.bind_some, Option.bind_some, if_pos rfl, laws_FnParts.j0, if_pos (by simp [hz])]
   simp
  ·obtain ⟨K5, hK5⟩ := ev_out (fnParts_l0 r x d h'.1 h'.2.1 br bx h'.2.2.1 h'.2.2.2 hz _ 0 (Nat.zero_add _))
   refine ⟨K + K1 + K2 + K3 + K4 + K5 + 1, ?_⟩
   unfold laws_FnParts.f laws_big.f impl_Parts.f
   rw [Option.bind_some, decide_eq_false g0, if_neg (by decide), hK _ (by omega), Option.bind_some]
   dsimp only
   rw [hK1 _ (by omega), Option.bind_some, bo r hr, Option.bind_some, bo x hx, Option.bind_some, isShared_fit, Option.bind_some, if_pos h, hK2 _ (by omega), Option.bind_some, Option.bind_some, if_pos rfl, laws_FnParts.j0, if_neg (fun h => by have := beq_iff_eq.1 h; omega), hK3 _ (by omega), Option.bind_some, hK4 _ (by omega), Option.bind_some]
   exact hK5 _ (by omega)
 ·refine ⟨K + 1, ?_⟩
  unfold laws_FnParts.f laws_big.f impl_Parts.f
  rw [Option.bind_some, decide_eq_false g0, if_neg (by decide), hK _ (by omega), Option.bind_some]
  dsimp only
  rw [specParts_no r x d (by simpa using h), Option.bind_some, bo r hr, Option.bind_some, bo x hx, Option.bind_some, isShared_fit, Option.bind_some, if_neg h, Option.bind_some, if_pos rfl, laws_FnParts.j0, if_pos (by rfl)]
  rfl

end Go.Proofs.Ytadhngelhognaaa.Pure
