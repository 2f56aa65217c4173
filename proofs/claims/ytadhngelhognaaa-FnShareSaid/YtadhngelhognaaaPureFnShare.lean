/- For two drawn texts, a depth and a budget: what is shared is as long as the reference's, stands in both in order, no less is shared with a greater budget, and with depth 0 and a budget of 1000 nothing is lost. -/
import Derived.Test.YtadhngelhognaaaQFnSharex17
import Derived.Test.YtadhngelhognaaaBase
import Derived.Test.YtadhngelhognaaaLcs
import Derived.Test.YtadhngelhognaaaSx
import Derived.Test.YtadhngelhognaaaWz
import Derived.Test.YtadhngelhognaaaWs
namespace Go.Proofs.Ytadhngelhognaaa.Pure
open Go.RowKit Go.Proofs.Ytadhngelhognaaa.QFnShare Go.Proofs.YtadhngelhognaaaW.PrintWords Go.Proofs.YtadhngelhognaaaW.PrintLast Go.Proofs.YtadhngelhognaaaW.PrintMore
open Go.Proofs.Ytadhngelhognaaa Go.Proofs.Ytadhngelhognaaa.Base Go.Proofs.Ytadhngelhognaaa.Sx Go.Proofs.Ytadhngelhognaaa.Wz Go.Proofs.Ytadhngelhognaaa.Ws
set_option linter.unusedVariables false
set_option linter.unusedSimpArgs false

theorem bs {α β : Type} (a : α) (f : α → Option β) : (some a).bind f = f a := rfl
theorem ip {c : Prop} [h : Decidable c] (hc : c) {α : Type} {t e : α} : (if c then t else e) = t := if_pos hc
theorem iq {c : Prop} [h : Decidable c] (hc : ¬ c) {α : Type} {t e : α} : (if c then t else e) = e := if_neg hc
theorem ek {k m : Nat} (h : m + 1 ≤ k) : ∃ m, k = m + 1 := ⟨k - 1, by omega⟩
/-- A cursor over code: what is kept of it. 'B': how far it may have gone. -/
def Cur (code : List Int) (B : Int) (t u : Int) : Prop := (∀ x ∈ code, 0 ≤ x ∧ x ≤ 255) ∧ code.length ≤ 140737488351232 ∧ 0 ≤ t ∧ t ≤ B ∧ 0 ≤ u ∧ u ≤ 66600
theorem Cur.more {code : List Int} {B B' t u : Int} (h : Cur code B t u) (hB : B ≤ B') : Cur code B' t u := ⟨h.1, h.2.1, h.2.2.1, by have := h.2.2.2.1; omega, h.2.2.2.2⟩
theorem rd_code {code : List Int} (h : ∀ x ∈ code, 0 ≤ x ∧ x ≤ 255) (i : Int) : 0 ≤ rd code i ∧ rd code i ≤ 255 := by
 unfold rd
 rw [List.getD_eq_getElem?_getD]
 cases hq : code[i.toNat]? with
 | none => exact ⟨by show (0 : Int) ≤ 0; omega, by show (0 : Int) ≤ 255; omega⟩
 | some x => exact h x (List.mem_of_getElem? hq)
theorem pick_ev {code : List Int} {B t u : Int} (h : Cur code B t u) (hB : B ≤ 1000000000) (n : Int) (hn : n ≤ 1000000000000) :
  ∃ v t' u', spec_l01Cur_pick.f code t u n = some (v, t', u') ∧ 0 ≤ v ∧ (1 ≤ n → v < n) ∧ (n < 2 → v = 0) ∧ Cur code (B + 1) t' u' := by
 obtain ⟨h1, h2, h3, h4, h5, h6⟩ := h
 unfold spec_l01Cur_pick.f
 by_cases c0 : n < 2
 ·exact ⟨0, t, u, ip c0, by omega, fun _ => by omega, fun _ => rfl, h1, h2, h3, by omega, h5, h6⟩
 ·have npos : 0 < n := by omega
  have wt : wrap64 (t + 1) = t + 1 := w64 (by omega) (by omega)
  rw [iq c0]
  by_cases c1 : t < (code.length : Int)
  ·obtain ⟨r0, r1⟩ := rd_code h1 t
   refine ⟨Int.tmod (rd code t) n, t + 1, u, by rw [ip c1, ip h3, iq (by omega), w64 (by omega) (by omega), wt], Int.tmod_nonneg _ r0, fun _ => Int.tmod_lt_of_pos _ npos, fun hn2 => absurd hn2 c0, h1, h2, by omega, by omega, h5, h6⟩
  ·have w1 : wrap64 (u * 1103) = u * 1103 := w64 (by omega) (by omega)
   have w2 : wrap64 (u * 1103 + 12345) = u * 1103 + 12345 := w64 (by omega) (by omega)
   have s0 : 0 ≤ Int.tmod (u * 1103 + 12345) 65521 := Int.tmod_nonneg _ (by omega)
   have s1 : Int.tmod (u * 1103 + 12345) 65521 < 65521 := Int.tmod_lt_of_pos _ (by omega)
   by_cases c2 : (code.length : Int) > 0
   ·have i0 : 0 ≤ Int.tmod t (code.length : Int) := Int.tmod_nonneg _ h3
    have i1 : Int.tmod t (code.length : Int) < (code.length : Int) := Int.tmod_lt_of_pos _ c2
    obtain ⟨r0, r1⟩ := rd_code h1 (Int.tmod t (code.length : Int))
    have d0 : 0 ≤ Int.tdiv (Int.tmod (u * 1103 + 12345) 65521) 7 := Int.tdiv_nonneg s0 (by omega)
    have d1 : Int.tdiv (Int.tmod (u * 1103 + 12345) 65521) 7 ≤ 65521 := by
     have := Int.tdiv_le_self 7 s0
     omega
    refine ⟨Int.tmod (Int.tdiv (Int.tmod (u * 1103 + 12345) 65521) 7 + rd code (Int.tmod t (code.length : Int))) n, t + 1, Int.tmod (u * 1103 + 12345) 65521, ?_, Int.tmod_nonneg _ (by omega), fun _ => Int.tmod_lt_of_pos _ npos, fun hn2 => absurd hn2 c0, h1, h2, by omega, by omega, s0, by omega⟩
    rw [iq c1, ip c2, iq (by omega), ip i0, ip i1, iq (by omega), w1, w2, wt, w64 (x := Int.tdiv (Int.tmod (u * 1103 + 12345) 65521) 7) (by omega) (by omega), w64 (x := rd code (Int.tmod t (code.length : Int))) (by omega) (by omega), w64 (by omega) (by omega)]
   ·refine ⟨(0 : Int) % n, t + 1, Int.tmod (u * 1103 + 12345) 65521, by rw [iq c1, iq c2, iq (by omega), w1, w2, wt], Int.emod_nonneg _ (by omega), fun _ => Int.emod_lt_of_pos _ npos, fun hn2 => absurd hn2 c0, h1, h2, by omega, by omega, s0, by omega⟩
theorem open_ev {code : List Int} (h1 : ∀ x ∈ code, 0 ≤ x ∧ x ≤ 255) (h2 : code.length ≤ 140737488351232) : ∃ t u, spec_l01Open.f code = some (code, t, u) ∧ Cur code 0 t u := by
 refine ⟨0, 89 + ((code.length : Int) % 1000), rfl, h1, h2, by omega, by omega, ?_, ?_⟩
 ·have := Int.emod_nonneg (code.length : Int) (show (1000 : Int) ≠ 0 by omega); omega
 ·have := Int.emod_lt_of_pos (code.length : Int) (show (0 : Int) < 1000 by omega); omega
theorem code_wf {code : List Int} (h : ∀ x ∈ code, (Lit.int .u8 x).wf = true) : ∀ x ∈ code, 0 ≤ x ∧ x ≤ 255 := fun x hx => by
 have := h x hx
 simp only [Lit.wf, IntKind.min, IntKind.max, IntKind.signed, IntKind.bits, Bool.and_eq_true, decide_eq_true_eq] at this
 simpa using this
theorem size_ev {code : List Int} {B t u : Int} (h : Cur code B t u) (hB : B ≤ 1000000000) (n : Int) (h0 : 0 ≤ n) (hn : n ≤ 1000000) :
  ∃ v t' u', spec_l01Cur_size.f code t u n = some (v, t', u') ∧ 0 ≤ v ∧ v ≤ n ∧ Cur code (B + 1) t' u' := by
 have hl := h.2.1
 unfold spec_l01Cur_size.f
 have w1 : wrap64 ((code.length : Int) / 8) = (code.length : Int) / 8 := w64 (by omega) (by omega)
 have w2 : wrap64 (1 + (code.length : Int) / 8) = 1 + (code.length : Int) / 8 := w64 (by omega) (by omega)
 have m1 : mn n (1 + (code.length : Int) / 8) ≤ n ∧ 0 ≤ mn n (1 + (code.length : Int) / 8) := by unfold mn; split <;> omega
 rw [w1, w2, w64 (x := mn n (1 + (code.length : Int) / 8) + 1) (by omega) (by omega)]
 obtain ⟨v, t', u', e, v0, v1, _, hc⟩ := pick_ev h hB (mn n (1 + (code.length : Int) / 8) + 1) (by omega)
 refine ⟨v, t', u', ?_, v0, ?_, hc⟩
 ·rw [e, bs]
 ·have := v1 (by omega); omega
theorem raw_ev {code : List Int} {B t u : Int} (h : Cur code B t u) (hB : B ≤ 900000000) :
  ∃ v t' u', spec_l01Cur_raw.f code t u = some (v, t', u') ∧ -9223372036854775808 ≤ v ∧ v ≤ 9223372036854775807 ∧ Cur code (B + 2) t' u' := by
 obtain ⟨v1, t1, u1, e1, a1, b1, _, c1⟩ := pick_ev h (by omega) 8 (by omega)
 have b1 := b1 (by omega)
 unfold spec_l01Cur_raw.f
 rw [e1, bs]
 by_cases g0 : v1 = 0
 ·obtain ⟨v2, t2, u2, e2, a2, b2, _, c2⟩ := pick_ev c1 (by omega) 256 (by omega)
  have b2 := b2 (by omega)
  exact ⟨v2 - 128, t2, u2, by rw [ip g0, e2, bs, w64 (by omega) (by omega)], by omega, by omega, c2.more (by omega)⟩
 ·by_cases g1 : v1 = 1
  ·obtain ⟨v2, t2, u2, e2, a2, b2, _, c2⟩ := pick_ev c1 (by omega) 8 (by omega)
   have b2 := b2 (by omega)
   obtain ⟨j, rfl⟩ := Int.eq_ofNat_of_zero_le a2
   have hin : ∀ x ∈ ([9223372036854775807, (-9223372036854775808), 4611686018427387904, 4294967295, 4294967296, (-1000), 1000, 257] : List Int), -9223372036854775808 ≤ x ∧ x ≤ 9223372036854775807 := by
    intro x hx
    simp at hx
    omega
   have hr := hin (rd [9223372036854775807, (-9223372036854775808), 4611686018427387904, 4294967295, 4294967296, (-1000), 1000, 257] (j : Int)) (by
    rw [rd_nat, lget_lt _ j 0 (by simp; omega)]
    exact List.getElem_mem _)
   exact ⟨_, t2, u2, by rw [iq g0, ip g1, bs, e2, bs, ip (by omega), ip (by simp; omega)], hr.1, hr.2, c2.more (by omega)⟩
  ·obtain ⟨v2, t2, u2, e2, a2, b2, _, c2⟩ := pick_ev c1 (by omega) 14 (by omega)
   have b2 := b2 (by omega)
   exact ⟨v2 - 3, t2, u2, by rw [iq g0, iq g1, e2, bs, w64 (by omega) (by omega)], by omega, by omega, c2.more (by omega)⟩
theorem once_ev {code : List Int} {B t u : Int} (h : Cur code B t u) (hB : B ≤ 1000000000) (n : Int) (hn : n ≤ 1000000000000) :
  ∃ b t' u', spec_l01Cur_once.f code t u n = some (b, t', u') ∧ Cur code (B + 1) t' u' := by
 obtain ⟨v, t', u', e, _, _, _, hc⟩ := pick_ev h hB n hn
 refine ⟨(v == wrap64 (n - 1)), t', u', ?_, hc⟩
 unfold spec_l01Cur_once.f
 rw [e, bs]
theorem specCmp_l0 (a b : List Int) (ha : a.length ≤ 2000000) (hb : b.length ≤ 2000000) (d : Nat) : ∀ i : Nat, i + d = a.length → i ≤ b.length → Ev (fun k => spec_l05Cmp.l0 k a b (i : Int)) (Fv.cmpB (a.drop i) (b.drop i)) := by
 induction d with
 | zero =>
  intro i h hi
  refine Ev.step (f := fun k => spec_l05Cmp.j1 k a b (i : Int) false) (fun k => ?_) (Ev.step (f := fun _ => some _) (fun k => ?_) (Ev.now _))
  ·rw [spec_l05Cmp.l0, iq (by omega)]
  ·rw [spec_l05Cmp.j1, iq (by decide), List.drop_eq_nil_of_le (show a.length ≤ i by omega)]
   by_cases c : (a.length : Int) < (b.length : Int)
   ·rw [ip c, drop_at b i (by omega)]
    rfl
   ·rw [iq c, iq (by omega), List.drop_eq_nil_of_le (show b.length ≤ i by omega)]
    rfl
 | succ d ih =>
  intro i h hi
  rw [drop_at a i (by omega)]
  by_cases c : i < b.length
  ·rw [drop_at b i c, Fv.cmpB]
   by_cases c1 : a.getD i 0 < b.getD i 0
   ·refine Ev.step (f := fun k => spec_l05Cmp.j1 k a b (i : Int) true) (fun k => ?_) (Ev.step (f := fun _ => some _) (fun k => ?_) (Ev.now _))
    ·rw [spec_l05Cmp.l0, ip (by omega), decide_eq_true (show (i : Int) < (b.length : Int) by omega)]
    ·rw [spec_l05Cmp.j1, ip rfl, ip (by omega), ip (by omega), ip (by omega), rd_nat, rd_nat, ip c1, ip c1]
   ·by_cases c2 : b.getD i 0 < a.getD i 0
    ·refine Ev.step (f := fun k => spec_l05Cmp.j1 k a b (i : Int) true) (fun k => ?_) (Ev.step (f := fun _ => some _) (fun k => ?_) (Ev.now _))
     ·rw [spec_l05Cmp.l0, ip (by omega), decide_eq_true (show (i : Int) < (b.length : Int) by omega)]
     ·rw [spec_l05Cmp.j1, ip rfl, ip (by omega), ip (by omega), ip (by omega), rd_nat, rd_nat, iq c1, ip c2, iq c1, ip c2]
    ·rw [iq c1, iq c2]
     refine Ev.step (f := fun k => spec_l05Cmp.j1 k a b (i : Int) true) (fun k => ?_) (Ev.step (fun k => ?_) (ih (i + 1) (by omega) (by omega)))
     ·rw [spec_l05Cmp.l0, ip (by omega), decide_eq_true (show (i : Int) < (b.length : Int) by omega)]
     ·rw [spec_l05Cmp.j1, ip rfl, ip (by omega), ip (by omega), ip (by omega), rd_nat, rd_nat, iq c1, iq c2, w64 (by omega) (by omega)]
      rfl
  ·rw [List.drop_eq_nil_of_le (show b.length ≤ i by omega)]
   refine Ev.step (f := fun k => spec_l05Cmp.j1 k a b (i : Int) false) (fun k => ?_) (Ev.step (f := fun _ => some _) (fun k => ?_) (Ev.now _))
   ·rw [spec_l05Cmp.l0, ip (by omega), decide_eq_false (show ¬ (i : Int) < (b.length : Int) by omega)]
   ·rw [spec_l05Cmp.j1, iq (by decide), iq (by omega), ip (by omega)]
    rfl
theorem specCmp_ev (a b : List Int) (ha : a.length ≤ 2000000) (hb : b.length ≤ 2000000) : Ev (fun k => spec_l05Cmp.f k a b) (Fv.cmpB a b) := specCmp_l0 a b ha hb a.length 0 (by omega) (by omega)
def bytesOk (l : List Int) : Prop := ∀ x ∈ l, 0 ≤ x ∧ x < 256
theorem rd_rows {l out : List Int} (ho : ∀ x ∈ out, 0 ≤ x ∧ x ≤ l.length) (j : Nat) (hj : j < out.length) : 0 ≤ out.getD j 0 ∧ out.getD j 0 ≤ l.length := by
 rw [lget_lt out j 0 hj]
 exact ho _ (List.getElem_mem _)
theorem specIns (l out : List Int) (i : Nat) (hl : l.length ≤ 300) (hi : i ≤ l.length) (ho : ∀ x ∈ out, 0 ≤ x ∧ x ≤ l.length) (hlen : out.length ≤ 1000) (hs : out.Pairwise (sl l)) (m : Nat) : ∀ lo hi_ : Nat, hi_ - lo ≤ m → lo ≤ hi_ → hi_ ≤ out.length →
  (∀ j, j < lo → j < out.length → sl l (out.getD j 0) i) → (∀ j, hi_ ≤ j → j < out.length → ¬ sl l (out.getD j 0) i) →
  ∃ p, p ≤ out.length ∧ (∀ j, j < p → j < out.length → sl l (out.getD j 0) i) ∧ (∀ j, p ≤ j → j < out.length → ¬ sl l (out.getD j 0) i) ∧
   ∀ r, Ev (fun k => spec_SuffixRows.l0 k l (out.take p ++ (i : Int) :: out.drop p) ((i : Int) - 1)) r → Ev (fun k => spec_SuffixRows.l1 k l out (i : Int) (lo : Int) (hi_ : Int)) r := by
 have pw : ∀ j j' : Nat, j < j' → j' < out.length → sl l (out.getD j 0) (out.getD j' 0) := fun j j' h h' => by
  rw [lget_lt out j 0 (by omega), lget_lt out j' 0 h']
  exact List.pairwise_iff_getElem.1 hs j j' (by omega) h' h
 induction m with
 | zero =>
  intro lo hi_ h1 h2 h3 h4 h5
  have e : hi_ = lo := by omega
  subst e
  refine ⟨hi_, h3, h4, h5, fun r hr => Ev.step (fun k => ?_) hr⟩
  rw [spec_SuffixRows.l1, iq (by omega), bs, ip (by omega), ip (by omega), bs, Int.toNat_natCast, ip (by simp; omega), bs, bs, bs, ip (by simp; omega), bs,
   ip (by simp; omega), w64 (by omega) (by omega)]
  simp
 | succ m ih =>
  intro lo hi_ h1 h2 h3 h4 h5
  by_cases e : lo < hi_
  ·have hmid : wrap64 (Int.tdiv (wrap64 ((lo : Int) + (hi_ : Int))) 2) = (((lo + hi_) / 2 : Nat) : Int) := by
    rw [show wrap64 ((lo : Int) + (hi_ : Int)) = (lo : Int) + (hi_ : Int) from w64 (by omega) (by omega), show Int.tdiv ((lo : Int) + (hi_ : Int)) 2 = (((lo + hi_) / 2 : Nat) : Int) from by rw [← Int.natCast_add]; rfl, w64 (by omega) (by omega)]
   obtain ⟨mid, hm⟩ : ∃ mid, mid = (lo + hi_) / 2 := ⟨_, rfl⟩
   rw [← hm] at hmid
   have hml : lo ≤ mid := by omega
   have hmh : mid < hi_ := by omega
   obtain ⟨b0, b1⟩ := rd_rows ho mid (by omega)
   obtain ⟨K, hK⟩ := ev_out (specCmp_ev (l.drop (out.getD mid 0).toNat) (l.drop i) (by rw [List.length_drop]; omega) (by rw [List.length_drop]; omega))
   by_cases c : sl l (out.getD mid 0) i
   ·have c' : Fv.cmpB (l.drop (out.getD mid 0).toNat) (l.drop i) < 0 := by have := c; unfold sl at this; rwa [Int.toNat_natCast] at this
    obtain ⟨p, q1, q2, q3, q4⟩ := ih (mid + 1) hi_ (by omega) (by omega) h3 (fun j hj hj' => by
     by_cases ej : j = mid
     ·rw [ej]; exact c
     ·exact sl_trans l _ _ _ (pw j mid (by omega) (by omega)) c) h5
    refine ⟨p, q1, q2, q3, fun r hr => ?_⟩
    obtain ⟨K2, hK2⟩ := ev_out (q4 r hr)
    refine ev_mk (K + K2 + 1) fun k hk => ?_
    obtain ⟨k, rfl⟩ : ∃ m, k = m + 1 := ⟨k - 1, by omega⟩
    rw [spec_SuffixRows.l1, ip (by omega), hmid, ip (by omega), ip (by omega), rd_nat, ip b0, ip b1, ip (by omega), ip (by omega), Int.toNat_natCast, hK k (by omega), bs, ip c', w64 (by omega) (by omega)]
    exact hK2 k (by omega)
   ·have c' : ¬ Fv.cmpB (l.drop (out.getD mid 0).toNat) (l.drop i) < 0 := by have := c; unfold sl at this; rwa [Int.toNat_natCast] at this
    obtain ⟨p, q1, q2, q3, q4⟩ := ih lo mid (by omega) (by omega) (by omega) h4 (fun j hj hj' hh => by
     by_cases ej : j = mid
     ·rw [ej] at hh; exact c hh
     ·exact c (sl_trans l _ _ _ (pw mid j (by omega) (by omega)) hh))
    refine ⟨p, q1, q2, q3, fun r hr => ?_⟩
    obtain ⟨K2, hK2⟩ := ev_out (q4 r hr)
    refine ev_mk (K + K2 + 1) fun k hk => ?_
    obtain ⟨k, rfl⟩ : ∃ m, k = m + 1 := ⟨k - 1, by omega⟩
    rw [spec_SuffixRows.l1, ip (by omega), hmid, ip (by omega), ip (by omega), rd_nat, ip b0, ip b1, ip (by omega), ip (by omega), Int.toNat_natCast, hK k (by omega), bs, iq c']
    exact hK2 k (by omega)
  ·obtain ⟨p, q1, q2, q3, q4⟩ := ih lo hi_ (by omega) h2 h3 h4 h5
   exact ⟨p, q1, q2, q3, q4⟩
def from_ (n d : Nat) : List Int := (upto n).filter fun x => decide ((d : Int) ≤ x)
theorem mem_from (n d : Nat) (x : Int) : x ∈ from_ n d ↔ (d : Int) ≤ x ∧ x ≤ n := by
 unfold from_
 rw [List.mem_filter, mem_upto, decide_eq_true_eq]
 omega
theorem from_nodup (n d : Nat) : (from_ n d).Nodup := (upto_nodup n).sublist List.filter_sublist
theorem from_cons (n d : Nat) (h : d ≤ n) : (from_ n d).Perm ((d : Int) :: from_ n (d + 1)) := by
 rw [List.perm_ext_iff_of_nodup (from_nodup _ _) (List.nodup_cons.2 ⟨fun h => by rw [mem_from] at h; omega, from_nodup _ _⟩)]
 intro x
 rw [List.mem_cons, mem_from, mem_from]
 omega
theorem from_zero (n : Nat) : (from_ n 0).Perm (upto n) := by
 rw [List.perm_ext_iff_of_nodup (from_nodup _ _) (upto_nodup _)]
 intro x
 rw [mem_from, mem_upto]
 omega
theorem from_top (n : Nat) : from_ n (n + 1) = [] := List.eq_nil_iff_forall_not_mem.2 fun x h => by rw [mem_from] at h; omega
theorem specRows_l0 (l : List Int) (hl : l.length ≤ 300) (d : Nat) : ∀ out : List Int, d ≤ l.length + 1 → out.Perm (from_ l.length d) → out.Pairwise (sl l) → Ev (fun k => spec_SuffixRows.l0 k l out ((d : Int) - 1)) (rowsOf l) := by
 induction d with
 | zero =>
  intro out _ hp hs
  refine Ev.step (f := fun _ => some _) (fun k => ?_) (Ev.now _)
  rw [spec_SuffixRows.l0, iq (by omega), rows_unique l out (hp.trans (from_zero _)) hs]
 | succ d ih =>
  intro out hd hp hs
  have hm : ∀ x ∈ out, 0 ≤ x ∧ x ≤ l.length := fun x hx => by have := (mem_from _ _ _).1 (hp.mem_iff.1 hx); omega
  have hn : (d : Int) ∉ out := fun h => by have := (mem_from _ _ _).1 (hp.mem_iff.1 h); omega
  have hlen : out.length ≤ 1000 := by
   have h1 := hp.length_eq
   have h2 : (from_ l.length (d + 1)).length ≤ (upto l.length).length := List.length_filter_le _ _
   have h3 : (upto l.length).length = l.length + 1 := by simp [upto]
   omega
  obtain ⟨p, q1, q2, q3, q4⟩ := specIns l out d hl (by omega) hm hlen hs out.length 0 out.length (by omega) (by omega) (by omega) (fun j hj => by omega) (fun j hj hj' => by omega)
  have hnew : (out.take p ++ (d : Int) :: out.drop p).Perm (from_ l.length d) := by
   refine List.perm_middle.trans ?_
   rw [List.take_append_drop]
   exact (hp.cons _).trans (from_cons _ _ (by omega)).symm
  have h := q4 _ (ih _ (by omega) hnew (ins_sorted l out d p (by omega) hm hn hs q2 q3))
  refine Ev.step (fun k => ?_) h
  rw [spec_SuffixRows.l0, ip (by omega), show ((d + 1 : Nat) : Int) - 1 = (d : Int) by omega]
  rfl
theorem specRows_ev (l : List Int) (hl : l.length ≤ 300) : Ev (fun k => spec_SuffixRows.f k l) (rowsOf l) := by
 have h := specRows_l0 l hl (l.length + 1) [] (by omega) (by rw [from_top]) List.Pairwise.nil
 refine Ev.congr (fun k => ?_) h
 unfold spec_SuffixRows.f spec_TextOk.f
 rw [bs, decide_eq_true (by omega), ip rfl, show ((l.length + 1 : Nat) : Int) - 1 = (l.length : Int) by omega]
theorem implRows_l0 (l : List Int) (hl : l.length ≤ 300) (hb : bytesOk l) (d : Nat) : ∀ i : Nat, i + d = l.length + 1 → Ev (fun k => impl_suffixRows.l0 k ((List.range i).map fun (i : Nat) => (i : Int)) ((l.length : Int) + 1) (i : Int) l) (rowsOf l) := by
 induction d with
 | zero =>
  intro i h
  have e : i = l.length + 1 := by omega
  subst e
  refine Ev.step (f := fun _ => some _) (fun k => ?_) (Ev.now _)
  rw [impl_suffixRows.l0, iq (by omega), slices_SortFunc_79.f, ip ?_, bs]
  ·rfl
  ·simp only [Bool.and_eq_true, List.all_eq_true, decide_eq_true_eq, Fv.isB]
   refine ⟨⟨hb, fun x hx => (mem_upto _ _).1 hx⟩, by simp; omega⟩
 | succ d ih =>
  intro i h
  refine Ev.step (fun k => ?_) (ih (i + 1) (by omega))
  rw [impl_suffixRows.l0, ip (by omega), ip (by simp; omega), w64 (by omega) (by omega), List.range_succ, List.map_append]
  rfl
theorem implRows_ev (l : List Int) (hl : l.length ≤ 300) (hb : bytesOk l) : Ev (fun k => impl_suffixRows.f k l) (rowsOf l) := by
 have h := implRows_l0 l hl hb (l.length + 1) 0 (by omega)
 refine Ev.congr (fun k => ?_) h
 unfold impl_suffixRows.f
 rw [w64 (by omega) (by omega)]
 rfl
theorem bytesOk_take {l : List Int} (h : bytesOk l) (i : Nat) : bytesOk (l.take i) := fun x hx => h x (List.mem_of_mem_take hx)
theorem bytesOk_drop {l : List Int} (h : bytesOk l) (i : Nat) : bytesOk (l.drop i) := fun x hx => h x (List.mem_of_mem_drop hx)
theorem bytesOk_app {a b : List Int} (ha : bytesOk a) (hb : bytesOk b) : bytesOk (a ++ b) := fun x hx => by
 rcases List.mem_append.1 hx with h | h
 ·exact ha x h
 ·exact hb x h
theorem textOf_l0 (S : ByteArray) (hS : 1 ≤ S.size) (hS2 : S.size ≤ 100) (c : Nat) : ∀ {code : List Int} {B t u : Int} (out : List Int), Cur code B t u → B + 3 * (c : Int) ≤ 900000000 → out.length + 10 * c ≤ 10000000 → bytesOk out →
  ∃ l t' u', Ev (fun k => spec_l01Cur_textOf.l0 k 24 out S (c : Int) code t u) (l, t', u') ∧ l.length ≤ 24 ∧ bytesOk l ∧ Cur code (B + 3 * (c : Int)) t' u' := by
 induction c with
 | zero =>
  intro code B t u out h _ _ ho
  by_cases c : (out.length : Int) > 24
  ·refine ⟨out.take 24, t, u, Ev.step (f := fun _ => some (out.take 24, t, u)) (fun k => ?_) (Ev.now _), by rw [List.length_take]; omega, fun x hx => ho x (List.mem_of_mem_take hx), h.more (by omega)⟩
   rw [spec_l01Cur_textOf.l0, iq (by omega), ip c, ip (by omega), ip (by omega)]
   rfl
  ·refine ⟨out, t, u, Ev.step (f := fun _ => some (out, t, u)) (fun k => ?_) (Ev.now _), by omega, ho, h.more (by omega)⟩
   rw [spec_l01Cur_textOf.l0, iq (by omega), iq c]
 | succ c ih =>
  intro code B t u out h hB hl ho
  have e1 : wrap64 (((c + 1 : Nat) : Int) - 1) = (c : Int) := by rw [w64 (by omega) (by omega)]; omega
  have plain : ∀ {B1 t1 u1 : Int}, Cur code B1 t1 u1 → B1 ≤ B + 1 → ∃ l t' u', Ev (fun k => spec_l01Cur_textOf.j1 k 24 out S ((c + 1 : Nat) : Int) false code t1 u1) (l, t', u') ∧ l.length ≤ 24 ∧ bytesOk l ∧ Cur code (B + 3 * ((c + 1 : Nat) : Int)) t' u' := fun {B1 t1 u1} h1 hB1 => by
   obtain ⟨v, t2, u2, e2, a2, b2, _, c2⟩ := pick_ev h1 (by omega) (S.size : Int) (by omega)
   have b2 := b2 (by omega)
   have hb := bt_range S v
   obtain ⟨l, t', u', hev, hlen, hin, hc⟩ := ih (out ++ [bt S v]) c2 (by omega) (by simp; omega) (bytesOk_app ho (fun x hx => by rw [List.mem_singleton.1 hx]; omega))
   refine ⟨l, t', u', Ev.step (fun k => ?_) hev, hlen, hin, hc.more (by omega)⟩
   rw [spec_l01Cur_textOf.j1, iq (by decide), e2, bs, ip a2, ip b2, ip (by omega), e1]
  by_cases g : (out.length : Int) > 3
  ·obtain ⟨b, t1, u1, eb, h1⟩ := once_ev h (by omega) 6 (by omega)
   cases b with
   | false =>
    obtain ⟨l, t', u', hev, r⟩ := plain h1 (by omega)
    refine ⟨l, t', u', Ev.step (fun k => ?_) hev, r⟩
    rw [spec_l01Cur_textOf.l0, ip (by omega), ip g, eb, bs]
   | true =>
    obtain ⟨v, t2, u2, e2, a2, b2, _, c2⟩ := pick_ev h1 (by omega) (out.length : Int) (by omega)
    have b2 := b2 (by omega)
    obtain ⟨v3, t3, u3, e3, a3, b3, _, c3⟩ := pick_ev c2 (by omega) 6 (by omega)
    have b3 := b3 (by omega)
    obtain ⟨i, rfl⟩ := Int.eq_ofNat_of_zero_le a2
    obtain ⟨q, rfl⟩ := Int.eq_ofNat_of_zero_le a3
    obtain ⟨m, hm, hm1, hm2, hm3⟩ : ∃ m : Nat, mn (out.length : Int) (wrap64 (wrap64 ((i : Int) + 1) + (q : Int))) = (m : Int) ∧ i ≤ m ∧ m ≤ out.length ∧ m ≤ i + 7 := by
     rw [w64 (x := (i : Int) + 1) (by omega) (by omega), w64 (by omega) (by omega)]
     unfold mn
     split
     ·exact ⟨i + 1 + q, by omega, by omega, by omega, by omega⟩
     ·exact ⟨out.length, rfl, by omega, by omega, by omega⟩
    have hpl : ((out.take m).drop i).length ≤ 7 := by rw [List.length_drop, List.length_take]; omega
    obtain ⟨l, t', u', hev, hlen, hin, hc⟩ := ih (out ++ (out.take m).drop i) c3 (by omega) (by rw [List.length_append]; omega) (bytesOk_app ho (bytesOk_drop (bytesOk_take ho m) i))
    refine ⟨l, t', u', Ev.step (f := fun k => spec_l01Cur_textOf.j1 k 24 out S ((c + 1 : Nat) : Int) true code t1 u1) (fun k => ?_) (Ev.step (fun k => ?_) hev), hlen, hin, hc.more (by omega)⟩
    ·rw [spec_l01Cur_textOf.l0, ip (by omega), ip g, eb, bs]
    ·rw [spec_l01Cur_textOf.j1, ip rfl, e2, bs, e3, bs]
     dsimp only
     rw [hm, ip (by omega), ip (by omega), ip (by omega), bs, Int.toNat_natCast, Int.toNat_natCast, ip (by omega), e1]
  ·obtain ⟨l, t', u', hev, r⟩ := plain h (by omega)
   refine ⟨l, t', u', Ev.step (fun k => ?_) hev, r⟩
   rw [spec_l01Cur_textOf.l0, ip (by omega), iq g]
theorem textOf_ev {code : List Int} {B t u : Int} (h : Cur code B t u) (hB : B ≤ 500000000) : ∃ l t' u', Ev (fun k => spec_l01Cur_textOf.f k code t u 24) (l, t', u') ∧ l.length ≤ 24 ∧ bytesOk l ∧ Cur code (B + 100) t' u' := by
 obtain ⟨v, t1, u1, e1, a1, b1, _, c1⟩ := pick_ev h (by omega) 5 (by omega)
 have b1 := b1 (by omega)
 obtain ⟨n, t2, u2, e2, a2, b2, c2⟩ := size_ev c1 (by omega) 24 (by omega) (by omega)
 obtain ⟨n, rfl⟩ := Int.eq_ofNat_of_zero_le a2
 obtain ⟨S, hS, hS1, hS2⟩ : ∃ S : ByteArray, rdOf ByteArray.empty [(⟨#[97]⟩ : ByteArray), (⟨#[97, 98]⟩ : ByteArray), (⟨#[97, 98, 99]⟩ : ByteArray), (⟨#[97, 99, 103, 116]⟩ : ByteArray), (⟨#[0, 255]⟩ : ByteArray)] v = S ∧ 1 ≤ S.size ∧ S.size ≤ 100 := by
  rcases (show v = 0 ∨ v = 1 ∨ v = 2 ∨ v = 3 ∨ v = 4 by omega) with rfl | rfl | rfl | rfl | rfl
  ·exact ⟨_, rfl, by decide, by decide⟩
  ·exact ⟨_, rfl, by decide, by decide⟩
  ·exact ⟨_, rfl, by decide, by decide⟩
  ·exact ⟨_, rfl, by decide, by decide⟩
  ·exact ⟨_, rfl, by decide, by decide⟩
 obtain ⟨l, t', u', hev, hlen, hin, hc⟩ := textOf_l0 S hS1 hS2 n [] c2 (by omega) (by simp; omega) (fun x hx => by simp at hx)
 refine ⟨l, t', u', Ev.congr (fun k => ?_) hev, hlen, hin, hc.more (by omega)⟩
 unfold spec_l01Cur_textOf.f
 rw [bs, e1, bs, ip a1, ip (by simp; omega), e2, bs]
 dsimp only
 rw [hS]
theorem bytesOk_str (s : ByteArray) : bytesOk (bytesOf s) := fun x hx => by
 obtain ⟨b, _, rfl⟩ := List.mem_map.1 hx
 have := b.toNat_lt
 omega
theorem twin_j1 {code : List Int} {B t u : Int} (h : Cur code B t u) (r x : List Int) (hr : r.length ≤ 24) (br : bytesOk r) (bx : bytesOk x) :
  ∃ y t' u', Ev (fun k => spec_l01Cur_twin.j1 k 24 r x code t u) (r, y, t', u') ∧ y.length ≤ 24 ∧ bytesOk y ∧ Cur code B t' u' := by
 by_cases c : (x.length : Int) > 24
 ·refine ⟨x.take 24, t, u, Ev.step (f := fun _ => some (r, x.take 24, t, u)) (fun k => ?_) (Ev.now _), by rw [List.length_take]; omega, bytesOk_take bx _, h⟩
  rw [spec_l01Cur_twin.j1, ip c, ip (by omega), ip (by omega)]
  rfl
 ·refine ⟨x, t, u, Ev.step (f := fun _ => some (r, x, t, u)) (fun k => ?_) (Ev.now _), by omega, bx, h⟩
  rw [spec_l01Cur_twin.j1, iq c]
theorem twin_l0 (r : List Int) (hr : r.length ≤ 24) (br : bytesOk r) (c : Nat) : ∀ {code : List Int} {B t u : Int} (x : List Int), Cur code B t u → B + 3 * (c : Int) ≤ 400000000 → x.length + 2 * c ≤ 1000 → bytesOk x →
  ∃ y t' u', Ev (fun k => spec_l01Cur_twin.l0 k 24 x (c : Int) r code t u) (r, y, t', u') ∧ y.length ≤ 24 ∧ bytesOk y ∧ Cur code (B + 3 * (c : Int) + 200) t' u' := by
 induction c with
 | zero =>
  intro code B t u x h hB hx bx
  obtain ⟨b, t1, u1, eb, h1⟩ := once_ev h (by omega) 6 (by omega)
  cases b with
  | false =>
   obtain ⟨y, t', u', hev, hy, by_, hc⟩ := twin_j1 h1 r x hr br bx
   refine ⟨y, t', u', Ev.step (fun k => ?_) hev, hy, by_, hc.more (by omega)⟩
   rw [spec_l01Cur_twin.l0, iq (by omega), eb, bs, iq (by simp)]
  | true =>
   obtain ⟨z, t2, u2, hev2, hz, bz, h2⟩ := textOf_ev h1 (by omega)
   obtain ⟨y, t', u', hev, hy, by_, hc⟩ := twin_j1 h2 r z hr br bz
   obtain ⟨K, hK⟩ := ev_out hev2
   obtain ⟨K2, hK2⟩ := ev_out hev
   refine ⟨y, t', u', ev_mk (K + K2 + 1) fun k hk => ?_, hy, by_, hc.more (by omega)⟩
   obtain ⟨k, rfl⟩ : ∃ m, k = m + 1 := ⟨k - 1, by omega⟩
   rw [spec_l01Cur_twin.l0, iq (by omega), eb, bs, ip rfl, hK k (by omega), bs]
   exact hK2 k (by omega)
 | succ c ih =>
  intro code B t u x h hB hx bx
  obtain ⟨v1, t1, u1, e1, a1, b1, _, c1⟩ := pick_ev h (by omega) ((x.length : Int) + 1) (by omega)
  have b1 := b1 (by omega)
  obtain ⟨v2, t2, u2, e2, a2, b2, _, c2⟩ := pick_ev c1 (by omega) 4 (by omega)
  have b2 := b2 (by omega)
  obtain ⟨v3, t3, u3, e3, a3, b3, _, c3⟩ := pick_ev c2 (by omega) 3 (by omega)
  have b3 := b3 (by omega)
  obtain ⟨S, hS, hS1⟩ : ∃ S : ByteArray, rdOf ByteArray.empty [(⟨#[]⟩ : ByteArray), (⟨#[97]⟩ : ByteArray), (⟨#[98]⟩ : ByteArray), (⟨#[122, 122]⟩ : ByteArray)] v2 = S ∧ S.size ≤ 2 := by
   rcases (show v2 = 0 ∨ v2 = 1 ∨ v2 = 2 ∨ v2 = 3 by omega) with rfl | rfl | rfl | rfl
   ·exact ⟨_, rfl, by decide⟩
   ·exact ⟨_, rfl, by decide⟩
   ·exact ⟨_, rfl, by decide⟩
   ·exact ⟨_, rfl, by decide⟩
  obtain ⟨i, rfl⟩ := Int.eq_ofNat_of_zero_le a1
  obtain ⟨q, rfl⟩ := Int.eq_ofNat_of_zero_le a3
  obtain ⟨m, hm, hm1, hm2⟩ : ∃ m : Nat, mn (x.length : Int) (wrap64 ((i : Int) + (q : Int))) = (m : Int) ∧ i ≤ m ∧ m ≤ x.length := by
   rw [w64 (by omega) (by omega)]
   unfold mn
   split
   ·exact ⟨i + q, by omega, by omega, by omega⟩
   ·exact ⟨x.length, rfl, by omega, by omega⟩
  have hl : (x.take i ++ bytesOf S ++ x.drop m).length ≤ x.length + 2 := by
   rw [List.length_append, List.length_append, bytesOf_length, List.length_take, List.length_drop]
   omega
  obtain ⟨y, t', u', hev, hy, by_, hc⟩ := ih (x.take i ++ bytesOf S ++ x.drop m) c3 (by omega) (by omega) (bytesOk_app (bytesOk_app (bytesOk_take bx i) (bytesOk_str S)) (bytesOk_drop bx m))
  have l1 : (x.take i).length ≤ 1000 := by rw [List.length_take]; omega
  refine ⟨y, t', u', Ev.step (fun k => ?_) hev, hy, by_, hc.more (by omega)⟩
  rw [spec_l01Cur_twin.l0, ip (by omega), w64 (x := (x.length : Int) + 1) (by omega) (by omega), e1, bs, bs, e2, bs]
  dsimp only
  rw [ip a2, ip (by simp; omega), bs, ip a1, ip (by omega), bs, Int.toNat_natCast, ip (by simp only [List.length_nil]; omega), bs, hS, List.nil_append, ip (by omega), bs, e3, bs]
  dsimp only
  rw [hm, ip (by omega), ip (by omega), Int.toNat_natCast, bs, ip (by rw [List.length_append, List.length_append, bytesOf_length, List.length_take, List.length_drop] at hl; rw [List.length_append, bytesOf_length, List.length_take, List.length_drop]; omega), show wrap64 (((c + 1 : Nat) : Int) - 1) = (c : Int) from by rw [w64 (by omega) (by omega)]; omega]
theorem twin_ev {code : List Int} {B t u : Int} (h : Cur code B t u) (hB : B ≤ 300000000) : ∃ r x t' u', Ev (fun k => spec_l01Cur_twin.f k code t u 24) (r, x, t', u') ∧ r.length ≤ 24 ∧ x.length ≤ 24 ∧ bytesOk r ∧ bytesOk x ∧ Cur code (B + 1000) t' u' := by
 obtain ⟨r, t1, u1, hev1, hr, br, c1⟩ := textOf_ev h (by omega)
 obtain ⟨v, t2, u2, e2, a2, b2, _, c2⟩ := pick_ev c1 (by omega) 4 (by omega)
 have b2 := b2 (by omega)
 obtain ⟨c, rfl⟩ := Int.eq_ofNat_of_zero_le a2
 obtain ⟨y, t', u', hev, hy, by_, hc⟩ := twin_l0 r hr br c r c2 (by omega) (by omega) br
 obtain ⟨K, hK⟩ := ev_out hev1
 obtain ⟨K2, hK2⟩ := ev_out hev
 refine ⟨r, y, t', u', ev_mk (K + K2) fun k hk => ?_, hr, hy, br, by_, hc.more (by omega)⟩
 unfold spec_l01Cur_twin.f
 rw [hK k (by omega), bs, bs]
 dsimp only
 rw [ip (by simp only [List.length_nil]; omega), e2, bs, List.nil_append]
 exact hK2 k (by omega)
theorem depth_ev {code : List Int} {B t u : Int} (h : Cur code B t u) (hB : B ≤ 300000000) : ∃ d t' u', spec_l01Cur_depthOf.f code t u = some (d, t', u') ∧ Cur code (B + 10) t' u' := by
 obtain ⟨v, t1, u1, e1, _, _, c1⟩ := raw_ev h (by omega)
 obtain ⟨v2, t2, u2, e2, a2, b2, _, c2⟩ := pick_ev c1 (by omega) 6 (by omega)
 have b2 := b2 (by omega)
 refine ⟨rd [0, 1, 2, 3, 8, v] v2, t2, u2, ?_, c2.more (by omega)⟩
 unfold spec_l01Cur_depthOf.f
 rw [e1, bs, bs]
 dsimp only
 rw [e2, bs]
 dsimp only
 rw [ip a2, ip (by simp; omega)]
theorem rdL (T : List (List Int)) (i : Nat) : rd_L4 T (i : Int) = T.getD i [] := by unfold rd_L4; rw [Int.toNat_natCast]
theorem mx_eq (x y : Nat) : mx (x : Int) (y : Int) = ((max x y : Nat) : Int) := by unfold mx; split <;> omega
theorem L_le301 {a b : List Int} (ha : a.length ≤ 301) (i j : Nat) : Lcs.L a b i j ≤ 301 := Nat.le_trans (Lcs.L_le a b i j) ha
theorem specTable_l1 (a b : List Int) (ha : a.length ≤ 301) (hb : b.length ≤ 301) (i : Nat) (hi : i ≤ a.length)
  (next : ∀ T, Lcs.Rows a b i T → ∃ R, Ev (fun k => spec_l12Table.l0 k a b ((i : Int) - 1) T) R ∧ Lcs.Rows a b 0 R) (j : Nat) :
  ∀ T, j ≤ b.length + 1 → Lcs.Part a b i j T → ∃ R, Ev (fun k => spec_l12Table.l1 k a b (i : Int) ((j : Int) - 1) T) R ∧ Lcs.Rows a b 0 R := by
 induction j with
 | zero =>
  intro T _ hT
  obtain ⟨R, hR, h0⟩ := next T (Lcs.part_rows hT)
  refine ⟨R, Ev.step (f := fun k => spec_l12Table.l0 k a b ((i : Int) - 1) T) (fun k => ?_) hR, h0⟩
  rw [spec_l12Table.l1]
  rw [iq (by omega), w64 (by omega) (by omega)]
 | succ j ih =>
  intro T hj hT
  have e1 : ((j + 1 : Nat) : Int) - 1 = (j : Int) := by omega
  rw [e1]
  by_cases hin : i < a.length ∧ j < b.length
  ·obtain ⟨hi2, hj2⟩ := hin
   obtain ⟨t1, t2, t3, t4, t5⟩ := id hT
   have r1 := t2 (i + 1) (by omega) (by omega)
   have lL := L_le301 (b := b) ha (i + 1) (j + 1)
   have e2 : ((i : Int) + 1) = ((i + 1 : Nat) : Int) := by omega
   have e3 : ((j : Int) + 1) = ((j + 1 : Nat) : Int) := by omega
   have c1 : ((T.getD (i + 1) []).getD j 0) = (Lcs.L a b (i + 1) j : Int) := r1.2 j (by omega)
   have c2 : ((T.getD i []).getD (j + 1) 0) = (Lcs.L a b i (j + 1) : Int) := t4 (j + 1) (by omega) (by omega)
   have c3 : ((T.getD (i + 1) []).getD (j + 1) 0) = (Lcs.L a b (i + 1) (j + 1) : Int) := r1.2 (j + 1) (by omega)
   obtain ⟨R, hR, h0⟩ := ih (Lcs.put T i j (Lcs.L a b i j : Int)) (by omega) (Lcs.part_put hT (by omega) (by omega) rfl)
   refine ⟨R, Ev.step (f := fun k => spec_l12Table.j2 k a b T (i : Int) (j : Int) true) (fun k => ?_) (Ev.step (f := fun k => spec_l12Table.l1 k a b (i : Int) ((j : Int) - 1) (Lcs.put T i j (Lcs.L a b i j : Int))) (fun k => ?_) hR), h0⟩
   ·rw [spec_l12Table.l1]
    rw [ip (by omega), ip (by omega), decide_eq_true (by omega)]
   ·have hL := Lcs.L_max a b i j hi2 hj2
    rw [spec_l12Table.j2]
    rw [ip rfl, ip (by omega), ip (by omega), w64 (x := (i : Int) + 1) (by omega) (by omega), w64 (x := (j : Int) + 1) (by omega) (by omega), w64 (x := (j : Int) - 1) (by omega) (by omega), e2, e3, rdL, rdL, ip (by omega), ip (by omega), ip (by omega), ip (by rw [r1.1]; omega), ip (by omega), ip (by rw [t3]; omega), ip (by rw [t3]; omega)]
    rw [bs, ip (by omega), ip (by omega), rd_nat, rd_nat, rd_nat, rd_nat, c1, c2, mx_eq, Int.toNat_natCast, Int.toNat_natCast]
    have hp : ∀ v, T.set i ((T.getD i []).set j v) = Lcs.put T i j v := fun v => rfl
    rw [hp]
    by_cases he : a.getD i 0 = b.getD j 0
    ·rw [ip he] at hL
     rw [ip he, rdL, rdL, Lcs.put_row _ _ _ _ (by omega), Lcs.put_other _ _ _ _ _ (by omega), ip (by rw [List.length_set, t3]; omega), ip (by rw [r1.1]; omega), rd_nat, rd_nat, c3, lset_self _ _ _ _ (by omega), w64 (by omega) (by omega)]
     have e4 : (1 : Int) + (Lcs.L a b (i + 1) (j + 1) : Int) = ((1 + Lcs.L a b (i + 1) (j + 1) : Nat) : Int) := by omega
     rw [e4, mx_eq, ← hL, ← Lcs.put_row T i j _ (by omega)]
     have hq : ∀ (U : List (List Int)) (v : Int), U.set i ((U.getD i []).set j v) = Lcs.put U i j v := fun _ _ => rfl
     rw [hq, Lcs.put_put _ _ _ _ _ (by omega)]
    ·rw [iq he] at hL
     rw [iq he, hL, Nat.max_zero]
  ·have hz : Lcs.L a b i j = 0 := by
    by_cases h1 : i < a.length
    ·exact Lcs.L_end' a b i j (by omega)
    ·exact Lcs.L_end a b i j (by omega)
   obtain ⟨R, hR, h0⟩ := ih T (by omega) (Lcs.part_skip hT hz)
   refine ⟨R, Ev.step (f := fun k => spec_l12Table.j2 k a b T (i : Int) (j : Int) false) (fun k => ?_) (Ev.step (f := fun k => spec_l12Table.l1 k a b (i : Int) ((j : Int) - 1) T) (fun k => ?_) hR), h0⟩
   ·rw [spec_l12Table.l1]
    rw [ip (by omega)]
    by_cases h1 : i < a.length
    ·rw [ip (by omega), decide_eq_false (by omega)]
    ·rw [iq (by omega)]
   ·rw [spec_l12Table.j2]
    rw [iq (by decide), w64 (by omega) (by omega)]
theorem specTable_l0 (a b : List Int) (ha : a.length ≤ 301) (hb : b.length ≤ 301) (i : Nat) :
  ∀ T, i ≤ a.length + 1 → Lcs.Rows a b i T → ∃ R, Ev (fun k => spec_l12Table.l0 k a b ((i : Int) - 1) T) R ∧ Lcs.Rows a b 0 R := by
 induction i with
 | zero =>
  intro T _ hT
  refine ⟨T, Ev.step (f := fun _ => some T) (fun k => ?_) (Ev.now T), hT⟩
  rw [spec_l12Table.l0]
  rw [iq (by omega)]
 | succ i ih =>
  intro T hi hT
  have e1 : ((i + 1 : Nat) : Int) - 1 = (i : Int) := by omega
  have e2 : ((b.length : Int) + 1) = ((b.length + 1 : Nat) : Int) := by omega
  have e3 : (b.length : Int) = ((b.length + 1 : Nat) : Int) - 1 := by omega
  rw [e1]
  obtain ⟨R, hR, h0⟩ := specTable_l1 a b ha hb i (by omega) (fun T' hT' => ih T' (by omega) hT') (b.length + 1) _ (Nat.le_refl _) (Lcs.rows_part hT (by omega))
  refine ⟨R, Ev.step (f := fun k => spec_l12Table.l1 k a b (i : Int) (((b.length + 1 : Nat) : Int) - 1) (T.set i (List.replicate (b.length + 1) 0))) (fun k => ?_) hR, h0⟩
  rw [spec_l12Table.l0]
  rw [ip (by omega), w64 (by omega) (by omega), ip (by omega), e2, Int.toNat_natCast, ip (by omega), ip (by omega), ip (by have := hT.1; omega), Int.toNat_natCast, e3]
theorem specTable_ev (a b : List Int) (ha : a.length ≤ 301) (hb : b.length ≤ 301) : ∃ R, Ev (fun k => spec_l12Table.f k a b) R ∧ Lcs.Rows a b 0 R := by
 obtain ⟨R, hR, h0⟩ := specTable_l0 a b ha hb (a.length + 1) _ (Nat.le_refl _) (Lcs.rows_none a b)
 have e2 : ((a.length : Int) + 1) = ((a.length + 1 : Nat) : Int) := by omega
 have e3 : (a.length : Int) = ((a.length + 1 : Nat) : Int) - 1 := by omega
 refine ⟨R, Ev.congr (f := fun k => spec_l12Table.l0 k a b (((a.length + 1 : Nat) : Int) - 1) (List.replicate (a.length + 1) [])) (fun k => ?_) hR, h0⟩
 unfold spec_l12Table.f
 rw [w64 (by omega) (by omega), ip (by omega), e2, Int.toNat_natCast, ip (by omega), ← e3]
theorem implTable_l1 (a b : List Int) (ha : a.length ≤ 301) (hb : b.length ≤ 301) (i : Nat) (hi : i < a.length)
  (next : ∀ T, Lcs.Rows a b i T → ∃ R, Ev (fun k => impl_commonTable.l0 k a b ((i : Int) - 1) T) R ∧ Lcs.Rows a b 0 R) (j : Nat) :
  ∀ T, j ≤ b.length → Lcs.Part a b i j T → ∃ R, Ev (fun k => impl_commonTable.l1 k a b (i : Int) ((j : Int) - 1) T) R ∧ Lcs.Rows a b 0 R := by
 induction j with
 | zero =>
  intro T _ hT
  obtain ⟨R, hR, h0⟩ := next T (Lcs.part_rows hT)
  refine ⟨R, Ev.step (f := fun k => impl_commonTable.l0 k a b ((i : Int) - 1) T) (fun k => ?_) hR, h0⟩
  rw [impl_commonTable.l1]
  rw [iq (by omega), w64 (by omega) (by omega)]
 | succ j ih =>
  intro T hj hT
  have e1 : ((j + 1 : Nat) : Int) - 1 = (j : Int) := by omega
  rw [e1]
  obtain ⟨t1, t2, t3, t4, t5⟩ := id hT
  have r1 := t2 (i + 1) (by omega) (by omega)
  have lL := L_le301 (b := b) ha (i + 1) (j + 1)
  have e2 : ((i : Int) + 1) = ((i + 1 : Nat) : Int) := by omega
  have e3 : ((j : Int) + 1) = ((j + 1 : Nat) : Int) := by omega
  have c1 : ((T.getD (i + 1) []).getD j 0) = (Lcs.L a b (i + 1) j : Int) := r1.2 j (by omega)
  have c2 : ((T.getD i []).getD (j + 1) 0) = (Lcs.L a b i (j + 1) : Int) := t4 (j + 1) (by omega) (by omega)
  have c3 : ((T.getD (i + 1) []).getD (j + 1) 0) = (Lcs.L a b (i + 1) (j + 1) : Int) := r1.2 (j + 1) (by omega)
  have hL := Lcs.L_eq a b i j hi (by omega)
  obtain ⟨R, hR, h0⟩ := ih (Lcs.put T i j (Lcs.L a b i j : Int)) (by omega) (Lcs.part_put hT (by omega) (by omega) rfl)
  refine ⟨R, Ev.step (f := fun k => impl_commonTable.l1 k a b (i : Int) ((j : Int) - 1) (Lcs.put T i j (Lcs.L a b i j : Int))) (fun k => ?_) hR, h0⟩
  have hp : ∀ v, T.set i ((T.getD i []).set j v) = Lcs.put T i j v := fun v => rfl
  rw [impl_commonTable.l1]
  rw [ip (by omega), ip (by omega), ip (by omega), ip (by omega), ip (by omega), w64 (x := (i : Int) + 1) (by omega) (by omega), w64 (x := (j : Int) + 1) (by omega) (by omega), w64 (x := (j : Int) - 1) (by omega) (by omega), e2, e3]
  simp only [rdL, rd_nat, c1, c2, c3, mx_eq, Int.toNat_natCast, hp]
  by_cases he : a.getD i 0 = b.getD j 0
  ·rw [ip he] at hL
   rw [ip he, ip (by omega), ip (by omega), ip (by omega), ip (by omega), ip (by rw [r1.1]; omega), ip (by rw [t3]; omega), w64 (by omega) (by omega), hL]
   rfl
  ·rw [iq he] at hL
   rw [iq he, ip (by omega), ip (by omega), ip (by omega), ip (by rw [r1.1]; omega), ip (by omega), ip (by rw [t3]; omega), ip (by rw [t3]; omega), hL]
theorem implTable_l0 (a b : List Int) (ha : a.length ≤ 301) (hb : b.length ≤ 301) (i : Nat) :
  ∀ T, i ≤ a.length → Lcs.Rows a b i T → ∃ R, Ev (fun k => impl_commonTable.l0 k a b ((i : Int) - 1) T) R ∧ Lcs.Rows a b 0 R := by
 induction i with
 | zero =>
  intro T _ hT
  refine ⟨T, Ev.step (f := fun _ => some T) (fun k => ?_) (Ev.now T), hT⟩
  rw [impl_commonTable.l0]
  rw [iq (by omega)]
 | succ i ih =>
  intro T hi hT
  have e1 : ((i + 1 : Nat) : Int) - 1 = (i : Int) := by omega
  have e2 : ((b.length : Int) + 1) = ((b.length + 1 : Nat) : Int) := by omega
  rw [e1]
  obtain ⟨R, hR, h0⟩ := implTable_l1 a b ha hb i (by omega) (fun T' hT' => ih T' (by omega) hT') b.length _ (Nat.le_refl _) (Lcs.part_skip (Lcs.rows_part hT (by omega)) (Lcs.L_end' a b i _ (Nat.le_refl _)))
  refine ⟨R, Ev.step (f := fun k => impl_commonTable.l1 k a b (i : Int) ((b.length : Int) - 1) (T.set i (List.replicate (b.length + 1) 0))) (fun k => ?_) hR, h0⟩
  rw [impl_commonTable.l0]
  rw [ip (by omega), w64 (x := (b.length : Int) + 1) (by omega) (by omega), ip (by omega), e2, Int.toNat_natCast, ip (by omega), ip (by omega), ip (by have := hT.1; omega), Int.toNat_natCast, w64 (by omega) (by omega)]
theorem implTable_ev (a b : List Int) (ha : a.length ≤ 301) (hb : b.length ≤ 301) : ∃ R, Ev (fun k => impl_commonTable.f k a b) R ∧ Lcs.Rows a b 0 R := by
 have h1 := Lcs.rows_part (Lcs.rows_none a b) (Nat.le_refl _)
 obtain ⟨R, hR, h0⟩ := implTable_l0 a b ha hb a.length _ (Nat.le_refl _) (Lcs.part_rows (Lcs.part_zero (fun c => Lcs.L_end a b _ c (Nat.le_refl _)) _ h1))
 have e2 : ((a.length : Int) + 1) = ((a.length + 1 : Nat) : Int) := by omega
 have e3 : ((b.length : Int) + 1) = ((b.length + 1 : Nat) : Int) := by omega
 refine ⟨R, Ev.congr (f := fun k => impl_commonTable.l0 k a b ((a.length : Int) - 1) ((List.replicate (a.length + 1) []).set a.length (List.replicate (b.length + 1) 0))) (fun k => ?_) hR, h0⟩
 unfold impl_commonTable.f
 rw [w64 (x := (a.length : Int) + 1) (by omega) (by omega), w64 (x := (b.length : Int) + 1) (by omega) (by omega), ip (by omega), e2, e3, Int.toNat_natCast, Int.toNat_natCast, Int.toNat_natCast, ip (by omega), bs, ip (by omega), ip (by omega), ip (by omega), ip (by rw [List.length_replicate]; omega), w64 (by omega) (by omega)]
theorem rows_00 {a b : List Int} {R : List (List Int)} (h : Lcs.Rows a b 0 R) : 0 < (R.length : Int) ∧ 0 < ((rd_L4 R 0).length : Int) ∧ rd (rd_L4 R 0) 0 = (Lcs.lcs a b : Int) := by
 have h0 := h.2 0 (by omega) (by omega)
 have e0 : rd_L4 R 0 = R.getD 0 [] := rdL R 0
 have e1 : rd (R.getD 0 []) 0 = (R.getD 0 []).getD 0 0 := rd_nat _ 0
 rw [e0, e1]
 exact ⟨by have := h.1; omega, by have := h0.1; omega, h0.2 0 (by omega)⟩
def lenOf (a b : List Int) : Int := if a.length ≤ 301 ∧ b.length ≤ 301 then (Lcs.lcs a b : Int) else -1
theorem specCommonLen_ev (a b : List Int) : Ev (fun k => spec_CommonLen.f k a b) (lenOf a b) := by
 by_cases ha : a.length ≤ 301
 ·by_cases hb : b.length ≤ 301
  ·obtain ⟨R, hR, h0⟩ := specTable_ev a b ha hb
   obtain ⟨K, hR⟩ := ev_out hR
   obtain ⟨g1, g2, g3⟩ := rows_00 h0
   refine ev_mk K fun k hk => ?_
   unfold spec_CommonLen.f spec_l12Right.f lenOf
   rw [bs, ip (decide_eq_true (by omega)), bs, ip (decide_eq_true (by omega)), hR k hk, bs, ip g1, ip g2, g3, ip ⟨ha, hb⟩]
  ·refine ev_mk 0 fun k _ => ?_
   unfold spec_CommonLen.f spec_l12Right.f lenOf
   rw [bs, ip (decide_eq_true (by omega)), bs, iq (fun h => hb (by have := of_decide_eq_true h; omega)), iq (fun h => hb h.2)]
 ·refine ev_mk 0 fun k _ => ?_
  unfold spec_CommonLen.f spec_l12Right.f lenOf
  rw [bs, iq (fun h => ha (by have := of_decide_eq_true h; omega)), iq (fun h => ha h.1)]
theorem areListed_eq (a b : List Int) : impl_areListed.f a b = some (decide (a.length ≤ 301 ∧ b.length ≤ 301)) := by
 unfold impl_areListed.f
 by_cases ha : a.length ≤ 301
 ·rw [ip (by omega)]
  congr 1
  by_cases hb : b.length ≤ 301
  ·rw [decide_eq_true (by omega), decide_eq_true ⟨ha, hb⟩]
  ·rw [decide_eq_false (by omega), decide_eq_false (fun h => hb h.2)]
 ·rw [iq (by omega), decide_eq_false (fun h => ha h.1)]
theorem rdT56 (l : List S56) (i : Nat) : rd_T56 l (i : Int) = l.getD i z56 := by unfold rd_T56; rw [Int.toNat_natCast]
def toS (p : Nat × Nat) : S56 := ⟨(p.1 : Int), (p.2 : Int)⟩
theorem index_l0 (b : List Int) (v : Int) (j : Nat) (hj : j ≤ b.length) (hb : b.length ≤ 301) (c : Nat) : ∀ i : Nat, j + i + c = b.length →
  Ev (fun k => slices_Index_int_int.l0 k (b.drop j) v ((b.drop j).length : Int) (i : Int)) (match Lcs.nextAt b v c (j + i) with | none => -1 | some j0 => (j0 : Int) - (j : Int)) := by
 have hlen : (b.drop j).length = b.length - j := List.length_drop
 induction c with
 | zero =>
  intro i h
  refine Ev.step (f := fun _ => some (-1)) (fun k => ?_) (Ev.now _)
  rw [slices_Index_int_int.l0, iq (by omega)]
 | succ c ih =>
  intro i h
  have hr : rd (b.drop j) (i : Int) = b.getD (j + i) 0 := by
   rw [rd_nat, List.getD_eq_getElem?_getD, List.getElem?_drop, ← List.getD_eq_getElem?_getD]
  unfold Lcs.nextAt
  by_cases e : v = b.getD (j + i) 0
  ·rw [ip e]
   refine Ev.step (f := fun _ => some ((i : Nat) : Int)) (fun k => ?_) ?_
   ·rw [slices_Index_int_int.l0, ip (by omega), ip (by omega), ip (by omega), hr, ip e]
   ·have q : ((j + i : Nat) : Int) - (j : Int) = (i : Int) := by omega
    show Ev _ (((j + i : Nat) : Int) - (j : Int))
    rw [q]
    exact Ev.now _
  ·rw [iq e]
   refine Ev.step (f := fun k => slices_Index_int_int.l0 k (b.drop j) v ((b.drop j).length : Int) ((i + 1 : Nat) : Int)) (fun k => ?_) (ih (i + 1) (by omega))
   rw [slices_Index_int_int.l0, ip (by omega), ip (by omega), ip (by omega), hr, iq e, w64 (by omega) (by omega)]
   rfl
theorem index_ev (b : List Int) (v : Int) (j : Nat) (hj : j ≤ b.length) (hb : b.length ≤ 301) :
  Ev (fun k => slices_Index_int_int.f k (b.drop j) v) (match Lcs.nextAt b v (b.length - j) j with | none => -1 | some j0 => (j0 : Int) - (j : Int)) :=
 Ev.congr (f := fun k => slices_Index_int_int.l0 k (b.drop j) v ((b.drop j).length : Int) ((0 : Nat) : Int)) (fun _ => rfl) (index_l0 b v j hj hb (b.length - j) 0 (by omega))
/-- What the table holds at a place. -/
theorem at_table {a b : List Int} {T : List (List Int)} (hT : Lcs.Rows a b 0 T) (i j : Nat) (hi : i ≤ a.length) (hj : j ≤ b.length) :
  ((i : Int) < (T.length : Int)) ∧ ((j : Int) < ((rd_L4 T (i : Int)).length : Int)) ∧ rd (rd_L4 T (i : Int)) (j : Int) = (Lcs.L a b i j : Int) := by
 have h := hT.2 i (by omega) hi
 rw [rdL, rd_nat]
 exact ⟨by have := hT.1; omega, by have := h.1; omega, h.2 j hj⟩
theorem implCommonOf_l0 (a b : List Int) (ha : a.length ≤ 301) (hb : b.length ≤ 301) (T : List (List Int)) (hT : Lcs.Rows a b 0 T) (d : Nat) : ∀ (i j : Nat) (acc : List S56), i + d = a.length → j ≤ b.length → acc.length ≤ i →
  Ev (fun k => impl_commonOf.l0 k a b acc (i : Int) (j : Int) T) (acc ++ (Lcs.firstC a b d i j).map toS) := by
 induction d with
 | zero =>
  intro i j acc h hj hacc
  obtain ⟨t1, t2, t3⟩ := at_table hT i j (by omega) hj
  refine Ev.step (f := fun _ => some (acc ++ [])) (fun k => ?_) (Ev.now _)
  rw [impl_commonOf.l0, ip (by omega), ip t1, ip (by omega), ip t2, t3, Lcs.L_end a b i j (by omega), iq (by decide), List.append_nil]
 | succ d ih =>
  intro i j acc h hj hacc
  obtain ⟨t1, t2, t3⟩ := at_table hT i j (by omega) hj
  by_cases h0 : Lcs.L a b i j = 0
  ·refine Ev.step (f := fun _ => some (acc ++ (Lcs.firstC a b (d + 1) i j).map toS)) (fun k => ?_) (Ev.now _)
   rw [impl_commonOf.l0, ip (by omega), ip t1, ip (by omega), ip t2, t3, h0, iq (by decide), Lcs.firstC_none h0, List.map_nil, List.append_nil]
  ·have hx := index_ev b (a.getD i 0) j hj hb
   cases hn : Lcs.nextAt b (a.getD i 0) (b.length - j) j with
   | none =>
    rw [hn] at hx
    rw [Lcs.firstC_miss h0 hn]
    obtain ⟨K, hK⟩ := ev_out hx
    obtain ⟨K2, hK2⟩ := ev_out (ih (i + 1) j acc (by omega) hj (by omega))
    refine ev_mk (K + K2 + 1) fun k hk => ?_
    obtain ⟨k, rfl⟩ : ∃ m, k = m + 1 := ⟨k - 1, by omega⟩
    rw [impl_commonOf.l0, ip (by omega), ip t1, ip (by omega), ip t2, t3, ip (by omega), ip (by omega), ip (by omega), Int.toNat_natCast, rd_nat, hK k (by omega), bs, iq (by show ¬ (-1 : Int) ≥ 0; decide), w64 (x := (i : Int) + 1) (by omega) (by omega)]
    exact hK2 k (by omega)
   | some j0 =>
    rw [hn] at hx
    obtain ⟨q1, q2, q3, _⟩ := Lcs.nextAt_some b _ _ _ _ hn
    obtain ⟨K, hK⟩ := ev_out hx
    obtain ⟨s1, s2, s3⟩ := at_table hT (i + 1) (j0 + 1) (by omega) (by omega)
    have lL := L_le301 (b := b) ha (i + 1) (j0 + 1)
    have e1 : (match some j0 with | none => (-1 : Int) | some j0 => (j0 : Int) - (j : Int)) = (j0 : Int) - (j : Int) := rfl
    have e2 : (j : Int) + ((j0 : Int) - (j : Int)) = (j0 : Int) := by omega
    have e3 : (i : Int) + 1 = ((i + 1 : Nat) : Int) := by omega
    have e4 : (j0 : Int) + 1 = ((j0 + 1 : Nat) : Int) := by omega
    have e5 : (j : Int) + ((j0 : Int) - (j : Int) + 1) = ((j0 + 1 : Nat) : Int) := by omega
    by_cases e : 1 + Lcs.L a b (i + 1) (j0 + 1) = Lcs.L a b i j
    ·obtain ⟨K2, hK2⟩ := ev_out (ih (i + 1) (j0 + 1) (acc ++ [toS (i, j0)]) (by omega) (by omega) (by simp; omega))
     refine ev_mk (K + K2 + 1) fun k hk => ?_
     obtain ⟨k, rfl⟩ : ∃ m, k = m + 1 := ⟨k - 1, by omega⟩
     rw [impl_commonOf.l0, ip (by omega), ip t1, ip (by omega), ip t2, t3, ip (by omega), ip (by omega), ip (by omega), Int.toNat_natCast, rd_nat, hK k (by omega), bs, e1, ip (by omega), w64 (x := (j : Int) + ((j0 : Int) - (j : Int))) (by omega) (by omega), e2, w64 (x := (i : Int) + 1) (by omega) (by omega), w64 (x := (j0 : Int) + 1) (by omega) (by omega), w64 (x := (j0 : Int) - (j : Int) + 1) (by omega) (by omega), w64 (x := (j : Int) + ((j0 : Int) - (j : Int) + 1)) (by omega) (by omega), e5, e3, e4, ip (by omega), ip s1, ip (by omega), ip s2, s3, w64 (by omega) (by omega), ip (by omega), ip (by omega)]
     have hr := hK2 k (by omega)
     rw [Lcs.firstC_hit h0 hn e, List.map_cons]
     rw [List.append_assoc] at hr
     exact hr
    ·obtain ⟨K2, hK2⟩ := ev_out (ih (i + 1) j acc (by omega) hj (by omega))
     refine ev_mk (K + K2 + 1) fun k hk => ?_
     obtain ⟨k, rfl⟩ : ∃ m, k = m + 1 := ⟨k - 1, by omega⟩
     rw [impl_commonOf.l0, ip (by omega), ip t1, ip (by omega), ip t2, t3, ip (by omega), ip (by omega), ip (by omega), Int.toNat_natCast, rd_nat, hK k (by omega), bs, e1, ip (by omega), w64 (x := (j : Int) + ((j0 : Int) - (j : Int))) (by omega) (by omega), e2, w64 (x := (i : Int) + 1) (by omega) (by omega), w64 (x := (j0 : Int) + 1) (by omega) (by omega), e3, e4, ip (by omega), ip s1, ip (by omega), ip s2, s3, w64 (by omega) (by omega), iq (by omega)]
     rw [Lcs.firstC_pass h0 hn e]
     exact hK2 k (by omega)
theorem implcommonOf_ev (a b : List Int) (ha : a.length ≤ 301) (hb : b.length ≤ 301) : Ev (fun k => impl_commonOf.f k a b) ((Lcs.firstC a b a.length 0 0).map toS) := by
 obtain ⟨T, hT, hR⟩ := implTable_ev a b ha hb
 obtain ⟨K, hK⟩ := ev_out hT
 obtain ⟨K2, hK2⟩ := ev_out (implCommonOf_l0 a b ha hb T hR a.length 0 0 [] (by omega) (by omega) (by simp))
 refine ev_mk (K + K2) fun k hk => ?_
 unfold impl_commonOf.f
 rw [hK k (by omega), bs]
 exact hK2 k (by omega)
/-- The reference's search for the smallest place. -/
def pick (a b : List Int) (x t : Nat) (j : Nat) : Nat → Int → Int
 | 0, y => y
 | c + 1, y => pick a b x t j c (if a.getD x 0 = b.getD (j + c) 0 ∧ 1 + Lcs.L a b (x + 1) (j + c + 1) = t then ((j + c : Nat) : Int) else y)
theorem pick_none (a b : List Int) (x t j : Nat) (c : Nat) : ∀ y, (∀ k, j ≤ k → k < j + c → ¬ (a.getD x 0 = b.getD k 0 ∧ 1 + Lcs.L a b (x + 1) (k + 1) = t)) → pick a b x t j c y = y := by
 induction c with
 | zero => intro y _; rfl
 | succ c ih =>
  intro y h
  unfold pick
  rw [iq (h (j + c) (by omega) (by omega)), ih y (fun k h1 h2 => h k h1 (by omega))]
theorem pick_some (a b : List Int) (x t j j0 : Nat) (h0 : j ≤ j0) (hp : a.getD x 0 = b.getD j0 0 ∧ 1 + Lcs.L a b (x + 1) (j0 + 1) = t) (hq : ∀ k, j ≤ k → k < j0 → ¬ (a.getD x 0 = b.getD k 0 ∧ 1 + Lcs.L a b (x + 1) (k + 1) = t)) (c : Nat) : ∀ y, j0 < j + c → pick a b x t j c y = (j0 : Int) := by
 induction c with
 | zero => intro y h; omega
 | succ c ih =>
  intro y h
  unfold pick
  by_cases e : j0 = j + c
  ·rw [← e, ip hp]
   exact pick_none a b x t j c _ (fun k h1 h2 => hq k h1 (by omega))
  ·exact ih _ (by omega)
theorem specCommonOf_l2 (a b : List Int) (ha : a.length ≤ 301) (hb : b.length ≤ 301) (T : List (List Int)) (hT : Lcs.Rows a b 0 T) (acc : List S56) (i j x : Nat) (hi : i ≤ a.length) (hj : j ≤ b.length) (hx : x < a.length) (R : List S56) (c : Nat) :
  ∀ y : Int, j + c ≤ b.length → Ev (fun k => spec_CommonOf.l1 k a b acc (i : Int) (j : Int) ((x + 1 : Nat) : Int) (pick a b x (Lcs.L a b i j) j c y) T) R →
   Ev (fun k => spec_CommonOf.l2 k a b acc (i : Int) (j : Int) (x : Int) y (((j + c : Nat) : Int) - 1) T) R := by
 induction c with
 | zero =>
  intro y hc h
  refine Ev.step (fun k => ?_) h
  rw [spec_CommonOf.l2, iq (by omega), w64 (by omega) (by omega)]
  rfl
 | succ c ih =>
  intro y hc h
  obtain ⟨t1, t2, t3⟩ := at_table hT i j hi hj
  obtain ⟨s1, s2, s3⟩ := at_table hT (x + 1) (j + c + 1) (by omega) (by omega)
  have lL := L_le301 (b := b) ha (x + 1) (j + c + 1)
  have e0 : ((j + (c + 1) : Nat) : Int) - 1 = ((j + c : Nat) : Int) := by omega
  have e3 : (x : Int) + 1 = ((x + 1 : Nat) : Int) := by omega
  have e4 : ((j + c : Nat) : Int) + 1 = ((j + c + 1 : Nat) : Int) := by omega
  rw [e0]
  by_cases e : a.getD x 0 = b.getD (j + c) 0
  ·by_cases e2 : 1 + Lcs.L a b (x + 1) (j + c + 1) = Lcs.L a b i j
   ·unfold pick at h
    rw [ip ⟨e, e2⟩] at h
    refine Ev.step (fun k => ?_) (ih _ (by omega) h)
    rw [spec_CommonOf.l2, ip (by omega), ip (by omega), ip (by omega), ip (by omega), ip (by omega), rd_nat, rd_nat, ip e, w64 (x := (x : Int) + 1) (by omega) (by omega), w64 (x := ((j + c : Nat) : Int) + 1) (by omega) (by omega), e3, e4, ip (by omega), ip s1, ip (by omega), ip s2, ip (by omega), ip t1, ip (by omega), ip t2, s3, t3, w64 (x := 1 + (Lcs.L a b (x + 1) (j + c + 1) : Int)) (by omega) (by omega), ip (by omega), w64 (by omega) (by omega)]
   ·unfold pick at h
    rw [iq (fun q => e2 q.2)] at h
    refine Ev.step (fun k => ?_) (ih _ (by omega) h)
    rw [spec_CommonOf.l2, ip (by omega), ip (by omega), ip (by omega), ip (by omega), ip (by omega), rd_nat, rd_nat, ip e, w64 (x := (x : Int) + 1) (by omega) (by omega), w64 (x := ((j + c : Nat) : Int) + 1) (by omega) (by omega), e3, e4, ip (by omega), ip s1, ip (by omega), ip s2, ip (by omega), ip t1, ip (by omega), ip t2, s3, t3, w64 (x := 1 + (Lcs.L a b (x + 1) (j + c + 1) : Int)) (by omega) (by omega), iq (by omega), w64 (by omega) (by omega)]
  ·unfold pick at h
   rw [iq (fun q => e q.1)] at h
   refine Ev.step (fun k => ?_) (ih _ (by omega) h)
   rw [spec_CommonOf.l2, ip (by omega), ip (by omega), ip (by omega), ip (by omega), ip (by omega), rd_nat, rd_nat, iq e, w64 (by omega) (by omega)]
/-- From element x on, where what is left is as much as at i: what is shown of d elements. -/
def Goes (a b : List Int) (T : List (List Int)) (d : Nat) : Prop := ∀ (i j x : Nat) (acc : List S56), x + d = a.length → i ≤ x → j ≤ b.length → acc.length ≤ i → Lcs.L a b x j = Lcs.L a b i j → Lcs.L a b i j ≠ 0 →
  Ev (fun k => spec_CommonOf.l1 k a b acc (i : Int) (j : Int) (x : Int) (-1) T) (acc ++ (Lcs.firstC a b d x j).map toS)
theorem specCommonOf_go (a b : List Int) (ha : a.length ≤ 301) (hb : b.length ≤ 301) (T : List (List Int)) (hT : Lcs.Rows a b 0 T) (d : Nat) (hq : Goes a b T d) (i j : Nat) (acc : List S56) (h : i + d = a.length) (hj : j ≤ b.length) (hacc : acc.length ≤ i) :
  Ev (fun k => spec_CommonOf.l0 k a b acc (i : Int) (j : Int) T) (acc ++ (Lcs.firstC a b d i j).map toS) := by
 obtain ⟨t1, t2, t3⟩ := at_table hT i j (by omega) hj
 by_cases h0 : Lcs.L a b i j = 0
 ·refine Ev.step (f := fun _ => some (acc ++ (Lcs.firstC a b d i j).map toS)) (fun k => ?_) (Ev.now _)
  rw [spec_CommonOf.l0, ip (by omega), ip t1, ip (by omega), ip t2, t3, h0, iq (by decide), Lcs.firstC_none h0, List.map_nil, List.append_nil]
 ·refine Ev.step (fun k => ?_) (hq i j i acc h (Nat.le_refl _) hj hacc rfl h0)
  rw [spec_CommonOf.l0, ip (by omega), ip t1, ip (by omega), ip t2, t3, ip (by omega)]
/-- From element x on, where what is left is as much as at i. -/
theorem specCommonOf_l1 (a b : List Int) (ha : a.length ≤ 301) (hb : b.length ≤ 301) (T : List (List Int)) (hT : Lcs.Rows a b 0 T) (d : Nat) : Goes a b T d := by
 induction d with
 | zero => intro i j x acc h hi hj hacc he h0; rw [Lcs.L_end a b x j (by omega)] at he; exact absurd he.symm h0
 | succ d ih =>
  intro i j x acc h hi hj hacc he h0
  have h0' : Lcs.L a b x j ≠ 0 := by rw [he]; exact h0
  have hf := Lcs.L_first a b x (by omega) (b.length - j) j (by omega)
  refine Ev.step (f := fun k => spec_CommonOf.l2 k a b acc (i : Int) (j : Int) (x : Int) (-1) (((j + (b.length - j) : Nat) : Int) - 1) T) (fun k => ?_) (specCommonOf_l2 a b ha hb T hT acc i j x (by omega) hj (by omega) _ (b.length - j) (-1) (by omega) ?_)
  ·rw [spec_CommonOf.l1, ip (by decide), w64 (by omega) (by omega)]
   congr 1
   omega
  ·have over : ∀ j0, j ≤ j0 → a.getD x 0 = b.getD j0 0 → j0 < b.length → ∀ k, j0 ≤ k → 1 + Lcs.L a b (x + 1) (k + 1) ≤ 1 + Lcs.L a b (x + 1) (j0 + 1) := fun j0 _ _ _ k hk => by have := Lcs.L_mono' a b (x + 1) (j0 + 1) (k + 1) (by omega); omega
   cases hn : Lcs.nextAt b (a.getD x 0) (b.length - j) j with
   | none =>
    rw [hn] at hf
    have hno := Lcs.nextAt_none b _ _ _ hn
    rw [pick_none a b x _ j _ _ (fun k h1 h2 q => hno k h1 h2 q.1), Lcs.firstC_miss h0' hn]
    have hf' : Lcs.L a b x j = Lcs.L a b (x + 1) j := hf
    exact ih i j (x + 1) acc (by omega) (by omega) hj hacc (by omega) h0
   | some j0 =>
    rw [hn] at hf
    obtain ⟨q1, q2, q3, q4⟩ := Lcs.nextAt_some b _ _ _ _ hn
    have hf' : Lcs.L a b x j = max (Lcs.L a b (x + 1) j) (1 + Lcs.L a b (x + 1) (j0 + 1)) := hf
    by_cases e : 1 + Lcs.L a b (x + 1) (j0 + 1) = Lcs.L a b x j
    ·rw [pick_some a b x _ j j0 q1 ⟨q3, by omega⟩ (fun k h1 h2 q => q4 k h1 h2 q.1) _ _ (by omega), Lcs.firstC_hit h0' hn e, List.map_cons]
     obtain ⟨K, hK⟩ := ev_out (specCommonOf_go a b ha hb T hT d ih (x + 1) (j0 + 1) (acc ++ [toS (x, j0)]) (by omega) (by omega) (by simp; omega))
     refine ev_mk (K + 1) fun k hk => ?_
     obtain ⟨k, rfl⟩ : ∃ m, k = m + 1 := ⟨k - 1, by omega⟩
     have hr := hK k (by omega)
     rw [spec_CommonOf.l1, iq (by omega), ip (by omega), w64 (by omega) (by omega), w64 (by omega) (by omega)]
     rw [List.append_assoc] at hr
     have e6 : ((x + 1 : Nat) : Int) - 1 = (x : Int) := by omega
     rw [e6]
     exact hr
    ·rw [pick_none a b x _ j _ _ (fun k h1 h2 q => ?_), Lcs.firstC_pass h0' hn e]
     ·exact ih i j (x + 1) acc (by omega) (by omega) hj hacc (by omega) h0
     ·by_cases hk : j0 ≤ k
      ·have := over j0 q1 q3 (by omega) k hk
       have := q.2
       omega
      ·exact q4 k h1 (by omega) q.1
def pairsOf (a b : List Int) : List S56 := if a.length ≤ 301 ∧ b.length ≤ 301 then (Lcs.firstC a b a.length 0 0).map toS else []
theorem pairsOf_len (a b : List Int) : (pairsOf a b).length ≤ 301 := by
 unfold pairsOf
 by_cases h : a.length ≤ 301 ∧ b.length ≤ 301
 ·rw [ip h, List.length_map, Lcs.firstC_length a b a.length 0 0 (by omega) (by omega)]
  exact L_le301 h.1 0 0
 ·rw [iq h]
  simp
theorem specCommonOf_ev (a b : List Int) : Ev (fun k => spec_CommonOf.f k a b) (pairsOf a b) := by
 have no : ∀ (h : ¬ (a.length ≤ 301 ∧ b.length ≤ 301)), Ev (fun k => spec_CommonOf.j0 k a b true) (pairsOf a b) := fun h => by
  refine Ev.step (f := fun _ => some (pairsOf a b)) (fun k => ?_) (Ev.now _)
  unfold pairsOf
  rw [spec_CommonOf.j0, ip rfl, iq h]
 by_cases ha : a.length ≤ 301
 ·by_cases hb : b.length ≤ 301
  ·obtain ⟨T, hT, hR⟩ := specTable_ev a b ha hb
   obtain ⟨K, hK⟩ := ev_out hT
   obtain ⟨K2, hK2⟩ := ev_out (specCommonOf_go a b ha hb T hR a.length (specCommonOf_l1 a b ha hb T hR a.length) 0 0 [] (by omega) (by omega) (by simp))
   refine ev_mk (K + K2 + 1) fun k hk => ?_
   obtain ⟨k, rfl⟩ : ∃ m, k = m + 1 := ⟨k - 1, by omega⟩
   unfold spec_CommonOf.f spec_l12Right.f pairsOf
   rw [bs, ip (decide_eq_true (by omega)), bs, decide_eq_true (by omega), Bool.not_true, spec_CommonOf.j0, iq (by decide), hK k (by omega), bs, ip ⟨ha, hb⟩]
   exact hK2 k (by omega)
  ·obtain ⟨K, hK⟩ := ev_out (no (fun h => hb h.2))
   refine ev_mk K fun k hk => ?_
   unfold spec_CommonOf.f spec_l12Right.f
   rw [bs, ip (decide_eq_true (by omega)), bs, decide_eq_false (by omega), Bool.not_false]
   exact hK k hk
 ·obtain ⟨K, hK⟩ := ev_out (no (fun h => ha h.1))
  refine ev_mk K fun k hk => ?_
  unfold spec_CommonOf.f spec_l12Right.f
  rw [bs, iq (fun h => ha (by have := of_decide_eq_true h; omega))]
  exact hK k hk
def withinOf (a b : List Int) (budget : Int) : List S56 := if a.length ≤ 301 ∧ b.length ≤ 301 then (if (a.length : Int) + (b.length : Int) - 2 * (Lcs.lcs a b : Int) > budget then [] else pairsOf a b) else []
theorem pairsOf_lcs {a b : List Int} (h : a.length ≤ 301 ∧ b.length ≤ 301) : (pairsOf a b).length = Lcs.lcs a b := by
 unfold pairsOf
 rw [ip h, List.length_map, Lcs.firstC_length a b a.length 0 0 (by omega) (by omega), Lcs.L_zero]
theorem withinOf_len (a b : List Int) (budget : Int) : (withinOf a b budget).length ≤ 301 := by
 have := pairsOf_len a b
 unfold withinOf
 split
 ·split
  ·simp
  ·exact this
 ·simp
theorem specCommonWithin_ev (a b : List Int) (budget : Int) : Ev (fun k => spec_CommonWithin.f k a b budget) (withinOf a b budget) := by
 obtain ⟨K, hK⟩ := ev_out (specCommonLen_ev a b)
 obtain ⟨K2, hK2⟩ := ev_out (specCommonOf_ev a b)
 refine ev_mk (K + K2) fun k hk => ?_
 unfold spec_CommonWithin.f withinOf
 rw [hK k (by omega), bs]
 unfold lenOf
 by_cases h : a.length ≤ 301 ∧ b.length ≤ 301
 ·have hl := Lcs.lcs_le_left a b
  rw [ip h, ip h, iq (by omega), w64 (x := 2 * (Lcs.lcs a b : Int)) (by omega) (by omega), w64 (x := (a.length : Int) + (b.length : Int)) (by omega) (by omega), w64 (by omega) (by omega)]
  by_cases g : (a.length : Int) + (b.length : Int) - 2 * (Lcs.lcs a b : Int) > budget
  ·rw [ip g, ip g]
  ·rw [iq g, iq g, hK2 k (by omega), bs]
 ·rw [iq h, iq h, ip (by decide)]
theorem implCommonWithin_ev (a b : List Int) (budget : Int) : Ev (fun k => impl_CommonWithin.f k a b budget) (withinOf a b budget) := by
 by_cases h : a.length ≤ 301 ∧ b.length ≤ 301
 ·obtain ⟨K, hK⟩ := ev_out (implcommonOf_ev a b h.1 h.2)
  have hp : pairsOf a b = (Lcs.firstC a b a.length 0 0).map toS := ip h
  have hl := pairsOf_lcs h
  have hL := Lcs.lcs_le_left a b
  refine ev_mk K fun k hk => ?_
  unfold impl_CommonWithin.f withinOf
  rw [areListed_eq, bs, ip (decide_eq_true h), hK k hk, bs, ip h, ← hp, hl, w64 (x := 2 * (Lcs.lcs a b : Int)) (by omega) (by omega), w64 (x := (a.length : Int) + (b.length : Int)) (by omega) (by omega), w64 (by omega) (by omega)]
  by_cases g : (a.length : Int) + (b.length : Int) - 2 * (Lcs.lcs a b : Int) > budget
  ·rw [ip g, ip g]
  ·rw [iq g, iq g]
 ·refine ev_mk 0 fun k _ => ?_
  unfold impl_CommonWithin.f withinOf
  rw [areListed_eq, bs, iq (by rw [decide_eq_false h]; decide), iq h]
theorem implCommonLen_ev (a b : List Int) : Ev (fun k => impl_CommonLen.f k a b) (lenOf a b) := by
 by_cases h : a.length ≤ 301 ∧ b.length ≤ 301
 ·obtain ⟨R, hR, h0⟩ := implTable_ev a b h.1 h.2
  obtain ⟨K, hR⟩ := ev_out hR
  obtain ⟨g1, g2, g3⟩ := rows_00 h0
  refine ev_mk K fun k hk => ?_
  unfold impl_CommonLen.f lenOf
  rw [areListed_eq, bs, ip (decide_eq_true h), hR k hk, bs, ip g1, ip g2, g3, ip h]
 ·refine ev_mk 0 fun k _ => ?_
  unfold impl_CommonLen.f lenOf
  rw [areListed_eq, bs, iq (by rw [decide_eq_false h]; decide), iq h]
def bwtAt (l : List Int) (r : Int) : Int := if r = 0 then 0 else l.getD (r - 1).toNat 0 + 1
def bwtL (l : List Int) : List Int := (rowsOf l).map (bwtAt l)
theorem bwtL_len (l : List Int) : (bwtL l).length = l.length + 1 := by unfold bwtL; rw [List.length_map, rowsOf_len]
theorem bwtL_at (l : List Int) (i : Nat) (h : i < l.length + 1) : (bwtL l).getD i 0 = bwtAt l ((rowsOf l).getD i 0) := by
 rw [lget_lt _ i 0 (by rw [bwtL_len]; exact h), lget_lt _ i 0 (by rw [rowsOf_len]; exact h)]
 simp [bwtL]
theorem byte_at {l : List Int} (hb : bytesOk l) (i : Nat) : 0 ≤ l.getD i 0 ∧ l.getD i 0 < 256 := by
 by_cases h : i < l.length
 ·rw [lget_lt l i 0 h]
  exact hb _ (List.getElem_mem _)
 ·rw [List.getD_eq_getElem?_getD, List.getElem?_eq_none (by omega)]
  decide
theorem specBwt_l0 (l : List Int) (hl : l.length ≤ 300) (hb : bytesOk l) (d : Nat) : ∀ i : Nat, i + d = l.length + 1 → Ev (fun k => spec_BwtOf.l0 k l ((bwtL l).take i) (i : Int) (rowsOf l)) (bwtL l) := by
 have hR := rowsOf_len l
 have hL := bwtL_len l
 induction d with
 | zero =>
  intro i h
  refine Ev.step (f := fun _ => some _) (fun k => ?_) (Ev.now _)
  rw [spec_BwtOf.l0, iq (by omega), List.take_of_length_le (by omega)]
 | succ d ih =>
  intro i h
  have hat := bwtL_at l i (by omega)
  obtain ⟨a0, a1⟩ := rowsOf_at l i (by omega)
  refine Ev.step (fun k => ?_) (ih (i + 1) (by omega))
  rw [take_succ_getD _ 0 i (by omega), hat, spec_BwtOf.l0, ip (by omega), ip (by omega), rd_nat]
  unfold bwtAt
  by_cases c : (rowsOf l).getD i 0 = 0
  ·rw [ip c, ip c, ip (by rw [List.length_take]; omega), w64 (by omega) (by omega)]
   rfl
  ·rw [iq c, iq c, w64 (by omega) (by omega), ip (by omega), ip (by omega), ip (by rw [List.length_take]; omega)]
   have hx := byte_at hb ((rowsOf l).getD i 0 - 1).toNat
   have hr : rd l ((rowsOf l).getD i 0 - 1) = l.getD ((rowsOf l).getD i 0 - 1).toNat 0 := rfl
   rw [hr]
   generalize l.getD ((rowsOf l).getD i 0 - 1).toNat 0 = x at hx ⊢
   rw [w64 (x := x) (by omega) (by omega), w64 (x := x + 1) (by omega) (by omega), w64 (by omega) (by omega)]
   rfl
theorem specBwt_ev (l : List Int) (hl : l.length ≤ 300) (hb : bytesOk l) : Ev (fun k => spec_BwtOf.f k l) (bwtL l) := by
 obtain ⟨K, hK⟩ := ev_out (specRows_ev l hl)
 obtain ⟨K2, hK2⟩ := ev_out (specBwt_l0 l hl hb (l.length + 1) 0 (by omega))
 refine ev_mk (K + K2) fun k hk => ?_
 unfold spec_BwtOf.f
 rw [hK k (by omega), bs]
 exact hK2 k (by omega)
theorem implBwt_l0 (l : List Int) (hl : l.length ≤ 300) (hb : bytesOk l) (d : Nat) : ∀ i : Nat, i + d = l.length + 1 → Ev (fun k => impl_bwtOf.l0 k l ((bwtL l).take i) (rowsOf l) ((rowsOf l).length : Int) (i : Int)) (bwtL l) := by
 have hR := rowsOf_len l
 have hL := bwtL_len l
 induction d with
 | zero =>
  intro i h
  refine Ev.step (f := fun _ => some _) (fun k => ?_) (Ev.now _)
  rw [impl_bwtOf.l0, iq (by omega), List.take_of_length_le (by omega)]
 | succ d ih =>
  intro i h
  have hat := bwtL_at l i (by omega)
  obtain ⟨a0, a1⟩ := rowsOf_at l i (by omega)
  refine Ev.step (fun k => ?_) (ih (i + 1) (by omega))
  rw [take_succ_getD _ 0 i (by omega), hat, impl_bwtOf.l0, ip (by omega), ip (by omega), ip (by omega), rd_nat]
  unfold bwtAt
  by_cases c : (rowsOf l).getD i 0 = 0
  ·rw [ip c, ip c, ip (by rw [List.length_take]; omega), w64 (by omega) (by omega)]
   rfl
  ·rw [iq c, iq c, w64 (by omega) (by omega), ip (by omega), ip (by omega), ip (by rw [List.length_take]; omega)]
   have hx := byte_at hb ((rowsOf l).getD i 0 - 1).toNat
   have hr : rd l ((rowsOf l).getD i 0 - 1) = l.getD ((rowsOf l).getD i 0 - 1).toNat 0 := rfl
   rw [hr]
   generalize l.getD ((rowsOf l).getD i 0 - 1).toNat 0 = x at hx ⊢
   rw [w64 (x := x) (by omega) (by omega), w64 (x := x + 1) (by omega) (by omega), w64 (by omega) (by omega)]
   rfl
theorem implBwt_ev (l : List Int) (hl : l.length ≤ 300) (hb : bytesOk l) : Ev (fun k => impl_bwtOf.f k l) (bwtL l) := by
 obtain ⟨K, hK⟩ := ev_out (implRows_ev l hl hb)
 obtain ⟨K2, hK2⟩ := ev_out (implBwt_l0 l hl hb (l.length + 1) 0 (by omega))
 refine ev_mk (K + K2) fun k hk => ?_
 unfold impl_bwtOf.f
 rw [hK k (by omega), bs]
 exact hK2 k (by omega)
theorem rdL2 (T : List (List Int)) (i : Nat) : rd_L2 T (i : Int) = T.getD i [] := by unfold rd_L2; rw [Int.toNat_natCast]
theorem mid_take (l : List Int) (r d m : Nat) (h : r ≤ l.length) (hm : m = min l.length (r + d)) : (l.take m).drop r = (l.drop r).take d := by
 rw [List.drop_take, hm]
 by_cases c : r + d ≤ l.length
 ·rw [Nat.min_eq_right c, Nat.add_sub_cancel_left]
 ·rw [Nat.min_eq_left (by omega), List.take_of_length_le (by rw [List.length_drop]; omega), List.take_of_length_le (by rw [List.length_drop]; omega)]
theorem mn_min (a b : Nat) : mn (a : Int) (b : Int) = ((min a b : Nat) : Int) := by unfold mn; split <;> omega
theorem specHead_eq (l : List Int) (hl : l.length ≤ 300) (r d : Int) (a0 : 0 ≤ r) (a1 : r ≤ l.length) (h0 : 0 ≤ d) (h8 : d ≤ 8) : spec_l13Head.f l r d = some ((l.drop r.toNat).take d.toNat) := by
 obtain ⟨r, rfl⟩ := Int.eq_ofNat_of_zero_le a0
 obtain ⟨d, rfl⟩ := Int.eq_ofNat_of_zero_le h0
 unfold spec_l13Head.f
 rw [w64 (by omega) (by omega), ← Int.natCast_add, mn_min, ip (by omega), ip (by omega), ip (by omega), Int.toNat_natCast, Int.toNat_natCast, Int.toNat_natCast, mid_take l r d _ (by omega) rfl]
theorem specHeads_l0 (l : List Int) (hl : l.length ≤ 300) (d : Int) (h0 : 0 ≤ d) (h8 : d ≤ 8) (n : Nat) : ∀ i : Nat, i + n = l.length + 1 → Ev (fun k => spec_l13Heads.l0 k l d ((headsOf l d.toNat).take i) (i : Int) (rowsOf l)) (headsOf l d.toNat) := by
 have hR := rowsOf_len l
 have hL := headsOf_len l d.toNat
 induction n with
 | zero =>
  intro i h
  refine Ev.step (f := fun _ => some _) (fun k => ?_) (Ev.now _)
  rw [spec_l13Heads.l0, iq (by omega), List.take_of_length_le (by omega)]
 | succ n ih =>
  intro i h
  have hat := headsOf_at l d.toNat i (by omega)
  obtain ⟨a0, a1⟩ := rowsOf_at l i (by omega)
  refine Ev.step (fun k => ?_) (ih (i + 1) (by omega))
  rw [take_succ_getD _ [] i (by omega), hat, spec_l13Heads.l0, ip (by omega), ip (by omega), rd_nat, specHead_eq l hl _ d a0 a1 h0 h8, bs, ip (by rw [List.length_take]; omega), w64 (by omega) (by omega)]
  rfl
theorem specHeads_ev (l : List Int) (hl : l.length ≤ 300) (d : Int) (h0 : 0 ≤ d) (h8 : d ≤ 8) : Ev (fun k => spec_l13Heads.f k l d) (headsOf l d.toNat) := by
 obtain ⟨K, hK⟩ := ev_out (specRows_ev l hl)
 obtain ⟨K2, hK2⟩ := ev_out (specHeads_l0 l hl d h0 h8 (l.length + 1) 0 (by omega))
 refine ev_mk (K + K2) fun k hk => ?_
 unfold spec_l13Heads.f
 rw [hK k (by omega), bs]
 exact hK2 k (by omega)
def headsS (l : List Int) (d : Int) : List ByteArray := (headsOf l d.toNat).map strOfNums
theorem headsS_len (l : List Int) (d : Int) : (headsS l d).length = l.length + 1 := by unfold headsS; rw [List.length_map, headsOf_len]
theorem headsS_at (l : List Int) (d : Int) (i : Nat) (h : i < l.length + 1) : (headsS l d).getD i ByteArray.empty = strOfNums ((headsOf l d.toNat).getD i []) := by
 rw [lget_lt _ i _ (by rw [headsS_len]; exact h), lget_lt _ i _ (by rw [headsOf_len]; exact h)]
 simp [headsS]
theorem implHeads_l0 (l : List Int) (hl : l.length ≤ 300) (d : Int) (h0 : 0 ≤ d) (h8 : d ≤ 8) (n : Nat) : ∀ i : Nat, i + n = l.length + 1 → Ev (fun k => impl_heads.l0 k l d ((headsS l d).take i) (rowsOf l) ((rowsOf l).length : Int) (i : Int)) (headsS l d) := by
 have hR := rowsOf_len l
 have hL := headsS_len l d
 induction n with
 | zero =>
  intro i h
  refine Ev.step (f := fun _ => some _) (fun k => ?_) (Ev.now _)
  rw [impl_heads.l0, iq (by omega), List.take_of_length_le (by omega)]
 | succ n ih =>
  intro i h
  have hat := headsOf_at l d.toNat i (by omega)
  obtain ⟨a0, a1⟩ := rowsOf_at l i (by omega)
  refine Ev.step (fun k => ?_) (ih (i + 1) (by omega))
  rw [take_succ_getD _ ByteArray.empty i (by omega), headsS_at l d i (by omega), hat, impl_heads.l0, ip (by omega), ip (by omega), ip (by omega), rd_nat]
  generalize (rowsOf l).getD i 0 = r at a0 a1 ⊢
  obtain ⟨r, rfl⟩ := Int.eq_ofNat_of_zero_le a0
  obtain ⟨d, rfl⟩ := Int.eq_ofNat_of_zero_le h0
  rw [w64 (x := (r : Int) + (d : Int)) (by omega) (by omega), ← Int.natCast_add, mn_min, ip (by omega), ip (by omega), ip (by omega), ip (by rw [List.length_take]; omega), Int.toNat_natCast, Int.toNat_natCast, Int.toNat_natCast, mid_take l r d _ (by omega) (Nat.min_comm _ _), w64 (by omega) (by omega)]
  rfl
theorem implHeads_ev (l : List Int) (hl : l.length ≤ 300) (hb : bytesOk l) (d : Int) (h0 : 0 ≤ d) (h8 : d ≤ 8) : Ev (fun k => impl_heads.f k l d) (headsS l d) := by
 obtain ⟨K, hK⟩ := ev_out (implRows_ev l hl hb)
 obtain ⟨K2, hK2⟩ := ev_out (implHeads_l0 l hl d h0 h8 (l.length + 1) 0 (by omega))
 refine ev_mk (K + K2) fun k hk => ?_
 unfold impl_heads.f
 rw [hK k (by omega), bs]
 exact hK2 k (by omega)
theorem headsS_num (l : List Int) (hb : bytesOk l) (d : Int) : (headsS l d).map bytesOf = headsOf l d.toNat := by
 unfold headsS
 rw [List.map_map]
 refine (List.map_congr_left fun x hx => ?_).trans (List.map_id _)
 exact Ws.num_of x fun y hy => hb y ((headsOf_mem hx).2 y hy)
theorem headsS_size (l : List Int) (d : Int) (x : ByteArray) (hx : x ∈ headsS l d) : x.size ≤ l.length := by
 obtain ⟨y, hy, rfl⟩ := List.mem_map.1 hx
 rw [strOfNums_size]
 exact (headsOf_mem hy).1
/-- Small words. -/
def Smalls (ws : LL) : Prop := ws.length ≤ 1000 ∧ ∀ x ∈ ws, x.length ≤ 300
theorem Smalls.at {ws : LL} (h : Smalls ws) (i : Nat) : (ws.getD i []).length ≤ 300 := by
 by_cases c : i < ws.length
 ·rw [lget_lt ws i [] c]
  exact h.2 _ (List.getElem_mem c)
 ·rw [List.getD_eq_getElem?_getD, List.getElem?_eq_none (by omega)]
  decide
theorem smalls_heads (l : List Int) (hl : l.length ≤ 300) (d : Nat) : Smalls (headsOf l d) := ⟨by rw [headsOf_len]; omega, fun x hx => by have := (headsOf_mem hx).1; omega⟩
theorem smalls_words {hs_ : LL} (h : Smalls hs_) : Smalls (wordsL hs_) := ⟨Nat.le_trans (wordsL_le _) h.1, fun x hx => h.2 x ((wordsL_mem _ _).1 hx)⟩
theorem wordsL_snoc (a : LL) (x : List Int) : wordsL (a ++ [x]) = insW x (wordsL a) := by unfold wordsL; rw [List.foldl_append]; rfl
theorem loOf_snoc (a : LL) (x w : List Int) : loOf (a ++ [x]) w = loOf a w + (if Fv.cmpB x w < 0 then 1 else 0) := by
 unfold loOf
 rw [List.countP_append, List.countP_singleton]
 by_cases c : Fv.cmpB x w < 0 <;> simp [c]
theorem hiOf_snoc (a : LL) (x w : List Int) : hiOf (a ++ [x]) w = hiOf a w + (if Fv.cmpB x w ≤ 0 then 1 else 0) := by
 unfold hiOf
 rw [List.countP_append, List.countP_singleton]
 by_cases c : Fv.cmpB x w ≤ 0 <;> simp [c]
theorem specSpan_l0 (hs_ : LL) (w : List Int) (hh : Smalls hs_) (hw : w.length ≤ 300) (n : Nat) : ∀ i : Nat, i + n = hs_.length → Ev (fun k => spec_l13Span.l0 k hs_ w (loOf (hs_.take i) w : Int) (hiOf (hs_.take i) w : Int) (i : Int)) ((loOf hs_ w : Int), (hiOf hs_ w : Int)) := by
 induction n with
 | zero =>
  intro i h
  refine Ev.step (f := fun _ => some _) (fun k => ?_) (Ev.now _)
  rw [spec_l13Span.l0, iq (by omega), List.take_of_length_le (by omega)]
 | succ n ih =>
  intro i h
  have h1 := ih (i + 1) (by omega)
  have l1 := lo_le (hs_.take i) w
  have l2 := hi_le (hs_.take i) w
  have l3 : (hs_.take i).length ≤ 1000 := by rw [List.length_take]; have := hh.1; omega
  have l4 := hh.1
  rw [take_succ_getD hs_ [] i (by omega), loOf_snoc, hiOf_snoc] at h1
  have hx := hh.at i
  obtain ⟨K, hK⟩ := ev_out (specCmp_ev (hs_.getD i []) w (by omega) (by omega))
  obtain ⟨K2, hK2⟩ := ev_out h1
  refine ev_mk (K + K2 + 2) fun k hk => ?_
  obtain ⟨k, rfl⟩ : ∃ m, k = m + 2 := ⟨k - 2, by omega⟩
  have hk2 := hK2 k (by omega)
  rw [spec_l13Span.l0, ip (by omega), ip (by omega), rdL2, hK (k + 1) (by omega), bs]
  generalize Fv.cmpB (hs_.getD i []) w = c at hk2 ⊢
  generalize loOf (hs_.take i) w = u at l1 hk2 ⊢
  generalize hiOf (hs_.take i) w = v at l1 l2 hk2 ⊢
  by_cases c1 : c < 0
  ·rw [ip c1, ip (by omega)] at hk2
   rw [ip c1, spec_l13Span.j1, ip (by omega), w64 (by omega) (by omega), w64 (by omega) (by omega), w64 (by omega) (by omega)]
   exact hk2
  ·by_cases c2 : c ≤ 0
   ·rw [iq c1, ip c2] at hk2
    rw [iq c1, spec_l13Span.j1, ip c2, w64 (by omega) (by omega), w64 (by omega) (by omega)]
    exact hk2
   ·rw [iq c1, iq c2] at hk2
    rw [iq c1, spec_l13Span.j1, iq c2, w64 (by omega) (by omega)]
    exact hk2
theorem specSpan_ev (hs_ : LL) (w : List Int) (hh : Smalls hs_) (hw : w.length ≤ 300) : Ev (fun k => spec_l13Span.f k hs_ w) ((loOf hs_ w : Int), (hiOf hs_ w : Int)) := specSpan_l0 hs_ w hh hw hs_.length 0 (by omega)
theorem rdT48 (l : List S48) (i : Nat) : rd_T48 l (i : Int) = l.getD i z48 := by unfold rd_T48; rw [Int.toNat_natCast]
def partOf (A B : LL) (w : List Int) : S48 := ⟨w, loOf A w, hiOf A w, loOf B w, hiOf B w⟩
def partsL (A B : LL) : List S48 := (wordsL (A ++ B)).map (partOf A B)
theorem partsL_len (A B : LL) : (partsL A B).length = (wordsL (A ++ B)).length := by unfold partsL; rw [List.length_map]
theorem partsL_at (A B : LL) (i : Nat) (h : i < (wordsL (A ++ B)).length) : (partsL A B).getD i z48 = partOf A B ((wordsL (A ++ B)).getD i []) := by
 rw [lget_lt _ i _ (by rw [partsL_len]; exact h), lget_lt _ i _ h]
 simp [partsL]
theorem smalls_app {A B : LL} (h : (A ++ B).length ≤ 1000) (hA : Smalls A) (hB : Smalls B) : Smalls (A ++ B) := ⟨h, fun x hx => by
 rcases List.mem_append.1 hx with hx | hx
 ·exact hA.2 x hx
 ·exact hB.2 x hx⟩
/-- Where the search for a word's place stands. -/
def Stand (ws : LL) (x : List Int) (j : Nat) (f : Bool) : Prop := (f = false ∧ ∀ i, i < j → Fv.cmpB (ws.getD i []) x < 0) ∨ (f = true ∧ insW x ws = ws)
theorem specParts_j2 (ws A B H : LL) (i j : Nat) (f : Bool) (hw : ws.length ≤ 2000) (hi : i < H.length) (hH : H.length ≤ 1000) (hj : j ≤ ws.length) (hs : Stand ws (H.getD i []) j f) (hx : f = false → j < ws.length → 0 < Fv.cmpB (ws.getD j []) (H.getD i [])) (r : List S48)
  (hr : Ev (fun k => spec_Parts.l0 k (insW (H.getD i []) ws) ((i + 1 : Nat) : Int) A B H) r) : Ev (fun k => spec_Parts.j2 k A B H ws (i : Int) (j : Int) f) r := by
 rcases hs with ⟨rfl, h1⟩ | ⟨rfl, h1⟩
 ·rw [insW_new _ ws j hj h1 (hx rfl)] at hr
  refine Ev.step (fun k => ?_) hr
  rw [spec_Parts.j2, iq (by decide), ip (by omega), ip (by omega), bs, ip (by omega), ip (by omega), bs, Int.toNat_natCast, ip (by simp; omega), bs, bs, bs, ip (by simp; omega), bs, ip (by simp; omega), w64 (by omega) (by omega), rdL2]
  simp
 ·rw [h1] at hr
  refine Ev.step (fun k => ?_) hr
  rw [spec_Parts.j2, ip rfl, w64 (by omega) (by omega)]
  rfl
theorem specParts_l1 (ws A B H : LL) (i : Nat) (hw : ws.length ≤ 2000) (hs : ∀ x ∈ ws, x.length ≤ 300) (hi : i < H.length) (hH : Smalls H) (r : List S48)
  (hr : Ev (fun k => spec_Parts.l0 k (insW (H.getD i []) ws) ((i + 1 : Nat) : Int) A B H) r) (n : Nat) : ∀ (j : Nat) (f : Bool), j + n = ws.length → Stand ws (H.getD i []) j f → Ev (fun k => spec_Parts.l1 k ws (i : Int) (j : Int) f A B H) r := by
 have hl := hH.1
 have hx := hH.at i
 induction n with
 | zero =>
  intro j f h hst
  refine Ev.step (fun k => ?_) (specParts_j2 ws A B H i j f hw hi hl (by omega) hst (fun _ hj => by omega) r hr)
  rw [spec_Parts.l1, iq (by omega)]
 | succ n ih =>
  intro j f h hst
  have hy : (ws.getD j []).length ≤ 300 := by rw [lget_lt ws j [] (by omega)]; exact hs _ (List.getElem_mem _)
  obtain ⟨K, hK⟩ := ev_out (specCmp_ev (ws.getD j []) (H.getD i []) (by omega) (by omega))
  by_cases c : Fv.cmpB (ws.getD j []) (H.getD i []) ≤ 0
  ·have hst' : Stand ws (H.getD i []) (j + 1) (f || (Fv.cmpB (ws.getD j []) (H.getD i []) == 0)) := by
    rcases hst with ⟨rfl, h1⟩ | ⟨rfl, h1⟩
    ·by_cases e : Fv.cmpB (ws.getD j []) (H.getD i []) = 0
     ·exact .inr ⟨by rw [e]; rfl, insW_old _ ws j (by omega) h1 e⟩
     ·refine .inl ⟨by rw [Bool.false_or, beq_eq_false_iff_ne]; exact e, fun i' hi' => ?_⟩
      by_cases e' : i' = j
      ·subst e'; omega
      ·exact h1 i' (by omega)
    ·exact .inr ⟨rfl, h1⟩
   obtain ⟨K2, hK2⟩ := ev_out (ih (j + 1) _ (by omega) hst')
   refine ev_mk (K + K2 + 1) fun k hk => ?_
   obtain ⟨k, rfl⟩ : ∃ m, k = m + 1 := ⟨k - 1, by omega⟩
   have h2 := hK2 k (by omega)
   rw [spec_Parts.l1, ip (by omega), ip (by omega), ip (by omega), ip (by omega), rdL2, rdL2, hK k (by omega), bs, ip c, w64 (by omega) (by omega)]
   cases f with
   | true =>
    rw [ip rfl]
    exact h2
   | false =>
    rw [iq (by decide), bs]
    exact h2
  ·obtain ⟨K2, hK2⟩ := ev_out (specParts_j2 ws A B H i j f hw hi hl (by omega) hst (fun _ _ => by omega) r hr)
   refine ev_mk (K + K2 + 1) fun k hk => ?_
   obtain ⟨k, rfl⟩ : ∃ m, k = m + 1 := ⟨k - 1, by omega⟩
   rw [spec_Parts.l1, ip (by omega), ip (by omega), ip (by omega), ip (by omega), rdL2, rdL2, hK k (by omega), bs, iq c]
   exact hK2 k (by omega)
theorem specParts_l2 (A B : LL) (hA : Smalls A) (hB : Smalls B) (hAB : Smalls (A ++ B)) (n : Nat) : ∀ i : Nat, i + n = (wordsL (A ++ B)).length → Ev (fun k => spec_Parts.l2 k (wordsL (A ++ B)) ((partsL A B).take i) (i : Int) A B) (partsL A B) := by
 have hW := smalls_words hAB
 have hl := hW.1
 have hL := partsL_len A B
 induction n with
 | zero =>
  intro i h
  refine Ev.step (f := fun _ => some _) (fun k => ?_) (Ev.now _)
  rw [spec_Parts.l2, iq (by omega), List.take_of_length_le (by omega)]
 | succ n ih =>
  intro i h
  have hx := hW.at i
  obtain ⟨K, hK⟩ := ev_out (specSpan_ev A ((wordsL (A ++ B)).getD i []) hA hx)
  obtain ⟨K1, hK1⟩ := ev_out (specSpan_ev B ((wordsL (A ++ B)).getD i []) hB hx)
  obtain ⟨K2, hK2⟩ := ev_out (ih (i + 1) (by omega))
  refine ev_mk (K + K1 + K2 + 1) fun k hk => ?_
  obtain ⟨k, rfl⟩ : ∃ m, k = m + 1 := ⟨k - 1, by omega⟩
  have h2 := hK2 k (by omega)
  rw [take_succ_getD _ z48 i (by omega), partsL_at A B i (by omega)] at h2
  rw [spec_Parts.l2, ip (by omega), bs, ip (by omega), rdL2, ip (by simp only [List.length_nil]; omega), hK k (by omega), bs, hK1 k (by omega), bs, ip (by rw [List.length_take]; omega), w64 (by omega) (by omega), List.nil_append]
  exact h2
theorem specParts_l0 (A B : LL) (hA : Smalls A) (hB : Smalls B) (hAB : Smalls (A ++ B)) (n : Nat) : ∀ i : Nat, i + n = (A ++ B).length → Ev (fun k => spec_Parts.l0 k (wordsL ((A ++ B).take i)) (i : Int) A B (A ++ B)) (partsL A B) := by
 have hl := hAB.1
 induction n with
 | zero =>
  intro i h
  refine Ev.step (fun k => ?_) (specParts_l2 A B hA hB hAB (wordsL (A ++ B)).length 0 (by omega))
  rw [spec_Parts.l0, iq (by omega), List.take_of_length_le (by omega)]
  rfl
 | succ n ih =>
  intro i h
  have h1 := ih (i + 1) (by omega)
  rw [take_succ_getD _ [] i (by omega), wordsL_snoc] at h1
  have hT : Smalls ((A ++ B).take i) := ⟨by rw [List.length_take]; omega, fun x hx => hAB.2 x (List.mem_of_mem_take hx)⟩
  have hW := smalls_words hT
  refine Ev.step (fun k => ?_) (specParts_l1 (wordsL ((A ++ B).take i)) A B (A ++ B) i (by have := hW.1; omega) hW.2 (by omega) hAB _ h1 _ 0 false (Nat.zero_add _) (.inl ⟨rfl, fun j hj => by omega⟩))
  rw [spec_Parts.l0, ip (by omega)]
  rfl
def fitB (a b : List Int) (d : Int) : Bool := decide (a.length ≤ 300 ∧ b.length ≤ 300 ∧ 0 ≤ d ∧ d ≤ 8)
theorem specFit_eq (a b : List Int) (d : Int) : spec_l13Fit.f a b d = some (fitB a b d) := by
 unfold spec_l13Fit.f spec_TextOk.f fitB
 by_cases ha : a.length ≤ 300
 ·by_cases hb : b.length ≤ 300
  ·rw [bs, decide_eq_true (show (a.length : Int) ≤ 300 by omega), ip rfl, bs, decide_eq_true (show (b.length : Int) ≤ 300 by omega), ip rfl]
   by_cases hd : d ≥ 0
   ·rw [ip hd]
    congr 1
    exact decide_eq_decide.2 ⟨fun h => ⟨ha, hb, hd, h⟩, fun h => h.2.2.2⟩
   ·rw [iq hd, decide_eq_false (fun h => hd h.2.2.1)]
  ·rw [bs, decide_eq_true (show (a.length : Int) ≤ 300 by omega), ip rfl, bs, decide_eq_false (show ¬ (b.length : Int) ≤ 300 by omega), iq (by decide), decide_eq_false (fun h => hb h.2.1)]
 ·rw [bs, decide_eq_false (show ¬ (a.length : Int) ≤ 300 by omega), iq (by decide), decide_eq_false (fun h => ha h.1)]
theorem isShared_fit (a b : List Int) (d : Int) : impl_isShared.f a b d = some (fitB a b d) := by
 unfold impl_isShared.f impl_TextOk.f impl_within.f fitB
 by_cases ha : a.length ≤ 300
 ·by_cases hb : b.length ≤ 300
  ·rw [bs, decide_eq_true (show (a.length : Int) ≤ 300 by omega), ip rfl, bs, decide_eq_true (show (b.length : Int) ≤ 300 by omega), ip rfl]
   by_cases hd : 0 ≤ d
   ·rw [ip hd, bs]
    congr 1
    exact decide_eq_decide.2 ⟨fun h => ⟨ha, hb, hd, h⟩, fun h => h.2.2.2⟩
   ·rw [iq hd, bs, decide_eq_false (fun h => hd h.2.2.1)]
  ·rw [bs, decide_eq_true (show (a.length : Int) ≤ 300 by omega), ip rfl, bs, decide_eq_false (show ¬ (b.length : Int) ≤ 300 by omega), iq (by decide), decide_eq_false (fun h => hb h.2.1)]
 ·rw [bs, decide_eq_false (show ¬ (a.length : Int) ≤ 300 by omega), iq (by decide), decide_eq_false (fun h => ha h.1)]
theorem smalls_two (a b : List Int) (ha : a.length ≤ 300) (hb : b.length ≤ 300) (d : Nat) : Smalls (headsOf a d ++ headsOf b d) :=
 smalls_app (by rw [List.length_append, headsOf_len, headsOf_len]; omega) (smalls_heads a ha d) (smalls_heads b hb d)
def partsAB (a b : List Int) (d : Int) : List S48 := partsL (headsOf a d.toNat) (headsOf b d.toNat)
theorem specParts_ev (a b : List Int) (d : Int) (ha : a.length ≤ 300) (hb : b.length ≤ 300) (h0 : 0 ≤ d) (h8 : d ≤ 8) : Ev (fun k => spec_Parts.f k a b d) (partsAB a b d) := by
 have hs := smalls_two a b ha hb d.toNat
 have hA := headsOf_len a d.toNat
 have hB := headsOf_len b d.toNat
 obtain ⟨K, hK⟩ := ev_out (specHeads_ev a ha d h0 h8)
 obtain ⟨K1, hK1⟩ := ev_out (specHeads_ev b hb d h0 h8)
 obtain ⟨K2, hK2⟩ := ev_out (specParts_l0 _ _ (smalls_heads a ha d.toNat) (smalls_heads b hb d.toNat) hs _ 0 (Nat.zero_add _))
 refine ev_mk (K + K1 + K2) fun k hk => ?_
 unfold spec_Parts.f
 rw [specFit_eq, bs, fitB, decide_eq_true ⟨ha, hb, h0, h8⟩, ip rfl, hK k (by omega), bs, hK1 k (by omega), bs, bs, ip (by simp only [List.length_nil]; omega), bs, ip (by rw [List.nil_append]; omega), List.nil_append]
 exact hK2 k (by omega)
theorem specParts_no (a b : List Int) (d : Int) (h : fitB a b d = false) (k : Nat) : spec_Parts.f k a b d = some [] := by
 unfold spec_Parts.f
 rw [specFit_eq, bs, h, iq (by decide)]
theorem rdStr (xs : List ByteArray) (i : Nat) : rdOf ByteArray.empty xs (i : Int) = xs.getD i ByteArray.empty := by unfold rdOf; rw [Int.toNat_natCast]
theorem num_at (xs : List ByteArray) (i : Nat) : bytesOf (xs.getD i ByteArray.empty) = (xs.map bytesOf).getD i [] := by
 by_cases h : i < xs.length
 ·rw [lget_lt xs i _ h, lget_lt _ i _ (by rw [List.length_map]; exact h), List.getElem_map]
 ·rw [List.getD_eq_getElem?_getD, List.getElem?_eq_none (by omega), List.getD_eq_getElem?_getD, List.getElem?_eq_none (by rw [List.length_map]; omega)]
  rfl
theorem isNaN_eq (s : ByteArray) : cmp_isNaN_string.f s = some false := by unfold cmp_isNaN_string.f; rw [bne_self_eq_false]
theorem isNaN_eq' (s : ByteArray) : slices_isNaN_string.f s = some false := by unfold slices_isNaN_string.f; rw [bne_self_eq_false]
theorem less_eq (s t : ByteArray) : cmp_Less_string.f s t = some (decide (Fv.cmpB (bytesOf s) (bytesOf t) < 0)) := by
 unfold cmp_Less_string.f
 rw [isNaN_eq, bs, iq (by decide), Ws.less_cmp]
theorem search_l0 (a : List ByteArray) (w : ByteArray) (ha : a.length ≤ 1000) (hs : (a.map bytesOf).Pairwise fun x y => Fv.cmpB x y ≤ 0) (m : Nat) : ∀ lo hi_ : Nat, hi_ - lo ≤ m → lo ≤ loOf (a.map bytesOf) (bytesOf w) → loOf (a.map bytesOf) (bytesOf w) ≤ hi_ → hi_ ≤ a.length →
  ∃ f, Ev (fun k => slices_BinarySearch_string_string.l0 k a w (a.length : Int) (lo : Int) (hi_ : Int)) ((loOf (a.map bytesOf) (bytesOf w) : Int), f) := by
 have hlen : (a.map bytesOf).length = a.length := List.length_map _
 induction m with
 | zero =>
  intro lo hi_ h1 h2 h3 h4
  obtain rfl : hi_ = lo := by omega
  have e : loOf (a.map bytesOf) (bytesOf w) = hi_ := by omega
  rw [e]
  by_cases c : (hi_ : Int) < (a.length : Int)
  ·by_cases c2 : (rdOf ByteArray.empty a (hi_ : Int)).toList = w.toList
   ·refine ⟨true, Ev.step (f := fun _ => some _) (fun k => ?_) (Ev.now _)⟩
    rw [slices_BinarySearch_string_string.l0, iq (by omega), ip c, ip (by omega), ip c, ip c2]
   ·refine ⟨false, Ev.step (f := fun _ => some _) (fun k => ?_) (Ev.now _)⟩
    rw [slices_BinarySearch_string_string.l0, iq (by omega), ip c, ip (by omega), ip c, iq c2, isNaN_eq', bs, iq (by decide)]
  ·refine ⟨false, Ev.step (f := fun _ => some _) (fun k => ?_) (Ev.now _)⟩
   rw [slices_BinarySearch_string_string.l0, iq (by omega), iq c]
 | succ m ih =>
  intro lo hi_ h1 h2 h3 h4
  by_cases e : lo < hi_
  ·have hmid : wrap64 ((IntKind.u64.wrap (wrap64 ((lo : Int) + (hi_ : Int)))) / 2) = (((lo + hi_) / 2 : Nat) : Int) := by
    rw [w64 (x := (lo : Int) + (hi_ : Int)) (by omega) (by omega), show IntKind.u64.wrap ((lo : Int) + (hi_ : Int)) = (lo : Int) + (hi_ : Int) from by simp only [IntKind.wrap, IntKind.bits, IntKind.signed]; simp; omega, w64 (by omega) (by omega)]
    omega
   obtain ⟨mid, hm⟩ : ∃ mid, mid = (lo + hi_) / 2 := ⟨_, rfl⟩
   rw [← hm] at hmid
   have hml : lo ≤ mid := by omega
   have hmh : mid < hi_ := by omega
   have hat := lo_at hs (bytesOf w) mid (by omega)
   rw [← num_at] at hat
   by_cases c : mid < loOf (a.map bytesOf) (bytesOf w)
   ·obtain ⟨f, hf⟩ := ih (mid + 1) hi_ (by omega) (by omega) h3 h4
    refine ⟨f, Ev.step (fun k => ?_) hf⟩
    rw [slices_BinarySearch_string_string.l0, ip (by omega), hmid, ip (by omega), ip (by omega), less_eq, bs, rdStr, decide_eq_true (hat.2 c), ip rfl, w64 (by omega) (by omega)]
    rfl
   ·obtain ⟨f, hf⟩ := ih lo mid (by omega) h2 (by omega) (by omega)
    refine ⟨f, Ev.step (fun k => ?_) hf⟩
    rw [slices_BinarySearch_string_string.l0, ip (by omega), hmid, ip (by omega), ip (by omega), less_eq, bs, rdStr, decide_eq_false (fun h => c (hat.1 h)), iq (by decide)]
  ·exact ih lo hi_ (by omega) h2 h3 h4
theorem headRows_l0 (a : List ByteArray) (w : ByteArray) (u : Int) (ha : a.length ≤ 1000) (hs : (a.map bytesOf).Pairwise fun x y => Fv.cmpB x y ≤ 0) (n : Nat) : ∀ i : Nat, i + n = hiOf (a.map bytesOf) (bytesOf w) → loOf (a.map bytesOf) (bytesOf w) ≤ i → Ev (fun k => impl_headRows.l0 k a w u (i : Int)) (u, (hiOf (a.map bytesOf) (bytesOf w) : Int)) := by
 have hlen : (a.map bytesOf).length = a.length := List.length_map _
 have hle := hi_le (a.map bytesOf) (bytesOf w)
 induction n with
 | zero =>
  intro i h h1
  have e : hiOf (a.map bytesOf) (bytesOf w) = i := by omega
  refine Ev.step (f := fun _ => some _) (fun k => ?_) (Ev.now _)
  rw [e]
  by_cases c : (i : Int) < (a.length : Int)
  ·have hat := hi_at hs (bytesOf w) i (by omega)
   rw [← num_at] at hat
   rw [impl_headRows.l0, ip c, ip (by omega), rdStr, iq]
   intro hq
   rw [Ws.toList_iff] at hq
   have := hat.1 (by rw [hq, Fv.cmpB_self]; decide)
   omega
  ·rw [impl_headRows.l0, iq c]
 | succ n ih =>
  intro i h h1
  have hat := hi_at hs (bytesOf w) i (by omega)
  have hat' := lo_at hs (bytesOf w) i (by omega)
  rw [← num_at] at hat hat'
  refine Ev.step (fun k => ?_) (ih (i + 1) (by omega) (by omega))
  rw [impl_headRows.l0, ip (by omega), ip (by omega), rdStr, ip, w64 (by omega) (by omega)]
  ·rfl
  ·rw [Ws.toList_iff]
   have q1 := hat.2 (by omega)
   have q2 : ¬ Fv.cmpB (bytesOf (a.getD i ByteArray.empty)) (bytesOf w) < 0 := fun h => by have := hat'.1 h; omega
   exact Fv.cmpB_zero _ _ (by omega)
theorem headRows_ev (a : List ByteArray) (w : ByteArray) (ha : a.length ≤ 1000) (hs : (a.map bytesOf).Pairwise fun x y => Fv.cmpB x y ≤ 0) : Ev (fun k => impl_headRows.f k a w) ((loOf (a.map bytesOf) (bytesOf w) : Int), (hiOf (a.map bytesOf) (bytesOf w) : Int)) := by
 have hlen : (a.map bytesOf).length = a.length := List.length_map _
 have hle := hi_le (a.map bytesOf) (bytesOf w)
 have hll := lo_le (a.map bytesOf) (bytesOf w)
 obtain ⟨f, hf⟩ := search_l0 a w ha hs a.length 0 a.length (by omega) (by omega) (by omega) (by omega)
 obtain ⟨K, hK⟩ := ev_out hf
 obtain ⟨K2, hK2⟩ := ev_out (headRows_l0 a w (loOf (a.map bytesOf) (bytesOf w) : Int) ha hs (hiOf (a.map bytesOf) (bytesOf w) - loOf (a.map bytesOf) (bytesOf w)) (loOf (a.map bytesOf) (bytesOf w)) (by omega) (by omega))
 refine ev_mk (K + K2) fun k hk => ?_
 unfold impl_headRows.f slices_BinarySearch_string_string.f
 have h1 := hK k (by omega)
 simp only [Int.natCast_zero] at h1
 rw [h1, bs]
 exact hK2 k (by omega)
theorem concatS_ev (a b : List ByteArray) (ha : a.length ≤ 1000) (hb : b.length ≤ 1000) : Ev (fun k => slices_Concat_string_string.f k [a, b]) (a ++ b) := by
 have r0 : rd_L7 [a, b] 0 = a := rfl
 have r1 : rd_L7 [a, b] 1 = b := rfl
 have hl : (([a, b] : List (List ByteArray)).length : Int) = 2 := rfl
 have h1 : Ev (fun k => slices_Concat_string_string.l1 k [] [a, b] 2 0) (a ++ b) := by
  refine ev_mk 4 fun k hk => ?_
  obtain ⟨k, rfl⟩ : ∃ m, k = m + 3 := ⟨k - 3, by omega⟩
  rw [slices_Concat_string_string.l1, ip (by decide), ip (by decide), ip (by rw [hl]; decide), r0, ip (by simp only [List.length_nil]; omega), List.nil_append, show wrap64 (0 + 1) = 1 from w64 (x := 1) (by omega) (by omega),
   slices_Concat_string_string.l1, ip (by decide), ip (by decide), ip (by rw [hl]; decide), r1, ip (by omega), show wrap64 (1 + 1) = 2 from w64 (x := 2) (by omega) (by omega), slices_Concat_string_string.l1, iq (by decide)]
 obtain ⟨K1, k1⟩ := ev_out h1
 refine ev_mk (K1 + 4) fun k hk => ?_
 unfold slices_Concat_string_string.f
 obtain ⟨k, rfl⟩ : ∃ m, k = m + 3 := ⟨k - 3, by omega⟩
 have w1 : wrap64 (0 + (a.length : Int)) = (a.length : Int) := by rw [Int.zero_add]; exact w64 (by omega) (by omega)
 have w2 : wrap64 ((a.length : Int) + (b.length : Int)) = (a.length : Int) + (b.length : Int) := w64 (by omega) (by omega)
 rw [hl, slices_Concat_string_string.l0, ip (by decide), ip (by decide), ip (by rw [hl]; decide), r0, w1, iq (by omega), show wrap64 (0 + 1) = 1 from w64 (x := 1) (by omega) (by omega),
  slices_Concat_string_string.l0, ip (by decide), ip (by decide), ip (by rw [hl]; decide), r1, w2, iq (by omega), show wrap64 (1 + 1) = 2 from w64 (x := 2) (by omega) (by omega), slices_Concat_string_string.l0, iq (by decide)]
 unfold slices_Grow_nil82.f
 rw [ip (by omega), bs, hl]
 exact k1 k (by omega)
theorem implParts_l0 (a b ws : List ByteArray) (A B : LL) (hA : a.map bytesOf = A) (hB : b.map bytesOf = B) (hws : ws.map bytesOf = wordsL (A ++ B)) (ha : a.length ≤ 1000) (hb : b.length ≤ 1000) (hl : ws.length ≤ 1000) (sA : A.Pairwise fun x y => Fv.cmpB x y ≤ 0) (sB : B.Pairwise fun x y => Fv.cmpB x y ≤ 0) (n : Nat) :
  ∀ i : Nat, i + n = ws.length → Ev (fun k => impl_parts.l0 k a b ws (i : Int) ((partsL A B).take i)) (partsL A B) := by
 have hW : (wordsL (A ++ B)).length = ws.length := by rw [← hws, List.length_map]
 have hL := partsL_len A B
 induction n with
 | zero =>
  intro i h
  refine Ev.step (f := fun _ => some _) (fun k => ?_) (Ev.now _)
  rw [impl_parts.l0, iq (by omega), List.take_of_length_le (by omega)]
 | succ n ih =>
  intro i h
  obtain ⟨K, hK⟩ := ev_out (headRows_ev a (ws.getD i ByteArray.empty) ha (by rw [hA]; exact sA))
  obtain ⟨K1, hK1⟩ := ev_out (headRows_ev b (ws.getD i ByteArray.empty) hb (by rw [hB]; exact sB))
  obtain ⟨K2, hK2⟩ := ev_out (ih (i + 1) (by omega))
  refine ev_mk (K + K1 + K2 + 1) fun k hk => ?_
  obtain ⟨k, rfl⟩ : ∃ m, k = m + 1 := ⟨k - 1, by omega⟩
  have h2 := hK2 k (by omega)
  rw [take_succ_getD _ z48 i (by omega), partsL_at A B i (by omega)] at h2
  have e := num_at ws i
  rw [hws] at e
  have h3 := hK k (by omega)
  have h4 := hK1 k (by omega)
  rw [hA, e] at h3
  rw [hB, e] at h4
  rw [impl_parts.l0, ip (by omega), ip (by omega), rdStr, h3, bs, h4, bs, ip (by rw [List.length_take]; omega), w64 (by omega) (by omega), e]
  exact h2
theorem implParts_ev (a b : List Int) (d : Int) (ha : a.length ≤ 300) (hb : b.length ≤ 300) (ba : bytesOk a) (bb : bytesOk b) (h0 : 0 ≤ d) (h8 : d ≤ 8) : Ev (fun k => impl_parts.f k a b d) (partsAB a b d) := by
 have lA := headsS_len a d
 have lB := headsS_len b d
 have nA := headsS_num a ba d
 have nB := headsS_num b bb d
 have hw : (Srt.wordsOf (headsS a d ++ headsS b d)).map bytesOf = wordsL (headsOf a d.toNat ++ headsOf b d.toNat) := by rw [Ws.words_num, List.map_append, nA, nB]
 have hwl := Ws.words_len (headsS a d ++ headsS b d)
 rw [List.length_append] at hwl
 obtain ⟨K, hK⟩ := ev_out (implHeads_ev a ha ba d h0 h8)
 obtain ⟨K1, hK1⟩ := ev_out (implHeads_ev b hb bb d h0 h8)
 obtain ⟨K2, hK2⟩ := ev_out (concatS_ev (headsS a d) (headsS b d) (by omega) (by omega))
 obtain ⟨K3, hK3⟩ := ev_out (implParts_l0 (headsS a d) (headsS b d) _ _ _ nA nB hw (by omega) (by omega) (by omega) (headsOf_sorted _ _) (headsOf_sorted _ _) _ 0 (Nat.zero_add _))
 refine ev_mk (K + K1 + K2 + K3) fun k hk => ?_
 unfold impl_parts.f
 rw [hK k (by omega), bs, hK1 k (by omega), bs, hK2 k (by omega), bs, ip]
 ·exact hK3 k (by omega)
 ·refine ⟨by rw [List.length_append]; omega, fun x hx => ?_⟩
  rcases List.mem_append.1 hx with hx | hx
  ·have := headsS_size a d x hx; omega
  ·have := headsS_size b d x hx; omega
theorem rdT56' (l : List S56) (i : Nat) : rd_T56 l (i : Int) = l.getD i z56 := by unfold rd_T56; rw [Int.toNat_natCast]
def cutOf (x : List Int) (lo hi_ : Int) : List Int := (x.take hi_.toNat).drop lo.toNat
def movedOf (p : S48) (s : S56) : S56 := ⟨wrap64 (s.f0 + p.f1), wrap64 (s.f1 + p.f3)⟩
def sharesOf (u : Int) (x y : List Int) (p : S48) : List S56 := (withinOf (cutOf x p.f1 p.f2) (cutOf y p.f3 p.f4) u).map (movedOf p)
theorem sharesOf_len (u : Int) (x y : List Int) (p : S48) : (sharesOf u x y p).length ≤ 301 := by unfold sharesOf; rw [List.length_map]; exact withinOf_len _ _ _
def shareAll (u : Int) (x y : List Int) (P : List S48) : List S56 := P.flatMap (sharesOf u x y)
theorem shareAll_len (u : Int) (x y : List Int) (P : List S48) : (shareAll u x y P).length ≤ 301 * P.length := by
 unfold shareAll
 induction P with
 | nil => simp
 | cons p P ih =>
  have := sharesOf_len u x y p
  rw [List.flatMap_cons, List.length_append, List.length_cons]
  omega
def PartIn (x y : List Int) (p : S48) : Prop := 0 ≤ p.f1 ∧ p.f1 ≤ p.f2 ∧ p.f2 ≤ (x.length : Int) ∧ 0 ≤ p.f3 ∧ p.f3 ≤ p.f4 ∧ p.f4 ≤ (y.length : Int)
theorem shareAll_snoc (u : Int) (x y : List Int) (P : List S48) (i : Nat) (h : i < P.length) : shareAll u x y (P.take (i + 1)) = shareAll u x y (P.take i) ++ sharesOf u x y (P.getD i z48) := by
 rw [take_succ_getD P z48 i h]
 unfold shareAll
 rw [List.flatMap_append, List.flatMap_cons, List.flatMap_nil, List.append_nil]
theorem specShare_l1 (u : Int) (x y : List Int) (P : List S48) (i : Nat) (hi : i < P.length) (hP : P.length ≤ 1000) (acc : List S56) (hacc : acc.length ≤ 400000) (W : List S56) (hW : W.length ≤ 301) (p : S48) (r : List S56)
  (hr : Ev (fun k => spec_ShareOf.l0 k u (acc ++ W.map (movedOf p)) ((i + 1 : Nat) : Int) P x y) r) (n : Nat) : ∀ j : Nat, j + n = W.length → Ev (fun k => spec_ShareOf.l1 k u (acc ++ (W.take j).map (movedOf p)) (i : Int) (j : Int) P x y W p.f0 p.f1 p.f2 p.f3 p.f4) r := by
 induction n with
 | zero =>
  intro j h
  refine Ev.step (fun k => ?_) hr
  rw [spec_ShareOf.l1, iq (by omega), List.take_of_length_le (by omega), w64 (by omega) (by omega)]
  rfl
 | succ n ih =>
  intro j h
  have h1 := ih (j + 1) (by omega)
  rw [take_succ_getD W z56 j (by omega), List.map_append, ← List.append_assoc] at h1
  refine Ev.step (fun k => ?_) h1
  rw [spec_ShareOf.l1, ip (by omega), ip (by omega), ip (by rw [List.length_append, List.length_map, List.length_take]; omega), w64 (x := (j : Int) + 1) (by omega) (by omega), rdT56']
  rfl
theorem specShare_l0 (u : Int) (x y : List Int) (P : List S48) (hP : P.length ≤ 1000) (hin : ∀ p ∈ P, PartIn x y p) (n : Nat) : ∀ i : Nat, i + n = P.length → Ev (fun k => spec_ShareOf.l0 k u (shareAll u x y (P.take i)) (i : Int) P x y) (shareAll u x y P) := by
 induction n with
 | zero =>
  intro i h
  refine Ev.step (f := fun _ => some _) (fun k => ?_) (Ev.now _)
  rw [spec_ShareOf.l0, iq (by omega), List.take_of_length_le (by omega)]
 | succ n ih =>
  intro i h
  have h1 := ih (i + 1) (by omega)
  rw [shareAll_snoc u x y P i (by omega)] at h1
  have hl := shareAll_len u x y (P.take i)
  have hl2 : (P.take i).length ≤ 1000 := by rw [List.length_take]; omega
  obtain ⟨q1, q2, q3, q4, q5, q6⟩ : PartIn x y (P.getD i z48) := by rw [lget_lt P i _ (by omega)]; exact hin _ (List.getElem_mem _)
  have hc := specCommonWithin_ev (cutOf x (P.getD i z48).f1 (P.getD i z48).f2) (cutOf y (P.getD i z48).f3 (P.getD i z48).f4) u
  obtain ⟨K, hK⟩ := ev_out hc
  obtain ⟨K2, hK2⟩ := ev_out (specShare_l1 u x y P i (by omega) hP (shareAll u x y (P.take i)) (by omega) _ (withinOf_len (cutOf x (P.getD i z48).f1 (P.getD i z48).f2) (cutOf y (P.getD i z48).f3 (P.getD i z48).f4) u) (P.getD i z48) _ h1 _ 0 (Nat.zero_add _))
  refine ev_mk (K + K2 + 1) fun k hk => ?_
  obtain ⟨k, rfl⟩ : ∃ m, k = m + 1 := ⟨k - 1, by omega⟩
  have h2 := hK2 k (by omega)
  rw [List.take_zero, List.map_nil, List.append_nil] at h2
  have h3 := hK k (by omega)
  unfold cutOf at h3 h2
  rw [spec_ShareOf.l0, ip (by omega), ip (by omega), rdT48, ip q1, ip q2, ip q3, ip q4, ip q5, ip q6, h3, bs]
  exact h2
theorem implShare_l1 (u : Int) (x y : List Int) (P : List S48) (m : Int) (i : Nat) (hi : i < P.length) (hP : P.length ≤ 1000) (acc : List S56) (hacc : acc.length ≤ 400000) (W : List S56) (hW : W.length ≤ 301) (p : S48) (r : List S56)
  (hr : Ev (fun k => impl_shareOf.l0 k u (acc ++ W.map (movedOf p)) x y P m ((i + 1 : Nat) : Int)) r) (n : Nat) : ∀ j : Nat, j + n = W.length → Ev (fun k => impl_shareOf.l1 k u (acc ++ (W.take j).map (movedOf p)) x y P m (i : Int) W (W.length : Int) (j : Int) p.f0 p.f1 p.f2 p.f3 p.f4) r := by
 induction n with
 | zero =>
  intro j h
  refine Ev.step (fun k => ?_) hr
  rw [impl_shareOf.l1, iq (by omega), List.take_of_length_le (by omega), w64 (by omega) (by omega)]
  rfl
 | succ n ih =>
  intro j h
  have h1 := ih (j + 1) (by omega)
  rw [take_succ_getD W z56 j (by omega), List.map_append, ← List.append_assoc] at h1
  refine Ev.step (fun k => ?_) h1
  rw [impl_shareOf.l1, ip (by omega), ip (by omega), ip (by omega), ip (by rw [List.length_append, List.length_map, List.length_take]; omega), w64 (x := (j : Int) + 1) (by omega) (by omega), rdT56']
  rfl
theorem implShare_l0 (u : Int) (x y : List Int) (P : List S48) (hP : P.length ≤ 1000) (hin : ∀ p ∈ P, PartIn x y p) (n : Nat) : ∀ i : Nat, i + n = P.length → Ev (fun k => impl_shareOf.l0 k u (shareAll u x y (P.take i)) x y P (P.length : Int) (i : Int)) (shareAll u x y P) := by
 induction n with
 | zero =>
  intro i h
  refine Ev.step (f := fun _ => some _) (fun k => ?_) (Ev.now _)
  rw [impl_shareOf.l0, iq (by omega), List.take_of_length_le (by omega)]
 | succ n ih =>
  intro i h
  have h1 := ih (i + 1) (by omega)
  rw [shareAll_snoc u x y P i (by omega)] at h1
  have hl := shareAll_len u x y (P.take i)
  have hl2 : (P.take i).length ≤ 1000 := by rw [List.length_take]; omega
  obtain ⟨q1, q2, q3, q4, q5, q6⟩ : PartIn x y (P.getD i z48) := by rw [lget_lt P i _ (by omega)]; exact hin _ (List.getElem_mem _)
  have hc := implCommonWithin_ev (cutOf x (P.getD i z48).f1 (P.getD i z48).f2) (cutOf y (P.getD i z48).f3 (P.getD i z48).f4) u
  obtain ⟨K, hK⟩ := ev_out hc
  obtain ⟨K2, hK2⟩ := ev_out (implShare_l1 u x y P (P.length : Int) i (by omega) hP (shareAll u x y (P.take i)) (by omega) _ (withinOf_len (cutOf x (P.getD i z48).f1 (P.getD i z48).f2) (cutOf y (P.getD i z48).f3 (P.getD i z48).f4) u) (P.getD i z48) _ h1 _ 0 (Nat.zero_add _))
  refine ev_mk (K + K2 + 1) fun k hk => ?_
  obtain ⟨k, rfl⟩ : ∃ m, k = m + 1 := ⟨k - 1, by omega⟩
  have h2 := hK2 k (by omega)
  rw [List.take_zero, List.map_nil, List.append_nil] at h2
  have h3 := hK k (by omega)
  unfold cutOf at h3 h2
  rw [impl_shareOf.l0, ip (by omega), ip (by omega), ip (by omega), rdT48, ip q1, ip q2, ip q3, ip q4, ip q5, ip q6, h3, bs]
  exact h2
theorem parts_in (a b : List Int) (d : Int) : ∀ p ∈ partsAB a b d, PartIn (bwtL a) (bwtL b) p := by
 intro p hp
 obtain ⟨w, _, rfl⟩ := List.mem_map.1 hp
 have h1 := lo_le (headsOf a d.toNat) w
 have h2 := hi_le (headsOf a d.toNat) w
 have h3 := lo_le (headsOf b d.toNat) w
 have h4 := hi_le (headsOf b d.toNat) w
 rw [headsOf_len] at h2 h4
 have l1 := bwtL_len a
 have l2 := bwtL_len b
 refine ⟨?_, ?_, ?_, ?_, ?_, ?_⟩ <;> simp only [partOf] <;> omega
theorem parts_small (a b : List Int) (ha : a.length ≤ 300) (hb : b.length ≤ 300) (d : Int) : (partsAB a b d).length ≤ 1000 := by
 unfold partsAB
 rw [partsL_len]
 exact (smalls_words (smalls_two a b ha hb d.toNat)).1
def shareL (a b : List Int) (d u : Int) : List S56 := if fitB a b d = true then shareAll u (bwtL a) (bwtL b) (partsAB a b d) else []
theorem shareL_len (a b : List Int) (d u : Int) : (shareL a b d u).length ≤ 301000 := by
 unfold shareL
 split
 ·rename_i h
  have h' := of_decide_eq_true h
  have h1 := shareAll_len u (bwtL a) (bwtL b) (partsAB a b d)
  have h2 := parts_small a b h'.1 h'.2.1 d
  omega
 ·simp
theorem bwt_any (a : List Int) (ha : bytesOk a) : ∃ r, Ev (fun k => spec_BwtOf.f k a) r := by
 by_cases h : a.length ≤ 300
 ·exact ⟨_, specBwt_ev a h ha⟩
 ·refine ⟨[], ev_mk 1 fun k hk => ?_⟩
  obtain ⟨k, rfl⟩ : ∃ m, k = m + 1 := ⟨k - 1, by omega⟩
  unfold spec_BwtOf.f spec_SuffixRows.f spec_TextOk.f
  rw [bs, decide_eq_false (by omega), iq (by decide), bs, spec_BwtOf.l0, iq (by decide)]
theorem specShareOf_ev (a b : List Int) (d u : Int) (ha : bytesOk a) (hb : bytesOk b) : Ev (fun k => spec_ShareOf.f k a b d u) (shareL a b d u) := by
 by_cases h : fitB a b d = true
 ·have h' := of_decide_eq_true h
  obtain ⟨K, hK⟩ := ev_out (specParts_ev a b d h'.1 h'.2.1 h'.2.2.1 h'.2.2.2)
  obtain ⟨K1, hK1⟩ := ev_out (specBwt_ev a h'.1 ha)
  obtain ⟨K2, hK2⟩ := ev_out (specBwt_ev b h'.2.1 hb)
  obtain ⟨K3, hK3⟩ := ev_out (specShare_l0 u (bwtL a) (bwtL b) (partsAB a b d) (parts_small a b h'.1 h'.2.1 d) (parts_in a b d) _ 0 (Nat.zero_add _))
  refine ev_mk (K + K1 + K2 + K3) fun k hk => ?_
  unfold spec_ShareOf.f shareL
  rw [hK k (by omega), bs, hK1 k (by omega), bs, hK2 k (by omega), bs, ip h]
  exact hK3 k (by omega)
 ·obtain ⟨x, hx⟩ := bwt_any a ha
  obtain ⟨y, hy⟩ := bwt_any b hb
  obtain ⟨K1, hK1⟩ := ev_out hx
  obtain ⟨K2, hK2⟩ := ev_out hy
  refine ev_mk (K1 + K2 + 1) fun k hk => ?_
  obtain ⟨k, rfl⟩ : ∃ m, k = m + 1 := ⟨k - 1, by omega⟩
  unfold spec_ShareOf.f shareL
  rw [specParts_no a b d (by simpa using h), bs, hK1 (k + 1) (by omega), bs, hK2 (k + 1) (by omega), bs, iq h, spec_ShareOf.l0, iq (by decide)]
theorem implShare_ev (a b : List Int) (d u : Int) (ha : bytesOk a) (hb : bytesOk b) (h : fitB a b d = true) : Ev (fun k => impl_shareOf.f k a b d u) (shareL a b d u) := by
 have h' := of_decide_eq_true h
 obtain ⟨K, hK⟩ := ev_out (implParts_ev a b d h'.1 h'.2.1 ha hb h'.2.2.1 h'.2.2.2)
 obtain ⟨K1, hK1⟩ := ev_out (implBwt_ev a h'.1 ha)
 obtain ⟨K2, hK2⟩ := ev_out (implBwt_ev b h'.2.1 hb)
 obtain ⟨K3, hK3⟩ := ev_out (implShare_l0 u (bwtL a) (bwtL b) (partsAB a b d) (parts_small a b h'.1 h'.2.1 d) (parts_in a b d) _ 0 (Nat.zero_add _))
 refine ev_mk (K + K1 + K2 + K3) fun k hk => ?_
 unfold impl_shareOf.f shareL
 rw [hK1 k (by omega), bs, hK2 k (by omega), bs, hK k (by omega), bs, ip h]
 exact hK3 k (by omega)
theorem areListed_eq' (a b : List Int) : impl_areListed.f a b = some (decide (a.length ≤ 301 ∧ b.length ≤ 301)) := by
 unfold impl_areListed.f
 by_cases ha : a.length ≤ 301
 ·rw [ip (by omega)]
  congr 1
  by_cases hb : b.length ≤ 301
  ·rw [decide_eq_true (by omega), decide_eq_true ⟨ha, hb⟩]
  ·rw [decide_eq_false (by omega), decide_eq_false (fun h => hb h.2)]
 ·rw [iq (by omega), decide_eq_false (fun h => ha h.1)]
def good (a b : List Int) (l : List S56) (i : Nat) : Prop :=
 0 ≤ (l.getD i z56).f0 ∧ (l.getD i z56).f0 < (a.length : Int) ∧ 0 ≤ (l.getD i z56).f1 ∧ (l.getD i z56).f1 < (b.length : Int) ∧ rd a (l.getD i z56).f0 = rd b (l.getD i z56).f1 ∧
 (0 < i → (l.getD (i - 1) z56).f0 < (l.getD i z56).f0 ∧ (l.getD (i - 1) z56).f1 < (l.getD i z56).f1)
instance (a b : List Int) (l : List S56) (i : Nat) : Decidable (good a b l i) := by unfold good; infer_instance
def goodFrom (a b : List Int) (l : List S56) : Nat → Nat → Bool
 | 0, _ => true
 | d + 1, i => if good a b l i then goodFrom a b l d (i + 1) else false
theorem spec_j2_true (a b : List Int) (l : List S56) (i x y : Int) : Ev (fun k => spec_CommonOk.j2 k a b l i true x y) false :=
 Ev.step (f := fun _ => some false) (fun k => by rw [spec_CommonOk.j2, ip rfl]) (Ev.now _)
theorem spec_j3_true (a b : List Int) (l : List S56) (i : Int) : Ev (fun k => spec_CommonOk.j3 k a b l i true) false :=
 Ev.step (f := fun _ => some false) (fun k => by rw [spec_CommonOk.j3, ip rfl]) (Ev.now _)
theorem impl_j1_true (a b : List Int) (l m : List S56) (n i : Int) : Ev (fun k => impl_CommonOk.j1 k a b l m n i true) false :=
 Ev.step (f := fun _ => some false) (fun k => by rw [impl_CommonOk.j1, ip rfl]) (Ev.now _)
theorem specCommonOk_l0 (a b : List Int) (l : List S56) (hl : l.length ≤ 1048576) (d : Nat) : ∀ i : Nat, i + d = l.length → Ev (fun k => spec_CommonOk.l0 k a b l (i : Int)) (goodFrom a b l d i) := by
 induction d with
 | zero =>
  intro i h
  refine Ev.step (f := fun _ => some true) (fun k => ?_) (Ev.now _)
  rw [spec_CommonOk.l0, iq (by omega)]
 | succ d ih =>
  intro i h
  unfold goodFrom
  by_cases g : good a b l i
  ·rw [ip g]
   obtain ⟨g1, g2, g3, g4, g5, g6⟩ := g
   have hn := ih (i + 1) (by omega)
   have h3 : Ev (fun k => spec_CommonOk.j3 k a b l (i : Int) false) (goodFrom a b l d (i + 1)) := by
    refine Ev.step (fun k => ?_) hn
    rw [spec_CommonOk.j3, iq (by decide), w64 (by omega) (by omega)]
    rfl
   have h2 : Ev (fun k => spec_CommonOk.j2 k a b l (i : Int) false (l.getD i z56).f0 (l.getD i z56).f1) (goodFrom a b l d (i + 1)) := by
    refine Ev.step (fun k => ?_) h3
    rw [spec_CommonOk.j2, iq (by decide)]
    by_cases hi : 0 < i
    ·obtain ⟨q1, q2⟩ := g6 hi
     have e : (i : Int) - 1 = ((i - 1 : Nat) : Int) := by omega
     rw [ip (by omega), w64 (by omega) (by omega), e, ip (by omega), ip (by omega), rdT56, iq (by omega), decide_eq_false (by omega)]
    ·rw [iq (by omega)]
   refine Ev.step (fun k => ?_) h2
   rw [spec_CommonOk.l0, ip (by omega), ip (by omega), rdT56, iq (by omega), iq (by omega), iq (by omega), iq (by omega), ip g1, ip g2, ip g3, ip g4, g5]
   simp
  ·rw [iq g]
   have step : ∀ x : Bool, (Ev (fun k => spec_CommonOk.j2 k a b l (i : Int) x (l.getD i z56).f0 (l.getD i z56).f1) false) → (∀ k, spec_CommonOk.l0 (k + 1) a b l (i : Int) = spec_CommonOk.j2 k a b l (i : Int) x (l.getD i z56).f0 (l.getD i z56).f1) → Ev (fun k => spec_CommonOk.l0 k a b l (i : Int)) false := fun x h1 h2 => Ev.step h2 h1
   by_cases c1 : (l.getD i z56).f0 < 0
   ·exact step true (spec_j2_true _ _ _ _ _ _) (fun k => by rw [spec_CommonOk.l0, ip (by omega), ip (by omega), rdT56, ip c1])
   by_cases c2 : (l.getD i z56).f0 ≥ (a.length : Int)
   ·exact step true (spec_j2_true _ _ _ _ _ _) (fun k => by rw [spec_CommonOk.l0, ip (by omega), ip (by omega), rdT56, iq c1, ip c2])
   by_cases c3 : (l.getD i z56).f1 < 0
   ·exact step true (spec_j2_true _ _ _ _ _ _) (fun k => by rw [spec_CommonOk.l0, ip (by omega), ip (by omega), rdT56, iq c1, iq c2, ip c3])
   by_cases c4 : (l.getD i z56).f1 ≥ (b.length : Int)
   ·exact step true (spec_j2_true _ _ _ _ _ _) (fun k => by rw [spec_CommonOk.l0, ip (by omega), ip (by omega), rdT56, iq c1, iq c2, iq c3, ip c4])
   by_cases c5 : rd a (l.getD i z56).f0 = rd b (l.getD i z56).f1
   ·refine step false ?_ (fun k => by rw [spec_CommonOk.l0, ip (by omega), ip (by omega), rdT56, iq c1, iq c2, iq c3, iq c4, ip (by omega), ip (by omega), ip (by omega), ip (by omega), c5]; simp)
    have hi : 0 < i := by
     rcases Nat.eq_zero_or_pos i with h0 | h0
     ·exact absurd ⟨by omega, by omega, by omega, by omega, c5, fun hp => by omega⟩ g
     ·exact h0
    have e : (i : Int) - 1 = ((i - 1 : Nat) : Int) := by omega
    by_cases c6 : (l.getD (i - 1) z56).f0 ≥ (l.getD i z56).f0
    ·refine Ev.step (fun k => ?_) (spec_j3_true a b l (i : Int))
     rw [spec_CommonOk.j2, iq (by decide), ip (by omega), w64 (by omega) (by omega), e, ip (by omega), ip (by omega), rdT56, ip c6]
    ·refine Ev.step (fun k => ?_) (spec_j3_true a b l (i : Int))
     have c7 : (l.getD (i - 1) z56).f1 ≥ (l.getD i z56).f1 := by
      by_cases h7 : (l.getD (i - 1) z56).f1 < (l.getD i z56).f1
      ·exact absurd ⟨by omega, by omega, by omega, by omega, c5, fun _ => ⟨by omega, h7⟩⟩ g
      ·omega
     rw [spec_CommonOk.j2, iq (by decide), ip (by omega), w64 (by omega) (by omega), e, ip (by omega), ip (by omega), rdT56, iq c6, decide_eq_true c7]
   ·exact step true (spec_j2_true _ _ _ _ _ _) (fun k => by rw [spec_CommonOk.l0, ip (by omega), ip (by omega), rdT56, iq c1, iq c2, iq c3, iq c4, ip (by omega), ip (by omega), ip (by omega), ip (by omega), show (rd a (l.getD i z56).f0 != rd b (l.getD i z56).f1) = true from bne_iff_ne.2 c5])
theorem within_eq (x lo hi : Int) : impl_within.f x lo hi = some (decide (lo ≤ x ∧ x ≤ hi)) := by
 unfold impl_within.f
 by_cases h : lo ≤ x
 ·rw [ip h]
  congr 1
  by_cases h2 : x ≤ hi
  ·rw [decide_eq_true h2, decide_eq_true ⟨h, h2⟩]
  ·rw [decide_eq_false h2, decide_eq_false (fun q => h2 q.2)]
 ·rw [iq h, decide_eq_false (fun q => h q.1)]
theorem implCommonOk_l0 (a b : List Int) (ha : a.length ≤ 1048576) (hb : b.length ≤ 1048576) (l : List S56) (hl : l.length ≤ 1048576) (d : Nat) : ∀ i : Nat, i + d = l.length → Ev (fun k => impl_CommonOk.l0 k a b l l (l.length : Int) (i : Int)) (goodFrom a b l d i) := by
 induction d with
 | zero =>
  intro i h
  refine Ev.step (f := fun _ => some true) (fun k => ?_) (Ev.now _)
  rw [impl_CommonOk.l0, iq (by omega)]
 | succ d ih =>
  intro i h
  unfold goodFrom
  have ew : wrap64 ((a.length : Int) - 1) = (a.length : Int) - 1 := w64 (by omega) (by omega)
  have ew2 : wrap64 ((b.length : Int) - 1) = (b.length : Int) - 1 := w64 (by omega) (by omega)
  by_cases g : good a b l i
  ·rw [ip g]
   obtain ⟨g1, g2, g3, g4, g5, g6⟩ := g
   have hn := ih (i + 1) (by omega)
   have h1 : Ev (fun k => impl_CommonOk.j1 k a b l l (l.length : Int) (i : Int) false) (goodFrom a b l d (i + 1)) := by
    refine Ev.step (fun k => ?_) hn
    rw [impl_CommonOk.j1, iq (by decide), w64 (by omega) (by omega)]
    rfl
   refine Ev.step (fun k => ?_) h1
   rw [impl_CommonOk.l0, ip (by omega), ip (by omega), ip (by omega), rdT56, ew, ew2, within_eq, bs, ip (decide_eq_true ⟨g1, by omega⟩), within_eq, bs, ip (decide_eq_true ⟨g3, by omega⟩), ip g1, ip g2, ip g3, ip g4, ip g5]
   by_cases hi : 0 < i
   ·obtain ⟨q1, q2⟩ := g6 hi
    have e : (i : Int) - 1 = ((i - 1 : Nat) : Int) := by omega
    rw [ip (by omega), w64 (by omega) (by omega), e, ip (by omega), ip (by omega), rdT56, iq (by omega), decide_eq_false (by omega)]
   ·rw [iq (by omega)]
  ·rw [iq g]
   refine Ev.step (fun k => ?_) (impl_j1_true a b l l (l.length : Int) (i : Int))
   rw [impl_CommonOk.l0, ip (by omega), ip (by omega), ip (by omega), rdT56, ew, ew2, within_eq, bs]
   by_cases c1 : 0 ≤ (l.getD i z56).f0 ∧ (l.getD i z56).f0 ≤ (a.length : Int) - 1
   ·rw [ip (decide_eq_true c1), within_eq, bs]
    by_cases c2 : 0 ≤ (l.getD i z56).f1 ∧ (l.getD i z56).f1 ≤ (b.length : Int) - 1
    ·rw [ip (decide_eq_true c2), ip (by omega), ip (by omega), ip (by omega), ip (by omega)]
     by_cases c5 : rd a (l.getD i z56).f0 = rd b (l.getD i z56).f1
     ·have hi : 0 < i := by
       rcases Nat.eq_zero_or_pos i with h0 | h0
       ·exact absurd ⟨by omega, by omega, by omega, by omega, c5, fun hp => by omega⟩ g
       ·exact h0
      have e : (i : Int) - 1 = ((i - 1 : Nat) : Int) := by omega
      rw [ip c5, ip (by omega), w64 (by omega) (by omega), e, ip (by omega), ip (by omega), rdT56]
      by_cases c6 : (l.getD i z56).f0 ≤ (l.getD (i - 1) z56).f0
      ·rw [ip c6]
      ·rw [iq c6]
       have c7 : (l.getD i z56).f1 ≤ (l.getD (i - 1) z56).f1 := by
        by_cases h7 : (l.getD (i - 1) z56).f1 < (l.getD i z56).f1
        ·exact absurd ⟨by omega, by omega, by omega, by omega, c5, fun _ => ⟨by omega, h7⟩⟩ g
        ·omega
       rw [decide_eq_true c7]
     ·rw [iq c5]
    ·rw [iq (by rw [decide_eq_false c2]; decide)]
   ·rw [iq (by rw [decide_eq_false c1]; decide)]
def okOf (a b : List Int) (l : List S56) : Bool := if a.length ≤ 301 ∧ b.length ≤ 301 then goodFrom a b l l.length 0 else false
theorem specCommonOk_ev (a b : List Int) (l : List S56) (hl : l.length ≤ 1048576) : Ev (fun k => spec_CommonOk.f k a b l) (okOf a b l) := by
 have no : ∀ (h : ¬ (a.length ≤ 301 ∧ b.length ≤ 301)), Ev (fun k => spec_CommonOk.j0 k a b l true) (okOf a b l) := fun h => by
  refine Ev.step (f := fun _ => some (okOf a b l)) (fun k => ?_) (Ev.now _)
  unfold okOf
  rw [spec_CommonOk.j0, ip rfl, iq h]
 by_cases ha : a.length ≤ 301
 ·by_cases hb : b.length ≤ 301
  ·obtain ⟨K, hK⟩ := ev_out (specCommonOk_l0 a b l hl l.length 0 (by omega))
   refine ev_mk (K + 1) fun k hk => ?_
   obtain ⟨k, rfl⟩ : ∃ m, k = m + 1 := ⟨k - 1, by omega⟩
   unfold spec_CommonOk.f spec_l12Right.f okOf
   rw [bs, ip (decide_eq_true (by omega)), bs, decide_eq_true (by omega), Bool.not_true, spec_CommonOk.j0, iq (by decide), ip ⟨ha, hb⟩]
   exact hK k (by omega)
  ·obtain ⟨K, hK⟩ := ev_out (no (fun h => hb h.2))
   refine ev_mk K fun k hk => ?_
   unfold spec_CommonOk.f spec_l12Right.f
   rw [bs, ip (decide_eq_true (by omega)), bs, decide_eq_false (by omega), Bool.not_false]
   exact hK k hk
 ·obtain ⟨K, hK⟩ := ev_out (no (fun h => ha h.1))
  refine ev_mk K fun k hk => ?_
  unfold spec_CommonOk.f spec_l12Right.f
  rw [bs, iq (fun h => ha (by have := of_decide_eq_true h; omega))]
  exact hK k hk
theorem implCommonOk_ev (a b : List Int) (l : List S56) (hl : l.length ≤ 1048576) : Ev (fun k => impl_CommonOk.f k a b l) (okOf a b l) := by
 by_cases h : a.length ≤ 301 ∧ b.length ≤ 301
 ·obtain ⟨K, hK⟩ := ev_out (implCommonOk_l0 a b (by omega) (by omega) l hl l.length 0 (by omega))
  refine ev_mk K fun k hk => ?_
  unfold impl_CommonOk.f okOf
  rw [areListed_eq', bs, ip (decide_eq_true h), ip h]
  exact hK k hk
 ·refine ev_mk 0 fun k _ => ?_
  unfold impl_CommonOk.f okOf
  rw [areListed_eq', bs, iq (by rw [decide_eq_false h]; decide), iq h]
theorem L_mono (a b : List Int) (i i' j : Nat) (h : i ≤ i') : Lcs.L a b i' j ≤ Lcs.L a b i j := by
 induction i' with
 | zero =>
  have : i = 0 := by omega
  rw [this]
  exact Nat.le_refl _
 | succ i' ih =>
  by_cases e : i = i' + 1
  ·rw [e]; omega
  ·have := ih (by omega)
   have := Lcs.L_down a b i' j
   omega
theorem goodFrom_le (a b : List Int) (l : List S56) (d : Nat) : ∀ i, i + (d + 1) = l.length → goodFrom a b l (d + 1) i = true → good a b l i ∧ d + 1 ≤ Lcs.L a b (l.getD i z56).f0.toNat (l.getD i z56).f1.toNat := by
 induction d with
 | zero =>
  intro i h hg
  unfold goodFrom at hg
  by_cases g : good a b l i
  ·refine ⟨g, ?_⟩
   obtain ⟨g1, g2, g3, g4, g5, _⟩ := g
   rw [Lcs.L_eq a b _ _ (by omega) (by omega), ip (by unfold rd at g5; exact g5)]
   omega
  ·rw [iq g] at hg; cases hg
 | succ d ih =>
  intro i h hg
  rw [goodFrom] at hg
  by_cases g : good a b l i
  ·rw [ip g] at hg
   obtain ⟨hn, hle⟩ := ih (i + 1) (by omega) hg
   refine ⟨g, ?_⟩
   obtain ⟨g1, g2, g3, g4, g5, _⟩ := g
   obtain ⟨_, _, _, _, _, n6⟩ := hn
   obtain ⟨q1, q2⟩ := n6 (by omega)
   rw [Nat.add_sub_cancel] at q1 q2
   rw [Lcs.L_eq a b _ _ (by omega) (by omega), ip (by unfold rd at g5; exact g5)]
   have m1 := L_mono a b ((l.getD i z56).f0.toNat + 1) (l.getD (i + 1) z56).f0.toNat ((l.getD i z56).f1.toNat + 1) (by omega)
   have m2 := Lcs.L_mono' a b (l.getD (i + 1) z56).f0.toNat ((l.getD i z56).f1.toNat + 1) (l.getD (i + 1) z56).f1.toNat (by omega)
   omega
  ·rw [iq g] at hg; cases hg
theorem okOf_le {a b : List Int} {l : List S56} (h : okOf a b l = true) : l.length ≤ Lcs.lcs a b := by
 unfold okOf at h
 split at h
 ·cases hl : l.length with
  | zero => omega
  | succ d =>
   rw [hl] at h
   obtain ⟨_, hle⟩ := goodFrom_le a b l d 0 (by omega) h
   have m1 := L_mono a b 0 (l.getD 0 z56).f0.toNat (l.getD 0 z56).f1.toNat (by omega)
   have m2 := Lcs.L_mono' a b 0 0 (l.getD 0 z56).f1.toNat (by omega)
   rw [← Lcs.L_zero]
   omega
 ·cases h
def Chain (a b : List Int) : Nat → Nat → List (Nat × Nat) → Prop
 | _, _, [] => True
 | i, j, p :: ps => i ≤ p.1 ∧ p.1 < a.length ∧ j ≤ p.2 ∧ p.2 < b.length ∧ a.getD p.1 0 = b.getD p.2 0 ∧ Chain a b (p.1 + 1) (p.2 + 1) ps
theorem Chain.less {a b : List Int} {i i' j : Nat} {ps : List (Nat × Nat)} (h : Chain a b i' j ps) (hi : i ≤ i') : Chain a b i j ps := by
 cases ps with
 | nil => trivial
 | cons p ps => obtain ⟨h1, h2⟩ := h; exact ⟨by omega, h2⟩
theorem firstC_chain (a b : List Int) (d : Nat) : ∀ i j, i + d = a.length → j ≤ b.length → Chain a b i j (Lcs.firstC a b d i j) := by
 induction d with
 | zero => intro i j _ _; trivial
 | succ d ih =>
  intro i j h hj
  by_cases h0 : Lcs.L a b i j = 0
  ·rw [Lcs.firstC_none h0]; trivial
  ·cases hn : Lcs.nextAt b (a.getD i 0) (b.length - j) j with
   | none => rw [Lcs.firstC_miss h0 hn]; exact (ih (i + 1) j (by omega) hj).less (by omega)
   | some j0 =>
    obtain ⟨q1, q2, q3, _⟩ := Lcs.nextAt_some b _ _ _ _ hn
    by_cases e : 1 + Lcs.L a b (i + 1) (j0 + 1) = Lcs.L a b i j
    ·rw [Lcs.firstC_hit h0 hn e]
     exact ⟨Nat.le_refl _, by show i < a.length; omega, q1, by show j0 < b.length; omega, q3, ih (i + 1) (j0 + 1) (by omega) (by omega)⟩
    ·rw [Lcs.firstC_pass h0 hn e]
     exact (ih (i + 1) j (by omega) hj).less (by omega)
theorem Chain.at {a b : List Int} : ∀ {ps : List (Nat × Nat)} {i j : Nat}, Chain a b i j ps → ∀ k, k < ps.length →
  i ≤ (ps.getD k (0, 0)).1 ∧ (ps.getD k (0, 0)).1 < a.length ∧ j ≤ (ps.getD k (0, 0)).2 ∧ (ps.getD k (0, 0)).2 < b.length ∧ a.getD (ps.getD k (0, 0)).1 0 = b.getD (ps.getD k (0, 0)).2 0 ∧
  (0 < k → (ps.getD (k - 1) (0, 0)).1 < (ps.getD k (0, 0)).1 ∧ (ps.getD (k - 1) (0, 0)).2 < (ps.getD k (0, 0)).2) := by
 intro ps
 induction ps with
 | nil => intro i j _ k hk; simp at hk
 | cons p ps ih =>
  intro i j h k hk
  obtain ⟨h1, h2, h3, h4, h5, h6⟩ := h
  cases k with
  | zero => exact ⟨h1, h2, h3, h4, h5, fun h => by omega⟩
  | succ k =>
   obtain ⟨q1, q2, q3, q4, q5, q6⟩ := ih h6 k (by simp at hk; omega)
   refine ⟨by rw [List.getD_cons_succ]; omega, by rw [List.getD_cons_succ]; exact q2, by rw [List.getD_cons_succ]; omega, by rw [List.getD_cons_succ]; exact q4, by rw [List.getD_cons_succ]; exact q5, fun _ => ?_⟩
   rw [Nat.add_sub_cancel, List.getD_cons_succ]
   cases k with
   | zero => exact ⟨by show p.1 < _; omega, by show p.2 < _; omega⟩
   | succ k =>
    have := q6 (by omega)
    rw [Nat.add_sub_cancel] at this
    rw [List.getD_cons_succ]
    exact this
theorem map_toS (ps : List (Nat × Nat)) (k : Nat) (h : k < ps.length) : (ps.map toS).getD k z56 = toS (ps.getD k (0, 0)) := by
 rw [lget_lt _ k z56 (by rw [List.length_map]; exact h), List.getElem_map, lget_lt _ k (0, 0) h]
def lostL (a b : List Int) (d u : Int) : Int := if fitB a b d = true then wrap64 (lenOf (bwtL a) (bwtL b) - ((shareL a b d u).length : Int)) else -1
theorem specLost_ev (a b : List Int) (d u : Int) (ha : bytesOk a) (hb : bytesOk b) : Ev (fun k => spec_ShareLost.f k a b d u) (lostL a b d u) := by
 by_cases h : fitB a b d = true
 ·have h' := of_decide_eq_true h
  obtain ⟨K, hK⟩ := ev_out (specShareOf_ev a b d u ha hb)
  obtain ⟨K1, hK1⟩ := ev_out (specBwt_ev a h'.1 ha)
  obtain ⟨K2, hK2⟩ := ev_out (specBwt_ev b h'.2.1 hb)
  obtain ⟨K3, hK3⟩ := ev_out (specCommonLen_ev (bwtL a) (bwtL b))
  refine ev_mk (K + K1 + K2 + K3) fun k hk => ?_
  unfold spec_ShareLost.f lostL
  rw [specFit_eq, bs, ip h, ip h, hK1 k (by omega), bs, hK2 k (by omega), bs, hK3 k (by omega), bs, hK k (by omega), bs]
 ·refine ev_mk 0 fun k _ => ?_
  unfold spec_ShareLost.f lostL
  rw [specFit_eq, bs, iq h, iq h]
theorem implLost_ev (a b : List Int) (d u : Int) (ha : bytesOk a) (hb : bytesOk b) : Ev (fun k => impl_ShareLost.f k a b d u) (lostL a b d u) := by
 by_cases h : fitB a b d = true
 ·have h' := of_decide_eq_true h
  obtain ⟨K, hK⟩ := ev_out (implShare_ev a b d u ha hb h)
  obtain ⟨K1, hK1⟩ := ev_out (implBwt_ev a h'.1 ha)
  obtain ⟨K2, hK2⟩ := ev_out (implBwt_ev b h'.2.1 hb)
  obtain ⟨K3, hK3⟩ := ev_out (implCommonLen_ev (bwtL a) (bwtL b))
  refine ev_mk (K + K1 + K2 + K3) fun k hk => ?_
  unfold impl_ShareLost.f lostL
  rw [isShared_fit, bs, ip h, ip h, hK1 k (by omega), bs, hK2 k (by omega), bs, hK3 k (by omega), bs, hK k (by omega), bs]
 ·refine ev_mk 0 fun k _ => ?_
  unfold impl_ShareLost.f lostL
  rw [isShared_fit, bs, iq h, iq h]
theorem words_at {ws : LL} (hs : ws.Pairwise fun a b => Fv.cmpB a b < 0) (i j : Nat) (hij : i < j) (hj : j < ws.length) : Fv.cmpB (ws.getD i []) (ws.getD j []) < 0 := by
 rw [lget_lt _ i [] (by omega), lget_lt _ j [] hj]
 exact List.pairwise_iff_getElem.1 hs i j (by omega) hj hij
theorem words_of {H A : LL} (hA : ∀ h ∈ A, h ∈ H) {h : List Int} (hh : h ∈ A) : ∃ j, j < (wordsL H).length ∧ (wordsL H).getD j [] = h := by
 obtain ⟨j, hj, e⟩ := List.mem_iff_getElem.1 ((wordsL_mem H h).2 (hA h hh))
 exact ⟨j, hj, by rw [lget_lt _ j [] hj]; exact e⟩
theorem lo_first {H A : LL} (hA : ∀ h ∈ A, h ∈ H) : loOf A ((wordsL H).getD 0 []) = 0 := by
 unfold loOf
 refine List.countP_eq_zero.2 fun h hh => ?_
 obtain ⟨j, hj, e⟩ := words_of hA hh
 rw [decide_eq_true_eq, ← e]
 intro hq
 rcases Nat.eq_zero_or_pos j with rfl | h0
 ·rw [Fv.cmpB_self] at hq; exact absurd hq (by decide)
 ·have := words_at (wordsL_sorted H) 0 j h0 hj
  rw [Fv.cmpB_anti] at this
  omega
theorem lo_next {H A : LL} (hA : ∀ h ∈ A, h ∈ H) (i : Nat) (hi : i + 1 < (wordsL H).length) : loOf A ((wordsL H).getD (i + 1) []) = hiOf A ((wordsL H).getD i []) := by
 unfold loOf hiOf
 refine List.countP_congr fun h hh => ?_
 obtain ⟨j, hj, e⟩ := words_of hA hh
 rw [decide_eq_true_eq, decide_eq_true_eq, ← e]
 have hs := wordsL_sorted H
 rcases Nat.lt_trichotomy j i with c | rfl | c
 ·have q1 := words_at hs j i c (by omega)
  have q2 := words_at hs j (i + 1) (by omega) hi
  constructor <;> intro <;> omega
 ·have q2 := words_at hs j (j + 1) (by omega) hi
  rw [Fv.cmpB_self]
  constructor <;> intro <;> omega
 ·have q1 := words_at hs i j c hj
  rw [Fv.cmpB_anti] at q1
  have q3 : ¬ Fv.cmpB ((wordsL H).getD j []) ((wordsL H).getD (i + 1) []) < 0 := by
   rcases Nat.eq_or_lt_of_le (show i + 1 ≤ j by omega) with e2 | c2
   ·rw [e2, Fv.cmpB_self]; decide
   ·have q2 := words_at hs (i + 1) j c2 hj
    rw [Fv.cmpB_anti] at q2
    omega
  constructor <;> intro <;> omega
def ChainTo (a b : List Int) : Nat → Nat → Nat → Nat → List (Nat × Nat) → Prop
 | i, j, m, n, [] => i ≤ m ∧ j ≤ n
 | i, j, m, n, p :: ps => i ≤ p.1 ∧ p.1 < a.length ∧ j ≤ p.2 ∧ p.2 < b.length ∧ a.getD p.1 0 = b.getD p.2 0 ∧ ChainTo a b (p.1 + 1) (p.2 + 1) m n ps
theorem ChainTo.less {a b : List Int} {i i' j j' m n : Nat} {ps : List (Nat × Nat)} (h : ChainTo a b i' j' m n ps) (hi : i ≤ i') (hj : j ≤ j') : ChainTo a b i j m n ps := by
 cases ps with
 | nil => obtain ⟨h1, h2⟩ := h; exact ⟨by omega, by omega⟩
 | cons p ps => obtain ⟨h1, h2, h3, h4⟩ := h; exact ⟨by omega, h2, by omega, h4⟩
theorem ChainTo.app {a b : List Int} {m n i' j' : Nat} {qs : List (Nat × Nat)} (hq : ChainTo a b m n i' j' qs) : ∀ {ps : List (Nat × Nat)} {i j : Nat}, ChainTo a b i j m n ps → ChainTo a b i j i' j' (ps ++ qs) := by
 intro ps
 induction ps with
 | nil => intro i j h; exact hq.less h.1 h.2
 | cons p ps ih =>
  intro i j h
  obtain ⟨h1, h2, h3, h4, h5, h6⟩ := h
  exact ⟨h1, h2, h3, h4, h5, ih h6⟩
theorem ChainTo.chain {a b : List Int} {m n : Nat} : ∀ {ps : List (Nat × Nat)} {i j : Nat}, ChainTo a b i j m n ps → Chain a b i j ps := by
 intro ps
 induction ps with
 | nil => intro i j _; trivial
 | cons p ps ih =>
  intro i j h
  obtain ⟨h1, h2, h3, h4, h5, h6⟩ := h
  exact ⟨h1, h2, h3, h4, h5, ih h6⟩
theorem cut_len (x : List Int) (m n : Nat) (h : m ≤ n) (hn : n ≤ x.length) : (cutOf x (m : Int) (n : Int)).length = n - m := by
 unfold cutOf
 rw [List.length_drop, List.length_take, Int.toNat_natCast, Int.toNat_natCast]
 omega
theorem cut_at (x : List Int) (m n k : Nat) (h : m + k < n) : (cutOf x (m : Int) (n : Int)).getD k 0 = x.getD (m + k) 0 := by
 unfold cutOf
 rw [Int.toNat_natCast, Int.toNat_natCast, List.getD_eq_getElem?_getD, List.getElem?_drop, List.getElem?_take_of_lt h, ← List.getD_eq_getElem?_getD]
theorem chain_cut (x y : List Int) (m n p q : Nat) (h1 : m ≤ n) (h2 : n ≤ x.length) (h3 : p ≤ q) (h4 : q ≤ y.length) : ∀ (ps : List (Nat × Nat)) (i j : Nat), i ≤ n - m → j ≤ q - p → Chain (cutOf x m n) (cutOf y p q) i j ps → ChainTo x y (m + i) (p + j) n q (ps.map fun z => (m + z.1, p + z.2)) := by
 intro ps
 induction ps with
 | nil => intro i j hi hj _; exact ⟨by omega, by omega⟩
 | cons z ps ih =>
  intro i j hi hj h
  obtain ⟨g1, g2, g3, g4, g5, g6⟩ := h
  rw [cut_len x m n h1 h2] at g2
  rw [cut_len y p q h3 h4] at g4
  rw [cut_at x m n _ (by omega), cut_at y p q _ (by omega)] at g5
  exact ⟨by show m + i ≤ m + z.1; omega, by show m + z.1 < _; omega, by show p + j ≤ p + z.2; omega, by show p + z.2 < _; omega, g5, ih (z.1 + 1) (z.2 + 1) (by omega) (by omega) g6⟩
theorem chain_ok {a b : List Int} (h : a.length ≤ 301 ∧ b.length ≤ 301) {ps : List (Nat × Nat)} (hc : Chain a b 0 0 ps) : okOf a b (ps.map toS) = true := by
 have hall : ∀ k, k < ps.length → good a b (ps.map toS) k := by
  intro k hk
  obtain ⟨q1, q2, q3, q4, q5, q6⟩ := Chain.at hc k hk
  unfold good
  rw [map_toS _ k hk]
  refine ⟨by show (0 : Int) ≤ ((_ : Nat) : Int); omega, by show ((_ : Nat) : Int) < _; omega, by show (0 : Int) ≤ ((_ : Nat) : Int); omega, by show ((_ : Nat) : Int) < _; omega, ?_, fun h0 => ?_⟩
  ·show rd a ((_ : Nat) : Int) = rd b ((_ : Nat) : Int)
   rw [rd_nat, rd_nat]; exact q5
  ·rw [map_toS _ (k - 1) (by omega)]
   obtain ⟨r1, r2⟩ := q6 h0
   exact ⟨by show ((_ : Nat) : Int) < ((_ : Nat) : Int); omega, by show ((_ : Nat) : Int) < ((_ : Nat) : Int); omega⟩
 have go : ∀ d i, i + d = ps.length → goodFrom a b (ps.map toS) d i = true := by
  intro d
  induction d with
  | zero => intro i _; rfl
  | succ d ih =>
   intro i hi
   rw [goodFrom, ip (hall i (by omega))]
   exact ih (i + 1) (by omega)
 unfold okOf
 rw [ip h, List.length_map]
 exact go _ 0 (by omega)
theorem within_chain (a b : List Int) (u : Int) : ∃ ps, withinOf a b u = ps.map toS ∧ Chain a b 0 0 ps := by
 unfold withinOf pairsOf
 split
 ·rename_i h
  split
  ·exact ⟨[], rfl, trivial⟩
  ·exact ⟨_, rfl, firstC_chain a b a.length 0 0 (by omega) (by omega)⟩
 ·exact ⟨[], rfl, trivial⟩
theorem shares_chain (u : Int) (x y : List Int) (hx : x.length ≤ 301) (hy : y.length ≤ 301) (w : List Int) (m n p q : Nat) (h1 : m ≤ n) (h2 : n ≤ x.length) (h3 : p ≤ q) (h4 : q ≤ y.length) :
  ∃ ps, sharesOf u x y ⟨w, (m : Int), (n : Int), (p : Int), (q : Int)⟩ = ps.map toS ∧ ChainTo x y m p n q ps := by
 obtain ⟨ps, e, hc⟩ := within_chain (cutOf x m n) (cutOf y p q) u
 refine ⟨ps.map fun z => (m + z.1, p + z.2), ?_, ?_⟩
 ·unfold sharesOf
  simp only []
  rw [e, List.map_map, List.map_map]
  refine List.map_congr_left fun z hz => ?_
  obtain ⟨k, hk, rfl⟩ := List.mem_iff_getElem.1 hz
  have ha := Chain.at hc k hk
  rw [lget_lt _ k (0, 0) hk, cut_len x m n h1 h2, cut_len y p q h3 h4] at ha
  simp only [Function.comp, movedOf, toS]
  rw [w64 (by omega) (by omega), w64 (by omega) (by omega)]
  congr 1 <;> omega
 ·exact chain_cut x y m n p q h1 h2 h3 h4 ps 0 0 (by omega) (by omega) hc
theorem shareAll_chain (u : Int) (a b : List Int) (ha : a.length ≤ 300) (hb : b.length ≤ 300) (d : Nat) : ∀ i, i ≤ (wordsL (headsOf a d ++ headsOf b d)).length →
  ∃ m n : Nat, (i < (wordsL (headsOf a d ++ headsOf b d)).length → m = loOf (headsOf a d) ((wordsL (headsOf a d ++ headsOf b d)).getD i []) ∧ n = loOf (headsOf b d) ((wordsL (headsOf a d ++ headsOf b d)).getD i [])) ∧
   ∃ ps, shareAll u (bwtL a) (bwtL b) ((partsL (headsOf a d) (headsOf b d)).take i) = ps.map toS ∧ ChainTo (bwtL a) (bwtL b) 0 0 m n ps := by
 have hA : ∀ h ∈ headsOf a d, h ∈ headsOf a d ++ headsOf b d := fun h hh => List.mem_append_left _ hh
 have hB : ∀ h ∈ headsOf b d, h ∈ headsOf a d ++ headsOf b d := fun h hh => List.mem_append_right _ hh
 have hP := partsL_len (headsOf a d) (headsOf b d)
 have la := bwtL_len a
 have lb := bwtL_len b
 have ka := headsOf_len a d
 have kb := headsOf_len b d
 intro i
 induction i with
 | zero => intro _; exact ⟨0, 0, fun _ => ⟨(lo_first hA).symm, (lo_first hB).symm⟩, [], rfl, Nat.le_refl _, Nat.le_refl _⟩
 | succ i ih =>
  intro hi
  obtain ⟨m, n, e, ps, e1, hc⟩ := ih (by omega)
  obtain ⟨rfl, rfl⟩ := e (by omega)
  have g1 := lo_le (headsOf a d) ((wordsL (headsOf a d ++ headsOf b d)).getD i [])
  have g2 := lo_le (headsOf b d) ((wordsL (headsOf a d ++ headsOf b d)).getD i [])
  have g3 := hi_le (headsOf a d) ((wordsL (headsOf a d ++ headsOf b d)).getD i [])
  have g4 := hi_le (headsOf b d) ((wordsL (headsOf a d ++ headsOf b d)).getD i [])
  obtain ⟨qs, e2, hq⟩ := shares_chain u (bwtL a) (bwtL b) (by omega) (by omega) ((wordsL (headsOf a d ++ headsOf b d)).getD i []) _ _ _ _ g1 (by omega) g2 (by omega)
  refine ⟨hiOf (headsOf a d) ((wordsL (headsOf a d ++ headsOf b d)).getD i []), hiOf (headsOf b d) ((wordsL (headsOf a d ++ headsOf b d)).getD i []), fun q => ⟨(lo_next hA i q).symm, (lo_next hB i q).symm⟩, ps ++ qs, ?_, ChainTo.app hq hc⟩
  rw [shareAll_snoc _ _ _ _ _ (by omega), partsL_at _ _ i (by omega), e1, List.map_append]
  exact congrArg _ e2
theorem share_ok (a b : List Int) (d u : Int) (h : fitB a b d = true) : okOf (bwtL a) (bwtL b) (shareL a b d u) = true := by
 have h' := of_decide_eq_true h
 obtain ⟨m, n, _, ps, e, hc⟩ := shareAll_chain u a b h'.1 h'.2.1 d.toNat _ (Nat.le_refl _)
 have la := bwtL_len a
 have lb := bwtL_len b
 unfold shareL
 rw [ip h]
 unfold partsAB
 rw [← partsL_len, List.take_length] at e
 rw [e]
 exact chain_ok ⟨by omega, by omega⟩ hc.chain
theorem within_mono (a b : List Int) {u v : Int} (h : u ≤ v) : (withinOf a b u).length ≤ (withinOf a b v).length := by
 unfold withinOf
 split
 ·split
  ·simp
  ·rw [iq (by omega)]; exact Nat.le_refl _
 ·simp
theorem shareAll_mono (x y : List Int) {u v : Int} (h : u ≤ v) (P : List S48) : (shareAll u x y P).length ≤ (shareAll v x y P).length := by
 unfold shareAll
 induction P with
 | nil => simp
 | cons p P ih =>
  have := within_mono (cutOf x p.f1 p.f2) (cutOf y p.f3 p.f4) h
  rw [List.flatMap_cons, List.flatMap_cons, List.length_append, List.length_append]
  unfold sharesOf at *
  rw [List.length_map, List.length_map]
  omega
theorem share_mono (a b : List Int) (d : Int) {u v : Int} (h : u ≤ v) : (shareL a b d u).length ≤ (shareL a b d v).length := by
 unfold shareL
 split
 ·exact shareAll_mono _ _ h _
 ·simp
theorem heads_zero (l : List Int) : ∀ h ∈ headsOf l 0, h = [] := by
 intro h hh
 obtain ⟨i, _, rfl⟩ := List.mem_map.1 hh
 rfl
theorem words_zero {H : LL} (h : ∀ w ∈ H, w = []) (hne : H ≠ []) : wordsL H = [[]] := by
 have hm : ∀ w ∈ wordsL H, w = [] := fun w hw => h w ((wordsL_mem H w).1 hw)
 have hs := wordsL_sorted H
 cases hw : wordsL H with
 | nil =>
  cases H with
  | nil => exact absurd rfl hne
  | cons z H =>
   have := (wordsL_mem (z :: H) z).2 List.mem_cons_self
   rw [hw] at this
   cases this
 | cons w ws =>
  rw [hw] at hm hs
  obtain rfl := hm w List.mem_cons_self
  cases ws with
  | nil => rfl
  | cons v ws =>
   obtain rfl := hm v (List.mem_cons_of_mem _ List.mem_cons_self)
   have := (List.pairwise_cons.1 hs).1 [] List.mem_cons_self
   rw [Fv.cmpB_self] at this
   exact absurd this (by decide)
theorem lo_zero {A : LL} (h : ∀ w ∈ A, w = []) : loOf A [] = 0 := List.countP_eq_zero.2 fun w hw => by rw [h w hw, Fv.cmpB_self]; decide
theorem hi_zero {A : LL} (h : ∀ w ∈ A, w = []) : hiOf A [] = A.length := List.countP_eq_length.2 fun w hw => by rw [h w hw, Fv.cmpB_self]; decide
theorem share_all (a b : List Int) (ha : a.length ≤ 24) (hb : b.length ≤ 24) : (shareL a b 0 1000).length = Lcs.lcs (bwtL a) (bwtL b) := by
 have la := bwtL_len a
 have lb := bwtL_len b
 have e : partsAB a b 0 = [partOf (headsOf a 0) (headsOf b 0) []] := by
  show (wordsL (headsOf a 0 ++ headsOf b 0)).map _ = _
  rw [words_zero (fun w hw => (List.mem_append.1 hw).elim (heads_zero a w) (heads_zero b w)) (fun q => by have := congrArg List.length q; rw [List.length_append, headsOf_len] at this; simp at this)]
  rfl
 unfold shareL
 rw [fitB, decide_eq_true ⟨by omega, by omega, by omega, by omega⟩, ip rfl, e]
 unfold shareAll
 rw [List.flatMap_cons, List.flatMap_nil, List.append_nil]
 unfold sharesOf partOf
 rw [List.length_map, lo_zero (heads_zero a), lo_zero (heads_zero b), hi_zero (heads_zero a), hi_zero (heads_zero b), headsOf_len, headsOf_len]
 have c1 : cutOf (bwtL a) ((0 : Nat) : Int) ((a.length + 1 : Nat) : Int) = bwtL a := by
  unfold cutOf
  rw [Int.toNat_natCast, Int.toNat_natCast, List.drop_zero, ← la, List.take_length]
 have c2 : cutOf (bwtL b) ((0 : Nat) : Int) ((b.length + 1 : Nat) : Int) = bwtL b := by
  unfold cutOf
  rw [Int.toNat_natCast, Int.toNat_natCast, List.drop_zero, ← lb, List.take_length]
 simp only []
 rw [c1, c2]
 unfold withinOf
 rw [ip ⟨by omega, by omega⟩, iq (by omega)]
 exact pairsOf_lcs ⟨by omega, by omega⟩
theorem budget_ev {code : List Int} {B t u : Int} (h : Cur code B t u) (hB : B ≤ 300000000) : ∃ d t' u', spec_l01Cur_budgetOf.f code t u = some (d, t', u') ∧ -9223372036854775808 ≤ d ∧ d ≤ 9223372036854775807 := by
 obtain ⟨v, t1, u1, e1, g1, g2, c1⟩ := raw_ev h (by omega)
 obtain ⟨v2, t2, u2, e2, a2, b2, _, c2⟩ := pick_ev c1 (by omega) 5 (by omega)
 have b2 := b2 (by omega)
 refine ⟨rd [0, 1, 3, 1000, v] v2, t2, u2, ?_, ?_⟩
 ·unfold spec_l01Cur_budgetOf.f
  rw [e1, bs, bs]
  dsimp only
  rw [e2, bs]
  dsimp only
  rw [ip a2, ip (by simp; omega)]
 ·obtain ⟨m, rfl⟩ := Int.eq_ofNat_of_zero_le a2
  have hm : m < 5 := by omega
  rw [rd_nat]
  rcases m with _ | _ | _ | _ | _ | m
  ·exact ⟨(by decide : (-9223372036854775808 : Int) ≤ 0), (by decide : (0 : Int) ≤ 9223372036854775807)⟩
  ·exact ⟨(by decide : (-9223372036854775808 : Int) ≤ 1), (by decide : (1 : Int) ≤ 9223372036854775807)⟩
  ·exact ⟨(by decide : (-9223372036854775808 : Int) ≤ 3), (by decide : (3 : Int) ≤ 9223372036854775807)⟩
  ·exact ⟨(by decide : (-9223372036854775808 : Int) ≤ 1000), (by decide : (1000 : Int) ≤ 9223372036854775807)⟩
  ·exact ⟨g1, g2⟩
  ·omega
theorem drawShare_ev {code : List Int} (h1 : ∀ x ∈ code, 0 ≤ x ∧ x ≤ 255) (h2 : code.length ≤ 140737488351232) : ∃ r x d v, Ev (fun k => spec_DrawShareOf.f k code) (r, x, d, v) ∧ r.length ≤ 24 ∧ x.length ≤ 24 ∧ bytesOk r ∧ bytesOk x ∧ -9223372036854775808 ≤ v ∧ v ≤ 9223372036854775807 := by
 obtain ⟨t, u, e0, c0⟩ := open_ev h1 h2
 obtain ⟨r, x, t1, u1, hev, hr, hx, br, bx, c1⟩ := twin_ev c0 (by omega)
 obtain ⟨d, t2, u2, e2, c2⟩ := depth_ev c1 (by omega)
 obtain ⟨v, t3, u3, e3, g1, g2⟩ := budget_ev c2 (by omega)
 obtain ⟨K, hK⟩ := ev_out hev
 refine ⟨r, x, d, v, ev_mk K fun k hk => ?_, hr, hx, br, bx, g1, g2⟩
 unfold spec_DrawShareOf.f
 rw [e0, bs]
 dsimp only
 rw [hK k hk, bs]
 dsimp only
 rw [e2, bs]
 dsimp only
 rw [e3, bs]
theorem lost_is (a b : List Int) (d u : Int) (h : fitB a b d = true) : lostL a b d u = (Lcs.lcs (bwtL a) (bwtL b) : Int) - ((shareL a b d u).length : Int) ∧ (shareL a b d u).length ≤ Lcs.lcs (bwtL a) (bwtL b) := by
 have h' := of_decide_eq_true h
 have la := bwtL_len a
 have lb := bwtL_len b
 have h1 := okOf_le (share_ok a b d u h)
 have h2 := Lcs.lcs_le_left (bwtL a) (bwtL b)
 refine ⟨?_, h1⟩
 unfold lostL lenOf
 rw [ip h, ip ⟨by omega, by omega⟩, w64 (by omega) (by omega)]
theorem specOk_ev (a b : List Int) (d u : Int) (ha : bytesOk a) (hb : bytesOk b) (h : fitB a b d = true) : Ev (fun k => spec_ShareOk.f k a b (shareL a b d u)) true := by
 have h' := of_decide_eq_true h
 obtain ⟨K1, hK1⟩ := ev_out (specBwt_ev a h'.1 ha)
 obtain ⟨K2, hK2⟩ := ev_out (specBwt_ev b h'.2.1 hb)
 have hl := shareL_len a b d u
 obtain ⟨K3, hK3⟩ := ev_out (specCommonOk_ev (bwtL a) (bwtL b) (shareL a b d u) (by omega))
 refine ev_mk (K1 + K2 + K3) fun k hk => ?_
 unfold spec_ShareOk.f spec_TextOk.f
 rw [bs, decide_eq_true (show (a.length : Int) ≤ 300 by omega), ip rfl, bs, decide_eq_true (show (b.length : Int) ≤ 300 by omega), ip rfl, hK1 k (by omega), bs, hK2 k (by omega), bs, hK3 k (by omega), bs, share_ok a b d u h]
theorem implOk_ev (a b : List Int) (d u : Int) (ha : bytesOk a) (hb : bytesOk b) (h : fitB a b d = true) : Ev (fun k => impl_ShareOk.f k a b (shareL a b d u)) true := by
 have h' := of_decide_eq_true h
 obtain ⟨K1, hK1⟩ := ev_out (implBwt_ev a h'.1 ha)
 obtain ⟨K2, hK2⟩ := ev_out (implBwt_ev b h'.2.1 hb)
 have hl := shareL_len a b d u
 obtain ⟨K3, hK3⟩ := ev_out (implCommonOk_ev (bwtL a) (bwtL b) (shareL a b d u) (by omega))
 refine ev_mk (K1 + K2 + K3) fun k hk => ?_
 unfold impl_ShareOk.f
 rw [isShared_fit, fitB, decide_eq_true ⟨h'.1, h'.2.1, by omega, by omega⟩, bs, ip rfl, hK1 k (by omega), bs, hK2 k (by omega), bs, hK3 k (by omega), bs, share_ok a b d u h]
theorem fnShare_j1 (a b : List Int) (ha : bytesOk a) (hb : bytesOk b) (la : a.length ≤ 24) (lb : b.length ≤ 24) : Ev (fun k => laws_FnShare.j1 k a b false) true := by
 have h : fitB a b 0 = true := decide_eq_true ⟨by omega, by omega, by omega, by omega⟩
 have hz : lostL a b 0 1000 = 0 := by
  rw [(lost_is a b 0 1000 h).1, share_all a b la lb]
  omega
 obtain ⟨K, hK⟩ := ev_out (implLost_ev a b 0 1000 ha hb)
 refine ev_mk (K + 1) fun k hk => ?_
 obtain ⟨k, rfl⟩ : ∃ m, k = m + 1 := ⟨k - 1, by omega⟩
 rw [laws_FnShare.j1, iq (by decide), hK k (by omega), bs, hz]
 rfl
theorem fnShare_j0 (a b : List Int) (d u : Int) (ha : bytesOk a) (hb : bytesOk b) (la : a.length ≤ 24) (lb : b.length ≤ 24) (h : fitB a b d = true) (u0 : -9223372036854775808 ≤ u) : Ev (fun k => laws_FnShare.j0 k a b d u (shareL a b d u) (lostL a b d u) false) true := by
 obtain ⟨e1, e2⟩ := lost_is a b d u h
 have hl := shareL_len a b d u
 obtain ⟨K1, hK1⟩ := ev_out (specOk_ev a b d u ha hb h)
 obtain ⟨K2, hK2⟩ := ev_out (implOk_ev a b d u ha hb h)
 obtain ⟨K3, hK3⟩ := ev_out (fnShare_j1 a b ha hb la lb)
 have hp : laws_pairs.f (shareL a b d u) = some (shareL a b d u) := by
  unfold laws_pairs.f
  rw [bs, ip (by simp only [List.length_nil]; omega), List.nil_append]
 by_cases hu : u < 1000000
 ·have ew : wrap64 (u + 1) = u + 1 := w64 (by omega) (by omega)
  obtain ⟨f1, f2⟩ := lost_is a b d (u + 1) h
  have hm := share_mono a b d (show u ≤ u + 1 by omega)
  obtain ⟨K4, hK4⟩ := ev_out (implLost_ev a b d (u + 1) ha hb)
  refine ev_mk (K1 + K2 + K3 + K4 + 1) fun k hk => ?_
  obtain ⟨k, rfl⟩ : ∃ m, k = m + 1 := ⟨k - 1, by omega⟩
  rw [laws_FnShare.j0, iq (by decide), iq (by omega), hK1 k (by omega), bs, ip rfl, hp, bs, hK2 k (by omega), bs, ip rfl, ip hu, ew, hK4 k (by omega), bs, decide_eq_false (by omega)]
  exact hK3 k (by omega)
 ·refine ev_mk (K1 + K2 + K3 + 1) fun k hk => ?_
  obtain ⟨k, rfl⟩ : ∃ m, k = m + 1 := ⟨k - 1, by omega⟩
  rw [laws_FnShare.j0, iq (by decide), iq (by omega), hK1 k (by omega), bs, ip rfl, hp, bs, hK2 k (by omega), bs, ip rfl, iq hu]
  exact hK3 k (by omega)
theorem FnShare : laws_FnShare.Pure := by
 intro l0 hl0 hl1 ho
 by_cases g0 : (l0.length : Int) > 1048576
 ·exact ⟨0, by unfold laws_FnShare.f laws_big.f; rw [bs, decide_eq_true g0, ip rfl]⟩
 obtain ⟨r, x, d, u, hev, hr, hx, br, bx, u0, u1⟩ := drawShare_ev (code_wf ho) (by omega)
 obtain ⟨K, hK⟩ := ev_out hev
 obtain ⟨K1, hK1⟩ := ev_out (specShareOf_ev r x d u br bx)
 obtain ⟨K3, hK3⟩ := ev_out (implLost_ev r x d u br bx)
 obtain ⟨K4, hK4⟩ := ev_out (specLost_ev r x d u br bx)
 have hne : (lostL r x d u != lostL r x d u) = false := bne_self_eq_false _
 by_cases h : fitB r x d = true
 ·obtain ⟨K2, hK2⟩ := ev_out (implShare_ev r x d u br bx h)
  obtain ⟨K5, hK5⟩ := ev_out (fnShare_j0 r x d u br bx hr hx h u0)
  refine ⟨K + K1 + K2 + K3 + K4 + K5, ?_⟩
  unfold laws_FnShare.f laws_big.f impl_ShareOf.f
  rw [bs, decide_eq_false g0, iq (by decide), hK _ (by omega), bs]
  dsimp only
  rw [hK1 _ (by omega), bs, isShared_fit, bs, ip h, hK2 _ (by omega), bs, bs, hK3 _ (by omega), bs, ip rfl, hK4 _ (by omega), bs, hne]
  exact hK5 _ (by omega)
 ·have e1 : shareL r x d u = [] := by unfold shareL; rw [iq h]
  have e2 : lostL r x d u = -1 := by unfold lostL; rw [iq h]
  refine ⟨K + K1 + K3 + K4 + 1, ?_⟩
  unfold laws_FnShare.f laws_big.f impl_ShareOf.f
  rw [bs, decide_eq_false g0, iq (by decide), hK _ (by omega), bs]
  dsimp only
  rw [hK1 _ (by omega), bs, isShared_fit, bs, iq h, bs, hK3 _ (by omega), bs, e1, ip rfl, hK4 _ (by omega), bs, hne, laws_FnShare.j0, iq (by decide), e2, ip (by decide)]
  rfl

end Go.Proofs.Ytadhngelhognaaa.Pure
