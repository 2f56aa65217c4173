/- No code of a drawn list of code lengths begins another one: the codes that the program gives to the lengths are free of prefixes. -/
import Derived.Test.YtgjmmegmkdklbaaQFnPrefixx6
import Derived.Test.YtgjmmegmkdklbaaBase
import Derived.Test.YtgjmmegmkdklbaaBits
import Derived.Test.YtgjmmegmkdklbaaHuff
namespace Go.Proofs.Ytgjmmegmkdklbaa.Pure
open Go.RowKit Go.Proofs.Ytgjmmegmkdklbaa.QFnPrefix Go.Proofs.YtgjmmegmkdklbaaW.PrintWords Go.Proofs.YtgjmmegmkdklbaaW.PrintLast Go.Proofs.YtgjmmegmkdklbaaW.PrintMore
open Go.Proofs.Ytgjmmegmkdklbaa Go.Proofs.Ytgjmmegmkdklbaa.Base Go.Proofs.Ytgjmmegmkdklbaa.Bits Go.Proofs.Ytgjmmegmkdklbaa.Huff
set_option linter.unusedVariables false
set_option linter.unusedSimpArgs false

/-- A cursor over code: what is kept of it. 'B': how far it may have gone. -/
def Cur (code : List Int) (B : Int) (t u : Int) : Prop := (∀ x ∈ code, 0 ≤ x ∧ x ≤ 255) ∧ code.length ≤ 140737488351232 ∧ 0 ≤ t ∧ t ≤ B ∧ 0 ≤ u ∧ u ≤ 66600
theorem Cur.more {code : List Int} {B B' t u : Int} (h : Cur code B t u) (hB : B ≤ B') : Cur code B' t u := ⟨h.1, h.2.1, h.2.2.1, by have := h.2.2.2.1; omega, h.2.2.2.2⟩
theorem rd_code {code : List Int} (h : ∀ x ∈ code, 0 ≤ x ∧ x ≤ 255) (i : Int) : 0 ≤ rd code i ∧ rd code i ≤ 255 := by
 unfold rd
 rw [List.getD_eq_getElem?_getD]
 cases hq : code[i.toNat]? with
 | none => exact ⟨by show (0 : Int) ≤ 0; omega, by show (0 : Int) ≤ 255; omega⟩
 | some x => exact h x (List.mem_of_getElem? hq)
theorem pick_ev {code : List Int} {B t u : Int} (h : Cur code B t u) (hB : B ≤ 1000000000) (n : Int) (hn : n ≤ 1000000000000) :
  ∃ v t' u', spec_l01Cur_pick.f code t u n = some (v, t', u') ∧ 0 ≤ v ∧ (1 ≤ n → v < n) ∧ (n < 2 → v = 0) ∧ Cur code (B + 1) t' u' := by
 obtain ⟨h1, h2, h3, h4, h5, h6⟩ := h
 unfold spec_l01Cur_pick.f
 by_cases c0 : n < 2
 ·exact ⟨0, t, u, if_pos c0, by omega, fun _ => by omega, fun _ => rfl, h1, h2, h3, by omega, h5, h6⟩
 ·have npos : 0 < n := by omega
  have wt : wrap64 (t + 1) = t + 1 := w64 (by omega) (by omega)
  rw [if_neg c0]
  by_cases c1 : t < (code.length : Int)
  ·obtain ⟨r0, r1⟩ := rd_code h1 t
   refine ⟨Int.tmod (rd code t) n, t + 1, u, by rw [if_pos c1, if_pos h3, if_neg (by omega), w64 (by omega) (by omega), wt], Int.tmod_nonneg _ r0, fun _ => Int.tmod_lt_of_pos _ npos, fun hn2 => absurd hn2 c0, h1, h2, by omega, by omega, h5, h6⟩
  ·have w1 : wrap64 (u * 1103) = u * 1103 := w64 (by omega) (by omega)
   have w2 : wrap64 (u * 1103 + 12345) = u * 1103 + 12345 := w64 (by omega) (by omega)
   have s0 : 0 ≤ Int.tmod (u * 1103 + 12345) 65521 := Int.tmod_nonneg _ (by omega)
   have s1 : Int.tmod (u * 1103 + 12345) 65521 < 65521 := Int.tmod_lt_of_pos _ (by omega)
   by_cases c2 : (code.length : Int) > 0
   ·have i0 : 0 ≤ Int.tmod t (code.length : Int) := Int.tmod_nonneg _ h3
    have i1 : Int.tmod t (code.length : Int) < (code.length : Int) := Int.tmod_lt_of_pos _ c2
    obtain ⟨r0, r1⟩ := rd_code h1 (Int.tmod t (code.length : Int))
    have d0 : 0 ≤ Int.tdiv (Int.tmod (u * 1103 + 12345) 65521) 7 := Int.tdiv_nonneg s0 (by omega)
    have d1 : Int.tdiv (Int.tmod (u * 1103 + 12345) 65521) 7 ≤ 65521 := by
     have := Int.tdiv_le_self 7 s0
     omega
    refine ⟨Int.tmod (Int.tdiv (Int.tmod (u * 1103 + 12345) 65521) 7 + rd code (Int.tmod t (code.length : Int))) n, t + 1, Int.tmod (u * 1103 + 12345) 65521, ?_, Int.tmod_nonneg _ (by omega), fun _ => Int.tmod_lt_of_pos _ npos, fun hn2 => absurd hn2 c0, h1, h2, by omega, by omega, s0, by omega⟩
    rw [if_neg c1, if_pos c2, if_neg (by omega), if_pos i0, if_pos i1, if_neg (by omega), w1, w2, wt, w64 (x := Int.tdiv (Int.tmod (u * 1103 + 12345) 65521) 7) (by omega) (by omega), w64 (x := rd code (Int.tmod t (code.length : Int))) (by omega) (by omega), w64 (by omega) (by omega)]
   ·refine ⟨(0 : Int) % n, t + 1, Int.tmod (u * 1103 + 12345) 65521, by rw [if_neg c1, if_neg c2, if_neg (by omega), w1, w2, wt], Int.emod_nonneg _ (by omega), fun _ => Int.emod_lt_of_pos _ npos, fun hn2 => absurd hn2 c0, h1, h2, by omega, by omega, s0, by omega⟩
theorem open_ev {code : List Int} (h1 : ∀ x ∈ code, 0 ≤ x ∧ x ≤ 255) (h2 : code.length ≤ 140737488351232) : ∃ t u, spec_l01Open.f code = some (code, t, u) ∧ Cur code 0 t u := by
 refine ⟨0, 89 + ((code.length : Int) % 1000), rfl, h1, h2, by omega, by omega, ?_, ?_⟩
 ·have := Int.emod_nonneg (code.length : Int) (show (1000 : Int) ≠ 0 by omega); omega
 ·have := Int.emod_lt_of_pos (code.length : Int) (show (0 : Int) < 1000 by omega); omega
theorem code_wf {code : List Int} (h : ∀ x ∈ code, (Lit.int .u8 x).wf = true) : ∀ x ∈ code, 0 ≤ x ∧ x ≤ 255 := fun x hx => by
 have := h x hx
 simp only [Lit.wf, IntKind.min, IntKind.max, IntKind.signed, IntKind.bits, Bool.and_eq_true, decide_eq_true_eq] at this
 simpa using this
theorem size_ev {code : List Int} {B t u : Int} (h : Cur code B t u) (hB : B ≤ 1000000000) (n : Int) (h0 : 0 ≤ n) (hn : n ≤ 1000000) :
  ∃ v t' u', spec_l01Cur_size.f code t u n = some (v, t', u') ∧ 0 ≤ v ∧ v ≤ n ∧ Cur code (B + 1) t' u' := by
 have hl := h.2.1
 unfold spec_l01Cur_size.f
 have w1 : wrap64 ((code.length : Int) / 8) = (code.length : Int) / 8 := w64 (by omega) (by omega)
 have w2 : wrap64 (1 + (code.length : Int) / 8) = 1 + (code.length : Int) / 8 := w64 (by omega) (by omega)
 have m1 : mn n (1 + (code.length : Int) / 8) ≤ n ∧ 0 ≤ mn n (1 + (code.length : Int) / 8) := by unfold mn; split <;> omega
 rw [w1, w2, w64 (x := mn n (1 + (code.length : Int) / 8) + 1) (by omega) (by omega)]
 obtain ⟨v, t', u', e, v0, v1, _, hc⟩ := pick_ev h hB (mn n (1 + (code.length : Int) / 8) + 1) (by omega)
 refine ⟨v, t', u', ?_, v0, ?_, hc⟩
 ·rw [e, Option.bind_some]
 ·have := v1 (by omega); omega
theorem wide_ev {code : List Int} {B t u : Int} (h : Cur code B t u) (hB : B ≤ 900000000) (n : Int) (h0 : 1 ≤ n) (hn : n ≤ 1000000000000) :
  ∃ v t' u', spec_l01Cur_wide.f code t u n = some (v, t', u') ∧ 0 ≤ v ∧ v < n ∧ Cur code (B + 3) t' u' := by
 obtain ⟨v1, t1, u1, e1, a1, b1, _, c1⟩ := pick_ev h (by omega) 256 (by omega)
 obtain ⟨v2, t2, u2, e2, a2, b2, _, c2⟩ := pick_ev c1 (by omega) 256 (by omega)
 obtain ⟨v3, t3, u3, e3, a3, b3, _, c3⟩ := pick_ev c2 (by omega) 256 (by omega)
 have b1 := b1 (by omega)
 have b2 := b2 (by omega)
 have b3 := b3 (by omega)
 refine ⟨Int.tmod (65536 * v1 + 256 * v2 + v3) n, t3, u3, ?_, Int.tmod_nonneg _ (by omega), Int.tmod_lt_of_pos _ (by omega), c3.more (by omega)⟩
 unfold spec_l01Cur_wide.f
 rw [e1, Option.bind_some, e2, Option.bind_some, e3, Option.bind_some, if_neg (by omega), w64 (x := 65536 * v1) (by omega) (by omega), w64 (x := 256 * v2) (by omega) (by omega), w64 (x := 65536 * v1 + 256 * v2) (by omega) (by omega), w64 (by omega) (by omega)]
theorem raw_ev {code : List Int} {B t u : Int} (h : Cur code B t u) (hB : B ≤ 900000000) :
  ∃ v t' u', spec_l01Cur_raw.f code t u = some (v, t', u') ∧ -9223372036854775808 ≤ v ∧ v ≤ 9223372036854775807 ∧ Cur code (B + 2) t' u' := by
 obtain ⟨v1, t1, u1, e1, a1, b1, _, c1⟩ := pick_ev h (by omega) 8 (by omega)
 have b1 := b1 (by omega)
 unfold spec_l01Cur_raw.f
 rw [e1, Option.bind_some]
 by_cases g0 : v1 = 0
 ·obtain ⟨v2, t2, u2, e2, a2, b2, _, c2⟩ := pick_ev c1 (by omega) 256 (by omega)
  have b2 := b2 (by omega)
  exact ⟨v2 - 128, t2, u2, by rw [if_pos g0, e2, Option.bind_some, w64 (by omega) (by omega)], by omega, by omega, c2.more (by omega)⟩
 ·by_cases g1 : v1 = 1
  ·obtain ⟨v2, t2, u2, e2, a2, b2, _, c2⟩ := pick_ev c1 (by omega) 8 (by omega)
   have b2 := b2 (by omega)
   obtain ⟨j, rfl⟩ := Int.eq_ofNat_of_zero_le a2
   have hin : ∀ x ∈ ([9223372036854775807, (-9223372036854775808), 4611686018427387904, 4294967295, 4294967296, (-1000), 1000, 257] : List Int), -9223372036854775808 ≤ x ∧ x ≤ 9223372036854775807 := by
    intro x hx
    simp at hx
    omega
   have hr := hin (rd [9223372036854775807, (-9223372036854775808), 4611686018427387904, 4294967295, 4294967296, (-1000), 1000, 257] (j : Int)) (by
    rw [rd_nat, lget_lt _ j 0 (by simp; omega)]
    exact List.getElem_mem _)
   exact ⟨_, t2, u2, by rw [if_neg g0, if_pos g1, Option.bind_some, e2, Option.bind_some, if_pos (by omega), if_pos (by simp; omega)], hr.1, hr.2, c2.more (by omega)⟩
  ·obtain ⟨v2, t2, u2, e2, a2, b2, _, c2⟩ := pick_ev c1 (by omega) 14 (by omega)
   have b2 := b2 (by omega)
   exact ⟨v2 - 3, t2, u2, by rw [if_neg g0, if_neg g1, e2, Option.bind_some, w64 (by omega) (by omega)], by omega, by omega, c2.more (by omega)⟩
theorem once_ev {code : List Int} {B t u : Int} (h : Cur code B t u) (hB : B ≤ 1000000000) (n : Int) (hn : n ≤ 1000000000000) :
  ∃ b t' u', spec_l01Cur_once.f code t u n = some (b, t', u') ∧ Cur code (B + 1) t' u' := by
 obtain ⟨v, t', u', e, _, _, _, hc⟩ := pick_ev h hB n hn
 refine ⟨(v == wrap64 (n - 1)), t', u', ?_, hc⟩
 unfold spec_l01Cur_once.f
 rw [e, Option.bind_some]
theorem winc (y : Nat) (h : y ≤ 1000000000) : wrap64 ((y : Int) + 1) = ((y + 1 : Nat) : Int) := w64 (by omega) (by omega)
theorem wadd (a b : Nat) (h : a + b ≤ 9223372036854775807) : wrap64 ((a : Int) + (b : Int)) = ((a + b : Nat) : Int) := w64 (by omega) (by omega)
theorem wnat (a : Nat) (h : a ≤ 9223372036854775807) : wrap64 (a : Int) = (a : Int) := w64 (by omega) (by omega)
theorem wsub60 (x : Int) (h0 : 0 ≤ x) (h1 : x ≤ 60) : wrap64 (60 - x) = ((60 - x.toNat : Nat) : Int) := by
 rw [show 60 - x = ((60 - x.toNat : Nat) : Int) by omega]
 exact w64 (by omega) (by omega)
def okH (l : List Int) : Bool := decide (l.length ≤ 300) && okFrom 0 0 0 l
theorem l02Pow_l0 (m : Nat) : ∀ (a : Nat), a * 2 ^ m < 9223372036854775808 → m ≤ 64 → Ev (fun k => spec_l02Pow.l0 k (m : Int) (a : Int)) ((a * 2 ^ m : Nat) : Int) := by
 induction m with
 | zero =>
  intro a h hm
  refine Ev.step (f := fun _ => some _) (fun k => ?_) (Ev.now _)
  rw [spec_l02Pow.l0, if_neg (by omega), Nat.pow_zero, Nat.mul_one]
 | succ m ih =>
  intro a h hm
  have hp : 0 < 2 ^ m := Nat.two_pow_pos m
  have e : a * 2 ^ (m + 1) = (2 * a) * 2 ^ m := by rw [Nat.pow_succ, Nat.mul_comm (2 ^ m) 2, ← Nat.mul_assoc, Nat.mul_comm a 2]
  rw [e] at h ⊢
  have : 2 * a ≤ (2 * a) * 2 ^ m := Nat.le_mul_of_pos_right _ hp
  refine Ev.step (f := fun k => spec_l02Pow.l0 k (m : Int) ((2 * a : Nat) : Int)) (fun k => ?_) (ih (2 * a) h (by omega))
  rw [spec_l02Pow.l0, if_pos (by omega), w64 (by omega) (by omega), w64 (by omega) (by omega), show ((m + 1 : Nat) : Int) - 1 = (m : Int) by omega]
  rfl
theorem pow62 (m : Nat) (h : m ≤ 62) : 2 ^ m ≤ 4611686018427387904 := Nat.le_trans (Nat.pow_le_pow_right (show 0 < 2 by decide) h) (by decide)
theorem l02Pow_ev (m : Nat) (h : m ≤ 62) : Ev (fun k => spec_l02Pow.f k (m : Int)) ((2 ^ m : Nat) : Int) := by
 have hp := pow62 m h
 have := l02Pow_l0 m 1 (by omega) (by omega)
 rw [Nat.one_mul] at this
 exact this
theorem drop_cons (l : List Int) (i : Nat) (h : i < l.length) : l.drop i = l.getD i 0 :: l.drop (i + 1) := by
 rw [List.drop_eq_getElem_cons h, lget_lt _ _ _ h]
theorem specOk_l0 (l : List Int) (hl : l.length ≤ 300) (d : Nat) : ∀ (i c S : Nat) (last : Int), i + d = l.length → c ≤ i → S ≤ 1152921504606846976 →
  Ev (fun k => spec_HuffOk.l0 k l (c : Int) (S : Int) last (i : Int)) (okFrom c S last (l.drop i)) := by
 obtain ⟨K0, k0⟩ := ev_out (l02Pow_ev 60 (by decide))
 have p60 : (((2 ^ 60 : Nat) : Int)) = 1152921504606846976 := by decide
 rw [p60] at k0
 induction d with
 | zero =>
  intro i c S last hi hc hS
  refine ev_mk (K0 + 1) fun k hk => ?_
  obtain ⟨k, rfl⟩ : ∃ m, k = m + 1 := ⟨k - 1, by omega⟩
  have hd : l.drop i = [] := List.drop_eq_nil_of_le (by omega)
  have hk0 : spec_l02Pow.f k 60 = some 1152921504606846976 := k0 k (by omega)
  have hb : ((S : Int) == (1152921504606846976 : Int)) = decide (S = 1152921504606846976) := by
   rw [Bool.eq_iff_iff, beq_iff_eq, decide_eq_true_iff]
   omega
  rw [spec_HuffOk.l0, if_neg (by omega), hd, okFrom, hk0, Option.bind_some, hb]
  by_cases q : c = 1
  ·rw [if_pos (by omega), if_pos q]
   by_cases z : last = 1
   ·rw [if_pos z, decide_eq_true z, Bool.true_or]
   ·rw [if_neg z, decide_eq_false z, Bool.false_or]
  ·rw [if_neg (by omega), if_neg q]
 | succ d ih =>
  intro i c S last hi hc hS
  have hg : rd l (i : Int) = l.getD i 0 := rd_nat l i
  rw [drop_cons l i (by omega), okFrom]
  generalize hx : l.getD i 0 = x at hg ⊢
  have bad : ∀ k, spec_HuffOk.j1 (k + 1) l (c : Int) (S : Int) last (i : Int) true = some false := by
   intro k
   rw [spec_HuffOk.j1, if_pos rfl]
  by_cases r : x < 0 ∨ 60 < x
  ·rw [if_pos r]
   refine ev_mk 2 fun k hk => ?_
   obtain ⟨k, rfl⟩ : ∃ m, k = m + 2 := ⟨k - 2, by omega⟩
   rw [spec_HuffOk.l0, if_pos (by omega), if_pos (by omega), hg]
   by_cases n : x < 0
   ·rw [if_pos n]; exact bad k
   ·rw [if_neg n, decide_eq_true (by omega)]; exact bad k
  ·rw [if_neg r]
   have hi3 : i ≤ 300 := by omega
   have go : ∀ k, spec_HuffOk.l0 (k + 1) l (c : Int) (S : Int) last (i : Int) = spec_HuffOk.j1 k l (c : Int) (S : Int) last (i : Int) false := by
    intro k
    rw [spec_HuffOk.l0, if_pos (by omega), if_pos (by omega), hg, if_neg (by omega), decide_eq_false (by omega)]
   by_cases q : 0 < x
   ·rw [if_pos q]
    have hw := wt_le x q
    obtain ⟨K1, k1⟩ := ev_out (l02Pow_ev (60 - x.toNat) (by omega))
    have hx0 : 0 ≤ x := by omega
    have hx6 : x ≤ 60 := by omega
    have hsw : S + wt x ≤ 9223372036854775807 := by omega
    have hci : c ≤ 1000 := by omega
    have ept : ((2 ^ (60 - x.toNat) : Nat) : Int) = ((wt x : Nat) : Int) := rfl
    by_cases o : 1152921504606846976 < S + wt x
    ·rw [if_pos o]
     refine ev_mk (K0 + K1 + 2) fun k hk => ?_
     obtain ⟨k, rfl⟩ : ∃ m, k = m + 2 := ⟨k - 2, by omega⟩
     rw [go, spec_HuffOk.j1, if_neg (by decide), if_pos (by omega), if_pos (by omega), hg, if_pos q, wsub60 x hx0 hx6, k1 k (by omega), Option.bind_some, ept]
     have hk0 : spec_l02Pow.f k 60 = some 1152921504606846976 := k0 k (by omega)
     rw [hk0, Option.bind_some, wadd S (wt x) hsw, if_pos (by omega)]
    ·rw [if_neg o]
     obtain ⟨K2, k2⟩ := ev_out (ih (i + 1) (c + 1) (S + wt x) x (by omega) (by omega) (by omega))
     refine ev_mk (K0 + K1 + K2 + 2) fun k hk => ?_
     obtain ⟨k, rfl⟩ : ∃ m, k = m + 2 := ⟨k - 2, by omega⟩
     rw [go, spec_HuffOk.j1, if_neg (by decide), if_pos (by omega), if_pos (by omega), hg, if_pos q, wsub60 x hx0 hx6, k1 k (by omega), Option.bind_some, ept]
     have hk0 : spec_l02Pow.f k 60 = some 1152921504606846976 := k0 k (by omega)
     rw [hk0, Option.bind_some, wadd S (wt x) hsw, if_neg (by omega), winc i (by omega), winc c (by omega)]
     exact k2 k (by omega)
   ·rw [if_neg q]
    obtain ⟨K2, k2⟩ := ev_out (ih (i + 1) c S last (by omega) (by omega) (by omega))
    refine ev_mk (K2 + 2) fun k hk => ?_
    obtain ⟨k, rfl⟩ : ∃ m, k = m + 2 := ⟨k - 2, by omega⟩
    rw [go, spec_HuffOk.j1, if_neg (by decide), if_pos (by omega), if_pos (by omega), hg, if_neg q, winc i (by omega)]
    exact k2 k (by omega)
theorem specHuffOk_ev (l : List Int) : Ev (fun k => spec_HuffOk.f k l) (okH l) := by
 by_cases h : (l.length : Int) > 300
 ·refine Ev.congr (f := fun _ => some false) (fun k => ?_) ?_
  ·unfold spec_HuffOk.f
   rw [if_pos h]
  ·rw [okH, decide_eq_false (by omega), Bool.false_and]
   exact Ev.now _
 ·refine Ev.congr (fun k => ?_) ?_ (f := fun k => spec_HuffOk.l0 k l ((0 : Nat) : Int) ((0 : Nat) : Int) 0 ((0 : Nat) : Int))
  ·unfold spec_HuffOk.f
   rw [if_neg h]
   rfl
  ·rw [okH, decide_eq_true (by omega), Bool.true_and]
   exact specOk_l0 l (by omega) l.length 0 0 0 0 (by omega) (by omega) (by omega)
theorem shl_nat (a m : Nat) (h : m ≤ 62) : shl .i64 (a : Int) (m : Int) = wrap64 ((a * 2 ^ m : Nat) : Int) := by
 unfold shl
 rw [Int.toNat_natCast, show min m IntKind.i64.bits = m by show min m 64 = m; omega, i64_w]
 simp
theorem max_l0 (l : List Int) (hl : l.length ≤ 1000000) (d : Nat) : ∀ (i : Nat) (m : Int), i + d = l.length → m ∈ l → (∀ j, j < i → l.getD j 0 ≤ m) → ∃ r, Ev (fun k => slices_Max_int_int.l0 k l m (i : Int)) r ∧ r ∈ l ∧ ∀ j, j < l.length → l.getD j 0 ≤ r := by
 induction d with
 | zero =>
  intro i m hi hm hj
  refine ⟨m, Ev.step (f := fun _ => some _) (fun k => ?_) (Ev.now _), hm, fun j h => hj j (by omega)⟩
  rw [slices_Max_int_int.l0, if_neg (by omega)]
 | succ d ih =>
  intro i m hi hm hj
  have hmem : l.getD i 0 ∈ l := by rw [lget_lt _ _ _ (by omega)]; exact List.getElem_mem _
  have hmx : mx m (l.getD i 0) ∈ l ∧ m ≤ mx m (l.getD i 0) ∧ l.getD i 0 ≤ mx m (l.getD i 0) := by
   unfold mx
   split
   ·refine ⟨by first | exact hm | exact hmem, ?_, ?_⟩ <;> omega
   ·refine ⟨by first | exact hm | exact hmem, ?_, ?_⟩ <;> omega
  obtain ⟨r, hr, h2, h3⟩ := ih (i + 1) (mx m (l.getD i 0)) (by omega) hmx.1 (fun j h => by
   by_cases q : j = i
   ·rw [q]; exact hmx.2.2
   ·exact Int.le_trans (hj j (by omega)) hmx.2.1)
  refine ⟨r, Ev.step (fun k => ?_) hr, h2, h3⟩
  rw [slices_Max_int_int.l0, if_pos (by omega), if_pos (by omega), rd_nat, w64 (by omega) (by omega)]
  rfl
theorem max_ev (l : List Int) (hl : l.length ≤ 1000000) (h0 : 1 ≤ l.length) : ∃ r, Ev (fun k => slices_Max_int_int.f k l) r ∧ r ∈ l ∧ ∀ x ∈ l, x ≤ r := by
 have hmem : l.getD 0 0 ∈ l := by rw [lget_lt _ _ _ (by omega)]; exact List.getElem_mem _
 obtain ⟨r, hr, h2, h3⟩ := max_l0 l hl (l.length - 1) 1 (l.getD 0 0) (by omega) hmem (fun j h => by rw [show j = 0 by omega]; exact Int.le_refl _)
 refine ⟨r, Ev.congr (fun k => ?_) hr, h2, fun x hx => ?_⟩
 ·unfold slices_Max_int_int.f
  rw [if_neg (by omega), if_pos (by omega), show rd l 0 = l.getD 0 0 from rd_nat l 0]
  rfl
 ·obtain ⟨j, hj, e⟩ := List.getElem_of_mem hx
  have := h3 j hj
  rw [lget_lt _ _ _ hj, e] at this
  exact this
def fin (m : Int) (p : Nat × Nat) : Bool := if p.2 = 1152921504606846976 then true else if p.1 = 1 then m == 1 else false
theorem inRange_get {l : List Int} (h : inRange l = true) (i : Nat) (hi : i < l.length) : 0 ≤ l.getD i 0 ∧ l.getD i 0 ≤ 60 := by
 rw [lget_lt _ _ _ hi]
 have := List.all_eq_true.1 h _ (List.getElem_mem hi)
 exact of_decide_eq_true this
theorem implOk_l0 (l : List Int) (hl : l.length ≤ 300) (hr : inRange l = true) (m : Int) (hm : 1 ≤ l.length → Ev (fun k => slices_Max_int_int.f k l) m) (d : Nat) : ∀ (i c S : Nat), i + d = l.length → c ≤ i → S ≤ 1152921504606846977 →
  Ev (fun k => impl_HuffOk.l0 k l (c : Int) (S : Int) l (l.length : Int) (i : Int)) (fin m (okSat c S (l.drop i))) := by
 induction d with
 | zero =>
  intro i c S hi hc hS
  have hd : l.drop i = [] := List.drop_eq_nil_of_le (by omega)
  rw [hd, okSat, fin]
  by_cases q : S = 1152921504606846976
  ·rw [if_pos q]
   refine Ev.step (f := fun _ => some _) (fun k => ?_) (Ev.now _)
   rw [impl_HuffOk.l0, if_neg (by omega), if_pos (by omega)]
  ·rw [if_neg q]
   by_cases z : c = 1
   ·rw [if_pos z]
    obtain ⟨K, hK⟩ := ev_out (hm (by omega))
    refine ev_mk (K + 1) fun k hk => ?_
    obtain ⟨k, rfl⟩ : ∃ m, k = m + 1 := ⟨k - 1, by omega⟩
    rw [impl_HuffOk.l0, if_neg (by omega), if_neg (by omega), if_pos (by omega), hK k (by omega), Option.bind_some]
   ·rw [if_neg z]
    refine Ev.step (f := fun _ => some _) (fun k => ?_) (Ev.now _)
    rw [impl_HuffOk.l0, if_neg (by omega), if_neg (by omega), if_neg (by omega)]
 | succ d ih =>
  intro i c S hi hc hS
  have hg : rd l (i : Int) = l.getD i 0 := rd_nat l i
  have hx := inRange_get hr i (by omega)
  rw [drop_cons l i (by omega), okSat]
  generalize l.getD i 0 = x at hg hx ⊢
  by_cases q : 0 < x
  ·rw [if_pos q]
   have hw := wt_le x q
   have hsw : S + wt x ≤ 9223372036854775807 := by omega
   have es : shl .i64 1 ((60 - x.toNat : Nat) : Int) = ((wt x : Nat) : Int) := by
    have this := shl_nat 1 (60 - x.toNat) (by omega)
    rw [Nat.one_mul] at this
    refine Eq.trans this ?_
    show wrap64 ((wt x : Nat) : Int) = _
    exact wnat _ (by clear this; omega)
   have em : mn ((S + wt x : Nat) : Int) 1152921504606846977 = ((min (S + wt x) 1152921504606846977 : Nat) : Int) := by
    clear es
    unfold mn
    split <;> omega
   refine Ev.step (fun k => ?_) (ih (i + 1) (c + 1) (min (S + wt x) 1152921504606846977) (by clear es em; omega) (by clear es em; omega) (by clear es em; omega))
   rw [impl_HuffOk.l0, if_pos (by clear es em; omega), if_pos (by clear es em; omega), if_pos (by clear es em; omega), hg, if_pos q, wsub60 x hx.1 hx.2, if_pos (Int.natCast_nonneg _), es, wadd S (wt x) hsw, em, winc i (by clear es em; omega), winc c (by clear es em; omega)]
  ·rw [if_neg q]
   refine Ev.step (fun k => ?_) (ih (i + 1) c S (by omega) (by omega) hS)
   rw [impl_HuffOk.l0, if_pos (by omega), if_pos (by omega), if_pos (by omega), hg, if_neg q, winc i (by omega)]
theorem implHuffOk_ev (l : List Int) : Ev (fun k => impl_HuffOk.f k l) (okH l) := by
 have bad : okH l = false → Ev (fun k => impl_HuffOk.j0 k l true) (okH l) := by
  intro h
  refine Ev.step (f := fun _ => some _) (fun k => ?_) (Ev.now _)
  rw [impl_HuffOk.j0, if_pos rfl, h]
 by_cases h : (l.length : Int) > 300
 ·refine Ev.congr (fun k => ?_) (bad (by rw [okH, decide_eq_false (by omega), Bool.false_and]))
  unfold impl_HuffOk.f
  rw [if_pos h]
 have hall : l.all Fv.p67 = inRange l := rfl
 have hml : l.length ≤ maxLen := by unfold maxLen; omega
 have hok : okH l = (inRange l && (decide (kraft l = 1152921504606846976) || (decide (npos l = 1) && decide (lastp 0 l = 1)))) := by
  rw [okH, decide_eq_true (by omega), Bool.true_and, okFrom_eq l 0 0 0 (by omega) (fun _ => rfl), Nat.zero_add, Nat.zero_add]
 by_cases r : inRange l = true
 case neg =>
  have r' : inRange l = false := by simpa using r
  refine Ev.congr (fun k => ?_) (bad (by rw [hok, r', Bool.false_and]))
  unfold impl_HuffOk.f impl_areAll_67.f
  rw [if_neg h, if_pos hml, Option.bind_some, hall, r']
  rfl
 have key : ∃ m, (1 ≤ l.length → Ev (fun k => slices_Max_int_int.f k l) m) ∧ fin m (okSat 0 0 l) = okH l := by
  have hs := okSat_eq l 0 0 (by omega)
  rw [Nat.zero_add, Nat.zero_add] at hs
  rw [hs, hok, r, Bool.true_and]
  by_cases z : 1 ≤ l.length
  ·obtain ⟨m, h1, h2, h3⟩ := max_ev l (by omega) z
   refine ⟨m, fun _ => h1, ?_⟩
   unfold fin
   show (if min (kraft l) 1152921504606846977 = 1152921504606846976 then true else if npos l = 1 then m == 1 else false) = _
   by_cases q : kraft l = 1152921504606846976
   ·rw [if_pos (by omega), decide_eq_true q, Bool.true_or]
   ·rw [if_neg (by omega), decide_eq_false q, Bool.false_or]
    by_cases p : npos l = 1
    ·rw [if_pos p, decide_eq_true p, Bool.true_and, max_lastp l m p h2 h3]
     rw [Bool.eq_iff_iff, beq_iff_eq, decide_eq_true_iff]
    ·rw [if_neg p, decide_eq_false p, Bool.false_and]
  ·obtain rfl : l = [] := List.eq_nil_of_length_eq_zero (by omega)
   exact ⟨0, fun h => absurd h z, by decide⟩
 obtain ⟨m, hm, hf⟩ := key
 have := implOk_l0 l (by omega) r m hm l.length 0 0 0 (by omega) (by omega) (by omega)
 rw [List.drop_zero, hf] at this
 have hj : Ev (fun k => impl_HuffOk.j0 k l false) (okH l) := by
  refine Ev.step (fun k => ?_) this
  rw [impl_HuffOk.j0, if_neg (by decide)]
  rfl
 refine Ev.congr (fun k => ?_) hj
 unfold impl_HuffOk.f impl_areAll_67.f
 rw [if_neg h, if_pos hml, Option.bind_some, hall, r]
 rfl
def Good (l out : List Int) : Prop := out.length = l.length ∧ ∀ x ∈ out, 0 ≤ x ∧ x < 1152921504606846976
theorem Good.set {l out : List Int} (h : Good l out) (i : Nat) (v : Int) (h0 : 0 ≤ v) (h1 : v < 1152921504606846976) : Good l (out.set i v) := by
 refine ⟨by rw [List.length_set]; exact h.1, fun x hx => ?_⟩
 rcases List.mem_or_eq_of_mem_set hx with hx | rfl
 ·exact h.2 x hx
 ·exact ⟨h0, h1⟩
def wl (l : List Int) (j : Nat) : Nat := 2 ^ (60 - (l.getD j 0).toNat)
def st (l out : List Int) (j : Nat) : Nat := (out.getD j 0).toNat * wl l j
def Dn (l : List Int) (L i j : Nat) : Prop := 0 < l.getD j 0 ∧ (l.getD j 0 < (L : Int) ∨ (l.getD j 0 = (L : Int) ∧ j < i))
structure Inv (l out : List Int) (L i S : Nat) : Prop where
 good : Good l out
 ends : ∀ j, j < l.length → Dn l L i j → st l out j + wl l j ≤ S
 apart : ∀ j k, j < l.length → k < l.length → Dn l L i j → Dn l L i k → j ≠ k → st l out j + wl l j ≤ st l out k ∨ st l out k + wl l k ≤ st l out j
theorem st_set_ne (l out : List Int) (i j : Nat) (v : Int) (h : i ≠ j) : st l (out.set i v) j = st l out j := by unfold st; rw [lset_ne _ _ _ _ _ h]
theorem Inv.skip {l out : List Int} {L i S : Nat} (h : Inv l out L i S) (hne : l.getD i 0 ≠ (L : Int)) : Inv l out L (i + 1) S := by
 have e : ∀ j, Dn l L (i + 1) j → Dn l L i j := fun j ⟨h0, h1⟩ => ⟨h0, by
  rcases h1 with h1 | ⟨h1, h2⟩
  ·exact .inl h1
  ·refine .inr ⟨h1, ?_⟩
   by_cases ej : j = i
   ·rw [ej] at h1; exact absurd h1 hne
   ·omega⟩
 exact ⟨h.good, fun j hj hd => h.ends j hj (e j hd), fun j k hj hk dj dk hne => h.apart j k hj hk (e j dj) (e k dk) hne⟩
theorem Inv.put {l out : List Int} {L i S N : Nat} (h : Inv l out L i S) (hi : i < l.length) (he : l.getD i 0 = (L : Int)) (hL : L ≤ 60) (hN : N * 2 ^ (60 - L) = S) (hb : N < 1152921504606846976) : Inv l (out.set i (N : Int)) L (i + 1) (S + 2 ^ (60 - L)) := by
 have hlen := h.good.1
 have hw : wl l i = 2 ^ (60 - L) := by unfold wl; rw [he, Int.toNat_natCast]
 have hs : st l (out.set i (N : Int)) i = S := by
  unfold st
  rw [lset_self _ _ _ _ (by omega), hw, Int.toNat_natCast, hN]
 have e : ∀ j, j ≠ i → Dn l L (i + 1) j → Dn l L i j := fun j hj ⟨h0, h1⟩ => ⟨h0, by
  rcases h1 with h1 | ⟨h1, h2⟩
  ·exact .inl h1
  ·exact .inr ⟨h1, by omega⟩⟩
 refine ⟨h.good.set i _ (by omega) (by omega), fun j hj hd => ?_, fun j k hj hk dj dk hne => ?_⟩
 ·by_cases ej : j = i
  ·subst ej; rw [hs, hw]; exact Nat.le_refl _
  ·rw [st_set_ne _ _ _ _ _ (fun h => ej h.symm)]
   exact Nat.le_trans (h.ends j hj (e j ej hd)) (Nat.le_add_right _ _)
 ·by_cases ej : j = i
  ·have ek : k ≠ i := fun h => hne (by rw [ej, h])
   subst ej
   rw [hs, st_set_ne _ _ _ _ _ (fun h => ek h.symm)]
   exact .inr (h.ends k hk (e k ek dk))
  ·by_cases ek : k = i
   ·subst ek
    rw [hs, st_set_ne _ _ _ _ _ (fun h => ej h.symm)]
    exact .inl (h.ends j hj (e j ej dj))
   ·rw [st_set_ne _ _ _ _ _ (fun h => ej h.symm), st_set_ne _ _ _ _ _ (fun h => ek h.symm)]
    exact h.apart j k hj hk (e j ej dj) (e k ek dk) hne
theorem Inv.next {l out : List Int} {L S : Nat} (h : Inv l out L l.length S) : Inv l out (L + 1) 0 S := by
 have e : ∀ j, j < l.length → Dn l (L + 1) 0 j → Dn l L l.length j := fun j hj ⟨h0, h1⟩ => ⟨h0, by
  rcases h1 with h1 | ⟨_, h2⟩
  ·by_cases ej : l.getD j 0 = (L : Int)
   ·exact .inr ⟨ej, hj⟩
   ·exact .inl (by omega)
  ·omega⟩
 exact ⟨h.good, fun j hj hd => h.ends j hj (e j hj hd), fun j k hj hk dj dk hne => h.apart j k hj hk (e j hj dj) (e k hk dk) hne⟩
theorem codes2_l1 (l : List Int) (hl : l.length ≤ 300) (K : Nat) (hK : K ≤ 1152921504606846976) (L : Nat) (hL : 1 ≤ L) (hL2 : L ≤ 60)
  (next : ∀ (out : List Int) (nxt last : Nat), Inv l out (L + 1) 0 (nxt * 2 ^ (60 - last)) → last ≤ L → nxt * 2 ^ (60 - last) + kEq ((L + 1 : Nat) : Int) l + kGt ((L + 1 : Nat) : Int) l = K →
   ∃ res S, Ev (fun k => impl_huffCodes.l0 k l (nxt : Int) (last : Int) ((L + 1 : Nat) : Int) out) res ∧ Inv l res 61 0 S)
  (d : Nat) : ∀ (i : Nat) (out : List Int) (nxt last : Nat), i + d = l.length → Inv l out L i (nxt * 2 ^ (60 - last)) → last ≤ L → nxt * 2 ^ (60 - last) + kEq (L : Int) (l.drop i) + kGt (L : Int) l = K →
   ∃ res S, Ev (fun k => impl_huffCodes.l1 k l (nxt : Int) (last : Int) (L : Int) out l (l.length : Int) (i : Int)) res ∧ Inv l res 61 0 S := by
 induction d with
 | zero =>
  intro i out nxt last hi hg hla hp
  obtain rfl : i = l.length := by clear hp; omega
  rw [List.drop_length, kEq, kGt_step] at hp
  obtain ⟨res, S, h2, h3⟩ := next out nxt last hg.next hla (by rw [show ((L + 1 : Nat) : Int) = (L : Int) + 1 by omega]; omega)
  have e1 : wrap64 ((L : Int) + 1) = ((L + 1 : Nat) : Int) := w64 (by clear hp; omega) (by clear hp; omega)
  refine ⟨res, S, Ev.step (fun k => ?_) h2, h3⟩
  rw [impl_huffCodes.l1, if_neg (by clear hp e1; omega), e1]
 | succ d ih =>
  intro i out nxt last hi hg hla hp
  have hrd : rd l (i : Int) = l.getD i 0 := rd_nat l i
  have hlen := hg.good.1
  have e1 : wrap64 ((i : Int) + 1) = ((i + 1 : Nat) : Int) := w64 (by clear hp; omega) (by clear hp; omega)
  rw [kEq_drop (L : Int) l i (by clear hp; omega)] at hp
  have c1 : (i : Int) < (l.length : Int) := by clear hp e1; omega
  have c2 : (0 : Int) ≤ (i : Int) := Int.natCast_nonneg _
  have c3 : (i : Int) < (out.length : Int) := by clear hp e1; omega
  by_cases q : l.getD i 0 = (L : Int)
  ·rw [if_pos q, q] at hp
   have hwt : wt (L : Int) = 2 ^ (60 - L) := by unfold wt; rw [Int.toNat_natCast]
   have hpw : nxt * 2 ^ (60 - last) = nxt * 2 ^ (L - last) * 2 ^ (60 - L) := by rw [Nat.mul_assoc, ← Nat.pow_add, show L - last + (60 - L) = 60 - last by clear hp e1; omega]
   have hn : (nxt * 2 ^ (L - last) + 1) * 2 ^ (60 - L) = nxt * 2 ^ (60 - last) + 2 ^ (60 - L) := by rw [Nat.add_mul, Nat.one_mul, ← hpw]
   have hle : nxt * 2 ^ (L - last) + 1 ≤ (nxt * 2 ^ (L - last) + 1) * 2 ^ (60 - L) := Nat.le_mul_of_pos_right _ (Nat.two_pow_pos _)
   generalize hN : nxt * 2 ^ (L - last) = N at hn hle hpw
   have hNb : N + 1 ≤ 1152921504606846976 := by clear e1 hN hpw; omega
   have hg' := hg.put (by clear hp e1; omega) q hL2 hpw.symm (by clear hp e1; omega)
   rw [← hn] at hg'
   obtain ⟨res, S, h2, h3⟩ := ih (i + 1) (out.set i (N : Int)) (N + 1) L (by clear hp e1; omega) hg' (Nat.le_refl _) (by clear e1 hN hpw hg'; omega)
   have eL : wrap64 ((L : Int) - (last : Int)) = ((L - last : Nat) : Int) := by rw [w64 (by clear hp e1; omega) (by clear hp e1; omega)]; clear hp e1; omega
   have eN : wrap64 (N : Int) = (N : Int) := w64 (by clear hp e1 eL; omega) (by clear hp e1 eL; omega)
   refine ⟨res, S, ?_, h3⟩
   refine Ev.step (fun k => ?_) h2
   have eS : shl .i64 (nxt : Int) ((L - last : Nat) : Int) = (N : Int) := by
    rw [shl_nat _ _ (by clear hp e1 eL eN; omega), hN, eN]
   have eT : wrap64 ((N : Int) + 1) = ((N + 1 : Nat) : Int) := w64 (by clear hp e1 eL eN eS; omega) (by clear hp e1 eL eN eS; omega)
   rw [impl_huffCodes.l1, if_pos c1, if_pos c2, if_pos c1, hrd, if_pos q, eL, if_pos (Int.natCast_nonneg _), if_pos c3, eS, eT, e1, Int.toNat_natCast]
  ·rw [if_neg q, Nat.zero_add] at hp
   obtain ⟨res, S, h2, h3⟩ := ih (i + 1) out nxt last (by clear hp e1; omega) (hg.skip q) hla hp
   refine ⟨res, S, Ev.step (fun k => ?_) h2, h3⟩
   rw [impl_huffCodes.l1, if_pos c1, if_pos c2, if_pos c1, hrd, if_neg q, e1]
theorem codes2_l0 (l : List Int) (hl : l.length ≤ 300) (K : Nat) (hK : K ≤ 1152921504606846976) (d : Nat) : ∀ (L : Nat) (out : List Int) (nxt last : Nat), L + d = 61 → 1 ≤ L → Inv l out L 0 (nxt * 2 ^ (60 - last)) → last ≤ L →
  nxt * 2 ^ (60 - last) + kEq (L : Int) l + kGt (L : Int) l = K → ∃ res S, Ev (fun k => impl_huffCodes.l0 k l (nxt : Int) (last : Int) (L : Int) out) res ∧ Inv l res 61 0 S := by
 induction d with
 | zero =>
  intro L out nxt last hd h1 hg hla hp
  obtain rfl : L = 61 := by clear hp; omega
  refine ⟨out, _, Ev.step (f := fun _ => some _) (fun k => ?_) (Ev.now _), hg⟩
  rw [impl_huffCodes.l0, if_neg (by decide)]
 | succ d ih =>
  intro L out nxt last hd h1 hg hla hp
  obtain ⟨res, S, b, c⟩ := codes2_l1 l hl K hK L h1 (by clear hp; omega) (fun out' nxt' last' g' hl' p' => ih (L + 1) out' nxt' last' (by clear hp p'; omega) (by clear hp p'; omega) g' (by clear hp p'; omega) p')
   l.length 0 out nxt last (by clear hp; omega) hg hla (by rw [List.drop_zero]; exact hp)
  refine ⟨res, S, Ev.step (fun k => ?_) b, c⟩
  rw [impl_huffCodes.l0, if_pos (by clear hp; omega)]
  rfl
theorem okH_out {l : List Int} (h : okH l = true) : l.length ≤ 300 ∧ inRange l = true ∧ kraft l ≤ 1152921504606846976 := by
 rw [okH, Bool.and_eq_true, decide_eq_true_iff] at h
 obtain ⟨h1, h2⟩ := h
 rw [okFrom_eq l 0 0 0 (by omega) (fun _ => rfl), Bool.and_eq_true, Bool.or_eq_true, Bool.and_eq_true, decide_eq_true_iff, decide_eq_true_iff, Nat.zero_add, Nat.zero_add] at h2
 refine ⟨h1, h2.1, ?_⟩
 rcases h2.2 with q | q
 ·omega
 ·exact Nat.le_trans (kraft_one l q.1) (by decide)
theorem codes2_ev (l : List Int) (ok : okH l = true) : ∃ res S, Ev (fun k => impl_huffCodes.f k l) res ∧ Inv l res 61 0 S := by
 obtain ⟨hl, hr, hk⟩ := okH_out ok
 have hg : Good l (List.replicate l.length 0) := ⟨List.length_replicate .., fun x hx => by rw [(List.mem_replicate.1 hx).2]; exact ⟨by decide, by decide⟩⟩
 have hno : ∀ j, ¬ Dn l 1 0 j := fun j ⟨h0, h1⟩ => by rcases h1 with h1 | ⟨_, h1⟩ <;> omega
 obtain ⟨res, S, b, c⟩ := codes2_l0 l hl (kraft l) hk 60 1 (List.replicate l.length 0) 0 0 rfl (by decide) ⟨hg, fun j _ hd => absurd hd (hno j), fun j k _ _ hd _ _ => absurd hd (hno j)⟩ (by decide) (by
  rw [Nat.zero_mul, Nat.zero_add, kraft_gt, kGt_step 0]; rfl)
 refine ⟨res, S, Ev.congr (fun k => ?_) b, c⟩
 unfold impl_huffCodes.f
 rw [if_pos (by omega), Int.toNat_natCast, if_pos (by omega)]
 rfl
theorem no_prefix {l res : List Int} {S : Nat} (h : Inv l res 61 0 S) (hr : inRange l = true) (i j : Nat) (hi : i < l.length) (hj : j < l.length) (hne : i ≠ j) (h0 : 0 < l.getD i 0) (hle : l.getD i 0 ≤ l.getD j 0) :
  (res.getD j 0).toNat / 2 ^ ((l.getD j 0).toNat - (l.getD i 0).toNat) ≠ (res.getD i 0).toNat := by
 intro he
 obtain ⟨a1, a2⟩ := inRange_get hr i hi
 obtain ⟨b1, b2⟩ := inRange_get hr j hj
 have hap := h.apart i j hi hj ⟨h0, .inl (by omega)⟩ ⟨by omega, .inl (by omega)⟩ hne
 unfold st wl at hap
 obtain ⟨p, hp⟩ := Int.eq_ofNat_of_zero_le a1
 obtain ⟨q, hq⟩ := Int.eq_ofNat_of_zero_le b1
 rw [hp, hq, Int.toNat_natCast, Int.toNat_natCast] at hap he
 have e : 2 ^ (60 - p) = 2 ^ (q - p) * 2 ^ (60 - q) := by rw [← Nat.pow_add, show q - p + (60 - q) = 60 - p by omega]
 rw [e] at hap
 generalize (res.getD j 0).toNat = c at hap he
 generalize (res.getD i 0).toNat = f at hap he
 have hA := Nat.two_pow_pos (q - p)
 have hB := Nat.two_pow_pos (60 - q)
 generalize 2 ^ (q - p) = A at hap he hA
 generalize 2 ^ (60 - q) = B at hap hB
 have hd := Nat.div_add_mod c A
 have hm := Nat.mod_lt c hA
 rw [he] at hd
 have h1 : f * (A * B) ≤ c * B := by
  rw [← Nat.mul_assoc]
  exact Nat.mul_le_mul_right B (by rw [Nat.mul_comm f A]; omega)
 have h2 : c * B + B ≤ f * (A * B) + A * B := by
  have e3 : f * (A * B) + A * B = (f * A + A) * B := by rw [Nat.add_mul, Nat.mul_assoc]
  have e4 : c * B + B = (c + 1) * B := by rw [Nat.succ_mul]
  rw [e3, e4]
  exact Nat.mul_le_mul_right B (by rw [Nat.mul_comm f A]; omega)
 generalize f * (A * B) = X at hap h1 h2
 generalize c * B = Y at hap h1 h2
 generalize A * B = Z at hap h2
 omega
theorem rdT61 (l : List S61) (i : Nat) : rd_T61 l (i : Int) = l.getD i z61 := by unfold rd_T61; rw [Int.toNat_natCast]
def tot : List S61 → Nat
 | [] => 0
 | h :: t => h.f2.length + tot t
theorem tot_append (a b : List S61) : tot (a ++ b) = tot a + tot b := by
 induction a with
 | nil => show tot b = 0 + tot b; omega
 | cons h t ih => show h.f2.length + tot (t ++ b) = h.f2.length + tot t + tot b; rw [ih]; omega
def SymsOk (n : Nat) (l : List S61) : Prop := ∀ h ∈ l, ∀ s ∈ h.f2, 0 ≤ s ∧ s < (n : Int)
theorem split3 (l : List S61) (a : Nat) (h : a < l.length) : l = l.take a ++ l.getD a z61 :: l.drop (a + 1) := by
 rw [lget_lt _ _ _ h, ← List.drop_eq_getElem_cons h, List.take_append_drop]
theorem least_l0 (l : List S61) (h5 : l.length ≤ 1000) (d : Nat) : ∀ i a : Nat, i + d = l.length → a < l.length → ∃ a' : Nat, a' < l.length ∧ Ev (fun k => spec_l08Least.l0 k l (a : Int) (i : Int)) (a' : Int) := by
 induction d with
 | zero =>
  intro i a h ha
  refine ⟨a, ha, Ev.step (f := fun _ => some _) (fun k => ?_) (Ev.now _)⟩
  rw [spec_l08Least.l0, if_neg (by omega)]
 | succ d ih =>
  intro i a h ha
  have e1 : wrap64 ((i : Int) + 1) = ((i + 1 : Nat) : Int) := w64 (by omega) (by omega)
  obtain ⟨a1, ha1, h1⟩ := ih (i + 1) a (by omega) ha
  obtain ⟨a2, ha2, h2⟩ := ih (i + 1) i (by omega) (by omega)
  obtain ⟨K1, k1⟩ := ev_out h1
  obtain ⟨K2, k2⟩ := ev_out h2
  have j1 : ∀ b : Bool, ∃ a' : Nat, a' < l.length ∧ ∀ k, K1 + K2 ≤ k → spec_l08Least.j1 (k + 1) l (a : Int) (i : Int) b = some (a' : Int) := by
   intro b
   cases b with
   | true => exact ⟨a2, ha2, fun k hk => by rw [spec_l08Least.j1, if_pos rfl, e1]; exact k2 k (by omega)⟩
   | false => exact ⟨a1, ha1, fun k hk => by rw [spec_l08Least.j1, if_neg (by decide), e1]; exact k1 k (by omega)⟩
  obtain ⟨b, hb⟩ : ∃ b : Bool, ∀ k, spec_l08Least.l0 (k + 1) l (a : Int) (i : Int) = spec_l08Least.j1 k l (a : Int) (i : Int) b := by
   by_cases c : (rd_T61 l (i : Int)).f0 < (rd_T61 l (a : Int)).f0
   ·exact ⟨true, fun k => by rw [spec_l08Least.l0, if_pos (by omega), if_pos (by omega), if_pos (by omega), if_pos (by omega), if_pos c]⟩
   ·by_cases c2 : (rd_T61 l (i : Int)).f0 = (rd_T61 l (a : Int)).f0
    ·exact ⟨_, fun k => by rw [spec_l08Least.l0, if_pos (by omega), if_pos (by omega), if_pos (by omega), if_pos (by omega), if_neg c, if_pos c2]⟩
    ·exact ⟨false, fun k => by rw [spec_l08Least.l0, if_pos (by omega), if_pos (by omega), if_pos (by omega), if_pos (by omega), if_neg c, if_neg c2]⟩
  obtain ⟨a', ha', hj⟩ := j1 b
  refine ⟨a', ha', ev_mk (K1 + K2 + 2) fun k hk => ?_⟩
  obtain ⟨k, rfl⟩ : ∃ m, k = m + 2 := ⟨k - 2, by omega⟩
  rw [hb]
  exact hj k (by omega)
theorem least_ev (l : List S61) (h1 : 1 ≤ l.length) (h5 : l.length ≤ 1000) : ∃ a : Nat, a < l.length ∧ Ev (fun k => spec_l08Least.f k l) (a : Int) := least_l0 l h5 l.length 0 0 (by omega) (by omega)
theorem without_ev (l : List S61) (a : Nat) (ha : a < l.length) (h5 : l.length ≤ 1000) : spec_l08Without.f l (a : Int) = some (l.take a ++ l.drop (a + 1)) := by
 have h1 : (l.take a).length ≤ 1000 := by rw [List.length_take]; omega
 have h2 : (l.drop (a + 1)).length ≤ 1000 := by rw [List.length_drop]; omega
 unfold spec_l08Without.f
 rw [Option.bind_some, if_pos (by omega), if_pos (by omega), Option.bind_some, Int.toNat_natCast, if_pos (by simp; omega), Option.bind_some, w64 (by omega) (by omega), if_pos (by omega), if_pos (by omega), Option.bind_some, show ((a : Int) + 1).toNat = a + 1 by omega, if_pos (by simp; omega), List.nil_append]
theorem lens_l2 (n : Nat) (x4 : List S61) (hx4 : x4.length ≤ 1000) (x6 : Int) (syms : List Int) (hs : ∀ s ∈ syms, 0 ≤ s ∧ s < (n : Int)) (hl : syms.length ≤ 100000) (y0 y1 y3 y4 : Int) (y2 y5 : List Int)
  (next : ∀ x18 : List Int, x18.length = n → ∃ r : List Int, r.length = n ∧ Ev (fun k => spec_HuffLens.l1 k (x4 ++ [(⟨wrap64 (y0 + y3), x6, syms⟩ : S61)]) (wrap64 (x6 + 1)) x18) r) (d : Nat) :
  ∀ (i : Nat) (x18 : List Int), i + d = syms.length → x18.length = n → ∃ r : List Int, r.length = n ∧ Ev (fun k => spec_HuffLens.l2 k x4 x6 (i : Int) x18 syms y0 y1 y2 y3 y4 y5) r := by
 induction d with
 | zero =>
  intro i x18 h hx
  obtain ⟨r, hr, hev⟩ := next x18 hx
  refine ⟨r, hr, Ev.step (fun k => ?_) hev⟩
  rw [spec_HuffLens.l2, if_neg (by omega), if_pos (by omega)]
 | succ d ih =>
  intro i x18 h hx
  have hm : syms.getD i 0 ∈ syms := by rw [lget_lt _ _ _ (by omega)]; exact List.getElem_mem (by omega)
  obtain ⟨s0, s1⟩ := hs _ hm
  obtain ⟨r, hr, hev⟩ := ih (i + 1) (x18.set (syms.getD i 0).toNat (wrap64 ((rd x18 (syms.getD i 0)) + 1))) (by omega) (by rw [List.length_set]; exact hx)
  refine ⟨r, hr, Ev.step (fun k => ?_) hev⟩
  rw [spec_HuffLens.l2, if_pos (by omega), if_pos (by omega), rd_nat, if_pos s0, if_pos (by omega), w64 (x := (i : Int) + 1) (by omega) (by omega)]
  rfl
theorem lens_l1 (n : Nat) (m : Nat) : ∀ (x4 : List S61) (x6 : Int) (x18 : List Int), x4.length ≤ m → x4.length ≤ 300 → SymsOk n x4 → tot x4 ≤ 300 → x18.length = n → ∃ r : List Int, r.length = n ∧ Ev (fun k => spec_HuffLens.l1 k x4 x6 x18) r := by
 induction m with
 | zero =>
  intro x4 x6 x18 hm _ _ _ hx
  refine ⟨x18, hx, Ev.step (f := fun _ => some _) (fun k => ?_) (Ev.now _)⟩
  rw [spec_HuffLens.l1, if_neg (by omega)]
 | succ m ih =>
  intro x4 x6 x18 hm h5 hs ht hx
  by_cases c : x4.length ≤ 1
  ·refine ⟨x18, hx, Ev.step (f := fun _ => some _) (fun k => ?_) (Ev.now _)⟩
   rw [spec_HuffLens.l1, if_neg (by omega)]
  ·obtain ⟨a, ha, hea⟩ := least_ev x4 (by omega) (by omega)
   have hw1 := without_ev x4 a ha (by omega)
   have hsp := split3 x4 a ha
   generalize hA : x4.getD a z61 = A at hsp
   have hAm : A ∈ x4 := by rw [hsp]; simp
   generalize hL1 : x4.take a ++ x4.drop (a + 1) = l1 at hw1
   have hl1 : l1.length + 1 = x4.length := by rw [← hL1, List.length_append, List.length_take, List.length_drop]; omega
   have ht1 : tot l1 + A.f2.length = tot x4 := by
    rw [hsp, ← hL1, tot_append, tot_append]
    show _ = tot (x4.take a) + (A.f2.length + tot (x4.drop (a + 1)))
    omega
   have hs1 : SymsOk n l1 := fun h hh => hs h (by rw [← hL1] at hh; rcases List.mem_append.1 hh with e | e; exact List.mem_of_mem_take e; exact List.mem_of_mem_drop e)
   obtain ⟨b, hb, heb⟩ := least_ev l1 (by omega) (by omega)
   have hw2 := without_ev l1 b hb (by omega)
   have hsp2 := split3 l1 b hb
   generalize hB : l1.getD b z61 = B at hsp2
   have hBm : B ∈ l1 := by rw [hsp2]; simp
   generalize hL2 : l1.take b ++ l1.drop (b + 1) = l2 at hw2
   have hl2 : l2.length + 1 = l1.length := by rw [← hL2, List.length_append, List.length_take, List.length_drop]; omega
   have ht2 : tot l2 + B.f2.length = tot l1 := by
    rw [hsp2, ← hL2, tot_append, tot_append]
    show _ = tot (l1.take b) + (B.f2.length + tot (l1.drop (b + 1)))
    omega
   have hs2 : SymsOk n l2 := fun h hh => hs1 h (by rw [← hL2] at hh; rcases List.mem_append.1 hh with e | e; exact List.mem_of_mem_take e; exact List.mem_of_mem_drop e)
   have hsy : ∀ s ∈ A.f2 ++ B.f2, 0 ≤ s ∧ s < (n : Int) := fun s hh => by
    rcases List.mem_append.1 hh with e | e
    ·exact hs A hAm s e
    ·exact hs1 B hBm s e
   obtain ⟨r, hr, hev⟩ := lens_l2 n l2 (by omega) x6 (A.f2 ++ B.f2) hsy (by rw [List.length_append]; omega) A.f0 A.f1 B.f0 B.f1 A.f2 B.f2 (fun x18' hx' => ih _ _ x18' (by rw [List.length_append]; simp; omega) (by rw [List.length_append]; simp; omega) (fun h hh => by
     rcases List.mem_append.1 hh with e | e
     ·exact hs2 h e
     ·rw [List.mem_singleton] at e; subst e; exact hsy) (by rw [tot_append]; show tot l2 + ((A.f2 ++ B.f2).length + 0) ≤ 300; rw [List.length_append]; omega) hx') (A.f2 ++ B.f2).length 0 x18 (by omega) hx
   obtain ⟨K1, k1⟩ := ev_out hea
   obtain ⟨K2, k2⟩ := ev_out heb
   obtain ⟨K3, k3⟩ := ev_out hev
   refine ⟨r, hr, ev_mk (K1 + K2 + K3 + 1) fun k hk => ?_⟩
   obtain ⟨k, rfl⟩ : ∃ m, k = m + 1 := ⟨k - 1, by omega⟩
   rw [spec_HuffLens.l1, if_pos (by omega), k1 k (by omega), Option.bind_some, if_pos (by omega), if_pos (by omega), hw1, Option.bind_some, k2 k (by omega), Option.bind_some, if_pos (by omega), if_pos (by omega), hw2, Option.bind_some, Option.bind_some, rdT61, rdT61, hA, hB, if_pos (by simp; omega), Option.bind_some, List.nil_append, if_pos (by omega)]
   exact k3 k (by omega)
theorem lens_l0 (l : List Int) (h5 : l.length ≤ 300) (d : Nat) : ∀ (i : Nat) (x4 : List S61), i + d = l.length → x4.length ≤ i → (∀ h ∈ x4, ∃ j : Nat, j < l.length ∧ h.f2 = [(j : Int)]) → tot x4 = x4.length → ∃ r : List Int, r.length = l.length ∧ Ev (fun k => spec_HuffLens.l0 k l x4 (i : Int) (List.replicate l.length 0)) r := by
 induction d with
 | zero =>
  intro i x4 h hx hs ht
  by_cases c : x4.length = 1
  ·obtain ⟨A, rfl⟩ : ∃ A, x4 = [A] := by
    match x4, c with
    | [A], _ => exact ⟨A, rfl⟩
   obtain ⟨j, hj, hA⟩ := hs A (List.mem_cons_self ..)
   refine ⟨(List.replicate l.length 0).set j 1, by rw [List.length_set, List.length_replicate], Ev.step (f := fun _ => some _) (fun k => ?_) (Ev.now _)⟩
   have e : rd_T61 [A] 0 = A := rfl
   have e2 : rd A.f2 0 = (j : Int) := by rw [hA]; rfl
   rw [spec_HuffLens.l0, if_neg (by omega), if_pos (by simp), if_pos (by simp), e, if_pos (by rw [hA]; simp), e2, if_pos (by omega), if_pos (by simp; omega), Int.toNat_natCast]
  ·obtain ⟨r, hr, hev⟩ := lens_l1 l.length x4.length x4 (x4.length : Int) (List.replicate l.length 0) (Nat.le_refl _) (by omega) (fun h hh s hs' => by
    obtain ⟨j, hj, e⟩ := hs h hh
    rw [e, List.mem_singleton] at hs'
    omega) (by omega) List.length_replicate
   refine ⟨r, hr, Ev.step (fun k => ?_) hev⟩
   rw [spec_HuffLens.l0, if_neg (by omega), if_neg (by omega)]
 | succ d ih =>
  intro i x4 h hx hs ht
  by_cases c : l.getD i 0 > 0
  ·obtain ⟨r, hr, hev⟩ := ih (i + 1) (x4 ++ [(⟨l.getD i 0, (x4.length : Int), [(i : Int)]⟩ : S61)]) (by omega) (by rw [List.length_append]; simp; omega) (fun h hh => by
    rcases List.mem_append.1 hh with e | e
    ·exact hs h e
    ·rw [List.mem_singleton] at e; subst e; exact ⟨i, by omega, rfl⟩) (by rw [tot_append, List.length_append, ht]; rfl)
   refine ⟨r, hr, Ev.step (fun k => ?_) hev⟩
   rw [spec_HuffLens.l0, if_pos (by omega), if_pos (by omega), rd_nat, if_pos c, if_pos (by omega), w64 (by omega) (by omega)]
   rfl
  ·obtain ⟨r, hr, hev⟩ := ih (i + 1) x4 (by omega) (by omega) hs ht
   refine ⟨r, hr, Ev.step (fun k => ?_) hev⟩
   rw [spec_HuffLens.l0, if_pos (by omega), if_pos (by omega), rd_nat, if_neg c, w64 (by omega) (by omega)]
   rfl
theorem counts_l0 (l : List Int) (h5 : l.length ≤ 300) (d : Nat) : ∀ i : Nat, i + d = l.length → ∃ b, Ev (fun k => spec_l08Counts.l0 k l (i : Int)) b := by
 induction d with
 | zero =>
  intro i h
  refine ⟨true, Ev.step (f := fun _ => some _) (fun k => ?_) (Ev.now _)⟩
  rw [spec_l08Counts.l0, if_neg (by omega)]
 | succ d ih =>
  intro i h
  by_cases c : l.getD i 0 < 0
  ·refine ⟨false, Ev.step (f := fun _ => some _) (fun k => ?_) (Ev.now _)⟩
   rw [spec_l08Counts.l0, if_pos (by omega), if_pos (by omega), rd_nat, if_pos c]
  ·by_cases c2 : l.getD i 0 > 1000000
   ·refine ⟨false, Ev.step (f := fun _ => some _) (fun k => ?_) (Ev.now _)⟩
    rw [spec_l08Counts.l0, if_pos (by omega), if_pos (by omega), rd_nat, if_neg c, if_pos c2]
   ·obtain ⟨b, hb⟩ := ih (i + 1) (by omega)
    refine ⟨b, Ev.step (fun k => ?_) hb⟩
    rw [spec_l08Counts.l0, if_pos (by omega), if_pos (by omega), rd_nat, if_neg c, if_neg c2, w64 (by omega) (by omega)]
    rfl
theorem huffLens_ev (l : List Int) : ∃ r : List Int, r.length ≤ 300 ∧ Ev (fun k => spec_HuffLens.f k l) r := by
 by_cases h5 : l.length ≤ 300
 ·obtain ⟨b, hb⟩ := counts_l0 l h5 l.length 0 (by omega)
  obtain ⟨K1, k1⟩ := ev_out hb
  have k1' : ∀ k, K1 ≤ k → spec_l08Counts.l0 k l 0 = some b := k1
  cases b with
  | false =>
   refine ⟨[], by simp, ev_mk K1 fun k hk => ?_⟩
   unfold spec_HuffLens.f spec_l08Counts.f
   rw [if_neg (by omega), k1' k hk, Option.bind_some, if_neg (by decide)]
  | true =>
   obtain ⟨r, hr, hev⟩ := lens_l0 l h5 l.length 0 [] (by omega) (by simp) (fun h hh => by cases hh) rfl
   obtain ⟨K2, k2⟩ := ev_out hev
   refine ⟨r, by omega, ev_mk (K1 + K2) fun k hk => ?_⟩
   unfold spec_HuffLens.f spec_l08Counts.f
   rw [if_neg (by omega), k1' k (by omega), Option.bind_some, if_pos rfl, if_pos (by omega), Int.toNat_natCast, if_pos (by omega)]
   exact k2 k (by omega)
 ·refine ⟨[], by simp, ev_mk 0 fun k _ => ?_⟩
  unfold spec_HuffLens.f spec_l08Counts.f
  rw [if_pos (by omega), Option.bind_some, if_neg (by decide)]
theorem countsOf_l0 (top : Int) (ht : 1 ≤ top ∧ top ≤ 1000001) (c : Nat) : ∀ {code : List Int} {B t u : Int} (out : List Int), Cur code B t u → B + 4 * (c : Int) ≤ 800000000 → out.length + c ≤ 100 →
  ∃ l t' u', Ev (fun k => spec_l01Cur_countsOf.l0 k out top (c : Int) code t u) (l, t', u') ∧ l.length ≤ 301 ∧ Cur code (B + 4 * (c : Int) + 20) t' u' := by
 induction c with
 | zero =>
  intro code B t u out h hB hl
  obtain ⟨v, t1, u1, e1, a1, b1, _, c1⟩ := pick_ev h (by omega) 14 (by omega)
  by_cases g0 : v = 0
  ·obtain ⟨v2, t2, u2, e2, _, _, c2⟩ := raw_ev c1 (by omega)
   refine ⟨out ++ [v2], t2, u2, Ev.step (f := fun _ => some _) (fun k => ?_) (Ev.now _), by rw [List.length_append]; simp; omega, c2.more (by omega)⟩
   rw [spec_l01Cur_countsOf.l0, if_neg (by omega), e1, Option.bind_some, if_pos g0, e2, Option.bind_some, if_pos (by omega)]
  ·by_cases g1 : v = 1
   ·obtain ⟨v2, t2, u2, e2, a2, b2, _, c2⟩ := pick_ev c1 (by omega) 2 (by omega)
    have b2 := b2 (by omega)
    refine ⟨List.replicate (300 + v2).toNat 0, t2, u2, Ev.step (f := fun _ => some _) (fun k => ?_) (Ev.now _), by rw [List.length_replicate]; omega, c2.more (by omega)⟩
    rw [spec_l01Cur_countsOf.l0, if_neg (by omega), e1, Option.bind_some, if_neg g0, if_pos g1, e2, Option.bind_some, w64 (by omega) (by omega), if_pos (by omega), if_pos (by omega)]
   ·by_cases g2 : v = 2
    ·obtain ⟨v2, t2, u2, e2, a2, b2, _, c2⟩ := pick_ev c1 (by omega) 13 (by omega)
     have b2 := b2 (by omega)
     refine ⟨([1, 1, 2, 3, 5, 8, 13, 21, 34, 55, 89, 144] : List Int).take v2.toNat, t2, u2, Ev.step (f := fun _ => some _) (fun k => ?_) (Ev.now _), by rw [List.length_take]; omega, c2.more (by omega)⟩
     rw [spec_l01Cur_countsOf.l0, if_neg (by omega), e1, Option.bind_some, if_neg g0, if_neg g1, if_pos g2, Option.bind_some, e2, Option.bind_some, if_pos a2, if_pos (by simp; omega)]
    ·refine ⟨out, t1, u1, Ev.step (f := fun _ => some _) (fun k => ?_) (Ev.now _), by omega, c1.more (by omega)⟩
     rw [spec_l01Cur_countsOf.l0, if_neg (by omega), e1, Option.bind_some, if_neg g0, if_neg g1, if_neg g2]
 | succ c ih =>
  intro code B t u out h hB hl
  obtain ⟨v, t1, u1, e1, a1, b1, c1⟩ := wide_ev h (by omega) top ht.1 (by omega)
  obtain ⟨o, t2, u2, e2, c2⟩ := once_ev c1 (by omega) 4 (by omega)
  cases o with
  | true =>
   obtain ⟨l, t', u', hev, hlen, hc⟩ := ih (out ++ [0]) c2 (by omega) (by rw [List.length_append]; simp; omega)
   refine ⟨l, t', u', Ev.step (fun k => ?_) hev, hlen, hc.more (by omega)⟩
   rw [spec_l01Cur_countsOf.l0, if_pos (by omega), e1, Option.bind_some, e2, Option.bind_some, if_pos rfl, if_pos (by omega), w64 (by omega) (by omega), show ((c + 1 : Nat) : Int) - 1 = (c : Int) by omega]
  | false =>
   obtain ⟨l, t', u', hev, hlen, hc⟩ := ih (out ++ [v]) c2 (by omega) (by rw [List.length_append]; simp; omega)
   refine ⟨l, t', u', Ev.step (fun k => ?_) hev, hlen, hc.more (by omega)⟩
   rw [spec_l01Cur_countsOf.l0, if_pos (by omega), e1, Option.bind_some, e2, Option.bind_some, if_neg (by simp), if_pos (by omega), w64 (by omega) (by omega), show ((c + 1 : Nat) : Int) - 1 = (c : Int) by omega]
theorem countsOf_ev {code : List Int} {B t u : Int} (h : Cur code B t u) (hB : B ≤ 1000) :
  ∃ l t' u', Ev (fun k => spec_l01Cur_countsOf.f k code t u) (l, t', u') ∧ l.length ≤ 301 ∧ Cur code (B + 100) t' u' := by
 obtain ⟨v, t1, u1, e1, a1, b1, _, c1⟩ := pick_ev h (by omega) 4 (by omega)
 have b1 := b1 (by omega)
 obtain ⟨v2, t2, u2, e2, a2, b2, c2⟩ := size_ev c1 (by omega) 14 (by omega) (by omega)
 obtain ⟨j, rfl⟩ := Int.eq_ofNat_of_zero_le a1
 obtain ⟨n, rfl⟩ := Int.eq_ofNat_of_zero_le a2
 have hr : 1 ≤ rd [2, 9, 200, 1000001] (j : Int) ∧ rd [2, 9, 200, 1000001] (j : Int) ≤ 1000001 := by
  have hj : j < 4 := by omega
  match j, hj with
  | 0, _ => decide
  | 1, _ => decide
  | 2, _ => decide
  | 3, _ => decide
 obtain ⟨l, t', u', hev, hlen, hc⟩ := countsOf_l0 (rd [2, 9, 200, 1000001] (j : Int)) hr n [] c2 (by omega) (by simp; omega)
 refine ⟨l, t', u', Ev.congr (fun k => ?_) hev, hlen, hc.more (by omega)⟩
 unfold spec_l01Cur_countsOf.f
 rw [Option.bind_some, e1, Option.bind_some, if_pos (by omega), if_pos (by simp; omega), e2, Option.bind_some]
theorem lensOf_ev {code : List Int} {B t u : Int} (h : Cur code B t u) (hB : B ≤ 1000) :
  ∃ l t' u', Ev (fun k => spec_l01Cur_lensOf.f k code t u) (l, t', u') ∧ l.length ≤ 300 ∧ Cur code (B + 200) t' u' := by
 obtain ⟨l, t1, u1, hev, hl, c1⟩ := countsOf_ev h hB
 obtain ⟨r, hr, hev2⟩ := huffLens_ev l
 obtain ⟨K1, k1⟩ := ev_out hev
 obtain ⟨K2, k2⟩ := ev_out hev2
 by_cases g : (r.length : Int) > 0
 case neg =>
  refine ⟨r, t1, u1, ev_mk (K1 + K2) fun k hk => ?_, hr, c1.more (by omega)⟩
  unfold spec_l01Cur_lensOf.f
  rw [k1 k (by omega), Option.bind_some, k2 k (by omega), Option.bind_some, if_neg g]
 have m1 : 1 ≤ mn 200 (r.length : Int) ∧ mn 200 (r.length : Int) ≤ (r.length : Int) := by unfold mn; split <;> omega
 obtain ⟨v2, t2, u2, e2, a2, b2, _, c2⟩ := pick_ev c1 (by omega) (mn 200 (r.length : Int)) (by omega)
 have b2 := b2 (by omega)
 obtain ⟨v3, t3, u3, e3, a3, b3, _, c3⟩ := pick_ev c2 (by omega) 10 (by omega)
 by_cases g0 : v3 = 0
 ·obtain ⟨v4, t4, u4, e4, _, _, c4⟩ := raw_ev c3 (by omega)
  obtain ⟨v5, t5, u5, e5, a5, b5, _, c5⟩ := pick_ev c4 (by omega) 3 (by omega)
  have b5 := b5 (by omega)
  refine ⟨r.set v2.toNat (rd [v4, 60, 61] v5), t5, u5, ev_mk (K1 + K2) fun k hk => ?_, by rw [List.length_set]; exact hr, c5.more (by omega)⟩
  unfold spec_l01Cur_lensOf.f
  rw [k1 k (by omega), Option.bind_some, k2 k (by omega), Option.bind_some, if_pos g, e2, Option.bind_some, e3, Option.bind_some, if_pos g0, e4, Option.bind_some, Option.bind_some, e5, Option.bind_some, if_pos a5, if_pos (by simp; omega), if_pos a2, if_pos (by omega)]
 ·by_cases g1 : v3 = 1
  ·refine ⟨r.set v2.toNat (wrap64 ((rd r v2) + 1)), t3, u3, ev_mk (K1 + K2) fun k hk => ?_, by rw [List.length_set]; exact hr, c3.more (by omega)⟩
   unfold spec_l01Cur_lensOf.f
   rw [k1 k (by omega), Option.bind_some, k2 k (by omega), Option.bind_some, if_pos g, e2, Option.bind_some, e3, Option.bind_some, if_neg g0, if_pos g1, if_pos a2, if_pos (by omega)]
  ·by_cases g2 : v3 = 2
   ·obtain ⟨v5, t5, u5, e5, a5, b5, _, c5⟩ := pick_ev c3 (by omega) (mn 200 (r.length : Int)) (by omega)
    have b5 := b5 (by omega)
    refine ⟨(r.set v2.toNat (rd r v5)).set v5.toNat (rd r v2), t5, u5, ev_mk (K1 + K2) fun k hk => ?_, by rw [List.length_set, List.length_set]; exact hr, c5.more (by omega)⟩
    unfold spec_l01Cur_lensOf.f
    rw [k1 k (by omega), Option.bind_some, k2 k (by omega), Option.bind_some, if_pos g, e2, Option.bind_some, e3, Option.bind_some, if_neg g0, if_neg g1, if_pos g2, e5, Option.bind_some, if_pos a2, if_pos (by omega), if_pos a5, if_pos (by omega)]
   ·refine ⟨r, t3, u3, ev_mk (K1 + K2) fun k hk => ?_, hr, c3.more (by omega)⟩
    unfold spec_l01Cur_lensOf.f
    rw [k1 k (by omega), Option.bind_some, k2 k (by omega), Option.bind_some, if_pos g, e2, Option.bind_some, e3, Option.bind_some, if_neg g0, if_neg g1, if_neg g2]
theorem drawHuff_ev {code : List Int} (h1 : ∀ x ∈ code, 0 ≤ x ∧ x ≤ 255) (h2 : code.length ≤ 140737488351232) : ∃ l : List Int, l.length ≤ 300 ∧ Ev (fun k => spec_DrawHuffCodes.f k code) l := by
 obtain ⟨t, u, e, c⟩ := open_ev h1 h2
 obtain ⟨l, t', u', hev, hl, _⟩ := lensOf_ev c (by omega)
 obtain ⟨K, hK⟩ := ev_out hev
 refine ⟨l, hl, ev_mk K fun k hk => ?_⟩
 unfold spec_DrawHuffCodes.f
 rw [e, Option.bind_some, hK k hk, Option.bind_some]
theorem tdv2 (i : Nat) : Int.tdiv (i : Int) 2 = ((i / 2 : Nat) : Int) := rfl
theorem pre_l2 (l res : List Int) (i j q : Nat) (hi : i < l.length) (hj : j < l.length) (hj2 : j < 1000) (hlen : res.length = l.length) (hq : l.getD j 0 = (q : Int)) (hq6 : q ≤ 60)
  (hres : 0 ≤ res.getD i 0) (next : Ev (fun k => laws_FnPrefix.l1 k l res (i : Int) ((j + 1 : Nat) : Int)) true) (d : Nat) : ∀ c p : Nat, p + d = q → c < 1152921504606846976 → c / 2 ^ d ≠ (res.getD i 0).toNat →
  Ev (fun k => laws_FnPrefix.l2 k l res (i : Int) (j : Int) (c : Int) (p : Int)) true := by
 induction d with
 | zero =>
  intro c p hp hc hne
  rw [Nat.pow_zero, Nat.div_one] at hne
  refine Ev.step (fun k => ?_) next
  rw [laws_FnPrefix.l2, if_pos (by omega), if_pos (by omega), rd_nat, hq, if_neg (by omega), if_pos (by omega), if_pos (by omega), rd_nat, if_neg (by omega), w64 (by omega) (by omega)]
  rfl
 | succ d ih =>
  intro c p hp hc hne
  have e : c / 2 ^ (d + 1) = c / 2 / 2 ^ d := by rw [Nat.div_div_eq_div_mul, Nat.pow_succ, Nat.mul_comm]
  refine Ev.step (fun k => ?_) (ih (c / 2) (p + 1) (by omega) (by omega) (by rw [← e]; exact hne))
  rw [laws_FnPrefix.l2, if_pos (by omega), if_pos (by omega), rd_nat, hq, if_pos (by omega), tdv2, w64 (by omega) (by omega), w64 (by omega) (by omega)]
  rfl
theorem pre_l1 {l res : List Int} {S : Nat} (hI : Inv l res 61 0 S) (hr : inRange l = true) (hl : l.length ≤ 300) (i : Nat) (hi : i < l.length)
  (next : Ev (fun k => laws_FnPrefix.l0 k ((i + 1 : Nat) : Int) l res) true) (d : Nat) : ∀ j : Nat, j + d = l.length → Ev (fun k => laws_FnPrefix.l1 k l res (i : Int) (j : Int)) true := by
 have hlen := hI.good.1
 induction d with
 | zero =>
  intro j hj
  obtain ⟨K, hK⟩ := ev_out next
  refine ev_mk (K + 2) fun k hk => ?_
  obtain ⟨k, rfl⟩ : ∃ m, k = m + 2 := ⟨k - 2, by omega⟩
  rw [laws_FnPrefix.l1, if_neg (by omega), laws_FnPrefix.j3, if_neg (by decide), w64 (by omega) (by omega)]
  exact hK k (by omega)
 | succ d ih =>
  intro j hj
  obtain ⟨K0, k0⟩ := ev_out next
  obtain ⟨K1, k1⟩ := ev_out (ih (j + 1) (by omega))
  obtain ⟨a1, a2⟩ := inRange_get hr i hi
  obtain ⟨b1, b2⟩ := inRange_get hr j (by omega)
  have skip : ∀ k, K1 ≤ k → laws_FnPrefix.j4 (k + 1) l res (i : Int) (j : Int) true = some true := fun k hk => by
   rw [laws_FnPrefix.j4, if_pos rfl, w64 (by omega) (by omega)]
   exact k1 k hk
  by_cases c6 : j < 60
  case neg =>
   refine ev_mk (K0 + 2) fun k hk => ?_
   obtain ⟨k, rfl⟩ : ∃ m, k = m + 2 := ⟨k - 2, by omega⟩
   rw [laws_FnPrefix.l1, if_pos (by omega), decide_eq_false (by omega), laws_FnPrefix.j3, if_neg (by decide), w64 (by omega) (by omega)]
   exact k0 k (by omega)
  by_cases ce : i = j
  ·refine ev_mk (K1 + 3) fun k hk => ?_
   obtain ⟨k, rfl⟩ : ∃ m, k = m + 3 := ⟨k - 3, by omega⟩
   rw [laws_FnPrefix.l1, if_pos (by omega), decide_eq_true (by omega), laws_FnPrefix.j3, if_pos rfl, if_pos (by omega)]
   exact skip k (by omega)
  by_cases cz : l.getD i 0 = 0
  ·refine ev_mk (K1 + 3) fun k hk => ?_
   obtain ⟨k, rfl⟩ : ∃ m, k = m + 3 := ⟨k - 3, by omega⟩
   rw [laws_FnPrefix.l1, if_pos (by omega), decide_eq_true (by omega), laws_FnPrefix.j3, if_pos rfl, if_neg (by omega), if_pos (by omega), if_pos (by omega), rd_nat, if_pos cz]
   exact skip k (by omega)
  by_cases cl : l.getD j 0 < l.getD i 0
  ·refine ev_mk (K1 + 3) fun k hk => ?_
   obtain ⟨k, rfl⟩ : ∃ m, k = m + 3 := ⟨k - 3, by omega⟩
   rw [laws_FnPrefix.l1, if_pos (by omega), decide_eq_true (by omega), laws_FnPrefix.j3, if_pos rfl, if_neg (by omega), if_pos (by omega), if_pos (by omega), rd_nat, if_neg cz, if_pos (by omega), if_pos (by omega), rd_nat, decide_eq_true cl]
   exact skip k (by omega)
  ·have hnp := no_prefix hI hr i j hi (by omega) ce (by omega) (by omega)
   obtain ⟨p, hp⟩ := Int.eq_ofNat_of_zero_le a1
   obtain ⟨q, hq⟩ := Int.eq_ofNat_of_zero_le b1
   rw [hp, hq, Int.toNat_natCast, Int.toNat_natCast] at hnp
   have gi : 0 ≤ res.getD i 0 := by rw [lget_lt _ _ _ (by omega)]; exact (hI.good.2 _ (List.getElem_mem _)).1
   have gj : 0 ≤ res.getD j 0 ∧ res.getD j 0 < 1152921504606846976 := by rw [lget_lt _ _ _ (by omega)]; exact hI.good.2 _ (List.getElem_mem _)
   obtain ⟨c, hc⟩ := Int.eq_ofNat_of_zero_le gj.1
   rw [hc, Int.toNat_natCast] at hnp
   obtain ⟨K2, k2⟩ := ev_out (pre_l2 l res i j q hi (by omega) (by omega) hlen hq (by omega) gi (ih (j + 1) (by omega)) (q - p) c p (by omega) (by omega) hnp)
   refine ev_mk (K2 + 3) fun k hk => ?_
   obtain ⟨k, rfl⟩ : ∃ m, k = m + 3 := ⟨k - 3, by omega⟩
   rw [laws_FnPrefix.l1, if_pos (by omega), decide_eq_true (by omega), laws_FnPrefix.j3, if_pos rfl, if_neg (by omega), if_pos (by omega), if_pos (by omega), rd_nat, if_neg cz, if_pos (by omega), if_pos (by omega), rd_nat, decide_eq_false cl,
    laws_FnPrefix.j4, if_neg (by decide), if_pos (by omega), if_pos (by omega), if_pos (by omega), if_pos (by omega), rd_nat, rd_nat, hc, hp]
   exact k2 k (by omega)
theorem pre_l0 {l res : List Int} {S : Nat} (hI : Inv l res 61 0 S) (hr : inRange l = true) (hl : l.length ≤ 300) (d : Nat) : ∀ i : Nat, i + d = l.length → Ev (fun k => laws_FnPrefix.l0 k (i : Int) l res) true := by
 induction d with
 | zero =>
  intro i hi
  refine ev_mk 2 fun k hk => ?_
  obtain ⟨k, rfl⟩ : ∃ m, k = m + 2 := ⟨k - 2, by omega⟩
  rw [laws_FnPrefix.l0, if_neg (by omega), laws_FnPrefix.j1, if_neg (by decide)]
 | succ d ih =>
  intro i hi
  by_cases c6 : i < 60
  ·obtain ⟨K, hK⟩ := ev_out (pre_l1 hI hr hl i (by omega) (ih (i + 1) (by omega)) l.length 0 (by omega))
   refine ev_mk (K + 2) fun k hk => ?_
   obtain ⟨k, rfl⟩ : ∃ m, k = m + 2 := ⟨k - 2, by omega⟩
   rw [laws_FnPrefix.l0, if_pos (by omega), decide_eq_true (by omega), laws_FnPrefix.j1, if_pos rfl]
   exact hK k (by omega)
  ·refine ev_mk 2 fun k hk => ?_
   obtain ⟨k, rfl⟩ : ∃ m, k = m + 2 := ⟨k - 2, by omega⟩
   rw [laws_FnPrefix.l0, if_pos (by omega), decide_eq_false (by omega), laws_FnPrefix.j1, if_neg (by decide)]
theorem FnPrefix : laws_FnPrefix.Pure := by
 intro code _ hc hw
 by_cases g : (code.length : Int) > 1048576
 ·exact ⟨0, by unfold laws_FnPrefix.f laws_big.f; rw [Option.bind_some, if_pos (decide_eq_true g)]⟩
 obtain ⟨l, hl, hd⟩ := drawHuff_ev (code_wf hw) (by omega)
 obtain ⟨K1, h1⟩ := ev_out hd
 obtain ⟨K2, h2⟩ := ev_out (implHuffOk_ev l)
 obtain ⟨K3, h3⟩ := ev_out (specHuffOk_ev l)
 by_cases ok : okH l = true
 ·obtain ⟨res, S, hev, hI⟩ := codes2_ev l ok
  obtain ⟨_, hr, _⟩ := okH_out ok
  obtain ⟨K4, h4⟩ := ev_out hev
  obtain ⟨K5, h5⟩ := ev_out (pre_l0 hI hr hl l.length 0 (by omega))
  refine ⟨K1 + K2 + K3 + K4 + K5, ?_⟩
  unfold laws_FnPrefix.f laws_big.f impl_HuffCodes.f
  rw [Option.bind_some, if_neg (by rw [decide_eq_false g]; decide), h1 _ (by omega), Option.bind_some, h2 _ (by omega), Option.bind_some, if_pos ok, h4 _ (by omega), Option.bind_some, Option.bind_some, h3 _ (by omega), Option.bind_some, if_pos ok, if_pos (by rw [hI.good.1])]
  exact h5 _ (by omega)
 ·have hf : okH l = false := by rw [← Bool.not_eq_true]; exact ok
  refine ⟨K1 + K2 + K3, ?_⟩
  unfold laws_FnPrefix.f laws_big.f impl_HuffCodes.f
  rw [Option.bind_some, if_neg (by rw [decide_eq_false g]; decide), h1 _ (by omega), Option.bind_some, h2 _ (by omega), Option.bind_some, if_neg ok, Option.bind_some, h3 _ (by omega), Option.bind_some, if_neg ok]
  rfl

end Go.Proofs.Ytgjmmegmkdklbaa.Pure
