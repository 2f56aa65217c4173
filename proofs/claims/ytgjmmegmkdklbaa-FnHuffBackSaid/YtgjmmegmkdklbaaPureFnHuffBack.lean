/- Symbols that are written with drawn lengths of codes are read again: the program's HuffRead gives back what its HuffWrite has written, and the length is the sum of the codes' lengths. -/
import Derived.Test.YtgjmmegmkdklbaaQFnHuffBackx10
import Derived.Test.YtgjmmegmkdklbaaBase
import Derived.Test.YtgjmmegmkdklbaaBits
import Derived.Test.YtgjmmegmkdklbaaHuff
namespace Go.Proofs.Ytgjmmegmkdklbaa.Pure
open Go.RowKit Go.Proofs.Ytgjmmegmkdklbaa.QFnHuffBack Go.Proofs.YtgjmmegmkdklbaaW.PrintWords Go.Proofs.YtgjmmegmkdklbaaW.PrintLast Go.Proofs.YtgjmmegmkdklbaaW.PrintMore
open Go.Proofs.Ytgjmmegmkdklbaa Go.Proofs.Ytgjmmegmkdklbaa.Base Go.Proofs.Ytgjmmegmkdklbaa.Bits Go.Proofs.Ytgjmmegmkdklbaa.Huff
set_option linter.unusedVariables false
set_option linter.unusedSimpArgs false

/-- A cursor over code: what is kept of it. 'B': how far it may have gone. -/
def Cur (code : List Int) (B : Int) (t u : Int) : Prop := (∀ x ∈ code, 0 ≤ x ∧ x ≤ 255) ∧ code.length ≤ 140737488351232 ∧ 0 ≤ t ∧ t ≤ B ∧ 0 ≤ u ∧ u ≤ 66600
theorem Cur.more {code : List Int} {B B' t u : Int} (h : Cur code B t u) (hB : B ≤ B') : Cur code B' t u := ⟨h.1, h.2.1, h.2.2.1, by have := h.2.2.2.1; omega, h.2.2.2.2⟩
theorem rd_code {code : List Int} (h : ∀ x ∈ code, 0 ≤ x ∧ x ≤ 255) (i : Int) : 0 ≤ rd code i ∧ rd code i ≤ 255 := by
 unfold rd
 rw [List.getD_eq_getElem?_getD]
 cases hq : code[i.toNat]? with
 | none => exact ⟨by show (0 : Int) ≤ 0; omega, by show (0 : Int) ≤ 255; omega⟩
 | some x => exact h x (List.mem_of_getElem? hq)
theorem pick_ev {code : List Int} {B t u : Int} (h : Cur code B t u) (hB : B ≤ 1000000000) (n : Int) (hn : n ≤ 1000000000000) :
  ∃ v t' u', spec_l01Cur_pick.f code t u n = some (v, t', u') ∧ 0 ≤ v ∧ (1 ≤ n → v < n) ∧ (n < 2 → v = 0) ∧ Cur code (B + 1) t' u' := by
 obtain ⟨h1, h2, h3, h4, h5, h6⟩ := h
 unfold spec_l01Cur_pick.f
 by_cases c0 : n < 2
 ·exact ⟨0, t, u, if_pos c0, by omega, fun _ => by omega, fun _ => rfl, h1, h2, h3, by omega, h5, h6⟩
 ·have npos : 0 < n := by omega
  have wt : wrap64 (t + 1) = t + 1 := w64 (by omega) (by omega)
  rw [if_neg c0]
  by_cases c1 : t < (code.length : Int)
  ·obtain ⟨r0, r1⟩ := rd_code h1 t
   refine ⟨Int.tmod (rd code t) n, t + 1, u, by rw [if_pos c1, if_pos h3, if_neg (by omega), w64 (by omega) (by omega), wt], Int.tmod_nonneg _ r0, fun _ => Int.tmod_lt_of_pos _ npos, fun hn2 => absurd hn2 c0, h1, h2, by omega, by omega, h5, h6⟩
  ·have w1 : wrap64 (u * 1103) = u * 1103 := w64 (by omega) (by omega)
   have w2 : wrap64 (u * 1103 + 12345) = u * 1103 + 12345 := w64 (by omega) (by omega)
   have s0 : 0 ≤ Int.tmod (u * 1103 + 12345) 65521 := Int.tmod_nonneg _ (by omega)
   have s1 : Int.tmod (u * 1103 + 12345) 65521 < 65521 := Int.tmod_lt_of_pos _ (by omega)
   by_cases c2 : (code.length : Int) > 0
   ·have i0 : 0 ≤ Int.tmod t (code.length : Int) := Int.tmod_nonneg _ h3
    have i1 : Int.tmod t (code.length : Int) < (code.length : Int) := Int.tmod_lt_of_pos _ c2
    obtain ⟨r0, r1⟩ := rd_code h1 (Int.tmod t (code.length : Int))
    have d0 : 0 ≤ Int.tdiv (Int.tmod (u * 1103 + 12345) 65521) 7 := Int.tdiv_nonneg s0 (by omega)
    have d1 : Int.tdiv (Int.tmod (u * 1103 + 12345) 65521) 7 ≤ 65521 := by
     have := Int.tdiv_le_self 7 s0
     omega
    refine ⟨Int.tmod (Int.tdiv (Int.tmod (u * 1103 + 12345) 65521) 7 + rd code (Int.tmod t (code.length : Int))) n, t + 1, Int.tmod (u * 1103 + 12345) 65521, ?_, Int.tmod_nonneg _ (by omega), fun _ => Int.tmod_lt_of_pos _ npos, fun hn2 => absurd hn2 c0, h1, h2, by omega, by omega, s0, by omega⟩
    rw [if_neg c1, if_pos c2, if_neg (by omega), if_pos i0, if_pos i1, if_neg (by omega), w1, w2, wt, w64 (x := Int.tdiv (Int.tmod (u * 1103 + 12345) 65521) 7) (by omega) (by omega), w64 (x := rd code (Int.tmod t (code.length : Int))) (by omega) (by omega), w64 (by omega) (by omega)]
   ·refine ⟨(0 : Int) % n, t + 1, Int.tmod (u * 1103 + 12345) 65521, by rw [if_neg c1, if_neg c2, if_neg (by omega), w1, w2, wt], Int.emod_nonneg _ (by omega), fun _ => Int.emod_lt_of_pos _ npos, fun hn2 => absurd hn2 c0, h1, h2, by omega, by omega, s0, by omega⟩
theorem open_ev {code : List Int} (h1 : ∀ x ∈ code, 0 ≤ x ∧ x ≤ 255) (h2 : code.length ≤ 140737488351232) : ∃ t u, spec_l01Open.f code = some (code, t, u) ∧ Cur code 0 t u := by
 refine ⟨0, 89 + ((code.length : Int) % 1000), rfl, h1, h2, by omega, by omega, ?_, ?_⟩
 ·have := Int.emod_nonneg (code.length : Int) (show (1000 : Int) ≠ 0 by omega); omega
 ·have := Int.emod_lt_of_pos (code.length : Int) (show (0 : Int) < 1000 by omega); omega
theorem code_wf {code : List Int} (h : ∀ x ∈ code, (Lit.int .u8 x).wf = true) : ∀ x ∈ code, 0 ≤ x ∧ x ≤ 255 := fun x hx => by
 have := h x hx
 simp only [Lit.wf, IntKind.min, IntKind.max, IntKind.signed, IntKind.bits, Bool.and_eq_true, decide_eq_true_eq] at this
 simpa using this
theorem size_ev {code : List Int} {B t u : Int} (h : Cur code B t u) (hB : B ≤ 1000000000) (n : Int) (h0 : 0 ≤ n) (hn : n ≤ 1000000) :
  ∃ v t' u', spec_l01Cur_size.f code t u n = some (v, t', u') ∧ 0 ≤ v ∧ v ≤ n ∧ Cur code (B + 1) t' u' := by
 have hl := h.2.1
 unfold spec_l01Cur_size.f
 have w1 : wrap64 ((code.length : Int) / 8) = (code.length : Int) / 8 := w64 (by omega) (by omega)
 have w2 : wrap64 (1 + (code.length : Int) / 8) = 1 + (code.length : Int) / 8 := w64 (by omega) (by omega)
 have m1 : mn n (1 + (code.length : Int) / 8) ≤ n ∧ 0 ≤ mn n (1 + (code.length : Int) / 8) := by unfold mn; split <;> omega
 rw [w1, w2, w64 (x := mn n (1 + (code.length : Int) / 8) + 1) (by omega) (by omega)]
 obtain ⟨v, t', u', e, v0, v1, _, hc⟩ := pick_ev h hB (mn n (1 + (code.length : Int) / 8) + 1) (by omega)
 refine ⟨v, t', u', ?_, v0, ?_, hc⟩
 ·rw [e, Option.bind_some]
 ·have := v1 (by omega); omega
theorem wide_ev {code : List Int} {B t u : Int} (h : Cur code B t u) (hB : B ≤ 900000000) (n : Int) (h0 : 1 ≤ n) (hn : n ≤ 1000000000000) :
  ∃ v t' u', spec_l01Cur_wide.f code t u n = some (v, t', u') ∧ 0 ≤ v ∧ v < n ∧ Cur code (B + 3) t' u' := by
 obtain ⟨v1, t1, u1, e1, a1, b1, _, c1⟩ := pick_ev h (by omega) 256 (by omega)
 obtain ⟨v2, t2, u2, e2, a2, b2, _, c2⟩ := pick_ev c1 (by omega) 256 (by omega)
 obtain ⟨v3, t3, u3, e3, a3, b3, _, c3⟩ := pick_ev c2 (by omega) 256 (by omega)
 have b1 := b1 (by omega)
 have b2 := b2 (by omega)
 have b3 := b3 (by omega)
 refine ⟨Int.tmod (65536 * v1 + 256 * v2 + v3) n, t3, u3, ?_, Int.tmod_nonneg _ (by omega), Int.tmod_lt_of_pos _ (by omega), c3.more (by omega)⟩
 unfold spec_l01Cur_wide.f
 rw [e1, Option.bind_some, e2, Option.bind_some, e3, Option.bind_some, if_neg (by omega), w64 (x := 65536 * v1) (by omega) (by omega), w64 (x := 256 * v2) (by omega) (by omega), w64 (x := 65536 * v1 + 256 * v2) (by omega) (by omega), w64 (by omega) (by omega)]
theorem raw_ev {code : List Int} {B t u : Int} (h : Cur code B t u) (hB : B ≤ 900000000) :
  ∃ v t' u', spec_l01Cur_raw.f code t u = some (v, t', u') ∧ -9223372036854775808 ≤ v ∧ v ≤ 9223372036854775807 ∧ Cur code (B + 2) t' u' := by
 obtain ⟨v1, t1, u1, e1, a1, b1, _, c1⟩ := pick_ev h (by omega) 8 (by omega)
 have b1 := b1 (by omega)
 unfold spec_l01Cur_raw.f
 rw [e1, Option.bind_some]
 by_cases g0 : v1 = 0
 ·obtain ⟨v2, t2, u2, e2, a2, b2, _, c2⟩ := pick_ev c1 (by omega) 256 (by omega)
  have b2 := b2 (by omega)
  exact ⟨v2 - 128, t2, u2, by rw [if_pos g0, e2, Option.bind_some, w64 (by omega) (by omega)], by omega, by omega, c2.more (by omega)⟩
 ·by_cases g1 : v1 = 1
  ·obtain ⟨v2, t2, u2, e2, a2, b2, _, c2⟩ := pick_ev c1 (by omega) 8 (by omega)
   have b2 := b2 (by omega)
   obtain ⟨j, rfl⟩ := Int.eq_ofNat_of_zero_le a2
   have hin : ∀ x ∈ ([9223372036854775807, (-9223372036854775808), 4611686018427387904, 4294967295, 4294967296, (-1000), 1000, 257] : List Int), -9223372036854775808 ≤ x ∧ x ≤ 9223372036854775807 := by
    intro x hx
    simp at hx
    omega
   have hr := hin (rd [9223372036854775807, (-9223372036854775808), 4611686018427387904, 4294967295, 4294967296, (-1000), 1000, 257] (j : Int)) (by
    rw [rd_nat, lget_lt _ j 0 (by simp; omega)]
    exact List.getElem_mem _)
   exact ⟨_, t2, u2, by rw [if_neg g0, if_pos g1, Option.bind_some, e2, Option.bind_some, if_pos (by omega), if_pos (by simp; omega)], hr.1, hr.2, c2.more (by omega)⟩
  ·obtain ⟨v2, t2, u2, e2, a2, b2, _, c2⟩ := pick_ev c1 (by omega) 14 (by omega)
   have b2 := b2 (by omega)
   exact ⟨v2 - 3, t2, u2, by rw [if_neg g0, if_neg g1, e2, Option.bind_some, w64 (by omega) (by omega)], by omega, by omega, c2.more (by omega)⟩
theorem once_ev {code : List Int} {B t u : Int} (h : Cur code B t u) (hB : B ≤ 1000000000) (n : Int) (hn : n ≤ 1000000000000) :
  ∃ b t' u', spec_l01Cur_once.f code t u n = some (b, t', u') ∧ Cur code (B + 1) t' u' := by
 obtain ⟨v, t', u', e, _, _, _, hc⟩ := pick_ev h hB n hn
 refine ⟨(v == wrap64 (n - 1)), t', u', ?_, hc⟩
 unfold spec_l01Cur_once.f
 rw [e, Option.bind_some]
theorem winc (y : Nat) (h : y ≤ 1000000000) : wrap64 ((y : Int) + 1) = ((y + 1 : Nat) : Int) := w64 (by omega) (by omega)
theorem wadd (a b : Nat) (h : a + b ≤ 9223372036854775807) : wrap64 ((a : Int) + (b : Int)) = ((a + b : Nat) : Int) := w64 (by omega) (by omega)
theorem wnat (a : Nat) (h : a ≤ 9223372036854775807) : wrap64 (a : Int) = (a : Int) := w64 (by omega) (by omega)
theorem wsub60 (x : Int) (h0 : 0 ≤ x) (h1 : x ≤ 60) : wrap64 (60 - x) = ((60 - x.toNat : Nat) : Int) := by
 rw [show 60 - x = ((60 - x.toNat : Nat) : Int) by omega]
 exact w64 (by omega) (by omega)
def okH (l : List Int) : Bool := decide (l.length ≤ 300) && okFrom 0 0 0 l
theorem l02Pow_l0 (m : Nat) : ∀ (a : Nat), a * 2 ^ m < 9223372036854775808 → m ≤ 64 → Ev (fun k => spec_l02Pow.l0 k (m : Int) (a : Int)) ((a * 2 ^ m : Nat) : Int) := by
 induction m with
 | zero =>
  intro a h hm
  refine Ev.step (f := fun _ => some _) (fun k => ?_) (Ev.now _)
  rw [spec_l02Pow.l0, if_neg (by omega), Nat.pow_zero, Nat.mul_one]
 | succ m ih =>
  intro a h hm
  have hp : 0 < 2 ^ m := Nat.two_pow_pos m
  have e : a * 2 ^ (m + 1) = (2 * a) * 2 ^ m := by rw [Nat.pow_succ, Nat.mul_comm (2 ^ m) 2, ← Nat.mul_assoc, Nat.mul_comm a 2]
  rw [e] at h ⊢
  have : 2 * a ≤ (2 * a) * 2 ^ m := Nat.le_mul_of_pos_right _ hp
  refine Ev.step (f := fun k => spec_l02Pow.l0 k (m : Int) ((2 * a : Nat) : Int)) (fun k => ?_) (ih (2 * a) h (by omega))
  rw [spec_l02Pow.l0, if_pos (by omega), w64 (by omega) (by omega), w64 (by omega) (by omega), show ((m + 1 : Nat) : Int) - 1 = (m : Int) by omega]
  rfl
theorem pow62 (m : Nat) (h : m ≤ 62) : 2 ^ m ≤ 4611686018427387904 := Nat.le_trans (Nat.pow_le_pow_right (show 0 < 2 by decide) h) (by decide)
theorem l02Pow_ev (m : Nat) (h : m ≤ 62) : Ev (fun k => spec_l02Pow.f k (m : Int)) ((2 ^ m : Nat) : Int) := by
 have hp := pow62 m h
 have := l02Pow_l0 m 1 (by omega) (by omega)
 rw [Nat.one_mul] at this
 exact this
theorem drop_cons (l : List Int) (i : Nat) (h : i < l.length) : l.drop i = l.getD i 0 :: l.drop (i + 1) := by
 rw [List.drop_eq_getElem_cons h, lget_lt _ _ _ h]
theorem specOk_l0 (l : List Int) (hl : l.length ≤ 300) (d : Nat) : ∀ (i c S : Nat) (last : Int), i + d = l.length → c ≤ i → S ≤ 1152921504606846976 →
  Ev (fun k => spec_HuffOk.l0 k l (c : Int) (S : Int) last (i : Int)) (okFrom c S last (l.drop i)) := by
 obtain ⟨K0, k0⟩ := ev_out (l02Pow_ev 60 (by decide))
 have p60 : (((2 ^ 60 : Nat) : Int)) = 1152921504606846976 := by decide
 rw [p60] at k0
 induction d with
 | zero =>
  intro i c S last hi hc hS
  refine ev_mk (K0 + 1) fun k hk => ?_
  obtain ⟨k, rfl⟩ : ∃ m, k = m + 1 := ⟨k - 1, by omega⟩
  have hd : l.drop i = [] := List.drop_eq_nil_of_le (by omega)
  have hk0 : spec_l02Pow.f k 60 = some 1152921504606846976 := k0 k (by omega)
  have hb : ((S : Int) == (1152921504606846976 : Int)) = decide (S = 1152921504606846976) := by
   rw [Bool.eq_iff_iff, beq_iff_eq, decide_eq_true_iff]
   omega
  rw [spec_HuffOk.l0, if_neg (by omega), hd, okFrom, hk0, Option.bind_some, hb]
  by_cases q : c = 1
  ·rw [if_pos (by omega), if_pos q]
   by_cases z : last = 1
   ·rw [if_pos z, decide_eq_true z, Bool.true_or]
   ·rw [if_neg z, decide_eq_false z, Bool.false_or]
  ·rw [if_neg (by omega), if_neg q]
 | succ d ih =>
  intro i c S last hi hc hS
  have hg : rd l (i : Int) = l.getD i 0 := rd_nat l i
  rw [drop_cons l i (by omega), okFrom]
  generalize hx : l.getD i 0 = x at hg ⊢
  have bad : ∀ k, spec_HuffOk.j1 (k + 1) l (c : Int) (S : Int) last (i : Int) true = some false := by
   intro k
   rw [spec_HuffOk.j1, if_pos rfl]
  by_cases r : x < 0 ∨ 60 < x
  ·rw [if_pos r]
   refine ev_mk 2 fun k hk => ?_
   obtain ⟨k, rfl⟩ : ∃ m, k = m + 2 := ⟨k - 2, by omega⟩
   rw [spec_HuffOk.l0, if_pos (by omega), if_pos (by omega), hg]
   by_cases n : x < 0
   ·rw [if_pos n]; exact bad k
   ·rw [if_neg n, decide_eq_true (by omega)]; exact bad k
  ·rw [if_neg r]
   have hi3 : i ≤ 300 := by omega
   have go : ∀ k, spec_HuffOk.l0 (k + 1) l (c : Int) (S : Int) last (i : Int) = spec_HuffOk.j1 k l (c : Int) (S : Int) last (i : Int) false := by
    intro k
    rw [spec_HuffOk.l0, if_pos (by omega), if_pos (by omega), hg, if_neg (by omega), decide_eq_false (by omega)]
   by_cases q : 0 < x
   ·rw [if_pos q]
    have hw := wt_le x q
    obtain ⟨K1, k1⟩ := ev_out (l02Pow_ev (60 - x.toNat) (by omega))
    have hx0 : 0 ≤ x := by omega
    have hx6 : x ≤ 60 := by omega
    have hsw : S + wt x ≤ 9223372036854775807 := by omega
    have hci : c ≤ 1000 := by omega
    have ept : ((2 ^ (60 - x.toNat) : Nat) : Int) = ((wt x : Nat) : Int) := rfl
    by_cases o : 1152921504606846976 < S + wt x
    ·rw [if_pos o]
     refine ev_mk (K0 + K1 + 2) fun k hk => ?_
     obtain ⟨k, rfl⟩ : ∃ m, k = m + 2 := ⟨k - 2, by omega⟩
     rw [go, spec_HuffOk.j1, if_neg (by decide), if_pos (by omega), if_pos (by omega), hg, if_pos q, wsub60 x hx0 hx6, k1 k (by omega), Option.bind_some, ept]
     have hk0 : spec_l02Pow.f k 60 = some 1152921504606846976 := k0 k (by omega)
     rw [hk0, Option.bind_some, wadd S (wt x) hsw, if_pos (by omega)]
    ·rw [if_neg o]
     obtain ⟨K2, k2⟩ := ev_out (ih (i + 1) (c + 1) (S + wt x) x (by omega) (by omega) (by omega))
     refine ev_mk (K0 + K1 + K2 + 2) fun k hk => ?_
     obtain ⟨k, rfl⟩ : ∃ m, k = m + 2 := ⟨k - 2, by omega⟩
     rw [go, spec_HuffOk.j1, if_neg (by decide), if_pos (by omega), if_pos (by omega), hg, if_pos q, wsub60 x hx0 hx6, k1 k (by omega), Option.bind_some, ept]
     have hk0 : spec_l02Pow.f k 60 = some 1152921504606846976 := k0 k (by omega)
     rw [hk0, Option.bind_some, wadd S (wt x) hsw, if_neg (by omega), winc i (by omega), winc c (by omega)]
     exact k2 k (by omega)
   ·rw [if_neg q]
    obtain ⟨K2, k2⟩ := ev_out (ih (i + 1) c S last (by omega) (by omega) (by omega))
    refine ev_mk (K2 + 2) fun k hk => ?_
    obtain ⟨k, rfl⟩ : ∃ m, k = m + 2 := ⟨k - 2, by omega⟩
    rw [go, spec_HuffOk.j1, if_neg (by decide), if_pos (by omega), if_pos (by omega), hg, if_neg q, winc i (by omega)]
    exact k2 k (by omega)
theorem specHuffOk_ev (l : List Int) : Ev (fun k => spec_HuffOk.f k l) (okH l) := by
 by_cases h : (l.length : Int) > 300
 ·refine Ev.congr (f := fun _ => some false) (fun k => ?_) ?_
  ·unfold spec_HuffOk.f
   rw [if_pos h]
  ·rw [okH, decide_eq_false (by omega), Bool.false_and]
   exact Ev.now _
 ·refine Ev.congr (fun k => ?_) ?_ (f := fun k => spec_HuffOk.l0 k l ((0 : Nat) : Int) ((0 : Nat) : Int) 0 ((0 : Nat) : Int))
  ·unfold spec_HuffOk.f
   rw [if_neg h]
   rfl
  ·rw [okH, decide_eq_true (by omega), Bool.true_and]
   exact specOk_l0 l (by omega) l.length 0 0 0 0 (by omega) (by omega) (by omega)
theorem shl_nat (a m : Nat) (h : m ≤ 62) : shl .i64 (a : Int) (m : Int) = wrap64 ((a * 2 ^ m : Nat) : Int) := by
 unfold shl
 rw [Int.toNat_natCast, show min m IntKind.i64.bits = m by show min m 64 = m; omega, i64_w]
 simp
theorem max_l0 (l : List Int) (hl : l.length ≤ 1000000) (d : Nat) : ∀ (i : Nat) (m : Int), i + d = l.length → m ∈ l → (∀ j, j < i → l.getD j 0 ≤ m) → ∃ r, Ev (fun k => slices_Max_int_int.l0 k l m (i : Int)) r ∧ r ∈ l ∧ ∀ j, j < l.length → l.getD j 0 ≤ r := by
 induction d with
 | zero =>
  intro i m hi hm hj
  refine ⟨m, Ev.step (f := fun _ => some _) (fun k => ?_) (Ev.now _), hm, fun j h => hj j (by omega)⟩
  rw [slices_Max_int_int.l0, if_neg (by omega)]
 | succ d ih =>
  intro i m hi hm hj
  have hmem : l.getD i 0 ∈ l := by rw [lget_lt _ _ _ (by omega)]; exact List.getElem_mem _
  have hmx : mx m (l.getD i 0) ∈ l ∧ m ≤ mx m (l.getD i 0) ∧ l.getD i 0 ≤ mx m (l.getD i 0) := by
   unfold mx
   split
   ·refine ⟨by first | exact hm | exact hmem, ?_, ?_⟩ <;> omega
   ·refine ⟨by first | exact hm | exact hmem, ?_, ?_⟩ <;> omega
  obtain ⟨r, hr, h2, h3⟩ := ih (i + 1) (mx m (l.getD i 0)) (by omega) hmx.1 (fun j h => by
   by_cases q : j = i
   ·rw [q]; exact hmx.2.2
   ·exact Int.le_trans (hj j (by omega)) hmx.2.1)
  refine ⟨r, Ev.step (fun k => ?_) hr, h2, h3⟩
  rw [slices_Max_int_int.l0, if_pos (by omega), if_pos (by omega), rd_nat, w64 (by omega) (by omega)]
  rfl
theorem max_ev (l : List Int) (hl : l.length ≤ 1000000) (h0 : 1 ≤ l.length) : ∃ r, Ev (fun k => slices_Max_int_int.f k l) r ∧ r ∈ l ∧ ∀ x ∈ l, x ≤ r := by
 have hmem : l.getD 0 0 ∈ l := by rw [lget_lt _ _ _ (by omega)]; exact List.getElem_mem _
 obtain ⟨r, hr, h2, h3⟩ := max_l0 l hl (l.length - 1) 1 (l.getD 0 0) (by omega) hmem (fun j h => by rw [show j = 0 by omega]; exact Int.le_refl _)
 refine ⟨r, Ev.congr (fun k => ?_) hr, h2, fun x hx => ?_⟩
 ·unfold slices_Max_int_int.f
  rw [if_neg (by omega), if_pos (by omega), show rd l 0 = l.getD 0 0 from rd_nat l 0]
  rfl
 ·obtain ⟨j, hj, e⟩ := List.getElem_of_mem hx
  have := h3 j hj
  rw [lget_lt _ _ _ hj, e] at this
  exact this
def fin (m : Int) (p : Nat × Nat) : Bool := if p.2 = 1152921504606846976 then true else if p.1 = 1 then m == 1 else false
theorem inRange_get {l : List Int} (h : inRange l = true) (i : Nat) (hi : i < l.length) : 0 ≤ l.getD i 0 ∧ l.getD i 0 ≤ 60 := by
 rw [lget_lt _ _ _ hi]
 have := List.all_eq_true.1 h _ (List.getElem_mem hi)
 exact of_decide_eq_true this
theorem implOk_l0 (l : List Int) (hl : l.length ≤ 300) (hr : inRange l = true) (m : Int) (hm : 1 ≤ l.length → Ev (fun k => slices_Max_int_int.f k l) m) (d : Nat) : ∀ (i c S : Nat), i + d = l.length → c ≤ i → S ≤ 1152921504606846977 →
  Ev (fun k => impl_HuffOk.l0 k l (c : Int) (S : Int) l (l.length : Int) (i : Int)) (fin m (okSat c S (l.drop i))) := by
 induction d with
 | zero =>
  intro i c S hi hc hS
  have hd : l.drop i = [] := List.drop_eq_nil_of_le (by omega)
  rw [hd, okSat, fin]
  by_cases q : S = 1152921504606846976
  ·rw [if_pos q]
   refine Ev.step (f := fun _ => some _) (fun k => ?_) (Ev.now _)
   rw [impl_HuffOk.l0, if_neg (by omega), if_pos (by omega)]
  ·rw [if_neg q]
   by_cases z : c = 1
   ·rw [if_pos z]
    obtain ⟨K, hK⟩ := ev_out (hm (by omega))
    refine ev_mk (K + 1) fun k hk => ?_
    obtain ⟨k, rfl⟩ : ∃ m, k = m + 1 := ⟨k - 1, by omega⟩
    rw [impl_HuffOk.l0, if_neg (by omega), if_neg (by omega), if_pos (by omega), hK k (by omega), Option.bind_some]
   ·rw [if_neg z]
    refine Ev.step (f := fun _ => some _) (fun k => ?_) (Ev.now _)
    rw [impl_HuffOk.l0, if_neg (by omega), if_neg (by omega), if_neg (by omega)]
 | succ d ih =>
  intro i c S hi hc hS
  have hg : rd l (i : Int) = l.getD i 0 := rd_nat l i
  have hx := inRange_get hr i (by omega)
  rw [drop_cons l i (by omega), okSat]
  generalize l.getD i 0 = x at hg hx ⊢
  by_cases q : 0 < x
  ·rw [if_pos q]
   have hw := wt_le x q
   have hsw : S + wt x ≤ 9223372036854775807 := by omega
   have es : shl .i64 1 ((60 - x.toNat : Nat) : Int) = ((wt x : Nat) : Int) := by
    have this := shl_nat 1 (60 - x.toNat) (by omega)
    rw [Nat.one_mul] at this
    refine Eq.trans this ?_
    show wrap64 ((wt x : Nat) : Int) = _
    exact wnat _ (by clear this; omega)
   have em : mn ((S + wt x : Nat) : Int) 1152921504606846977 = ((min (S + wt x) 1152921504606846977 : Nat) : Int) := by
    clear es
    unfold mn
    split <;> omega
   refine Ev.step (fun k => ?_) (ih (i + 1) (c + 1) (min (S + wt x) 1152921504606846977) (by clear es em; omega) (by clear es em; omega) (by clear es em; omega))
   rw [impl_HuffOk.l0, if_pos (by clear es em; omega), if_pos (by clear es em; omega), if_pos (by clear es em; omega), hg, if_pos q, wsub60 x hx.1 hx.2, if_pos (Int.natCast_nonneg _), es, wadd S (wt x) hsw, em, winc i (by clear es em; omega), winc c (by clear es em; omega)]
  ·rw [if_neg q]
   refine Ev.step (fun k => ?_) (ih (i + 1) c S (by omega) (by omega) hS)
   rw [impl_HuffOk.l0, if_pos (by omega), if_pos (by omega), if_pos (by omega), hg, if_neg q, winc i (by omega)]
theorem implHuffOk_ev (l : List Int) : Ev (fun k => impl_HuffOk.f k l) (okH l) := by
 have bad : okH l = false → Ev (fun k => impl_HuffOk.j0 k l true) (okH l) := by
  intro h
  refine Ev.step (f := fun _ => some _) (fun k => ?_) (Ev.now _)
  rw [impl_HuffOk.j0, if_pos rfl, h]
 by_cases h : (l.length : Int) > 300
 ·refine Ev.congr (fun k => ?_) (bad (by rw [okH, decide_eq_false (by omega), Bool.false_and]))
  unfold impl_HuffOk.f
  rw [if_pos h]
 have hall : l.all Fv.p67 = inRange l := rfl
 have hml : l.length ≤ maxLen := by unfold maxLen; omega
 have hok : okH l = (inRange l && (decide (kraft l = 1152921504606846976) || (decide (npos l = 1) && decide (lastp 0 l = 1)))) := by
  rw [okH, decide_eq_true (by omega), Bool.true_and, okFrom_eq l 0 0 0 (by omega) (fun _ => rfl), Nat.zero_add, Nat.zero_add]
 by_cases r : inRange l = true
 case neg =>
  have r' : inRange l = false := by simpa using r
  refine Ev.congr (fun k => ?_) (bad (by rw [hok, r', Bool.false_and]))
  unfold impl_HuffOk.f impl_areAll_67.f
  rw [if_neg h, if_pos hml, Option.bind_some, hall, r']
  rfl
 have key : ∃ m, (1 ≤ l.length → Ev (fun k => slices_Max_int_int.f k l) m) ∧ fin m (okSat 0 0 l) = okH l := by
  have hs := okSat_eq l 0 0 (by omega)
  rw [Nat.zero_add, Nat.zero_add] at hs
  rw [hs, hok, r, Bool.true_and]
  by_cases z : 1 ≤ l.length
  ·obtain ⟨m, h1, h2, h3⟩ := max_ev l (by omega) z
   refine ⟨m, fun _ => h1, ?_⟩
   unfold fin
   show (if min (kraft l) 1152921504606846977 = 1152921504606846976 then true else if npos l = 1 then m == 1 else false) = _
   by_cases q : kraft l = 1152921504606846976
   ·rw [if_pos (by omega), decide_eq_true q, Bool.true_or]
   ·rw [if_neg (by omega), decide_eq_false q, Bool.false_or]
    by_cases p : npos l = 1
    ·rw [if_pos p, decide_eq_true p, Bool.true_and, max_lastp l m p h2 h3]
     rw [Bool.eq_iff_iff, beq_iff_eq, decide_eq_true_iff]
    ·rw [if_neg p, decide_eq_false p, Bool.false_and]
  ·obtain rfl : l = [] := List.eq_nil_of_length_eq_zero (by omega)
   exact ⟨0, fun h => absurd h z, by decide⟩
 obtain ⟨m, hm, hf⟩ := key
 have := implOk_l0 l (by omega) r m hm l.length 0 0 0 (by omega) (by omega) (by omega)
 rw [List.drop_zero, hf] at this
 have hj : Ev (fun k => impl_HuffOk.j0 k l false) (okH l) := by
  refine Ev.step (fun k => ?_) this
  rw [impl_HuffOk.j0, if_neg (by decide)]
  rfl
 refine Ev.congr (fun k => ?_) hj
 unfold impl_HuffOk.f impl_areAll_67.f
 rw [if_neg h, if_pos hml, Option.bind_some, hall, r]
 rfl
def Good (l out : List Int) : Prop := out.length = l.length ∧ ∀ x ∈ out, 0 ≤ x ∧ x < 1152921504606846976
def before (nxt last : Nat) : Int := if last = 0 then 0 else (nxt : Int) - 1
theorem Good.set {l out : List Int} (h : Good l out) (i : Nat) (v : Int) (h0 : 0 ≤ v) (h1 : v < 1152921504606846976) : Good l (out.set i v) := by
 refine ⟨by rw [List.length_set]; exact h.1, fun x hx => ?_⟩
 rcases List.mem_or_eq_of_mem_set hx with hx | rfl
 ·exact h.2 x hx
 ·exact ⟨h0, h1⟩
theorem codes_l1 (l : List Int) (hl : l.length ≤ 300) (K : Nat) (hK : K ≤ 1152921504606846976) (L : Nat) (hL : 1 ≤ L) (hL2 : L ≤ 60)
  (next : ∀ (out : List Int) (nxt last : Nat), Good l out → last ≤ L → (last = 0 ↔ nxt = 0) → nxt * 2 ^ (60 - last) + kEq ((L + 1 : Nat) : Int) l + kGt ((L + 1 : Nat) : Int) l = K →
   ∃ res, Ev (fun k => spec_HuffCodes.l0 k l (before nxt last) (last : Int) ((L + 1 : Nat) : Int) out) res ∧ Ev (fun k => impl_huffCodes.l0 k l (nxt : Int) (last : Int) ((L + 1 : Nat) : Int) out) res ∧ Good l res)
  (d : Nat) : ∀ (i : Nat) (out : List Int) (nxt last : Nat), i + d = l.length → Good l out → last ≤ L → (last = 0 ↔ nxt = 0) → nxt * 2 ^ (60 - last) + kEq (L : Int) (l.drop i) + kGt (L : Int) l = K →
   ∃ res, Ev (fun k => spec_HuffCodes.l1 k l (before nxt last) (last : Int) (L : Int) (i : Int) out) res ∧ Ev (fun k => impl_huffCodes.l1 k l (nxt : Int) (last : Int) (L : Int) out l (l.length : Int) (i : Int)) res ∧ Good l res := by
 induction d with
 | zero =>
  intro i out nxt last hi hg hla hz hp
  have hd : l.drop i = [] := List.drop_eq_nil_of_le (by omega)
  rw [hd, kEq, kGt_step] at hp
  obtain ⟨res, h1, h2, h3⟩ := next out nxt last hg hla hz (by rw [show ((L + 1 : Nat) : Int) = (L : Int) + 1 by omega]; omega)
  have e1 : wrap64 ((L : Int) + 1) = ((L + 1 : Nat) : Int) := w64 (by clear hp; omega) (by clear hp; omega)
  refine ⟨res, Ev.step (fun k => ?_) h1, Ev.step (fun k => ?_) h2, h3⟩
  ·rw [spec_HuffCodes.l1, if_neg (by clear hp e1; omega), e1]
  ·rw [impl_huffCodes.l1, if_neg (by clear hp e1; omega), e1]
 | succ d ih =>
  intro i out nxt last hi hg hla hz hp
  have hrd : rd l (i : Int) = l.getD i 0 := rd_nat l i
  have hlen := hg.1
  have e1 : wrap64 ((i : Int) + 1) = ((i + 1 : Nat) : Int) := w64 (by clear hp; omega) (by clear hp; omega)
  rw [kEq_drop (L : Int) l i (by clear hp; omega)] at hp
  have c1 : (i : Int) < (l.length : Int) := by clear hp e1; omega
  have c2 : (0 : Int) ≤ (i : Int) := Int.natCast_nonneg _
  have c3 : (i : Int) < (out.length : Int) := by clear hp e1; omega
  by_cases q : l.getD i 0 = (L : Int)
  ·rw [if_pos q, q] at hp
   have hwt : wt (L : Int) = 2 ^ (60 - L) := by unfold wt; rw [Int.toNat_natCast]
   have hpw : nxt * 2 ^ (60 - last) = nxt * 2 ^ (L - last) * 2 ^ (60 - L) := by rw [Nat.mul_assoc, ← Nat.pow_add, show L - last + (60 - L) = 60 - last by clear hp e1; omega]
   have hn : (nxt * 2 ^ (L - last) + 1) * 2 ^ (60 - L) = nxt * 2 ^ (60 - last) + 2 ^ (60 - L) := by rw [Nat.add_mul, Nat.one_mul, ← hpw]
   have hle : nxt * 2 ^ (L - last) + 1 ≤ (nxt * 2 ^ (L - last) + 1) * 2 ^ (60 - L) := Nat.le_mul_of_pos_right _ (Nat.two_pow_pos _)
   generalize hN : nxt * 2 ^ (L - last) = N at hn hle hpw
   have hNb : N + 1 ≤ 1152921504606846976 := by clear e1 hN hpw; omega
   have hg' : Good l (out.set i (N : Int)) := hg.set i _ (by clear hp e1; omega) (by clear hp e1; omega)
   have hb' : before (N + 1) L = (N : Int) := by unfold before; rw [if_neg (by clear hp e1; omega)]; clear hp e1; omega
   obtain ⟨res, h1, h2, h3⟩ := ih (i + 1) (out.set i (N : Int)) (N + 1) L (by clear hp e1; omega) hg' (Nat.le_refl _) (by clear hp e1; omega) (by clear e1 hN hpw; omega)
   have eL : wrap64 ((L : Int) - (last : Int)) = ((L - last : Nat) : Int) := by rw [w64 (by clear hp e1; omega) (by clear hp e1; omega)]; clear hp e1; omega
   have eN : wrap64 (N : Int) = (N : Int) := w64 (by clear hp e1 eL; omega) (by clear hp e1 eL; omega)
   refine ⟨res, ?_, ?_, h3⟩
   ·obtain ⟨K1, k1⟩ := ev_out h1
    obtain ⟨K2, k2⟩ := ev_out (l02Pow_ev (L - last) (by clear hp e1 eL eN; omega))
    refine ev_mk (K1 + K2 + 1) fun k hk => ?_
    obtain ⟨k, rfl⟩ : ∃ m, k = m + 1 := ⟨k - 1, by clear hp e1 eL eN; omega⟩
    have k1' := k1 k (by clear hp e1 eL eN; omega)
    rw [hb'] at k1'
    rw [spec_HuffCodes.l1, if_pos c1, if_pos c2, hrd, if_pos q]
    by_cases z : last = 0
    ·have hn0 : nxt = 0 := hz.1 z
     have hN0 : N = 0 := by rw [← hN, hn0, Nat.zero_mul]
     have hbf : before nxt last = (N : Int) := by unfold before; rw [if_pos z, hN0]; rfl
     rw [if_neg (by clear hp e1 eL eN; omega), if_pos c3, hbf, Int.toNat_natCast, e1]
     exact k1'
    ·have hbf : before nxt last = (nxt : Int) - 1 := by unfold before; rw [if_neg z]
     have hnx : nxt ≤ N := by rw [← hN]; exact Nat.le_mul_of_pos_right _ (Nat.two_pow_pos _)
     have eM : wrap64 (wrap64 ((nxt : Int) - 1 + 1) * ((2 ^ (L - last) : Nat) : Int)) = (N : Int) := by
      rw [show (nxt : Int) - 1 + 1 = (nxt : Int) by clear hp e1 eL eN; omega, w64 (x := (nxt : Int)) (by clear hp e1 eL eN; omega) (by clear hp e1 eL eN; omega), ← Int.natCast_mul, hN, eN]
     rw [if_pos (by clear hp e1 eL eN eM; omega), eL, k2 k (by clear hp e1 eL eN eM; omega), Option.bind_some, if_pos c3, hbf, eM, Int.toNat_natCast, e1]
     exact k1'
   ·refine Ev.step (fun k => ?_) h2
    have eS : shl .i64 (nxt : Int) ((L - last : Nat) : Int) = (N : Int) := by
     rw [shl_nat _ _ (by clear hp e1 eL eN; omega), hN, eN]
    have eT : wrap64 ((N : Int) + 1) = ((N + 1 : Nat) : Int) := w64 (by clear hp e1 eL eN eS; omega) (by clear hp e1 eL eN eS; omega)
    rw [impl_huffCodes.l1, if_pos c1, if_pos c2, if_pos c1, hrd, if_pos q, eL, if_pos (Int.natCast_nonneg _), if_pos c3, eS, eT, e1, Int.toNat_natCast]
  ·rw [if_neg q, Nat.zero_add] at hp
   obtain ⟨res, h1, h2, h3⟩ := ih (i + 1) out nxt last (by clear hp e1; omega) hg hla hz hp
   refine ⟨res, Ev.step (fun k => ?_) h1, Ev.step (fun k => ?_) h2, h3⟩
   ·rw [spec_HuffCodes.l1, if_pos c1, if_pos c2, hrd, if_neg q, e1]
   ·rw [impl_huffCodes.l1, if_pos c1, if_pos c2, if_pos c1, hrd, if_neg q, e1]
theorem codes_l0 (l : List Int) (hl : l.length ≤ 300) (K : Nat) (hK : K ≤ 1152921504606846976) (d : Nat) : ∀ (L : Nat) (out : List Int) (nxt last : Nat), L + d = 61 → 1 ≤ L → Good l out → last ≤ L → (last = 0 ↔ nxt = 0) →
  nxt * 2 ^ (60 - last) + kEq (L : Int) l + kGt (L : Int) l = K →
   ∃ res, Ev (fun k => spec_HuffCodes.l0 k l (before nxt last) (last : Int) (L : Int) out) res ∧ Ev (fun k => impl_huffCodes.l0 k l (nxt : Int) (last : Int) (L : Int) out) res ∧ Good l res := by
 induction d with
 | zero =>
  intro L out nxt last hd h1 hg hla hz hp
  refine ⟨out, Ev.step (f := fun _ => some _) (fun k => ?_) (Ev.now _), Ev.step (f := fun _ => some _) (fun k => ?_) (Ev.now _), hg⟩
  ·rw [spec_HuffCodes.l0, if_neg (by clear hp; omega)]
  ·rw [impl_huffCodes.l0, if_neg (by clear hp; omega)]
 | succ d ih =>
  intro L out nxt last hd h1 hg hla hz hp
  obtain ⟨res, a, b, c⟩ := codes_l1 l hl K hK L h1 (by clear hp; omega) (fun out' nxt' last' g' hl' z' p' => ih (L + 1) out' nxt' last' (by clear hp p'; omega) (by clear hp p'; omega) g' (by clear hp p'; omega) z' p')
   l.length 0 out nxt last (by clear hp; omega) hg hla hz (by rw [List.drop_zero]; exact hp)
  refine ⟨res, Ev.step (fun k => ?_) a, Ev.step (fun k => ?_) b, c⟩
  ·rw [spec_HuffCodes.l0, if_pos (by clear hp; omega)]
   rfl
  ·rw [impl_huffCodes.l0, if_pos (by clear hp; omega)]
   rfl
theorem okH_out {l : List Int} (h : okH l = true) : l.length ≤ 300 ∧ inRange l = true ∧ kraft l ≤ 1152921504606846976 := by
 rw [okH, Bool.and_eq_true, decide_eq_true_iff] at h
 obtain ⟨h1, h2⟩ := h
 rw [okFrom_eq l 0 0 0 (by omega) (fun _ => rfl), Bool.and_eq_true, Bool.or_eq_true, Bool.and_eq_true, decide_eq_true_iff, decide_eq_true_iff, Nat.zero_add, Nat.zero_add] at h2
 refine ⟨h1, h2.1, ?_⟩
 rcases h2.2 with q | q
 ·omega
 ·exact Nat.le_trans (kraft_one l q.1) (by decide)
theorem codes_ev (l : List Int) (ok : okH l = true) : ∃ res, Ev (fun k => spec_HuffCodes.f k l) res ∧ Ev (fun k => impl_huffCodes.f k l) res ∧ Good l res := by
 obtain ⟨hl, hr, hk⟩ := okH_out ok
 have hg : Good l (List.replicate l.length 0) := ⟨List.length_replicate .., fun x hx => by rw [(List.mem_replicate.1 hx).2]; exact ⟨by decide, by decide⟩⟩
 obtain ⟨res, a, b, c⟩ := codes_l0 l hl (kraft l) hk 60 1 (List.replicate l.length 0) 0 0 rfl (by decide) hg (by decide) ⟨fun _ => rfl, fun _ => rfl⟩ (by
  rw [Nat.zero_mul, Nat.zero_add, kraft_gt, kGt_step 0]; rfl)
 refine ⟨res, ?_, ?_, c⟩
 ·obtain ⟨K1, k1⟩ := ev_out (specHuffOk_ev l)
  obtain ⟨K2, k2⟩ := ev_out a
  refine ev_mk (K1 + K2) fun k hk => ?_
  unfold spec_HuffCodes.f
  rw [k1 k (by omega), Option.bind_some, if_pos ok, if_pos (by omega), Int.toNat_natCast, if_pos (by omega)]
  exact k2 k (by omega)
 ·refine Ev.congr (fun k => ?_) b
  unfold impl_huffCodes.f
  rw [if_pos (by omega), Int.toNat_natCast, if_pos (by omega)]
  rfl
def codeBits (c : Nat) : Nat → List Int
 | 0 => []
 | n + 1 => ((c / 2 ^ n % 2 : Nat) : Int) :: codeBits c n
def lsb : Nat → Nat → List Int
 | _, 0 => []
 | c, n + 1 => ((c % 2 : Nat) : Int) :: lsb (c / 2) n
theorem codeBits_length (c n : Nat) : (codeBits c n).length = n := by
 induction n with
 | zero => rfl
 | succ n ih => rw [codeBits, List.length_cons, ih]
theorem codeBits_01 (c n : Nat) : ∀ x ∈ codeBits c n, x = 0 ∨ x = 1 := by
 induction n with
 | zero => intro x hx; exact absurd hx (by simp [codeBits])
 | succ n ih =>
  intro x hx
  rw [codeBits] at hx
  rcases List.mem_cons.1 hx with rfl | hx
  ·omega
  ·exact ih x hx
theorem lsb_length (n : Nat) : ∀ c, (lsb c n).length = n := by
 induction n with
 | zero => intro c; rfl
 | succ n ih => intro c; rw [lsb, List.length_cons, ih]
theorem lsb_more (n : Nat) : ∀ c, lsb c (n + 1) = lsb c n ++ [((c / 2 ^ n % 2 : Nat) : Int)] := by
 induction n with
 | zero => intro c; rw [lsb, lsb, lsb, Nat.pow_zero, Nat.div_one]; rfl
 | succ n ih =>
  intro c
  rw [lsb, ih (c / 2), lsb, Nat.div_div_eq_div_mul, Nat.mul_comm, ← Nat.pow_succ]
  rfl
theorem lsb_reverse (c n : Nat) : (lsb c n).reverse = codeBits c n := by
 induction n with
 | zero => rfl
 | succ n ih => rw [lsb_more, List.reverse_append, ih, codeBits]; rfl
theorem l08Code_l0 (c : Nat) (hc : c < 1152921504606846976) (m : Nat) (hm : m ≤ 60) : ∀ acc : List Int, acc.length + m ≤ 1000000 → Ev (fun k => spec_l08Code.l0 k (c : Int) acc ((m : Int) - 1)) (acc ++ codeBits c m) := by
 induction m with
 | zero =>
  intro acc ha
  refine Ev.step (f := fun _ => some _) (fun k => ?_) (Ev.now _)
  rw [spec_l08Code.l0, if_neg (by omega), codeBits, List.append_nil]
 | succ m ih =>
  intro acc ha
  obtain ⟨K1, k1⟩ := ev_out (l02Pow_ev m (by omega))
  obtain ⟨K2, k2⟩ := ev_out (ih (by omega) (acc ++ [((c / 2 ^ m % 2 : Nat) : Int)]) (by rw [List.length_append]; simp; omega))
  refine ev_mk (K1 + K2 + 1) fun k hk => ?_
  obtain ⟨k, rfl⟩ : ∃ m, k = m + 1 := ⟨k - 1, by omega⟩
  have hp : 0 < 2 ^ m := Nat.two_pow_pos m
  have hd : c / 2 ^ m ≤ c := Nat.div_le_self _ _
  have e : Int.tmod (wrap64 (Int.tdiv (c : Int) ((2 ^ m : Nat) : Int))) 2 = ((c / 2 ^ m % 2 : Nat) : Int) := by
   rw [show Int.tdiv (c : Int) ((2 ^ m : Nat) : Int) = ((c / 2 ^ m : Nat) : Int) from rfl, wnat (c / 2 ^ m) (Nat.le_trans hd (by omega))]
   rfl
  have e2 : ((m + 1 : Nat) : Int) - 1 = (m : Int) := by omega
  rw [e2, spec_l08Code.l0, if_pos (by omega), k1 k (by omega), Option.bind_some, if_neg (by clear e; omega), if_pos (by clear e; omega), e, w64 (by clear e; omega) (by clear e; omega), codeBits]
  have this := k2 k (by clear e; omega)
  rw [List.append_assoc, List.singleton_append] at this
  exact this
theorem l08Code_ev (c : Nat) (hc : c < 1152921504606846976) (m : Nat) (hm : m ≤ 60) : Ev (fun k => spec_l08Code.f k (c : Int) (m : Int)) (codeBits c m) := by
 have := l08Code_l0 c hc m hm [] (by simp; omega)
 rw [List.nil_append] at this
 refine Ev.congr (fun k => ?_) this
 unfold spec_l08Code.f
 rw [w64 (by omega) (by omega)]
theorem andi1 (a : Nat) (h : a < 4611686018427387904) : Go.bits .and .i64 (a : Int) 1 = ((a % 2 : Nat) : Int) := by
 have := bits_mask .i64 62 (by decide) (fun n h0 h1 => by rw [i64_w]; exact w64 (by omega) (by omega)) 1 (by decide) (a : Int) (by omega) (by omega)
 rw [show ((2 : Int) ^ 1 - 1) = 1 by decide] at this
 rw [this]
 omega
theorem digits_l0 (n : Nat) (hn : n ≤ 60) (d : Nat) : ∀ (i c : Nat) (acc : List Int), i + d = n → c < 1152921504606846976 → acc.length ≤ i → Ev (fun k => impl_digits.l0 k (c : Int) acc (n : Int) (i : Int)) (acc ++ lsb c d) := by
 induction d with
 | zero =>
  intro i c acc hi hc ha
  refine Ev.step (f := fun _ => some _) (fun k => ?_) (Ev.now _)
  rw [impl_digits.l0, if_neg (by omega), lsb, List.append_nil]
 | succ d ih =>
  intro i c acc hi hc ha
  have h := ih (i + 1) (c / 2) (acc ++ [((c % 2 : Nat) : Int)]) (by omega) (by omega) (by rw [List.length_append]; exact Nat.add_le_add_right ha 1)
  rw [lsb, List.append_cons]
  refine Ev.step (fun k => ?_) h
  rw [impl_digits.l0, if_pos (by omega), if_pos (by omega), andi1 c (by omega), w64 (by omega) (by omega), show (c : Int) / 2 = ((c / 2 : Nat) : Int) by omega]
  rfl
theorem digits_ev (c n : Nat) (hc : c < 1152921504606846976) (hn : n ≤ 60) : Ev (fun k => impl_digits.f k (c : Int) (n : Int)) (lsb c n) := by
 have := digits_l0 n hn n 0 c [] (by omega) hc (by simp)
 rw [List.nil_append] at this
 exact Ev.congr (fun _ => rfl) this
def revAt (l : List Int) (i : Nat) : List Int := (List.range l.length).map fun t => if t < i ∨ l.length - i ≤ t then l.getD (l.length - 1 - t) 0 else l.getD t 0
theorem revAt_length (l : List Int) (i : Nat) : (revAt l i).length = l.length := by simp [revAt]
theorem revAt_get (l : List Int) (i t : Nat) (h : t < l.length) : (revAt l i).getD t 0 = if t < i ∨ l.length - i ≤ t then l.getD (l.length - 1 - t) 0 else l.getD t 0 := by
 unfold revAt
 rw [List.getD_eq_getElem?_getD, List.getElem?_map, List.getElem?_range h]
 rfl
theorem reverse_get (l : List Int) (t : Nat) (h : t < l.length) : l.reverse.getD t 0 = l.getD (l.length - 1 - t) 0 := by
 rw [lget_lt _ _ _ (by rw [List.length_reverse]; exact h), lget_lt _ _ _ (by omega), List.getElem_reverse]
theorem reverse_l0 (l : List Int) (hl : l.length ≤ 1000000) (d : Nat) : ∀ i : Nat, i + d = l.length → Ev (fun k => slices_Reverse_int_int.l0 k (revAt l i) (i : Int) ((l.length : Int) - 1 - (i : Int))) l.reverse := by
 induction d with
 | zero =>
  intro i hi
  refine Ev.step (f := fun _ => some _) (fun k => ?_) (Ev.now _)
  rw [slices_Reverse_int_int.l0, if_neg (by omega)]
  congr 1
  apply ext_getD 0 (by rw [revAt_length, List.length_reverse])
  intro t ht
  rw [revAt_length] at ht
  rw [revAt_get _ _ _ ht, reverse_get _ _ ht, if_pos (by omega)]
 | succ d ih =>
  intro i hi
  by_cases q : (i : Int) < (l.length : Int) - 1 - (i : Int)
  ·refine Ev.step (fun k => ?_) (ih (i + 1) (by omega))
   have ej : (l.length : Int) - 1 - (i : Int) = ((l.length - 1 - i : Nat) : Int) := by omega
   have hlen := revAt_length l i
   rw [slices_Reverse_int_int.l0, if_pos q, ej, if_pos (by omega), if_pos (by omega), if_pos (by omega), if_pos (by omega), rd_nat, rd_nat, Int.toNat_natCast, Int.toNat_natCast, w64 (x := (i : Int) + 1) (by omega) (by omega), w64 (by omega) (by omega),
    show (l.length : Int) - 1 - ((i + 1 : Nat) : Int) = ((l.length - 1 - i : Nat) : Int) - 1 by omega]
   have v1 : (revAt l i).getD (l.length - 1 - i) 0 = l.getD (l.length - 1 - i) 0 := by rw [revAt_get l i _ (by omega), if_neg (by omega)]
   have v2 : (revAt l i).getD i 0 = l.getD i 0 := by rw [revAt_get l i _ (by omega), if_neg (by omega)]
   have es : ((revAt l i).set i ((revAt l i).getD (l.length - 1 - i) 0)).set (l.length - 1 - i) ((revAt l i).getD i 0) = revAt l (i + 1) := by
    rw [v1, v2]
    apply ext_getD 0 (by rw [List.length_set, List.length_set, revAt_length, revAt_length])
    intro t ht
    rw [List.length_set, List.length_set, hlen] at ht
    rw [lset ((revAt l i).set i (l.getD (l.length - 1 - i) 0)), lset (revAt l i), List.length_set, hlen, revAt_get l (i + 1) t ht, revAt_get l i t ht]
    by_cases a : l.length - 1 - i = t
    ·rw [if_pos ⟨a, by omega⟩, if_pos (show t < i + 1 ∨ l.length - (i + 1) ≤ t by omega), show l.length - 1 - t = i by omega]
    ·rw [if_neg (fun h => a h.1)]
     by_cases b : i = t
     ·rw [if_pos ⟨b, by omega⟩, if_pos (show t < i + 1 ∨ l.length - (i + 1) ≤ t by omega), b]
     ·rw [if_neg (fun h => b h.1)]
      by_cases c : t < i ∨ l.length - i ≤ t
      ·rw [if_pos c, if_pos (show t < i + 1 ∨ l.length - (i + 1) ≤ t by omega)]
      ·rw [if_neg c, if_neg (show ¬ (t < i + 1 ∨ l.length - (i + 1) ≤ t) by omega)]
   rw [es]
   rfl
  ·refine Ev.step (f := fun _ => some _) (fun k => ?_) (Ev.now _)
   rw [slices_Reverse_int_int.l0, if_neg q]
   congr 1
   apply ext_getD 0 (by rw [revAt_length, List.length_reverse])
   intro t ht
   rw [revAt_length] at ht
   rw [revAt_get _ _ _ ht, reverse_get _ _ ht]
   by_cases c : t < i ∨ l.length - i ≤ t
   ·rw [if_pos c]
   ·rw [if_neg c, show l.length - 1 - t = t by omega]
theorem reverse_ev (l : List Int) (hl : l.length ≤ 1000000) : Ev (fun k => slices_Reverse_int_int.f k l) l.reverse := by
 have h := reverse_l0 l hl l.length 0 (by omega)
 have e0 : revAt l 0 = l := by
  apply ext_getD 0 (revAt_length l 0)
  intro t ht
  rw [revAt_length] at ht
  rw [revAt_get _ _ _ ht, if_neg (by omega)]
 rw [e0, show (l.length : Int) - 1 - ((0 : Nat) : Int) = (l.length : Int) - 1 by omega] at h
 refine Ev.congr (fun k => ?_) h
 unfold slices_Reverse_int_int.f
 rw [w64 (by omega) (by omega)]
 rfl
def GoodP (l out : List Int) : Prop := out.length = l.length ∧ ∀ x ∈ out, 0 ≤ x ∧ x < 1152921504606846976
theorem GoodP.set {l out : List Int} (h : GoodP l out) (i : Nat) (v : Int) (h0 : 0 ≤ v) (h1 : v < 1152921504606846976) : GoodP l (out.set i v) := by
 refine ⟨by rw [List.length_set]; exact h.1, fun x hx => ?_⟩
 rcases List.mem_or_eq_of_mem_set hx with hx | rfl
 ·exact h.2 x hx
 ·exact ⟨h0, h1⟩
def wl (l : List Int) (j : Nat) : Nat := 2 ^ (60 - (l.getD j 0).toNat)
def st (l out : List Int) (j : Nat) : Nat := (out.getD j 0).toNat * wl l j
def Dn (l : List Int) (L i j : Nat) : Prop := 0 < l.getD j 0 ∧ (l.getD j 0 < (L : Int) ∨ (l.getD j 0 = (L : Int) ∧ j < i))
structure Inv (l out : List Int) (L i S : Nat) : Prop where
 good : GoodP l out
 ends : ∀ j, j < l.length → Dn l L i j → st l out j + wl l j ≤ S
 apart : ∀ j k, j < l.length → k < l.length → Dn l L i j → Dn l L i k → j ≠ k → st l out j + wl l j ≤ st l out k ∨ st l out k + wl l k ≤ st l out j
theorem st_set_ne (l out : List Int) (i j : Nat) (v : Int) (h : i ≠ j) : st l (out.set i v) j = st l out j := by unfold st; rw [lset_ne _ _ _ _ _ h]
theorem Inv.skip {l out : List Int} {L i S : Nat} (h : Inv l out L i S) (hne : l.getD i 0 ≠ (L : Int)) : Inv l out L (i + 1) S := by
 have e : ∀ j, Dn l L (i + 1) j → Dn l L i j := fun j ⟨h0, h1⟩ => ⟨h0, by
  rcases h1 with h1 | ⟨h1, h2⟩
  ·exact .inl h1
  ·refine .inr ⟨h1, ?_⟩
   by_cases ej : j = i
   ·rw [ej] at h1; exact absurd h1 hne
   ·omega⟩
 exact ⟨h.good, fun j hj hd => h.ends j hj (e j hd), fun j k hj hk dj dk hne => h.apart j k hj hk (e j dj) (e k dk) hne⟩
theorem Inv.put {l out : List Int} {L i S N : Nat} (h : Inv l out L i S) (hi : i < l.length) (he : l.getD i 0 = (L : Int)) (hL : L ≤ 60) (hN : N * 2 ^ (60 - L) = S) (hb : N < 1152921504606846976) : Inv l (out.set i (N : Int)) L (i + 1) (S + 2 ^ (60 - L)) := by
 have hlen := h.good.1
 have hw : wl l i = 2 ^ (60 - L) := by unfold wl; rw [he, Int.toNat_natCast]
 have hs : st l (out.set i (N : Int)) i = S := by
  unfold st
  rw [lset_self _ _ _ _ (by omega), hw, Int.toNat_natCast, hN]
 have e : ∀ j, j ≠ i → Dn l L (i + 1) j → Dn l L i j := fun j hj ⟨h0, h1⟩ => ⟨h0, by
  rcases h1 with h1 | ⟨h1, h2⟩
  ·exact .inl h1
  ·exact .inr ⟨h1, by omega⟩⟩
 refine ⟨h.good.set i _ (by omega) (by omega), fun j hj hd => ?_, fun j k hj hk dj dk hne => ?_⟩
 ·by_cases ej : j = i
  ·subst ej; rw [hs, hw]; exact Nat.le_refl _
  ·rw [st_set_ne _ _ _ _ _ (fun h => ej h.symm)]
   exact Nat.le_trans (h.ends j hj (e j ej hd)) (Nat.le_add_right _ _)
 ·by_cases ej : j = i
  ·have ek : k ≠ i := fun h => hne (by rw [ej, h])
   subst ej
   rw [hs, st_set_ne _ _ _ _ _ (fun h => ek h.symm)]
   exact .inr (h.ends k hk (e k ek dk))
  ·by_cases ek : k = i
   ·subst ek
    rw [hs, st_set_ne _ _ _ _ _ (fun h => ej h.symm)]
    exact .inl (h.ends j hj (e j ej dj))
   ·rw [st_set_ne _ _ _ _ _ (fun h => ej h.symm), st_set_ne _ _ _ _ _ (fun h => ek h.symm)]
    exact h.apart j k hj hk (e j ej dj) (e k ek dk) hne
theorem Inv.next {l out : List Int} {L S : Nat} (h : Inv l out L l.length S) : Inv l out (L + 1) 0 S := by
 have e : ∀ j, j < l.length → Dn l (L + 1) 0 j → Dn l L l.length j := fun j hj ⟨h0, h1⟩ => ⟨h0, by
  rcases h1 with h1 | ⟨_, h2⟩
  ·by_cases ej : l.getD j 0 = (L : Int)
   ·exact .inr ⟨ej, hj⟩
   ·exact .inl (by omega)
  ·omega⟩
 exact ⟨h.good, fun j hj hd => h.ends j hj (e j hj hd), fun j k hj hk dj dk hne => h.apart j k hj hk (e j hj dj) (e k hk dk) hne⟩
theorem codes2_l1 (l : List Int) (hl : l.length ≤ 300) (K : Nat) (hK : K ≤ 1152921504606846976) (L : Nat) (hL : 1 ≤ L) (hL2 : L ≤ 60)
  (next : ∀ (out : List Int) (nxt last : Nat), Inv l out (L + 1) 0 (nxt * 2 ^ (60 - last)) → last ≤ L → nxt * 2 ^ (60 - last) + kEq ((L + 1 : Nat) : Int) l + kGt ((L + 1 : Nat) : Int) l = K →
   ∃ res S, Ev (fun k => impl_huffCodes.l0 k l (nxt : Int) (last : Int) ((L + 1 : Nat) : Int) out) res ∧ (Inv l res 61 0 S ∧ S ≤ 1152921504606846976))
  (d : Nat) : ∀ (i : Nat) (out : List Int) (nxt last : Nat), i + d = l.length → Inv l out L i (nxt * 2 ^ (60 - last)) → last ≤ L → nxt * 2 ^ (60 - last) + kEq (L : Int) (l.drop i) + kGt (L : Int) l = K →
   ∃ res S, Ev (fun k => impl_huffCodes.l1 k l (nxt : Int) (last : Int) (L : Int) out l (l.length : Int) (i : Int)) res ∧ (Inv l res 61 0 S ∧ S ≤ 1152921504606846976) := by
 induction d with
 | zero =>
  intro i out nxt last hi hg hla hp
  obtain rfl : i = l.length := by clear hp; omega
  rw [List.drop_length, kEq, kGt_step] at hp
  obtain ⟨res, S, h2, h3⟩ := next out nxt last hg.next hla (by rw [show ((L + 1 : Nat) : Int) = (L : Int) + 1 by omega]; omega)
  have e1 : wrap64 ((L : Int) + 1) = ((L + 1 : Nat) : Int) := w64 (by clear hp; omega) (by clear hp; omega)
  refine ⟨res, S, Ev.step (fun k => ?_) h2, h3⟩
  rw [impl_huffCodes.l1, if_neg (by clear hp e1; omega), e1]
 | succ d ih =>
  intro i out nxt last hi hg hla hp
  have hrd : rd l (i : Int) = l.getD i 0 := rd_nat l i
  have hlen := hg.good.1
  have e1 : wrap64 ((i : Int) + 1) = ((i + 1 : Nat) : Int) := w64 (by clear hp; omega) (by clear hp; omega)
  rw [kEq_drop (L : Int) l i (by clear hp; omega)] at hp
  have c1 : (i : Int) < (l.length : Int) := by clear hp e1; omega
  have c2 : (0 : Int) ≤ (i : Int) := Int.natCast_nonneg _
  have c3 : (i : Int) < (out.length : Int) := by clear hp e1; omega
  by_cases q : l.getD i 0 = (L : Int)
  ·rw [if_pos q, q] at hp
   have hwt : wt (L : Int) = 2 ^ (60 - L) := by unfold wt; rw [Int.toNat_natCast]
   have hpw : nxt * 2 ^ (60 - last) = nxt * 2 ^ (L - last) * 2 ^ (60 - L) := by rw [Nat.mul_assoc, ← Nat.pow_add, show L - last + (60 - L) = 60 - last by clear hp e1; omega]
   have hn : (nxt * 2 ^ (L - last) + 1) * 2 ^ (60 - L) = nxt * 2 ^ (60 - last) + 2 ^ (60 - L) := by rw [Nat.add_mul, Nat.one_mul, ← hpw]
   have hle : nxt * 2 ^ (L - last) + 1 ≤ (nxt * 2 ^ (L - last) + 1) * 2 ^ (60 - L) := Nat.le_mul_of_pos_right _ (Nat.two_pow_pos _)
   generalize hN : nxt * 2 ^ (L - last) = N at hn hle hpw
   have hNb : N + 1 ≤ 1152921504606846976 := by clear e1 hN hpw; omega
   have hg' := hg.put (by clear hp e1; omega) q hL2 hpw.symm (by clear hp e1; omega)
   rw [← hn] at hg'
   obtain ⟨res, S, h2, h3⟩ := ih (i + 1) (out.set i (N : Int)) (N + 1) L (by clear hp e1; omega) hg' (Nat.le_refl _) (by clear e1 hN hpw hg'; omega)
   have eL : wrap64 ((L : Int) - (last : Int)) = ((L - last : Nat) : Int) := by rw [w64 (by clear hp e1; omega) (by clear hp e1; omega)]; clear hp e1; omega
   have eN : wrap64 (N : Int) = (N : Int) := w64 (by clear hp e1 eL; omega) (by clear hp e1 eL; omega)
   refine ⟨res, S, ?_, h3⟩
   refine Ev.step (fun k => ?_) h2
   have eS : shl .i64 (nxt : Int) ((L - last : Nat) : Int) = (N : Int) := by
    rw [shl_nat _ _ (by clear hp e1 eL eN; omega), hN, eN]
   have eT : wrap64 ((N : Int) + 1) = ((N + 1 : Nat) : Int) := w64 (by clear hp e1 eL eN eS; omega) (by clear hp e1 eL eN eS; omega)
   rw [impl_huffCodes.l1, if_pos c1, if_pos c2, if_pos c1, hrd, if_pos q, eL, if_pos (Int.natCast_nonneg _), if_pos c3, eS, eT, e1, Int.toNat_natCast]
  ·rw [if_neg q, Nat.zero_add] at hp
   obtain ⟨res, S, h2, h3⟩ := ih (i + 1) out nxt last (by clear hp e1; omega) (hg.skip q) hla hp
   refine ⟨res, S, Ev.step (fun k => ?_) h2, h3⟩
   rw [impl_huffCodes.l1, if_pos c1, if_pos c2, if_pos c1, hrd, if_neg q, e1]
theorem codes2_l0 (l : List Int) (hl : l.length ≤ 300) (K : Nat) (hK : K ≤ 1152921504606846976) (d : Nat) : ∀ (L : Nat) (out : List Int) (nxt last : Nat), L + d = 61 → 1 ≤ L → Inv l out L 0 (nxt * 2 ^ (60 - last)) → last ≤ L →
  nxt * 2 ^ (60 - last) + kEq (L : Int) l + kGt (L : Int) l = K → ∃ res S, Ev (fun k => impl_huffCodes.l0 k l (nxt : Int) (last : Int) (L : Int) out) res ∧ (Inv l res 61 0 S ∧ S ≤ 1152921504606846976) := by
 induction d with
 | zero =>
  intro L out nxt last hd h1 hg hla hp
  obtain rfl : L = 61 := by clear hp; omega
  refine ⟨out, _, Ev.step (f := fun _ => some _) (fun k => ?_) (Ev.now _), hg, by omega⟩
  rw [impl_huffCodes.l0, if_neg (by decide)]
 | succ d ih =>
  intro L out nxt last hd h1 hg hla hp
  obtain ⟨res, S, b, c⟩ := codes2_l1 l hl K hK L h1 (by clear hp; omega) (fun out' nxt' last' g' hl' p' => ih (L + 1) out' nxt' last' (by clear hp p'; omega) (by clear hp p'; omega) g' (by clear hp p'; omega) p')
   l.length 0 out nxt last (by clear hp; omega) hg hla (by rw [List.drop_zero]; exact hp)
  refine ⟨res, S, Ev.step (fun k => ?_) b, c⟩
  rw [impl_huffCodes.l0, if_pos (by clear hp; omega)]
  rfl
theorem codes2_ev (l : List Int) (ok : okH l = true) : ∃ res S, Ev (fun k => impl_huffCodes.f k l) res ∧ (Inv l res 61 0 S ∧ S ≤ 1152921504606846976) := by
 obtain ⟨hl, hr, hk⟩ := okH_out ok
 have hg : GoodP l (List.replicate l.length 0) := ⟨List.length_replicate .., fun x hx => by rw [(List.mem_replicate.1 hx).2]; exact ⟨by decide, by decide⟩⟩
 have hno : ∀ j, ¬ Dn l 1 0 j := fun j ⟨h0, h1⟩ => by rcases h1 with h1 | ⟨_, h1⟩ <;> omega
 obtain ⟨res, S, b, c⟩ := codes2_l0 l hl (kraft l) hk 60 1 (List.replicate l.length 0) 0 0 rfl (by decide) ⟨hg, fun j _ hd => absurd hd (hno j), fun j k _ _ hd _ _ => absurd hd (hno j)⟩ (by decide) (by
  rw [Nat.zero_mul, Nat.zero_add, kraft_gt, kGt_step 0]; rfl)
 refine ⟨res, S, Ev.congr (fun k => ?_) b, c⟩
 unfold impl_huffCodes.f
 rw [if_pos (by omega), Int.toNat_natCast, if_pos (by omega)]
 rfl
theorem no_prefix {l res : List Int} {S : Nat} (h : (Inv l res 61 0 S ∧ S ≤ 1152921504606846976)) (hr : inRange l = true) (i j : Nat) (hi : i < l.length) (hj : j < l.length) (hne : i ≠ j) (h0 : 0 < l.getD i 0) (hle : l.getD i 0 ≤ l.getD j 0) :
  (res.getD j 0).toNat / 2 ^ ((l.getD j 0).toNat - (l.getD i 0).toNat) ≠ (res.getD i 0).toNat := by
 intro he
 obtain ⟨a1, a2⟩ := inRange_get hr i hi
 obtain ⟨b1, b2⟩ := inRange_get hr j hj
 have hap := h.1.apart i j hi hj ⟨h0, .inl (by omega)⟩ ⟨by omega, .inl (by omega)⟩ hne
 unfold st wl at hap
 obtain ⟨p, hp⟩ := Int.eq_ofNat_of_zero_le a1
 obtain ⟨q, hq⟩ := Int.eq_ofNat_of_zero_le b1
 rw [hp, hq, Int.toNat_natCast, Int.toNat_natCast] at hap he
 have e : 2 ^ (60 - p) = 2 ^ (q - p) * 2 ^ (60 - q) := by rw [← Nat.pow_add, show q - p + (60 - q) = 60 - p by omega]
 rw [e] at hap
 generalize (res.getD j 0).toNat = c at hap he
 generalize (res.getD i 0).toNat = f at hap he
 have hA := Nat.two_pow_pos (q - p)
 have hB := Nat.two_pow_pos (60 - q)
 generalize 2 ^ (q - p) = A at hap he hA
 generalize 2 ^ (60 - q) = B at hap hB
 have hd := Nat.div_add_mod c A
 have hm := Nat.mod_lt c hA
 rw [he] at hd
 have h1 : f * (A * B) ≤ c * B := by
  rw [← Nat.mul_assoc]
  exact Nat.mul_le_mul_right B (by rw [Nat.mul_comm f A]; omega)
 have h2 : c * B + B ≤ f * (A * B) + A * B := by
  have e3 : f * (A * B) + A * B = (f * A + A) * B := by rw [Nat.add_mul, Nat.mul_assoc]
  have e4 : c * B + B = (c + 1) * B := by rw [Nat.succ_mul]
  rw [e3, e4]
  exact Nat.mul_le_mul_right B (by rw [Nat.mul_comm f A]; omega)
 generalize f * (A * B) = X at hap h1 h2
 generalize c * B = Y at hap h1 h2
 generalize A * B = Z at hap h2
 omega
theorem rdT61 (l : List S61) (i : Nat) : rd_T61 l (i : Int) = l.getD i z61 := by unfold rd_T61; rw [Int.toNat_natCast]
def tot : List S61 → Nat
 | [] => 0
 | h :: t => h.f2.length + tot t
theorem tot_append (a b : List S61) : tot (a ++ b) = tot a + tot b := by
 induction a with
 | nil => show tot b = 0 + tot b; omega
 | cons h t ih => show h.f2.length + tot (t ++ b) = h.f2.length + tot t + tot b; rw [ih]; omega
def SymsOk (n : Nat) (l : List S61) : Prop := ∀ h ∈ l, ∀ s ∈ h.f2, 0 ≤ s ∧ s < (n : Int)
theorem split3 (l : List S61) (a : Nat) (h : a < l.length) : l = l.take a ++ l.getD a z61 :: l.drop (a + 1) := by
 rw [lget_lt _ _ _ h, ← List.drop_eq_getElem_cons h, List.take_append_drop]
theorem least_l0 (l : List S61) (h5 : l.length ≤ 1000) (d : Nat) : ∀ i a : Nat, i + d = l.length → a < l.length → ∃ a' : Nat, a' < l.length ∧ Ev (fun k => spec_l08Least.l0 k l (a : Int) (i : Int)) (a' : Int) := by
 induction d with
 | zero =>
  intro i a h ha
  refine ⟨a, ha, Ev.step (f := fun _ => some _) (fun k => ?_) (Ev.now _)⟩
  rw [spec_l08Least.l0, if_neg (by omega)]
 | succ d ih =>
  intro i a h ha
  have e1 : wrap64 ((i : Int) + 1) = ((i + 1 : Nat) : Int) := w64 (by omega) (by omega)
  obtain ⟨a1, ha1, h1⟩ := ih (i + 1) a (by omega) ha
  obtain ⟨a2, ha2, h2⟩ := ih (i + 1) i (by omega) (by omega)
  obtain ⟨K1, k1⟩ := ev_out h1
  obtain ⟨K2, k2⟩ := ev_out h2
  have j1 : ∀ b : Bool, ∃ a' : Nat, a' < l.length ∧ ∀ k, K1 + K2 ≤ k → spec_l08Least.j1 (k + 1) l (a : Int) (i : Int) b = some (a' : Int) := by
   intro b
   cases b with
   | true => exact ⟨a2, ha2, fun k hk => by rw [spec_l08Least.j1, if_pos rfl, e1]; exact k2 k (by omega)⟩
   | false => exact ⟨a1, ha1, fun k hk => by rw [spec_l08Least.j1, if_neg (by decide), e1]; exact k1 k (by omega)⟩
  obtain ⟨b, hb⟩ : ∃ b : Bool, ∀ k, spec_l08Least.l0 (k + 1) l (a : Int) (i : Int) = spec_l08Least.j1 k l (a : Int) (i : Int) b := by
   by_cases c : (rd_T61 l (i : Int)).f0 < (rd_T61 l (a : Int)).f0
   ·exact ⟨true, fun k => by rw [spec_l08Least.l0, if_pos (by omega), if_pos (by omega), if_pos (by omega), if_pos (by omega), if_pos c]⟩
   ·by_cases c2 : (rd_T61 l (i : Int)).f0 = (rd_T61 l (a : Int)).f0
    ·exact ⟨_, fun k => by rw [spec_l08Least.l0, if_pos (by omega), if_pos (by omega), if_pos (by omega), if_pos (by omega), if_neg c, if_pos c2]⟩
    ·exact ⟨false, fun k => by rw [spec_l08Least.l0, if_pos (by omega), if_pos (by omega), if_pos (by omega), if_pos (by omega), if_neg c, if_neg c2]⟩
  obtain ⟨a', ha', hj⟩ := j1 b
  refine ⟨a', ha', ev_mk (K1 + K2 + 2) fun k hk => ?_⟩
  obtain ⟨k, rfl⟩ : ∃ m, k = m + 2 := ⟨k - 2, by omega⟩
  rw [hb]
  exact hj k (by omega)
theorem least_ev (l : List S61) (h1 : 1 ≤ l.length) (h5 : l.length ≤ 1000) : ∃ a : Nat, a < l.length ∧ Ev (fun k => spec_l08Least.f k l) (a : Int) := least_l0 l h5 l.length 0 0 (by omega) (by omega)
theorem without_ev (l : List S61) (a : Nat) (ha : a < l.length) (h5 : l.length ≤ 1000) : spec_l08Without.f l (a : Int) = some (l.take a ++ l.drop (a + 1)) := by
 have h1 : (l.take a).length ≤ 1000 := by rw [List.length_take]; omega
 have h2 : (l.drop (a + 1)).length ≤ 1000 := by rw [List.length_drop]; omega
 unfold spec_l08Without.f
 rw [Option.bind_some, if_pos (by omega), if_pos (by omega), Option.bind_some, Int.toNat_natCast, if_pos (by simp; omega), Option.bind_some, w64 (by omega) (by omega), if_pos (by omega), if_pos (by omega), Option.bind_some, show ((a : Int) + 1).toNat = a + 1 by omega, if_pos (by simp; omega), List.nil_append]
theorem lens_l2 (n : Nat) (x4 : List S61) (hx4 : x4.length ≤ 1000) (x6 : Int) (syms : List Int) (hs : ∀ s ∈ syms, 0 ≤ s ∧ s < (n : Int)) (hl : syms.length ≤ 100000) (y0 y1 y3 y4 : Int) (y2 y5 : List Int)
  (next : ∀ x18 : List Int, x18.length = n → ∃ r : List Int, r.length = n ∧ Ev (fun k => spec_HuffLens.l1 k (x4 ++ [(⟨wrap64 (y0 + y3), x6, syms⟩ : S61)]) (wrap64 (x6 + 1)) x18) r) (d : Nat) :
  ∀ (i : Nat) (x18 : List Int), i + d = syms.length → x18.length = n → ∃ r : List Int, r.length = n ∧ Ev (fun k => spec_HuffLens.l2 k x4 x6 (i : Int) x18 syms y0 y1 y2 y3 y4 y5) r := by
 induction d with
 | zero =>
  intro i x18 h hx
  obtain ⟨r, hr, hev⟩ := next x18 hx
  refine ⟨r, hr, Ev.step (fun k => ?_) hev⟩
  rw [spec_HuffLens.l2, if_neg (by omega), if_pos (by omega)]
 | succ d ih =>
  intro i x18 h hx
  have hm : syms.getD i 0 ∈ syms := by rw [lget_lt _ _ _ (by omega)]; exact List.getElem_mem (by omega)
  obtain ⟨s0, s1⟩ := hs _ hm
  obtain ⟨r, hr, hev⟩ := ih (i + 1) (x18.set (syms.getD i 0).toNat (wrap64 ((rd x18 (syms.getD i 0)) + 1))) (by omega) (by rw [List.length_set]; exact hx)
  refine ⟨r, hr, Ev.step (fun k => ?_) hev⟩
  rw [spec_HuffLens.l2, if_pos (by omega), if_pos (by omega), rd_nat, if_pos s0, if_pos (by omega), w64 (x := (i : Int) + 1) (by omega) (by omega)]
  rfl
theorem lens_l1 (n : Nat) (m : Nat) : ∀ (x4 : List S61) (x6 : Int) (x18 : List Int), x4.length ≤ m → x4.length ≤ 300 → SymsOk n x4 → tot x4 ≤ 300 → x18.length = n → ∃ r : List Int, r.length = n ∧ Ev (fun k => spec_HuffLens.l1 k x4 x6 x18) r := by
 induction m with
 | zero =>
  intro x4 x6 x18 hm _ _ _ hx
  refine ⟨x18, hx, Ev.step (f := fun _ => some _) (fun k => ?_) (Ev.now _)⟩
  rw [spec_HuffLens.l1, if_neg (by omega)]
 | succ m ih =>
  intro x4 x6 x18 hm h5 hs ht hx
  by_cases c : x4.length ≤ 1
  ·refine ⟨x18, hx, Ev.step (f := fun _ => some _) (fun k => ?_) (Ev.now _)⟩
   rw [spec_HuffLens.l1, if_neg (by omega)]
  ·obtain ⟨a, ha, hea⟩ := least_ev x4 (by omega) (by omega)
   have hw1 := without_ev x4 a ha (by omega)
   have hsp := split3 x4 a ha
   generalize hA : x4.getD a z61 = A at hsp
   have hAm : A ∈ x4 := by rw [hsp]; simp
   generalize hL1 : x4.take a ++ x4.drop (a + 1) = l1 at hw1
   have hl1 : l1.length + 1 = x4.length := by rw [← hL1, List.length_append, List.length_take, List.length_drop]; omega
   have ht1 : tot l1 + A.f2.length = tot x4 := by
    rw [hsp, ← hL1, tot_append, tot_append]
    show _ = tot (x4.take a) + (A.f2.length + tot (x4.drop (a + 1)))
    omega
   have hs1 : SymsOk n l1 := fun h hh => hs h (by rw [← hL1] at hh; rcases List.mem_append.1 hh with e | e; exact List.mem_of_mem_take e; exact List.mem_of_mem_drop e)
   obtain ⟨b, hb, heb⟩ := least_ev l1 (by omega) (by omega)
   have hw2 := without_ev l1 b hb (by omega)
   have hsp2 := split3 l1 b hb
   generalize hB : l1.getD b z61 = B at hsp2
   have hBm : B ∈ l1 := by rw [hsp2]; simp
   generalize hL2 : l1.take b ++ l1.drop (b + 1) = l2 at hw2
   have hl2 : l2.length + 1 = l1.length := by rw [← hL2, List.length_append, List.length_take, List.length_drop]; omega
   have ht2 : tot l2 + B.f2.length = tot l1 := by
    rw [hsp2, ← hL2, tot_append, tot_append]
    show _ = tot (l1.take b) + (B.f2.length + tot (l1.drop (b + 1)))
    omega
   have hs2 : SymsOk n l2 := fun h hh => hs1 h (by rw [← hL2] at hh; rcases List.mem_append.1 hh with e | e; exact List.mem_of_mem_take e; exact List.mem_of_mem_drop e)
   have hsy : ∀ s ∈ A.f2 ++ B.f2, 0 ≤ s ∧ s < (n : Int) := fun s hh => by
    rcases List.mem_append.1 hh with e | e
    ·exact hs A hAm s e
    ·exact hs1 B hBm s e
   obtain ⟨r, hr, hev⟩ := lens_l2 n l2 (by omega) x6 (A.f2 ++ B.f2) hsy (by rw [List.length_append]; omega) A.f0 A.f1 B.f0 B.f1 A.f2 B.f2 (fun x18' hx' => ih _ _ x18' (by rw [List.length_append]; simp; omega) (by rw [List.length_append]; simp; omega) (fun h hh => by
     rcases List.mem_append.1 hh with e | e
     ·exact hs2 h e
     ·rw [List.mem_singleton] at e; subst e; exact hsy) (by rw [tot_append]; show tot l2 + ((A.f2 ++ B.f2).length + 0) ≤ 300; rw [List.length_append]; omega) hx') (A.f2 ++ B.f2).length 0 x18 (by omega) hx
   obtain ⟨K1, k1⟩ := ev_out hea
   obtain ⟨K2, k2⟩ := ev_out heb
   obtain ⟨K3, k3⟩ := ev_out hev
   refine ⟨r, hr, ev_mk (K1 + K2 + K3 + 1) fun k hk => ?_⟩
   obtain ⟨k, rfl⟩ : ∃ m, k = m + 1 := ⟨k - 1, by omega⟩
   rw [spec_HuffLens.l1, if_pos (by omega), k1 k (by omega), Option.bind_some, if_pos (by omega), if_pos (by omega), hw1, Option.bind_some, k2 k (by omega), Option.bind_some, if_pos (by omega), if_pos (by omega), hw2, Option.bind_some, Option.bind_some, rdT61, rdT61, hA, hB, if_pos (by simp; omega), Option.bind_some, List.nil_append, if_pos (by omega)]
   exact k3 k (by omega)
theorem lens_l0 (l : List Int) (h5 : l.length ≤ 300) (d : Nat) : ∀ (i : Nat) (x4 : List S61), i + d = l.length → x4.length ≤ i → (∀ h ∈ x4, ∃ j : Nat, j < l.length ∧ h.f2 = [(j : Int)]) → tot x4 = x4.length → ∃ r : List Int, r.length = l.length ∧ Ev (fun k => spec_HuffLens.l0 k l x4 (i : Int) (List.replicate l.length 0)) r := by
 induction d with
 | zero =>
  intro i x4 h hx hs ht
  by_cases c : x4.length = 1
  ·obtain ⟨A, rfl⟩ : ∃ A, x4 = [A] := by
    match x4, c with
    | [A], _ => exact ⟨A, rfl⟩
   obtain ⟨j, hj, hA⟩ := hs A (List.mem_cons_self ..)
   refine ⟨(List.replicate l.length 0).set j 1, by rw [List.length_set, List.length_replicate], Ev.step (f := fun _ => some _) (fun k => ?_) (Ev.now _)⟩
   have e : rd_T61 [A] 0 = A := rfl
   have e2 : rd A.f2 0 = (j : Int) := by rw [hA]; rfl
   rw [spec_HuffLens.l0, if_neg (by omega), if_pos (by simp), if_pos (by simp), e, if_pos (by rw [hA]; simp), e2, if_pos (by omega), if_pos (by simp; omega), Int.toNat_natCast]
  ·obtain ⟨r, hr, hev⟩ := lens_l1 l.length x4.length x4 (x4.length : Int) (List.replicate l.length 0) (Nat.le_refl _) (by omega) (fun h hh s hs' => by
    obtain ⟨j, hj, e⟩ := hs h hh
    rw [e, List.mem_singleton] at hs'
    omega) (by omega) List.length_replicate
   refine ⟨r, hr, Ev.step (fun k => ?_) hev⟩
   rw [spec_HuffLens.l0, if_neg (by omega), if_neg (by omega)]
 | succ d ih =>
  intro i x4 h hx hs ht
  by_cases c : l.getD i 0 > 0
  ·obtain ⟨r, hr, hev⟩ := ih (i + 1) (x4 ++ [(⟨l.getD i 0, (x4.length : Int), [(i : Int)]⟩ : S61)]) (by omega) (by rw [List.length_append]; simp; omega) (fun h hh => by
    rcases List.mem_append.1 hh with e | e
    ·exact hs h e
    ·rw [List.mem_singleton] at e; subst e; exact ⟨i, by omega, rfl⟩) (by rw [tot_append, List.length_append, ht]; rfl)
   refine ⟨r, hr, Ev.step (fun k => ?_) hev⟩
   rw [spec_HuffLens.l0, if_pos (by omega), if_pos (by omega), rd_nat, if_pos c, if_pos (by omega), w64 (by omega) (by omega)]
   rfl
  ·obtain ⟨r, hr, hev⟩ := ih (i + 1) x4 (by omega) (by omega) hs ht
   refine ⟨r, hr, Ev.step (fun k => ?_) hev⟩
   rw [spec_HuffLens.l0, if_pos (by omega), if_pos (by omega), rd_nat, if_neg c, w64 (by omega) (by omega)]
   rfl
theorem counts_l0 (l : List Int) (h5 : l.length ≤ 300) (d : Nat) : ∀ i : Nat, i + d = l.length → ∃ b, Ev (fun k => spec_l08Counts.l0 k l (i : Int)) b := by
 induction d with
 | zero =>
  intro i h
  refine ⟨true, Ev.step (f := fun _ => some _) (fun k => ?_) (Ev.now _)⟩
  rw [spec_l08Counts.l0, if_neg (by omega)]
 | succ d ih =>
  intro i h
  by_cases c : l.getD i 0 < 0
  ·refine ⟨false, Ev.step (f := fun _ => some _) (fun k => ?_) (Ev.now _)⟩
   rw [spec_l08Counts.l0, if_pos (by omega), if_pos (by omega), rd_nat, if_pos c]
  ·by_cases c2 : l.getD i 0 > 1000000
   ·refine ⟨false, Ev.step (f := fun _ => some _) (fun k => ?_) (Ev.now _)⟩
    rw [spec_l08Counts.l0, if_pos (by omega), if_pos (by omega), rd_nat, if_neg c, if_pos c2]
   ·obtain ⟨b, hb⟩ := ih (i + 1) (by omega)
    refine ⟨b, Ev.step (fun k => ?_) hb⟩
    rw [spec_l08Counts.l0, if_pos (by omega), if_pos (by omega), rd_nat, if_neg c, if_neg c2, w64 (by omega) (by omega)]
    rfl
theorem huffLens_ev (l : List Int) : ∃ r : List Int, r.length ≤ 300 ∧ Ev (fun k => spec_HuffLens.f k l) r := by
 by_cases h5 : l.length ≤ 300
 ·obtain ⟨b, hb⟩ := counts_l0 l h5 l.length 0 (by omega)
  obtain ⟨K1, k1⟩ := ev_out hb
  have k1' : ∀ k, K1 ≤ k → spec_l08Counts.l0 k l 0 = some b := k1
  cases b with
  | false =>
   refine ⟨[], by simp, ev_mk K1 fun k hk => ?_⟩
   unfold spec_HuffLens.f spec_l08Counts.f
   rw [if_neg (by omega), k1' k hk, Option.bind_some, if_neg (by decide)]
  | true =>
   obtain ⟨r, hr, hev⟩ := lens_l0 l h5 l.length 0 [] (by omega) (by simp) (fun h hh => by cases hh) rfl
   obtain ⟨K2, k2⟩ := ev_out hev
   refine ⟨r, by omega, ev_mk (K1 + K2) fun k hk => ?_⟩
   unfold spec_HuffLens.f spec_l08Counts.f
   rw [if_neg (by omega), k1' k (by omega), Option.bind_some, if_pos rfl, if_pos (by omega), Int.toNat_natCast, if_pos (by omega)]
   exact k2 k (by omega)
 ·refine ⟨[], by simp, ev_mk 0 fun k _ => ?_⟩
  unfold spec_HuffLens.f spec_l08Counts.f
  rw [if_pos (by omega), Option.bind_some, if_neg (by decide)]
theorem countsOf_l0 (top : Int) (ht : 1 ≤ top ∧ top ≤ 1000001) (c : Nat) : ∀ {code : List Int} {B t u : Int} (out : List Int), Cur code B t u → B + 4 * (c : Int) ≤ 800000000 → out.length + c ≤ 100 →
  ∃ l t' u', Ev (fun k => spec_l01Cur_countsOf.l0 k out top (c : Int) code t u) (l, t', u') ∧ l.length ≤ 301 ∧ Cur code (B + 4 * (c : Int) + 20) t' u' := by
 induction c with
 | zero =>
  intro code B t u out h hB hl
  obtain ⟨v, t1, u1, e1, a1, b1, _, c1⟩ := pick_ev h (by omega) 14 (by omega)
  by_cases g0 : v = 0
  ·obtain ⟨v2, t2, u2, e2, _, _, c2⟩ := raw_ev c1 (by omega)
   refine ⟨out ++ [v2], t2, u2, Ev.step (f := fun _ => some _) (fun k => ?_) (Ev.now _), by rw [List.length_append]; simp; omega, c2.more (by omega)⟩
   rw [spec_l01Cur_countsOf.l0, if_neg (by omega), e1, Option.bind_some, if_pos g0, e2, Option.bind_some, if_pos (by omega)]
  ·by_cases g1 : v = 1
   ·obtain ⟨v2, t2, u2, e2, a2, b2, _, c2⟩ := pick_ev c1 (by omega) 2 (by omega)
    have b2 := b2 (by omega)
    refine ⟨List.replicate (300 + v2).toNat 0, t2, u2, Ev.step (f := fun _ => some _) (fun k => ?_) (Ev.now _), by rw [List.length_replicate]; omega, c2.more (by omega)⟩
    rw [spec_l01Cur_countsOf.l0, if_neg (by omega), e1, Option.bind_some, if_neg g0, if_pos g1, e2, Option.bind_some, w64 (by omega) (by omega), if_pos (by omega), if_pos (by omega)]
   ·by_cases g2 : v = 2
    ·obtain ⟨v2, t2, u2, e2, a2, b2, _, c2⟩ := pick_ev c1 (by omega) 13 (by omega)
     have b2 := b2 (by omega)
     refine ⟨([1, 1, 2, 3, 5, 8, 13, 21, 34, 55, 89, 144] : List Int).take v2.toNat, t2, u2, Ev.step (f := fun _ => some _) (fun k => ?_) (Ev.now _), by rw [List.length_take]; omega, c2.more (by omega)⟩
     rw [spec_l01Cur_countsOf.l0, if_neg (by omega), e1, Option.bind_some, if_neg g0, if_neg g1, if_pos g2, Option.bind_some, e2, Option.bind_some, if_pos a2, if_pos (by simp; omega)]
    ·refine ⟨out, t1, u1, Ev.step (f := fun _ => some _) (fun k => ?_) (Ev.now _), by omega, c1.more (by omega)⟩
     rw [spec_l01Cur_countsOf.l0, if_neg (by omega), e1, Option.bind_some, if_neg g0, if_neg g1, if_neg g2]
 | succ c ih =>
  intro code B t u out h hB hl
  obtain ⟨v, t1, u1, e1, a1, b1, c1⟩ := wide_ev h (by omega) top ht.1 (by omega)
  obtain ⟨o, t2, u2, e2, c2⟩ := once_ev c1 (by omega) 4 (by omega)
  cases o with
  | true =>
   obtain ⟨l, t', u', hev, hlen, hc⟩ := ih (out ++ [0]) c2 (by omega) (by rw [List.length_append]; simp; omega)
   refine ⟨l, t', u', Ev.step (fun k => ?_) hev, hlen, hc.more (by omega)⟩
   rw [spec_l01Cur_countsOf.l0, if_pos (by omega), e1, Option.bind_some, e2, Option.bind_some, if_pos rfl, if_pos (by omega), w64 (by omega) (by omega), show ((c + 1 : Nat) : Int) - 1 = (c : Int) by omega]
  | false =>
   obtain ⟨l, t', u', hev, hlen, hc⟩ := ih (out ++ [v]) c2 (by omega) (by rw [List.length_append]; simp; omega)
   refine ⟨l, t', u', Ev.step (fun k => ?_) hev, hlen, hc.more (by omega)⟩
   rw [spec_l01Cur_countsOf.l0, if_pos (by omega), e1, Option.bind_some, e2, Option.bind_some, if_neg (by simp), if_pos (by omega), w64 (by omega) (by omega), show ((c + 1 : Nat) : Int) - 1 = (c : Int) by omega]
theorem countsOf_ev {code : List Int} {B t u : Int} (h : Cur code B t u) (hB : B ≤ 1000) :
  ∃ l t' u', Ev (fun k => spec_l01Cur_countsOf.f k code t u) (l, t', u') ∧ l.length ≤ 301 ∧ Cur code (B + 100) t' u' := by
 obtain ⟨v, t1, u1, e1, a1, b1, _, c1⟩ := pick_ev h (by omega) 4 (by omega)
 have b1 := b1 (by omega)
 obtain ⟨v2, t2, u2, e2, a2, b2, c2⟩ := size_ev c1 (by omega) 14 (by omega) (by omega)
 obtain ⟨j, rfl⟩ := Int.eq_ofNat_of_zero_le a1
 obtain ⟨n, rfl⟩ := Int.eq_ofNat_of_zero_le a2
 have hr : 1 ≤ rd [2, 9, 200, 1000001] (j : Int) ∧ rd [2, 9, 200, 1000001] (j : Int) ≤ 1000001 := by
  have hj : j < 4 := by omega
  match j, hj with
  | 0, _ => decide
  | 1, _ => decide
  | 2, _ => decide
  | 3, _ => decide
 obtain ⟨l, t', u', hev, hlen, hc⟩ := countsOf_l0 (rd [2, 9, 200, 1000001] (j : Int)) hr n [] c2 (by omega) (by simp; omega)
 refine ⟨l, t', u', Ev.congr (fun k => ?_) hev, hlen, hc.more (by omega)⟩
 unfold spec_l01Cur_countsOf.f
 rw [Option.bind_some, e1, Option.bind_some, if_pos (by omega), if_pos (by simp; omega), e2, Option.bind_some]
theorem lensOf_ev {code : List Int} {B t u : Int} (h : Cur code B t u) (hB : B ≤ 1000) :
  ∃ l t' u', Ev (fun k => spec_l01Cur_lensOf.f k code t u) (l, t', u') ∧ l.length ≤ 300 ∧ Cur code (B + 200) t' u' := by
 obtain ⟨l, t1, u1, hev, hl, c1⟩ := countsOf_ev h hB
 obtain ⟨r, hr, hev2⟩ := huffLens_ev l
 obtain ⟨K1, k1⟩ := ev_out hev
 obtain ⟨K2, k2⟩ := ev_out hev2
 by_cases g : (r.length : Int) > 0
 case neg =>
  refine ⟨r, t1, u1, ev_mk (K1 + K2) fun k hk => ?_, hr, c1.more (by omega)⟩
  unfold spec_l01Cur_lensOf.f
  rw [k1 k (by omega), Option.bind_some, k2 k (by omega), Option.bind_some, if_neg g]
 have m1 : 1 ≤ mn 200 (r.length : Int) ∧ mn 200 (r.length : Int) ≤ (r.length : Int) := by unfold mn; split <;> omega
 obtain ⟨v2, t2, u2, e2, a2, b2, _, c2⟩ := pick_ev c1 (by omega) (mn 200 (r.length : Int)) (by omega)
 have b2 := b2 (by omega)
 obtain ⟨v3, t3, u3, e3, a3, b3, _, c3⟩ := pick_ev c2 (by omega) 10 (by omega)
 by_cases g0 : v3 = 0
 ·obtain ⟨v4, t4, u4, e4, _, _, c4⟩ := raw_ev c3 (by omega)
  obtain ⟨v5, t5, u5, e5, a5, b5, _, c5⟩ := pick_ev c4 (by omega) 3 (by omega)
  have b5 := b5 (by omega)
  refine ⟨r.set v2.toNat (rd [v4, 60, 61] v5), t5, u5, ev_mk (K1 + K2) fun k hk => ?_, by rw [List.length_set]; exact hr, c5.more (by omega)⟩
  unfold spec_l01Cur_lensOf.f
  rw [k1 k (by omega), Option.bind_some, k2 k (by omega), Option.bind_some, if_pos g, e2, Option.bind_some, e3, Option.bind_some, if_pos g0, e4, Option.bind_some, Option.bind_some, e5, Option.bind_some, if_pos a5, if_pos (by simp; omega), if_pos a2, if_pos (by omega)]
 ·by_cases g1 : v3 = 1
  ·refine ⟨r.set v2.toNat (wrap64 ((rd r v2) + 1)), t3, u3, ev_mk (K1 + K2) fun k hk => ?_, by rw [List.length_set]; exact hr, c3.more (by omega)⟩
   unfold spec_l01Cur_lensOf.f
   rw [k1 k (by omega), Option.bind_some, k2 k (by omega), Option.bind_some, if_pos g, e2, Option.bind_some, e3, Option.bind_some, if_neg g0, if_pos g1, if_pos a2, if_pos (by omega)]
  ·by_cases g2 : v3 = 2
   ·obtain ⟨v5, t5, u5, e5, a5, b5, _, c5⟩ := pick_ev c3 (by omega) (mn 200 (r.length : Int)) (by omega)
    have b5 := b5 (by omega)
    refine ⟨(r.set v2.toNat (rd r v5)).set v5.toNat (rd r v2), t5, u5, ev_mk (K1 + K2) fun k hk => ?_, by rw [List.length_set, List.length_set]; exact hr, c5.more (by omega)⟩
    unfold spec_l01Cur_lensOf.f
    rw [k1 k (by omega), Option.bind_some, k2 k (by omega), Option.bind_some, if_pos g, e2, Option.bind_some, e3, Option.bind_some, if_neg g0, if_neg g1, if_pos g2, e5, Option.bind_some, if_pos a2, if_pos (by omega), if_pos a5, if_pos (by omega)]
   ·refine ⟨r, t3, u3, ev_mk (K1 + K2) fun k hk => ?_, hr, c3.more (by omega)⟩
    unfold spec_l01Cur_lensOf.f
    rw [k1 k (by omega), Option.bind_some, k2 k (by omega), Option.bind_some, if_pos g, e2, Option.bind_some, e3, Option.bind_some, if_neg g0, if_neg g1, if_neg g2]
theorem wu64 {x : Int} (h0 : 0 ≤ x) (h1 : x < 18446744073709551616) : IntKind.u64.wrap x = x := by
 simp [IntKind.wrap, IntKind.bits, IntKind.signed]
 omega
theorem td64 (i : Nat) : Int.tdiv (i : Int) 64 = ((i / 64 : Nat) : Int) := rfl
theorem tm64 (i : Nat) : Int.tmod (i : Int) 64 = ((i % 64 : Nat) : Int) := rfl
def Words (ws : List Int) : Prop := ∀ x ∈ ws, 0 ≤ x ∧ x < 2 ^ 64
theorem l01Power_l0 (m : Nat) : ∀ (a : Nat), a * 2 ^ m < 18446744073709551616 → m ≤ 64 → Ev (fun k => spec_l01Power.l0 k (m : Int) (a : Int)) ((a * 2 ^ m : Nat) : Int) := by
 induction m with
 | zero =>
  intro a h hm
  refine Ev.step (f := fun _ => some _) (fun k => ?_) (Ev.now _)
  rw [spec_l01Power.l0, if_neg (by omega), Nat.pow_zero, Nat.mul_one]
 | succ m ih =>
  intro a h hm
  have hp : 0 < 2 ^ m := Nat.two_pow_pos m
  have e : a * 2 ^ (m + 1) = (2 * a) * 2 ^ m := by rw [Nat.pow_succ, Nat.mul_comm (2 ^ m) 2, ← Nat.mul_assoc, Nat.mul_comm a 2]
  rw [e] at h ⊢
  have : 2 * a ≤ (2 * a) * 2 ^ m := Nat.le_mul_of_pos_right _ hp
  refine Ev.step (f := fun k => spec_l01Power.l0 k (m : Int) ((2 * a : Nat) : Int)) (fun k => ?_) (ih (2 * a) h (by omega))
  rw [spec_l01Power.l0, if_pos (by omega), w64 (by omega) (by omega), wu64 (by omega) (by omega), show ((m + 1 : Nat) : Int) - 1 = (m : Int) by omega]
  rfl
theorem pow64 (m : Nat) (h : m < 64) : 2 ^ m < 18446744073709551616 := Nat.pow_lt_pow_right (a := 2) (n := 64) (by decide) h
theorem pow64i (m : Nat) (h : m ≤ 64) : (2 : Int) ^ m ≤ 18446744073709551616 := by
 have : 2 ^ m ≤ 2 ^ 64 := Nat.pow_le_pow_right (by decide) h
 have e : (2 : Int) ^ m = ((2 ^ m : Nat) : Int) := by simp
 omega
theorem l01Power_ev (m : Nat) (h : m < 64) : Ev (fun k => spec_l01Power.f k (m : Int)) ((2 : Int) ^ m) := by
 have := l01Power_l0 m 1 (by rw [Nat.one_mul]; exact pow64 m h) (by omega)
 rw [Nat.one_mul] at this
 rw [show (2 : Int) ^ m = ((2 ^ m : Nat) : Int) by simp]
 exact this
theorem bitsOf_j2 (l : List Int) (hb : ∀ i, i < l.length → l.getD i 0 = 0 ∨ l.getD i 0 = 1) (h5 : l.length ≤ 5000) (i : Nat) (hi : i < l.length) (r : Int × List Int × Bool)
  (hr : Ev (fun k => spec_BitsOf.l0 k l ((i + 1 : Nat) : Int) (l.length : Int) (wordsTo l (i + 1) (i / 64 + 1))) r) : Ev (fun k => spec_BitsOf.j2 k l (i : Int) (l.length : Int) (wordsTo l i (i / 64 + 1))) r := by
 have e1 : wrap64 ((i : Int) + 1) = ((i + 1 : Nat) : Int) := w64 (by omega) (by omega)
 rcases hb i hi with q | q
 ·refine Ev.step (f := fun k => spec_BitsOf.l0 k l ((i + 1 : Nat) : Int) (l.length : Int) (wordsTo l (i + 1) (i / 64 + 1))) (fun k => ?_) hr
  rw [spec_BitsOf.j2, if_pos (by omega), if_pos (by omega), rd_nat, q, if_neg (by decide), e1, wordsTo_skip l i _ q]
 ·obtain ⟨K1, h1⟩ := ev_out (l01Power_ev (i % 64) (by omega))
  obtain ⟨K2, h2⟩ := ev_out hr
  refine ev_mk (K1 + K2 + 1) fun k hk => ?_
  obtain ⟨k, rfl⟩ : ∃ m, k = m + 1 := ⟨k - 1, by omega⟩
  have hlen := wordsTo_length l i (i / 64 + 1)
  have hbd := wordAt_bound l hb i (i / 64) (by omega)
  rw [show min 64 (i - 64 * (i / 64)) = i % 64 by omega] at hbd
  have hp := pow64i (i % 64 + 1) (by omega)
  rw [Int.pow_succ] at hp
  rw [spec_BitsOf.j2, if_pos (by omega), if_pos (by omega), rd_nat, q, if_pos rfl, td64, tm64, w64 (by omega) (by omega), if_pos (by omega), if_pos (by rw [hlen]; omega), h1 k (by omega), Option.bind_some, e1, rd_nat, wordsTo_get _ _ _ _ (by omega),
   wu64 (by have := two_pos (i % 64); omega) (by omega), Int.toNat_natCast, wordsTo_set l i _ _ (by omega) (by rw [q, Int.one_mul])]
  exact h2 k (by omega)
theorem bitsOf_l0 (l : List Int) (hb : ∀ i, i < l.length → l.getD i 0 = 0 ∨ l.getD i 0 = 1) (h5 : l.length ≤ 5000) (d : Nat) : ∀ i : Nat, i + d = l.length →
  Ev (fun k => spec_BitsOf.l0 k l (i : Int) (l.length : Int) (wordsTo l i ((i + 63) / 64))) ((l.length : Int), wordsOf l, true) := by
 induction d with
 | zero =>
  intro i h
  obtain rfl : i = l.length := by omega
  refine Ev.step (f := fun _ => some _) (fun k => ?_) (Ev.now _)
  rw [spec_BitsOf.l0, if_neg (by omega)]
  rfl
 | succ d ih =>
  intro i h
  have hr := bitsOf_j2 l hb h5 i (by omega) _ (by have := ih (i + 1) (by omega); rwa [show (i + 1 + 63) / 64 = i / 64 + 1 by omega] at this)
  have hj : Ev (fun k => spec_BitsOf.j1 k l (i : Int) false (l.length : Int) (wordsTo l i ((i + 63) / 64))) ((l.length : Int), wordsOf l, true) := by
   refine Ev.step (fun k => ?_) hr
   rw [spec_BitsOf.j1, if_neg (by decide), tm64]
   by_cases q : i % 64 = 0
   ·rw [if_pos (by omega), if_pos (by rw [wordsTo_length]; omega), wordsTo_more l i q]
   ·rw [if_neg (by omega), show (i + 63) / 64 = i / 64 + 1 by omega]
  refine Ev.step (fun k => ?_) hj
  rw [spec_BitsOf.l0, if_pos (by omega), if_pos (by omega), rd_nat]
  rcases hb i (by omega) with q | q
  ·rw [q, if_pos rfl]
  ·rw [q, if_neg (by decide)]
   rfl
theorem specBitsOf_ev (l : List Int) (hb : ∀ i, i < l.length → l.getD i 0 = 0 ∨ l.getD i 0 = 1) (h5 : l.length ≤ 5000) : Ev (fun k => spec_BitsOf.f k l) ((l.length : Int), wordsOf l, true) := by
 refine Ev.congr (f := fun k => spec_BitsOf.l0 k l ((0 : Nat) : Int) (l.length : Int) (wordsTo l 0 ((0 + 63) / 64))) (fun k => ?_) (bitsOf_l0 l hb h5 l.length 0 (by omega))
 unfold spec_BitsOf.f
 rw [if_neg (by omega)]
 rfl
theorem specBitsOf_big (l : List Int) (h5 : 5000 < l.length) : Ev (fun k => spec_BitsOf.f k l) (0, [], false) := by
 refine Ev.congr (f := fun _ => some _) (fun k => ?_) (Ev.now _)
 unfold spec_BitsOf.f
 rw [if_pos (by omega)]
theorem Words.get {ws : List Int} (h : Words ws) (j : Nat) (hj : j < ws.length) : ∃ a : Nat, ws.getD j 0 = (a : Int) ∧ a < 18446744073709551616 := by
 have := h _ (List.getElem_mem hj)
 rw [← lget_lt ws j 0 hj] at this
 refine ⟨(ws.getD j 0).toNat, by omega, by omega⟩
theorem bitAt_nat {ws : List Int} {i a : Nat} (h : ws.getD (i / 64) 0 = (a : Int)) : bitAt ws i = ((a / 2 ^ (i % 64) % 2 : Nat) : Int) := by
 unfold bitAt
 rw [h]
 simp
/-- Whether words are the words of a list of n bits. -/
def okB (n : Int) (ws : List Int) : Bool := decide (0 ≤ n ∧ n ≤ 5000 ∧ ws.length = (n.toNat + 63) / 64 ∧ wordsOf (bitsL n.toNat ws) = ws)
theorem and1 (a : Nat) (h : a < 18446744073709551616) : Go.bits .and .u64 (a : Int) 1 = ((a % 2 : Nat) : Int) := by
 have := bits_mask .u64 64 (by decide) (fun n h0 h1 => wu64 h0 (by omega)) 1 (by decide) (a : Int) (by omega) (by omega)
 rw [show ((2 : Int) ^ 1 - 1) = 1 by decide] at this
 rw [this]
 omega
theorem shr_nat (a m : Nat) (h : m < 64) : shr .u64 (a : Int) ((m : Nat) : Int) = ((a / 2 ^ m : Nat) : Int) := by
 unfold shr
 rw [Int.toNat_natCast, show min m IntKind.u64.bits = m by show min m 64 = m; omega]
 simp
theorem at_ev (n : Int) (ws : List Int) (hw : Words ws) (i : Nat) (hi : i < 64 * ws.length) (h5 : i ≤ 1000000) : impl_Bits_at.f n ws (i : Int) = some (bitAt ws i) := by
 obtain ⟨a, ea, ha⟩ := hw.get (i / 64) (by omega)
 have hd : a / 2 ^ (i % 64) ≤ a := Nat.div_le_self _ _
 unfold impl_Bits_at.f
 rw [td64, tm64, w64 (by omega) (by omega), if_pos (by omega), if_pos (by omega), if_pos (by omega), rd_nat, ea, shr_nat _ _ (by omega), and1 _ (by omega), w64 (by omega) (by omega), bitAt_nat ea]
theorem list_l0 (n : Nat) (ws : List Int) (hw : Words ws) (hn : n ≤ 64 * ws.length) (h5 : n ≤ 5000) (d : Nat) : ∀ i : Nat, i + d = n → Ev (fun k => impl_Bits_list.l0 k (bitsL i ws) (n : Int) (i : Int) (n : Int) ws) (bitsL n ws) := by
 induction d with
 | zero =>
  intro i h
  obtain rfl : i = n := by omega
  refine Ev.step (f := fun _ => some _) (fun k => ?_) (Ev.now _)
  rw [impl_Bits_list.l0, if_neg (by omega)]
 | succ d ih =>
  intro i h
  refine Ev.step (fun k => ?_) (ih (i + 1) (by omega))
  rw [impl_Bits_list.l0, if_pos (by omega), at_ev _ _ hw i (by omega) (by omega), Option.bind_some, if_pos (by rw [bitsL_length]; omega), w64 (by omega) (by omega), bitsL_succ]
  rfl
theorem list_ev (n : Nat) (ws : List Int) (hw : Words ws) (hn : n ≤ 64 * ws.length) (h5 : n ≤ 5000) : Ev (fun k => impl_Bits_list.f k (n : Int) ws) (bitsL n ws) :=
 Ev.congr (f := fun k => impl_Bits_list.l0 k (bitsL 0 ws) (n : Int) ((0 : Nat) : Int) (n : Int) ws) (fun _ => rfl) (list_l0 n ws hw hn h5 n 0 (by omega))
theorem implBitsOk_ev (n : Int) (ws : List Int) (hw : Words ws) (hl : ws.length ≤ 4000000) (hn : -9223372036854775808 ≤ n) : impl_BitsOk.f n ws = some (okB n ws) := by
 unfold impl_BitsOk.f impl_within.f
 by_cases h0 : 0 ≤ n
 case neg =>
  rw [if_neg h0, Option.bind_some, if_neg (by decide), okB, decide_eq_false (by omega)]
 rw [if_pos h0, Option.bind_some]
 by_cases h1 : n ≤ 5000
 case neg =>
  rw [decide_eq_false h1, if_neg (by decide), okB, decide_eq_false (by omega)]
 rw [decide_eq_true h1, if_pos rfl]
 obtain ⟨n, rfl⟩ := Int.eq_ofNat_of_zero_le h0
 have e : wrap64 (Int.tdiv (wrap64 ((wrap64 ((n : Int) + 64)) - 1)) 64) = (((n + 63) / 64 : Nat) : Int) := by
  rw [w64 (x := (n : Int) + 64) (by omega) (by omega), w64 (x := (n : Int) + 64 - 1) (by omega) (by omega), show (n : Int) + 64 - 1 = ((n + 63 : Nat) : Int) by omega, td64, w64 (by omega) (by omega)]
 rw [e]
 by_cases q : ws.length = (n + 63) / 64
 case neg =>
  rw [if_neg (by omega), okB, decide_eq_false (by rw [Int.toNat_natCast]; exact fun h => q h.2.2.1)]
 rw [if_pos (by omega), tm64]
 have W := wordsOf_bits n ws hw q
 have fin : ∀ b : Bool, (b = true ↔ (n % 64 = 0 ∨ ws.getD (ws.length - 1) 0 / 2 ^ (n % 64) = 0)) → some b = some (okB (n : Int) ws) := by
  intro b hb
  congr 1
  rw [Bool.eq_iff_iff, hb, ← W, okB, decide_eq_true_iff, Int.toNat_natCast]
  exact ⟨fun h => ⟨by omega, by omega, q, h⟩, fun h => h.2.2.2⟩
 by_cases z : n % 64 = 0
 ·rw [if_pos (by omega)]
  exact fin true ⟨fun _ => .inl z, fun _ => rfl⟩
 ·obtain ⟨a, ea, ha⟩ := hw.get (ws.length - 1) (by omega)
  rw [if_neg (by omega), w64 (by omega) (by omega), if_pos (by omega), if_pos (by omega), if_pos (by omega), show (ws.length : Int) - 1 = ((ws.length - 1 : Nat) : Int) by omega, rd_nat, ea, shr_nat _ _ (by omega)]
  refine fin _ ?_
  rw [beq_iff_eq, ea]
  constructor
  ·intro h
   right
   have : ((a : Int) / 2 ^ (n % 64)) = ((a / 2 ^ (n % 64) : Nat) : Int) := by simp
   rw [this]
   exact h
  ·rintro (h | h)
   ·exact absurd h z
   ·have : ((a : Int) / 2 ^ (n % 64)) = ((a / 2 ^ (n % 64) : Nat) : Int) := by simp
    rw [this] at h
    exact h
theorem bitsOr_comm (x y : Int) : Go.bits .or .u64 x y = Go.bits .or .u64 y x := by
 unfold Go.bits
 dsimp only
 rw [BitVec.or_comm]
theorem or_bit (x : Int) (m : Nat) (v : Int) (hx : 0 ≤ x) (hx1 : x < 2 ^ m) (hm : m < 64) (hv : v = 0 ∨ v = 1) : Go.bits .or .u64 x (shl .u64 (IntKind.u64.wrap v) (m : Int)) = x + v * 2 ^ m := by
 have hp := pow64i (m + 1) (by omega)
 rw [Int.pow_succ] at hp
 have hp0 := two_pos m
 rcases hv with rfl | rfl
 ·have e : shl .u64 (IntKind.u64.wrap 0) (m : Int) = 0 := by
   unfold shl
   rw [wu64 (x := 0) (by decide) (by decide), Int.zero_mul]
   exact wu64 (by decide) (by decide)
  rw [e, bits_join .u64 64 (by decide) (fun n h0 h1 => wu64 h0 (by omega)) 0 x 0 hx (by simp [Int.emod_one]) (by omega) (by decide) (by decide) (by decide)]
  simp
 ·have e : shl .u64 (IntKind.u64.wrap 1) (m : Int) = 2 ^ m := by
   unfold shl
   rw [wu64 (x := 1) (by decide) (by decide), Int.one_mul, Int.toNat_natCast, show min m IntKind.u64.bits = m by show min m 64 = m; omega]
   exact wu64 (by omega) (by omega)
  rw [e, bitsOr_comm, bits_join .u64 64 (by decide) (fun n h0 h1 => wu64 h0 (by omega)) m (2 ^ m) x (by omega) Int.emod_self (by omega) hx hx1 (by omega)]
  omega
theorem implBitsOf_l0 (l : List Int) (hb : ∀ i, i < l.length → l.getD i 0 = 0 ∨ l.getD i 0 = 1) (h5 : l.length ≤ 5000) (d : Nat) : ∀ i : Nat, i + d = l.length →
  Ev (fun k => impl_bitsOf.l0 k l (l.length : Int) (i : Int) (l.length : Int) (wordsTo l i ((l.length + 63) / 64))) ((l.length : Int), wordsOf l) := by
 induction d with
 | zero =>
  intro i h
  obtain rfl : i = l.length := by omega
  refine Ev.step (f := fun _ => some _) (fun k => ?_) (Ev.now _)
  rw [impl_bitsOf.l0, if_neg (by omega)]
  rfl
 | succ d ih =>
  intro i h
  refine Ev.step (fun k => ?_) (ih (i + 1) (by omega))
  have hbd := wordAt_bound l hb i (i / 64) (by omega)
  rw [show min 64 (i - 64 * (i / 64)) = i % 64 by omega] at hbd
  rw [impl_bitsOf.l0, if_pos (by omega), if_pos (by omega), if_pos (by omega), td64, tm64, w64 (by omega) (by omega), if_pos (by omega), if_pos (by rw [wordsTo_length]; omega), if_pos (by omega), w64 (by omega) (by omega), rd_nat, rd_nat, Int.toNat_natCast,
   wordsTo_get _ _ _ _ (by omega), or_bit _ _ _ hbd.1 hbd.2 (by omega) (hb i (by omega)), wordsTo_set l i _ _ (by omega) rfl]
  rfl
theorem implBitsOf_ev (l : List Int) (hb : ∀ i, i < l.length → l.getD i 0 = 0 ∨ l.getD i 0 = 1) (h5 : l.length ≤ 5000) : Ev (fun k => impl_bitsOf.f k l) ((l.length : Int), wordsOf l) := by
 have e : wrap64 (Int.tdiv (wrap64 ((wrap64 ((l.length : Int) + 64)) - 1)) 64) = (((l.length + 63) / 64 : Nat) : Int) := by
  rw [w64 (x := (l.length : Int) + 64) (by omega) (by omega), w64 (x := (l.length : Int) + 64 - 1) (by omega) (by omega), show (l.length : Int) + 64 - 1 = ((l.length + 63 : Nat) : Int) by omega, td64, w64 (by omega) (by omega)]
 have z : wordsTo l 0 ((l.length + 63) / 64) = List.replicate ((l.length + 63) / 64) 0 := by
  apply ext_getD 0 (by rw [wordsTo_length, List.length_replicate])
  intro j hj
  rw [wordsTo_length] at hj
  rw [wordsTo_get _ _ _ _ hj, lrep]
  unfold wordAt
  rw [show min 64 (0 - 64 * j) = 0 by omega, wsum]
 refine Ev.congr (f := fun k => impl_bitsOf.l0 k l (l.length : Int) ((0 : Nat) : Int) (l.length : Int) (wordsTo l 0 ((l.length + 63) / 64))) (fun k => ?_) (implBitsOf_l0 l hb h5 l.length 0 (by omega))
 unfold impl_bitsOf.f
 rw [e, if_pos (by omega), Int.toNat_natCast, if_pos (by omega), z]
 rfl
theorem words_lt (l : List Int) (hb : ∀ i, i < l.length → l.getD i 0 = 0 ∨ l.getD i 0 = 1) : Words (wordsOf l) := by
 intro x hx
 unfold wordsOf wordsTo at hx
 obtain ⟨j, _, rfl⟩ := List.mem_map.1 hx
 have h := wordAt_bound l hb l.length j (Nat.le_refl _)
 have hp := pow64i (min 64 (l.length - 64 * j)) (by omega)
 exact ⟨h.1, by omega⟩
theorem wpred (n : Nat) (h : n ≤ 1000000000) : wrap64 ((n : Int) - 1) = (n : Int) - 1 := w64 (by omega) (by omega)
theorem waddi (n : Nat) (x : Int) (h : n ≤ 1000000000) (h0 : 0 ≤ x) (h1 : x ≤ 1000000000) : wrap64 ((n : Int) + x) = (n : Int) + x := w64 (by omega) (by omega)
def symB (lens codes : List Int) (s : Int) : List Int := codeBits (codes.getD s.toNat 0).toNat (lens.getD s.toNat 0).toNat
def goW (lens codes : List Int) : List Int → List Int → Option (List Int)
 | acc, [] => if 5000 < acc.length then none else some acc
 | acc, s :: ss => if s < 0 ∨ (lens.length : Int) ≤ s then none else if lens.getD s.toNat 0 = 0 then none else goW lens codes (acc ++ symB lens codes s) ss
def resW : Option (List Int) → Int × List Int × Bool
 | none => (0, [], false)
 | some bs => ((bs.length : Int), wordsOf bs, true)
theorem goW_big (lens codes : List Int) (hr : inRange lens = true) (ss : List Int) : ∀ acc : List Int, 5000 < acc.length + ss.length → goW lens codes acc ss = none := by
 induction ss with
 | nil => intro acc h; rw [goW, if_pos (by simpa using h)]
 | cons s ss ih =>
  intro acc h
  rw [goW]
  by_cases a : s < 0 ∨ (lens.length : Int) ≤ s
  ·rw [if_pos a]
  ·rw [if_neg a]
   by_cases b : lens.getD s.toNat 0 = 0
   ·rw [if_pos b]
   ·rw [if_neg b]
    have := inRange_get hr s.toNat (by omega)
    apply ih
    rw [List.length_append, symB, codeBits_length]
    rw [List.length_cons] at h
    omega
theorem get01 {l : List Int} (h : ∀ x ∈ l, x = 0 ∨ x = 1) : ∀ i, i < l.length → l.getD i 0 = 0 ∨ l.getD i 0 = 1 := by
 intro i hi
 rw [lget_lt _ _ _ hi]
 exact h _ (List.getElem_mem hi)
theorem app01 {l m : List Int} (h : ∀ x ∈ l, x = 0 ∨ x = 1) (h2 : ∀ x ∈ m, x = 0 ∨ x = 1) : ∀ x ∈ l ++ m, x = 0 ∨ x = 1 := by
 intro x hx
 rcases List.mem_append.1 hx with q | q
 ·exact h x q
 ·exact h2 x q
theorem good_get {lens codes : List Int} (hg : Good lens codes) (j : Nat) (h : j < lens.length) : ∃ c : Nat, codes.getD j 0 = (c : Int) ∧ c < 1152921504606846976 := by
 have hl := hg.1
 have := hg.2 _ (List.getElem_mem (show j < codes.length by omega))
 rw [← lget_lt codes j 0 (by omega)] at this
 exact ⟨(codes.getD j 0).toNat, by omega, by omega⟩
theorem specW_l0 (list lens codes : List Int) (hg : Good lens codes) (hr : inRange lens = true) (hl : list.length ≤ 5000) (d : Nat) : ∀ (i : Nat) (acc : List Int), i + d = list.length → acc.length ≤ 60 * i → (∀ x ∈ acc, x = 0 ∨ x = 1) →
  Ev (fun k => spec_HuffWrite.l0 k list lens codes acc (i : Int)) (resW (goW lens codes acc (list.drop i))) := by
 induction d with
 | zero =>
  intro i acc hi ha h01
  have hd : list.drop i = [] := List.drop_eq_nil_of_le (by omega)
  rw [hd, goW]
  by_cases b : 5000 < acc.length
  ·obtain ⟨K, hK⟩ := ev_out (specBitsOf_big acc b)
   refine ev_mk (K + 1) fun k hk => ?_
   obtain ⟨k, rfl⟩ : ∃ m, k = m + 1 := ⟨k - 1, by omega⟩
   rw [spec_HuffWrite.l0, if_neg (by omega), hK k (by omega), Option.bind_some, if_pos b]
   rfl
  ·obtain ⟨K, hK⟩ := ev_out (specBitsOf_ev acc (get01 h01) (by omega))
   refine ev_mk (K + 1) fun k hk => ?_
   obtain ⟨k, rfl⟩ : ∃ m, k = m + 1 := ⟨k - 1, by omega⟩
   rw [spec_HuffWrite.l0, if_neg (by omega), hK k (by omega), Option.bind_some, if_neg b]
   rfl
 | succ d ih =>
  intro i acc hi ha h01
  have hrd : rd list (i : Int) = list.getD i 0 := rd_nat list i
  rw [drop_cons list i (by omega), goW]
  generalize list.getD i 0 = s at hrd ⊢
  have bad : ∀ k, spec_HuffWrite.j2 (k + 1) list lens codes acc (i : Int) s true = some (resW none) := by
   intro k
   rw [spec_HuffWrite.j2, if_pos rfl]
   rfl
  by_cases a : s < 0 ∨ (lens.length : Int) ≤ s
  ·rw [if_pos a]
   refine ev_mk 2 fun k hk => ?_
   obtain ⟨k, rfl⟩ : ∃ m, k = m + 2 := ⟨k - 2, by omega⟩
   rw [spec_HuffWrite.l0, if_pos (by omega), if_pos (by omega), hrd]
   by_cases n : s < 0
   ·rw [if_pos n]; exact bad k
   ·rw [if_neg n, if_pos (by omega)]; exact bad k
  ·rw [if_neg a]
   have hrl : rd lens s = lens.getD s.toNat 0 := rfl
   have hrc : rd codes s = codes.getD s.toNat 0 := rfl
   have hsl : s.toNat < lens.length := by omega
   have hlr := inRange_get hr s.toNat hsl
   obtain ⟨c, hc, hcl⟩ := good_get hg s.toNat hsl
   have hcg := hg.1
   by_cases b : lens.getD s.toNat 0 = 0
   ·rw [if_pos b]
    refine ev_mk 2 fun k hk => ?_
    obtain ⟨k, rfl⟩ : ∃ m, k = m + 2 := ⟨k - 2, by omega⟩
    rw [spec_HuffWrite.l0, if_pos (by omega), if_pos (by omega), hrd, if_neg (by omega), if_neg (by omega), if_pos (by omega), if_pos (by omega), hrl, b]
    exact bad k
   ·rw [if_neg b]
    have hsb : symB lens codes s = codeBits c (lens.getD s.toNat 0).toNat := by unfold symB; rw [hc, Int.toNat_natCast]
    have hbl := codeBits_length c (lens.getD s.toNat 0).toNat
    have hbb : (lens.getD s.toNat 0 == 0) = false := by simpa using b
    have hm : lens.getD s.toNat 0 = (((lens.getD s.toNat 0).toNat : Nat) : Int) := by omega
    generalize hM : (lens.getD s.toNat 0).toNat = m at hsb hbl hm
    rw [hsb]
    obtain ⟨K1, k1⟩ := ev_out (l08Code_ev c hcl m (by omega))
    obtain ⟨K2, k2⟩ := ev_out (ih (i + 1) (acc ++ codeBits c m) (by omega) (by rw [List.length_append]; omega) (app01 h01 (codeBits_01 c m)))
    refine ev_mk (K1 + K2 + 2) fun k hk => ?_
    obtain ⟨k, rfl⟩ : ∃ m, k = m + 2 := ⟨k - 2, by omega⟩
    rw [spec_HuffWrite.l0, if_pos (by omega), if_pos (by omega), hrd, if_neg (by omega), if_neg (by omega), if_pos (by omega), if_pos (by omega), hrl, hbb, spec_HuffWrite.j2, if_neg (by decide), if_pos (by omega), if_pos (by omega), if_pos (by omega), hrc, hrl, hc, hm, k1 k (by omega), Option.bind_some, if_pos (by omega), winc i (by omega)]
    exact k2 k (by omega)
theorem implW_l0 (list lens codes : List Int) (hg : Good lens codes) (hr : inRange lens = true) (hn : lens.length ≤ 300) (hl : list.length ≤ 1048576) (d : Nat) : ∀ (i : Nat) (acc : List Int), i + d = list.length → acc.length ≤ 5000 → (∀ x ∈ acc, x = 0 ∨ x = 1) →
  Ev (fun k => impl_HuffWrite.l0 k lens acc codes list (list.length : Int) (i : Int)) (resW (goW lens codes acc (list.drop i))) := by
 induction d with
 | zero =>
  intro i acc hi ha h01
  have hd : list.drop i = [] := List.drop_eq_nil_of_le (by omega)
  rw [hd, goW]
  obtain ⟨K, hK⟩ := ev_out (implBitsOf_ev acc (get01 h01) (by omega))
  refine ev_mk (K + 1) fun k hk => ?_
  obtain ⟨k, rfl⟩ : ∃ m, k = m + 1 := ⟨k - 1, by omega⟩
  rw [impl_HuffWrite.l0, if_neg (by omega), hK k (by omega), Option.bind_some, if_neg (by omega)]
  rfl
 | succ d ih =>
  intro i acc hi ha h01
  have hrd : rd list (i : Int) = list.getD i 0 := rd_nat list i
  rw [drop_cons list i (by omega), goW]
  generalize list.getD i 0 = s at hrd ⊢
  have bad : ∀ k, impl_HuffWrite.j1 (k + 1) lens codes acc s list (list.length : Int) (i : Int) true = some (resW none) := by
   intro k
   rw [impl_HuffWrite.j1, if_pos rfl]
   rfl
  have hwi : impl_within.f s 0 (wrap64 ((lens.length : Int) - 1)) = some (decide (¬ (s < 0 ∨ (lens.length : Int) ≤ s))) := by
   unfold impl_within.f
   rw [wpred _ (by omega)]
   by_cases n : 0 ≤ s
   ·rw [if_pos n]
    congr 1
    exact decide_eq_decide.2 (by omega)
   ·rw [if_neg n, decide_eq_false (by omega)]
  by_cases a : s < 0 ∨ (lens.length : Int) ≤ s
  ·rw [if_pos a]
   refine ev_mk 2 fun k hk => ?_
   obtain ⟨k, rfl⟩ : ∃ m, k = m + 2 := ⟨k - 2, by clear hwi; omega⟩
   rw [impl_HuffWrite.l0, if_pos (by clear hwi; omega), if_pos (by clear hwi; omega), if_pos (by clear hwi; omega), hrd, hwi, Option.bind_some, decide_eq_false (fun h => h a), if_neg (by decide)]
   exact bad k
  ·rw [if_neg a]
   rw [decide_eq_true a] at hwi
   have hrl : rd lens s = lens.getD s.toNat 0 := rfl
   have hrc : rd codes s = codes.getD s.toNat 0 := rfl
   have hsl : s.toNat < lens.length := by clear hwi; omega
   have hlr := inRange_get hr s.toNat hsl
   obtain ⟨c, hc, hcl⟩ := good_get hg s.toNat hsl
   have hcg := hg.1
   have c1 : (i : Int) < (list.length : Int) := by clear hwi; omega
   have c2 : (0 : Int) ≤ s := by clear hwi; omega
   have c3 : s < (lens.length : Int) := by clear hwi; omega
   have c4 : s < (codes.length : Int) := by clear hwi; omega
   have hgo : ∀ k, impl_HuffWrite.l0 (k + 1) lens acc codes list (list.length : Int) (i : Int) = (if lens.getD s.toNat 0 = 0 then impl_HuffWrite.j1 k lens codes acc s list (list.length : Int) (i : Int) true else impl_HuffWrite.j1 k lens codes acc s list (list.length : Int) (i : Int) (decide ((acc.length : Int) + lens.getD s.toNat 0 > 5000))) := by
    intro k
    rw [impl_HuffWrite.l0, if_pos c1, if_pos (Int.natCast_nonneg _), if_pos c1, hrd, hwi, Option.bind_some, if_pos rfl, if_pos c2, if_pos c3, hrl, waddi acc.length _ (by clear hwi; omega) hlr.1 (by clear hwi; omega)]
   clear hwi
   by_cases b : lens.getD s.toNat 0 = 0
   ·rw [if_pos b]
    refine ev_mk 2 fun k hk => ?_
    obtain ⟨k, rfl⟩ : ∃ m, k = m + 2 := ⟨k - 2, by omega⟩
    rw [hgo, if_pos b]
    exact bad k
   ·rw [if_neg b]
    by_cases o : (acc.length : Int) + lens.getD s.toNat 0 > 5000
    ·rw [goW_big lens codes hr _ _ (by rw [List.length_append, symB, codeBits_length]; omega)]
     refine ev_mk 2 fun k hk => ?_
     obtain ⟨k, rfl⟩ : ∃ m, k = m + 2 := ⟨k - 2, by omega⟩
     rw [hgo, if_neg b, decide_eq_true o]
     exact bad k
    ·have hsb : symB lens codes s = codeBits c (lens.getD s.toNat 0).toNat := by unfold symB; rw [hc, Int.toNat_natCast]
     have hbl := codeBits_length c (lens.getD s.toNat 0).toNat
     have hm : lens.getD s.toNat 0 = (((lens.getD s.toNat 0).toNat : Nat) : Int) := by omega
     generalize hM : (lens.getD s.toNat 0).toNat = m at hsb hbl hm
     rw [hsb]
     have hll := lsb_length m c
     have hrv := lsb_reverse c m
     obtain ⟨K1, k1⟩ := ev_out (digits_ev c m hcl (by omega))
     obtain ⟨K2, k2⟩ := ev_out (reverse_ev (lsb c m) (by omega))
     obtain ⟨K3, k3⟩ := ev_out (ih (i + 1) (acc ++ codeBits c m) (by omega) (by rw [List.length_append]; omega) (app01 h01 (codeBits_01 c m)))
     refine ev_mk (K1 + K2 + K3 + 2) fun k hk => ?_
     obtain ⟨k, rfl⟩ : ∃ m, k = m + 2 := ⟨k - 2, by omega⟩
     rw [hgo, if_neg b, decide_eq_false o, impl_HuffWrite.j1, if_neg (by decide), if_pos c2, if_pos c4, if_pos c3, hrc, hrl, hc, hm, k1 k (by omega), Option.bind_some, k2 k (by omega), Option.bind_some, hrv, if_pos (by omega), winc i (by omega)]
     exact k3 k (by omega)
theorem huffWrite_ev (list lens : List Int) (hl : list.length ≤ 1048576) : ∃ o : Option (List Int), (∀ bs, o = some bs → bs.length ≤ 5000 ∧ okH lens = true ∧ ∃ codes, Ev (fun k => impl_huffCodes.f k lens) codes ∧ goW lens codes [] list = some bs) ∧ Ev (fun k => spec_HuffWrite.f k list lens) (resW o) ∧ Ev (fun k => impl_HuffWrite.f k list lens) (resW o) := by
 obtain ⟨K1, k1⟩ := ev_out (specHuffOk_ev lens)
 obtain ⟨K2, k2⟩ := ev_out (implHuffOk_ev lens)
 by_cases ok : okH lens = true
 case neg =>
  refine ⟨none, fun _ h => absurd h (by simp), ev_mk (K1 + 1) fun k hk => ?_, ev_mk K2 fun k hk => ?_⟩
  ·obtain ⟨k, rfl⟩ : ∃ m, k = m + 1 := ⟨k - 1, by omega⟩
   unfold spec_HuffWrite.f spec_HuffCodes.f
   rw [k1 _ (by omega), Option.bind_some, if_neg ok, Option.bind_some, Option.bind_some, if_neg ok, spec_HuffWrite.j0, if_pos rfl]
   rfl
  ·unfold impl_HuffWrite.f
   rw [k2 _ (by omega), Option.bind_some, if_neg ok]
   rfl
 obtain ⟨hn, hr, _⟩ := okH_out ok
 obtain ⟨codes, e1, e2, hg⟩ := codes_ev lens ok
 obtain ⟨K3, k3⟩ := ev_out e1
 obtain ⟨K4, k4⟩ := ev_out e2
 have hI := implW_l0 list lens codes hg hr hn hl list.length 0 [] (by omega) (by simp) (by simp)
 rw [List.drop_zero] at hI
 obtain ⟨K5, k5⟩ := ev_out hI
 refine ⟨goW lens codes [] list, ?_, ?_, ev_mk (K2 + K4 + K5) fun k hk => ?_⟩
 ·have key : ∀ (ss acc bs : List Int), goW lens codes acc ss = some bs → bs.length ≤ 5000 := by
   intro ss
   induction ss with
   | nil =>
    intro acc bs h
    rw [goW] at h
    by_cases q : 5000 < acc.length
    ·rw [if_pos q] at h; exact absurd h (by simp)
    ·rw [if_neg q] at h
     obtain rfl := Option.some.inj h
     omega
   | cons s ss ih =>
    intro acc bs h
    rw [goW] at h
    by_cases a : s < 0 ∨ (lens.length : Int) ≤ s
    ·rw [if_pos a] at h; exact absurd h (by simp)
    ·rw [if_neg a] at h
     by_cases b : lens.getD s.toNat 0 = 0
     ·rw [if_pos b] at h; exact absurd h (by simp)
     ·rw [if_neg b] at h
      exact ih _ _ h
  exact fun bs h => ⟨key list [] bs h, ok, codes, e2, h⟩
 ·by_cases big : (list.length : Int) > 5000
  ·rw [goW_big lens codes hr list [] (by simp; omega)]
   refine ev_mk (K1 + K3 + 1) fun k hk => ?_
   obtain ⟨k, rfl⟩ : ∃ m, k = m + 1 := ⟨k - 1, by omega⟩
   unfold spec_HuffWrite.f
   rw [k3 _ (by omega), Option.bind_some, k1 _ (by omega), Option.bind_some, if_pos ok, decide_eq_true big, spec_HuffWrite.j0, if_pos rfl]
   rfl
  ·have hS := specW_l0 list lens codes hg hr (by omega) list.length 0 [] (by omega) (by simp) (by simp)
   rw [List.drop_zero] at hS
   obtain ⟨K6, k6⟩ := ev_out hS
   refine ev_mk (K1 + K3 + K6 + 1) fun k hk => ?_
   obtain ⟨k, rfl⟩ : ∃ m, k = m + 1 := ⟨k - 1, by omega⟩
   unfold spec_HuffWrite.f
   rw [k3 _ (by omega), Option.bind_some, k1 _ (by omega), Option.bind_some, if_pos ok, decide_eq_false big, spec_HuffWrite.j0, if_neg (by decide)]
   exact k6 k (by omega)
 ·unfold impl_HuffWrite.f
  rw [k2 _ (by omega), Option.bind_some, if_pos ok, k4 _ (by omega), Option.bind_some]
  exact k5 k (by omega)
def val2 (l : List Int) : Nat := l.foldl (fun a b => 2 * a + b.toNat) 0
theorem val2_snoc (l : List Int) (b : Int) : val2 (l ++ [b]) = 2 * val2 l + b.toNat := by unfold val2; rw [List.foldl_append]; rfl
theorem val2_acc (l : List Int) : ∀ a : Nat, l.foldl (fun a b => 2 * a + b.toNat) a = a * 2 ^ l.length + val2 l := by
 induction l with
 | nil => intro a; simp [val2]
 | cons x l ih =>
  intro a
  have e : val2 (x :: l) = (2 * 0 + x.toNat) * 2 ^ l.length + val2 l := by
   show l.foldl _ _ = _
   rw [ih]
  rw [List.foldl_cons, ih, e, List.length_cons, Nat.pow_succ, Nat.mul_zero, Nat.zero_add, Nat.add_mul, Nat.add_assoc]
  congr 1
  rw [Nat.mul_comm 2 a, Nat.mul_assoc, Nat.mul_comm 2]
theorem val2_cons (x : Int) (l : List Int) : val2 (x :: l) = x.toNat * 2 ^ l.length + val2 l := by
 show l.foldl _ _ = _
 rw [val2_acc]
 show (2 * 0 + x.toNat) * 2 ^ l.length + val2 l = _
 rw [Nat.mul_zero, Nat.zero_add]
theorem val2_app (a b : List Int) : val2 (a ++ b) = val2 a * 2 ^ b.length + val2 b := by
 show (a ++ b).foldl _ _ = _
 rw [List.foldl_append]
 exact val2_acc b _
def B01 (l : List Int) : Prop := ∀ x ∈ l, x = 0 ∨ x = 1
theorem B01.drop {l : List Int} (h : B01 l) (i : Nat) : B01 (l.drop i) := fun x hx => h x (List.mem_of_mem_drop hx)
theorem B01.take {l : List Int} (h : B01 l) (i : Nat) : B01 (l.take i) := fun x hx => h x (List.mem_of_mem_take hx)
theorem val2_lt : ∀ l : List Int, B01 l → val2 l < 2 ^ l.length
 | [], _ => by simp [val2]
 | x :: l, h => by
  have h1 := val2_lt l (fun y hy => h y (List.mem_cons_of_mem _ hy))
  have h2 := h x List.mem_cons_self
  rw [val2_cons, List.length_cons, Nat.pow_succ]
  have : x.toNat ≤ 1 := by omega
  have := Nat.mul_le_mul_right (2 ^ l.length) this
  omega
theorem val2_code (n : Nat) : ∀ c, val2 (codeBits c n) = c % 2 ^ n := by
 induction n with
 | zero => intro c; simp [codeBits, val2, Nat.mod_one]
 | succ n ih =>
  intro c
  rw [codeBits, val2_cons, codeBits_length, ih, Int.toNat_natCast, Nat.mod_pow_succ, Nat.add_comm, Nat.mul_comm]
def seg (bits : List Int) (p n : Nat) : List Int := (bits.drop p).take n
theorem seg_length {bits : List Int} {p n : Nat} (h : p + n ≤ bits.length) : (seg bits p n).length = n := by unfold seg; rw [List.length_take, List.length_drop]; omega
theorem seg_succ {bits : List Int} {p n : Nat} (h : p + n < bits.length) : seg bits p (n + 1) = seg bits p n ++ [bits.getD (p + n) 0] := by
 unfold seg
 have hl : n < (bits.drop p).length := by rw [List.length_drop]; omega
 rw [List.take_succ_eq_append_getElem hl, List.getElem_drop, lget_lt bits (p + n) 0 h]
def Mb (lens codes bits : List Int) (p s : Nat) : Bool := decide (0 < lens.getD s 0) && decide (p + (lens.getD s 0).toNat ≤ bits.length) && decide (val2 (seg bits p (lens.getD s 0).toNat) = (codes.getD s 0).toNat)
theorem Mb_iff {lens codes bits : List Int} {p s : Nat} : Mb lens codes bits p s = true ↔ 0 < lens.getD s 0 ∧ p + (lens.getD s 0).toNat ≤ bits.length ∧ val2 (seg bits p (lens.getD s 0).toNat) = (codes.getD s 0).toNat := by
 unfold Mb
 rw [Bool.and_eq_true, Bool.and_eq_true, decide_eq_true_eq, decide_eq_true_eq, decide_eq_true_eq, and_assoc]
/-- No code begins another one; each code has its length. -/
def Codes (lens codes : List Int) : Prop := codes.length = lens.length ∧ inRange lens = true ∧ (∀ s, s < lens.length → 0 < lens.getD s 0 → 0 ≤ codes.getD s 0 ∧ (codes.getD s 0).toNat < 2 ^ (lens.getD s 0).toNat) ∧
 ∀ i j, i < lens.length → j < lens.length → i ≠ j → 0 < lens.getD i 0 → lens.getD i 0 ≤ lens.getD j 0 → (codes.getD j 0).toNat / 2 ^ ((lens.getD j 0).toNat - (lens.getD i 0).toNat) ≠ (codes.getD i 0).toNat
theorem Mb_le {lens codes bits : List Int} (hC : Codes lens codes) (h01 : B01 bits) {p i j : Nat} (hi : i < lens.length) (hj : j < lens.length) (mi : Mb lens codes bits p i = true) (mj : Mb lens codes bits p j = true) (hle : lens.getD i 0 ≤ lens.getD j 0) : i = j := by
 refine Classical.byContradiction fun hne => ?_
 obtain ⟨a1, a2, a3⟩ := Mb_iff.1 mi
 obtain ⟨b1, b2, b3⟩ := Mb_iff.1 mj
 refine hC.2.2.2 i j hi hj hne a1 hle ?_
 obtain ⟨m, hm⟩ : ∃ m, (lens.getD j 0).toNat = (lens.getD i 0).toNat + m := ⟨(lens.getD j 0).toNat - (lens.getD i 0).toNat, by omega⟩
 have e : seg bits p (lens.getD j 0).toNat = seg bits p (lens.getD i 0).toNat ++ seg bits (p + (lens.getD i 0).toNat) m := by
  unfold seg
  rw [hm, List.take_add, List.drop_drop]
 have hl : (seg bits (p + (lens.getD i 0).toNat) m).length = m := seg_length (by omega)
 have hlt := val2_lt (seg bits (p + (lens.getD i 0).toNat) m) ((h01.drop _).take _)
 rw [← b3, e, val2_app, hl, a3, hm, Nat.add_sub_cancel_left]
 rw [hl] at hlt
 rw [Nat.mul_comm, Nat.mul_add_div (Nat.two_pow_pos m), Nat.div_eq_of_lt hlt, Nat.add_zero]
theorem Mb_one {lens codes bits : List Int} (hC : Codes lens codes) (h01 : B01 bits) {p i j : Nat} (hi : i < lens.length) (hj : j < lens.length) (mi : Mb lens codes bits p i = true) (mj : Mb lens codes bits p j = true) : i = j := by
 by_cases h : lens.getD i 0 ≤ lens.getD j 0
 ·exact Mb_le hC h01 hi hj mi mj h
 ·exact (Mb_le hC h01 hj hi mj mi (by omega)).symm
/-- Whoever of those from s on matches at p, or h. -/
def hitF (lens codes bits : List Int) (p : Nat) (l : List Nat) (h : Int) : Int := l.foldl (fun h s => if Mb lens codes bits p s = true then (s : Int) else h) h
theorem hitF_or (lens codes bits : List Int) (p : Nat) : ∀ (l : List Nat) (h : Int), (hitF lens codes bits p l h = h ∧ ∀ t ∈ l, ¬ Mb lens codes bits p t = true) ∨ ∃ t ∈ l, Mb lens codes bits p t = true ∧ hitF lens codes bits p l h = (t : Int)
 | [], h => .inl ⟨rfl, fun t ht => (by cases ht)⟩
 | s :: l, h => by
  have e : hitF lens codes bits p (s :: l) h = hitF lens codes bits p l (if Mb lens codes bits p s = true then (s : Int) else h) := rfl
  rw [e]
  rcases hitF_or lens codes bits p l (if Mb lens codes bits p s = true then (s : Int) else h) with ⟨a, b⟩ | ⟨t, a, b, c⟩
  ·by_cases m : Mb lens codes bits p s = true
   ·rw [if_pos m] at a ⊢
    exact .inr ⟨s, List.mem_cons_self, m, a⟩
   ·rw [if_neg m] at a ⊢
    refine .inl ⟨a, fun t ht => ?_⟩
    rcases List.mem_cons.1 ht with rfl | ht
    ·exact m
    ·exact b t ht
  ·exact .inr ⟨t, List.mem_cons_of_mem _ a, b, c⟩
def hit (lens codes bits : List Int) (p : Nat) : Int := hitF lens codes bits p (List.range lens.length) (-1)
theorem hit_some {lens codes bits : List Int} (hC : Codes lens codes) (h01 : B01 bits) {p s : Nat} (hs : s < lens.length) (m : Mb lens codes bits p s = true) : hit lens codes bits p = (s : Int) := by
 rcases hitF_or lens codes bits p (List.range lens.length) (-1) with ⟨_, b⟩ | ⟨t, a, b, c⟩
 ·exact absurd m (b s (List.mem_range.2 hs))
 ·unfold hit
  rw [c, Mb_one hC h01 (List.mem_range.1 a) hs b m]
theorem hit_none {lens codes bits : List Int} {p : Nat} (h : ∀ s, s < lens.length → ¬ Mb lens codes bits p s = true) : hit lens codes bits p = -1 := by
 rcases hitF_or lens codes bits p (List.range lens.length) (-1) with ⟨a, _⟩ | ⟨t, a, b, _⟩
 ·exact a
 ·exact absurd b (h t (List.mem_range.1 a))
def dec (lens codes bits : List Int) : Nat → Nat → List Int → Option (List Int)
 | 0, p, out => if p < bits.length then none else some out
 | d + 1, p, out => if p < bits.length then (if hit lens codes bits p < 0 then none else dec lens codes bits d (p + (lens.getD (hit lens codes bits p).toNat 0).toNat) (out ++ [hit lens codes bits p])) else some out
def resD (n : Int) : Option (List Int) → List Int × Bool
 | none => ([], false)
 | some o => if (o.length : Int) = n then (o, true) else ([], false)
theorem or_bitH (n b : Nat) (hn : n < 1152921504606846976) (hb : b < 2) : Go.bits .or .i64 ((2 * n : Nat) : Int) (b : Int) = ((2 * n + b : Nat) : Int) := by
 have e : 2 * n ||| b = 2 * n + b := (Nat.two_pow_add_eq_or_of_lt (i := 1) (by omega) n).symm
 have o : ∀ a : Nat, a < 4611686018427387904 → (BitVec.ofInt 64 (a : Int)).toNat = a := fun a h => by rw [BitVec.ofInt_natCast, BitVec.toNat_ofNat]; exact Nat.mod_eq_of_lt (by omega)
 show IntKind.i64.wrap ((BitVec.ofInt 64 ((2 * n : Nat) : Int) ||| BitVec.ofInt 64 (b : Int)).toNat : Int) = _
 rw [BitVec.toNat_or, o _ (by omega), o _ (by omega), e, i64_w, w64 (by omega) (by omega)]
theorem codes_of {lens codes : List Int} {S : Nat} (h : Inv lens codes 61 0 S ∧ S ≤ 1152921504606846976) (hr : inRange lens = true) : Codes lens codes := by
 refine ⟨h.1.good.1, hr, fun s hs h0 => ?_, fun i j hi hj hne h0 hle => no_prefix h hr i j hi hj hne h0 hle⟩
 obtain ⟨a1, a2⟩ := inRange_get hr s hs
 have hg := h.1.good.2 (codes.getD s 0) (by rw [lget_lt _ _ _ (by have := h.1.good.1; omega)]; exact List.getElem_mem _)
 refine ⟨hg.1, ?_⟩
 have he := h.1.ends s hs ⟨h0, .inl (by omega)⟩
 unfold st wl at he
 obtain ⟨m, hm⟩ : ∃ m : Nat, 60 = m + (lens.getD s 0).toNat := ⟨60 - (lens.getD s 0).toNat, by omega⟩
 have e60 : (1152921504606846976 : Nat) = 2 ^ (lens.getD s 0).toNat * 2 ^ m := by rw [← Nat.pow_add, Nat.add_comm, ← hm]
 rw [show 60 - (lens.getD s 0).toNat = m by omega] at he
 have h2 := Nat.le_trans he h.2
 rw [e60, ← Nat.succ_mul] at h2
 exact Nat.le_of_mul_le_mul_right h2 (Nat.two_pow_pos m)
/-- What the program's table holds behind i symbols. -/
def knL (lens codes : List Int) (i : Nat) : List ((Int × Int) × Int) := ((List.range i).filter fun s => decide (0 < lens.getD s 0)).map fun s => ((codes.getD s 0, lens.getD s 0), (s : Int))
theorem knL_mem {lens codes : List Int} {i : Nat} {e : (Int × Int) × Int} : e ∈ knL lens codes i ↔ ∃ s, s < i ∧ 0 < lens.getD s 0 ∧ e = ((codes.getD s 0, lens.getD s 0), (s : Int)) := by
 unfold knL
 rw [List.mem_map]
 constructor
 ·rintro ⟨s, hs, rfl⟩
  rw [List.mem_filter, List.mem_range, decide_eq_true_eq] at hs
  exact ⟨s, hs.1, hs.2, rfl⟩
 ·rintro ⟨s, h1, h2, rfl⟩
  exact ⟨s, by rw [List.mem_filter, List.mem_range, decide_eq_true_eq]; exact ⟨h1, h2⟩, rfl⟩
theorem knL_succ (lens codes : List Int) (i : Nat) : knL lens codes (i + 1) = knL lens codes i ++ (if 0 < lens.getD i 0 then [((codes.getD i 0, lens.getD i 0), (i : Int))] else []) := by
 unfold knL
 rw [List.range_succ, List.filter_append, List.map_append]
 congr 1
 by_cases c : 0 < lens.getD i 0
 ·rw [List.filter_cons, decide_eq_true c, if_pos rfl, if_pos c]; rfl
 ·rw [List.filter_cons, decide_eq_false c, if_neg (by decide), if_neg c]; rfl
theorem knL_new {lens codes : List Int} (hC : Codes lens codes) {i : Nat} (hi : i < lens.length) (h0 : 0 < lens.getD i 0) : (knL lens codes i).any (fun e => e.1 == (codes.getD i 0, lens.getD i 0)) = false := by
 rw [← Bool.not_eq_true, List.any_eq_true]
 rintro ⟨e, he, hq⟩
 obtain ⟨s, h1, h2, rfl⟩ := knL_mem.1 he
 have hq' := eq_of_beq hq
 injection hq' with e1 e2
 refine hC.2.2.2 s i (by omega) hi (by omega) h2 (by omega) ?_
 rw [← e2, Nat.sub_self, Nat.pow_zero, Nat.div_one, e1]
theorem wf_of {a : Int} (h0 : -9223372036854775808 ≤ a) (h1 : a ≤ 9223372036854775807) : Wd.wf a = true := decide_eq_true ⟨h0, h1⟩
theorem implRead_l0 {lens codes : List Int} (hC : Codes lens codes) (hl : lens.length ≤ 300) (d : Nat) : ∀ i : Nat, i + d = lens.length → Ev (fun k => impl_HuffRead.l0 k codes lens (knL lens codes i) (i : Int)) (knL lens codes lens.length) := by
 have hcl := hC.1
 induction d with
 | zero =>
  intro i h
  obtain rfl : i = lens.length := by omega
  refine Ev.step (f := fun _ => some _) (fun k => ?_) (Ev.now _)
  rw [impl_HuffRead.l0, if_neg (by omega)]
 | succ d ih =>
  intro i h
  have h' := ih (i + 1) (by omega)
  rw [knL_succ] at h'
  by_cases c : 0 < lens.getD i 0
  ·rw [if_pos c] at h'
   have hc1 := (hC.2.2.1 i (by omega) c).1
   have hc2 : codes.getD i 0 ≤ 1152921504606846976 := by
    have := (hC.2.2.1 i (by omega) c).2
    have h60 := (inRange_get hC.2.1 i (by omega)).2
    have := Nat.lt_of_lt_of_le this (Nat.le_trans (Nat.pow_le_pow_right (n := 2) (by decide) (show (lens.getD i 0).toNat ≤ 60 by omega)) (show 2 ^ 60 ≤ 1152921504606846976 by decide))
    omega
   have hc3 := (inRange_get hC.2.1 i (by omega)).2
   refine Ev.step (fun k => ?_) h'
   rw [impl_HuffRead.l0, if_pos (by omega), if_pos (by omega), if_pos (by omega), rd_nat, rd_nat, if_pos c, if_neg (by rw [knL_new hC (by omega) c, wf_of (by omega) (by omega), wf_of (by omega) (by omega)]; decide), w64 (by omega) (by omega)]
   rfl
  ·rw [if_neg c, List.append_nil] at h'
   refine Ev.step (fun k => ?_) h'
   rw [impl_HuffRead.l0, if_pos (by omega), if_pos (by omega), if_pos (by omega), rd_nat, if_neg c, w64 (by omega) (by omega)]
   rfl
theorem dec_end (lens codes bits : List Int) (d : Nat) (out : List Int) : dec lens codes bits d bits.length out = some out := by
 cases d with
 | zero => rw [dec, if_neg (Nat.lt_irrefl _)]
 | succ d => rw [dec, if_neg (Nat.lt_irrefl _)]
theorem dec_none {lens codes bits : List Int} {d p : Nat} {out : List Int} (hp : p < bits.length) (h : ∀ s, s < lens.length → ¬ Mb lens codes bits p s = true) : dec lens codes bits d p out = none := by
 cases d with
 | zero => rw [dec, if_pos hp]
 | succ d => rw [dec, if_pos hp, hit_none h, if_pos (by decide)]
theorem implRead_l1 {lens codes bits : List Int} (hC : Codes lens codes) (h01 : B01 bits) (hbl : bits.length ≤ 100000) (n : Int) (r : Nat) : ∀ (p j d : Nat) (out : List Int), p + j + r = bits.length → bits.length - p ≤ d → j ≤ 60 → out.length ≤ p →
  (∀ s, s < lens.length → (lens.getD s 0).toNat ≤ j → ¬ Mb lens codes bits p s = true) → Ev (fun k => impl_HuffRead.l1 k (knL lens codes lens.length) bits out ((val2 (seg bits p j) : Nat) : Int) (j : Int) ((p + j : Nat) : Int) n) (resD n (dec lens codes bits d p out)) := by
 have hr := hC.2.1
 induction r with
 | zero =>
  intro p j d out h hd hj ho hno
  by_cases c : 0 < j
  ·rw [dec_none (by omega) (fun s hs m => hno s hs (by have := (Mb_iff.1 m).2.1; omega) m)]
   refine Ev.step (f := fun _ => some (resD n none)) (fun k => ?_) (Ev.now _)
   rw [impl_HuffRead.l1, if_neg (by omega), if_pos (by omega)]
   rfl
  ·obtain rfl : j = 0 := by omega
   obtain rfl : p = bits.length := by omega
   rw [dec_end]
   refine Ev.step (f := fun _ => some (resD n (some out))) (fun k => ?_) (Ev.now _)
   rw [impl_HuffRead.l1, if_neg (by omega), if_neg (by omega)]
   show _ = some (if (out.length : Int) = n then (out, true) else ([], false))
   by_cases q : (out.length : Int) = n
   ·rw [if_pos q, if_pos q]
   ·rw [if_neg q, if_neg q]
 | succ r ih =>
  intro p j d out h hd hj ho hno
  obtain ⟨d, rfl⟩ : ∃ m, d = m + 1 := ⟨d - 1, by omega⟩
  have hb : bits.getD (p + j) 0 = 0 ∨ bits.getD (p + j) 0 = 1 := h01 _ (by rw [lget_lt _ _ _ (by omega)]; exact List.getElem_mem _)
  have hseg : val2 (seg bits p (j + 1)) = 2 * val2 (seg bits p j) + (bits.getD (p + j) 0).toNat := by rw [seg_succ (by omega), val2_snoc]
  have hlt : val2 (seg bits p j) < 1152921504606846976 := by
   have := val2_lt (seg bits p j) ((h01.drop _).take _)
   rw [seg_length (by omega)] at this
   exact Nat.lt_of_lt_of_le this (Nat.le_trans (Nat.pow_le_pow_right (by decide) hj) (by decide))
  have hlt2 : val2 (seg bits p (j + 1)) < 4611686018427387904 := by rw [hseg]; omega
  have hval := Aside0.mk (show Go.bits .or .i64 (wrap64 (((val2 (seg bits p j) : Nat) : Int) * 2)) (rd bits ((p + j : Nat) : Int)) = ((val2 (seg bits p (j + 1)) : Nat) : Int) from by
   rw [rd_nat, hseg]
   obtain ⟨b, hbb, hb2⟩ : ∃ b : Nat, bits.getD (p + j) 0 = (b : Int) ∧ b < 2 := by
    rcases hb with e | e
    ·exact ⟨0, e, by decide⟩
    ·exact ⟨1, e, by decide⟩
   rw [hbb, w64 (by omega) (by omega), show ((val2 (seg bits p j) : Nat) : Int) * 2 = ((2 * val2 (seg bits p j) : Nat) : Int) by omega, Int.toNat_natCast]
   exact or_bitH _ b hlt hb2)
  have hw1 := Aside0.mk (show wrap64 ((j : Int) + 1) = ((j + 1 : Nat) : Int) from by rw [w64 (by omega) (by omega)]; omega)
  have hw2 := Aside0.mk (show wrap64 (((p + j : Nat) : Int) + 1) = ((p + (j + 1) : Nat) : Int) from by rw [w64 (by omega) (by omega)]; omega)
  cases hf : (knL lens codes lens.length).find? (fun e => e.1 == (((val2 (seg bits p (j + 1)) : Nat) : Int), ((j + 1 : Nat) : Int))) with
  | some e =>
   have hq := List.find?_some hf
   obtain ⟨s, h1, h2, rfl⟩ := knL_mem.1 (List.mem_of_find?_eq_some hf)
   have hq' := eq_of_beq hq
   injection hq' with e1 e2
   have m : Mb lens codes bits p s = true := Mb_iff.2 ⟨h2, by rw [e2]; omega, by rw [e1, e2, Int.toNat_natCast, Int.toNat_natCast]⟩
   have hh := hit_some hC h01 h1 m
   have hdec : dec lens codes bits (d + 1) p out = dec lens codes bits d (p + (j + 1)) (out ++ [(s : Int)]) := by
    rw [dec, if_pos (by omega), hh, if_neg (by omega), Int.toNat_natCast, e2, Int.toNat_natCast]
   rw [hdec]
   have h' := ih (p + (j + 1)) 0 d (out ++ [(s : Int)]) (by omega) (by omega) (by omega) (by simp; omega) (fun t ht h0 mt => by have := (Mb_iff.1 mt).1; omega)
   have e0 : val2 (seg bits (p + (j + 1)) 0) = 0 := by unfold seg; rw [List.take_zero]; rfl
   rw [e0] at h'
   refine Ev.step (fun k => ?_) h'
   rw [impl_HuffRead.l1, if_pos (by omega), if_pos (by omega), hval.out, hw1.out, if_pos (by rw [wf_of (by omega) (by omega), wf_of (by omega) (by omega)]; rfl), hf]
   dsimp only
   rw [if_pos (by omega), hw2.out]
   rfl
  | none =>
   have hf' := List.find?_eq_none.1 hf
   have hno' : ∀ s, s < lens.length → (lens.getD s 0).toNat ≤ j + 1 → ¬ Mb lens codes bits p s = true := fun s hs hle m => by
    by_cases c : (lens.getD s 0).toNat ≤ j
    ·exact hno s hs c m
    ·obtain ⟨m1, m2, m3⟩ := Mb_iff.1 m
     refine hf' _ (knL_mem.2 ⟨s, hs, m1, rfl⟩) ?_
     have e2 : lens.getD s 0 = ((j + 1 : Nat) : Int) := by omega
     rw [e2, Int.toNat_natCast] at m3
     have := (hC.2.2.1 s hs m1).1
     rw [beq_iff_eq, Prod.mk.injEq]
     exact ⟨by omega, e2⟩
   by_cases c : 60 < j + 1
   ·rw [dec_none (by omega) (fun s hs m => hno' s hs (by have := (inRange_get hr s hs).2; omega) m)]
    refine Ev.step (f := fun _ => some (resD n none)) (fun k => ?_) (Ev.now _)
    rw [impl_HuffRead.l1, if_pos (by omega), if_pos (by omega), hval.out, hw1.out, if_pos (by rw [wf_of (by omega) (by omega), wf_of (by omega) (by omega)]; rfl), hf]
    dsimp only
    rw [if_pos (by omega)]
    rfl
   ·refine Ev.step (fun k => ?_) (ih p (j + 1) (d + 1) out (by omega) hd (by omega) ho hno')
    rw [impl_HuffRead.l1, if_pos (by omega), if_pos (by omega), hval.out, hw1.out, if_pos (by rw [wf_of (by omega) (by omega), wf_of (by omega) (by omega)]; rfl), hf]
    dsimp only
    rw [if_neg (by omega), hw2.out]
theorem codes_both (l : List Int) (ok : okH l = true) : ∃ res, Ev (fun k => spec_HuffCodes.f k l) res ∧ Ev (fun k => impl_huffCodes.f k l) res ∧ Codes l res := by
 obtain ⟨res, a, b, _⟩ := codes_ev l ok
 obtain ⟨res2, S, c, hI⟩ := codes2_ev l ok
 obtain ⟨K1, k1⟩ := ev_out b
 obtain ⟨K2, k2⟩ := ev_out c
 have e : res = res2 := Option.some.inj ((k1 (K1 + K2) (by omega)).symm.trans (k2 (K1 + K2) (by omega)))
 subst e
 exact ⟨res, a, b, codes_of hI (okH_out ok).2.1⟩
def enc (lens codes : List Int) (ss : List Int) : List Int := ss.flatMap (symB lens codes)
theorem goW_out (lens codes : List Int) : ∀ (ss acc bs : List Int), goW lens codes acc ss = some bs → bs = acc ++ enc lens codes ss ∧ ∀ s ∈ ss, 0 ≤ s ∧ s < (lens.length : Int) ∧ lens.getD s.toNat 0 ≠ 0
 | [], acc, bs, h => by
  rw [goW] at h
  by_cases q : 5000 < acc.length
  ·rw [if_pos q] at h; exact absurd h (by simp)
  ·rw [if_neg q] at h
   obtain rfl := Option.some.inj h
   exact ⟨by simp [enc], fun s hs => (by cases hs)⟩
 | s :: ss, acc, bs, h => by
  rw [goW] at h
  by_cases a : s < 0 ∨ (lens.length : Int) ≤ s
  ·rw [if_pos a] at h; exact absurd h (by simp)
  ·rw [if_neg a] at h
   by_cases b : lens.getD s.toNat 0 = 0
   ·rw [if_pos b] at h; exact absurd h (by simp)
   ·rw [if_neg b] at h
    obtain ⟨e, hv⟩ := goW_out lens codes ss _ _ h
    refine ⟨by rw [e, List.append_assoc]; rfl, fun t ht => ?_⟩
    rcases List.mem_cons.1 ht with rfl | ht
    ·exact ⟨by omega, by omega, b⟩
    ·exact hv t ht
theorem dec_enc {lens codes bits : List Int} (hC : Codes lens codes) (h01 : B01 bits) : ∀ (ss : List Int) (d : Nat) (pre out : List Int), bits = pre ++ enc lens codes ss → (∀ s ∈ ss, 0 ≤ s ∧ s < (lens.length : Int) ∧ lens.getD s.toNat 0 ≠ 0) → bits.length - pre.length ≤ d → dec lens codes bits d pre.length out = some (out ++ ss)
 | [], d, pre, out, hb, _, _ => by
  have e : bits = pre := by rw [hb]; simp [enc]
  rw [← e, dec_end, List.append_nil]
 | s :: ss, d, pre, out, hb, hv, hd => by
  obtain ⟨v1, v2, v3⟩ := hv s List.mem_cons_self
  obtain ⟨t, rfl⟩ := Int.eq_ofNat_of_zero_le v1
  rw [Int.toNat_natCast] at v3
  obtain ⟨a1, a2⟩ := inRange_get hC.2.1 t (by omega)
  obtain ⟨q, hq⟩ := Int.eq_ofNat_of_zero_le a1
  have he : enc lens codes ((t : Int) :: ss) = symB lens codes (t : Int) ++ enc lens codes ss := rfl
  have hs : symB lens codes (t : Int) = codeBits (codes.getD t 0).toNat q := by unfold symB; rw [Int.toNat_natCast, hq, Int.toNat_natCast]
  rw [he, hs] at hb
  have hlen : bits.length = pre.length + (q + (enc lens codes ss).length) := by rw [hb, List.length_append, List.length_append, codeBits_length]
  have hseg : seg bits pre.length q = codeBits (codes.getD t 0).toNat q := by
   unfold seg
   rw [hb, List.drop_left, List.take_left' (codeBits_length _ _)]
  have hlt := (hC.2.2.1 t (by omega) (by omega)).2
  rw [hq, Int.toNat_natCast] at hlt
  have m : Mb lens codes bits pre.length t = true := Mb_iff.2 ⟨by omega, by rw [hq, Int.toNat_natCast]; omega, by rw [hq, Int.toNat_natCast, hseg, val2_code, Nat.mod_eq_of_lt hlt]⟩
  have hh := hit_some hC h01 (by omega) m
  obtain ⟨d, rfl⟩ : ∃ m, d = m + 1 := ⟨d - 1, by omega⟩
  have h' := dec_enc hC h01 ss d (pre ++ codeBits (codes.getD t 0).toNat q) (out ++ [(t : Int)]) (by rw [List.append_assoc]; exact hb) (fun s hs => hv s (List.mem_cons_of_mem _ hs)) (by rw [List.length_append, codeBits_length]; omega)
  rw [List.length_append, codeBits_length, List.append_assoc] at h'
  rw [dec, if_pos (by omega), hh, if_neg (by omega), Int.toNat_natCast, hq, Int.toNat_natCast]
  exact h'
theorem enc_len {lens codes : List Int} (hr : inRange lens = true) : ∀ ss : List Int, (∀ s ∈ ss, 0 ≤ s ∧ s < (lens.length : Int) ∧ lens.getD s.toNat 0 ≠ 0) → ((enc lens codes ss).length : Int) = (ss.map fun s => lens.getD s.toNat 0).sum ∧ (ss.length : Int) ≤ ((enc lens codes ss).length : Int)
 | [], _ => by simp [enc]
 | s :: ss, hv => by
  obtain ⟨v1, v2, v3⟩ := hv s List.mem_cons_self
  obtain ⟨a1, a2⟩ := inRange_get hr s.toNat (by omega)
  obtain ⟨e1, e2⟩ := enc_len (codes := codes) hr ss (fun t ht => hv t (List.mem_cons_of_mem _ ht))
  have he : (enc lens codes (s :: ss)).length = (lens.getD s.toNat 0).toNat + (enc lens codes ss).length := by
   show (symB lens codes s ++ enc lens codes ss).length = _
   rw [List.length_append]
   unfold symB
   rw [codeBits_length]
  rw [List.map_cons, List.sum_cons, he, List.length_cons]
  omega
theorem okB_encH (bs : List Int) (h01 : B01 bs) (h5 : bs.length ≤ 5000) : okB (bs.length : Int) (wordsOf bs) = true ∧ bitsL bs.length (wordsOf bs) = bs := by
 have hb : bitsL bs.length (wordsOf bs) = bs := by
  apply ext_getD 0 (bitsL_length _ _)
  intro j hj
  rw [bitsL_length] at hj
  rw [bitsL_get _ _ _ hj, bitAt_words bs (get01 h01) j hj]
 refine ⟨?_, hb⟩
 unfold okB
 apply decide_eq_true
 rw [Int.toNat_natCast]
 refine ⟨by omega, by omega, ?_, by rw [hb]⟩
 unfold wordsOf
 rw [wordsTo_length]
theorem implRead_back {bs list lens codes : List Int} (ok : okH lens = true) (hcod : Ev (fun k => impl_huffCodes.f k lens) codes) (h5 : bs.length ≤ 5000) (hg : goW lens codes [] list = some bs) : Ev (fun k => impl_HuffRead.f k (bs.length : Int) (wordsOf bs) lens (list.length : Int)) (list, true) := by
 obtain ⟨res, _, e2, hC⟩ := codes_both lens ok
 obtain ⟨K1, k1⟩ := ev_out hcod
 obtain ⟨K2, k2⟩ := ev_out e2
 obtain rfl : codes = res := Option.some.inj ((k1 (K1 + K2) (by omega)).symm.trans (k2 (K1 + K2) (by omega)))
 obtain ⟨hbs, hv⟩ := goW_out lens codes list [] bs hg
 rw [List.nil_append] at hbs
 have h01 : B01 bs := fun x hx => by
  rw [hbs] at hx
  obtain ⟨s, _, hs⟩ := List.mem_flatMap.1 hx
  exact codeBits_01 _ _ x hs
 obtain ⟨okb, hback⟩ := okB_encH bs h01 h5
 have hw := words_lt bs (get01 h01)
 have hwl : (wordsOf bs).length = (bs.length + 63) / 64 := by unfold wordsOf; rw [wordsTo_length]
 have i1 := implBitsOk_ev (bs.length : Int) (wordsOf bs) hw (by omega) (by omega)
 obtain ⟨K3, k3⟩ := ev_out (implHuffOk_ev lens)
 obtain ⟨K5, k5⟩ := ev_out (list_ev bs.length (wordsOf bs) hw (by omega) (by omega))
 rw [hback] at k5
 have hll := (okH_out ok).1
 obtain ⟨K9, k9⟩ := ev_out (implRead_l0 hC hll lens.length 0 (by omega))
 obtain ⟨K10, k10⟩ := ev_out (implRead_l1 hC h01 (by omega) (list.length : Int) bs.length 0 0 bs.length [] (by omega) (by omega) (by omega) (Nat.le_refl _) (fun s _ h0 m => by have := (Mb_iff.1 m).1; omega))
 have hd : dec lens codes bs bs.length 0 [] = some list := dec_enc hC h01 list bs.length [] [] hbs hv (by omega)
 have k9' : ∀ k, K9 ≤ k → impl_HuffRead.l0 k codes lens [] 0 = some (knL lens codes lens.length) := k9
 have k10' : ∀ k, K10 ≤ k → impl_HuffRead.l1 k (knL lens codes lens.length) bs [] 0 0 0 (list.length : Int) = some (list, true) := fun k hk => by
  have := k10 k hk
  have e0 : val2 (seg bs 0 0) = 0 := by unfold seg; rw [List.take_zero]; rfl
  rw [e0, hd] at this
  have er : resD (list.length : Int) (some list) = (list, true) := by unfold resD; exact if_pos rfl
  rw [er] at this
  exact this
 refine ev_mk (K1 + K3 + K5 + K9 + K10) fun k hk => ?_
 unfold impl_HuffRead.f impl_HuffRead.g
 rw [i1, Option.bind_some, if_pos okb, k3 _ (by omega), Option.bind_some, if_pos ok, if_neg (by omega), k1 _ (by omega), Option.bind_some, k9' _ (by omega), Option.bind_some, k5 _ (by omega), Option.bind_some]
 exact k10' k (by omega)
theorem syms_j2 {code : List Int} {B t u : Int} (h : Cur code B t u) (hB : B ≤ 800000000) (out : List Int) (ho : out.length ≤ 1000) : ∃ l t' u', (∀ k, spec_l01Cur_symbolsOf.j2 (k + 1) out code t u = some (l, t', u')) ∧ l.length ≤ 1001 := by
 obtain ⟨b, t1, u1, e1, c1⟩ := once_ev h (by omega) 9 (by omega)
 cases b with
 | false => exact ⟨out, t1, u1, fun k => by rw [spec_l01Cur_symbolsOf.j2, e1, Option.bind_some, if_neg Bool.false_ne_true], by omega⟩
 | true =>
  obtain ⟨v2, t2, u2, e2, lo2, hi2, c2⟩ := raw_ev c1 (by omega)
  obtain ⟨v3, t3, u3, e3, a3, b3, _, c3⟩ := pick_ev c2 (by omega) 12 (by omega)
  obtain ⟨v4, t4, u4, e4, a4, b4, _, c4⟩ := pick_ev c3 (by omega) 2 (by omega)
  have b4 := b4 (by omega)
  exact ⟨_, _, _, fun k => by rw [spec_l01Cur_symbolsOf.j2, e1, Option.bind_some, if_pos rfl, e2, Option.bind_some, e3, Option.bind_some, Option.bind_some, e4, Option.bind_some, if_pos a4, if_pos (by simp; omega), if_pos (by omega)], by simp; omega⟩
theorem syms_l1 (used : List Int) (hu : used.length ≤ 1000) (c : Nat) : ∀ {code : List Int} {B t u : Int} (out : List Int), Cur code B t u → B + (c : Int) ≤ 800000000 → out.length + c ≤ 1000 → ∃ l t' u', Ev (fun k => spec_l01Cur_symbolsOf.l1 k used out (c : Int) code t u) (l, t', u') ∧ l.length ≤ 1001 := by
 induction c with
 | zero =>
  intro code B t u out h hB ho
  obtain ⟨l, t', u', e, hl⟩ := syms_j2 h (by omega) out (by omega)
  refine ⟨l, t', u', Ev.step (f := fun k => spec_l01Cur_symbolsOf.j2 k out code t u) (fun k => ?_) (Ev.step (f := fun _ => some (l, t', u')) e (Ev.now _)), hl⟩
  rw [spec_l01Cur_symbolsOf.l1, if_neg (by omega)]
 | succ c ih =>
  intro code B t u out h hB ho
  by_cases g : (used.length : Int) > 0
  ·obtain ⟨v, t1, u1, e1, a1, b1, _, c1⟩ := pick_ev h (by omega) (mn 200 (used.length : Int)) (by unfold mn; split <;> omega)
   have b1 : v < (used.length : Int) := by
    have := b1 (by unfold mn; split <;> omega)
    unfold mn at this
    split at this <;> omega
   obtain ⟨l, t', u', hev, hl⟩ := ih (out ++ [rd used v]) c1 (by omega) (by rw [List.length_append]; show out.length + 1 + c ≤ 1000; omega)
   refine ⟨l, t', u', Ev.step (fun k => ?_) hev, hl⟩
   rw [spec_l01Cur_symbolsOf.l1, if_pos (by omega), if_pos g, e1, Option.bind_some, if_pos a1, if_pos b1, if_pos (by omega), w64 (by omega) (by omega), show ((c + 1 : Nat) : Int) - 1 = (c : Int) by omega]
  ·obtain ⟨l, t', u', e, hl⟩ := syms_j2 h (by omega) out (by omega)
   refine ⟨l, t', u', Ev.step (f := fun k => spec_l01Cur_symbolsOf.j2 k out code t u) (fun k => ?_) (Ev.step (f := fun _ => some (l, t', u')) e (Ev.now _)), hl⟩
   rw [spec_l01Cur_symbolsOf.l1, if_pos (by omega), if_neg g]
theorem syms_l0 (lens : List Int) (hl : lens.length ≤ 300) {code : List Int} {B t u : Int} (h : Cur code B t u) (hB : B ≤ 700000000) (d : Nat) : ∀ (i : Nat) (used : List Int), i + d = lens.length → used.length ≤ i → ∃ l t' u', Ev (fun k => spec_l01Cur_symbolsOf.l0 k lens used (i : Int) code t u) (l, t', u') ∧ l.length ≤ 1001 := by
 induction d with
 | zero =>
  intro i used hi ho
  obtain ⟨v, t1, u1, e1, a1, b1, _, c1⟩ := pick_ev h (by omega) 20 (by omega)
  have b1 := b1 (by omega)
  obtain ⟨c, rfl⟩ := Int.eq_ofNat_of_zero_le a1
  obtain ⟨l, t', u', hev, hlen⟩ := syms_l1 used (by omega) c [] c1 (by omega) (by simp; omega)
  refine ⟨l, t', u', Ev.step (fun k => ?_) hev, hlen⟩
  rw [spec_l01Cur_symbolsOf.l0, if_neg (by omega), e1, Option.bind_some]
 | succ d ih =>
  intro i used hi ho
  by_cases c : lens.getD i 0 > 0
  ·obtain ⟨l, t', u', hev, hlen⟩ := ih (i + 1) (used ++ [(i : Int)]) (by omega) (by rw [List.length_append]; show used.length + 1 ≤ i + 1; omega)
   refine ⟨l, t', u', Ev.step (fun k => ?_) hev, hlen⟩
   rw [spec_l01Cur_symbolsOf.l0, if_pos (by omega), if_pos (by omega), rd_nat, if_pos c, if_pos (by omega), w64 (by omega) (by omega)]
   rfl
  ·obtain ⟨l, t', u', hev, hlen⟩ := ih (i + 1) used (by omega) (by omega)
   refine ⟨l, t', u', Ev.step (fun k => ?_) hev, hlen⟩
   rw [spec_l01Cur_symbolsOf.l0, if_pos (by omega), if_pos (by omega), rd_nat, if_neg c, w64 (by omega) (by omega)]
   rfl
theorem drawWrite_ev {code : List Int} (h1 : ∀ x ∈ code, 0 ≤ x ∧ x ≤ 255) (h2 : code.length ≤ 140737488351232) : ∃ list lens, Ev (fun k => spec_DrawHuffWrite.f k code) (list, lens) ∧ list.length ≤ 1001 := by
 obtain ⟨t, u, e0, c0⟩ := open_ev h1 h2
 obtain ⟨lens, t1, u1, hev, hlen, c1⟩ := lensOf_ev c0 (by omega)
 obtain ⟨list, t2, u2, hev2, hlen2⟩ := syms_l0 lens hlen c1 (by omega) lens.length 0 [] (by omega) (Nat.le_refl _)
 obtain ⟨K1, k1⟩ := ev_out hev
 obtain ⟨K2, k2⟩ := ev_out hev2
 refine ⟨list, lens, ev_mk (K1 + K2) fun k hk => ?_, hlen2⟩
 unfold spec_DrawHuffWrite.f spec_l01Cur_symbolsOf.f
 rw [e0, Option.bind_some]
 dsimp only
 rw [k1 k (by omega), Option.bind_some]
 dsimp only
 have := k2 k (by omega)
 have e : spec_l01Cur_symbolsOf.l0 k lens [] 0 code t1 u1 = some (list, t2, u2) := this
 rw [e, Option.bind_some]
theorem lawSameH_l0 (l : List Int) (hl : l.length ≤ 4000000) (d : Nat) : ∀ i : Nat, i + d = l.length → Ev (fun k => laws_same.l0 k l l (i : Int)) true := by
 induction d with
 | zero =>
  intro i h
  refine Ev.step (f := fun _ => some _) (fun k => ?_) (Ev.now _)
  rw [laws_same.l0, if_neg (by omega)]
 | succ d ih =>
  intro i h
  refine Ev.step (fun k => ?_) (ih (i + 1) (by omega))
  rw [laws_same.l0, if_pos (by omega), if_pos (by omega), if_pos (by omega), if_pos rfl, w64 (by omega) (by omega)]
  rfl
theorem sum_drop (l : List Int) (i : Nat) (h : i < l.length) : (l.drop i).sum = l.getD i 0 + (l.drop (i + 1)).sum := by rw [drop_cons l i h, List.sum_cons]
theorem back_l0 (list lens : List Int) (hr : inRange lens = true) (hl : list.length ≤ 5000) (hv : ∀ s ∈ list, 0 ≤ s ∧ s < (lens.length : Int) ∧ lens.getD s.toNat 0 ≠ 0) (N : Int) (ws : List Int) (hN : N = (list.map fun s => lens.getD s.toNat 0).sum) (d : Nat) : ∀ (i : Nat) (a : Int), i + d = list.length → 0 ≤ a → a ≤ 60 * (i : Int) → a + ((list.map fun s => lens.getD s.toNat 0).drop i).sum = N →
  Ev (fun k => laws_FnHuffBack.l0 k list lens true a (i : Int) list N ws) true := by
 induction d with
 | zero =>
  intro i a h h0 h1 hs
  obtain ⟨K, hK⟩ := ev_out (lawSameH_l0 list (by omega) list.length 0 (by omega))
  have hs' : laws_same.f K list list = some true := by
   unfold laws_same.f
   rw [if_pos rfl]
   exact hK K (Nat.le_refl _)
  have hsame : ∀ k, K ≤ k → laws_same.f k list list = some true := fun k hk => by
   unfold laws_same.f
   rw [if_pos rfl]
   exact hK k hk
  rw [List.drop_eq_nil_of_le (by rw [List.length_map]; omega), List.sum_nil, Int.add_zero] at hs
  refine ev_mk (K + 1) fun k hk => ?_
  obtain ⟨k, rfl⟩ : ∃ m, k = m + 1 := ⟨k - 1, by omega⟩
  rw [laws_FnHuffBack.l0, if_neg (by omega), if_pos rfl, hsame k (by omega), Option.bind_some, if_pos rfl, hs, beq_self_eq_true]
 | succ d ih =>
  intro i a h h0 h1 hs
  have hm : list.getD i 0 ∈ list := by rw [lget_lt _ _ _ (by omega)]; exact List.getElem_mem _
  obtain ⟨v1, v2, v3⟩ := hv _ hm
  have hg : (list.map fun s => lens.getD s.toNat 0).getD i 0 = lens.getD (list.getD i 0).toNat 0 := by
   rw [lget_lt _ i 0 (by rw [List.length_map]; omega), List.getElem_map, lget_lt list i 0 (by omega)]
  rw [sum_drop _ i (by rw [List.length_map]; omega), hg] at hs
  have hrd : rd list (i : Int) = list.getD i 0 := rd_nat list i
  generalize list.getD i 0 = s at hm v1 v2 v3 hs hrd
  obtain ⟨s, rfl⟩ := Int.eq_ofNat_of_zero_le v1
  rw [Int.toNat_natCast] at hs v3
  obtain ⟨a1, a2⟩ := inRange_get hr s (by omega)
  have hls : rd lens (s : Int) = lens.getD s 0 := rd_nat lens s
  generalize lens.getD s 0 = q at hs a1 a2 hls
  refine Ev.step (fun k => ?_) (ih (i + 1) (a + q) (by omega) (by omega) (by omega) (by omega))
  rw [laws_FnHuffBack.l0, if_pos (by omega), if_pos (by omega), hrd, if_pos v1, if_pos v2, hls, w64 (by omega) (by omega), w64 (by omega) (by omega)]
  rfl
theorem FnHuffBack : laws_FnHuffBack.Pure := by
 intro code _ hc hw
 by_cases g : (code.length : Int) > 1048576
 ·exact ⟨0, by unfold laws_FnHuffBack.f laws_big.f; rw [Option.bind_some, if_pos (decide_eq_true g)]⟩
 obtain ⟨list, lens, hd, hlen⟩ := drawWrite_ev (code_wf hw) (by omega)
 obtain ⟨K1, h1⟩ := ev_out hd
 obtain ⟨o, ho, s1, s2⟩ := huffWrite_ev list lens (by omega)
 obtain ⟨K2, h2⟩ := ev_out s1
 obtain ⟨K3, h3⟩ := ev_out s2
 cases o with
 | none =>
  refine ⟨K1 + K2 + K3 + 1, ?_⟩
  unfold laws_FnHuffBack.f laws_big.f
  rw [Option.bind_some, if_neg (by rw [decide_eq_false g]; decide), h1 _ (by omega), Option.bind_some]
  dsimp only
  rw [h2 _ (by omega), Option.bind_some, h3 _ (by omega), Option.bind_some]
  rfl
 | some bs =>
  obtain ⟨h5, ok, codes, hcod, hg⟩ := ho bs rfl
  obtain ⟨K4, h4⟩ := ev_out (implRead_back ok hcod h5 hg)
  obtain ⟨hbs, hv⟩ := goW_out lens codes list [] bs hg
  rw [List.nil_append] at hbs
  have hN := (enc_len (codes := codes) (okH_out ok).2.1 list hv).1
  rw [← hbs] at hN
  obtain ⟨K5, h5'⟩ := ev_out (back_l0 list lens (okH_out ok).2.1 (by omega) hv (bs.length : Int) (wordsOf bs) hN list.length 0 0 (by omega) (Int.le_refl _) (by omega) (by rw [List.drop_zero, ← hN]; omega))
  refine ⟨K1 + K2 + K3 + K4 + K5 + 1, ?_⟩
  have e3 := h3 (K1 + K2 + K3 + K4 + K5 + 1) (by omega)
  have e2 := h2 (K1 + K2 + K3 + K4 + K5 + 1) (by omega)
  unfold resW at e3 e2
  unfold laws_FnHuffBack.f laws_big.f
  rw [Option.bind_some, if_neg (by rw [decide_eq_false g]; decide), h1 _ (by omega), Option.bind_some]
  dsimp only
  rw [e2, Option.bind_some, e3, Option.bind_some]
  dsimp only
  rw [if_neg (by decide), show (!true) = false from rfl, laws_FnHuffBack.j0, if_neg (by decide), h4 _ (by omega), Option.bind_some]
  exact h5' _ (by omega)

end Go.Proofs.Ytgjmmegmkdklbaa.Pure
