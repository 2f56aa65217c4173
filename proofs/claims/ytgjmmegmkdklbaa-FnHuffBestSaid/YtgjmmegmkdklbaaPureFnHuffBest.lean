/- For drawn counts: the program's HuffLens is the reference's, and no drawn valid lengths (nor the stair's) have a smaller size. -/
import Derived.Test.YtgjmmegmkdklbaaQFnHuffBestx7
import Derived.Test.YtgjmmegmkdklbaaBase
import Derived.Test.YtgjmmegmkdklbaaBits
import Derived.Test.YtgjmmegmkdklbaaHuff
import Derived.Test.YtgjmmegmkdklbaaBest
namespace Go.Proofs.Ytgjmmegmkdklbaa.Pure
open Go.RowKit Go.Proofs.Ytgjmmegmkdklbaa.QFnHuffBest Go.Proofs.YtgjmmegmkdklbaaW.PrintWords Go.Proofs.YtgjmmegmkdklbaaW.PrintLast Go.Proofs.YtgjmmegmkdklbaaW.PrintMore
open Go.Proofs.Ytgjmmegmkdklbaa Go.Proofs.Ytgjmmegmkdklbaa.Base Go.Proofs.Ytgjmmegmkdklbaa.Bits Go.Proofs.Ytgjmmegmkdklbaa.Huff Go.Proofs.Ytgjmmegmkdklbaa.Best
set_option linter.unusedVariables false
set_option linter.unusedSimpArgs false

/-- A cursor over code: what is kept of it. 'B': how far it may have gone. -/
def Cur (code : List Int) (B : Int) (t u : Int) : Prop := (∀ x ∈ code, 0 ≤ x ∧ x ≤ 255) ∧ code.length ≤ 140737488351232 ∧ 0 ≤ t ∧ t ≤ B ∧ 0 ≤ u ∧ u ≤ 66600
theorem Cur.more {code : List Int} {B B' t u : Int} (h : Cur code B t u) (hB : B ≤ B') : Cur code B' t u := ⟨h.1, h.2.1, h.2.2.1, by have := h.2.2.2.1; omega, h.2.2.2.2⟩
theorem rd_code {code : List Int} (h : ∀ x ∈ code, 0 ≤ x ∧ x ≤ 255) (i : Int) : 0 ≤ rd code i ∧ rd code i ≤ 255 := by
 unfold rd
 rw [List.getD_eq_getElem?_getD]
 cases hq : code[i.toNat]? with
 | none => exact ⟨by show (0 : Int) ≤ 0; omega, by show (0 : Int) ≤ 255; omega⟩
 | some x => exact h x (List.mem_of_getElem? hq)
theorem pick_ev {code : List Int} {B t u : Int} (h : Cur code B t u) (hB : B ≤ 1000000000) (n : Int) (hn : n ≤ 1000000000000) :
  ∃ v t' u', spec_l01Cur_pick.f code t u n = some (v, t', u') ∧ 0 ≤ v ∧ (1 ≤ n → v < n) ∧ (n < 2 → v = 0) ∧ Cur code (B + 1) t' u' := by
 obtain ⟨h1, h2, h3, h4, h5, h6⟩ := h
 unfold spec_l01Cur_pick.f
 by_cases c0 : n < 2
 ·exact ⟨0, t, u, if_pos c0, by omega, fun _ => by omega, fun _ => rfl, h1, h2, h3, by omega, h5, h6⟩
 ·have npos : 0 < n := by omega
  have wt : wrap64 (t + 1) = t + 1 := w64 (by omega) (by omega)
  rw [if_neg c0]
  by_cases c1 : t < (code.length : Int)
  ·obtain ⟨r0, r1⟩ := rd_code h1 t
   refine ⟨Int.tmod (rd code t) n, t + 1, u, by rw [if_pos c1, if_pos h3, if_neg (by omega), w64 (by omega) (by omega), wt], Int.tmod_nonneg _ r0, fun _ => Int.tmod_lt_of_pos _ npos, fun hn2 => absurd hn2 c0, h1, h2, by omega, by omega, h5, h6⟩
  ·have w1 : wrap64 (u * 1103) = u * 1103 := w64 (by omega) (by omega)
   have w2 : wrap64 (u * 1103 + 12345) = u * 1103 + 12345 := w64 (by omega) (by omega)
   have s0 : 0 ≤ Int.tmod (u * 1103 + 12345) 65521 := Int.tmod_nonneg _ (by omega)
   have s1 : Int.tmod (u * 1103 + 12345) 65521 < 65521 := Int.tmod_lt_of_pos _ (by omega)
   by_cases c2 : (code.length : Int) > 0
   ·have i0 : 0 ≤ Int.tmod t (code.length : Int) := Int.tmod_nonneg _ h3
    have i1 : Int.tmod t (code.length : Int) < (code.length : Int) := Int.tmod_lt_of_pos _ c2
    obtain ⟨r0, r1⟩ := rd_code h1 (Int.tmod t (code.length : Int))
    have d0 : 0 ≤ Int.tdiv (Int.tmod (u * 1103 + 12345) 65521) 7 := Int.tdiv_nonneg s0 (by omega)
    have d1 : Int.tdiv (Int.tmod (u * 1103 + 12345) 65521) 7 ≤ 65521 := by
     have := Int.tdiv_le_self 7 s0
     omega
    refine ⟨Int.tmod (Int.tdiv (Int.tmod (u * 1103 + 12345) 65521) 7 + rd code (Int.tmod t (code.length : Int))) n, t + 1, Int.tmod (u * 1103 + 12345) 65521, ?_, Int.tmod_nonneg _ (by omega), fun _ => Int.tmod_lt_of_pos _ npos, fun hn2 => absurd hn2 c0, h1, h2, by omega, by omega, s0, by omega⟩
    rw [if_neg c1, if_pos c2, if_neg (by omega), if_pos i0, if_pos i1, if_neg (by omega), w1, w2, wt, w64 (x := Int.tdiv (Int.tmod (u * 1103 + 12345) 65521) 7) (by omega) (by omega), w64 (x := rd code (Int.tmod t (code.length : Int))) (by omega) (by omega), w64 (by omega) (by omega)]
   ·refine ⟨(0 : Int) % n, t + 1, Int.tmod (u * 1103 + 12345) 65521, by rw [if_neg c1, if_neg c2, if_neg (by omega), w1, w2, wt], Int.emod_nonneg _ (by omega), fun _ => Int.emod_lt_of_pos _ npos, fun hn2 => absurd hn2 c0, h1, h2, by omega, by omega, s0, by omega⟩
theorem open_ev {code : List Int} (h1 : ∀ x ∈ code, 0 ≤ x ∧ x ≤ 255) (h2 : code.length ≤ 140737488351232) : ∃ t u, spec_l01Open.f code = some (code, t, u) ∧ Cur code 0 t u := by
 refine ⟨0, 89 + ((code.length : Int) % 1000), rfl, h1, h2, by omega, by omega, ?_, ?_⟩
 ·have := Int.emod_nonneg (code.length : Int) (show (1000 : Int) ≠ 0 by omega); omega
 ·have := Int.emod_lt_of_pos (code.length : Int) (show (0 : Int) < 1000 by omega); omega
theorem code_wf {code : List Int} (h : ∀ x ∈ code, (Lit.int .u8 x).wf = true) : ∀ x ∈ code, 0 ≤ x ∧ x ≤ 255 := fun x hx => by
 have := h x hx
 simp only [Lit.wf, IntKind.min, IntKind.max, IntKind.signed, IntKind.bits, Bool.and_eq_true, decide_eq_true_eq] at this
 simpa using this
theorem size_ev {code : List Int} {B t u : Int} (h : Cur code B t u) (hB : B ≤ 1000000000) (n : Int) (h0 : 0 ≤ n) (hn : n ≤ 1000000) :
  ∃ v t' u', spec_l01Cur_size.f code t u n = some (v, t', u') ∧ 0 ≤ v ∧ v ≤ n ∧ Cur code (B + 1) t' u' := by
 have hl := h.2.1
 unfold spec_l01Cur_size.f
 have w1 : wrap64 ((code.length : Int) / 8) = (code.length : Int) / 8 := w64 (by omega) (by omega)
 have w2 : wrap64 (1 + (code.length : Int) / 8) = 1 + (code.length : Int) / 8 := w64 (by omega) (by omega)
 have m1 : mn n (1 + (code.length : Int) / 8) ≤ n ∧ 0 ≤ mn n (1 + (code.length : Int) / 8) := by unfold mn; split <;> omega
 rw [w1, w2, w64 (x := mn n (1 + (code.length : Int) / 8) + 1) (by omega) (by omega)]
 obtain ⟨v, t', u', e, v0, v1, _, hc⟩ := pick_ev h hB (mn n (1 + (code.length : Int) / 8) + 1) (by omega)
 refine ⟨v, t', u', ?_, v0, ?_, hc⟩
 ·rw [e, Option.bind_some]
 ·have := v1 (by omega); omega
theorem wide_ev {code : List Int} {B t u : Int} (h : Cur code B t u) (hB : B ≤ 900000000) (n : Int) (h0 : 1 ≤ n) (hn : n ≤ 1000000000000) :
  ∃ v t' u', spec_l01Cur_wide.f code t u n = some (v, t', u') ∧ 0 ≤ v ∧ v < n ∧ Cur code (B + 3) t' u' := by
 obtain ⟨v1, t1, u1, e1, a1, b1, _, c1⟩ := pick_ev h (by omega) 256 (by omega)
 obtain ⟨v2, t2, u2, e2, a2, b2, _, c2⟩ := pick_ev c1 (by omega) 256 (by omega)
 obtain ⟨v3, t3, u3, e3, a3, b3, _, c3⟩ := pick_ev c2 (by omega) 256 (by omega)
 have b1 := b1 (by omega)
 have b2 := b2 (by omega)
 have b3 := b3 (by omega)
 refine ⟨Int.tmod (65536 * v1 + 256 * v2 + v3) n, t3, u3, ?_, Int.tmod_nonneg _ (by omega), Int.tmod_lt_of_pos _ (by omega), c3.more (by omega)⟩
 unfold spec_l01Cur_wide.f
 rw [e1, Option.bind_some, e2, Option.bind_some, e3, Option.bind_some, if_neg (by omega), w64 (x := 65536 * v1) (by omega) (by omega), w64 (x := 256 * v2) (by omega) (by omega), w64 (x := 65536 * v1 + 256 * v2) (by omega) (by omega), w64 (by omega) (by omega)]
theorem raw_ev {code : List Int} {B t u : Int} (h : Cur code B t u) (hB : B ≤ 900000000) :
  ∃ v t' u', spec_l01Cur_raw.f code t u = some (v, t', u') ∧ -9223372036854775808 ≤ v ∧ v ≤ 9223372036854775807 ∧ Cur code (B + 2) t' u' := by
 obtain ⟨v1, t1, u1, e1, a1, b1, _, c1⟩ := pick_ev h (by omega) 8 (by omega)
 have b1 := b1 (by omega)
 unfold spec_l01Cur_raw.f
 rw [e1, Option.bind_some]
 by_cases g0 : v1 = 0
 ·obtain ⟨v2, t2, u2, e2, a2, b2, _, c2⟩ := pick_ev c1 (by omega) 256 (by omega)
  have b2 := b2 (by omega)
  exact ⟨v2 - 128, t2, u2, by rw [if_pos g0, e2, Option.bind_some, w64 (by omega) (by omega)], by omega, by omega, c2.more (by omega)⟩
 ·by_cases g1 : v1 = 1
  ·obtain ⟨v2, t2, u2, e2, a2, b2, _, c2⟩ := pick_ev c1 (by omega) 8 (by omega)
   have b2 := b2 (by omega)
   obtain ⟨j, rfl⟩ := Int.eq_ofNat_of_zero_le a2
   have hin : ∀ x ∈ ([9223372036854775807, (-9223372036854775808), 4611686018427387904, 4294967295, 4294967296, (-1000), 1000, 257] : List Int), -9223372036854775808 ≤ x ∧ x ≤ 9223372036854775807 := by
    intro x hx
    simp at hx
    omega
   have hr := hin (rd [9223372036854775807, (-9223372036854775808), 4611686018427387904, 4294967295, 4294967296, (-1000), 1000, 257] (j : Int)) (by
    rw [rd_nat, lget_lt _ j 0 (by simp; omega)]
    exact List.getElem_mem _)
   exact ⟨_, t2, u2, by rw [if_neg g0, if_pos g1, Option.bind_some, e2, Option.bind_some, if_pos (by omega), if_pos (by simp; omega)], hr.1, hr.2, c2.more (by omega)⟩
  ·obtain ⟨v2, t2, u2, e2, a2, b2, _, c2⟩ := pick_ev c1 (by omega) 14 (by omega)
   have b2 := b2 (by omega)
   exact ⟨v2 - 3, t2, u2, by rw [if_neg g0, if_neg g1, e2, Option.bind_some, w64 (by omega) (by omega)], by omega, by omega, c2.more (by omega)⟩
theorem once_ev {code : List Int} {B t u : Int} (h : Cur code B t u) (hB : B ≤ 1000000000) (n : Int) (hn : n ≤ 1000000000000) :
  ∃ b t' u', spec_l01Cur_once.f code t u n = some (b, t', u') ∧ Cur code (B + 1) t' u' := by
 obtain ⟨v, t', u', e, _, _, _, hc⟩ := pick_ev h hB n hn
 refine ⟨(v == wrap64 (n - 1)), t', u', ?_, hc⟩
 unfold spec_l01Cur_once.f
 rw [e, Option.bind_some]
theorem winc (y : Nat) (h : y ≤ 1000000000) : wrap64 ((y : Int) + 1) = ((y + 1 : Nat) : Int) := w64 (by omega) (by omega)
theorem wadd (a b : Nat) (h : a + b ≤ 9223372036854775807) : wrap64 ((a : Int) + (b : Int)) = ((a + b : Nat) : Int) := w64 (by omega) (by omega)
theorem wnat (a : Nat) (h : a ≤ 9223372036854775807) : wrap64 (a : Int) = (a : Int) := w64 (by omega) (by omega)
theorem wsub60 (x : Int) (h0 : 0 ≤ x) (h1 : x ≤ 60) : wrap64 (60 - x) = ((60 - x.toNat : Nat) : Int) := by
 rw [show 60 - x = ((60 - x.toNat : Nat) : Int) by omega]
 exact w64 (by omega) (by omega)
def okH (l : List Int) : Bool := decide (l.length ≤ 300) && okFrom 0 0 0 l
theorem l02Pow_l0 (m : Nat) : ∀ (a : Nat), a * 2 ^ m < 9223372036854775808 → m ≤ 64 → Ev (fun k => spec_l02Pow.l0 k (m : Int) (a : Int)) ((a * 2 ^ m : Nat) : Int) := by
 induction m with
 | zero =>
  intro a h hm
  refine Ev.step (f := fun _ => some _) (fun k => ?_) (Ev.now _)
  rw [spec_l02Pow.l0, if_neg (by omega), Nat.pow_zero, Nat.mul_one]
 | succ m ih =>
  intro a h hm
  have hp : 0 < 2 ^ m := Nat.two_pow_pos m
  have e : a * 2 ^ (m + 1) = (2 * a) * 2 ^ m := by rw [Nat.pow_succ, Nat.mul_comm (2 ^ m) 2, ← Nat.mul_assoc, Nat.mul_comm a 2]
  rw [e] at h ⊢
  have : 2 * a ≤ (2 * a) * 2 ^ m := Nat.le_mul_of_pos_right _ hp
  refine Ev.step (f := fun k => spec_l02Pow.l0 k (m : Int) ((2 * a : Nat) : Int)) (fun k => ?_) (ih (2 * a) h (by omega))
  rw [spec_l02Pow.l0, if_pos (by omega), w64 (by omega) (by omega), w64 (by omega) (by omega), show ((m + 1 : Nat) : Int) - 1 = (m : Int) by omega]
  rfl
theorem pow62 (m : Nat) (h : m ≤ 62) : 2 ^ m ≤ 4611686018427387904 := Nat.le_trans (Nat.pow_le_pow_right (show 0 < 2 by decide) h) (by decide)
theorem l02Pow_ev (m : Nat) (h : m ≤ 62) : Ev (fun k => spec_l02Pow.f k (m : Int)) ((2 ^ m : Nat) : Int) := by
 have hp := pow62 m h
 have := l02Pow_l0 m 1 (by omega) (by omega)
 rw [Nat.one_mul] at this
 exact this
theorem drop_cons (l : List Int) (i : Nat) (h : i < l.length) : l.drop i = l.getD i 0 :: l.drop (i + 1) := by
 rw [List.drop_eq_getElem_cons h, lget_lt _ _ _ h]
theorem specOk_l0 (l : List Int) (hl : l.length ≤ 300) (d : Nat) : ∀ (i c S : Nat) (last : Int), i + d = l.length → c ≤ i → S ≤ 1152921504606846976 →
  Ev (fun k => spec_HuffOk.l0 k l (c : Int) (S : Int) last (i : Int)) (okFrom c S last (l.drop i)) := by
 obtain ⟨K0, k0⟩ := ev_out (l02Pow_ev 60 (by decide))
 have p60 : (((2 ^ 60 : Nat) : Int)) = 1152921504606846976 := by decide
 rw [p60] at k0
 induction d with
 | zero =>
  intro i c S last hi hc hS
  refine ev_mk (K0 + 1) fun k hk => ?_
  obtain ⟨k, rfl⟩ : ∃ m, k = m + 1 := ⟨k - 1, by omega⟩
  have hd : l.drop i = [] := List.drop_eq_nil_of_le (by omega)
  have hk0 : spec_l02Pow.f k 60 = some 1152921504606846976 := k0 k (by omega)
  have hb : ((S : Int) == (1152921504606846976 : Int)) = decide (S = 1152921504606846976) := by
   rw [Bool.eq_iff_iff, beq_iff_eq, decide_eq_true_iff]
   omega
  rw [spec_HuffOk.l0, if_neg (by omega), hd, okFrom, hk0, Option.bind_some, hb]
  by_cases q : c = 1
  ·rw [if_pos (by omega), if_pos q]
   by_cases z : last = 1
   ·rw [if_pos z, decide_eq_true z, Bool.true_or]
   ·rw [if_neg z, decide_eq_false z, Bool.false_or]
  ·rw [if_neg (by omega), if_neg q]
 | succ d ih =>
  intro i c S last hi hc hS
  have hg : rd l (i : Int) = l.getD i 0 := rd_nat l i
  rw [drop_cons l i (by omega), okFrom]
  generalize hx : l.getD i 0 = x at hg ⊢
  have bad : ∀ k, spec_HuffOk.j1 (k + 1) l (c : Int) (S : Int) last (i : Int) true = some false := by
   intro k
   rw [spec_HuffOk.j1, if_pos rfl]
  by_cases r : x < 0 ∨ 60 < x
  ·rw [if_pos r]
   refine ev_mk 2 fun k hk => ?_
   obtain ⟨k, rfl⟩ : ∃ m, k = m + 2 := ⟨k - 2, by omega⟩
   rw [spec_HuffOk.l0, if_pos (by omega), if_pos (by omega), hg]
   by_cases n : x < 0
   ·rw [if_pos n]; exact bad k
   ·rw [if_neg n, decide_eq_true (by omega)]; exact bad k
  ·rw [if_neg r]
   have hi3 : i ≤ 300 := by omega
   have go : ∀ k, spec_HuffOk.l0 (k + 1) l (c : Int) (S : Int) last (i : Int) = spec_HuffOk.j1 k l (c : Int) (S : Int) last (i : Int) false := by
    intro k
    rw [spec_HuffOk.l0, if_pos (by omega), if_pos (by omega), hg, if_neg (by omega), decide_eq_false (by omega)]
   by_cases q : 0 < x
   ·rw [if_pos q]
    have hw := wt_le x q
    obtain ⟨K1, k1⟩ := ev_out (l02Pow_ev (60 - x.toNat) (by omega))
    have hx0 : 0 ≤ x := by omega
    have hx6 : x ≤ 60 := by omega
    have hsw : S + wt x ≤ 9223372036854775807 := by omega
    have hci : c ≤ 1000 := by omega
    have ept : ((2 ^ (60 - x.toNat) : Nat) : Int) = ((wt x : Nat) : Int) := rfl
    by_cases o : 1152921504606846976 < S + wt x
    ·rw [if_pos o]
     refine ev_mk (K0 + K1 + 2) fun k hk => ?_
     obtain ⟨k, rfl⟩ : ∃ m, k = m + 2 := ⟨k - 2, by omega⟩
     rw [go, spec_HuffOk.j1, if_neg (by decide), if_pos (by omega), if_pos (by omega), hg, if_pos q, wsub60 x hx0 hx6, k1 k (by omega), Option.bind_some, ept]
     have hk0 : spec_l02Pow.f k 60 = some 1152921504606846976 := k0 k (by omega)
     rw [hk0, Option.bind_some, wadd S (wt x) hsw, if_pos (by omega)]
    ·rw [if_neg o]
     obtain ⟨K2, k2⟩ := ev_out (ih (i + 1) (c + 1) (S + wt x) x (by omega) (by omega) (by omega))
     refine ev_mk (K0 + K1 + K2 + 2) fun k hk => ?_
     obtain ⟨k, rfl⟩ : ∃ m, k = m + 2 := ⟨k - 2, by omega⟩
     rw [go, spec_HuffOk.j1, if_neg (by decide), if_pos (by omega), if_pos (by omega), hg, if_pos q, wsub60 x hx0 hx6, k1 k (by omega), Option.bind_some, ept]
     have hk0 : spec_l02Pow.f k 60 = some 1152921504606846976 := k0 k (by omega)
     rw [hk0, Option.bind_some, wadd S (wt x) hsw, if_neg (by omega), winc i (by omega), winc c (by omega)]
     exact k2 k (by omega)
   ·rw [if_neg q]
    obtain ⟨K2, k2⟩ := ev_out (ih (i + 1) c S last (by omega) (by omega) (by omega))
    refine ev_mk (K2 + 2) fun k hk => ?_
    obtain ⟨k, rfl⟩ : ∃ m, k = m + 2 := ⟨k - 2, by omega⟩
    rw [go, spec_HuffOk.j1, if_neg (by decide), if_pos (by omega), if_pos (by omega), hg, if_neg q, winc i (by omega)]
    exact k2 k (by omega)
theorem specHuffOk_ev (l : List Int) : Ev (fun k => spec_HuffOk.f k l) (okH l) := by
 by_cases h : (l.length : Int) > 300
 ·refine Ev.congr (f := fun _ => some false) (fun k => ?_) ?_
  ·unfold spec_HuffOk.f
   rw [if_pos h]
  ·rw [okH, decide_eq_false (by omega), Bool.false_and]
   exact Ev.now _
 ·refine Ev.congr (fun k => ?_) ?_ (f := fun k => spec_HuffOk.l0 k l ((0 : Nat) : Int) ((0 : Nat) : Int) 0 ((0 : Nat) : Int))
  ·unfold spec_HuffOk.f
   rw [if_neg h]
   rfl
  ·rw [okH, decide_eq_true (by omega), Bool.true_and]
   exact specOk_l0 l (by omega) l.length 0 0 0 0 (by omega) (by omega) (by omega)
theorem shl_nat (a m : Nat) (h : m ≤ 62) : shl .i64 (a : Int) (m : Int) = wrap64 ((a * 2 ^ m : Nat) : Int) := by
 unfold shl
 rw [Int.toNat_natCast, show min m IntKind.i64.bits = m by show min m 64 = m; omega, i64_w]
 simp
theorem max_l0 (l : List Int) (hl : l.length ≤ 1000000) (d : Nat) : ∀ (i : Nat) (m : Int), i + d = l.length → m ∈ l → (∀ j, j < i → l.getD j 0 ≤ m) → ∃ r, Ev (fun k => slices_Max_int_int.l0 k l m (i : Int)) r ∧ r ∈ l ∧ ∀ j, j < l.length → l.getD j 0 ≤ r := by
 induction d with
 | zero =>
  intro i m hi hm hj
  refine ⟨m, Ev.step (f := fun _ => some _) (fun k => ?_) (Ev.now _), hm, fun j h => hj j (by omega)⟩
  rw [slices_Max_int_int.l0, if_neg (by omega)]
 | succ d ih =>
  intro i m hi hm hj
  have hmem : l.getD i 0 ∈ l := by rw [lget_lt _ _ _ (by omega)]; exact List.getElem_mem _
  have hmx : mx m (l.getD i 0) ∈ l ∧ m ≤ mx m (l.getD i 0) ∧ l.getD i 0 ≤ mx m (l.getD i 0) := by
   unfold mx
   split
   ·refine ⟨by first | exact hm | exact hmem, ?_, ?_⟩ <;> omega
   ·refine ⟨by first | exact hm | exact hmem, ?_, ?_⟩ <;> omega
  obtain ⟨r, hr, h2, h3⟩ := ih (i + 1) (mx m (l.getD i 0)) (by omega) hmx.1 (fun j h => by
   by_cases q : j = i
   ·rw [q]; exact hmx.2.2
   ·exact Int.le_trans (hj j (by omega)) hmx.2.1)
  refine ⟨r, Ev.step (fun k => ?_) hr, h2, h3⟩
  rw [slices_Max_int_int.l0, if_pos (by omega), if_pos (by omega), rd_nat, w64 (by omega) (by omega)]
  rfl
theorem max_ev (l : List Int) (hl : l.length ≤ 1000000) (h0 : 1 ≤ l.length) : ∃ r, Ev (fun k => slices_Max_int_int.f k l) r ∧ r ∈ l ∧ ∀ x ∈ l, x ≤ r := by
 have hmem : l.getD 0 0 ∈ l := by rw [lget_lt _ _ _ (by omega)]; exact List.getElem_mem _
 obtain ⟨r, hr, h2, h3⟩ := max_l0 l hl (l.length - 1) 1 (l.getD 0 0) (by omega) hmem (fun j h => by rw [show j = 0 by omega]; exact Int.le_refl _)
 refine ⟨r, Ev.congr (fun k => ?_) hr, h2, fun x hx => ?_⟩
 ·unfold slices_Max_int_int.f
  rw [if_neg (by omega), if_pos (by omega), show rd l 0 = l.getD 0 0 from rd_nat l 0]
  rfl
 ·obtain ⟨j, hj, e⟩ := List.getElem_of_mem hx
  have := h3 j hj
  rw [lget_lt _ _ _ hj, e] at this
  exact this
def fin (m : Int) (p : Nat × Nat) : Bool := if p.2 = 1152921504606846976 then true else if p.1 = 1 then m == 1 else false
theorem inRange_get {l : List Int} (h : inRange l = true) (i : Nat) (hi : i < l.length) : 0 ≤ l.getD i 0 ∧ l.getD i 0 ≤ 60 := by
 rw [lget_lt _ _ _ hi]
 have := List.all_eq_true.1 h _ (List.getElem_mem hi)
 exact of_decide_eq_true this
theorem implOk_l0 (l : List Int) (hl : l.length ≤ 300) (hr : inRange l = true) (m : Int) (hm : 1 ≤ l.length → Ev (fun k => slices_Max_int_int.f k l) m) (d : Nat) : ∀ (i c S : Nat), i + d = l.length → c ≤ i → S ≤ 1152921504606846977 →
  Ev (fun k => impl_HuffOk.l0 k l (c : Int) (S : Int) l (l.length : Int) (i : Int)) (fin m (okSat c S (l.drop i))) := by
 induction d with
 | zero =>
  intro i c S hi hc hS
  have hd : l.drop i = [] := List.drop_eq_nil_of_le (by omega)
  rw [hd, okSat, fin]
  by_cases q : S = 1152921504606846976
  ·rw [if_pos q]
   refine Ev.step (f := fun _ => some _) (fun k => ?_) (Ev.now _)
   rw [impl_HuffOk.l0, if_neg (by omega), if_pos (by omega)]
  ·rw [if_neg q]
   by_cases z : c = 1
   ·rw [if_pos z]
    obtain ⟨K, hK⟩ := ev_out (hm (by omega))
    refine ev_mk (K + 1) fun k hk => ?_
    obtain ⟨k, rfl⟩ : ∃ m, k = m + 1 := ⟨k - 1, by omega⟩
    rw [impl_HuffOk.l0, if_neg (by omega), if_neg (by omega), if_pos (by omega), hK k (by omega), Option.bind_some]
   ·rw [if_neg z]
    refine Ev.step (f := fun _ => some _) (fun k => ?_) (Ev.now _)
    rw [impl_HuffOk.l0, if_neg (by omega), if_neg (by omega), if_neg (by omega)]
 | succ d ih =>
  intro i c S hi hc hS
  have hg : rd l (i : Int) = l.getD i 0 := rd_nat l i
  have hx := inRange_get hr i (by omega)
  rw [drop_cons l i (by omega), okSat]
  generalize l.getD i 0 = x at hg hx ⊢
  by_cases q : 0 < x
  ·rw [if_pos q]
   have hw := wt_le x q
   have hsw : S + wt x ≤ 9223372036854775807 := by omega
   have es : shl .i64 1 ((60 - x.toNat : Nat) : Int) = ((wt x : Nat) : Int) := by
    have this := shl_nat 1 (60 - x.toNat) (by omega)
    rw [Nat.one_mul] at this
    refine Eq.trans this ?_
    show wrap64 ((wt x : Nat) : Int) = _
    exact wnat _ (by clear this; omega)
   have em : mn ((S + wt x : Nat) : Int) 1152921504606846977 = ((min (S + wt x) 1152921504606846977 : Nat) : Int) := by
    clear es
    unfold mn
    split <;> omega
   refine Ev.step (fun k => ?_) (ih (i + 1) (c + 1) (min (S + wt x) 1152921504606846977) (by clear es em; omega) (by clear es em; omega) (by clear es em; omega))
   rw [impl_HuffOk.l0, if_pos (by clear es em; omega), if_pos (by clear es em; omega), if_pos (by clear es em; omega), hg, if_pos q, wsub60 x hx.1 hx.2, if_pos (Int.natCast_nonneg _), es, wadd S (wt x) hsw, em, winc i (by clear es em; omega), winc c (by clear es em; omega)]
  ·rw [if_neg q]
   refine Ev.step (fun k => ?_) (ih (i + 1) c S (by omega) (by omega) hS)
   rw [impl_HuffOk.l0, if_pos (by omega), if_pos (by omega), if_pos (by omega), hg, if_neg q, winc i (by omega)]
theorem implHuffOk_ev (l : List Int) : Ev (fun k => impl_HuffOk.f k l) (okH l) := by
 have bad : okH l = false → Ev (fun k => impl_HuffOk.j0 k l true) (okH l) := by
  intro h
  refine Ev.step (f := fun _ => some _) (fun k => ?_) (Ev.now _)
  rw [impl_HuffOk.j0, if_pos rfl, h]
 by_cases h : (l.length : Int) > 300
 ·refine Ev.congr (fun k => ?_) (bad (by rw [okH, decide_eq_false (by omega), Bool.false_and]))
  unfold impl_HuffOk.f
  rw [if_pos h]
 have hall : l.all Fv.p67 = inRange l := rfl
 have hml : l.length ≤ maxLen := by unfold maxLen; omega
 have hok : okH l = (inRange l && (decide (kraft l = 1152921504606846976) || (decide (npos l = 1) && decide (lastp 0 l = 1)))) := by
  rw [okH, decide_eq_true (by omega), Bool.true_and, okFrom_eq l 0 0 0 (by omega) (fun _ => rfl), Nat.zero_add, Nat.zero_add]
 by_cases r : inRange l = true
 case neg =>
  have r' : inRange l = false := by simpa using r
  refine Ev.congr (fun k => ?_) (bad (by rw [hok, r', Bool.false_and]))
  unfold impl_HuffOk.f impl_areAll_67.f
  rw [if_neg h, if_pos hml, Option.bind_some, hall, r']
  rfl
 have key : ∃ m, (1 ≤ l.length → Ev (fun k => slices_Max_int_int.f k l) m) ∧ fin m (okSat 0 0 l) = okH l := by
  have hs := okSat_eq l 0 0 (by omega)
  rw [Nat.zero_add, Nat.zero_add] at hs
  rw [hs, hok, r, Bool.true_and]
  by_cases z : 1 ≤ l.length
  ·obtain ⟨m, h1, h2, h3⟩ := max_ev l (by omega) z
   refine ⟨m, fun _ => h1, ?_⟩
   unfold fin
   show (if min (kraft l) 1152921504606846977 = 1152921504606846976 then true else if npos l = 1 then m == 1 else false) = _
   by_cases q : kraft l = 1152921504606846976
   ·rw [if_pos (by omega), decide_eq_true q, Bool.true_or]
   ·rw [if_neg (by omega), decide_eq_false q, Bool.false_or]
    by_cases p : npos l = 1
    ·rw [if_pos p, decide_eq_true p, Bool.true_and, max_lastp l m p h2 h3]
     rw [Bool.eq_iff_iff, beq_iff_eq, decide_eq_true_iff]
    ·rw [if_neg p, decide_eq_false p, Bool.false_and]
  ·obtain rfl : l = [] := List.eq_nil_of_length_eq_zero (by omega)
   exact ⟨0, fun h => absurd h z, by decide⟩
 obtain ⟨m, hm, hf⟩ := key
 have := implOk_l0 l (by omega) r m hm l.length 0 0 0 (by omega) (by omega) (by omega)
 rw [List.drop_zero, hf] at this
 have hj : Ev (fun k => impl_HuffOk.j0 k l false) (okH l) := by
  refine Ev.step (fun k => ?_) this
  rw [impl_HuffOk.j0, if_neg (by decide)]
  rfl
 refine Ev.congr (fun k => ?_) hj
 unfold impl_HuffOk.f impl_areAll_67.f
 rw [if_neg h, if_pos hml, Option.bind_some, hall, r]
 rfl
theorem lawSame_l0 (l : List Int) (hl : l.length ≤ 4000000) (d : Nat) : ∀ i : Nat, i + d = l.length → Ev (fun k => laws_same.l0 k l l (i : Int)) true := by
 induction d with
 | zero =>
  intro i h
  refine Ev.step (f := fun _ => some true) (fun k => ?_) (Ev.now true)
  rw [laws_same.l0, if_neg (by omega)]
 | succ d ih =>
  intro i h
  refine Ev.step (f := fun k => laws_same.l0 k l l ((i + 1 : Nat) : Int)) (fun k => ?_) (ih (i + 1) (by omega))
  rw [laws_same.l0, if_pos (by omega), if_pos (by omega), if_pos (by omega), if_pos rfl, w64 (by omega) (by omega)]
  rfl
theorem lawSame_ev (l : List Int) (hl : l.length ≤ 4000000) : Ev (fun k => laws_same.f k l l) true := by
 refine Ev.congr (f := fun k => laws_same.l0 k l l ((0 : Nat) : Int)) (fun k => ?_) (lawSame_l0 l hl l.length 0 (by omega))
 unfold laws_same.f
 rw [if_pos rfl]
 rfl
theorem rdT61 (l : List S61) (i : Nat) : rd_T61 l (i : Int) = l.getD i z61 := by unfold rd_T61; rw [Int.toNat_natCast]
def tot : List S61 → Nat
 | [] => 0
 | h :: t => h.f2.length + tot t
theorem tot_append (a b : List S61) : tot (a ++ b) = tot a + tot b := by
 induction a with
 | nil => show tot b = 0 + tot b; omega
 | cons h t ih => show h.f2.length + tot (t ++ b) = h.f2.length + tot t + tot b; rw [ih]; omega
def SymsOk (n : Nat) (l : List S61) : Prop := ∀ h ∈ l, ∀ s ∈ h.f2, 0 ≤ s ∧ s < (n : Int)
theorem split3 (l : List S61) (a : Nat) (h : a < l.length) : l = l.take a ++ l.getD a z61 :: l.drop (a + 1) := by
 rw [lget_lt _ _ _ h, ← List.drop_eq_getElem_cons h, List.take_append_drop]
theorem least_l0 (l : List S61) (h5 : l.length ≤ 1000) (d : Nat) : ∀ i a : Nat, i + d = l.length → a < l.length → ∃ a' : Nat, a' < l.length ∧ Ev (fun k => spec_l08Least.l0 k l (a : Int) (i : Int)) (a' : Int) := by
 induction d with
 | zero =>
  intro i a h ha
  refine ⟨a, ha, Ev.step (f := fun _ => some _) (fun k => ?_) (Ev.now _)⟩
  rw [spec_l08Least.l0, if_neg (by omega)]
 | succ d ih =>
  intro i a h ha
  have e1 : wrap64 ((i : Int) + 1) = ((i + 1 : Nat) : Int) := w64 (by omega) (by omega)
  obtain ⟨a1, ha1, h1⟩ := ih (i + 1) a (by omega) ha
  obtain ⟨a2, ha2, h2⟩ := ih (i + 1) i (by omega) (by omega)
  obtain ⟨K1, k1⟩ := ev_out h1
  obtain ⟨K2, k2⟩ := ev_out h2
  have j1 : ∀ b : Bool, ∃ a' : Nat, a' < l.length ∧ ∀ k, K1 + K2 ≤ k → spec_l08Least.j1 (k + 1) l (a : Int) (i : Int) b = some (a' : Int) := by
   intro b
   cases b with
   | true => exact ⟨a2, ha2, fun k hk => by rw [spec_l08Least.j1, if_pos rfl, e1]; exact k2 k (by omega)⟩
   | false => exact ⟨a1, ha1, fun k hk => by rw [spec_l08Least.j1, if_neg (by decide), e1]; exact k1 k (by omega)⟩
  obtain ⟨b, hb⟩ : ∃ b : Bool, ∀ k, spec_l08Least.l0 (k + 1) l (a : Int) (i : Int) = spec_l08Least.j1 k l (a : Int) (i : Int) b := by
   by_cases c : (rd_T61 l (i : Int)).f0 < (rd_T61 l (a : Int)).f0
   ·exact ⟨true, fun k => by rw [spec_l08Least.l0, if_pos (by omega), if_pos (by omega), if_pos (by omega), if_pos (by omega), if_pos c]⟩
   ·by_cases c2 : (rd_T61 l (i : Int)).f0 = (rd_T61 l (a : Int)).f0
    ·exact ⟨_, fun k => by rw [spec_l08Least.l0, if_pos (by omega), if_pos (by omega), if_pos (by omega), if_pos (by omega), if_neg c, if_pos c2]⟩
    ·exact ⟨false, fun k => by rw [spec_l08Least.l0, if_pos (by omega), if_pos (by omega), if_pos (by omega), if_pos (by omega), if_neg c, if_neg c2]⟩
  obtain ⟨a', ha', hj⟩ := j1 b
  refine ⟨a', ha', ev_mk (K1 + K2 + 2) fun k hk => ?_⟩
  obtain ⟨k, rfl⟩ : ∃ m, k = m + 2 := ⟨k - 2, by omega⟩
  rw [hb]
  exact hj k (by omega)
theorem least_ev (l : List S61) (h1 : 1 ≤ l.length) (h5 : l.length ≤ 1000) : ∃ a : Nat, a < l.length ∧ Ev (fun k => spec_l08Least.f k l) (a : Int) := least_l0 l h5 l.length 0 0 (by omega) (by omega)
theorem without_ev (l : List S61) (a : Nat) (ha : a < l.length) (h5 : l.length ≤ 1000) : spec_l08Without.f l (a : Int) = some (l.take a ++ l.drop (a + 1)) := by
 have h1 : (l.take a).length ≤ 1000 := by rw [List.length_take]; omega
 have h2 : (l.drop (a + 1)).length ≤ 1000 := by rw [List.length_drop]; omega
 unfold spec_l08Without.f
 rw [Option.bind_some, if_pos (by omega), if_pos (by omega), Option.bind_some, Int.toNat_natCast, if_pos (by simp; omega), Option.bind_some, w64 (by omega) (by omega), if_pos (by omega), if_pos (by omega), Option.bind_some, show ((a : Int) + 1).toNat = a + 1 by omega, if_pos (by simp; omega), List.nil_append]
theorem lens_l2 (n : Nat) (x4 : List S61) (hx4 : x4.length ≤ 1000) (x6 : Int) (syms : List Int) (hs : ∀ s ∈ syms, 0 ≤ s ∧ s < (n : Int)) (hl : syms.length ≤ 100000) (y0 y1 y3 y4 : Int) (y2 y5 : List Int)
  (next : ∀ x18 : List Int, x18.length = n → ∃ r : List Int, r.length = n ∧ Ev (fun k => spec_HuffLens.l1 k (x4 ++ [(⟨wrap64 (y0 + y3), x6, syms⟩ : S61)]) (wrap64 (x6 + 1)) x18) r) (d : Nat) :
  ∀ (i : Nat) (x18 : List Int), i + d = syms.length → x18.length = n → ∃ r : List Int, r.length = n ∧ Ev (fun k => spec_HuffLens.l2 k x4 x6 (i : Int) x18 syms y0 y1 y2 y3 y4 y5) r := by
 induction d with
 | zero =>
  intro i x18 h hx
  obtain ⟨r, hr, hev⟩ := next x18 hx
  refine ⟨r, hr, Ev.step (fun k => ?_) hev⟩
  rw [spec_HuffLens.l2, if_neg (by omega), if_pos (by omega)]
 | succ d ih =>
  intro i x18 h hx
  have hm : syms.getD i 0 ∈ syms := by rw [lget_lt _ _ _ (by omega)]; exact List.getElem_mem (by omega)
  obtain ⟨s0, s1⟩ := hs _ hm
  obtain ⟨r, hr, hev⟩ := ih (i + 1) (x18.set (syms.getD i 0).toNat (wrap64 ((rd x18 (syms.getD i 0)) + 1))) (by omega) (by rw [List.length_set]; exact hx)
  refine ⟨r, hr, Ev.step (fun k => ?_) hev⟩
  rw [spec_HuffLens.l2, if_pos (by omega), if_pos (by omega), rd_nat, if_pos s0, if_pos (by omega), w64 (x := (i : Int) + 1) (by omega) (by omega)]
  rfl
theorem lens_l1 (n : Nat) (m : Nat) : ∀ (x4 : List S61) (x6 : Int) (x18 : List Int), x4.length ≤ m → x4.length ≤ 300 → SymsOk n x4 → tot x4 ≤ 300 → x18.length = n → ∃ r : List Int, r.length = n ∧ Ev (fun k => spec_HuffLens.l1 k x4 x6 x18) r := by
 induction m with
 | zero =>
  intro x4 x6 x18 hm _ _ _ hx
  refine ⟨x18, hx, Ev.step (f := fun _ => some _) (fun k => ?_) (Ev.now _)⟩
  rw [spec_HuffLens.l1, if_neg (by omega)]
 | succ m ih =>
  intro x4 x6 x18 hm h5 hs ht hx
  by_cases c : x4.length ≤ 1
  ·refine ⟨x18, hx, Ev.step (f := fun _ => some _) (fun k => ?_) (Ev.now _)⟩
   rw [spec_HuffLens.l1, if_neg (by omega)]
  ·obtain ⟨a, ha, hea⟩ := least_ev x4 (by omega) (by omega)
   have hw1 := without_ev x4 a ha (by omega)
   have hsp := split3 x4 a ha
   generalize hA : x4.getD a z61 = A at hsp
   have hAm : A ∈ x4 := by rw [hsp]; simp
   generalize hL1 : x4.take a ++ x4.drop (a + 1) = l1 at hw1
   have hl1 : l1.length + 1 = x4.length := by rw [← hL1, List.length_append, List.length_take, List.length_drop]; omega
   have ht1 : tot l1 + A.f2.length = tot x4 := by
    rw [hsp, ← hL1, tot_append, tot_append]
    show _ = tot (x4.take a) + (A.f2.length + tot (x4.drop (a + 1)))
    omega
   have hs1 : SymsOk n l1 := fun h hh => hs h (by rw [← hL1] at hh; rcases List.mem_append.1 hh with e | e; exact List.mem_of_mem_take e; exact List.mem_of_mem_drop e)
   obtain ⟨b, hb, heb⟩ := least_ev l1 (by omega) (by omega)
   have hw2 := without_ev l1 b hb (by omega)
   have hsp2 := split3 l1 b hb
   generalize hB : l1.getD b z61 = B at hsp2
   have hBm : B ∈ l1 := by rw [hsp2]; simp
   generalize hL2 : l1.take b ++ l1.drop (b + 1) = l2 at hw2
   have hl2 : l2.length + 1 = l1.length := by rw [← hL2, List.length_append, List.length_take, List.length_drop]; omega
   have ht2 : tot l2 + B.f2.length = tot l1 := by
    rw [hsp2, ← hL2, tot_append, tot_append]
    show _ = tot (l1.take b) + (B.f2.length + tot (l1.drop (b + 1)))
    omega
   have hs2 : SymsOk n l2 := fun h hh => hs1 h (by rw [← hL2] at hh; rcases List.mem_append.1 hh with e | e; exact List.mem_of_mem_take e; exact List.mem_of_mem_drop e)
   have hsy : ∀ s ∈ A.f2 ++ B.f2, 0 ≤ s ∧ s < (n : Int) := fun s hh => by
    rcases List.mem_append.1 hh with e | e
    ·exact hs A hAm s e
    ·exact hs1 B hBm s e
   obtain ⟨r, hr, hev⟩ := lens_l2 n l2 (by omega) x6 (A.f2 ++ B.f2) hsy (by rw [List.length_append]; omega) A.f0 A.f1 B.f0 B.f1 A.f2 B.f2 (fun x18' hx' => ih _ _ x18' (by rw [List.length_append]; simp; omega) (by rw [List.length_append]; simp; omega) (fun h hh => by
     rcases List.mem_append.1 hh with e | e
     ·exact hs2 h e
     ·rw [List.mem_singleton] at e; subst e; exact hsy) (by rw [tot_append]; show tot l2 + ((A.f2 ++ B.f2).length + 0) ≤ 300; rw [List.length_append]; omega) hx') (A.f2 ++ B.f2).length 0 x18 (by omega) hx
   obtain ⟨K1, k1⟩ := ev_out hea
   obtain ⟨K2, k2⟩ := ev_out heb
   obtain ⟨K3, k3⟩ := ev_out hev
   refine ⟨r, hr, ev_mk (K1 + K2 + K3 + 1) fun k hk => ?_⟩
   obtain ⟨k, rfl⟩ : ∃ m, k = m + 1 := ⟨k - 1, by omega⟩
   rw [spec_HuffLens.l1, if_pos (by omega), k1 k (by omega), Option.bind_some, if_pos (by omega), if_pos (by omega), hw1, Option.bind_some, k2 k (by omega), Option.bind_some, if_pos (by omega), if_pos (by omega), hw2, Option.bind_some, Option.bind_some, rdT61, rdT61, hA, hB, if_pos (by simp; omega), Option.bind_some, List.nil_append, if_pos (by omega)]
   exact k3 k (by omega)
theorem lens_l0 (l : List Int) (h5 : l.length ≤ 300) (d : Nat) : ∀ (i : Nat) (x4 : List S61), i + d = l.length → x4.length ≤ i → (∀ h ∈ x4, ∃ j : Nat, j < l.length ∧ h.f2 = [(j : Int)]) → tot x4 = x4.length → ∃ r : List Int, r.length = l.length ∧ Ev (fun k => spec_HuffLens.l0 k l x4 (i : Int) (List.replicate l.length 0)) r := by
 induction d with
 | zero =>
  intro i x4 h hx hs ht
  by_cases c : x4.length = 1
  ·obtain ⟨A, rfl⟩ : ∃ A, x4 = [A] := by
    match x4, c with
    | [A], _ => exact ⟨A, rfl⟩
   obtain ⟨j, hj, hA⟩ := hs A (List.mem_cons_self ..)
   refine ⟨(List.replicate l.length 0).set j 1, by rw [List.length_set, List.length_replicate], Ev.step (f := fun _ => some _) (fun k => ?_) (Ev.now _)⟩
   have e : rd_T61 [A] 0 = A := rfl
   have e2 : rd A.f2 0 = (j : Int) := by rw [hA]; rfl
   rw [spec_HuffLens.l0, if_neg (by omega), if_pos (by simp), if_pos (by simp), e, if_pos (by rw [hA]; simp), e2, if_pos (by omega), if_pos (by simp; omega), Int.toNat_natCast]
  ·obtain ⟨r, hr, hev⟩ := lens_l1 l.length x4.length x4 (x4.length : Int) (List.replicate l.length 0) (Nat.le_refl _) (by omega) (fun h hh s hs' => by
    obtain ⟨j, hj, e⟩ := hs h hh
    rw [e, List.mem_singleton] at hs'
    omega) (by omega) List.length_replicate
   refine ⟨r, hr, Ev.step (fun k => ?_) hev⟩
   rw [spec_HuffLens.l0, if_neg (by omega), if_neg (by omega)]
 | succ d ih =>
  intro i x4 h hx hs ht
  by_cases c : l.getD i 0 > 0
  ·obtain ⟨r, hr, hev⟩ := ih (i + 1) (x4 ++ [(⟨l.getD i 0, (x4.length : Int), [(i : Int)]⟩ : S61)]) (by omega) (by rw [List.length_append]; simp; omega) (fun h hh => by
    rcases List.mem_append.1 hh with e | e
    ·exact hs h e
    ·rw [List.mem_singleton] at e; subst e; exact ⟨i, by omega, rfl⟩) (by rw [tot_append, List.length_append, ht]; rfl)
   refine ⟨r, hr, Ev.step (fun k => ?_) hev⟩
   rw [spec_HuffLens.l0, if_pos (by omega), if_pos (by omega), rd_nat, if_pos c, if_pos (by omega), w64 (by omega) (by omega)]
   rfl
  ·obtain ⟨r, hr, hev⟩ := ih (i + 1) x4 (by omega) (by omega) hs ht
   refine ⟨r, hr, Ev.step (fun k => ?_) hev⟩
   rw [spec_HuffLens.l0, if_pos (by omega), if_pos (by omega), rd_nat, if_neg c, w64 (by omega) (by omega)]
   rfl
theorem counts_l0 (l : List Int) (h5 : l.length ≤ 300) (d : Nat) : ∀ i : Nat, i + d = l.length → ∃ b, Ev (fun k => spec_l08Counts.l0 k l (i : Int)) b := by
 induction d with
 | zero =>
  intro i h
  refine ⟨true, Ev.step (f := fun _ => some _) (fun k => ?_) (Ev.now _)⟩
  rw [spec_l08Counts.l0, if_neg (by omega)]
 | succ d ih =>
  intro i h
  by_cases c : l.getD i 0 < 0
  ·refine ⟨false, Ev.step (f := fun _ => some _) (fun k => ?_) (Ev.now _)⟩
   rw [spec_l08Counts.l0, if_pos (by omega), if_pos (by omega), rd_nat, if_pos c]
  ·by_cases c2 : l.getD i 0 > 1000000
   ·refine ⟨false, Ev.step (f := fun _ => some _) (fun k => ?_) (Ev.now _)⟩
    rw [spec_l08Counts.l0, if_pos (by omega), if_pos (by omega), rd_nat, if_neg c, if_pos c2]
   ·obtain ⟨b, hb⟩ := ih (i + 1) (by omega)
    refine ⟨b, Ev.step (fun k => ?_) hb⟩
    rw [spec_l08Counts.l0, if_pos (by omega), if_pos (by omega), rd_nat, if_neg c, if_neg c2, w64 (by omega) (by omega)]
    rfl
theorem huffLens_ev (l : List Int) : ∃ r : List Int, r.length ≤ 300 ∧ Ev (fun k => spec_HuffLens.f k l) r := by
 by_cases h5 : l.length ≤ 300
 ·obtain ⟨b, hb⟩ := counts_l0 l h5 l.length 0 (by omega)
  obtain ⟨K1, k1⟩ := ev_out hb
  have k1' : ∀ k, K1 ≤ k → spec_l08Counts.l0 k l 0 = some b := k1
  cases b with
  | false =>
   refine ⟨[], by simp, ev_mk K1 fun k hk => ?_⟩
   unfold spec_HuffLens.f spec_l08Counts.f
   rw [if_neg (by omega), k1' k hk, Option.bind_some, if_neg (by decide)]
  | true =>
   obtain ⟨r, hr, hev⟩ := lens_l0 l h5 l.length 0 [] (by omega) (by simp) (fun h hh => by cases hh) rfl
   obtain ⟨K2, k2⟩ := ev_out hev
   refine ⟨r, by omega, ev_mk (K1 + K2) fun k hk => ?_⟩
   unfold spec_HuffLens.f spec_l08Counts.f
   rw [if_neg (by omega), k1' k (by omega), Option.bind_some, if_pos rfl, if_pos (by omega), Int.toNat_natCast, if_pos (by omega)]
   exact k2 k (by omega)
 ·refine ⟨[], by simp, ev_mk 0 fun k _ => ?_⟩
  unfold spec_HuffLens.f spec_l08Counts.f
  rw [if_pos (by omega), Option.bind_some, if_neg (by decide)]
def toTr (h : S61) : Tr := (h.f0, h.f2)
def totW : List S61 → Int
 | [] => 0
 | h :: t => h.f0 + totW t
theorem totW_append (a b : List S61) : totW (a ++ b) = totW a + totW b := by
 induction a with
 | nil => show totW b = 0 + totW b; omega
 | cons h t ih => show h.f0 + totW (t ++ b) = h.f0 + totW t + totW b; rw [ih]; omega
theorem totW_nn (l : List S61) (h : ∀ x ∈ l, 0 ≤ x.f0) : 0 ≤ totW l := by
 induction l with
 | nil => exact Int.le_refl _
 | cons x t ih =>
  have := h x List.mem_cons_self
  have := ih fun y hy => h y (List.mem_cons_of_mem _ hy)
  show 0 ≤ x.f0 + totW t
  omega
def Srt (l : List S61) : Prop := l.Pairwise fun a b => a.f1 < b.f1
theorem toTr_get (l : List S61) (i : Nat) (h : i < l.length) : (l.map toTr).getD i (0, []) = toTr (l.getD i z61) := by
 rw [lget_lt _ _ _ (by rw [List.length_map]; exact h), lget_lt _ _ _ h, List.getElem_map]
theorem leastx_l0 (l : List S61) (h5 : l.length ≤ 1000) (hs : Srt l) (d : Nat) : ∀ i a : Nat, i + d = l.length → a < l.length → (a < i ∨ (i = 0 ∧ a = 0)) → (∀ j, j < i → (l.getD a z61).f0 ≤ (l.getD j z61).f0) → (∀ j, j < a → (l.getD a z61).f0 < (l.getD j z61).f0) →
  ∃ a' : Nat, FM (l.map toTr) a' ∧ Ev (fun k => spec_l08Least.l0 k l (a : Int) (i : Int)) (a' : Int) := by
 induction d with
 | zero =>
  intro i a h ha _ h1 h2
  refine ⟨a, ⟨by rw [List.length_map]; exact ha, fun j hj => ?_, fun j hj => ?_⟩, Ev.step (f := fun _ => some _) (fun k => ?_) (Ev.now _)⟩
  ·rw [List.length_map] at hj
   rw [toTr_get l a ha, toTr_get l j hj]
   exact h1 j (by omega)
  ·rw [toTr_get l a ha, toTr_get l j (by omega)]
   exact h2 j hj
  ·rw [spec_l08Least.l0, if_neg (by omega)]
 | succ d ih =>
  intro i a h ha hai h1 h2
  have e1 : wrap64 ((i : Int) + 1) = ((i + 1 : Nat) : Int) := w64 (by omega) (by omega)
  by_cases c : (l.getD i z61).f0 < (l.getD a z61).f0
  ·obtain ⟨a', hf, hev⟩ := ih (i + 1) i (by omega) (by omega) (.inl (by omega)) (fun j hj => by
    by_cases q : j = i
    ·rw [q]; exact Int.le_refl _
    ·have := h1 j (by omega); omega) (fun j hj => by have := h1 j hj; omega)
   refine ⟨a', hf, Ev.step (f := fun k => spec_l08Least.j1 k l (a : Int) (i : Int) true) (fun k => ?_) (Ev.step (fun k => ?_) hev)⟩
   ·rw [spec_l08Least.l0, if_pos (by omega), if_pos (by omega), if_pos (by omega), if_pos (by omega), rdT61, rdT61, if_pos c]
   ·rw [spec_l08Least.j1, if_pos rfl, e1]
  ·obtain ⟨a', hf, hev⟩ := ih (i + 1) a (by omega) ha (.inl (by omega)) (fun j hj => by
    by_cases q : j = i
    ·rw [q]; omega
    ·exact h1 j (by omega)) h2
   refine ⟨a', hf, Ev.step (f := fun k => spec_l08Least.j1 k l (a : Int) (i : Int) false) (fun k => ?_) (Ev.step (fun k => ?_) hev)⟩
   ·rw [spec_l08Least.l0, if_pos (by omega), if_pos (by omega), if_pos (by omega), if_pos (by omega), rdT61, rdT61, if_neg c]
    by_cases c2 : (l.getD i z61).f0 = (l.getD a z61).f0
    ·have : ¬ (l.getD i z61).f1 < (l.getD a z61).f1 := by
      by_cases q : a = i
      ·rw [q]; exact Int.lt_irrefl _
      ·have := List.pairwise_iff_getElem.1 hs a i ha (by omega) (by omega)
       rw [lget_lt _ _ _ ha, lget_lt _ _ _ (show i < l.length by omega)]
       omega
     rw [if_pos c2, decide_eq_false this]
    ·rw [if_neg c2]
   ·rw [spec_l08Least.j1, if_neg Bool.false_ne_true, e1]
theorem leastx_ev (l : List S61) (h1 : 1 ≤ l.length) (h5 : l.length ≤ 1000) (hs : Srt l) : Ev (fun k => spec_l08Least.f k l) (lidx (l.map toTr) : Int) := by
 obtain ⟨a, hf, hev⟩ := leastx_l0 l h5 hs l.length 0 0 (by omega) (by omega) (.inr ⟨rfl, rfl⟩) (fun j hj => by omega) (fun j hj => by omega)
 have hne : l.map toTr ≠ [] := fun e => by
  have := congrArg List.length e
  rw [List.length_map, List.length_nil] at this
  omega
 rw [FM_unique (lidx_FM _ hne) hf]
 exact hev
theorem lidx_lt (l : List S61) (h1 : 1 ≤ l.length) : lidx (l.map toTr) < l.length := by
 have hne : l.map toTr ≠ [] := fun e => by
  have := congrArg List.length e
  rw [List.length_map, List.length_nil] at this
  omega
 have := (lidx_FM _ hne).1
 rw [List.length_map] at this
 exact this
theorem map_cut (l : List S61) (a : Nat) : (l.map toTr).eraseIdx a = (l.take a ++ l.drop (a + 1)).map toTr := by
 rw [List.eraseIdx_eq_take_drop_succ, List.map_append, List.map_take, List.map_drop]
theorem bumpL_bd (t : List Int) : ∀ (x : List Int) (c : Int), (∀ j, 0 ≤ x.getD j 0 ∧ x.getD j 0 ≤ c) → ∀ j, 0 ≤ (bumpL x t).getD j 0 ∧ (bumpL x t).getD j 0 ≤ c + t.length := by
 induction t with
 | nil => intro x c h j; have := h j; exact ⟨this.1, by show x.getD j 0 ≤ c + ((0 : Nat) : Int); omega⟩
 | cons s t ih =>
  intro x c h j
  have := ih (x.set s.toNat (x.getD s.toNat 0 + 1)) (c + 1) (fun i => by
   have q := h s.toNat
   have q2 := h i
   rw [lset]
   split <;> omega) j
  unfold bumpL
  rw [List.length_cons]
  omega
theorem lensx_l2 (n : Nat) (x4 : List S61) (hx4 : x4.length ≤ 1000) (x6 : Int) (syms : List Int) (hs : ∀ s ∈ syms, 0 ≤ s ∧ s < (n : Int)) (hl : syms.length ≤ 100000) (y0 y1 y3 y4 : Int) (y2 y5 r : List Int) (d : Nat) :
  ∀ (i : Nat) (x18 : List Int) (c : Int), i + d = syms.length → x18.length = n → (∀ j, 0 ≤ x18.getD j 0 ∧ x18.getD j 0 ≤ c) → c + d ≤ 1000000000 →
  Ev (fun k => spec_HuffLens.l1 k (x4 ++ [(⟨wrap64 (y0 + y3), x6, syms⟩ : S61)]) (wrap64 (x6 + 1)) (bumpL x18 (syms.drop i))) r → Ev (fun k => spec_HuffLens.l2 k x4 x6 (i : Int) x18 syms y0 y1 y2 y3 y4 y5) r := by
 induction d with
 | zero =>
  intro i x18 c h hx _ _ hev
  rw [List.drop_eq_nil_of_le (by omega)] at hev
  refine Ev.step (fun k => ?_) hev
  rw [spec_HuffLens.l2, if_neg (by omega), if_pos (by omega)]
  rfl
 | succ d ih =>
  intro i x18 c h hx hb hc hev
  have hm : syms.getD i 0 ∈ syms := by rw [lget_lt _ _ _ (by omega)]; exact List.getElem_mem (by omega)
  obtain ⟨s0, s1⟩ := hs _ hm
  have hq := hb (syms.getD i 0).toNat
  have hd : syms.drop i = syms.getD i 0 :: syms.drop (i + 1) := by rw [List.drop_eq_getElem_cons (by omega), lget_lt _ _ _ (by omega)]
  rw [hd] at hev
  have := ih (i + 1) (x18.set (syms.getD i 0).toNat (x18.getD (syms.getD i 0).toNat 0 + 1)) (c + 1) (by omega) (by rw [List.length_set]; exact hx) (fun j => by
   have q2 := hb j
   rw [lset]
   split <;> omega) (by omega) hev
  refine Ev.step (fun k => ?_) this
  have hr : rd x18 (syms.getD i 0) = x18.getD (syms.getD i 0).toNat 0 := rfl
  rw [spec_HuffLens.l2, if_pos (by omega), if_pos (by omega), rd_nat, if_pos s0, if_pos (by omega), w64 (x := (i : Int) + 1) (by omega) (by omega), hr, w64 (x := x18.getD (syms.getD i 0).toNat 0 + 1) (by omega) (by omega)]
  rfl
theorem lensx_l1 (n : Nat) (m : Nat) : ∀ (x4 : List S61) (x6 : Int) (x18 : List Int) (c : Int), x4.length ≤ m + 1 → x4.length ≤ 300 → SymsOk n x4 → tot x4 ≤ 300 → x18.length = n → Srt x4 → (∀ h ∈ x4, h.f1 < x6) → 0 ≤ x6 → x6 + m ≤ 100000 → (∀ h ∈ x4, 0 ≤ h.f0) → totW x4 ≤ 1000000000 →
  (∀ j, 0 ≤ x18.getD j 0 ∧ x18.getD j 0 ≤ c) → c + x4.length * 300 ≤ 1000000 → Ev (fun k => spec_HuffLens.l1 k x4 x6 x18) (mergeF m (x4.map toTr) x18) := by
 induction m with
 | zero =>
  intro x4 x6 x18 c hm _ _ _ _ _ _ _ _ _ _ _ _
  refine Ev.step (f := fun _ => some _) (fun k => ?_) (Ev.now _)
  rw [spec_HuffLens.l1, if_neg (by omega)]
  rfl
 | succ m ih =>
  intro x4 x6 x18 c hm h5 hs ht hx hsrt hlt h6 h6m hnn hW hbd hc
  by_cases c1 : x4.length ≤ 1
  ·refine Ev.step (f := fun _ => some _) (fun k => ?_) (Ev.now _)
   rw [spec_HuffLens.l1, if_neg (by omega), mergeF, if_neg (by rw [List.length_map]; omega)]
  ·have hea := leastx_ev x4 (by omega) (by omega) hsrt
   have ha := lidx_lt x4 (by omega)
   have hcutA := map_cut x4 (lidx (x4.map toTr))
   have hgA := toTr_get x4 _ ha
   rw [mergeF, if_pos (by rw [List.length_map]; omega), hcutA, hgA]
   generalize lidx (x4.map toTr) = a at *
   have hw1 := without_ev x4 a ha (by omega)
   have hsp := split3 x4 a ha
   generalize hA : x4.getD a z61 = A at *
   have hAm : A ∈ x4 := by rw [hsp]; simp
   have hsub1 : (x4.take a ++ x4.drop (a + 1)).Sublist x4 := by rw [← List.eraseIdx_eq_take_drop_succ]; exact List.eraseIdx_sublist x4 a
   generalize hL1 : x4.take a ++ x4.drop (a + 1) = l1 at *
   have hl1 : l1.length + 1 = x4.length := by rw [← hL1, List.length_append, List.length_take, List.length_drop]; omega
   have ht1 : tot l1 + A.f2.length = tot x4 := by
    rw [hsp, ← hL1, tot_append, tot_append]
    show _ = tot (x4.take a) + (A.f2.length + tot (x4.drop (a + 1)))
    omega
   have hW1 : totW l1 + A.f0 = totW x4 := by
    rw [hsp, ← hL1, totW_append, totW_append]
    show _ = totW (x4.take a) + (A.f0 + totW (x4.drop (a + 1)))
    omega
   have hin1 : ∀ h ∈ l1, h ∈ x4 := fun h hh => hsub1.subset hh
   have hs1 : SymsOk n l1 := fun h hh => hs h (hin1 h hh)
   have hsrt1 : Srt l1 := List.Pairwise.sublist hsub1 hsrt
   have heb := leastx_ev l1 (by omega) (by omega) hsrt1
   have hb := lidx_lt l1 (by omega)
   have hcutB := map_cut l1 (lidx (l1.map toTr))
   have hgB := toTr_get l1 _ hb
   rw [hcutB, hgB]
   generalize lidx (l1.map toTr) = b at *
   have hw2 := without_ev l1 b hb (by omega)
   have hsp2 := split3 l1 b hb
   generalize hB : l1.getD b z61 = B at *
   have hBm : B ∈ l1 := by rw [hsp2]; simp
   have hsub2 : (l1.take b ++ l1.drop (b + 1)).Sublist l1 := by rw [← List.eraseIdx_eq_take_drop_succ]; exact List.eraseIdx_sublist l1 b
   generalize hL2 : l1.take b ++ l1.drop (b + 1) = l2 at *
   have hl2 : l2.length + 1 = l1.length := by rw [← hL2, List.length_append, List.length_take, List.length_drop]; omega
   have ht2 : tot l2 + B.f2.length = tot l1 := by
    rw [hsp2, ← hL2, tot_append, tot_append]
    show _ = tot (l1.take b) + (B.f2.length + tot (l1.drop (b + 1)))
    omega
   have hW2 : totW l2 + B.f0 = totW l1 := by
    rw [hsp2, ← hL2, totW_append, totW_append]
    show _ = totW (l1.take b) + (B.f0 + totW (l1.drop (b + 1)))
    omega
   have hin2 : ∀ h ∈ l2, h ∈ x4 := fun h hh => hin1 h (hsub2.subset hh)
   have hs2 : SymsOk n l2 := fun h hh => hs h (hin2 h hh)
   have hsrt2 : Srt l2 := List.Pairwise.sublist hsub2 hsrt1
   have hsy : ∀ s ∈ A.f2 ++ B.f2, 0 ≤ s ∧ s < (n : Int) := fun s hh => by
    rcases List.mem_append.1 hh with e | e
    ·exact hs A hAm s e
    ·exact hs1 B hBm s e
   have nA := hnn A hAm
   have nB := hnn B (hin1 B hBm)
   have n2 := totW_nn l2 fun h hh => hnn h (hin2 h hh)
   have hsyl : (A.f2 ++ B.f2).length ≤ 300 := by rw [List.length_append]; omega
   have hrec := ih (l2 ++ [(⟨wrap64 (A.f0 + B.f0), x6, A.f2 ++ B.f2⟩ : S61)]) (wrap64 (x6 + 1)) (bumpL x18 (A.f2 ++ B.f2)) (c + (A.f2 ++ B.f2).length) (by rw [List.length_append]; simp; omega) (by rw [List.length_append]; simp; omega) (fun h hh => by
     rcases List.mem_append.1 hh with e | e
     ·exact hs2 h e
     ·rw [List.mem_singleton] at e; subst e; exact hsy) (by rw [tot_append]; show tot l2 + ((A.f2 ++ B.f2).length + 0) ≤ 300; rw [List.length_append]; omega) (by rw [bump_len]; exact hx) (by
     refine List.pairwise_append.2 ⟨hsrt2, List.pairwise_singleton _ _, fun x hxm y hy => ?_⟩
     rw [List.mem_singleton] at hy
     subst hy
     exact hlt x (hin2 x hxm)) (fun h hh => by
     rw [w64 (by omega) (by omega)]
     rcases List.mem_append.1 hh with e | e
     ·have := hlt h (hin2 h e); omega
     ·rw [List.mem_singleton] at e; subst e; show x6 < x6 + 1; omega) (by rw [w64 (by omega) (by omega)]; omega) (by rw [w64 (by omega) (by omega)]; omega) (fun h hh => by
     rcases List.mem_append.1 hh with e | e
     ·exact hnn h (hin2 h e)
     ·rw [List.mem_singleton] at e; subst e; show 0 ≤ wrap64 (A.f0 + B.f0); rw [w64 (by omega) (by omega)]; omega) (by
     rw [totW_append]
     show totW l2 + (wrap64 (A.f0 + B.f0) + 0) ≤ 1000000000
     rw [w64 (by omega) (by omega)]
     omega) (bumpL_bd _ x18 c hbd) (by rw [List.length_append, List.length_append, List.length_singleton]; rw [List.length_append] at hsyl; omega)
   have hev := lensx_l2 n l2 (by omega) x6 (A.f2 ++ B.f2) hsy (by omega) A.f0 A.f1 B.f0 B.f1 A.f2 B.f2 _ (A.f2 ++ B.f2).length 0 x18 c (by omega) hx hbd (by omega) (by rw [List.drop_zero]; exact hrec)
   have htgt : mergeF m ((l2 ++ [(⟨wrap64 (A.f0 + B.f0), x6, A.f2 ++ B.f2⟩ : S61)]).map toTr) (bumpL x18 (A.f2 ++ B.f2)) = mergeF m (l2.map toTr ++ [((toTr A).1 + (toTr B).1, (toTr A).2 ++ (toTr B).2)]) (bumpL x18 ((toTr A).2 ++ (toTr B).2)) := by
    rw [List.map_append, w64 (by omega) (by omega)]
    rfl
   rw [← htgt]
   obtain ⟨K1, k1⟩ := ev_out hea
   obtain ⟨K2, k2⟩ := ev_out heb
   obtain ⟨K3, k3⟩ := ev_out hev
   refine ev_mk (K1 + K2 + K3 + 1) fun k hk => ?_
   obtain ⟨k, rfl⟩ : ∃ m, k = m + 1 := ⟨k - 1, by omega⟩
   rw [spec_HuffLens.l1, if_pos (by omega), k1 k (by omega), Option.bind_some, if_pos (by omega), if_pos (by omega), hw1, Option.bind_some, k2 k (by omega), Option.bind_some, if_pos (by omega), if_pos (by omega), hw2, Option.bind_some, Option.bind_some, rdT61, rdT61, hA, hB, if_pos (by simp; omega), Option.bind_some, List.nil_append, if_pos (by omega)]
   exact k3 k (by omega)
def finL (n : Nat) (F : List Tr) : List Int := if F.length = 1 then (List.replicate n 0).set ((F.getD 0 (0, [])).2.getD 0 0).toNat 1 else mergeF n F (List.replicate n 0)
theorem lensx_l0 (l : List Int) (h5 : l.length ≤ 300) (hcs : ∀ i, l.getD i 0 ≤ 1000000) (d : Nat) : ∀ (i : Nat) (x4 : List S61), i + d = l.length → x4.length ≤ i → (∀ h ∈ x4, ∃ j : Nat, j < l.length ∧ h.f2 = [(j : Int)]) → tot x4 = x4.length → Srt x4 → (∀ h ∈ x4, h.f1 < x4.length) → (∀ h ∈ x4, 0 ≤ h.f0) → totW x4 ≤ 1000000 * x4.length →
  Ev (fun k => spec_HuffLens.l0 k l x4 (i : Int) (List.replicate l.length 0)) (finL l.length (x4.map toTr ++ initF i (l.drop i))) := by
 induction d with
 | zero =>
  intro i x4 h hx hs ht hsrt hlt hnn hW
  rw [List.drop_eq_nil_of_le (show l.length ≤ i by omega), show initF i [] = [] from rfl, List.append_nil]
  unfold finL
  rw [List.length_map]
  by_cases c : x4.length = 1
  ·rw [if_pos c]
   obtain ⟨A, rfl⟩ : ∃ A, x4 = [A] := by
    match x4, c with
    | [A], _ => exact ⟨A, rfl⟩
   obtain ⟨j, hj, hA⟩ := hs A (List.mem_cons_self ..)
   refine Ev.step (f := fun _ => some _) (fun k => ?_) (Ev.now _)
   have e : rd_T61 [A] 0 = A := rfl
   have e2 : rd A.f2 0 = (j : Int) := by rw [hA]; rfl
   have e3 : (([A].map toTr).getD 0 (0, [])).2.getD 0 0 = (j : Int) := by show A.f2.getD 0 0 = _; rw [hA]; rfl
   rw [spec_HuffLens.l0, if_neg (by omega), if_pos (by simp), if_pos (by simp), e, if_pos (by rw [hA]; simp), e2, e3, if_pos (by omega), if_pos (by simp; omega)]
  ·rw [if_neg c]
   have hev := lensx_l1 l.length l.length x4 (x4.length : Int) (List.replicate l.length 0) 0 (by omega) (by omega) (fun h hh s hs' => by
    obtain ⟨j, hj, e⟩ := hs h hh
    rw [e, List.mem_singleton] at hs'
    omega) (by omega) List.length_replicate hsrt hlt (by omega) (by omega) hnn (by omega) (fun j => by
    have : (List.replicate l.length (0 : Int)).getD j 0 = 0 := by
     rw [List.getD_eq_getElem?_getD, List.getElem?_replicate]
     split <;> rfl
    rw [this]; omega) (by omega)
   refine Ev.step (fun k => ?_) hev
   rw [spec_HuffLens.l0, if_neg (by omega), if_neg (by omega)]
 | succ d ih =>
  intro i x4 h hx hs ht hsrt hlt hnn hW
  have hd : l.drop i = l.getD i 0 :: l.drop (i + 1) := by rw [List.drop_eq_getElem_cons (by omega), lget_lt _ _ _ (by omega)]
  rw [hd]
  by_cases c : l.getD i 0 > 0
  ·have hci := hcs i
   have hev := ih (i + 1) (x4 ++ [(⟨l.getD i 0, (x4.length : Int), [(i : Int)]⟩ : S61)]) (by omega) (by rw [List.length_append]; simp; omega) (fun h hh => by
    rcases List.mem_append.1 hh with e | e
    ·exact hs h e
    ·rw [List.mem_singleton] at e; subst e; exact ⟨i, by omega, rfl⟩) (by rw [tot_append, List.length_append, ht]; rfl) (by
    refine List.pairwise_append.2 ⟨hsrt, List.pairwise_singleton _ _, fun x hxm y hy => ?_⟩
    rw [List.mem_singleton] at hy
    subst hy
    exact hlt x hxm) (fun h hh => by
    rw [List.length_append, List.length_singleton]
    rcases List.mem_append.1 hh with e | e
    ·have := hlt h e; omega
    ·rw [List.mem_singleton] at e; subst e; show (x4.length : Int) < _; omega) (fun h hh => by
    rcases List.mem_append.1 hh with e | e
    ·exact hnn h e
    ·rw [List.mem_singleton] at e; subst e; show 0 ≤ l.getD i 0; omega) (by
    rw [totW_append, List.length_append, List.length_singleton]
    show totW x4 + (l.getD i 0 + 0) ≤ _
    omega)
   have he : (x4 ++ [(⟨l.getD i 0, (x4.length : Int), [(i : Int)]⟩ : S61)]).map toTr ++ initF (i + 1) (l.drop (i + 1)) = x4.map toTr ++ initF i (l.getD i 0 :: l.drop (i + 1)) := by
    rw [List.map_append, initF, if_pos c, List.append_assoc]
    rfl
   rw [he] at hev
   refine Ev.step (fun k => ?_) hev
   rw [spec_HuffLens.l0, if_pos (by omega), if_pos (by omega), rd_nat, if_pos c, if_pos (by omega), w64 (by omega) (by omega)]
   rfl
  ·have hev := ih (i + 1) x4 (by omega) (by omega) hs ht hsrt hlt hnn hW
   rw [initF, if_neg c]
   refine Ev.step (fun k => ?_) hev
   rw [spec_HuffLens.l0, if_pos (by omega), if_pos (by omega), rd_nat, if_neg c, w64 (by omega) (by omega)]
   rfl
theorem countsx_l0 (l : List Int) (h5 : l.length ≤ 300) (d : Nat) : ∀ i : Nat, i + d = l.length → Ev (fun k => spec_l08Counts.l0 k l (i : Int)) ((l.drop i).all fun c => decide (0 ≤ c ∧ c ≤ 1000000)) := by
 induction d with
 | zero =>
  intro i h
  rw [List.drop_eq_nil_of_le (by omega)]
  refine Ev.step (f := fun _ => some _) (fun k => ?_) (Ev.now _)
  rw [spec_l08Counts.l0, if_neg (by omega)]
  rfl
 | succ d ih =>
  intro i h
  have hd : l.drop i = l.getD i 0 :: l.drop (i + 1) := by rw [List.drop_eq_getElem_cons (by omega), lget_lt _ _ _ (by omega)]
  rw [hd, List.all_cons]
  by_cases c : l.getD i 0 < 0
  ·rw [decide_eq_false (by omega), Bool.false_and]
   refine Ev.step (f := fun _ => some _) (fun k => ?_) (Ev.now _)
   rw [spec_l08Counts.l0, if_pos (by omega), if_pos (by omega), rd_nat, if_pos c]
  ·by_cases c2 : l.getD i 0 > 1000000
   ·rw [decide_eq_false (by omega), Bool.false_and]
    refine Ev.step (f := fun _ => some _) (fun k => ?_) (Ev.now _)
    rw [spec_l08Counts.l0, if_pos (by omega), if_pos (by omega), rd_nat, if_neg c, if_pos c2]
   ·rw [decide_eq_true (show 0 ≤ l.getD i 0 ∧ l.getD i 0 ≤ 1000000 by omega), Bool.true_and]
    refine Ev.step (fun k => ?_) (ih (i + 1) (by omega))
    rw [spec_l08Counts.l0, if_pos (by omega), if_pos (by omega), rd_nat, if_neg c, if_neg c2, w64 (by omega) (by omega)]
    rfl
theorem countsx_ev (l : List Int) : Ev (fun k => spec_l08Counts.f k l) (okC l) := by
 unfold okC
 by_cases h5 : l.length ≤ 300
 ·rw [decide_eq_true h5, Bool.true_and]
  obtain ⟨K, hK⟩ := ev_out (countsx_l0 l h5 l.length 0 (by omega))
  have hK' : ∀ k, K ≤ k → spec_l08Counts.l0 k l 0 = some (l.all fun c => decide (0 ≤ c ∧ c ≤ 1000000)) := hK
  refine ev_mk K fun k hk => ?_
  unfold spec_l08Counts.f
  rw [if_neg (by omega)]
  exact hK' k hk
 ·rw [decide_eq_false h5, Bool.false_and]
  refine ev_mk 0 fun k _ => ?_
  unfold spec_l08Counts.f
  rw [if_pos (by omega)]
theorem okC_out {l : List Int} (h : okC l = true) : l.length ≤ 300 ∧ (∀ c ∈ l, 0 ≤ c ∧ c ≤ 1000000) ∧ ∀ i, 0 ≤ l.getD i 0 ∧ l.getD i 0 ≤ 1000000 := by
 unfold okC at h
 rw [Bool.and_eq_true] at h
 have h2 : ∀ c ∈ l, 0 ≤ c ∧ c ≤ 1000000 := fun c hc => of_decide_eq_true (List.all_eq_true.1 h.2 c hc)
 refine ⟨of_decide_eq_true h.1, h2, fun i => ?_⟩
 by_cases c : i < l.length
 ·rw [lget_lt _ _ _ c]; exact h2 _ (List.getElem_mem c)
 ·rw [List.getD_eq_getElem?_getD, List.getElem?_eq_none (by omega)]
  show (0 : Int) ≤ 0 ∧ (0 : Int) ≤ 1000000
  omega
theorem specHuffLens_ev (l : List Int) : Ev (fun k => spec_HuffLens.f k l) (lensR l) := by
 obtain ⟨K1, k1⟩ := ev_out (countsx_ev l)
 unfold lensR
 by_cases c : okC l = true
 ·rw [if_pos c]
  obtain ⟨h5, _, h2⟩ := okC_out c
  have hev := lensx_l0 l h5 (fun i => (h2 i).2) l.length 0 [] (by omega) (by simp) (fun h hh => by cases hh) rfl List.Pairwise.nil (fun h hh => by cases hh) (fun h hh => by cases hh) (by show (0 : Int) ≤ 1000000 * ((0 : Nat) : Int); omega)
  obtain ⟨K2, k2⟩ := ev_out hev
  refine ev_mk (K1 + K2) fun k hk => ?_
  unfold spec_HuffLens.f
  rw [k1 k (by omega), c, Option.bind_some, if_pos rfl, if_pos (by omega), Int.toNat_natCast, if_pos (by omega)]
  exact k2 k (by omega)
 ·rw [if_neg c]
  refine ev_mk K1 fun k hk => ?_
  unfold spec_HuffLens.f
  rw [k1 k hk, Bool.eq_false_iff.2 c, Option.bind_some, if_neg Bool.false_ne_true]
theorem okH_out2 {l : List Int} (h : okH l = true) : l.length ≤ 300 ∧ inRange l = true ∧ kraft l ≤ 1152921504606846976 := by
 rw [okH, Bool.and_eq_true, decide_eq_true_iff] at h
 obtain ⟨h1, h2⟩ := h
 rw [okFrom_eq l 0 0 0 (by omega) (fun _ => rfl), Bool.and_eq_true, Bool.or_eq_true, Bool.and_eq_true, decide_eq_true_iff, decide_eq_true_iff, Nat.zero_add, Nat.zero_add] at h2
 refine ⟨h1, h2.1, ?_⟩
 rcases h2.2 with q | q
 ·omega
 ·exact Nat.le_trans (kraft_one l q.1) (by decide)
def missing : List Int → List Int → Bool
 | c :: cs, l :: ls => (decide (c > 0) && decide (l = 0)) || missing cs ls
 | _, _ => false
def szL (acc : Int) (cs ls : List Int) : Int := if missing cs ls = true then -1 else acc + dotS cs ls
def sizeR (cs ls : List Int) : Int := if cs.length = ls.length ∧ okH ls = true ∧ okC cs = true then szL 0 cs ls else -1
theorem mulb {a b : Int} (h0 : 0 ≤ a) (h1 : a ≤ 1000000) (h2 : 0 ≤ b) (h3 : b ≤ 60) : 0 ≤ a * b ∧ a * b ≤ 60000000 :=
 ⟨Int.mul_nonneg h0 h2, Int.mul_le_mul h1 h3 h2 (by decide)⟩
theorem dropc (l : List Int) (i : Nat) (h : i < l.length) : l.drop i = l.getD i 0 :: l.drop (i + 1) := by rw [List.drop_eq_getElem_cons h, lget_lt _ _ _ h]
theorem specSize_l0 (cs ls : List Int) (hl : cs.length = ls.length) (h5 : cs.length ≤ 300) (hc : ∀ i, 0 ≤ cs.getD i 0 ∧ cs.getD i 0 ≤ 1000000) (hr : ∀ i, 0 ≤ ls.getD i 0 ∧ ls.getD i 0 ≤ 60) (d : Nat) : ∀ (i : Nat) (acc : Int), i + d = cs.length → 0 ≤ acc → acc ≤ i * 60000000 →
  Ev (fun k => spec_HuffSize.l0 k cs ls acc (i : Int)) (szL acc (cs.drop i) (ls.drop i)) := by
 induction d with
 | zero =>
  intro i acc h _ _
  rw [List.drop_eq_nil_of_le (by omega), List.drop_eq_nil_of_le (by omega)]
  refine Ev.step (f := fun _ => some _) (fun k => ?_) (Ev.now _)
  rw [spec_HuffSize.l0, if_neg (by omega)]
  unfold szL
  rw [missing, if_neg Bool.false_ne_true, dotS, Int.add_zero]
  all_goals simp
 | succ d ih =>
  intro i acc h h0 h1
  rw [dropc cs i (by omega), dropc ls i (by omega)]
  have hci := hc i
  have hli := hr i
  have hm := mulb hci.1 hci.2 hli.1 hli.2
  by_cases c : cs.getD i 0 > 0
  ·by_cases z : ls.getD i 0 = 0
   ·refine Ev.step (f := fun _ => some _) (fun k => ?_) (Ev.now _)
    rw [spec_HuffSize.l0, if_pos (by omega), if_pos (by omega), rd_nat, rd_nat, if_pos c, if_pos (by omega), if_pos z]
    unfold szL
    rw [missing, decide_eq_true c, decide_eq_true z, Bool.and_self, Bool.true_or, if_pos rfl]
   ·have := ih (i + 1) (acc + cs.getD i 0 * ls.getD i 0) (by omega) (by omega) (by omega)
    have e : szL acc (cs.getD i 0 :: cs.drop (i + 1)) (ls.getD i 0 :: ls.drop (i + 1)) = szL (acc + cs.getD i 0 * ls.getD i 0) (cs.drop (i + 1)) (ls.drop (i + 1)) := by
     unfold szL
     rw [missing, decide_eq_false z, Bool.and_false, Bool.false_or, dotS, Int.add_assoc]
    rw [e]
    refine Ev.step (fun k => ?_) this
    rw [spec_HuffSize.l0, if_pos (by omega), if_pos (by omega), rd_nat, rd_nat, if_pos c, if_pos (by omega), if_neg z, w64 (x := cs.getD i 0 * ls.getD i 0) (by omega) (by omega), w64 (x := acc + _) (by omega) (by omega), w64 (x := (i : Int) + 1) (by omega) (by omega)]
    rfl
  ·have := ih (i + 1) (acc + cs.getD i 0 * ls.getD i 0) (by omega) (by omega) (by omega)
   have e : szL acc (cs.getD i 0 :: cs.drop (i + 1)) (ls.getD i 0 :: ls.drop (i + 1)) = szL (acc + cs.getD i 0 * ls.getD i 0) (cs.drop (i + 1)) (ls.drop (i + 1)) := by
    unfold szL
    rw [missing, decide_eq_false c, Bool.false_and, Bool.false_or, dotS, Int.add_assoc]
   rw [e]
   refine Ev.step (fun k => ?_) this
   rw [spec_HuffSize.l0, if_pos (by omega), if_pos (by omega), rd_nat, rd_nat, if_neg c, if_pos (by omega), w64 (x := cs.getD i 0 * ls.getD i 0) (by omega) (by omega), w64 (x := acc + _) (by omega) (by omega), w64 (x := (i : Int) + 1) (by omega) (by omega)]
   rfl
theorem implSize_l0 (cs ls : List Int) (hl : cs.length = ls.length) (h5 : cs.length ≤ 300) (hc : ∀ i, 0 ≤ cs.getD i 0 ∧ cs.getD i 0 ≤ 1000000) (hr : ∀ i, 0 ≤ ls.getD i 0 ∧ ls.getD i 0 ≤ 60) (d : Nat) : ∀ (i : Nat) (acc : Int), i + d = cs.length → 0 ≤ acc → acc ≤ i * 60000000 →
  Ev (fun k => impl_HuffSize.l0 k ls acc cs (cs.length : Int) (i : Int)) (szL acc (cs.drop i) (ls.drop i)) := by
 induction d with
 | zero =>
  intro i acc h _ _
  rw [List.drop_eq_nil_of_le (by omega), List.drop_eq_nil_of_le (by omega)]
  refine Ev.step (f := fun _ => some _) (fun k => ?_) (Ev.now _)
  rw [impl_HuffSize.l0, if_neg (by omega)]
  unfold szL
  rw [missing, if_neg Bool.false_ne_true, dotS, Int.add_zero]
  all_goals simp
 | succ d ih =>
  intro i acc h h0 h1
  rw [dropc cs i (by omega), dropc ls i (by omega)]
  have hci := hc i
  have hli := hr i
  have hm := mulb hci.1 hci.2 hli.1 hli.2
  by_cases c : cs.getD i 0 > 0
  ·by_cases z : ls.getD i 0 = 0
   ·refine Ev.step (f := fun _ => some _) (fun k => ?_) (Ev.now _)
    rw [impl_HuffSize.l0, if_pos (by omega), if_pos (by omega), if_pos (by omega), rd_nat, rd_nat, if_pos c, if_pos (by omega), if_pos z]
    unfold szL
    rw [missing, decide_eq_true c, decide_eq_true z, Bool.and_self, Bool.true_or, if_pos rfl]
   ·have := ih (i + 1) (acc + cs.getD i 0 * ls.getD i 0) (by omega) (by omega) (by omega)
    have e : szL acc (cs.getD i 0 :: cs.drop (i + 1)) (ls.getD i 0 :: ls.drop (i + 1)) = szL (acc + cs.getD i 0 * ls.getD i 0) (cs.drop (i + 1)) (ls.drop (i + 1)) := by
     unfold szL
     rw [missing, decide_eq_false z, Bool.and_false, Bool.false_or, dotS, Int.add_assoc]
    rw [e]
    refine Ev.step (fun k => ?_) this
    rw [impl_HuffSize.l0, if_pos (by omega), if_pos (by omega), if_pos (by omega), rd_nat, rd_nat, if_pos c, if_pos (by omega), if_neg z, w64 (x := cs.getD i 0 * ls.getD i 0) (by omega) (by omega), w64 (x := acc + _) (by omega) (by omega), w64 (x := (i : Int) + 1) (by omega) (by omega)]
    rfl
  ·have := ih (i + 1) (acc + cs.getD i 0 * ls.getD i 0) (by omega) (by omega) (by omega)
   have e : szL acc (cs.getD i 0 :: cs.drop (i + 1)) (ls.getD i 0 :: ls.drop (i + 1)) = szL (acc + cs.getD i 0 * ls.getD i 0) (cs.drop (i + 1)) (ls.drop (i + 1)) := by
    unfold szL
    rw [missing, decide_eq_false c, Bool.false_and, Bool.false_or, dotS, Int.add_assoc]
   rw [e]
   refine Ev.step (fun k => ?_) this
   rw [impl_HuffSize.l0, if_pos (by omega), if_pos (by omega), if_pos (by omega), rd_nat, rd_nat, if_neg c, if_pos (by omega), w64 (x := cs.getD i 0 * ls.getD i 0) (by omega) (by omega), w64 (x := acc + _) (by omega) (by omega), w64 (x := (i : Int) + 1) (by omega) (by omega)]
   rfl
theorem inRange_all {l : List Int} (h : inRange l = true) : (∀ x ∈ l, 0 ≤ x ∧ x ≤ 60) ∧ ∀ i, 0 ≤ l.getD i 0 ∧ l.getD i 0 ≤ 60 := by
 have h2 : ∀ x ∈ l, 0 ≤ x ∧ x ≤ 60 := fun x hx => of_decide_eq_true (List.all_eq_true.1 h x hx)
 refine ⟨h2, fun i => ?_⟩
 by_cases c : i < l.length
 ·rw [lget_lt _ _ _ c]; exact h2 _ (List.getElem_mem c)
 ·rw [List.getD_eq_getElem?_getD, List.getElem?_eq_none (by omega)]
  show (0 : Int) ≤ 0 ∧ (0 : Int) ≤ 60
  omega
theorem specHuffSize_ev (cs ls : List Int) : Ev (fun k => spec_HuffSize.f k cs ls) (sizeR cs ls) := by
 obtain ⟨K1, k1⟩ := ev_out (specHuffOk_ev ls)
 obtain ⟨K2, k2⟩ := ev_out (countsx_ev cs)
 have bad : sizeR cs ls = -1 → ∀ k, spec_HuffSize.j0 (k + 1) cs ls true = some (sizeR cs ls) := fun h k => by rw [spec_HuffSize.j0, if_pos rfl, h]
 by_cases a : cs.length = ls.length
 ·by_cases b : okH ls = true
  ·by_cases c : okC cs = true
   ·obtain ⟨h5, _, hc⟩ := okC_out c
    obtain ⟨_, hi, _⟩ := okH_out2 b
    obtain ⟨K3, k3⟩ := ev_out (specSize_l0 cs ls a h5 hc (inRange_all hi).2 cs.length 0 0 (by omega) (by omega) (by omega))
    have k3' : ∀ k, K3 ≤ k → spec_HuffSize.l0 k cs ls 0 0 = some (szL 0 cs ls) := k3
    refine ev_mk (K1 + K2 + K3 + 1) fun k hk => ?_
    obtain ⟨k, rfl⟩ : ∃ m, k = m + 1 := ⟨k - 1, by omega⟩
    unfold spec_HuffSize.f sizeR
    rw [if_pos (by omega), k1 _ (by omega), b, Option.bind_some, if_pos rfl, k2 _ (by omega), c, Option.bind_some, if_pos ⟨a, rfl, rfl⟩, spec_HuffSize.j0, Bool.not_true, if_neg Bool.false_ne_true]
    exact k3' k (by omega)
   ·refine ev_mk (K1 + K2 + 1) fun k hk => ?_
    obtain ⟨k, rfl⟩ : ∃ m, k = m + 1 := ⟨k - 1, by omega⟩
    unfold spec_HuffSize.f
    rw [if_pos (by omega), k1 _ (by omega), b, Option.bind_some, if_pos rfl, k2 _ (by omega), Bool.eq_false_iff.2 c, Option.bind_some, Bool.not_false]
    exact bad (by unfold sizeR; rw [if_neg (fun h => c h.2.2)]) k
  ·refine ev_mk (K1 + 1) fun k hk => ?_
   obtain ⟨k, rfl⟩ : ∃ m, k = m + 1 := ⟨k - 1, by omega⟩
   unfold spec_HuffSize.f
   rw [if_pos (by omega), k1 _ (by omega), Bool.eq_false_iff.2 b, Option.bind_some, if_neg Bool.false_ne_true]
   exact bad (by unfold sizeR; rw [if_neg (fun h => b h.2.1)]) k
 ·refine ev_mk 1 fun k hk => ?_
  obtain ⟨k, rfl⟩ : ∃ m, k = m + 1 := ⟨k - 1, by omega⟩
  unfold spec_HuffSize.f
  rw [if_neg (by omega)]
  exact bad (by unfold sizeR; rw [if_neg (fun h => a h.1)]) k
theorem implHuffSize_ev (cs ls : List Int) (hm : cs.length ≤ maxLen) : Ev (fun k => impl_HuffSize.f k cs ls) (sizeR cs ls) := by
 obtain ⟨K1, k1⟩ := ev_out (implHuffOk_ev ls)
 have bad : sizeR cs ls = -1 → ∀ k, impl_HuffSize.j0 (k + 1) cs ls true = some (sizeR cs ls) := fun h k => by rw [impl_HuffSize.j0, if_pos rfl, h]
 by_cases a : cs.length = ls.length
 ·by_cases b : okH ls = true
  ·have h3 := (okH_out2 b).1
   have hall : impl_areAll_54.f cs = some (okC cs) := by
    unfold impl_areAll_54.f okC
    rw [if_pos hm, decide_eq_true (show cs.length ≤ 300 by omega), Bool.true_and]
    rfl
   by_cases c : okC cs = true
   ·obtain ⟨h5, _, hc⟩ := okC_out c
    obtain ⟨_, hi, _⟩ := okH_out2 b
    obtain ⟨K3, k3⟩ := ev_out (implSize_l0 cs ls a h5 hc (inRange_all hi).2 cs.length 0 0 (by omega) (by omega) (by omega))
    have k3' : ∀ k, K3 ≤ k → impl_HuffSize.l0 k ls 0 cs (cs.length : Int) 0 = some (szL 0 cs ls) := k3
    refine ev_mk (K1 + K3 + 1) fun k hk => ?_
    obtain ⟨k, rfl⟩ : ∃ m, k = m + 1 := ⟨k - 1, by omega⟩
    unfold impl_HuffSize.f sizeR
    rw [if_pos (by omega), k1 _ (by omega), b, Option.bind_some, if_pos rfl, hall, c, Option.bind_some, if_pos ⟨a, rfl, rfl⟩, impl_HuffSize.j0, Bool.not_true, if_neg Bool.false_ne_true]
    exact k3' k (by omega)
   ·refine ev_mk (K1 + 1) fun k hk => ?_
    obtain ⟨k, rfl⟩ : ∃ m, k = m + 1 := ⟨k - 1, by omega⟩
    unfold impl_HuffSize.f
    rw [if_pos (by omega), k1 _ (by omega), b, Option.bind_some, if_pos rfl, hall, Bool.eq_false_iff.2 c, Option.bind_some, Bool.not_false]
    exact bad (by unfold sizeR; rw [if_neg (fun h => c h.2.2)]) k
  ·refine ev_mk (K1 + 1) fun k hk => ?_
   obtain ⟨k, rfl⟩ : ∃ m, k = m + 1 := ⟨k - 1, by omega⟩
   unfold impl_HuffSize.f
   rw [if_pos (by omega), k1 _ (by omega), Bool.eq_false_iff.2 b, Option.bind_some, if_neg Bool.false_ne_true]
   exact bad (by unfold sizeR; rw [if_neg (fun h => b h.2.1)]) k
 ·refine ev_mk 1 fun k hk => ?_
  obtain ⟨k, rfl⟩ : ∃ m, k = m + 1 := ⟨k - 1, by omega⟩
  unfold impl_HuffSize.f
  rw [if_neg (by omega)]
  exact bad (by unfold sizeR; rw [if_neg (fun h => a h.1)]) k
theorem kr_kraft : ∀ l : List Int, kr l = kraft l
 | [] => rfl
 | x :: l => by
  unfold kr kraft
  rw [kr_kraft l]
  by_cases c : x > 0
  ·rw [if_pos c, if_pos c]; rfl
  ·rw [if_neg c, if_neg c]
theorem missing_get : ∀ (cs ls : List Int), cs.length = ls.length → missing cs ls = false → (∀ l ∈ ls, 0 ≤ l) → ∀ i, cs.getD i 0 > 0 → ls.getD i 0 > 0
 | [], ls, _, _, _, i, h => by simp at h
 | c :: cs, [], hl, _, _, i, h => absurd hl (by simp)
 | c :: cs, l :: ls, hl, hm, h0, i, h => by
  unfold missing at hm
  rw [Bool.or_eq_false_iff] at hm
  cases i with
  | zero =>
   have l0 := h0 l List.mem_cons_self
   simp only [List.getD_cons_zero] at h ⊢
   rw [decide_eq_true h, Bool.true_and] at hm
   have := of_decide_eq_false hm.1
   omega
  | succ i =>
   simp only [List.getD_cons_succ] at h ⊢
   exact missing_get cs ls (by simpa using hl) hm.2 (fun x hx => h0 x (List.mem_cons_of_mem _ hx)) i h
/-- No valid lengths have a smaller size than those of HuffLens. -/
theorem size_best (cs ls : List Int) : sizeR cs (lensR cs) < 0 ∨ sizeR cs ls < 0 ∨ sizeR cs (lensR cs) ≤ sizeR cs ls := by
 by_cases h1 : sizeR cs (lensR cs) < 0
 ·exact .inl h1
 ·by_cases h2 : sizeR cs ls < 0
  ·exact .inr (.inl h2)
  ·refine .inr (.inr ?_)
   unfold sizeR at h1 h2 ⊢
   by_cases c1 : cs.length = (lensR cs).length ∧ okH (lensR cs) = true ∧ okC cs = true
   ·rw [if_pos c1] at h1 ⊢
    by_cases c2 : cs.length = ls.length ∧ okH ls = true ∧ okC cs = true
    ·rw [if_pos c2] at h2 ⊢
     unfold szL at h1 h2 ⊢
     by_cases m1 : missing cs (lensR cs) = true
     ·rw [if_pos m1] at h1; omega
     ·rw [if_neg m1] at h1 ⊢
      by_cases m2 : missing cs ls = true
      ·rw [if_pos m2] at h2; omega
      ·rw [if_neg m2] at h2 ⊢
       obtain ⟨_, hc, _⟩ := okC_out c1.2.2
       obtain ⟨_, hi, hk⟩ := okH_out2 c2.2.1
       have hr := (inRange_all hi).1
       have := huf_best cs ls c2.1 (fun c h => (hc c h).1) hr (missing_get cs ls c2.1 (Bool.eq_false_iff.2 m2) (fun l h => (hr l h).1)) (by rw [kr_kraft]; exact hk)
       unfold lensR
       rw [if_pos c1.2.2]
       omega
    ·rw [if_neg c2] at h2; omega
   ·rw [if_neg c1] at h1; omega
theorem countsOf_l0 (top : Int) (ht : 1 ≤ top ∧ top ≤ 1000001) (c : Nat) : ∀ {code : List Int} {B t u : Int} (out : List Int), Cur code B t u → B + 4 * (c : Int) ≤ 800000000 → out.length + c ≤ 100 →
  ∃ l t' u', Ev (fun k => spec_l01Cur_countsOf.l0 k out top (c : Int) code t u) (l, t', u') ∧ l.length ≤ 301 ∧ Cur code (B + 4 * (c : Int) + 20) t' u' := by
 induction c with
 | zero =>
  intro code B t u out h hB hl
  obtain ⟨v, t1, u1, e1, a1, b1, _, c1⟩ := pick_ev h (by omega) 14 (by omega)
  by_cases g0 : v = 0
  ·obtain ⟨v2, t2, u2, e2, _, _, c2⟩ := raw_ev c1 (by omega)
   refine ⟨out ++ [v2], t2, u2, Ev.step (f := fun _ => some _) (fun k => ?_) (Ev.now _), by rw [List.length_append]; simp; omega, c2.more (by omega)⟩
   rw [spec_l01Cur_countsOf.l0, if_neg (by omega), e1, Option.bind_some, if_pos g0, e2, Option.bind_some, if_pos (by omega)]
  ·by_cases g1 : v = 1
   ·obtain ⟨v2, t2, u2, e2, a2, b2, _, c2⟩ := pick_ev c1 (by omega) 2 (by omega)
    have b2 := b2 (by omega)
    refine ⟨List.replicate (300 + v2).toNat 0, t2, u2, Ev.step (f := fun _ => some _) (fun k => ?_) (Ev.now _), by rw [List.length_replicate]; omega, c2.more (by omega)⟩
    rw [spec_l01Cur_countsOf.l0, if_neg (by omega), e1, Option.bind_some, if_neg g0, if_pos g1, e2, Option.bind_some, w64 (by omega) (by omega), if_pos (by omega), if_pos (by omega)]
   ·by_cases g2 : v = 2
    ·obtain ⟨v2, t2, u2, e2, a2, b2, _, c2⟩ := pick_ev c1 (by omega) 13 (by omega)
     have b2 := b2 (by omega)
     refine ⟨([1, 1, 2, 3, 5, 8, 13, 21, 34, 55, 89, 144] : List Int).take v2.toNat, t2, u2, Ev.step (f := fun _ => some _) (fun k => ?_) (Ev.now _), by rw [List.length_take]; omega, c2.more (by omega)⟩
     rw [spec_l01Cur_countsOf.l0, if_neg (by omega), e1, Option.bind_some, if_neg g0, if_neg g1, if_pos g2, Option.bind_some, e2, Option.bind_some, if_pos a2, if_pos (by simp; omega)]
    ·refine ⟨out, t1, u1, Ev.step (f := fun _ => some _) (fun k => ?_) (Ev.now _), by omega, c1.more (by omega)⟩
     rw [spec_l01Cur_countsOf.l0, if_neg (by omega), e1, Option.bind_some, if_neg g0, if_neg g1, if_neg g2]
 | succ c ih =>
  intro code B t u out h hB hl
  obtain ⟨v, t1, u1, e1, a1, b1, c1⟩ := wide_ev h (by omega) top ht.1 (by omega)
  obtain ⟨o, t2, u2, e2, c2⟩ := once_ev c1 (by omega) 4 (by omega)
  cases o with
  | true =>
   obtain ⟨l, t', u', hev, hlen, hc⟩ := ih (out ++ [0]) c2 (by omega) (by rw [List.length_append]; simp; omega)
   refine ⟨l, t', u', Ev.step (fun k => ?_) hev, hlen, hc.more (by omega)⟩
   rw [spec_l01Cur_countsOf.l0, if_pos (by omega), e1, Option.bind_some, e2, Option.bind_some, if_pos rfl, if_pos (by omega), w64 (by omega) (by omega), show ((c + 1 : Nat) : Int) - 1 = (c : Int) by omega]
  | false =>
   obtain ⟨l, t', u', hev, hlen, hc⟩ := ih (out ++ [v]) c2 (by omega) (by rw [List.length_append]; simp; omega)
   refine ⟨l, t', u', Ev.step (fun k => ?_) hev, hlen, hc.more (by omega)⟩
   rw [spec_l01Cur_countsOf.l0, if_pos (by omega), e1, Option.bind_some, e2, Option.bind_some, if_neg (by simp), if_pos (by omega), w64 (by omega) (by omega), show ((c + 1 : Nat) : Int) - 1 = (c : Int) by omega]
theorem countsOf_ev {code : List Int} {B t u : Int} (h : Cur code B t u) (hB : B ≤ 1000) :
  ∃ l t' u', Ev (fun k => spec_l01Cur_countsOf.f k code t u) (l, t', u') ∧ l.length ≤ 301 ∧ Cur code (B + 100) t' u' := by
 obtain ⟨v, t1, u1, e1, a1, b1, _, c1⟩ := pick_ev h (by omega) 4 (by omega)
 have b1 := b1 (by omega)
 obtain ⟨v2, t2, u2, e2, a2, b2, c2⟩ := size_ev c1 (by omega) 14 (by omega) (by omega)
 obtain ⟨j, rfl⟩ := Int.eq_ofNat_of_zero_le a1
 obtain ⟨n, rfl⟩ := Int.eq_ofNat_of_zero_le a2
 have hr : 1 ≤ rd [2, 9, 200, 1000001] (j : Int) ∧ rd [2, 9, 200, 1000001] (j : Int) ≤ 1000001 := by
  have hj : j < 4 := by omega
  match j, hj with
  | 0, _ => decide
  | 1, _ => decide
  | 2, _ => decide
  | 3, _ => decide
 obtain ⟨l, t', u', hev, hlen, hc⟩ := countsOf_l0 (rd [2, 9, 200, 1000001] (j : Int)) hr n [] c2 (by omega) (by simp; omega)
 refine ⟨l, t', u', Ev.congr (fun k => ?_) hev, hlen, hc.more (by omega)⟩
 unfold spec_l01Cur_countsOf.f
 rw [Option.bind_some, e1, Option.bind_some, if_pos (by omega), if_pos (by simp; omega), e2, Option.bind_some]
theorem lensOf_ev {code : List Int} {B t u : Int} (h : Cur code B t u) (hB : B ≤ 1000) :
  ∃ l t' u', Ev (fun k => spec_l01Cur_lensOf.f k code t u) (l, t', u') ∧ l.length ≤ 300 ∧ Cur code (B + 200) t' u' := by
 obtain ⟨l, t1, u1, hev, hl, c1⟩ := countsOf_ev h hB
 obtain ⟨r, hr, hev2⟩ := huffLens_ev l
 obtain ⟨K1, k1⟩ := ev_out hev
 obtain ⟨K2, k2⟩ := ev_out hev2
 by_cases g : (r.length : Int) > 0
 case neg =>
  refine ⟨r, t1, u1, ev_mk (K1 + K2) fun k hk => ?_, hr, c1.more (by omega)⟩
  unfold spec_l01Cur_lensOf.f
  rw [k1 k (by omega), Option.bind_some, k2 k (by omega), Option.bind_some, if_neg g]
 have m1 : 1 ≤ mn 200 (r.length : Int) ∧ mn 200 (r.length : Int) ≤ (r.length : Int) := by unfold mn; split <;> omega
 obtain ⟨v2, t2, u2, e2, a2, b2, _, c2⟩ := pick_ev c1 (by omega) (mn 200 (r.length : Int)) (by omega)
 have b2 := b2 (by omega)
 obtain ⟨v3, t3, u3, e3, a3, b3, _, c3⟩ := pick_ev c2 (by omega) 10 (by omega)
 by_cases g0 : v3 = 0
 ·obtain ⟨v4, t4, u4, e4, _, _, c4⟩ := raw_ev c3 (by omega)
  obtain ⟨v5, t5, u5, e5, a5, b5, _, c5⟩ := pick_ev c4 (by omega) 3 (by omega)
  have b5 := b5 (by omega)
  refine ⟨r.set v2.toNat (rd [v4, 60, 61] v5), t5, u5, ev_mk (K1 + K2) fun k hk => ?_, by rw [List.length_set]; exact hr, c5.more (by omega)⟩
  unfold spec_l01Cur_lensOf.f
  rw [k1 k (by omega), Option.bind_some, k2 k (by omega), Option.bind_some, if_pos g, e2, Option.bind_some, e3, Option.bind_some, if_pos g0, e4, Option.bind_some, Option.bind_some, e5, Option.bind_some, if_pos a5, if_pos (by simp; omega), if_pos a2, if_pos (by omega)]
 ·by_cases g1 : v3 = 1
  ·refine ⟨r.set v2.toNat (wrap64 ((rd r v2) + 1)), t3, u3, ev_mk (K1 + K2) fun k hk => ?_, by rw [List.length_set]; exact hr, c3.more (by omega)⟩
   unfold spec_l01Cur_lensOf.f
   rw [k1 k (by omega), Option.bind_some, k2 k (by omega), Option.bind_some, if_pos g, e2, Option.bind_some, e3, Option.bind_some, if_neg g0, if_pos g1, if_pos a2, if_pos (by omega)]
  ·by_cases g2 : v3 = 2
   ·obtain ⟨v5, t5, u5, e5, a5, b5, _, c5⟩ := pick_ev c3 (by omega) (mn 200 (r.length : Int)) (by omega)
    have b5 := b5 (by omega)
    refine ⟨(r.set v2.toNat (rd r v5)).set v5.toNat (rd r v2), t5, u5, ev_mk (K1 + K2) fun k hk => ?_, by rw [List.length_set, List.length_set]; exact hr, c5.more (by omega)⟩
    unfold spec_l01Cur_lensOf.f
    rw [k1 k (by omega), Option.bind_some, k2 k (by omega), Option.bind_some, if_pos g, e2, Option.bind_some, e3, Option.bind_some, if_neg g0, if_neg g1, if_pos g2, e5, Option.bind_some, if_pos a2, if_pos (by omega), if_pos a5, if_pos (by omega)]
   ·refine ⟨r, t3, u3, ev_mk (K1 + K2) fun k hk => ?_, hr, c3.more (by omega)⟩
    unfold spec_l01Cur_lensOf.f
    rw [k1 k (by omega), Option.bind_some, k2 k (by omega), Option.bind_some, if_pos g, e2, Option.bind_some, e3, Option.bind_some, if_neg g0, if_neg g1, if_neg g2]
theorem drawSize_ev {code : List Int} (h1 : ∀ x ∈ code, 0 ≤ x ∧ x ≤ 255) (h2 : code.length ≤ 140737488351232) : ∃ cs other : List Int, cs.length ≤ 301 ∧ Ev (fun k => spec_DrawHuffSize.f k code) (cs, other) := by
 obtain ⟨t, u, e, c⟩ := open_ev h1 h2
 obtain ⟨cs, t1, u1, hev, hl, c1⟩ := countsOf_ev c (by omega)
 obtain ⟨K1, k1⟩ := ev_out hev
 obtain ⟨K2, k2⟩ := ev_out (specHuffLens_ev cs)
 obtain ⟨b, t2, u2, e2, c2⟩ := once_ev c1 (by omega) 3 (by omega)
 cases b with
 | false =>
  refine ⟨cs, lensR cs, hl, ev_mk (K1 + K2) fun k hk => ?_⟩
  unfold spec_DrawHuffSize.f
  rw [e, Option.bind_some, k1 k (by omega), Option.bind_some, k2 k (by omega), Option.bind_some, e2, Option.bind_some, if_neg Bool.false_ne_true]
 | true =>
  obtain ⟨o, t3, u3, hev3, _, _⟩ := lensOf_ev c2 (by omega)
  obtain ⟨K3, k3⟩ := ev_out hev3
  refine ⟨cs, o, hl, ev_mk (K1 + K2 + K3) fun k hk => ?_⟩
  unfold spec_DrawHuffSize.f
  rw [e, Option.bind_some, k1 k (by omega), Option.bind_some, k2 k (by omega), Option.bind_some, e2, Option.bind_some, if_pos rfl, k3 k (by omega), Option.bind_some]
theorem lastUsed_l0 (cs : List Int) (h5 : cs.length ≤ 1000) (d : Nat) : ∀ (i : Nat) (at_ : Int), i + d = cs.length → ∃ r, Ev (fun k => laws_lastUsed.l0 k cs at_ (i : Int)) r := by
 induction d with
 | zero =>
  intro i at_ h
  refine ⟨at_, Ev.step (f := fun _ => some _) (fun k => ?_) (Ev.now _)⟩
  rw [laws_lastUsed.l0, if_neg (by omega)]
 | succ d ih =>
  intro i at_ h
  by_cases c : cs.getD i 0 > 0
  ·obtain ⟨r, hr⟩ := ih (i + 1) (i : Int) (by omega)
   refine ⟨r, Ev.step (fun k => ?_) hr⟩
   rw [laws_lastUsed.l0, if_pos (by omega), if_pos (by omega), rd_nat, if_pos c, w64 (by omega) (by omega)]
   rfl
  ·obtain ⟨r, hr⟩ := ih (i + 1) at_ (by omega)
   refine ⟨r, Ev.step (fun k => ?_) hr⟩
   rw [laws_lastUsed.l0, if_pos (by omega), if_pos (by omega), rd_nat, if_neg c, w64 (by omega) (by omega)]
   rfl
theorem best_l0 (cs other : List Int) (h5 : cs.length ≤ 301) (d : Nat) : ∀ (i : Nat) (used : Int) (flat : List Int), i + d = cs.length → flat.length = cs.length → 0 ≤ used → used ≤ i →
  Ev (fun k => laws_FnHuffBest.l0 k (sizeR cs (lensR cs)) (sizeR cs other) used (i : Int) cs (lensR cs) flat) true := by
 induction d with
 | zero =>
  intro i used flat h hf h0 h1
  obtain ⟨K1, k1⟩ := ev_out (specHuffSize_ev cs flat)
  obtain ⟨K2, k2⟩ := ev_out (specHuffSize_ev cs (lensR cs))
  refine ev_mk (K1 + K2 + 1) fun k hk => ?_
  obtain ⟨k, rfl⟩ : ∃ m, k = m + 1 := ⟨k - 1, by omega⟩
  have b1 := size_best cs flat
  have b2 := size_best cs other
  rw [laws_FnHuffBest.l0, if_neg (by omega), k1 k (by omega), Option.bind_some, k2 k (by omega), Option.bind_some, if_pos rfl]
  generalize sizeR cs (lensR cs) = s at *
  generalize sizeR cs flat = f at *
  generalize sizeR cs other = o at *
  by_cases c0 : s < 0
  ·rw [if_pos c0]
  ·rw [if_neg c0]
   by_cases c1 : o < 0
   ·rw [if_pos c1]
    by_cases c2 : f < 0
    ·rw [if_pos c2]
    ·rw [if_neg c2, decide_eq_true (by omega)]
   ·rw [if_neg c1, if_pos (by omega)]
    by_cases c2 : f < 0
    ·rw [if_pos c2]
    ·rw [if_neg c2, decide_eq_true (by omega)]
 | succ d ih =>
  intro i used flat h hf h0 h1
  by_cases c : cs.getD i 0 > 0
  ·obtain ⟨t, ht⟩ := lastUsed_l0 cs (by omega) cs.length 0 (-1) (by omega)
   obtain ⟨K1, k1⟩ := ev_out ht
   have k1' : ∀ k, K1 ≤ k → laws_lastUsed.f k cs = some t := k1
   obtain ⟨K2, k2⟩ := ev_out (ih (i + 1) (used + 1) (flat.set i (used + 1)) (by omega) (by rw [List.length_set]; exact hf) (by omega) (by omega))
   obtain ⟨K3, k3⟩ := ev_out (ih (i + 1) (used + 1) ((flat.set i (used + 1)).set i (used + 1 - 1)) (by omega) (by rw [List.length_set, List.length_set]; exact hf) (by omega) (by omega))
   refine ev_mk (K1 + K2 + K3 + 1) fun k hk => ?_
   obtain ⟨k, rfl⟩ : ∃ m, k = m + 1 := ⟨k - 1, by omega⟩
   have q2 := k2 k (by omega)
   have q3 := k3 k (by omega)
   rw [show ((i + 1 : Nat) : Int) = (i : Int) + 1 by omega] at q2 q3
   rw [laws_FnHuffBest.l0, if_pos (by omega), if_pos (by omega), rd_nat, if_pos c, if_pos (by omega), Option.bind_some, k1' k (by omega), Option.bind_some, Int.toNat_natCast, w64 (x := used + 1) (by omega) (by omega), w64 (x := (i : Int) + 1) (by omega) (by omega), w64 (x := used + 1 - 1) (by omega) (by omega)]
   by_cases a : (i : Int) = t
   ·rw [if_pos a]
    by_cases b : used + 1 > 1
    ·rw [if_pos b]; exact q3
    ·rw [if_neg b]; exact q2
   ·rw [if_neg a]; exact q2
  ·have := ih (i + 1) used flat (by omega) hf h0 (by omega)
   refine Ev.step (fun k => ?_) this
   rw [laws_FnHuffBest.l0, if_pos (by omega), if_pos (by omega), rd_nat, if_neg c, w64 (by omega) (by omega)]
   rfl
theorem lensR_len (cs : List Int) : (lensR cs).length ≤ 300 := by
 unfold lensR
 by_cases c : okC cs = true
 ·rw [if_pos c, hufL_len]
  exact (okC_out c).1
 ·rw [if_neg c]
  simp
theorem FnHuffBest : laws_FnHuffBest.Pure := by
 intro code _ hc hw
 by_cases g : (code.length : Int) > 1048576
 ·exact ⟨0, by unfold laws_FnHuffBest.f laws_big.f; rw [Option.bind_some, if_pos (decide_eq_true g)]⟩
 obtain ⟨cs, other, hl, hd⟩ := drawSize_ev (code_wf hw) (by omega)
 have hm : cs.length ≤ maxLen := by unfold maxLen; omega
 obtain ⟨K1, h1⟩ := ev_out hd
 obtain ⟨K2, h2⟩ := ev_out (specHuffLens_ev cs)
 obtain ⟨K3, h3⟩ := ev_out (lawSame_ev (lensR cs) (by have := lensR_len cs; omega))
 obtain ⟨K4, h4⟩ := ev_out (implHuffSize_ev cs (lensR cs) hm)
 obtain ⟨K5, h5⟩ := ev_out (specHuffSize_ev cs other)
 obtain ⟨K6, h6⟩ := ev_out (best_l0 cs other hl cs.length 0 0 (List.replicate cs.length 0) (by omega) (by rw [List.length_replicate]) (by omega) (by omega))
 have h6' : ∀ k, K6 ≤ k → laws_FnHuffBest.l0 k (sizeR cs (lensR cs)) (sizeR cs other) 0 0 cs (lensR cs) (List.replicate cs.length 0) = some true := h6
 have hi : impl_HuffLens.f cs = some (lensR cs) := by unfold impl_HuffLens.f; rw [if_pos hm]
 obtain ⟨K, hK⟩ : ∃ K, K = K1 + K2 + K3 + K4 + K5 + K6 := ⟨_, rfl⟩
 refine ⟨K, ?_⟩
 unfold laws_FnHuffBest.f laws_big.f
 rw [Option.bind_some, decide_eq_false (by omega), if_neg Bool.false_ne_true, h1 _ (by omega), Option.bind_some]
 dsimp only
 rw [h2 _ (by omega), Option.bind_some, hi, Option.bind_some, h3 _ (by omega), Option.bind_some, if_pos rfl, h4 _ (by omega), Option.bind_some, h5 _ (by omega), Option.bind_some, if_pos (by omega), Int.toNat_natCast, if_pos (by omega)]
 exact h6' _ (by omega)

end Go.Proofs.Ytgjmmegmkdklbaa.Pure
