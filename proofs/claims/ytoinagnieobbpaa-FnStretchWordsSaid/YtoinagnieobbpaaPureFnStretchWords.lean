/- For every drawn text and stretch: the program's StretchOf finds the stretch from its StretchWord, and its StretchKids are disjoint stretches within it with a greater Depth. -/
import Derived.Test.YtoinagnieobbpaaQFnStretchWordsx14
import Derived.Test.YtoinagnieobbpaaBase
import Derived.Test.YtoinagnieobbpaaSx
namespace Go.Proofs.Ytoinagnieobbpaa.Pure
open Go.RowKit Go.Proofs.Ytoinagnieobbpaa.QFnStretchWords Go.Proofs.YtoinagnieobbpaaW.PrintWords Go.Proofs.YtoinagnieobbpaaW.PrintLast Go.Proofs.YtoinagnieobbpaaW.PrintMore
open Go.Proofs.Ytoinagnieobbpaa Go.Proofs.Ytoinagnieobbpaa.Base Go.Proofs.Ytoinagnieobbpaa.Sx
set_option linter.unusedVariables false
set_option linter.unusedSimpArgs false

theorem bs {α β : Type} (a : α) (f : α → Option β) : (some a).bind f = f a := rfl
/-- A cursor over code: what is kept of it. 'B': how far it may have gone. -/
def Cur (code : List Int) (B : Int) (t u : Int) : Prop := (∀ x ∈ code, 0 ≤ x ∧ x ≤ 255) ∧ code.length ≤ 140737488351232 ∧ 0 ≤ t ∧ t ≤ B ∧ 0 ≤ u ∧ u ≤ 66600
theorem Cur.more {code : List Int} {B B' t u : Int} (h : Cur code B t u) (hB : B ≤ B') : Cur code B' t u := ⟨h.1, h.2.1, h.2.2.1, by have := h.2.2.2.1; omega, h.2.2.2.2⟩
theorem rd_code {code : List Int} (h : ∀ x ∈ code, 0 ≤ x ∧ x ≤ 255) (i : Int) : 0 ≤ rd code i ∧ rd code i ≤ 255 := by
 unfold rd
 rw [List.getD_eq_getElem?_getD]
 cases hq : code[i.toNat]? with
 | none => exact ⟨by show (0 : Int) ≤ 0; omega, by show (0 : Int) ≤ 255; omega⟩
 | some x => exact h x (List.mem_of_getElem? hq)
theorem pick_ev {code : List Int} {B t u : Int} (h : Cur code B t u) (hB : B ≤ 1000000000) (n : Int) (hn : n ≤ 1000000000000) :
  ∃ v t' u', spec_l01Cur_pick.f code t u n = some (v, t', u') ∧ 0 ≤ v ∧ (1 ≤ n → v < n) ∧ (n < 2 → v = 0) ∧ Cur code (B + 1) t' u' := by
 obtain ⟨h1, h2, h3, h4, h5, h6⟩ := h
 unfold spec_l01Cur_pick.f
 by_cases c0 : n < 2
 ·exact ⟨0, t, u, if_pos c0, by omega, fun _ => by omega, fun _ => rfl, h1, h2, h3, by omega, h5, h6⟩
 ·have npos : 0 < n := by omega
  have wt : wrap64 (t + 1) = t + 1 := w64 (by omega) (by omega)
  rw [if_neg c0]
  by_cases c1 : t < (code.length : Int)
  ·obtain ⟨r0, r1⟩ := rd_code h1 t
   refine ⟨Int.tmod (rd code t) n, t + 1, u, by rw [if_pos c1, if_pos h3, if_neg (by omega), w64 (by omega) (by omega), wt], Int.tmod_nonneg _ r0, fun _ => Int.tmod_lt_of_pos _ npos, fun hn2 => absurd hn2 c0, h1, h2, by omega, by omega, h5, h6⟩
  ·have w1 : wrap64 (u * 1103) = u * 1103 := w64 (by omega) (by omega)
   have w2 : wrap64 (u * 1103 + 12345) = u * 1103 + 12345 := w64 (by omega) (by omega)
   have s0 : 0 ≤ Int.tmod (u * 1103 + 12345) 65521 := Int.tmod_nonneg _ (by omega)
   have s1 : Int.tmod (u * 1103 + 12345) 65521 < 65521 := Int.tmod_lt_of_pos _ (by omega)
   by_cases c2 : (code.length : Int) > 0
   ·have i0 : 0 ≤ Int.tmod t (code.length : Int) := Int.tmod_nonneg _ h3
    have i1 : Int.tmod t (code.length : Int) < (code.length : Int) := Int.tmod_lt_of_pos _ c2
    obtain ⟨r0, r1⟩ := rd_code h1 (Int.tmod t (code.length : Int))
    have d0 : 0 ≤ Int.tdiv (Int.tmod (u * 1103 + 12345) 65521) 7 := Int.tdiv_nonneg s0 (by omega)
    have d1 : Int.tdiv (Int.tmod (u * 1103 + 12345) 65521) 7 ≤ 65521 := by
     have := Int.tdiv_le_self 7 s0
     omega
    refine ⟨Int.tmod (Int.tdiv (Int.tmod (u * 1103 + 12345) 65521) 7 + rd code (Int.tmod t (code.length : Int))) n, t + 1, Int.tmod (u * 1103 + 12345) 65521, ?_, Int.tmod_nonneg _ (by omega), fun _ => Int.tmod_lt_of_pos _ npos, fun hn2 => absurd hn2 c0, h1, h2, by omega, by omega, s0, by omega⟩
    rw [if_neg c1, if_pos c2, if_neg (by omega), if_pos i0, if_pos i1, if_neg (by omega), w1, w2, wt, w64 (x := Int.tdiv (Int.tmod (u * 1103 + 12345) 65521) 7) (by omega) (by omega), w64 (x := rd code (Int.tmod t (code.length : Int))) (by omega) (by omega), w64 (by omega) (by omega)]
   ·refine ⟨(0 : Int) % n, t + 1, Int.tmod (u * 1103 + 12345) 65521, by rw [if_neg c1, if_neg c2, if_neg (by omega), w1, w2, wt], Int.emod_nonneg _ (by omega), fun _ => Int.emod_lt_of_pos _ npos, fun hn2 => absurd hn2 c0, h1, h2, by omega, by omega, s0, by omega⟩
theorem open_ev {code : List Int} (h1 : ∀ x ∈ code, 0 ≤ x ∧ x ≤ 255) (h2 : code.length ≤ 140737488351232) : ∃ t u, spec_l01Open.f code = some (code, t, u) ∧ Cur code 0 t u := by
 refine ⟨0, 89 + ((code.length : Int) % 1000), rfl, h1, h2, by omega, by omega, ?_, ?_⟩
 ·have := Int.emod_nonneg (code.length : Int) (show (1000 : Int) ≠ 0 by omega); omega
 ·have := Int.emod_lt_of_pos (code.length : Int) (show (0 : Int) < 1000 by omega); omega
theorem code_wf {code : List Int} (h : ∀ x ∈ code, (Lit.int .u8 x).wf = true) : ∀ x ∈ code, 0 ≤ x ∧ x ≤ 255 := fun x hx => by
 have := h x hx
 simp only [Lit.wf, IntKind.min, IntKind.max, IntKind.signed, IntKind.bits, Bool.and_eq_true, decide_eq_true_eq] at this
 simpa using this
theorem size_ev {code : List Int} {B t u : Int} (h : Cur code B t u) (hB : B ≤ 1000000000) (n : Int) (h0 : 0 ≤ n) (hn : n ≤ 1000000) :
  ∃ v t' u', spec_l01Cur_size.f code t u n = some (v, t', u') ∧ 0 ≤ v ∧ v ≤ n ∧ Cur code (B + 1) t' u' := by
 have hl := h.2.1
 unfold spec_l01Cur_size.f
 have w1 : wrap64 ((code.length : Int) / 8) = (code.length : Int) / 8 := w64 (by omega) (by omega)
 have w2 : wrap64 (1 + (code.length : Int) / 8) = 1 + (code.length : Int) / 8 := w64 (by omega) (by omega)
 have m1 : mn n (1 + (code.length : Int) / 8) ≤ n ∧ 0 ≤ mn n (1 + (code.length : Int) / 8) := by unfold mn; split <;> omega
 rw [w1, w2, w64 (x := mn n (1 + (code.length : Int) / 8) + 1) (by omega) (by omega)]
 obtain ⟨v, t', u', e, v0, v1, _, hc⟩ := pick_ev h hB (mn n (1 + (code.length : Int) / 8) + 1) (by omega)
 refine ⟨v, t', u', ?_, v0, ?_, hc⟩
 ·rw [e, bs]
 ·have := v1 (by omega); omega
theorem raw_ev {code : List Int} {B t u : Int} (h : Cur code B t u) (hB : B ≤ 900000000) :
  ∃ v t' u', spec_l01Cur_raw.f code t u = some (v, t', u') ∧ -9223372036854775808 ≤ v ∧ v ≤ 9223372036854775807 ∧ Cur code (B + 2) t' u' := by
 obtain ⟨v1, t1, u1, e1, a1, b1, _, c1⟩ := pick_ev h (by omega) 8 (by omega)
 have b1 := b1 (by omega)
 unfold spec_l01Cur_raw.f
 rw [e1, bs]
 by_cases g0 : v1 = 0
 ·obtain ⟨v2, t2, u2, e2, a2, b2, _, c2⟩ := pick_ev c1 (by omega) 256 (by omega)
  have b2 := b2 (by omega)
  exact ⟨v2 - 128, t2, u2, by rw [if_pos g0, e2, bs, w64 (by omega) (by omega)], by omega, by omega, c2.more (by omega)⟩
 ·by_cases g1 : v1 = 1
  ·obtain ⟨v2, t2, u2, e2, a2, b2, _, c2⟩ := pick_ev c1 (by omega) 8 (by omega)
   have b2 := b2 (by omega)
   obtain ⟨j, rfl⟩ := Int.eq_ofNat_of_zero_le a2
   have hin : ∀ x ∈ ([9223372036854775807, (-9223372036854775808), 4611686018427387904, 4294967295, 4294967296, (-1000), 1000, 257] : List Int), -9223372036854775808 ≤ x ∧ x ≤ 9223372036854775807 := by
    intro x hx
    simp at hx
    omega
   have hr := hin (rd [9223372036854775807, (-9223372036854775808), 4611686018427387904, 4294967295, 4294967296, (-1000), 1000, 257] (j : Int)) (by
    rw [rd_nat, lget_lt _ j 0 (by simp; omega)]
    exact List.getElem_mem _)
   exact ⟨_, t2, u2, by rw [if_neg g0, if_pos g1, bs, e2, bs, if_pos (by omega), if_pos (by simp; omega)], hr.1, hr.2, c2.more (by omega)⟩
  ·obtain ⟨v2, t2, u2, e2, a2, b2, _, c2⟩ := pick_ev c1 (by omega) 14 (by omega)
   have b2 := b2 (by omega)
   exact ⟨v2 - 3, t2, u2, by rw [if_neg g0, if_neg g1, e2, bs, w64 (by omega) (by omega)], by omega, by omega, c2.more (by omega)⟩
theorem once_ev {code : List Int} {B t u : Int} (h : Cur code B t u) (hB : B ≤ 1000000000) (n : Int) (hn : n ≤ 1000000000000) :
  ∃ b t' u', spec_l01Cur_once.f code t u n = some (b, t', u') ∧ Cur code (B + 1) t' u' := by
 obtain ⟨v, t', u', e, _, _, _, hc⟩ := pick_ev h hB n hn
 refine ⟨(v == wrap64 (n - 1)), t', u', ?_, hc⟩
 unfold spec_l01Cur_once.f
 rw [e, bs]
theorem specCmp_l0 (a b : List Int) (ha : a.length ≤ 2000000) (hb : b.length ≤ 2000000) (d : Nat) : ∀ i : Nat, i + d = a.length → i ≤ b.length → Ev (fun k => spec_l05Cmp.l0 k a b (i : Int)) (Fv.cmpB (a.drop i) (b.drop i)) := by
 induction d with
 | zero =>
  intro i h hi
  refine Ev.step (f := fun k => spec_l05Cmp.j1 k a b (i : Int) false) (fun k => ?_) (Ev.step (f := fun _ => some _) (fun k => ?_) (Ev.now _))
  ·rw [spec_l05Cmp.l0, if_neg (by omega)]
  ·rw [spec_l05Cmp.j1, if_neg (by decide), List.drop_eq_nil_of_le (show a.length ≤ i by omega)]
   by_cases c : (a.length : Int) < (b.length : Int)
   ·rw [if_pos c, drop_at b i (by omega)]
    rfl
   ·rw [if_neg c, if_neg (by omega), List.drop_eq_nil_of_le (show b.length ≤ i by omega)]
    rfl
 | succ d ih =>
  intro i h hi
  rw [drop_at a i (by omega)]
  by_cases c : i < b.length
  ·rw [drop_at b i c, Fv.cmpB]
   by_cases c1 : a.getD i 0 < b.getD i 0
   ·refine Ev.step (f := fun k => spec_l05Cmp.j1 k a b (i : Int) true) (fun k => ?_) (Ev.step (f := fun _ => some _) (fun k => ?_) (Ev.now _))
    ·rw [spec_l05Cmp.l0, if_pos (by omega), decide_eq_true (show (i : Int) < (b.length : Int) by omega)]
    ·rw [spec_l05Cmp.j1, if_pos rfl, if_pos (by omega), if_pos (by omega), if_pos (by omega), rd_nat, rd_nat, if_pos c1, if_pos c1]
   ·by_cases c2 : b.getD i 0 < a.getD i 0
    ·refine Ev.step (f := fun k => spec_l05Cmp.j1 k a b (i : Int) true) (fun k => ?_) (Ev.step (f := fun _ => some _) (fun k => ?_) (Ev.now _))
     ·rw [spec_l05Cmp.l0, if_pos (by omega), decide_eq_true (show (i : Int) < (b.length : Int) by omega)]
     ·rw [spec_l05Cmp.j1, if_pos rfl, if_pos (by omega), if_pos (by omega), if_pos (by omega), rd_nat, rd_nat, if_neg c1, if_pos c2, if_neg c1, if_pos c2]
    ·rw [if_neg c1, if_neg c2]
     refine Ev.step (f := fun k => spec_l05Cmp.j1 k a b (i : Int) true) (fun k => ?_) (Ev.step (fun k => ?_) (ih (i + 1) (by omega) (by omega)))
     ·rw [spec_l05Cmp.l0, if_pos (by omega), decide_eq_true (show (i : Int) < (b.length : Int) by omega)]
     ·rw [spec_l05Cmp.j1, if_pos rfl, if_pos (by omega), if_pos (by omega), if_pos (by omega), rd_nat, rd_nat, if_neg c1, if_neg c2, w64 (by omega) (by omega)]
      rfl
  ·rw [List.drop_eq_nil_of_le (show b.length ≤ i by omega)]
   refine Ev.step (f := fun k => spec_l05Cmp.j1 k a b (i : Int) false) (fun k => ?_) (Ev.step (f := fun _ => some _) (fun k => ?_) (Ev.now _))
   ·rw [spec_l05Cmp.l0, if_pos (by omega), decide_eq_false (show ¬ (i : Int) < (b.length : Int) by omega)]
   ·rw [spec_l05Cmp.j1, if_neg (by decide), if_neg (by omega), if_pos (by omega)]
    rfl
theorem specCmp_ev (a b : List Int) (ha : a.length ≤ 2000000) (hb : b.length ≤ 2000000) : Ev (fun k => spec_l05Cmp.f k a b) (Fv.cmpB a b) := specCmp_l0 a b ha hb a.length 0 (by omega) (by omega)
theorem specCommon_l0 (a b : List Int) (ha : a.length ≤ 2000000) (hb : b.length ≤ 2000000) (d : Nat) : ∀ i : Nat, i + d = a.length → i ≤ b.length → Ev (fun k => spec_l05Common.l0 k a b (i : Int)) ((i : Int) + (lcpB (a.drop i) (b.drop i) : Int)) := by
 induction d with
 | zero =>
  intro i h hi
  refine Ev.step (f := fun k => spec_l05Common.j1 k a b (i : Int) false) (fun k => ?_) (Ev.step (f := fun _ => some _) (fun k => ?_) (Ev.now _))
  ·rw [spec_l05Common.l0, if_neg (by omega)]
  ·rw [spec_l05Common.j1, if_neg (by decide), List.drop_eq_nil_of_le (show a.length ≤ i by omega), lcpB]
   ·simp
   ·intro _ _ _ _ h _; cases h
 | succ d ih =>
  intro i h hi
  rw [drop_at a i (by omega)]
  by_cases c : i < b.length
  ·rw [drop_at b i c, lcpB]
   by_cases c1 : a.getD i 0 = b.getD i 0
   ·rw [if_pos c1]
    have e : ((i : Int) + ((lcpB (a.drop (i + 1)) (b.drop (i + 1)) + 1 : Nat) : Int)) = ((i + 1 : Nat) : Int) + (lcpB (a.drop (i + 1)) (b.drop (i + 1)) : Int) := by omega
    rw [e]
    refine Ev.step (f := fun k => spec_l05Common.j1 k a b (i : Int) true) (fun k => ?_) (Ev.step (fun k => ?_) (ih (i + 1) (by omega) (by omega)))
    ·rw [spec_l05Common.l0, if_pos (by omega), if_pos (by omega), if_pos (by omega), rd_nat, rd_nat, beq_iff_eq.mpr c1]
    ·rw [spec_l05Common.j1, if_pos rfl, w64 (by omega) (by omega)]
     rfl
   ·rw [if_neg c1]
    refine Ev.step (f := fun k => spec_l05Common.j1 k a b (i : Int) false) (fun k => ?_) (Ev.step (f := fun _ => some _) (fun k => ?_) (Ev.now _))
    ·rw [spec_l05Common.l0, if_pos (by omega), if_pos (by omega), if_pos (by omega), rd_nat, rd_nat, beq_eq_false_iff_ne.mpr c1]
    ·rw [spec_l05Common.j1, if_neg (by decide)]
     simp
  ·rw [List.drop_eq_nil_of_le (show b.length ≤ i by omega)]
   refine Ev.step (f := fun k => spec_l05Common.j1 k a b (i : Int) false) (fun k => ?_) (Ev.step (f := fun _ => some _) (fun k => ?_) (Ev.now _))
   ·rw [spec_l05Common.l0, if_pos (by omega), if_neg (by omega)]
   ·rw [spec_l05Common.j1, if_neg (by decide), lcpB]
    ·simp
    ·intro _ _ _ _ _ h; cases h
theorem specCommon_ev (a b : List Int) (ha : a.length ≤ 2000000) (hb : b.length ≤ 2000000) : Ev (fun k => spec_l05Common.f k a b) (lcpB a b : Int) := by
 have h := specCommon_l0 a b ha hb a.length 0 (by omega) (by omega)
 simp only [List.drop_zero] at h
 rw [show ((0 : Nat) : Int) + (lcpB a b : Int) = (lcpB a b : Int) by omega] at h
 exact h
theorem implCommon_l0 (a b : List Int) (ha : a.length ≤ 2000000) (hb : b.length ≤ 2000000) (d : Nat) : ∀ i : Nat, i + d = a.length → i ≤ b.length → Ev (fun k => impl_common.l0 k a b (i : Int)) ((i : Int) + (lcpB (a.drop i) (b.drop i) : Int)) := by
 have hmn : mn (a.length : Int) (b.length : Int) = ((min a.length b.length : Nat) : Int) := by unfold mn; split <;> omega
 induction d with
 | zero =>
  intro i h hi
  refine Ev.step (f := fun _ => some _) (fun k => ?_) (Ev.now _)
  rw [impl_common.l0, hmn, if_neg (by omega), List.drop_eq_nil_of_le (show a.length ≤ i by omega), lcpB]
  ·simp
  ·intro _ _ _ _ h _; cases h
 | succ d ih =>
  intro i h hi
  rw [drop_at a i (by omega)]
  by_cases c : i < b.length
  ·rw [drop_at b i c, lcpB]
   by_cases c1 : a.getD i 0 = b.getD i 0
   ·rw [if_pos c1]
    have e : ((i : Int) + ((lcpB (a.drop (i + 1)) (b.drop (i + 1)) + 1 : Nat) : Int)) = ((i + 1 : Nat) : Int) + (lcpB (a.drop (i + 1)) (b.drop (i + 1)) : Int) := by omega
    rw [e]
    refine Ev.step (fun k => ?_) (ih (i + 1) (by omega) (by omega))
    rw [impl_common.l0, hmn, if_pos (by omega), if_pos (by omega), if_pos (by omega), if_pos (by omega), rd_nat, rd_nat, if_pos c1, w64 (by omega) (by omega)]
    rfl
   ·rw [if_neg c1]
    refine Ev.step (f := fun _ => some _) (fun k => ?_) (Ev.now _)
    rw [impl_common.l0, hmn, if_pos (by omega), if_pos (by omega), if_pos (by omega), if_pos (by omega), rd_nat, rd_nat, if_neg c1]
    simp
  ·rw [List.drop_eq_nil_of_le (show b.length ≤ i by omega)]
   refine Ev.step (f := fun _ => some _) (fun k => ?_) (Ev.now _)
   rw [impl_common.l0, hmn, if_neg (by omega), lcpB]
   ·simp
   ·intro _ _ _ _ _ h; cases h
theorem implCommon_ev (a b : List Int) (ha : a.length ≤ 2000000) (hb : b.length ≤ 2000000) : Ev (fun k => impl_common.f k a b) (lcpB a b : Int) := by
 have h := implCommon_l0 a b ha hb a.length 0 (by omega) (by omega)
 simp only [List.drop_zero] at h
 rw [show ((0 : Nat) : Int) + (lcpB a b : Int) = (lcpB a b : Int) by omega] at h
 exact h
def bytesOk (l : List Int) : Prop := ∀ x ∈ l, 0 ≤ x ∧ x < 256
theorem rd_rows {l out : List Int} (ho : ∀ x ∈ out, 0 ≤ x ∧ x ≤ l.length) (j : Nat) (hj : j < out.length) : 0 ≤ out.getD j 0 ∧ out.getD j 0 ≤ l.length := by
 rw [lget_lt out j 0 hj]
 exact ho _ (List.getElem_mem _)
theorem specIns (l out : List Int) (i : Nat) (hl : l.length ≤ 300) (hi : i ≤ l.length) (ho : ∀ x ∈ out, 0 ≤ x ∧ x ≤ l.length) (hlen : out.length ≤ 1000) (hs : out.Pairwise (sl l)) (m : Nat) : ∀ lo hi_ : Nat, hi_ - lo ≤ m → lo ≤ hi_ → hi_ ≤ out.length →
  (∀ j, j < lo → j < out.length → sl l (out.getD j 0) i) → (∀ j, hi_ ≤ j → j < out.length → ¬ sl l (out.getD j 0) i) →
  ∃ p, p ≤ out.length ∧ (∀ j, j < p → j < out.length → sl l (out.getD j 0) i) ∧ (∀ j, p ≤ j → j < out.length → ¬ sl l (out.getD j 0) i) ∧
   ∀ r, Ev (fun k => spec_SuffixRows.l0 k l (out.take p ++ (i : Int) :: out.drop p) ((i : Int) - 1)) r → Ev (fun k => spec_SuffixRows.l1 k l out (i : Int) (lo : Int) (hi_ : Int)) r := by
 have pw : ∀ j j' : Nat, j < j' → j' < out.length → sl l (out.getD j 0) (out.getD j' 0) := fun j j' h h' => by
  rw [lget_lt out j 0 (by omega), lget_lt out j' 0 h']
  exact List.pairwise_iff_getElem.1 hs j j' (by omega) h' h
 induction m with
 | zero =>
  intro lo hi_ h1 h2 h3 h4 h5
  have e : hi_ = lo := by omega
  subst e
  refine ⟨hi_, h3, h4, h5, fun r hr => Ev.step (fun k => ?_) hr⟩
  rw [spec_SuffixRows.l1, if_neg (by omega), bs, if_pos (by omega), if_pos (by omega), bs, Int.toNat_natCast, if_pos (by simp; omega), bs, bs, bs, if_pos (by simp; omega), bs,
   if_pos (by simp; omega), w64 (by omega) (by omega)]
  simp
 | succ m ih =>
  intro lo hi_ h1 h2 h3 h4 h5
  by_cases e : lo < hi_
  ·have hmid : wrap64 (Int.tdiv (wrap64 ((lo : Int) + (hi_ : Int))) 2) = (((lo + hi_) / 2 : Nat) : Int) := by
    rw [show wrap64 ((lo : Int) + (hi_ : Int)) = (lo : Int) + (hi_ : Int) from w64 (by omega) (by omega), show Int.tdiv ((lo : Int) + (hi_ : Int)) 2 = (((lo + hi_) / 2 : Nat) : Int) from by rw [← Int.natCast_add]; rfl, w64 (by omega) (by omega)]
   obtain ⟨mid, hm⟩ : ∃ mid, mid = (lo + hi_) / 2 := ⟨_, rfl⟩
   rw [← hm] at hmid
   have hml : lo ≤ mid := by omega
   have hmh : mid < hi_ := by omega
   obtain ⟨b0, b1⟩ := rd_rows ho mid (by omega)
   obtain ⟨K, hK⟩ := ev_out (specCmp_ev (l.drop (out.getD mid 0).toNat) (l.drop i) (by rw [List.length_drop]; omega) (by rw [List.length_drop]; omega))
   by_cases c : sl l (out.getD mid 0) i
   ·have c' : Fv.cmpB (l.drop (out.getD mid 0).toNat) (l.drop i) < 0 := by have := c; unfold sl at this; rwa [Int.toNat_natCast] at this
    obtain ⟨p, q1, q2, q3, q4⟩ := ih (mid + 1) hi_ (by omega) (by omega) h3 (fun j hj hj' => by
     by_cases ej : j = mid
     ·rw [ej]; exact c
     ·exact sl_trans l _ _ _ (pw j mid (by omega) (by omega)) c) h5
    refine ⟨p, q1, q2, q3, fun r hr => ?_⟩
    obtain ⟨K2, hK2⟩ := ev_out (q4 r hr)
    refine ev_mk (K + K2 + 1) fun k hk => ?_
    obtain ⟨k, rfl⟩ : ∃ m, k = m + 1 := ⟨k - 1, by omega⟩
    rw [spec_SuffixRows.l1, if_pos (by omega), hmid, if_pos (by omega), if_pos (by omega), rd_nat, if_pos b0, if_pos b1, if_pos (by omega), if_pos (by omega), Int.toNat_natCast, hK k (by omega), bs, if_pos c', w64 (by omega) (by omega)]
    exact hK2 k (by omega)
   ·have c' : ¬ Fv.cmpB (l.drop (out.getD mid 0).toNat) (l.drop i) < 0 := by have := c; unfold sl at this; rwa [Int.toNat_natCast] at this
    obtain ⟨p, q1, q2, q3, q4⟩ := ih lo mid (by omega) (by omega) (by omega) h4 (fun j hj hj' hh => by
     by_cases ej : j = mid
     ·rw [ej] at hh; exact c hh
     ·exact c (sl_trans l _ _ _ (pw mid j (by omega) (by omega)) hh))
    refine ⟨p, q1, q2, q3, fun r hr => ?_⟩
    obtain ⟨K2, hK2⟩ := ev_out (q4 r hr)
    refine ev_mk (K + K2 + 1) fun k hk => ?_
    obtain ⟨k, rfl⟩ : ∃ m, k = m + 1 := ⟨k - 1, by omega⟩
    rw [spec_SuffixRows.l1, if_pos (by omega), hmid, if_pos (by omega), if_pos (by omega), rd_nat, if_pos b0, if_pos b1, if_pos (by omega), if_pos (by omega), Int.toNat_natCast, hK k (by omega), bs, if_neg c']
    exact hK2 k (by omega)
  ·obtain ⟨p, q1, q2, q3, q4⟩ := ih lo hi_ (by omega) h2 h3 h4 h5
   exact ⟨p, q1, q2, q3, q4⟩
def from_ (n d : Nat) : List Int := (upto n).filter fun x => decide ((d : Int) ≤ x)
theorem mem_from (n d : Nat) (x : Int) : x ∈ from_ n d ↔ (d : Int) ≤ x ∧ x ≤ n := by
 unfold from_
 rw [List.mem_filter, mem_upto, decide_eq_true_eq]
 omega
theorem from_nodup (n d : Nat) : (from_ n d).Nodup := (upto_nodup n).sublist List.filter_sublist
theorem from_cons (n d : Nat) (h : d ≤ n) : (from_ n d).Perm ((d : Int) :: from_ n (d + 1)) := by
 rw [List.perm_ext_iff_of_nodup (from_nodup _ _) (List.nodup_cons.2 ⟨fun h => by rw [mem_from] at h; omega, from_nodup _ _⟩)]
 intro x
 rw [List.mem_cons, mem_from, mem_from]
 omega
theorem from_zero (n : Nat) : (from_ n 0).Perm (upto n) := by
 rw [List.perm_ext_iff_of_nodup (from_nodup _ _) (upto_nodup _)]
 intro x
 rw [mem_from, mem_upto]
 omega
theorem from_top (n : Nat) : from_ n (n + 1) = [] := List.eq_nil_iff_forall_not_mem.2 fun x h => by rw [mem_from] at h; omega
theorem specRows_l0 (l : List Int) (hl : l.length ≤ 300) (d : Nat) : ∀ out : List Int, d ≤ l.length + 1 → out.Perm (from_ l.length d) → out.Pairwise (sl l) → Ev (fun k => spec_SuffixRows.l0 k l out ((d : Int) - 1)) (rowsOf l) := by
 induction d with
 | zero =>
  intro out _ hp hs
  refine Ev.step (f := fun _ => some _) (fun k => ?_) (Ev.now _)
  rw [spec_SuffixRows.l0, if_neg (by omega), rows_unique l out (hp.trans (from_zero _)) hs]
 | succ d ih =>
  intro out hd hp hs
  have hm : ∀ x ∈ out, 0 ≤ x ∧ x ≤ l.length := fun x hx => by have := (mem_from _ _ _).1 (hp.mem_iff.1 hx); omega
  have hn : (d : Int) ∉ out := fun h => by have := (mem_from _ _ _).1 (hp.mem_iff.1 h); omega
  have hlen : out.length ≤ 1000 := by
   have h1 := hp.length_eq
   have h2 : (from_ l.length (d + 1)).length ≤ (upto l.length).length := List.length_filter_le _ _
   have h3 : (upto l.length).length = l.length + 1 := by simp [upto]
   omega
  obtain ⟨p, q1, q2, q3, q4⟩ := specIns l out d hl (by omega) hm hlen hs out.length 0 out.length (by omega) (by omega) (by omega) (fun j hj => by omega) (fun j hj hj' => by omega)
  have hnew : (out.take p ++ (d : Int) :: out.drop p).Perm (from_ l.length d) := by
   refine List.perm_middle.trans ?_
   rw [List.take_append_drop]
   exact (hp.cons _).trans (from_cons _ _ (by omega)).symm
  have h := q4 _ (ih _ (by omega) hnew (ins_sorted l out d p (by omega) hm hn hs q2 q3))
  refine Ev.step (fun k => ?_) h
  rw [spec_SuffixRows.l0, if_pos (by omega), show ((d + 1 : Nat) : Int) - 1 = (d : Int) by omega]
  rfl
theorem specRows_ev (l : List Int) (hl : l.length ≤ 300) : Ev (fun k => spec_SuffixRows.f k l) (rowsOf l) := by
 have h := specRows_l0 l hl (l.length + 1) [] (by omega) (by rw [from_top]) List.Pairwise.nil
 refine Ev.congr (fun k => ?_) h
 unfold spec_SuffixRows.f spec_TextOk.f
 rw [bs, decide_eq_true (by omega), if_pos rfl, show ((l.length + 1 : Nat) : Int) - 1 = (l.length : Int) by omega]
theorem implRows_l0 (l : List Int) (hl : l.length ≤ 300) (hb : bytesOk l) (d : Nat) : ∀ i : Nat, i + d = l.length + 1 → Ev (fun k => impl_suffixRows.l0 k ((List.range i).map fun (i : Nat) => (i : Int)) ((l.length : Int) + 1) (i : Int) l) (rowsOf l) := by
 induction d with
 | zero =>
  intro i h
  have e : i = l.length + 1 := by omega
  subst e
  refine Ev.step (f := fun _ => some _) (fun k => ?_) (Ev.now _)
  rw [impl_suffixRows.l0, if_neg (by omega), slices_SortFunc_66.f, if_pos ?_, bs]
  ·rfl
  ·simp only [Bool.and_eq_true, List.all_eq_true, decide_eq_true_eq, Fv.isB]
   refine ⟨⟨hb, fun x hx => (mem_upto _ _).1 hx⟩, by simp; omega⟩
 | succ d ih =>
  intro i h
  refine Ev.step (fun k => ?_) (ih (i + 1) (by omega))
  rw [impl_suffixRows.l0, if_pos (by omega), if_pos (by simp; omega), w64 (by omega) (by omega), List.range_succ, List.map_append]
  rfl
theorem implRows_ev (l : List Int) (hl : l.length ≤ 300) (hb : bytesOk l) : Ev (fun k => impl_suffixRows.f k l) (rowsOf l) := by
 have h := implRows_l0 l hl hb (l.length + 1) 0 (by omega)
 refine Ev.congr (fun k => ?_) h
 unfold impl_suffixRows.f
 rw [w64 (by omega) (by omega)]
 rfl
theorem specLcp_l0 (l : List Int) (hl : l.length ≤ 300) (d : Nat) : ∀ i : Nat, i + d = (rowsOf l).length → Ev (fun k => spec_LcpRows.l0 k l ((lcpRows l).take i) (i : Int) (rowsOf l)) (lcpRows l) := by
 have hR := rowsOf_len l
 have hL := lcpRows_len l
 induction d with
 | zero =>
  intro i h
  refine Ev.step (f := fun _ => some _) (fun k => ?_) (Ev.now _)
  rw [spec_LcpRows.l0, if_neg (by omega), List.take_of_length_le (by omega)]
 | succ d ih =>
  intro i h
  have hat : (lcpRows l).getD i 0 = lcpAt l (rowsOf l) i := lcpL_at l (rowsOf l) i (by omega)
  by_cases c : i = 0
  ·subst c
   refine Ev.step (fun k => ?_) (ih 1 (by omega))
   rw [spec_LcpRows.l0, if_pos (by omega), if_pos (by omega), if_pos (by simp), w64 (by omega) (by omega), take_succ_getD _ 0 0 (by omega), hat]
   rfl
  ·obtain ⟨j, rfl⟩ : ∃ j, i = j + 1 := ⟨i - 1, by omega⟩
   obtain ⟨a0, a1⟩ := rowsOf_at l j (by omega)
   obtain ⟨b0, b1⟩ := rowsOf_at l (j + 1) (by omega)
   obtain ⟨K, hK⟩ := ev_out (specCommon_ev (l.drop ((rowsOf l).getD j 0).toNat) (l.drop ((rowsOf l).getD (j + 1) 0).toNat) (by rw [List.length_drop]; omega) (by rw [List.length_drop]; omega))
   obtain ⟨K2, hK2⟩ := ev_out (ih (j + 1 + 1) (by omega))
   refine ev_mk (K + K2 + 1) fun k hk => ?_
   obtain ⟨k, rfl⟩ : ∃ m, k = m + 1 := ⟨k - 1, by omega⟩
   rw [spec_LcpRows.l0, if_pos (by omega), if_neg (by omega), w64 (by omega) (by omega), show ((j + 1 : Nat) : Int) - 1 = (j : Int) by omega, if_pos (by omega), if_pos (by omega), rd_nat, rd_nat, if_pos a0, if_pos a1, if_pos (by omega), if_pos b0, if_pos b1,
    hK k (by omega), bs, if_pos (by rw [List.length_take]; omega), w64 (by omega) (by omega)]
   rw [take_succ_getD _ 0 (j + 1) (by omega), hat] at hK2
   exact hK2 k (by omega)
theorem specLcp_ev (l : List Int) (hl : l.length ≤ 300) : Ev (fun k => spec_LcpRows.f k l) (lcpRows l) := by
 obtain ⟨K, hK⟩ := ev_out (specRows_ev l hl)
 obtain ⟨K2, hK2⟩ := ev_out (specLcp_l0 l hl (rowsOf l).length 0 (by omega))
 refine ev_mk (K + K2) fun k hk => ?_
 unfold spec_LcpRows.f
 rw [hK k (by omega), bs]
 exact hK2 k (by omega)
theorem implLcp_l0 (l : List Int) (hl : l.length ≤ 300) (d : Nat) : ∀ i : Nat, 1 ≤ i → i + d = (rowsOf l).length → Ev (fun k => impl_lcpRows.l0 k l (i : Int) (rowsOf l) ((lcpRows l).take i ++ List.replicate d 0)) (lcpRows l) := by
 have hR := rowsOf_len l
 have hL := lcpRows_len l
 induction d with
 | zero =>
  intro i h1 h
  refine Ev.step (f := fun _ => some _) (fun k => ?_) (Ev.now _)
  rw [impl_lcpRows.l0, if_neg (by omega), List.take_of_length_le (by omega)]
  simp
 | succ d ih =>
  intro i h1 h
  have hat : (lcpRows l).getD i 0 = lcpAt l (rowsOf l) i := lcpL_at l (rowsOf l) i (by omega)
  obtain ⟨j, rfl⟩ : ∃ j, i = j + 1 := ⟨i - 1, by omega⟩
  obtain ⟨a0, a1⟩ := rowsOf_at l j (by omega)
  obtain ⟨b0, b1⟩ := rowsOf_at l (j + 1) (by omega)
  obtain ⟨K, hK⟩ := ev_out (implCommon_ev (l.drop ((rowsOf l).getD j 0).toNat) (l.drop ((rowsOf l).getD (j + 1) 0).toNat) (by rw [List.length_drop]; omega) (by rw [List.length_drop]; omega))
  obtain ⟨K2, hK2⟩ := ev_out (ih (j + 1 + 1) (by omega) (by omega))
  refine ev_mk (K + K2 + 1) fun k hk => ?_
  obtain ⟨k, rfl⟩ : ∃ m, k = m + 1 := ⟨k - 1, by omega⟩
  rw [impl_lcpRows.l0, if_pos (by omega), w64 (by omega) (by omega), show ((j + 1 : Nat) : Int) - 1 = (j : Int) by omega, if_pos (by omega), if_pos (by omega), rd_nat, rd_nat, if_pos a0, if_pos a1, if_pos (by omega), if_pos b0, if_pos b1,
   hK k (by omega), bs, if_pos (by rw [fill_length _ 0 (j + 1) (d + 1) (by omega)]; omega), w64 (by omega) (by omega), Int.toNat_natCast, fill_set (lcpRows l) 0 _ (j + 1) d (by omega) (by rw [hat]; rfl)]
  exact hK2 k (by omega)
theorem implLcp_ev (l : List Int) (hl : l.length ≤ 300) (hb : bytesOk l) : Ev (fun k => impl_lcpRows.f k l) (lcpRows l) := by
 have hR := rowsOf_len l
 have hL := lcpRows_len l
 obtain ⟨K, hK⟩ := ev_out (implRows_ev l hl hb)
 obtain ⟨K2, hK2⟩ := ev_out (implLcp_l0 l hl l.length 1 (by omega) (by omega))
 refine ev_mk (K + K2) fun k hk => ?_
 unfold impl_lcpRows.f
 rw [hK k (by omega), bs, if_pos (by omega), if_pos (by omega), Int.toNat_natCast, hR]
 have := hK2 k (by omega)
 rw [take_succ_getD _ 0 0 (by omega), lcpRows, lcpL_at l (rowsOf l) 0 (by omega)] at this
 exact this
theorem strEq (a b : List Int) (ha : bytesOk a) (hb : bytesOk b) : ((strOfNums a).toList == (strOfNums b).toList) = decide (a = b) := by
 have inj : ∀ a b : List Int, bytesOk a → bytesOk b → (strOfNums a).toList = (strOfNums b).toList → a = b := by
  intro a
  induction a with
  | nil =>
   intro b _ _ h
   cases b with
   | nil => rfl
   | cons y b => simp [strOfNums] at h
  | cons x a ih =>
   intro b ha hb h
   cases b with
   | nil => simp [strOfNums] at h
   | cons y b =>
    simp only [strOfNums, ByteArray.toList_mk, List.map_cons, List.cons.injEq] at h
    have hx := ha x List.mem_cons_self
    have hy := hb y List.mem_cons_self
    have e : x.toNat = y.toNat := by
     have := congrArg UInt8.toNat h.1
     simp only [UInt8.toNat_ofNat'] at this
     omega
    have e' : x = y := by omega
    rw [e', ih b (fun z hz => ha z (List.mem_cons_of_mem _ hz)) (fun z hz => hb z (List.mem_cons_of_mem _ hz)) (by simp only [strOfNums, ByteArray.toList_mk]; exact h.2)]
 by_cases h : a = b
 ·rw [h, decide_eq_true rfl]
  simp
 ·rw [decide_eq_false h]
  exact beq_eq_false_iff_ne.mpr (fun e => h (inj a b ha hb e))
theorem bytesOk_drop {l : List Int} (h : bytesOk l) (i : Nat) : bytesOk (l.drop i) := fun x hx => h x (List.mem_of_mem_drop hx)
theorem bytesOk_take {l : List Int} (h : bytesOk l) (i : Nat) : bytesOk (l.take i) := fun x hx => h x (List.mem_of_mem_take hx)
/-- Does s begin with p. -/
def hasP (s p : List Int) : Bool := decide (p.length ≤ s.length) && decide (s.take p.length = p)
theorem implPrefix_eq (s p : List Int) (hs : bytesOk s) (hp : bytesOk p) : bytes_HasPrefix.f s p = some (hasP s p) := by
 unfold bytes_HasPrefix.f bytes_Equal.f hasP
 by_cases c : p.length ≤ s.length
 ·rw [if_pos (by omega), if_pos (by omega), if_pos (by omega), bs, Int.toNat_natCast, strEq _ _ (bytesOk_take hs _) hp, decide_eq_true c, Bool.true_and]
 ·rw [if_neg (by omega), decide_eq_false c, Bool.false_and]
theorem cmpB_app : ∀ p s : List Int, ¬ Fv.cmpB (p ++ s) p < 0
 | [], [] => by simp [Fv.cmpB]
 | [], _ :: _ => by simp [Fv.cmpB]
 | a :: p, s => by
  have := cmpB_app p s
  simp only [List.cons_append, Fv.cmpB]
  simpa using this
theorem hasP_cmp {s p : List Int} (h : hasP s p = true) : ¬ Fv.cmpB s p < 0 := by
 unfold hasP at h
 simp only [Bool.and_eq_true, decide_eq_true_eq] at h
 have := cmpB_app p (s.drop p.length)
 have e : p ++ s.drop p.length = s := by
  have e2 := List.take_append_drop p.length s
  rwa [h.2] at e2
 rwa [e] at this
def ltC (l p : List Int) : Nat → Nat
 | 0 => 0
 | i + 1 => ltC l p i + if Fv.cmpB (l.drop i) p < 0 then 1 else 0
def preC (l p : List Int) : Nat → Nat
 | 0 => 0
 | i + 1 => preC l p i + if hasP (l.drop i) p = true then 1 else 0
theorem lt_pre (l p : List Int) : ∀ i, ltC l p i + preC l p i ≤ i
 | 0 => by simp [ltC, preC]
 | i + 1 => by
  have := lt_pre l p i
  unfold ltC preC
  by_cases h : hasP (l.drop i) p = true
  ·rw [if_pos h, if_neg (hasP_cmp h)]; omega
  ·rw [if_neg h]; split <;> omega
def rowsR (l p : List Int) : Int × Int := if l.length ≤ 300 then ((ltC l p (l.length + 1) : Int), ((ltC l p (l.length + 1) + preC l p (l.length + 1) : Nat) : Int)) else (0, 0)
theorem all_isB {l : List Int} (h : bytesOk l) : l.all Fv.isB = true := by
 simp only [List.all_eq_true, Fv.isB, decide_eq_true_eq]
 exact h
theorem implRowsOf_l0 (l p : List Int) (hl : l.length ≤ 300) (hb : bytesOk l) (hp : bytesOk p) (d : Nat) : ∀ i : Nat, i + d = l.length + 1 → Ev (fun k => impl_rowsOf.l0 k l p (ltC l p i : Int) (preC l p i : Int) ((l.length : Int) + 1) (i : Int)) (rowsR l p) := by
 induction d with
 | zero =>
  intro i h
  have e : i = l.length + 1 := by omega
  subst e
  have hlp := lt_pre l p (l.length + 1)
  refine Ev.step (f := fun _ => some _) (fun k => ?_) (Ev.now _)
  rw [impl_rowsOf.l0, if_neg (by omega), w64 (by omega) (by omega), rowsR, if_pos hl]
  simp
 | succ d ih =>
  intro i h
  have hlp := lt_pre l p i
  refine Ev.step (fun k => ?_) (ih (i + 1) (by omega))
  rw [impl_rowsOf.l0, if_pos (by omega), if_pos (by omega), if_pos (by omega), Int.toNat_natCast, implPrefix_eq _ _ (bytesOk_drop hb i) hp, bs, ltC, preC]
  by_cases c : hasP (l.drop i) p = true
  ·rw [if_pos c, if_pos c, if_neg (hasP_cmp c), w64 (by omega) (by omega), w64 (by omega) (by omega)]
   rfl
  ·rw [if_neg c, if_neg c, bytes_Compare.f, all_isB (bytesOk_drop hb i), all_isB hp, Bool.and_self, if_pos rfl, bs]
   by_cases c2 : Fv.cmpB (l.drop i) p < 0
   ·rw [if_pos c2, if_pos c2, w64 (by omega) (by omega), w64 (by omega) (by omega)]
    rfl
   ·rw [if_neg c2, if_neg c2, w64 (by omega) (by omega)]
    rfl
theorem implRowsOf_ev (l p : List Int) (hb : bytesOk l) (hp : bytesOk p) : Ev (fun k => impl_RowsOf.f k l p) (rowsR l p) := by
 by_cases c : l.length ≤ 300
 ·obtain ⟨K, hK⟩ := ev_out (implRowsOf_l0 l p c hb hp (l.length + 1) 0 (by omega))
  refine ev_mk K fun k hk => ?_
  unfold impl_RowsOf.f impl_TextOk.f impl_rowsOf.f
  have h := hK k hk
  rw [bs, decide_eq_true (by omega), if_pos rfl, w64 (by omega) (by omega)]
  simp only [ltC, preC] at h
  have h2 : impl_rowsOf.l0 k l p 0 0 ((l.length : Int) + 1) 0 = some (rowsR l p) := h
  rw [h2]
  rfl
 ·refine ev_mk 0 fun k _ => ?_
  unfold impl_RowsOf.f impl_TextOk.f rowsR
  rw [bs, decide_eq_false (by omega), if_neg (by decide), if_neg c]
def depthOf (L : List Int) (lo hi : Nat) : Int := ((L.take hi).drop (lo + 1)).foldl mn (L.getD (lo + 1) 0)
theorem specDepth_l0 (L : List Int) (hi : Nat) (hl : L.length ≤ 1000000) (hh : hi ≤ L.length) (d : Nat) : ∀ (i : Nat) (v : Int), i + d = hi → Ev (fun k => spec_l11Depth.l0 k L (hi : Int) v (i : Int)) (((L.take hi).drop i).foldl mn v) := by
 induction d with
 | zero =>
  intro i v h
  refine Ev.step (f := fun _ => some _) (fun k => ?_) (Ev.now _)
  rw [spec_l11Depth.l0, if_neg (by omega), List.drop_eq_nil_of_le (by rw [List.length_take]; omega)]
  rfl
 | succ d ih =>
  intro i v h
  rw [drop_at (L.take hi) i (by rw [List.length_take]; omega), List.foldl_cons]
  have e : (L.take hi).getD i 0 = L.getD i 0 := by
   rw [lget_lt _ i 0 (by rw [List.length_take]; omega), lget_lt L i 0 (by omega), List.getElem_take]
  rw [e]
  refine Ev.step (fun k => ?_) (ih (i + 1) _ (by omega))
  rw [spec_l11Depth.l0, if_pos (by omega), if_pos (by omega), if_pos (by omega), rd_nat, w64 (by omega) (by omega)]
  rfl
theorem specDepth_ev (L : List Int) (lo hi : Nat) (hl : L.length ≤ 1000000) (h1 : lo + 2 ≤ hi) (h2 : hi ≤ L.length) : Ev (fun k => spec_l11Depth.f k L (lo : Int) (hi : Int)) (depthOf L lo hi) := by
 refine Ev.congr (fun k => ?_) (specDepth_l0 L hi hl h2 (hi - (lo + 1)) (lo + 1) (L.getD (lo + 1) 0) (by omega))
 unfold spec_l11Depth.f
 rw [w64 (by omega) (by omega), if_pos (by omega), if_pos (by omega), show (lo : Int) + 1 = ((lo + 1 : Nat) : Int) by omega, rd_nat]
theorem implMin_l0 (S : List Int) (hl : S.length ≤ 1000000) (d : Nat) : ∀ (i : Nat) (v : Int), i + d = S.length → Ev (fun k => slices_Min_int_int.l0 k S v (i : Int)) ((S.drop i).foldl mn v) := by
 induction d with
 | zero =>
  intro i v h
  refine Ev.step (f := fun _ => some _) (fun k => ?_) (Ev.now _)
  rw [slices_Min_int_int.l0, if_neg (by omega), List.drop_eq_nil_of_le (by omega)]
  rfl
 | succ d ih =>
  intro i v h
  rw [drop_at S i (by omega), List.foldl_cons]
  refine Ev.step (fun k => ?_) (ih (i + 1) _ (by omega))
  rw [slices_Min_int_int.l0, if_pos (by omega), if_pos (by omega), rd_nat, w64 (by omega) (by omega)]
  rfl
theorem implMin_ev (L : List Int) (lo hi : Nat) (hl : L.length ≤ 1000000) (h1 : lo + 2 ≤ hi) (h2 : hi ≤ L.length) : Ev (fun k => slices_Min_int_int.f k ((L.take hi).drop (lo + 1))) (depthOf L lo hi) := by
 have hS : ((L.take hi).drop (lo + 1)).length = hi - (lo + 1) := by rw [List.length_drop, List.length_take]; omega
 have e0 : rd ((L.take hi).drop (lo + 1)) 0 = L.getD (lo + 1) 0 := by
  refine (rd_nat ((L.take hi).drop (lo + 1)) 0).trans ?_
  rw [lget_lt _ 0 0 (by omega), List.getElem_drop, List.getElem_take, lget_lt L (lo + 1) 0 (by omega)]
 have h := implMin_l0 ((L.take hi).drop (lo + 1)) (by omega) (hi - (lo + 1) - 1) 1 (L.getD (lo + 1) 0) (by omega)
 have e1 : (((L.take hi).drop (lo + 1)).drop 1).foldl mn (L.getD (lo + 1) 0) = depthOf L lo hi := by
  unfold depthOf
  conv => rhs; rw [drop_at (L.take hi) (lo + 1) (by rw [List.length_take]; omega), List.foldl_cons]
  rw [lget_lt (L.take hi) (lo + 1) 0 (by rw [List.length_take]; omega), List.getElem_take, lget_lt L (lo + 1) 0 (by omega), mn_self, List.drop_drop]
 rw [e1] at h
 refine Ev.congr (fun k => ?_) h
 unfold slices_Min_int_int.f
 rw [if_neg (by omega), if_pos (by omega), e0]
 rfl
def tailB (L : List Int) (lo hi d : Int) : Bool := if lo = 0 then (if hi = (L.length : Int) then true else decide (rd L hi < d)) else if rd L lo < d then (if hi = (L.length : Int) then true else decide (rd L hi < d)) else false
/-- Whether rows are a stretch. -/
def okS (L : List Int) (lo hi d : Int) : Bool := if 0 ≤ lo ∧ lo + 2 ≤ hi ∧ hi ≤ (L.length : Int) then (if d = depthOf L lo.toNat hi.toNat then tailB L lo hi d else false) else false
theorem specOkS_ev (L : List Int) (lo hi d : Int) (hl : L.length ≤ 1000000) : Ev (fun k => spec_l11Ok.f k L lo hi d) (okS L lo hi d) := by
 have no : okS L lo hi d = false → Ev (fun k => spec_l11Ok.j0 k L true lo hi d) (okS L lo hi d) := fun h => Ev.step (f := fun _ => some _) (fun k => by rw [spec_l11Ok.j0, if_pos rfl, h]) (Ev.now _)
 by_cases c1 : lo < 0
 ·refine Ev.congr (fun k => ?_) (no (by unfold okS; rw [if_neg (by omega)]))
  unfold spec_l11Ok.f
  rw [if_pos c1]
 by_cases c2 : lo > (L.length : Int)
 ·refine Ev.congr (fun k => ?_) (no (by unfold okS; rw [if_neg (by omega)]))
  unfold spec_l11Ok.f
  rw [if_neg c1, if_pos c2]
 by_cases c3 : hi > (L.length : Int)
 ·refine Ev.congr (fun k => ?_) (no (by unfold okS; rw [if_neg (by omega)]))
  unfold spec_l11Ok.f
  rw [if_neg c1, if_neg c2, if_pos c3]
 by_cases c4 : hi < lo + 2
 ·refine Ev.congr (fun k => ?_) (no (by unfold okS; rw [if_neg (by omega)]))
  unfold spec_l11Ok.f
  rw [if_neg c1, if_neg c2, if_neg c3, w64 (by omega) (by omega), if_pos c4]
 obtain ⟨lo, rfl⟩ := Int.eq_ofNat_of_zero_le (show 0 ≤ lo by omega)
 obtain ⟨hi, rfl⟩ := Int.eq_ofNat_of_zero_le (show 0 ≤ hi by omega)
 obtain ⟨K, hK⟩ := ev_out (specDepth_ev L lo hi hl (by omega) (by omega))
 have hok : okS L lo hi d = if d = depthOf L lo hi then tailB L lo hi d else false := by
  unfold okS
  rw [if_pos (by omega), Int.toNat_natCast, Int.toNat_natCast]
 have hj : Ev (fun k => spec_l11Ok.j0 k L (d != depthOf L lo hi) lo hi d) (okS L lo hi d) := by
  by_cases e : d = depthOf L lo hi
  ·refine Ev.step (f := fun _ => some _) (fun k => ?_) (Ev.now _)
   rw [hok, if_pos e, spec_l11Ok.j0, bne_eq_false_iff_eq.mpr e, if_neg (by decide)]
   unfold tailB
   by_cases e0 : (lo : Int) = 0
   ·rw [if_pos e0, if_pos e0]
    by_cases e1 : (hi : Int) = (L.length : Int)
    ·rw [if_pos e1, if_pos e1]
    ·rw [if_neg e1, if_neg e1, if_pos (by omega), if_pos (by omega)]
   ·rw [if_neg e0, if_neg e0, if_pos (by omega), if_pos (by omega)]
    by_cases e2 : rd L lo < d
    ·rw [if_pos e2, if_pos e2]
     by_cases e1 : (hi : Int) = (L.length : Int)
     ·rw [if_pos e1, if_pos e1]
     ·rw [if_neg e1, if_neg e1, if_pos (by omega), if_pos (by omega)]
    ·rw [if_neg e2, if_neg e2]
  ·refine Ev.step (f := fun _ => some _) (fun k => ?_) (Ev.now _)
   rw [hok, if_neg e, spec_l11Ok.j0, if_pos (bne_iff_ne.mpr e)]
 obtain ⟨K2, hK2⟩ := ev_out hj
 refine ev_mk (K + K2) fun k hk => ?_
 unfold spec_l11Ok.f
 rw [if_neg c1, if_neg c2, if_neg c3, w64 (by omega) (by omega), if_neg c4, hK k (by omega), bs]
 exact hK2 k (by omega)
theorem isRange_eq (a b c : Int) : impl_isRange.f a b c = some (decide (0 ≤ a ∧ a ≤ b ∧ b ≤ c)) := by
 unfold impl_isRange.f
 by_cases h1 : 0 ≤ a
 ·by_cases h2 : a ≤ b
  ·rw [if_pos h1, if_pos h2]
   congr 1
   exact decide_eq_decide.2 ⟨fun h => ⟨h1, h2, h⟩, fun h => h.2.2⟩
  ·rw [if_pos h1, if_neg h2, decide_eq_false (fun h => h2 h.2.1)]
 ·rw [if_neg h1, decide_eq_false (fun h => h1 h.1)]
theorem implOkS_ev (L : List Int) (lo hi d : Int) (hl : L.length ≤ 1000000) : Ev (fun k => impl_isStretch.f k L lo hi d) (okS L lo hi d) := by
 have no : okS L lo hi d = false → Ev (fun k => impl_isStretch.j0 k L true lo hi d) (okS L lo hi d) := fun h => Ev.step (f := fun _ => some _) (fun k => by rw [impl_isStretch.j0, if_pos rfl, h]) (Ev.now _)
 by_cases c : 0 ≤ lo ∧ lo ≤ hi ∧ hi ≤ (L.length : Int)
 ·obtain ⟨c1, c2, c3⟩ := c
  obtain ⟨lo, rfl⟩ := Int.eq_ofNat_of_zero_le c1
  obtain ⟨hi, rfl⟩ := Int.eq_ofNat_of_zero_le (show 0 ≤ hi by omega)
  by_cases c4 : (hi : Int) - lo < 2
  ·refine Ev.congr (fun k => ?_) (no (by unfold okS; rw [if_neg (by omega)]))
   unfold impl_isStretch.f
   rw [isRange_eq, bs, decide_eq_true ⟨c1, c2, c3⟩, if_pos rfl, w64 (by omega) (by omega), if_pos c4]
  obtain ⟨K, hK⟩ := ev_out (implMin_ev L lo hi hl (by omega) (by omega))
  have hok : okS L lo hi d = if d = depthOf L lo hi then tailB L lo hi d else false := by
   unfold okS
   rw [if_pos (by omega), Int.toNat_natCast, Int.toNat_natCast]
  have hj : Ev (fun k => impl_isStretch.j0 k L (depthOf L lo hi != d) lo hi d) (okS L lo hi d) := by
   by_cases e : d = depthOf L lo hi
   ·refine Ev.step (f := fun _ => some _) (fun k => ?_) (Ev.now _)
    rw [hok, if_pos e, impl_isStretch.j0, bne_eq_false_iff_eq.mpr e.symm, if_neg (by decide)]
    unfold tailB
    by_cases e0 : (lo : Int) = 0
    ·rw [if_pos e0, if_pos e0]
     by_cases e1 : (hi : Int) = (L.length : Int)
     ·rw [if_pos e1, if_pos e1]
     ·rw [if_neg e1, if_neg e1, if_pos (by omega), if_pos (by omega)]
    ·rw [if_neg e0, if_neg e0, if_pos (by omega), if_pos (by omega)]
     by_cases e2 : rd L lo < d
     ·rw [if_pos e2, if_pos e2]
      by_cases e1 : (hi : Int) = (L.length : Int)
      ·rw [if_pos e1, if_pos e1]
      ·rw [if_neg e1, if_neg e1, if_pos (by omega), if_pos (by omega)]
     ·rw [if_neg e2, if_neg e2]
   ·refine Ev.step (f := fun _ => some _) (fun k => ?_) (Ev.now _)
    rw [hok, if_neg e, impl_isStretch.j0, if_pos (bne_iff_ne.mpr (Ne.symm e))]
  obtain ⟨K2, hK2⟩ := ev_out hj
  refine ev_mk (K + K2) fun k hk => ?_
  unfold impl_isStretch.f
  rw [isRange_eq, bs, decide_eq_true ⟨c1, c2, c3⟩, if_pos rfl, w64 (by omega) (by omega), if_neg c4, w64 (by omega) (by omega), if_pos (by omega), if_pos (by omega), if_pos c3, Int.toNat_natCast, show ((lo : Int) + 1).toNat = lo + 1 by omega,
   hK k (by omega), bs]
  exact hK2 k (by omega)
 ·refine Ev.congr (fun k => ?_) (no (by unfold okS; rw [if_neg (by omega)]))
  unfold impl_isStretch.f
  rw [isRange_eq, bs, decide_eq_false c, if_neg (by decide)]
def stretchB (l : List Int) (lo hi d : Int) : Bool := if l.length ≤ 300 then okS (lcpRows l) lo hi d else false
theorem specStretchOk_ev (l : List Int) (lo hi d : Int) : Ev (fun k => spec_StretchOk.f k l lo hi d) (stretchB l lo hi d) := by
 unfold spec_StretchOk.f spec_TextOk.f stretchB
 by_cases c : l.length ≤ 300
 ·obtain ⟨K, hK⟩ := ev_out (specLcp_ev l c)
  obtain ⟨K2, hK2⟩ := ev_out (specOkS_ev (lcpRows l) lo hi d (by rw [lcpRows_len]; omega))
  refine ev_mk (K + K2) fun k hk => ?_
  rw [bs, decide_eq_true (by omega), if_pos rfl, hK k (by omega), bs, hK2 k (by omega), bs, if_pos c]
 ·refine ev_mk 0 fun k _ => ?_
  rw [bs, decide_eq_false (by omega), if_neg (by decide), if_neg c]
theorem implStretchOk_ev (l : List Int) (lo hi d : Int) (hb : bytesOk l) : Ev (fun k => impl_StretchOk.f k l lo hi d) (stretchB l lo hi d) := by
 unfold impl_StretchOk.f impl_TextOk.f stretchB
 by_cases c : l.length ≤ 300
 ·obtain ⟨K, hK⟩ := ev_out (implLcp_ev l c hb)
  obtain ⟨K2, hK2⟩ := ev_out (implOkS_ev (lcpRows l) lo hi d (by rw [lcpRows_len]; omega))
  refine ev_mk (K + K2) fun k hk => ?_
  rw [bs, decide_eq_true (by omega), if_pos rfl, hK k (by omega), bs, hK2 k (by omega), bs, if_pos c]
 ·refine ev_mk 0 fun k _ => ?_
  rw [bs, decide_eq_false (by omega), if_neg (by decide), if_neg c]
def IsMin (L : List Int) (lo hi : Nat) (d : Int) : Prop := (∀ j, lo < j → j < hi → d ≤ L.getD j 0) ∧ ∃ j, lo < j ∧ j < hi ∧ L.getD j 0 = d
def OKs (L : List Int) (s : S27) : Prop := ∃ lo hi : Nat, s.f0 = (lo : Int) ∧ s.f1 = (hi : Int) ∧ lo + 2 ≤ hi ∧ hi ≤ L.length ∧ IsMin L lo hi s.f2 ∧ (lo = 0 ∨ L.getD lo 0 < s.f2) ∧ (hi = L.length ∨ L.getD hi 0 < s.f2)
def lt27 (a b : S27) : Prop := a.f0 < b.f0 ∨ (a.f0 = b.f0 ∧ b.f1 < a.f1)
theorem lt27_irrefl (a : S27) : ¬ lt27 a a := by unfold lt27; omega
theorem lt27_trans (a b c : S27) (h1 : lt27 a b) (h2 : lt27 b c) : lt27 a c := by unfold lt27 at *; omega
theorem IsMin.uniq {L : List Int} {lo hi : Nat} {d e : Int} (h1 : IsMin L lo hi d) (h2 : IsMin L lo hi e) : d = e := by
 obtain ⟨a1, j, b1, b2, b3⟩ := h1
 obtain ⟨a2, k, c1, c2, c3⟩ := h2
 have := a1 k c1 c2
 have := a2 j b1 b2
 omega
theorem ext27 {a b : S27} (h0 : a.f0 = b.f0) (h1 : a.f1 = b.f1) (h2 : a.f2 = b.f2) : a = b := by
 cases a; cases b
 simp only at h0 h1 h2
 rw [h0, h1, h2]
theorem OKs.uniq {L : List Int} {a b : S27} (ha : OKs L a) (hb : OKs L b) (h0 : a.f0 = b.f0) (h1 : a.f1 = b.f1) : a = b := by
 obtain ⟨lo, hi, e1, e2, _, _, m1, _⟩ := ha
 obtain ⟨lo', hi', e3, e4, _, _, m2, _⟩ := hb
 obtain rfl : lo = lo' := by omega
 obtain rfl : hi = hi' := by omega
 exact ext27 h0 h1 (m1.uniq m2)
theorem uniq_sorted {L : List Int} {xs ys : List S27} (hx : xs.Pairwise lt27) (hy : ys.Pairwise lt27) (mx : ∀ s, s ∈ xs ↔ OKs L s) (my : ∀ s, s ∈ ys ↔ OKs L s) : xs = ys := by
 have nd : ∀ {zs : List S27}, zs.Pairwise lt27 → zs.Nodup := fun h => h.imp (fun {a b} h (e : a = b) => lt27_irrefl a (by rw [← e] at h; exact h))
 exact strict_unique lt27 lt27_irrefl lt27_trans xs ys ((List.perm_ext_iff_of_nodup (nd hx) (nd hy)).2 (fun s => (mx s).trans (my s).symm)) hx hy
def spR (L : List Int) (lo : Nat) : Nat → Nat → Int → List S27 → List S27
 | 0, _, _, found => found
 | f + 1, hi, d, found =>
  if 0 < lo ∧ mn d (L.getD (hi - 1) 0) ≤ L.getD lo 0 then found
  else if hi = L.length ∨ L.getD hi 0 < mn d (L.getD (hi - 1) 0) then spR L lo f (hi + 1) (mn d (L.getD (hi - 1) 0)) ((⟨(lo : Int), (hi : Int), mn d (L.getD (hi - 1) 0)⟩ : S27) :: found)
  else spR L lo f (hi + 1) (mn d (L.getD (hi - 1) 0)) found
theorem spR_len (L : List Int) (lo : Nat) : ∀ f hi d found, (spR L lo f hi d found).length ≤ found.length + f
 | 0, _, _, _ => Nat.le_refl _
 | f + 1, hi, d, found => by
  rw [spR]
  split
  ·omega
  ·split
   ·have := spR_len L lo f (hi + 1) (mn d (L.getD (hi - 1) 0)) ((⟨(lo : Int), (hi : Int), mn d (L.getD (hi - 1) 0)⟩ : S27) :: found)
    simp only [List.length_cons] at this
    omega
   ·have := spR_len L lo f (hi + 1) (mn d (L.getD (hi - 1) 0)) found
    omega
structure SInv (L : List Int) (lo hi : Nat) (found : List S27) : Prop where
 sorted : found.Pairwise lt27
 mem : ∀ s, s ∈ found ↔ OKs L s ∧ s.f0 = (lo : Int) ∧ s.f1 < (hi : Int)
theorem spR_ok (L : List Int) (h3 : ∀ x ∈ L, x ≤ 300) (lo : Nat) : ∀ f hi d found, lo + 2 ≤ hi → hi + f = L.length + 1 → ((hi = lo + 2 ∧ d = 301) ∨ IsMin L lo (hi - 1) d) → SInv L lo hi found →
  SInv L lo (L.length + 1) (spR L lo f hi d found)
 | 0, hi, d, found, h1, h2, hm, hI => by
  obtain rfl : hi = L.length + 1 := by omega
  exact hI
 | f + 1, hi, d, found, h1, h2, hm, hI => by
  have hlt : hi - 1 < L.length := by omega
  have hle : L.getD (hi - 1) 0 ≤ 300 := by rw [lget_lt _ _ _ hlt]; exact h3 _ (List.getElem_mem hlt)
  have hmin : IsMin L lo hi (mn d (L.getD (hi - 1) 0)) := by
   rcases hm with ⟨ea, eb⟩ | hm
   ·have e : mn d (L.getD (hi - 1) 0) = L.getD (hi - 1) 0 := by unfold mn; split <;> omega
    rw [e]
    refine ⟨fun j a b => ?_, hi - 1, by omega, by omega, rfl⟩
    obtain rfl : j = hi - 1 := by omega
    exact Int.le_refl _
   ·obtain ⟨a1, j, b1, b2, b3⟩ := hm
    refine ⟨fun i c1 c2 => ?_, ?_⟩
    ·by_cases e : i = hi - 1
     ·rw [e]; unfold mn; split <;> omega
     ·have := a1 i c1 (by omega)
      unfold mn; split <;> omega
    ·by_cases c : L.getD (hi - 1) 0 < d
     ·exact ⟨hi - 1, by omega, by omega, by unfold mn; rw [if_pos c]⟩
     ·exact ⟨j, b1, by omega, by unfold mn; rw [if_neg c]; exact b3⟩
  rw [spR]
  generalize mn d (L.getD (hi - 1) 0) = e at hmin
  by_cases cb : 0 < lo ∧ e ≤ L.getD lo 0
  ·rw [if_pos cb]
   refine ⟨hI.sorted, fun s => ⟨fun hs => ?_, fun ⟨ho, e0, e1⟩ => ?_⟩⟩
   ·obtain ⟨a, b, c⟩ := (hI.mem s).1 hs
    exact ⟨a, b, by omega⟩
   ·refine (hI.mem s).2 ⟨ho, e0, ?_⟩
    obtain ⟨lo', hi', x0, x1, x2, x3, x4, x5, x6⟩ := ho
    obtain rfl : lo' = lo := by omega
    by_cases c : hi' < hi
    ·omega
    ·exfalso
     obtain ⟨_, j, b1, b2, b3⟩ := hmin
     have := x4.1 j b1 (by omega)
     omega
  ·rw [if_neg cb]
   have hlo : lo = 0 ∨ L.getD lo 0 < e := by omega
   by_cases ck : hi = L.length ∨ L.getD hi 0 < e
   ·rw [if_pos ck]
    have hok : OKs L (⟨(lo : Int), (hi : Int), e⟩ : S27) := ⟨lo, hi, rfl, rfl, h1, by omega, hmin, hlo, ck⟩
    refine spR_ok L h3 lo f (hi + 1) e _ (by omega) (by omega) (.inr hmin) ⟨List.pairwise_cons.2 ⟨fun s hs => ?_, hI.sorted⟩, fun s => ?_⟩
    ·obtain ⟨a, b, c⟩ := (hI.mem s).1 hs
     refine .inr ⟨?_, ?_⟩
     ·show (lo : Int) = s.f0
      omega
     ·show s.f1 < (hi : Int)
      exact c
    ·rw [List.mem_cons]
     refine ⟨fun h => ?_, fun ⟨ho, e0, e1⟩ => ?_⟩
     ·rcases h with rfl | h
      ·exact ⟨hok, rfl, by show (hi : Int) < _; omega⟩
      ·obtain ⟨a, b, c⟩ := (hI.mem s).1 h
       exact ⟨a, b, by omega⟩
     ·by_cases c : s.f1 < (hi : Int)
      ·exact .inr ((hI.mem s).2 ⟨ho, e0, c⟩)
      ·exact .inl (ho.uniq hok e0 (by show s.f1 = (hi : Int); omega))
   ·rw [if_neg ck]
    refine spR_ok L h3 lo f (hi + 1) e _ (by omega) (by omega) (.inr hmin) ⟨hI.sorted, fun s => ⟨fun hs => ?_, fun ⟨ho, e0, e1⟩ => ?_⟩⟩
    ·obtain ⟨a, b, c⟩ := (hI.mem s).1 hs
     exact ⟨a, b, by omega⟩
    ·refine (hI.mem s).2 ⟨ho, e0, ?_⟩
     obtain ⟨lo', hi', x0, x1, x2, x3, x4, x5, x6⟩ := ho
     obtain rfl : lo' = lo := by omega
     by_cases c : hi' < hi
     ·omega
     ·exfalso
      obtain rfl : hi' = hi := by omega
      have := x4.uniq hmin
      rw [this] at x6
      exact ck x6
def rowS (L : List Int) (lo : Nat) : List S27 := spR L lo (L.length - 1 - lo) (lo + 2) 301 []
def allS (L : List Int) (n : Nat) : List S27 := (List.range n).flatMap (rowS L)
theorem rowS_ok (L : List Int) (h3 : ∀ x ∈ L, x ≤ 300) (lo : Nat) (h : lo < L.length) : SInv L lo (L.length + 1) (rowS L lo) := by
 refine spR_ok L h3 lo _ (lo + 2) 301 [] (by omega) (by omega) (.inl ⟨rfl, rfl⟩) ⟨List.Pairwise.nil, fun s => ⟨fun h => (by cases h), fun ⟨⟨lo', hi', x0, x1, x2, _⟩, e0, e1⟩ => by exfalso; omega⟩⟩
theorem allS_len (L : List Int) (n : Nat) : (allS L n).length ≤ n * L.length := by
 unfold allS
 induction n with
 | zero => simp
 | succ n ih =>
  rw [List.range_succ, List.flatMap_append, List.length_append, List.flatMap_singleton, Nat.succ_mul]
  have : (rowS L n).length ≤ L.length := by
   unfold rowS
   have := spR_len L n (L.length - 1 - n) (n + 2) 301 []
   simp only [List.length_nil] at this
   omega
  omega
theorem allS_succ (L : List Int) (n : Nat) : allS L (n + 1) = allS L n ++ rowS L n := by
 unfold allS
 rw [List.range_succ, List.flatMap_append, List.flatMap_singleton]
theorem allS_mem (L : List Int) (h3 : ∀ x ∈ L, x ≤ 300) (s : S27) : s ∈ allS L L.length ↔ OKs L s := by
 unfold allS
 rw [List.mem_flatMap]
 constructor
 ·rintro ⟨lo, h, hs⟩
  exact (((rowS_ok L h3 lo (List.mem_range.1 h)).mem s).1 hs).1
 ·intro h
  obtain ⟨lo, hi, x0, x1, x2, x3, x4⟩ := id h
  exact ⟨lo, List.mem_range.2 (by omega), ((rowS_ok L h3 lo (by omega)).mem s).2 ⟨h, x0, by omega⟩⟩
theorem allS_sorted (L : List Int) (h3 : ∀ x ∈ L, x ≤ 300) : (allS L L.length).Pairwise lt27 := by
 unfold allS
 rw [List.pairwise_flatMap]
 refine ⟨fun lo h => (rowS_ok L h3 lo (List.mem_range.1 h)).sorted, ?_⟩
 refine List.pairwise_lt_range.imp_of_mem (fun {a b} ha hb hab x hx y hy => .inl ?_)
 have h1 := (((rowS_ok L h3 a (List.mem_range.1 ha)).mem x).1 hx).2.1
 have h2 := (((rowS_ok L h3 b (List.mem_range.1 hb)).mem y).1 hy).2.1
 omega
theorem specAll_l1 (L : List Int) (hl : L.length ≤ 1000) (h0 : ∀ x ∈ L, 0 ≤ x) (lo : Nat) (hlo : lo < L.length) (acc r : List S27) (hacc : acc.length ≤ 2000000) : ∀ f hi (d : Int) found, lo + 2 ≤ hi → hi + f = L.length + 1 → found.length ≤ hi →
  Ev (fun k => spec_l11All.l0 k L (acc ++ spR L lo f hi d found) ((lo + 1 : Nat) : Int)) r → Ev (fun k => spec_l11All.l1 k L acc (lo : Int) found d (hi : Int)) r
 | 0, hi, d, found, h1, h2, hf, h => by
  obtain ⟨K, hK⟩ := ev_out h
  refine ev_mk (K + 2) fun k hk => ?_
  obtain ⟨k, rfl⟩ : ∃ m, k = m + 2 := ⟨k - 2, by omega⟩
  rw [spec_l11All.l1, if_neg (by omega), spec_l11All.j2, if_neg (by decide), if_pos (by omega), w64 (by omega) (by omega)]
  exact hK k (by omega)
 | f + 1, hi, d, found, h1, h2, hf, h => by
  have e1 : wrap64 ((hi : Int) - 1) = ((hi - 1 : Nat) : Int) := by rw [w64 (by omega) (by omega)]; omega
  have e2 : wrap64 ((hi : Int) + 1) = ((hi + 1 : Nat) : Int) := w64 (by omega) (by omega)
  have e3 : wrap64 ((lo : Int) + 1) = ((lo + 1 : Nat) : Int) := w64 (by omega) (by omega)
  have hnn : 0 ≤ L.getD (hi - 1) 0 := by rw [lget_lt _ _ _ (show hi - 1 < L.length by omega)]; exact h0 _ (List.getElem_mem _)
  have ha : ∀ k, spec_l11All.l1 (k + 1) L acc (lo : Int) found d (hi : Int) = spec_l11All.j2 k L acc (lo : Int) found d (hi : Int) true := fun k => by
   rw [spec_l11All.l1, if_pos (by omega), e1, if_pos (by omega), if_pos (by omega), rd_nat, decide_eq_true hnn]
  rw [spR] at h
  have hj : ∀ k, spec_l11All.j2 (k + 1) L acc (lo : Int) found d (hi : Int) true = spec_l11All.j3 k L acc (lo : Int) found (mn d (L.getD (hi - 1) 0)) (hi : Int) (decide (0 < lo ∧ mn d (L.getD (hi - 1) 0) ≤ L.getD lo 0)) := fun k => by
   rw [spec_l11All.j2, if_pos rfl, e1, if_pos (by omega), if_pos (by omega), rd_nat]
   by_cases c : 0 < lo
   ·rw [if_pos (by omega), if_pos (by omega), if_pos (by omega), rd_nat]
    congr 1
    by_cases c2 : mn d (L.getD (hi - 1) 0) ≤ L.getD lo 0
    ·rw [decide_eq_true c2, decide_eq_true ⟨c, c2⟩]
    ·rw [decide_eq_false c2, decide_eq_false (fun h => c2 h.2)]
   ·rw [if_neg (by omega), decide_eq_false (fun h => c h.1)]
  generalize mn d (L.getD (hi - 1) 0) = e at h hj
  by_cases cb : 0 < lo ∧ e ≤ L.getD lo 0
  ·rw [if_pos cb] at h
   obtain ⟨K, hK⟩ := ev_out h
   refine ev_mk (K + 3) fun k hk => ?_
   obtain ⟨k, rfl⟩ : ∃ m, k = m + 3 := ⟨k - 3, by omega⟩
   rw [ha, hj, decide_eq_true cb, spec_l11All.j3, if_pos rfl, if_pos (by omega), e3]
   exact hK k (by omega)
  ·rw [if_neg cb] at h
   by_cases ck : hi = L.length ∨ L.getD hi 0 < e
   ·rw [if_pos ck] at h
    obtain ⟨K, hK⟩ := ev_out (specAll_l1 L hl h0 lo hlo acc r hacc f (hi + 1) e ((⟨(lo : Int), (hi : Int), e⟩ : S27) :: found) (by omega) (by omega) (by simp; omega) h)
    refine ev_mk (K + 3) fun k hk => ?_
    obtain ⟨k, rfl⟩ : ∃ m, k = m + 3 := ⟨k - 3, by omega⟩
    rw [ha, hj, decide_eq_false cb, spec_l11All.j3, if_neg (by decide)]
    by_cases c1 : hi = L.length
    ·rw [if_pos (by omega), bs, if_pos (by simp; omega), e2]
     exact hK k (by omega)
    ·rw [if_neg (by omega), if_pos (by omega), if_pos (by omega), rd_nat, if_pos (by omega), bs, if_pos (by simp; omega), e2]
     exact hK k (by omega)
   ·rw [if_neg ck] at h
    obtain ⟨K, hK⟩ := ev_out (specAll_l1 L hl h0 lo hlo acc r hacc f (hi + 1) e found (by omega) (by omega) (by omega) h)
    refine ev_mk (K + 3) fun k hk => ?_
    obtain ⟨k, rfl⟩ : ∃ m, k = m + 3 := ⟨k - 3, by omega⟩
    rw [ha, hj, decide_eq_false cb, spec_l11All.j3, if_neg (by decide), if_neg (by omega), if_pos (by omega), if_pos (by omega), rd_nat, if_neg (by omega), e2]
    exact hK k (by omega)
theorem specAll_l0 (L : List Int) (hl : L.length ≤ 1000) (h0 : ∀ x ∈ L, 0 ≤ x) (d : Nat) : ∀ lo : Nat, lo + d = L.length → Ev (fun k => spec_l11All.l0 k L (allS L lo) (lo : Int)) (allS L L.length) := by
 induction d with
 | zero =>
  intro lo h
  obtain rfl : lo = L.length := by omega
  refine Ev.step (f := fun _ => some _) (fun k => ?_) (Ev.now _)
  rw [spec_l11All.l0, if_neg (by omega)]
 | succ d ih =>
  intro lo h
  have h' := ih (lo + 1) (by omega)
  rw [allS_succ] at h'
  have hlen : (allS L lo).length ≤ 2000000 := Nat.le_trans (allS_len L lo) (Nat.le_trans (Nat.mul_le_mul (show lo ≤ 1000 by omega) hl) (by decide))
  refine Ev.step (fun k => ?_) (specAll_l1 L hl h0 lo (by omega) (allS L lo) _ hlen (L.length - 1 - lo) (lo + 2) 301 [] (by omega) (by omega) (by simp) h')
  rw [spec_l11All.l0, if_pos (by omega), w64 (by omega) (by omega)]
  rfl
theorem specAll_ev (L : List Int) (hl : L.length ≤ 1000) (h0 : ∀ x ∈ L, 0 ≤ x) : Ev (fun k => spec_l11All.f k L) (allS L L.length) :=
 Ev.congr (f := fun k => spec_l11All.l0 k L (allS L 0) ((0 : Nat) : Int)) (fun _ => rfl) (specAll_l0 L hl h0 L.length 0 (by omega))
def loL (L : List Int) (d : Int) : Nat → Nat
 | 0 => 0
 | m + 1 => if d ≤ L.getD (m + 1) 0 then loL L d m else m + 1
def hiL (L : List Int) (d : Int) : Nat → Nat → Nat
 | 0, hi => hi
 | f + 1, hi => if d ≤ L.getD hi 0 then hiL L d f (hi + 1) else hi
theorem loL_ok (L : List Int) (d : Int) : ∀ m, loL L d m ≤ m ∧ (loL L d m = 0 ∨ L.getD (loL L d m) 0 < d) ∧ ∀ j, loL L d m < j → j ≤ m → d ≤ L.getD j 0
 | 0 => ⟨Nat.le_refl _, .inl rfl, fun j h1 h2 => by omega⟩
 | m + 1 => by
  rw [loL]
  by_cases c : d ≤ L.getD (m + 1) 0
  ·rw [if_pos c]
   obtain ⟨a, b, e⟩ := loL_ok L d m
   refine ⟨by omega, b, fun j h1 h2 => ?_⟩
   by_cases q : j = m + 1
   ·rw [q]; exact c
   ·exact e j h1 (by omega)
  ·rw [if_neg c]
   exact ⟨Nat.le_refl _, .inr (by omega), fun j h1 h2 => by omega⟩
theorem hiL_ok (L : List Int) (d : Int) : ∀ f hi, hi + f = L.length → hi ≤ hiL L d f hi ∧ hiL L d f hi ≤ L.length ∧ (hiL L d f hi = L.length ∨ L.getD (hiL L d f hi) 0 < d) ∧ ∀ j, hi ≤ j → j < hiL L d f hi → d ≤ L.getD j 0
 | 0, hi, h => ⟨Nat.le_refl _, by show hi ≤ _; omega, .inl (by show hi = _; omega), fun j h1 h2 => by have h2 : j < hi := h2; omega⟩
 | f + 1, hi, h => by
  rw [hiL]
  by_cases c : d ≤ L.getD hi 0
  ·rw [if_pos c]
   obtain ⟨a, b, e, g⟩ := hiL_ok L d f (hi + 1) (by omega)
   refine ⟨by omega, b, e, fun j h1 h2 => ?_⟩
   by_cases q : j = hi
   ·rw [q]; exact c
   ·exact g j (by omega) h2
  ·rw [if_neg c]
   exact ⟨Nat.le_refl _, by omega, .inr (by omega), fun j h1 h2 => by omega⟩
def sOf (L : List Int) (j : Nat) : S27 := ⟨(loL L (L.getD j 0) (j - 1) : Int), (hiL L (L.getD j 0) (L.length - (j + 1)) (j + 1) : Int), L.getD j 0⟩
theorem sOf_ok (L : List Int) (j : Nat) (h1 : 1 ≤ j) (h2 : j < L.length) : OKs L (sOf L j) := by
 obtain ⟨a1, a2, a3⟩ := loL_ok L (L.getD j 0) (j - 1)
 obtain ⟨b1, b2, b3, b4⟩ := hiL_ok L (L.getD j 0) (L.length - (j + 1)) (j + 1) (by omega)
 refine ⟨loL L (L.getD j 0) (j - 1), hiL L (L.getD j 0) (L.length - (j + 1)) (j + 1), rfl, rfl, by omega, b2, ⟨fun i c1 c2 => ?_, j, by omega, by omega, rfl⟩, a2, b3⟩
 show L.getD j 0 ≤ L.getD i 0
 by_cases q : i = j
 ·rw [q]; exact Int.le_refl _
 ·by_cases q2 : i < j
  ·exact a3 i c1 (by omega)
  ·exact b4 i (by omega) c2
theorem ok_sOf (L : List Int) (s : S27) (h : OKs L s) : ∃ j, 1 ≤ j ∧ j < L.length ∧ s = sOf L j := by
 obtain ⟨lo, hi, x0, x1, x2, x3, ⟨x4, j, y1, y2, y3⟩, x5, x6⟩ := id h
 refine ⟨j, by omega, by omega, h.uniq (sOf_ok L j (by omega) (by omega)) ?_ ?_⟩
 ·obtain ⟨a1, a2, a3⟩ := loL_ok L (L.getD j 0) (j - 1)
  show s.f0 = ((loL L (L.getD j 0) (j - 1) : Nat) : Int)
  rw [x0]
  by_cases c : loL L (L.getD j 0) (j - 1) < lo
  ·have := a3 lo c (by omega)
   omega
  ·by_cases c2 : lo < loL L (L.getD j 0) (j - 1)
   ·have := x4 _ c2 (by omega)
    omega
   ·omega
 ·obtain ⟨b1, b2, b3, b4⟩ := hiL_ok L (L.getD j 0) (L.length - (j + 1)) (j + 1) (by omega)
  show s.f1 = ((hiL L (L.getD j 0) (L.length - (j + 1)) (j + 1) : Nat) : Int)
  rw [x1]
  by_cases c : hiL L (L.getD j 0) (L.length - (j + 1)) (j + 1) < hi
  ·have := x4 _ (show lo < hiL L (L.getD j 0) (L.length - (j + 1)) (j + 1) by omega) c
   omega
  ·by_cases c2 : hi < hiL L (L.getD j 0) (L.length - (j + 1)) (j + 1)
   ·have := b4 hi (by omega) c2
    omega
   ·omega
def sts (L : List Int) (n : Nat) : List S27 := (List.range (n - 1)).map fun i => sOf L (i + 1)
theorem sts_mem (L : List Int) (s : S27) : s ∈ sts L L.length ↔ OKs L s := by
 unfold sts
 rw [List.mem_map]
 constructor
 ·rintro ⟨i, hi, rfl⟩
  rw [List.mem_range] at hi
  exact sOf_ok L (i + 1) (by omega) (by omega)
 ·intro h
  obtain ⟨j, h1, h2, e⟩ := ok_sOf L s h
  exact ⟨j - 1, List.mem_range.2 (by omega), by rw [e, Nat.sub_add_cancel h1]⟩
theorem implSt_l1 (L : List Int) (hl : L.length ≤ 1000) (acc : List S27) (kk : Int) (hi : Nat) (d : Int) (r : List S27) : ∀ lo : Nat, lo < L.length → Ev (fun k => impl_stretches.j2 k L acc kk ((loL L d lo : Nat) : Int) (hi : Int) d) r →
  Ev (fun k => impl_stretches.l1 k acc kk L (lo : Int) (hi : Int) d) r
 | 0, h, hev => by
  refine Ev.step (fun k => ?_) hev
  rw [impl_stretches.l1, if_neg (by omega)]
  rfl
 | lo + 1, h, hev => by
  rw [loL] at hev
  by_cases c : d ≤ L.getD (lo + 1) 0
  ·rw [if_pos c] at hev
   refine Ev.step (fun k => ?_) (implSt_l1 L hl acc kk hi d r lo (by omega) hev)
   rw [impl_stretches.l1, if_pos (by omega), if_pos (by omega), if_pos (by omega), rd_nat, if_pos c, w64 (by omega) (by omega), show ((lo + 1 : Nat) : Int) - 1 = (lo : Int) by omega]
  ·rw [if_neg c] at hev
   refine Ev.step (fun k => ?_) hev
   rw [impl_stretches.l1, if_pos (by omega), if_pos (by omega), if_pos (by omega), rd_nat, if_neg c]
theorem implSt_l2 (L : List Int) (hl : L.length ≤ 1000) (acc : List S27) (ha : acc.length ≤ 2000) (kk : Nat) (hk : kk ≤ 1000) (lo : Int) (d : Int) (r : List S27) : ∀ f hi : Nat, hi + f = L.length →
  Ev (fun k => impl_stretches.l0 k (acc ++ [(⟨lo, ((hiL L d f hi : Nat) : Int), d⟩ : S27)]) ((kk + 1 : Nat) : Int) L) r → Ev (fun k => impl_stretches.l2 k L acc (kk : Int) lo (hi : Int) d) r
 | 0, hi, h, hev => by
  refine Ev.step (fun k => ?_) hev
  rw [impl_stretches.l2, if_neg (by omega), if_pos (by omega), w64 (by omega) (by omega)]
  rfl
 | f + 1, hi, h, hev => by
  rw [hiL] at hev
  by_cases c : d ≤ L.getD hi 0
  ·rw [if_pos c] at hev
   refine Ev.step (fun k => ?_) (implSt_l2 L hl acc ha kk hk lo d r f (hi + 1) (by omega) hev)
   rw [impl_stretches.l2, if_pos (by omega), if_pos (by omega), rd_nat, if_pos c, w64 (by omega) (by omega)]
   rfl
  ·rw [if_neg c] at hev
   refine Ev.step (fun k => ?_) hev
   rw [impl_stretches.l2, if_pos (by omega), if_pos (by omega), rd_nat, if_neg c, if_pos (by omega), w64 (by omega) (by omega)]
   rfl
def tri27 (x : S27) : Int × Int × Int := (x.f0, x.f1, x.f2)
def mk27 (t : Int × Int × Int) : S27 := ⟨t.1, t.2.1, t.2.2⟩
def finS (T : List S27) : List S27 := (Go.Lib.compact ((T.mergeSort (Str.le3 tri27)).map tri27)).map mk27
theorem sts_succ (L : List Int) (kk : Nat) (h : 1 ≤ kk) : sts L (kk + 1) = sts L kk ++ [sOf L kk] := by
 unfold sts
 obtain ⟨m, rfl⟩ : ∃ m, kk = m + 1 := ⟨kk - 1, by omega⟩
 show (List.range (m + 1)).map _ = (List.range m).map _ ++ _
 rw [List.range_succ, List.map_append]
 rfl
theorem sts_len (L : List Int) (kk : Nat) : (sts L kk).length = kk - 1 := by unfold sts; rw [List.length_map, List.length_range]
theorem okP_sts (L : List Int) (T : List S27) (hT : ∀ s ∈ T, OKs L s) : Str.okP (T.map tri27) = true := by
 unfold Str.okP
 rw [List.all_eq_true]
 intro x hx
 rw [List.all_eq_true]
 intro y hy
 obtain ⟨a, ha, rfl⟩ := List.mem_map.1 hx
 obtain ⟨b, hb, rfl⟩ := List.mem_map.1 hy
 by_cases c : a.f0 = b.f0 ∧ a.f1 = b.f1
 ·have e := (hT a ha).uniq (hT b hb) c.1 c.2
  subst e
  simp
 ·have : ((tri27 a).1 == (tri27 b).1 && (tri27 a).2.1 == (tri27 b).2.1) = false := by
   show (a.f0 == b.f0 && a.f1 == b.f1) = false
   rw [Bool.and_eq_false_iff]
   by_cases c1 : a.f0 = b.f0
   ·exact .inr (beq_eq_false_iff_ne.2 (fun e => c ⟨c1, e⟩))
   ·exact .inl (beq_eq_false_iff_ne.2 c1)
  rw [this]
  rfl
theorem implSt_fin (L : List Int) (hl : L.length ≤ 1000) (T : List S27) (hT : ∀ s ∈ T, OKs L s) (hlen : T.length ≤ 2000) (kk : Int) (hk : ¬ kk < (L.length : Int)) : Ev (fun k => impl_stretches.l0 k T kk L) (finS T) := by
 refine Ev.step (f := fun _ => some _) (fun k => ?_) (Ev.now _)
 have hok : Str.okP (T.map fun x : S27 => (x.f0, x.f1, x.f2)) = true := okP_sts L T hT
 have hms : (T.mergeSort (Str.le3 fun x : S27 => (x.f0, x.f1, x.f2))).length = T.length := List.length_mergeSort _
 rw [impl_stretches.l0, if_neg hk]
 unfold slices_SortFunc_72.f impl_Stretch_73.f
 rw [if_pos (by rw [hok, decide_eq_true (by omega)]; rfl), bs, if_pos (by omega), bs]
 rfl
theorem implSt_l0 (L : List Int) (hl : L.length ≤ 1000) (d : Nat) : ∀ kk : Nat, kk + d = L.length → 1 ≤ kk → Ev (fun k => impl_stretches.l0 k (sts L kk) (kk : Int) L) (finS (sts L L.length)) := by
 induction d with
 | zero =>
  intro kk h h1
  obtain rfl : kk = L.length := by omega
  exact implSt_fin L hl _ (fun s hs => (sts_mem L s).1 hs) (by rw [sts_len]; omega) _ (by omega)
 | succ d ih =>
  intro kk h h1
  have h' := ih (kk + 1) (by omega) (by omega)
  rw [sts_succ L kk h1] at h'
  have h2 := implSt_l2 L hl (sts L kk) (by rw [sts_len]; omega) kk (by omega) ((loL L (L.getD kk 0) (kk - 1) : Nat) : Int) (L.getD kk 0) _ (L.length - (kk + 1)) (kk + 1) (by omega) h'
  have h3 : Ev (fun k => impl_stretches.j2 k L (sts L kk) (kk : Int) ((loL L (L.getD kk 0) (kk - 1) : Nat) : Int) ((kk + 1 : Nat) : Int) (L.getD kk 0)) (finS (sts L L.length)) := Ev.step (fun k => by rw [impl_stretches.j2]) h2
  refine Ev.step (fun k => ?_) (implSt_l1 L hl (sts L kk) (kk : Int) (kk + 1) (L.getD kk 0) _ (kk - 1) (by omega) h3)
  rw [impl_stretches.l0, if_pos (by omega), if_pos (by omega), rd_nat, w64 (by omega) (by omega), w64 (by omega) (by omega), show ((kk : Int) - 1) = ((kk - 1 : Nat) : Int) by omega]
  rfl
theorem compact_ok {β : Type} [Inhabited β] [DecidableEq β] (lt : β → β → Prop) (d : Array β) (hanti : ∀ i j, i < d.size → j < d.size → ¬ lt d[i]! d[j]! → ¬ lt d[j]! d[i]! → d[i]! = d[j]!) (hs : ∀ i j, i < j → j < d.size → ¬ lt d[j]! d[i]!) : ∀ m, m ≤ d.size →
  (Go.Lib.compactUpTo d m).Pairwise lt ∧ ∀ x, x ∈ Go.Lib.compactUpTo d m ↔ ∃ j, j < m ∧ d[j]! = x
 | 0, _ => ⟨by show List.Pairwise lt []; exact List.Pairwise.nil, fun x => ⟨fun h => (by cases h), fun ⟨j, hj, _⟩ => (by omega)⟩⟩
 | m + 1, h => by
  obtain ⟨ih1, ih2⟩ := compact_ok lt d hanti hs m (by omega)
  rw [Go.Lib.compactUpTo_succ]
  by_cases hk : Go.Lib.keeps d m = true
  ·rw [if_pos hk]
   have hk' : m = 0 ∨ d[m]! ≠ d[m - 1]! := of_decide_eq_true hk
   refine ⟨List.pairwise_append.2 ⟨ih1, List.pairwise_singleton _ _, fun a ha b hb => ?_⟩, fun x => ?_⟩
   ·rw [List.mem_singleton] at hb
    subst hb
    obtain ⟨j, hj, rfl⟩ := (ih2 a).1 ha
    refine Classical.byContradiction fun hn => ?_
    have e1 := hanti j m (by omega) (by omega) hn (hs j m hj (by omega))
    have hne := hk'.resolve_left (by omega)
    by_cases q : j = m - 1
    ·rw [q] at e1; exact hne e1.symm
    ·have a1 := hs j (m - 1) (by omega) (by omega)
     have a2 := hs (m - 1) m (by omega) (by omega)
     rw [← e1] at a2
     have e2 := hanti j (m - 1) (by omega) (by omega) a2 a1
     exact hne (by rw [← e1, e2])
   ·rw [List.mem_append, List.mem_singleton, ih2]
    constructor
    ·rintro (⟨j, hj, e⟩ | rfl)
     ·exact ⟨j, by omega, e⟩
     ·exact ⟨m, by omega, rfl⟩
    ·rintro ⟨j, hj, e⟩
     by_cases q : j = m
     ·exact .inr (by rw [← e, q])
     ·exact .inl ⟨j, by omega, e⟩
  ·rw [if_neg hk, List.append_nil]
   have hk' : ¬ (m = 0 ∨ d[m]! ≠ d[m - 1]!) := fun h => hk (decide_eq_true h)
   refine ⟨ih1, fun x => ?_⟩
   rw [ih2]
   constructor
   ·rintro ⟨j, hj, e⟩
    exact ⟨j, by omega, e⟩
   ·rintro ⟨j, hj, e⟩
    by_cases q : j = m
    ·refine ⟨m - 1, by omega, ?_⟩
     rw [← e, q]
     exact (Classical.byContradiction fun hn => hk' (.inr hn) : d[m]! = d[m - 1]!).symm
    ·exact ⟨j, by omega, e⟩
def lt3 (a b : Int × Int × Int) : Prop := a.1 < b.1 ∨ (a.1 = b.1 ∧ b.2.1 < a.2.1)
theorem le3_iff (a b : S27) : Str.le3 tri27 a b = true ↔ ¬ lt27 b a := by
 unfold Str.le3
 rw [Bool.not_eq_true', decide_eq_false_iff_not, Str.cmp3_neg]
 exact Iff.rfl
theorem finS_ok (L : List Int) (T : List S27) (hT : ∀ s ∈ T, OKs L s) : (finS T).Pairwise lt27 ∧ ∀ s, s ∈ finS T ↔ s ∈ T := by
 have hS : (T.mergeSort (Str.le3 tri27)).Pairwise fun a b => Str.le3 tri27 a b := List.pairwise_mergeSort (le := Str.le3 tri27) (fun a b c h1 h2 => by
  rw [le3_iff] at *
  unfold lt27 at *
  omega) (fun a b => by
  by_cases c : lt27 b a
  ·have : Str.le3 tri27 b a = true := (le3_iff b a).2 (fun h => lt27_irrefl a (lt27_trans _ _ _ h c))
   rw [this, Bool.or_true]
  ·rw [(le3_iff a b).2 c, Bool.true_or]) T
 have hmem : ∀ s, s ∈ T.mergeSort (Str.le3 tri27) ↔ s ∈ T := fun s => List.mem_mergeSort
 unfold finS
 generalize T.mergeSort (Str.le3 tri27) = S at hS hmem
 have hsz : (S.map tri27).toArray.size = S.length := by simp
 have hd : ∀ i (h : i < S.length), (S.map tri27).toArray[i]! = tri27 S[i] := fun i h => by
  rw [getElem!_pos (S.map tri27).toArray i (by rw [hsz]; exact h)]
  simp
 have hC : Go.Lib.compact (S.map tri27) = Go.Lib.compactUpTo (S.map tri27).toArray (S.map tri27).toArray.size := by unfold Go.Lib.compact; rw [hsz, List.length_map]
 rw [hC]
 obtain ⟨h1, h2⟩ := compact_ok lt3 (S.map tri27).toArray (fun i j hi hj n1 n2 => by
  rw [hsz] at hi hj
  rw [hd i hi, hd j hj] at n1 n2 ⊢
  have u := (hT _ ((hmem _).1 (List.getElem_mem hi))).uniq (hT _ ((hmem _).1 (List.getElem_mem hj)))
  unfold lt3 tri27 at n1 n2
  simp only at n1 n2
  rw [u (by omega) (by omega)]) (fun i j hij hj => by
  rw [hsz] at hj
  rw [hd i (by omega), hd j hj]
  exact (le3_iff _ _).1 (List.pairwise_iff_getElem.1 hS i j (by omega) hj hij)) _ (Nat.le_refl _)
 refine ⟨?_, fun s => ?_⟩
 ·rw [List.pairwise_map]
  exact h1.imp (fun {a b} h => h)
 ·rw [List.mem_map]
  constructor
  ·rintro ⟨t, ht, rfl⟩
   obtain ⟨j, hj, rfl⟩ := (h2 t).1 ht
   rw [hsz] at hj
   rw [hd j hj]
   exact (hmem _).1 (List.getElem_mem hj)
  ·intro h
   obtain ⟨j, hj, e⟩ := List.getElem_of_mem ((hmem s).2 h)
   exact ⟨tri27 s, (h2 _).2 ⟨j, by rw [hsz]; exact hj, by rw [hd j hj, e]⟩, rfl⟩
theorem stretches_eq (L : List Int) (h3 : ∀ x ∈ L, x ≤ 300) : finS (sts L L.length) = allS L L.length := by
 obtain ⟨h1, h2⟩ := finS_ok L (sts L L.length) (fun s hs => (sts_mem L s).1 hs)
 exact uniq_sorted h1 (allS_sorted L h3) (fun s => (h2 s).trans (sts_mem L s)) (allS_mem L h3)
theorem lcpRows_bd (l : List Int) (hl : l.length ≤ 300) : ∀ x ∈ lcpRows l, 0 ≤ x ∧ x ≤ 300 := fun x hx => by
 obtain ⟨j, hj, rfl⟩ := List.getElem_of_mem hx
 rw [← lget_lt _ j 0 hj]
 unfold lcpRows at hj ⊢
 rw [lcpL_len] at hj
 rw [lcpL_at _ _ _ hj]
 have := lcpAt_le l (rowsOf l) j
 omega
def stretchesOf (l : List Int) : List S27 := if l.length ≤ 300 then allS (lcpRows l) (l.length + 1) else []
theorem stretchesOf_len (l : List Int) : (stretchesOf l).length ≤ 1000000 := by
 unfold stretchesOf
 by_cases c : l.length ≤ 300
 ·rw [if_pos c]
  refine Nat.le_trans (allS_len _ _) ?_
  rw [lcpRows_len]
  exact Nat.le_trans (Nat.mul_le_mul (show l.length + 1 ≤ 301 by omega) (show l.length + 1 ≤ 301 by omega)) (by decide)
 ·rw [if_neg c]
  exact Nat.zero_le _
theorem specStretchAll_ev (l : List Int) : Ev (fun k => spec_StretchAll.f k l) (stretchesOf l) := by
 unfold stretchesOf
 by_cases c : l.length ≤ 300
 ·obtain ⟨K1, k1⟩ := ev_out (specLcp_ev l c)
  obtain ⟨K2, k2⟩ := ev_out (specAll_ev (lcpRows l) (by rw [lcpRows_len]; omega) (fun x hx => (lcpRows_bd l c x hx).1))
  refine ev_mk (K1 + K2) fun k hk => ?_
  unfold spec_StretchAll.f spec_TextOk.f
  rw [bs, decide_eq_true (show (l.length : Int) ≤ 300 by omega), if_pos rfl, k1 _ (by omega), bs, k2 _ (by omega), bs, if_pos c, lcpRows_len]
 ·refine ev_mk 0 fun k hk => ?_
  unfold spec_StretchAll.f spec_TextOk.f
  rw [bs, decide_eq_false (show ¬ (l.length : Int) ≤ 300 by omega), if_neg (by decide), if_neg c]
theorem implStretches_ev (l : List Int) (c : l.length ≤ 300) (hb : bytesOk l) : Ev (fun k => impl_stretches.f k l) (stretchesOf l) := by
 unfold stretchesOf
 rw [if_pos c]
 obtain ⟨K1, k1⟩ := ev_out (implLcp_ev l c hb)
 obtain ⟨K2, k2⟩ := ev_out (implSt_l0 (lcpRows l) (by rw [lcpRows_len]; omega) (l.length) 1 (by rw [lcpRows_len]; omega) (Nat.le_refl _))
 refine ev_mk (K1 + K2) fun k hk => ?_
 unfold impl_stretches.f
 have := k2 k (by omega)
 rw [stretches_eq _ (fun x hx => (lcpRows_bd l c x hx).2), lcpRows_len] at this
 rw [k1 _ (by omega), bs]
 exact this
theorem rdT27u (xs : List S27) (i : Nat) : rd_T27 xs (i : Int) = xs.getD i z27 := by unfold rd_T27; rw [Int.toNat_natCast]
def upC (s a : S27) : Bool := (!(a.f0 == s.f0) || (!(a.f1 == s.f1) || (!(a.f2 == s.f2))))
def upStep (s b a : S27) : S27 := if upC s a = true then (if a.f0 ≤ s.f0 then (if s.f1 ≤ a.f1 then (if b.f1 = 0 then a else if wrap64 (a.f1 - a.f0) < wrap64 (b.f1 - b.f0) then a else b) else b) else b) else b
def upR (l : List S27) (s b : S27) : S27 := l.foldl (upStep s) b
def upO (r : S27) : Int × Int × Int × Bool := (r.f0, r.f1, r.f2, decide (r.f1 > 0))
theorem drop_cons27 (l : List S27) (i : Nat) (h : i < l.length) : l.drop i = l.getD i z27 :: l.drop (i + 1) := by
 rw [List.drop_eq_getElem_cons h, lget_lt _ _ _ h]
theorem specUp_l0 (l : List S27) (hl : l.length ≤ 1000000) (s : S27) (d : Nat) : ∀ (i : Nat) (b : S27), i + d = l.length → Ev (fun k => spec_l11Up.l0 k l (i : Int) s.f0 s.f1 s.f2 b.f0 b.f1 b.f2) (upO (upR (l.drop i) s b)) := by
 induction d with
 | zero =>
  intro i b h
  refine Ev.step (f := fun _ => some _) (fun k => ?_) (Ev.now _)
  rw [spec_l11Up.l0, if_neg (by omega), List.drop_eq_nil_of_le (by omega)]
  rfl
 | succ d ih =>
  intro i b h
  rw [drop_cons27 l i (by omega)]
  have hr : rd_T27 l (i : Int) = l.getD i z27 := rdT27u l i
  generalize l.getD i z27 = a at hr
  obtain ⟨t, ht, hs⟩ : ∃ t : Bool, (∀ k, spec_l11Up.l0 (k + 1) l (i : Int) s.f0 s.f1 s.f2 b.f0 b.f1 b.f2 = spec_l11Up.j1 k l (i : Int) t s.f0 s.f1 s.f2 b.f0 b.f1 b.f2 a.f0 a.f1 a.f2) ∧ upStep s b a = if t = true then a else b := by
   unfold upStep
   by_cases c1 : upC s a = true
   ·have c1' : (!(a.f0 == s.f0) || (!(a.f1 == s.f1) || (!(a.f2 == s.f2)))) = true := c1
    by_cases c2 : a.f0 ≤ s.f0
    ·by_cases c3 : s.f1 ≤ a.f1
     ·by_cases c4 : b.f1 = 0
      ·exact ⟨true, fun k => by rw [spec_l11Up.l0, if_pos (by omega), if_pos (by omega), hr, if_pos c1', if_pos c2, if_pos c3, if_pos c4], by rw [if_pos c1, if_pos c2, if_pos c3, if_pos c4, if_pos rfl]⟩
      ·refine ⟨decide (wrap64 (a.f1 - a.f0) < wrap64 (b.f1 - b.f0)), fun k => by rw [spec_l11Up.l0, if_pos (by omega), if_pos (by omega), hr, if_pos c1', if_pos c2, if_pos c3, if_neg c4], ?_⟩
       rw [if_pos c1, if_pos c2, if_pos c3, if_neg c4]
       by_cases c5 : wrap64 (a.f1 - a.f0) < wrap64 (b.f1 - b.f0)
       ·rw [if_pos c5, decide_eq_true c5, if_pos rfl]
       ·rw [if_neg c5, decide_eq_false c5, if_neg (by decide)]
     ·exact ⟨false, fun k => by rw [spec_l11Up.l0, if_pos (by omega), if_pos (by omega), hr, if_pos c1', if_pos c2, if_neg c3], by rw [if_pos c1, if_pos c2, if_neg c3, if_neg (by decide)]⟩
    ·exact ⟨false, fun k => by rw [spec_l11Up.l0, if_pos (by omega), if_pos (by omega), hr, if_pos c1', if_neg c2], by rw [if_pos c1, if_neg c2, if_neg (by decide)]⟩
   ·have c1' : ¬ (!(a.f0 == s.f0) || (!(a.f1 == s.f1) || (!(a.f2 == s.f2)))) = true := c1
    exact ⟨false, fun k => by rw [spec_l11Up.l0, if_pos (by omega), if_pos (by omega), hr, if_neg c1'], by rw [if_neg c1, if_neg (by decide)]⟩
  show Ev _ (upO (upR (l.drop (i + 1)) s (upStep s b a)))
  rw [hs]
  have e1 : wrap64 ((i : Int) + 1) = ((i + 1 : Nat) : Int) := w64 (by omega) (by omega)
  cases t with
  | true =>
   obtain ⟨K, hK⟩ := ev_out (ih (i + 1) a (by omega))
   refine ev_mk (K + 2) fun k hk => ?_
   obtain ⟨k, rfl⟩ : ∃ m, k = m + 2 := ⟨k - 2, by omega⟩
   rw [ht, spec_l11Up.j1, if_pos rfl, e1, if_pos rfl]
   exact hK k (by omega)
  | false =>
   obtain ⟨K, hK⟩ := ev_out (ih (i + 1) b (by omega))
   refine ev_mk (K + 2) fun k hk => ?_
   obtain ⟨k, rfl⟩ : ∃ m, k = m + 2 := ⟨k - 2, by omega⟩
   rw [ht, spec_l11Up.j1, if_neg (by decide), e1, if_neg (by decide)]
   exact hK k (by omega)
theorem implUp_l0 (l : List S27) (hl : l.length ≤ 1000000) (hpos : ∀ a ∈ l, 0 < a.f1) (s : S27) (d : Nat) : ∀ (i : Nat) (b : S27), i + d = l.length → 0 ≤ b.f1 → Ev (fun k => impl_up.l0 k (decide (b.f1 > 0)) l (l.length : Int) (i : Int) s.f0 s.f1 s.f2 b.f0 b.f1 b.f2) (upO (upR (l.drop i) s b)) := by
 induction d with
 | zero =>
  intro i b h hb
  refine Ev.step (f := fun _ => some _) (fun k => ?_) (Ev.now _)
  rw [impl_up.l0, if_neg (by omega), List.drop_eq_nil_of_le (by omega)]
  rfl
 | succ d ih =>
  intro i b h hb
  rw [drop_cons27 l i (by omega)]
  have hr : rd_T27 l (i : Int) = l.getD i z27 := rdT27u l i
  have hap : 0 < (l.getD i z27).f1 := hpos _ (by rw [lget_lt _ _ _ (by omega)]; exact List.getElem_mem _)
  generalize l.getD i z27 = a at hr hap
  obtain ⟨t, ht, hs⟩ : ∃ t : Bool, (∀ k, impl_up.l0 (k + 1) (decide (b.f1 > 0)) l (l.length : Int) (i : Int) s.f0 s.f1 s.f2 b.f0 b.f1 b.f2 = impl_up.j1 k (decide (b.f1 > 0)) l (l.length : Int) (i : Int) t s.f0 s.f1 s.f2 b.f0 b.f1 b.f2 a.f0 a.f1 a.f2) ∧ upStep s b a = if t = true then a else b := by
   unfold upStep
   by_cases c1 : upC s a = true
   ·have c1' : (!(a.f0 == s.f0) || (!(a.f1 == s.f1) || (!(a.f2 == s.f2)))) = true := c1
    by_cases c2 : a.f0 ≤ s.f0
    ·by_cases c3 : s.f1 ≤ a.f1
     ·by_cases c4 : b.f1 = 0
      ·exact ⟨true, fun k => by rw [impl_up.l0, if_pos (by omega), if_pos (by omega), if_pos (by omega), hr, if_pos c1', if_pos c2, if_pos c3, if_neg (by rw [decide_eq_false (by omega)]; decide)], by rw [if_pos c1, if_pos c2, if_pos c3, if_pos c4, if_pos rfl]⟩
      ·refine ⟨decide (wrap64 (a.f1 - a.f0) < wrap64 (b.f1 - b.f0)), fun k => by rw [impl_up.l0, if_pos (by omega), if_pos (by omega), if_pos (by omega), hr, if_pos c1', if_pos c2, if_pos c3, if_pos (decide_eq_true (show b.f1 > 0 by omega))], ?_⟩
       rw [if_pos c1, if_pos c2, if_pos c3, if_neg c4]
       by_cases c5 : wrap64 (a.f1 - a.f0) < wrap64 (b.f1 - b.f0)
       ·rw [if_pos c5, decide_eq_true c5, if_pos rfl]
       ·rw [if_neg c5, decide_eq_false c5, if_neg (by decide)]
     ·exact ⟨false, fun k => by rw [impl_up.l0, if_pos (by omega), if_pos (by omega), if_pos (by omega), hr, if_pos c1', if_pos c2, if_neg c3], by rw [if_pos c1, if_pos c2, if_neg c3, if_neg (by decide)]⟩
    ·exact ⟨false, fun k => by rw [impl_up.l0, if_pos (by omega), if_pos (by omega), if_pos (by omega), hr, if_pos c1', if_neg c2], by rw [if_pos c1, if_neg c2, if_neg (by decide)]⟩
   ·have c1' : ¬ (!(a.f0 == s.f0) || (!(a.f1 == s.f1) || (!(a.f2 == s.f2)))) = true := c1
    exact ⟨false, fun k => by rw [impl_up.l0, if_pos (by omega), if_pos (by omega), if_pos (by omega), hr, if_neg c1'], by rw [if_neg c1, if_neg (by decide)]⟩
  show Ev _ (upO (upR (l.drop (i + 1)) s (upStep s b a)))
  rw [hs]
  have e1 : wrap64 ((i : Int) + 1) = ((i + 1 : Nat) : Int) := w64 (by omega) (by omega)
  cases t with
  | true =>
   obtain ⟨K, hK⟩ := ev_out (ih (i + 1) a (by omega) (by omega))
   refine ev_mk (K + 2) fun k hk => ?_
   obtain ⟨k, rfl⟩ : ∃ m, k = m + 2 := ⟨k - 2, by omega⟩
   have := hK k (by omega)
   rw [decide_eq_true (show a.f1 > 0 from hap)] at this
   rw [ht, impl_up.j1, if_pos rfl, e1, if_pos rfl]
   exact this
  | false =>
   obtain ⟨K, hK⟩ := ev_out (ih (i + 1) b (by omega) hb)
   refine ev_mk (K + 2) fun k hk => ?_
   obtain ⟨k, rfl⟩ : ∃ m, k = m + 2 := ⟨k - 2, by omega⟩
   rw [ht, impl_up.j1, if_neg (by decide), e1, if_neg (by decide)]
   exact hK k (by omega)
theorem specUp_ev (l : List S27) (hl : l.length ≤ 1000000) (s : S27) : Ev (fun k => spec_l11Up.f k l s.f0 s.f1 s.f2) (upO (upR l s ⟨0, 0, 0⟩)) :=
 Ev.congr (fun _ => rfl) (specUp_l0 l hl s l.length 0 ⟨0, 0, 0⟩ (by omega))
theorem implUp_ev (l : List S27) (hl : l.length ≤ 1000000) (hpos : ∀ a ∈ l, 0 < a.f1) (s : S27) : Ev (fun k => impl_up.f k l s.f0 s.f1 s.f2) (upO (upR l s ⟨0, 0, 0⟩)) :=
 Ev.congr (fun _ => rfl) (implUp_l0 l hl hpos s l.length 0 ⟨0, 0, 0⟩ (by omega) (by decide))
theorem stretchesOf_pos (l : List Int) : ∀ a ∈ stretchesOf l, 0 < a.f1 := fun a ha => by
 unfold stretchesOf at ha
 by_cases c : l.length ≤ 300
 ·rw [if_pos c] at ha
  have e : l.length + 1 = (lcpRows l).length := (lcpRows_len l).symm
  rw [e] at ha
  obtain ⟨lo, hi, _, h1, h2, _⟩ := (allS_mem (lcpRows l) (fun x hx => (lcpRows_bd l c x hx).2) a).1 ha
  omega
 ·rw [if_neg c] at ha
  cases ha
theorem lam27 {L : List Int} {a b : S27} (ha : OKs L a) (hb : OKs L b) (h : a.f0 ≤ b.f0) : a.f1 ≤ b.f0 ∨ b.f1 ≤ a.f1 ∨ a.f0 = b.f0 := by
 obtain ⟨lo, hi, x0, x1, x2, x3, ⟨x4, j, y1, y2, y3⟩, x5, x6⟩ := ha
 obtain ⟨lo', hi', u0, u1, u2, u3, ⟨u4, j', v1, v2, v3⟩, u5, u6⟩ := hb
 by_cases c1 : hi ≤ lo'
 ·exact .inl (by omega)
 by_cases c2 : hi' ≤ hi
 ·exact .inr (.inl (by omega))
 by_cases c3 : lo = lo'
 ·exact .inr (.inr (by omega))
 exfalso
 have e1 := x4 lo' (by omega) (by omega)
 have e2 := u5.resolve_left (by omega)
 have e3 := u4 hi (by omega) (by omega)
 have e4 := x6.resolve_left (by omega)
 omega
theorem deeper27 {L : List Int} {s b : S27} (hs : OKs L s) (hb : OKs L b) (h0 : s.f0 ≤ b.f0) (h1 : b.f1 ≤ s.f1) (hn : ¬ (s.f0 = b.f0 ∧ s.f1 = b.f1)) : s.f2 < b.f2 := by
 obtain ⟨lo, hi, x0, x1, x2, x3, ⟨x4, j, y1, y2, y3⟩, x5, x6⟩ := hs
 obtain ⟨lo', hi', u0, u1, u2, u3, ⟨u4, j', v1, v2, v3⟩, u5, u6⟩ := hb
 by_cases c : lo = lo'
 ·have e := x4 hi' (by omega) (by omega)
  have := u6.resolve_left (by omega)
  omega
 ·have e := x4 lo' (by omega) (by omega)
  have := u5.resolve_left (by omega)
  omega
def bd27 (a : S27) : Prop := 0 ≤ a.f0 ∧ a.f0 < a.f1 ∧ a.f1 ≤ 1000000
def UpQ (x a : S27) : Prop := upC x a = true ∧ a.f0 ≤ x.f0 ∧ x.f1 ≤ a.f1
theorem upStep_ok (x b a : S27) (hb : b.f1 = 0 ∨ bd27 b) (ha : bd27 a) : (upStep x b a = b ∨ (upStep x b a = a ∧ UpQ x a)) ∧ (UpQ x a → (upStep x b a).f1 ≠ 0 ∧ (upStep x b a).f1 - (upStep x b a).f0 ≤ a.f1 - a.f0) ∧
  (b.f1 ≠ 0 → (upStep x b a).f1 ≠ 0 ∧ (upStep x b a).f1 - (upStep x b a).f0 ≤ b.f1 - b.f0) := by
 unfold upStep UpQ
 unfold bd27 at hb ha
 by_cases c1 : upC x a = true
 ·by_cases c2 : a.f0 ≤ x.f0
  ·by_cases c3 : x.f1 ≤ a.f1
   ·rw [if_pos c1, if_pos c2, if_pos c3]
    by_cases c4 : b.f1 = 0
    ·rw [if_pos c4]
     exact ⟨.inr ⟨rfl, c1, c2, c3⟩, fun _ => ⟨by omega, by omega⟩, fun h => absurd c4 h⟩
    ·rw [if_neg c4, w64 (by omega) (by omega), w64 (by omega) (by omega)]
     by_cases c5 : a.f1 - a.f0 < b.f1 - b.f0
     ·rw [if_pos c5]
      exact ⟨.inr ⟨rfl, c1, c2, c3⟩, fun _ => ⟨by omega, by omega⟩, fun _ => ⟨by omega, by omega⟩⟩
     ·rw [if_neg c5]
      exact ⟨.inl rfl, fun _ => ⟨by omega, by omega⟩, fun _ => ⟨by omega, by omega⟩⟩
   ·rw [if_pos c1, if_pos c2, if_neg c3]
    exact ⟨.inl rfl, fun h => absurd h.2.2 c3, fun h => ⟨h, Int.le_refl _⟩⟩
  ·rw [if_pos c1, if_neg c2]
   exact ⟨.inl rfl, fun h => absurd h.2.1 c2, fun h => ⟨h, Int.le_refl _⟩⟩
 ·rw [if_neg c1]
  exact ⟨.inl rfl, fun h => absurd h.1 c1, fun h => ⟨h, Int.le_refl _⟩⟩
theorem upR_ok (x : S27) : ∀ (l : List S27) (b : S27), (∀ a ∈ l, bd27 a) → (b.f1 = 0 ∨ bd27 b) → (upR l x b = b ∨ (upR l x b ∈ l ∧ UpQ x (upR l x b))) ∧ (∀ a ∈ l, UpQ x a → (upR l x b).f1 ≠ 0 ∧ (upR l x b).f1 - (upR l x b).f0 ≤ a.f1 - a.f0) ∧
  (b.f1 ≠ 0 → (upR l x b).f1 ≠ 0 ∧ (upR l x b).f1 - (upR l x b).f0 ≤ b.f1 - b.f0)
 | [], b, _, _ => ⟨.inl rfl, fun a h => (by cases h), fun h => ⟨h, Int.le_refl _⟩⟩
 | a :: l, b, hl, hb => by
  have ha := hl a List.mem_cons_self
  obtain ⟨s1, s2, s3⟩ := upStep_ok x b a hb ha
  have hb' : (upStep x b a).f1 = 0 ∨ bd27 (upStep x b a) := by
   rcases s1 with e | ⟨e, _⟩ <;> rw [e]
   ·exact hb
   ·exact .inr ha
  obtain ⟨i1, i2, i3⟩ := upR_ok x l (upStep x b a) (fun y hy => hl y (List.mem_cons_of_mem _ hy)) hb'
  have e : upR (a :: l) x b = upR l x (upStep x b a) := rfl
  rw [e]
  refine ⟨?_, fun y hy hq => ?_, fun h => ?_⟩
  ·rcases i1 with i1 | ⟨i1, i1'⟩
   ·rw [i1]
    rcases s1 with s | ⟨s, q⟩
    ·exact .inl s
    ·refine .inr ⟨by rw [s]; exact List.mem_cons_self, by rw [s]; exact q⟩
   ·exact .inr ⟨List.mem_cons_of_mem _ i1, i1'⟩
  ·rcases List.mem_cons.1 hy with rfl | hy
   ·obtain ⟨t1, t2⟩ := s2 hq
    obtain ⟨t3, t4⟩ := i3 t1
    exact ⟨t3, Int.le_trans t4 t2⟩
   ·exact i2 y hy hq
  ·obtain ⟨t1, t2⟩ := s3 h
   obtain ⟨t3, t4⟩ := i3 t1
   exact ⟨t3, Int.le_trans t4 t2⟩
def kidB (all : List S27) (s x : S27) : Bool := decide ((upR all x ⟨0, 0, 0⟩).f1 > 0) && decide ((upR all x ⟨0, 0, 0⟩).f0 = s.f0 ∧ (upR all x ⟨0, 0, 0⟩).f1 = s.f1 ∧ (upR all x ⟨0, 0, 0⟩).f2 = s.f2)
theorem kidB_up {all : List S27} (hall : ∀ a ∈ all, bd27 a) {s x : S27} (h : kidB all s x = true) : s ∈ all ∧ UpQ x s ∧ ∀ a ∈ all, UpQ x a → s.f1 - s.f0 ≤ a.f1 - a.f0 := by
 unfold kidB at h
 rw [Bool.and_eq_true, decide_eq_true_eq, decide_eq_true_eq] at h
 obtain ⟨h0, h1, h2, h3⟩ := h
 obtain ⟨i1, i2, _⟩ := upR_ok x all ⟨0, 0, 0⟩ hall (.inl rfl)
 have e : upR all x ⟨0, 0, 0⟩ = s := ext27 h1 h2 h3
 rw [e] at i1 i2 h0
 rcases i1 with i1 | ⟨i1, q⟩
 ·rw [i1] at h0
  exact absurd h0 (by decide)
 ·exact ⟨i1, q, fun a ha hq => (i2 a ha hq).2⟩
theorem upC_ne {s a : S27} (h : upC s a = true) : a ≠ s := by
 rintro rfl
 unfold upC at h
 simp at h
theorem ne_upC {s a : S27} (h : a ≠ s) : upC s a = true := by
 unfold upC
 rw [← Bool.not_eq_false]
 intro h2
 simp only [Bool.or_eq_false_iff, Bool.not_eq_false', beq_iff_eq] at h2
 exact h (ext27 h2.1 h2.2.1 h2.2.2)
theorem kid_in {L : List Int} {all : List S27} (hm : ∀ s, s ∈ all ↔ OKs L s) (hb : ∀ a ∈ all, bd27 a) {s x : S27} (hx : x ∈ all) (h : kidB all s x = true) : s.f0 ≤ x.f0 ∧ x.f1 ≤ s.f1 ∧ s.f2 < x.f2 := by
 obtain ⟨h1, ⟨q1, q2, q3⟩, _⟩ := kidB_up hb h
 refine ⟨q2, q3, deeper27 ((hm s).1 h1) ((hm x).1 hx) q2 q3 (fun e => upC_ne q1 (((hm s).1 h1).uniq ((hm x).1 hx) e.1 e.2))⟩
theorem kids_apart {L : List Int} {all : List S27} (hm : ∀ s, s ∈ all ↔ OKs L s) (hb : ∀ a ∈ all, bd27 a) {s a b : S27} (ha : a ∈ all) (hb' : b ∈ all) (ka : kidB all s a = true) (kb : kidB all s b = true) (h : lt27 a b) : a.f1 ≤ b.f0 := by
 obtain ⟨h1, ⟨q1, q2, q3⟩, _⟩ := kidB_up hb ka
 obtain ⟨_, ⟨p1, p2, p3⟩, p4⟩ := kidB_up hb kb
 have hle : a.f0 ≤ b.f0 := by unfold lt27 at h; omega
 have inn : b.f1 ≤ a.f1 → a.f1 ≤ b.f0 := fun c => by
  exfalso
  have hne : a ≠ b := fun e => lt27_irrefl a (by rw [← e] at h; exact h)
  have := p4 a ha ⟨ne_upC hne, hle, c⟩
  exact upC_ne q1 (((hm s).1 h1).uniq ((hm a).1 ha) (by omega) (by omega))
 rcases lam27 ((hm a).1 ha) ((hm b).1 hb') hle with c | c | c
 ·exact c
 ·exact inn c
 ·refine inn ?_
  unfold lt27 at h
  omega
theorem kidB_up_eq (all : List S27) (s x : S27) : kidB all s x = ((upO (upR all x ⟨0, 0, 0⟩)).2.2.2 && ((upO (upR all x ⟨0, 0, 0⟩)).1 == s.f0 && ((upO (upR all x ⟨0, 0, 0⟩)).2.1 == s.f1 && (upO (upR all x ⟨0, 0, 0⟩)).2.2.1 == s.f2))) := by
 unfold kidB upO
 generalize upR all x ⟨0, 0, 0⟩ = u
 dsimp only
 congr 1
 rw [Bool.eq_iff_iff, decide_eq_true_eq]
 simp
theorem specKids_l0 (all : List S27) (hl : all.length ≤ 1000000) (s : S27) (d : Nat) : ∀ (i : Nat) (out : List S27), i + d = all.length → out.length ≤ i → Ev (fun k => spec_StretchKids.l0 k out (i : Int) all s.f0 s.f1 s.f2) (out ++ (all.drop i).filter (kidB all s)) := by
 induction d with
 | zero =>
  intro i out h _
  refine Ev.step (f := fun _ => some _) (fun k => ?_) (Ev.now _)
  rw [spec_StretchKids.l0, if_neg (by omega), List.drop_eq_nil_of_le (by omega), List.filter_nil, List.append_nil]
 | succ d ih =>
  intro i out h ho
  rw [drop_cons27 all i (by omega)]
  have hr : rd_T27 all (i : Int) = all.getD i z27 := rdT27u all i
  generalize all.getD i z27 = a at hr
  obtain ⟨K1, k1⟩ := ev_out (specUp_ev all hl a)
  rw [List.filter_cons]
  have ek := kidB_up_eq all s a
  generalize upO (upR all a ⟨0, 0, 0⟩) = u at k1 ek
  obtain ⟨u0, u1, u2, u3⟩ := u
  dsimp only at ek
  have e1 : wrap64 ((i : Int) + 1) = ((i + 1 : Nat) : Int) := w64 (by omega) (by omega)
  by_cases c : kidB all s a = true
  ·rw [if_pos c]
   obtain ⟨K2, k2⟩ := ev_out (ih (i + 1) (out ++ [a]) (by omega) (by rw [List.length_append]; simp; omega))
   rw [c, eq_comm, Bool.and_eq_true] at ek
   refine ev_mk (K1 + K2 + 1) fun k hk => ?_
   obtain ⟨k, rfl⟩ : ∃ m, k = m + 1 := ⟨k - 1, by omega⟩
   rw [spec_StretchKids.l0, if_pos (by omega), if_pos (by omega), hr, k1 k (by omega), bs]
   dsimp only
   rw [if_pos ek.1, if_pos ek.2, if_pos (by omega), e1]
   have := k2 k (by omega)
   rw [List.append_assoc] at this
   exact this
  ·rw [if_neg c]
   obtain ⟨K2, k2⟩ := ev_out (ih (i + 1) out (by omega) (by omega))
   refine ev_mk (K1 + K2 + 1) fun k hk => ?_
   obtain ⟨k, rfl⟩ : ∃ m, k = m + 1 := ⟨k - 1, by omega⟩
   rw [spec_StretchKids.l0, if_pos (by omega), if_pos (by omega), hr, k1 k (by omega), bs]
   dsimp only
   by_cases c1 : u3 = true
   ·rw [if_pos c1, if_neg (fun c2 => c (by rw [ek, c1, c2]; rfl)), e1]
    exact k2 k (by omega)
   ·rw [if_neg c1, e1]
    exact k2 k (by omega)
def kidsOf (l : List Int) (s : S27) : List S27 := if stretchB l s.f0 s.f1 s.f2 = true then (stretchesOf l).filter (kidB (stretchesOf l) s) else []
theorem kidsOf_len (l : List Int) (s : S27) : (kidsOf l s).length ≤ 1000000 := by
 unfold kidsOf
 split
 ·exact Nat.le_trans (List.length_filter_le _ _) (stretchesOf_len l)
 ·exact Nat.zero_le _
theorem specKids_ev (l : List Int) (s : S27) : Ev (fun k => spec_StretchKids.f k l s.f0 s.f1 s.f2) (kidsOf l s) := by
 obtain ⟨K1, k1⟩ := ev_out (specStretchOk_ev l s.f0 s.f1 s.f2)
 obtain ⟨K2, k2⟩ := ev_out (specStretchAll_ev l)
 obtain ⟨K3, k3⟩ := ev_out (specKids_l0 (stretchesOf l) (stretchesOf_len l) s (stretchesOf l).length 0 [] (by omega) (Nat.le_refl _))
 refine ev_mk (K1 + K2 + K3) fun k hk => ?_
 unfold spec_StretchKids.f kidsOf
 rw [k1 _ (by omega), bs]
 by_cases c : stretchB l s.f0 s.f1 s.f2 = true
 ·rw [if_pos c, if_pos c, k2 _ (by omega), bs]
  exact (k3 k (by omega)).trans (by rw [List.drop_zero, List.nil_append])
 ·rw [if_neg c, if_neg c]
theorem ev_all {α β : Type} (l : List α) (f : Nat → α → Option β) (g : α → β) (h : ∀ x ∈ l, Ev (fun k => f k x) (g x)) : ∃ K, ∀ x ∈ l, ∀ k, K ≤ k → f k x = some (g x) := by
 induction l with
 | nil => exact ⟨0, fun x h => (by cases h)⟩
 | cons a l ih =>
  obtain ⟨K1, k1⟩ := ev_out (h a List.mem_cons_self)
  obtain ⟨K2, k2⟩ := ih (fun x hx => h x (List.mem_cons_of_mem _ hx))
  refine ⟨K1 + K2, fun x hx k hk => ?_⟩
  rcases List.mem_cons.1 hx with rfl | hx
  ·exact k1 k (by omega)
  ·exact k2 x hx k (by omega)
theorem implKids_ev (l : List Int) (s : S27) (hb : bytesOk l) : Ev (fun k => impl_StretchKids.f k l s.f0 s.f1 s.f2) (kidsOf l s) := by
 obtain ⟨K1, k1⟩ := ev_out (implStretchOk_ev l s.f0 s.f1 s.f2 hb)
 by_cases c : stretchB l s.f0 s.f1 s.f2 = true
 ·have hl : l.length ≤ 300 := by
   unfold stretchB at c
   by_cases q : l.length ≤ 300
   ·exact q
   ·rw [if_neg q] at c; exact absurd c (by decide)
  obtain ⟨K2, k2⟩ := ev_out (implStretches_ev l hl hb)
  obtain ⟨K3, k3⟩ := ev_all (stretchesOf l) (fun k x => impl_up.f k (stretchesOf l) x.f0 x.f1 x.f2) (fun x => upO (upR (stretchesOf l) x ⟨0, 0, 0⟩)) (fun x _ => implUp_ev (stretchesOf l) (stretchesOf_len l) (stretchesOf_pos l) x)
  have hlen := stretchesOf_len l
  refine ev_mk (K1 + K2 + K3) fun k hk => ?_
  unfold impl_StretchKids.f kidsOf
  rw [k1 _ (by omega), bs, if_pos c, if_pos c, k2 _ (by omega), bs]
  have hk3 : ∀ x ∈ stretchesOf l, impl_up.f k (stretchesOf l) x.f0 x.f1 x.f2 = some (upO (upR (stretchesOf l) x ⟨0, 0, 0⟩)) := fun x hx => k3 x hx k (by omega)
  rw [if_pos (by
   rw [Bool.and_eq_true, List.all_eq_true, decide_eq_true_eq]
   exact ⟨by omega, fun x hx => by rw [hk3 x hx]; rfl⟩)]
  rw [List.filter_map, List.map_map]
  congr 1
  have e : (((fun t : Int × Int × Int => (⟨t.1, t.2.1, t.2.2⟩ : S27)) ∘ fun x : S27 => (x.f0, x.f1, x.f2)) : S27 → S27) = id := rfl
  rw [e, List.map_id]
  refine List.filter_congr fun x hx => ?_
  show (!impl_StretchKids.p k (stretchesOf l) (s.f0, s.f1, s.f2) (x.f0, x.f1, x.f2)) = _
  unfold impl_StretchKids.p
  dsimp only
  rw [hk3 x hx, kidB_up_eq]
  generalize upO (upR (stretchesOf l) x ⟨0, 0, 0⟩) = u
  obtain ⟨u0, u1, u2, u3⟩ := u
  dsimp only
  rw [Bool.not_or, Bool.not_not, Bool.not_not]
  congr 1
  rw [Bool.eq_iff_iff, decide_eq_true_eq]
  simp
 ·refine ev_mk K1 fun k hk => ?_
  unfold impl_StretchKids.f kidsOf
  rw [k1 _ (by omega), bs, if_neg c, if_neg c]
theorem foldl_mn_le (l : List Int) : ∀ v : Int, l.foldl mn v ≤ v := by
 induction l with
 | nil => intro v; exact Int.le_refl _
 | cons x xs ih =>
  intro v
  rw [List.foldl_cons]
  refine Int.le_trans (ih _) ?_
  unfold mn; split <;> omega
theorem foldl_mn_ge (l : List Int) : ∀ v : Int, 0 ≤ v → (∀ x ∈ l, 0 ≤ x) → 0 ≤ l.foldl mn v := by
 induction l with
 | nil => intro v h _; exact h
 | cons x xs ih =>
  intro v h hx
  rw [List.foldl_cons]
  have := hx x (List.mem_cons_self ..)
  exact ih _ (by unfold mn; split <;> omega) (fun y hy => hx y (List.mem_cons_of_mem _ hy))
theorem rowsOf_bd (l : List Int) (j : Nat) (hj : j < l.length + 1) : 0 ≤ (rowsOf l).getD j 0 ∧ (rowsOf l).getD j 0 ≤ l.length :=
 rd_rows (fun x hx => (rowsOf_mem l x).1 hx) j (by rw [rowsOf_len]; exact hj)
theorem lcpRows_ge (l : List Int) : ∀ x ∈ lcpRows l, 0 ≤ x := fun x hx => by
 obtain ⟨j, hj, rfl⟩ := List.getElem_of_mem hx
 rw [← lget_lt _ j 0 hj]
 unfold lcpRows at hj ⊢
 rw [lcpL_len] at hj
 rw [lcpL_at _ _ _ hj]
 exact (lcpAt_le l _ j).1
theorem stretch_room {l : List Int} {lo hi d : Int} (h : stretchB l lo hi d = true) : l.length ≤ 300 ∧ ∃ a i dn : Nat, lo = (a : Int) ∧ d = (dn : Int) ∧ a < l.length + 1 ∧ (rowsOf l).getD a 0 = (i : Int) ∧ i + dn ≤ l.length := by
 unfold stretchB at h
 by_cases c : l.length ≤ 300
 case neg => rw [if_neg c] at h; exact absurd h (by decide)
 rw [if_pos c] at h
 unfold okS at h
 have hL := lcpRows_len l
 by_cases c2 : 0 ≤ lo ∧ lo + 2 ≤ hi ∧ hi ≤ ((lcpRows l).length : Int)
 case neg => rw [if_neg c2] at h; exact absurd h (by decide)
 rw [if_pos c2] at h
 by_cases c3 : d = depthOf (lcpRows l) lo.toNat hi.toNat
 case neg => rw [if_neg c3] at h; exact absurd h (by decide)
 obtain ⟨a, rfl⟩ := Int.eq_ofNat_of_zero_le c2.1
 rw [Int.toNat_natCast] at c3
 obtain ⟨r0, r1⟩ := rowsOf_bd l a (by omega)
 obtain ⟨i, hi'⟩ := Int.eq_ofNat_of_zero_le r0
 have hat : (lcpRows l).getD (a + 1) 0 = lcpAt l (rowsOf l) (a + 1) := lcpL_at l (rowsOf l) (a + 1) (by rw [rowsOf_len]; omega)
 have hge := lcpAt_le l (rowsOf l) (a + 1)
 have hle : lcpAt l (rowsOf l) (a + 1) ≤ (l.length : Int) - i := by
  unfold lcpAt
  rw [if_neg (by omega), Nat.add_sub_cancel, hi', Int.toNat_natCast]
  have := (lcpB_le (l.drop i) (l.drop ((rowsOf l).getD (a + 1) 0).toNat)).1
  rw [List.length_drop] at this
  omega
 have hd1 : d ≤ lcpAt l (rowsOf l) (a + 1) := by rw [c3, ← hat]; exact foldl_mn_le _ _
 have hd0 : 0 ≤ d := by
  rw [c3]
  refine foldl_mn_ge _ _ (by rw [hat]; exact hge.1) (fun x hx => lcpRows_ge l x (List.mem_of_mem_take (List.mem_of_mem_drop hx)))
 obtain ⟨dn, rfl⟩ := Int.eq_ofNat_of_zero_le hd0
 exact ⟨c, a, i, dn, rfl, rfl, by omega, hi', by omega⟩
def wordOf (l : List Int) (lo hi d : Int) : List Int := if stretchB l lo hi d = true then (l.drop ((rowsOf l).getD lo.toNat 0).toNat).take d.toNat else []
theorem wordOf_len (l : List Int) (lo hi d : Int) : (wordOf l lo hi d).length ≤ l.length := by
 unfold wordOf
 split
 ·rw [List.length_take, List.length_drop]; omega
 ·exact Nat.zero_le _
theorem implWord_ev (l : List Int) (lo hi d : Int) (hb : bytesOk l) : Ev (fun k => impl_StretchWord.f k l lo hi d) (wordOf l lo hi d) := by
 obtain ⟨K1, k1⟩ := ev_out (implStretchOk_ev l lo hi d hb)
 unfold wordOf
 by_cases c : stretchB l lo hi d = true
 ·obtain ⟨hl, a, i, dn, rfl, rfl, ha, hi', hr⟩ := stretch_room c
  obtain ⟨K2, k2⟩ := ev_out (implRows_ev l hl hb)
  refine ev_mk (K1 + K2) fun k hk => ?_
  have hlen := rowsOf_len l
  have hdl : (l.drop i).length = l.length - i := List.length_drop
  unfold impl_StretchWord.f bytes_Clone.f
  rw [k1 _ (by omega), bs, if_pos c, k2 _ (by omega), bs, if_pos (by omega), if_pos (by omega), rd_nat, hi', if_pos (by omega), if_pos (by omega), if_pos (by omega), Int.toNat_natCast, if_pos (by omega), Int.toNat_natCast, if_pos (by rw [List.length_take]; omega), bs, if_pos c, Int.toNat_natCast, hi', Int.toNat_natCast]
 ·refine ev_mk K1 fun k hk => ?_
  unfold impl_StretchWord.f
  rw [k1 _ (by omega), bs, if_neg c, if_neg c]
def stretchR (l p : List Int) : Int × Int × Int × Bool := if (rowsR l p).2 - (rowsR l p).1 < 2 then (0, 0, 0, false) else ((rowsR l p).1, (rowsR l p).2, depthOf (lcpRows l) (rowsR l p).1.toNat (rowsR l p).2.toNat, true)
theorem rowsR_bd (l p : List Int) : 0 ≤ (rowsR l p).1 ∧ (rowsR l p).1 ≤ (rowsR l p).2 ∧ (rowsR l p).2 ≤ (l.length : Int) + 1 ∧ (¬ l.length ≤ 300 → rowsR l p = (0, 0)) := by
 have := lt_pre l p (l.length + 1)
 unfold rowsR
 by_cases c : l.length ≤ 300
 ·rw [if_pos c]
  exact ⟨by simp, by simp; omega, by simp; omega, fun h => absurd c h⟩
 ·rw [if_neg c]
  exact ⟨by simp, by simp, by simp; omega, fun _ => rfl⟩
theorem implStretchOf_ev (l p : List Int) (hb : bytesOk l) (hp : bytesOk p) : Ev (fun k => impl_StretchOf.f k l p) (stretchR l p) := by
 obtain ⟨K, hK⟩ := ev_out (implRowsOf_ev l p hb hp)
 obtain ⟨b0, b1, b2, b3⟩ := rowsR_bd l p
 generalize hr : rowsR l p = q at *
 obtain ⟨lo, hi⟩ := q
 simp only at b0 b1 b2
 unfold stretchR
 rw [hr]
 by_cases c : l.length ≤ 300
 ·by_cases c2 : hi - lo < 2
  ·refine ev_mk K fun k hk => ?_
   unfold impl_StretchOf.f
   rw [hK _ (by omega), bs]
   dsimp only
   rw [w64 (by omega) (by omega), if_pos c2, if_pos c2]
  ·obtain ⟨lo, rfl⟩ := Int.eq_ofNat_of_zero_le b0
   obtain ⟨hi, rfl⟩ := Int.eq_ofNat_of_zero_le (show 0 ≤ hi by omega)
   have hL := lcpRows_len l
   obtain ⟨K1, hK1⟩ := ev_out (implLcp_ev l c hb)
   obtain ⟨K2, hK2⟩ := ev_out (implMin_ev (lcpRows l) lo hi (by omega) (by omega) (by omega))
   refine ev_mk (K + K1 + K2) fun k hk => ?_
   unfold impl_StretchOf.f
   rw [hK _ (by omega), bs]
   dsimp only
   rw [w64 (by omega) (by omega), if_neg c2, hK1 _ (by omega), bs, w64 (by omega) (by omega), if_pos (by omega), if_pos (by omega), if_pos (by omega), Int.toNat_natCast, show ((lo : Int) + 1).toNat = lo + 1 by omega, hK2 _ (by omega), bs, if_neg c2]
   rfl
 ·have e := b3 c
  injection e with e1 e2
  subst e1; subst e2
  refine ev_mk K fun k hk => ?_
  unfold impl_StretchOf.f
  rw [hK _ (by omega), bs]
  dsimp only
  rw [w64 (by omega) (by omega), if_pos (by omega)]
  rfl
theorem lcpB_cmp : ∀ (a b : List Int) (d : Nat), Fv.cmpB a b < 0 → lcpB a b < d → Fv.cmpB a (b.take d) < 0
 | [], [], _, h, _ => by simp [Fv.cmpB] at h
 | [], y :: b, 0, _, h => absurd h (Nat.not_lt_zero _)
 | [], y :: b, d + 1, _, _ => by simp [Fv.cmpB]
 | x :: a, [], _, h, _ => by simp [Fv.cmpB] at h
 | x :: a, y :: b, 0, _, h => absurd h (Nat.not_lt_zero _)
 | x :: a, y :: b, d + 1, h, h2 => by
  simp only [Fv.cmpB, lcpB, List.take_succ_cons] at h h2 ⊢
  by_cases c : x < y
  ·rw [if_pos c]; decide
  ·rw [if_neg c] at h ⊢
   by_cases c2 : y < x
   ·rw [if_pos c2] at h; exact absurd h (by decide)
   ·rw [if_neg c2] at h ⊢
    rw [if_pos (by omega)] at h2
    exact lcpB_cmp a b d h (by omega)
theorem lcpB_cmp2 : ∀ (a b : List Int) (d : Nat), Fv.cmpB a b < 0 → lcpB a b < d → Fv.cmpB (a.take d) b < 0
 | [], [], _, h, _ => by simp [Fv.cmpB] at h
 | [], y :: b, d, _, _ => by rw [List.take_nil]; simp [Fv.cmpB]
 | x :: a, [], _, h, _ => by simp [Fv.cmpB] at h
 | x :: a, y :: b, 0, _, h => absurd h (Nat.not_lt_zero _)
 | x :: a, y :: b, d + 1, h, h2 => by
  simp only [Fv.cmpB, lcpB, List.take_succ_cons] at h h2 ⊢
  by_cases c : x < y
  ·rw [if_pos c]; decide
  ·rw [if_neg c] at h ⊢
   by_cases c2 : y < x
   ·rw [if_pos c2] at h; exact absurd h (by decide)
   ·rw [if_neg c2] at h ⊢
    rw [if_pos (by omega)] at h2
    exact lcpB_cmp2 a b d h (by omega)
theorem lcpB_mono : ∀ (a b c : List Int), Fv.cmpB a b < 0 → Fv.cmpB b c < 0 → lcpB a c ≤ lcpB a b
 | [], _, _, _, _ => by simp [lcpB]
 | x :: a, [], _, h, _ => by simp [Fv.cmpB] at h
 | x :: a, y :: b, [], _, h => by simp [Fv.cmpB] at h
 | x :: a, y :: b, z :: c, h, h2 => by
  simp only [Fv.cmpB, lcpB] at h h2 ⊢
  by_cases e : x = y
  ·subst e
   rw [if_neg (Int.lt_irrefl _), if_neg (Int.lt_irrefl _)] at h
   rw [if_pos rfl]
   by_cases e2 : x = z
   ·subst e2
    rw [if_neg (Int.lt_irrefl _), if_neg (Int.lt_irrefl _)] at h2
    rw [if_pos rfl]
    have := lcpB_mono a b c h h2
    omega
   ·rw [if_neg e2]; exact Nat.zero_le _
  ·rw [if_neg e]
   by_cases c1 : x < y
   ·have : ¬ x = z := by
     intro e2
     subst e2
     rw [if_neg (by omega), if_pos (by omega)] at h2
     exact absurd h2 (by decide)
    rw [if_neg this]
    exact Nat.le_refl _
   ·rw [if_neg c1, if_pos (by omega)] at h
    exact absurd h (by decide)
theorem lcpB_take : ∀ (a b : List Int) (d : Nat), d ≤ lcpB a b → a.take d = b.take d
 | _, _, 0, _ => by simp
 | [], _, d + 1, h => by simp [lcpB] at h
 | x :: a, [], d + 1, h => by simp [lcpB] at h
 | x :: a, y :: b, d + 1, h => by
  simp only [lcpB] at h
  by_cases c : x = y
  ·rw [if_pos c] at h
   rw [List.take_succ_cons, List.take_succ_cons, c, lcpB_take a b d (by omega)]
  ·rw [if_neg c] at h
   exact absurd h (by omega)
theorem take_lcpB : ∀ (a b : List Int) (d : Nat), d ≤ a.length → d ≤ b.length → a.take d = b.take d → d ≤ lcpB a b
 | _, _, 0, _, _, _ => Nat.zero_le _
 | [], _, d + 1, h, _, _ => absurd h (by simp)
 | x :: a, [], d + 1, _, h, _ => absurd h (by simp)
 | x :: a, y :: b, d + 1, h1, h2, h => by
  rw [List.take_succ_cons, List.take_succ_cons] at h
  injection h with e1 e2
  simp only [List.length_cons] at h1 h2
  simp only [lcpB]
  rw [if_pos e1]
  have := take_lcpB a b d (by omega) (by omega) e2
  omega
theorem lcpB_trans (a b c : List Int) (d : Nat) (h1 : d ≤ lcpB a b) (h2 : d ≤ lcpB b c) : d ≤ lcpB a c := by
 have l1 := lcpB_le a b
 have l2 := lcpB_le b c
 exact take_lcpB a c d (by omega) (by omega) ((lcpB_take a b d h1).trans (lcpB_take b c d h2))
def rowAt (l : List Int) (k : Nat) : List Int := l.drop ((rowsOf l).getD k 0).toNat
theorem rowAt_lt (l : List Int) (i j : Nat) (h : i < j) (hj : j < l.length + 1) : Fv.cmpB (rowAt l i) (rowAt l j) < 0 := by
 have hl := rowsOf_len l
 have := List.pairwise_iff_getElem.1 (rowsOf_sorted l) i j (by omega) (by omega) h
 unfold rowAt
 rw [lget_lt _ i 0 (by omega), lget_lt _ j 0 (by omega)]
 exact this
theorem lcp_row (l : List Int) (k : Nat) (h : k + 1 < l.length + 1) : (lcpRows l).getD (k + 1) 0 = (lcpB (rowAt l k) (rowAt l (k + 1)) : Int) := by
 unfold lcpRows
 rw [lcpL_at _ _ _ (by rw [rowsOf_len]; omega)]
 unfold lcpAt
 rw [if_neg (by omega), Nat.add_sub_cancel]
 rfl
theorem countP_span (P : Int → Bool) : ∀ (R : List Int) (lo hi : Nat), lo ≤ hi → hi ≤ R.length → (∀ k, k < R.length → P (R.getD k 0) = decide (lo ≤ k ∧ k < hi)) → R.countP P = hi - lo
 | [], lo, hi, _, h, _ => by simp only [List.length_nil] at h; simp; omega
 | x :: R, lo, hi, h1, h2, h => by
  have h0 := h 0 (by simp)
  rw [List.getD_cons_zero] at h0
  have hs : ∀ k, k < R.length → P (R.getD k 0) = decide (lo - 1 ≤ k ∧ k < hi - 1) ∨ (lo = 0 ∧ P (R.getD k 0) = decide (k + 1 < hi)) := fun k hk => by
   have := h (k + 1) (by simp; omega)
   rw [List.getD_cons_succ] at this
   by_cases c : lo = 0
   ·right
    refine ⟨c, this.trans ?_⟩
    subst c
    simp
   ·left
    rw [this]
    exact decide_eq_decide.2 (by omega)
  simp only [List.length_cons] at h2
  rw [List.countP_cons, h0]
  by_cases c : lo = 0
  ·subst c
   by_cases c2 : hi = 0
   ·subst c2
    have := countP_span P R 0 0 (Nat.le_refl _) (Nat.zero_le _) (fun k hk => (hs k hk).elim (fun e => e.trans (decide_eq_decide.2 (by omega))) (fun e => e.2.trans (decide_eq_decide.2 (by omega))))
    rw [this]
    simp
   ·have := countP_span P R 0 (hi - 1) (Nat.zero_le _) (by omega) (fun k hk => (hs k hk).elim (fun e => e.trans (decide_eq_decide.2 (by omega))) (fun e => e.2.trans (decide_eq_decide.2 (by omega))))
    rw [this, decide_eq_true (by omega), if_pos rfl]
    omega
  ·have := countP_span P R (lo - 1) (hi - 1) (by omega) (by omega) (fun k hk => (hs k hk).resolve_right (fun e => c e.1))
   rw [this, decide_eq_false (by omega), if_neg (by decide)]
   omega
theorem ltC_count (l p : List Int) : ∀ i : Nat, ltC l p i = ((List.range i).map fun (i : Nat) => (i : Int)).countP fun x => decide (Fv.cmpB (l.drop x.toNat) p < 0)
 | 0 => rfl
 | i + 1 => by
  rw [ltC, ltC_count l p i, List.range_succ, List.map_append, List.countP_append]
  simp only [List.map_cons, List.map_nil, List.countP_cons, List.countP_nil, Int.toNat_natCast, Nat.zero_add]
  simp only [decide_eq_true_eq]
theorem preC_count (l p : List Int) : ∀ i : Nat, preC l p i = ((List.range i).map fun (i : Nat) => (i : Int)).countP fun x => hasP (l.drop x.toNat) p
 | 0 => rfl
 | i + 1 => by
  rw [preC, preC_count l p i, List.range_succ, List.map_append, List.countP_append]
  simp only [List.map_cons, List.map_nil, List.countP_cons, List.countP_nil, Int.toNat_natCast, Nat.zero_add]
theorem rows_word (l : List Int) (lo hi dn : Nat) (h : OKs (lcpRows l) ⟨(lo : Int), (hi : Int), (dn : Int)⟩) :
  ltC l ((rowAt l lo).take dn) (l.length + 1) = lo ∧ preC l ((rowAt l lo).take dn) (l.length + 1) = hi - lo := by
 obtain ⟨lo', hi', e0, e1, x2, x3, ⟨x4, _⟩, x5, x6⟩ := h
 obtain rfl : lo' = lo := by simp only at e0; omega
 obtain rfl : hi' = hi := by simp only at e1; omega
 simp only at x4 x5 x6
 rw [lcpRows_len] at x3 x6
 have hlen := rowsOf_len l
 have hin : ∀ k, lo' + k < hi' → dn ≤ lcpB (rowAt l lo') (rowAt l (lo' + k)) := by
  intro k
  have d1 : dn ≤ lcpB (rowAt l lo') (rowAt l (lo' + 1)) := by
   have := x4 (lo' + 1) (by omega) (by omega)
   rw [lcp_row l lo' (by omega)] at this
   omega
  induction k with
  | zero =>
   intro _
   have := lcpB_le (rowAt l lo') (rowAt l (lo' + 1))
   exact take_lcpB _ _ _ (by omega) (by rw [Nat.add_zero]; omega) rfl
  | succ k ih =>
   intro h
   have := x4 (lo' + k + 1) (by omega) (by omega)
   rw [lcp_row l (lo' + k) (by omega)] at this
   exact lcpB_trans _ _ _ _ (ih (by omega)) (by rw [← Nat.add_assoc]; omega)
 have hW : ((rowAt l lo').take dn).length = dn := by
  have := hin 1 (by omega)
  have := lcpB_le (rowAt l lo') (rowAt l (lo' + 1))
  rw [List.length_take]
  omega
 have hlo : dn ≤ (rowAt l lo').length := by rw [List.length_take] at hW; omega
 have pre : ∀ k, hasP (rowAt l k) ((rowAt l lo').take dn) = true ↔ dn ≤ lcpB (rowAt l lo') (rowAt l k) := fun k => by
  unfold hasP
  rw [Bool.and_eq_true, decide_eq_true_eq, decide_eq_true_eq, hW]
  exact ⟨fun ⟨a, b⟩ => take_lcpB _ _ _ hlo a b.symm, fun h => ⟨by have := lcpB_le (rowAt l lo') (rowAt l k); omega, (lcpB_take _ _ _ h).symm⟩⟩
 have before : ∀ k, k < lo' → Fv.cmpB (rowAt l k) ((rowAt l lo').take dn) < 0 := fun k hk => by
  obtain ⟨m, rfl⟩ : ∃ m, lo' = m + 1 := ⟨lo' - 1, by omega⟩
  have hd := x5.resolve_left (by omega)
  rw [lcp_row l m (by omega)] at hd
  have c := lcpB_cmp _ _ dn (rowAt_lt l m (m + 1) (by omega) (by omega)) (by omega)
  by_cases e : k = m
  ·rw [e]; exact c
  ·exact Fv.cmpB_trans _ _ _ (rowAt_lt l k m (by omega) (by omega)) c
 have after : ∀ k, hi' ≤ k → k < l.length + 1 → ¬ Fv.cmpB (rowAt l k) ((rowAt l lo').take dn) < 0 ∧ ¬ dn ≤ lcpB (rowAt l lo') (rowAt l k) := fun k h1 h2 => by
  obtain ⟨m, rfl⟩ : ∃ m, hi' = m + 1 := ⟨hi' - 1, by omega⟩
  have hd := x6.resolve_left (by omega)
  rw [lcp_row l m (by omega)] at hd
  have hmk : lcpB (rowAt l m) (rowAt l k) < dn := by
   by_cases e : k = m + 1
   ·rw [e]; omega
   ·have := lcpB_mono _ _ _ (rowAt_lt l m (m + 1) (by omega) (by omega)) (rowAt_lt l (m + 1) k (by omega) (by omega))
    omega
  have hm : dn ≤ lcpB (rowAt l lo') (rowAt l m) := by
   have := hin (m - lo') (by omega)
   rwa [show lo' + (m - lo') = m by omega] at this
  refine ⟨fun hc => ?_, fun hc => ?_⟩
  ·have c := lcpB_cmp2 _ _ dn (rowAt_lt l m k (by omega) h2) hmk
   rw [← lcpB_take _ _ _ hm] at c
   have := Fv.cmpB_trans _ _ _ c hc
   rw [Fv.cmpB_self] at this
   exact absurd this (by decide)
  ·have l1 := lcpB_le (rowAt l lo') (rowAt l m)
   have l2 := lcpB_le (rowAt l lo') (rowAt l k)
   have := take_lcpB (rowAt l m) (rowAt l k) dn (by omega) (by omega) ((lcpB_take _ _ _ hm).symm.trans (lcpB_take _ _ _ hc))
   omega
 constructor
 ·rw [ltC_count]
  show (upto l.length).countP _ = _
  rw [← (rowsOf_perm l).countP_eq, countP_span _ (rowsOf l) 0 lo' (Nat.zero_le _) (by omega) (fun k hk => ?_), Nat.sub_zero]
  refine decide_eq_decide.2 ⟨fun h => ⟨Nat.zero_le _, ?_⟩, fun h => before k h.2⟩
  refine Classical.byContradiction fun c => ?_
  by_cases c2 : k < hi'
  ·refine hasP_cmp ((pre k).2 ?_) h
   have := hin (k - lo') (by omega)
   rwa [show lo' + (k - lo') = k by omega] at this
  ·exact (after k (by omega) (by omega)).1 h
 ·rw [preC_count]
  show (upto l.length).countP _ = _
  rw [← (rowsOf_perm l).countP_eq]
  refine countP_span _ (rowsOf l) lo' hi' (by omega) (by omega) (fun k hk => ?_)
  have e : hasP (l.drop ((rowsOf l).getD k 0).toNat) ((rowAt l lo').take dn) = hasP (rowAt l k) ((rowAt l lo').take dn) := rfl
  rw [e]
  by_cases c : lo' ≤ k ∧ k < hi'
  ·rw [decide_eq_true c]
   refine (pre k).2 ?_
   have := hin (k - lo') (by omega)
   rwa [show lo' + (k - lo') = k by omega] at this
  ·rw [decide_eq_false c, ← Bool.not_eq_true]
   intro h
   by_cases c2 : k < lo'
   ·exact hasP_cmp h (before k c2)
   ·exact (after k (by omega) (by omega)).2 ((pre k).1 h)
theorem foldl_mn_mem (l : List Int) : ∀ v : Int, (∀ x ∈ l, l.foldl mn v ≤ x) ∧ (l.foldl mn v = v ∨ l.foldl mn v ∈ l) := by
 induction l with
 | nil => intro v; exact ⟨fun x h => (by cases h), .inl rfl⟩
 | cons y ys ih =>
  intro v
  rw [List.foldl_cons]
  obtain ⟨a, b⟩ := ih (mn v y)
  have c := foldl_mn_le ys (mn v y)
  refine ⟨fun x hx => ?_, ?_⟩
  ·rcases List.mem_cons.1 hx with rfl | hx
   ·refine Int.le_trans c ?_
    unfold mn; split <;> omega
   ·exact a x hx
  ·rcases b with b | b
   ·rw [b]
    unfold mn
    split
    ·exact .inr List.mem_cons_self
    ·exact .inl rfl
   ·exact .inr (List.mem_cons_of_mem _ b)
theorem depth_min (L : List Int) (lo hi : Nat) (h1 : lo + 2 ≤ hi) (h2 : hi ≤ L.length) : IsMin L lo hi (depthOf L lo hi) := by
 unfold depthOf
 obtain ⟨a, b⟩ := foldl_mn_mem ((L.take hi).drop (lo + 1)) (L.getD (lo + 1) 0)
 have hS : ((L.take hi).drop (lo + 1)).length = hi - (lo + 1) := by rw [List.length_drop, List.length_take]; omega
 have at_ : ∀ j (h : j < ((L.take hi).drop (lo + 1)).length), ((L.take hi).drop (lo + 1))[j] = L.getD (lo + 1 + j) 0 := fun j h => by
  rw [List.getElem_drop, List.getElem_take, lget_lt L (lo + 1 + j) 0 (by omega)]
 refine ⟨fun j c1 c2 => ?_, ?_⟩
 ·have := at_ (j - (lo + 1)) (by omega)
  rw [show lo + 1 + (j - (lo + 1)) = j by omega] at this
  rw [← this]
  exact a _ (List.getElem_mem _)
 ·rcases b with b | b
  ·exact ⟨lo + 1, by omega, by omega, b.symm⟩
  ·obtain ⟨j, hj, e⟩ := List.getElem_of_mem b
   rw [at_ j hj] at e
   exact ⟨lo + 1 + j, by omega, by omega, e⟩
theorem okS_OKs {L : List Int} {lo hi d : Int} (h : okS L lo hi d = true) : OKs L ⟨lo, hi, d⟩ ∧ d = depthOf L lo.toNat hi.toNat := by
 unfold okS at h
 by_cases c : 0 ≤ lo ∧ lo + 2 ≤ hi ∧ hi ≤ (L.length : Int)
 case neg => rw [if_neg c] at h; exact absurd h (by decide)
 rw [if_pos c] at h
 by_cases c2 : d = depthOf L lo.toNat hi.toNat
 case neg => rw [if_neg c2] at h; exact absurd h (by decide)
 rw [if_pos c2] at h
 obtain ⟨a, rfl⟩ := Int.eq_ofNat_of_zero_le c.1
 obtain ⟨b, rfl⟩ := Int.eq_ofNat_of_zero_le (show 0 ≤ hi by omega)
 rw [Int.toNat_natCast, Int.toNat_natCast] at c2
 have hm := depth_min L a b (by omega) (by omega)
 rw [← c2] at hm
 refine ⟨⟨a, b, rfl, rfl, by omega, by omega, hm, ?_⟩, by rw [Int.toNat_natCast, Int.toNat_natCast]; exact c2⟩
 unfold tailB at h
 rw [rd_nat, rd_nat] at h
 show (a = 0 ∨ L.getD a 0 < d) ∧ (b = L.length ∨ L.getD b 0 < d)
 by_cases c3 : (a : Int) = 0
 ·rw [if_pos c3] at h
  refine ⟨.inl (by omega), ?_⟩
  by_cases c4 : (b : Int) = (L.length : Int)
  ·exact .inl (by omega)
  ·rw [if_neg c4] at h
   exact .inr (of_decide_eq_true h)
 ·rw [if_neg c3] at h
  by_cases c5 : L.getD a 0 < d
  ·rw [if_pos c5] at h
   refine ⟨.inr c5, ?_⟩
   by_cases c4 : (b : Int) = (L.length : Int)
   ·exact .inl (by omega)
   ·rw [if_neg c4] at h
    exact .inr (of_decide_eq_true h)
  ·rw [if_neg c5] at h
   exact absurd h (by decide)
theorem stretchR_word {l : List Int} {lo hi d : Int} (h : stretchB l lo hi d = true) : stretchR l (wordOf l lo hi d) = (lo, hi, d, true) ∧ ((wordOf l lo hi d).length : Int) = d := by
 obtain ⟨hl, a, i, dn, rfl, rfl, ha, hi', hr⟩ := stretch_room h
 have h' := h
 unfold stretchB at h'
 rw [if_pos hl] at h'
 obtain ⟨ok, hd⟩ := okS_OKs h'
 obtain ⟨a', b, e0, e1, x2, x3, _⟩ := id ok
 simp only at e0 e1
 subst e1
 obtain ⟨q1, q2⟩ := rows_word l a b dn ok
 have hw : wordOf l a b dn = (rowAt l a).take dn := by
  unfold wordOf rowAt
  rw [if_pos h, Int.toNat_natCast, Int.toNat_natCast]
 have hab : a + 2 ≤ b := by omega
 rw [hw]
 have hR : rowsR l ((rowAt l a).take dn) = ((a : Int), (b : Int)) := by
  unfold rowsR
  rw [if_pos hl, q1, q2, show a + (b - a) = b by omega]
 unfold stretchR
 rw [hR]
 dsimp only
 rw [if_neg (by omega), ← hd]
 refine ⟨rfl, ?_⟩
 unfold rowAt
 rw [hi', Int.toNat_natCast, List.length_take, List.length_drop]
 omega
theorem bytesOk_app {a b : List Int} (ha : bytesOk a) (hb : bytesOk b) : bytesOk (a ++ b) := fun x hx => by
 rcases List.mem_append.1 hx with h | h
 ·exact ha x h
 ·exact hb x h
theorem textOf_l0 (S : ByteArray) (hS : 1 ≤ S.size) (hS2 : S.size ≤ 100) (c : Nat) : ∀ {code : List Int} {B t u : Int} (out : List Int), Cur code B t u → B + 3 * (c : Int) ≤ 900000000 → out.length + 10 * c ≤ 10000000 → bytesOk out →
  ∃ l t' u', Ev (fun k => spec_l01Cur_textOf.l0 k 30 out S (c : Int) code t u) (l, t', u') ∧ l.length ≤ 30 ∧ bytesOk l ∧ Cur code (B + 3 * (c : Int)) t' u' := by
 induction c with
 | zero =>
  intro code B t u out h _ _ ho
  by_cases c : (out.length : Int) > 30
  ·refine ⟨out.take 30, t, u, Ev.step (f := fun _ => some (out.take 30, t, u)) (fun k => ?_) (Ev.now _), by rw [List.length_take]; omega, fun x hx => ho x (List.mem_of_mem_take hx), h.more (by omega)⟩
   rw [spec_l01Cur_textOf.l0, if_neg (by omega), if_pos c, if_pos (by omega), if_pos (by omega)]
   rfl
  ·refine ⟨out, t, u, Ev.step (f := fun _ => some (out, t, u)) (fun k => ?_) (Ev.now _), by omega, ho, h.more (by omega)⟩
   rw [spec_l01Cur_textOf.l0, if_neg (by omega), if_neg c]
 | succ c ih =>
  intro code B t u out h hB hl ho
  have e1 : wrap64 (((c + 1 : Nat) : Int) - 1) = (c : Int) := by rw [w64 (by omega) (by omega)]; omega
  have plain : ∀ {B1 t1 u1 : Int}, Cur code B1 t1 u1 → B1 ≤ B + 1 → ∃ l t' u', Ev (fun k => spec_l01Cur_textOf.j1 k 30 out S ((c + 1 : Nat) : Int) false code t1 u1) (l, t', u') ∧ l.length ≤ 30 ∧ bytesOk l ∧ Cur code (B + 3 * ((c + 1 : Nat) : Int)) t' u' := fun {B1 t1 u1} h1 hB1 => by
   obtain ⟨v, t2, u2, e2, a2, b2, _, c2⟩ := pick_ev h1 (by omega) (S.size : Int) (by omega)
   have b2 := b2 (by omega)
   have hb := bt_range S v
   obtain ⟨l, t', u', hev, hlen, hin, hc⟩ := ih (out ++ [bt S v]) c2 (by omega) (by simp; omega) (bytesOk_app ho (fun x hx => by rw [List.mem_singleton.1 hx]; omega))
   refine ⟨l, t', u', Ev.step (fun k => ?_) hev, hlen, hin, hc.more (by omega)⟩
   rw [spec_l01Cur_textOf.j1, if_neg (by decide), e2, bs, if_pos a2, if_pos b2, if_pos (by omega), e1]
  by_cases g : (out.length : Int) > 3
  ·obtain ⟨b, t1, u1, eb, h1⟩ := once_ev h (by omega) 6 (by omega)
   cases b with
   | false =>
    obtain ⟨l, t', u', hev, r⟩ := plain h1 (by omega)
    refine ⟨l, t', u', Ev.step (fun k => ?_) hev, r⟩
    rw [spec_l01Cur_textOf.l0, if_pos (by omega), if_pos g, eb, bs]
   | true =>
    obtain ⟨v, t2, u2, e2, a2, b2, _, c2⟩ := pick_ev h1 (by omega) (out.length : Int) (by omega)
    have b2 := b2 (by omega)
    obtain ⟨v3, t3, u3, e3, a3, b3, _, c3⟩ := pick_ev c2 (by omega) 6 (by omega)
    have b3 := b3 (by omega)
    obtain ⟨i, rfl⟩ := Int.eq_ofNat_of_zero_le a2
    obtain ⟨q, rfl⟩ := Int.eq_ofNat_of_zero_le a3
    obtain ⟨m, hm, hm1, hm2, hm3⟩ : ∃ m : Nat, mn (out.length : Int) (wrap64 (wrap64 ((i : Int) + 1) + (q : Int))) = (m : Int) ∧ i ≤ m ∧ m ≤ out.length ∧ m ≤ i + 7 := by
     rw [w64 (x := (i : Int) + 1) (by omega) (by omega), w64 (by omega) (by omega)]
     unfold mn
     split
     ·exact ⟨i + 1 + q, by omega, by omega, by omega, by omega⟩
     ·exact ⟨out.length, rfl, by omega, by omega, by omega⟩
    have hpl : ((out.take m).drop i).length ≤ 7 := by rw [List.length_drop, List.length_take]; omega
    obtain ⟨l, t', u', hev, hlen, hin, hc⟩ := ih (out ++ (out.take m).drop i) c3 (by omega) (by rw [List.length_append]; omega) (bytesOk_app ho (bytesOk_drop (bytesOk_take ho m) i))
    refine ⟨l, t', u', Ev.step (f := fun k => spec_l01Cur_textOf.j1 k 30 out S ((c + 1 : Nat) : Int) true code t1 u1) (fun k => ?_) (Ev.step (fun k => ?_) hev), hlen, hin, hc.more (by omega)⟩
    ·rw [spec_l01Cur_textOf.l0, if_pos (by omega), if_pos g, eb, bs]
    ·rw [spec_l01Cur_textOf.j1, if_pos rfl, e2, bs, e3, bs]
     dsimp only
     rw [hm, if_pos (by omega), if_pos (by omega), if_pos (by omega), bs, Int.toNat_natCast, Int.toNat_natCast, if_pos (by omega), e1]
  ·obtain ⟨l, t', u', hev, r⟩ := plain h (by omega)
   refine ⟨l, t', u', Ev.step (fun k => ?_) hev, r⟩
   rw [spec_l01Cur_textOf.l0, if_pos (by omega), if_neg g]
theorem textOf_ev {code : List Int} {B t u : Int} (h : Cur code B t u) (hB : B ≤ 500000000) : ∃ l t' u', Ev (fun k => spec_l01Cur_textOf.f k code t u 30) (l, t', u') ∧ l.length ≤ 30 ∧ bytesOk l ∧ Cur code (B + 100) t' u' := by
 obtain ⟨v, t1, u1, e1, a1, b1, _, c1⟩ := pick_ev h (by omega) 5 (by omega)
 have b1 := b1 (by omega)
 obtain ⟨n, t2, u2, e2, a2, b2, c2⟩ := size_ev c1 (by omega) 30 (by omega) (by omega)
 obtain ⟨n, rfl⟩ := Int.eq_ofNat_of_zero_le a2
 obtain ⟨S, hS, hS1, hS2⟩ : ∃ S : ByteArray, rdOf ByteArray.empty [(⟨#[97]⟩ : ByteArray), (⟨#[97, 98]⟩ : ByteArray), (⟨#[97, 98, 99]⟩ : ByteArray), (⟨#[97, 99, 103, 116]⟩ : ByteArray), (⟨#[0, 255]⟩ : ByteArray)] v = S ∧ 1 ≤ S.size ∧ S.size ≤ 100 := by
  rcases (show v = 0 ∨ v = 1 ∨ v = 2 ∨ v = 3 ∨ v = 4 by omega) with rfl | rfl | rfl | rfl | rfl
  ·exact ⟨_, rfl, by decide, by decide⟩
  ·exact ⟨_, rfl, by decide, by decide⟩
  ·exact ⟨_, rfl, by decide, by decide⟩
  ·exact ⟨_, rfl, by decide, by decide⟩
  ·exact ⟨_, rfl, by decide, by decide⟩
 obtain ⟨l, t', u', hev, hlen, hin, hc⟩ := textOf_l0 S hS1 hS2 n [] c2 (by omega) (by simp; omega) (fun x hx => by simp at hx)
 refine ⟨l, t', u', Ev.congr (fun k => ?_) hev, hlen, hin, hc.more (by omega)⟩
 unfold spec_l01Cur_textOf.f
 rw [bs, e1, bs, if_pos a1, if_pos (by simp; omega), e2, bs]
 dsimp only
 rw [hS]
theorem stretchDraw_ev {code : List Int} {B t u : Int} (h : Cur code B t u) (hB : B ≤ 500000000) (l : List Int) : ∃ a b c t' u', Ev (fun k => spec_l01Cur_stretch.f k code t u l) (a, b, c, t', u') := by
 obtain ⟨K, hK⟩ := ev_out (specStretchAll_ev l)
 have hlen := stretchesOf_len l
 generalize stretchesOf l = W at hK hlen
 obtain ⟨v1, t1, u1, e1, a1, b1, _, c1⟩ := pick_ev h (by omega) 6 (by omega)
 obtain ⟨v2, t2, u2, e2, a2, b2, _, c2⟩ := pick_ev c1 (by omega) 9 (by omega)
 obtain ⟨v3, t3, u3, e3, a3, b3, _, c3⟩ := pick_ev c2 (by omega) 4 (by omega)
 have fall : ∀ t4 u4 : Int, Ev (fun k => spec_l01Cur_stretch.j0 k W false code t4 u4 v1 v2 v3) (v1, v2, v3, t4, u4) := fun t4 u4 => Ev.step (f := fun _ => some _) (fun k => by rw [spec_l01Cur_stretch.j0, if_neg (by decide)]) (Ev.now _)
 have pre : ∀ {r : Int × Int × Int × Int × Int}, Ev (fun k => if (W.length : Int) > 0 then ((spec_l01Cur_once.f code t3 u3 6).bind fun bt402 => (spec_l01Cur_stretch.j0 k W (!bt402.1) code bt402.2.1 bt402.2.2 v1 v2 v3)) else (spec_l01Cur_stretch.j0 k W false code t3 u3 v1 v2 v3)) r → Ev (fun k => spec_l01Cur_stretch.f k code t u l) r := fun {r} hr => by
  obtain ⟨K2, hK2⟩ := ev_out hr
  refine ev_mk (K + K2) fun k hk => ?_
  unfold spec_l01Cur_stretch.f
  rw [hK k (by omega), bs, e1, bs, e2, bs, e3, bs]
  exact hK2 k (by omega)
 by_cases g : (W.length : Int) > 0
 ·obtain ⟨b, t4, u4, e4, c4⟩ := once_ev c3 (by omega) 6 (by omega)
  cases b with
  | true =>
   refine ⟨v1, v2, v3, t4, u4, pre (Ev.congr (fun k => ?_) (fall t4 u4))⟩
   rw [if_pos g, e4, bs]
   rfl
  | false =>
   suffices hs : ∃ a b c t' u', ∀ k, spec_l01Cur_stretch.j0 (k + 1) W true code t4 u4 v1 v2 v3 = some (a, b, c, t', u') by
    obtain ⟨a, b, c, t', u', he⟩ := hs
    refine ⟨a, b, c, t', u', pre (Ev.congr (fun k => ?_) (Ev.step (g := fun k => spec_l01Cur_stretch.j0 k W true code t4 u4 v1 v2 v3) (f := fun _ => some (a, b, c, t', u')) (fun k => he k) (Ev.now _)))⟩
    rw [if_pos g, e4, bs]
    rfl
   obtain ⟨v5, t5, u5, e5, a5, b5, _, c5⟩ := pick_ev c4 (by omega) (mn 256 (W.length : Int)) (by unfold mn; split <;> omega)
   have b5 : v5 < (W.length : Int) := by
    have := b5 (by unfold mn; split <;> omega)
    unfold mn at this
    split at this <;> omega
   obtain ⟨v6, t6, u6, e6, a6, b6, _, c6⟩ := pick_ev c5 (by omega) 9 (by omega)
   obtain ⟨v7, t7, u7, e7, lo7, hi7, c7⟩ := raw_ev c6 (by omega)
   obtain ⟨v8, t8, u8, e8, a8, b8, _, c8⟩ := pick_ev c7 (by omega) 2 (by omega)
   have b8 := b8 (by omega)
   by_cases g0 : v6 = 0
   ·exact ⟨_, _, _, _, _, fun k => by rw [spec_l01Cur_stretch.j0, if_pos rfl, e5, bs, if_pos a5, if_pos b5, e6, bs, if_pos g0, e7, bs, bs, e8, bs, if_pos a8, if_pos (by simp; omega)]⟩
   by_cases g1 : v6 = 1
   ·exact ⟨_, _, _, _, _, fun k => by rw [spec_l01Cur_stretch.j0, if_pos rfl, e5, bs, if_pos a5, if_pos b5, e6, bs, if_neg g0, if_pos g1, e7, bs, bs, e8, bs, if_pos a8, if_pos (by simp; omega)]⟩
   by_cases g2 : v6 = 2
   ·exact ⟨_, _, _, _, _, fun k => by rw [spec_l01Cur_stretch.j0, if_pos rfl, e5, bs, if_pos a5, if_pos b5, e6, bs, if_neg g0, if_neg g1, if_pos g2, e7, bs]⟩
   ·exact ⟨_, _, _, _, _, fun k => by rw [spec_l01Cur_stretch.j0, if_pos rfl, e5, bs, if_pos a5, if_pos b5, e6, bs, if_neg g0, if_neg g1, if_neg g2]⟩
 ·refine ⟨v1, v2, v3, t3, u3, pre (Ev.congr (fun k => ?_) (fall t3 u3))⟩
  rw [if_neg g]
theorem drawKids_ev {code : List Int} (h1 : ∀ x ∈ code, 0 ≤ x ∧ x ≤ 255) (h2 : code.length ≤ 140737488351232) : ∃ l a b c, Ev (fun k => spec_DrawStretchKids.f k code) (l, a, b, c) ∧ l.length ≤ 30 ∧ bytesOk l := by
 obtain ⟨t, u, e0, c0⟩ := open_ev h1 h2
 obtain ⟨l, t1, u1, hev, hlen, hb, c1⟩ := textOf_ev c0 (by omega)
 obtain ⟨a, b, c, t2, u2, hev2⟩ := stretchDraw_ev c1 (by omega) l
 obtain ⟨K1, k1⟩ := ev_out hev
 obtain ⟨K2, k2⟩ := ev_out hev2
 refine ⟨l, a, b, c, ev_mk (K1 + K2) fun k hk => ?_, hlen, hb⟩
 unfold spec_DrawStretchKids.f
 rw [e0, bs]
 dsimp only
 rw [k1 k (by omega), bs]
 dsimp only
 rw [k2 k (by omega), bs]
theorem kidsLoop (s : S27) (hs : -9223372036854775808 ≤ s.f0) (W : List S27) (hl : W.length ≤ 1000000) (hin : ∀ x ∈ W, s.f0 ≤ x.f0 ∧ x.f1 ≤ s.f1 ∧ s.f2 < x.f2) (hap : W.Pairwise fun a b => a.f1 ≤ b.f0) (d : Nat) : ∀ (i : Nat) (at_ : Int), i + d = W.length → (∀ x ∈ W.drop i, at_ ≤ x.f0) →
  Ev (fun k => laws_FnStretchWords.l0 k W at_ (i : Int) s.f0 s.f1 s.f2) true := by
 induction d with
 | zero =>
  intro i at_ h _
  refine Ev.step (f := fun _ => some _) (fun k => ?_) (Ev.now _)
  rw [laws_FnStretchWords.l0, if_neg (by omega)]
 | succ d ih =>
  intro i at_ h hat
  have hd := drop_cons27 W i (by omega)
  have hr : rd_T27 W (i : Int) = W.getD i z27 := rdT27u W i
  have hm : W.getD i z27 ∈ W := by rw [lget_lt _ _ _ (by omega)]; exact List.getElem_mem _
  have hp := hap.sublist (List.drop_sublist i W)
  rw [hd] at hp hat
  generalize W.getD i z27 = a at hr hm hp hat
  obtain ⟨q1, q2, q3⟩ := hin a hm
  have q4 := hat a List.mem_cons_self
  refine Ev.step (f := fun k => laws_FnStretchWords.j2 k W (i : Int) false s.f0 s.f1 s.f2) (fun k => ?_) (Ev.step (fun k => ?_) (ih (i + 1) a.f1 (by omega) (fun x hx => List.rel_of_pairwise_cons hp hx)))
  ·rw [laws_FnStretchWords.l0, if_pos (by omega), if_pos (by omega), hr, if_neg (by omega), if_neg (by omega), decide_eq_false (by omega)]
  ·rw [laws_FnStretchWords.j2, if_neg (by decide), if_pos (by omega), if_pos (by omega), hr, w64 (by omega) (by omega)]
   rfl
theorem FnStretchWords : laws_FnStretchWords.Pure := by
 intro code _ hc hw
 by_cases g : (code.length : Int) > 1048576
 ·exact ⟨0, by unfold laws_FnStretchWords.f laws_big.f; rw [bs, if_pos (decide_eq_true g)]⟩
 obtain ⟨l, lo, hi, d, hd, hl30, hb⟩ := drawKids_ev (code_wf hw) (by omega)
 obtain ⟨K1, h1⟩ := ev_out hd
 obtain ⟨K2, h2⟩ := ev_out (implWord_ev l lo hi d hb)
 obtain ⟨K3, h3⟩ := ev_out (implKids_ev l ⟨lo, hi, d⟩ hb)
 obtain ⟨K4, h4⟩ := ev_out (specStretchOk_ev l lo hi d)
 have h3' : ∀ k, K3 ≤ k → impl_StretchKids.f k l lo hi d = some (kidsOf l ⟨lo, hi, d⟩) := h3
 by_cases c : stretchB l lo hi d = true
 ·obtain ⟨w1, w2⟩ := stretchR_word c
  have hwl := wordOf_len l lo hi d
  have hwb : bytesOk (wordOf l lo hi d) := by
   unfold wordOf
   rw [if_pos c]
   exact bytesOk_take (bytesOk_drop hb _) _
  obtain ⟨K5, h5⟩ := ev_out (implStretchOf_ev l (wordOf l lo hi d) hb hwb)
  obtain ⟨K6, h6⟩ := ev_out (specKids_ev l ⟨lo, hi, d⟩)
  have h6' : ∀ k, K6 ≤ k → spec_StretchKids.f k l lo hi d = some (kidsOf l ⟨lo, hi, d⟩) := h6
  rw [w1] at h5
  have hl3 : l.length ≤ 300 := by omega
  have hm : ∀ s, s ∈ stretchesOf l ↔ OKs (lcpRows l) s := fun s => by
   unfold stretchesOf
   rw [if_pos hl3, ← lcpRows_len l]
   exact allS_mem (lcpRows l) (fun x hx => (lcpRows_bd l hl3 x hx).2) s
  have hbd : ∀ a ∈ stretchesOf l, bd27 a := fun a ha => by
   obtain ⟨x, y, e0, e1, e2, e3, _⟩ := (hm a).1 ha
   rw [lcpRows_len] at e3
   unfold bd27
   omega
  have hso : (stretchesOf l).Pairwise lt27 := by
   unfold stretchesOf
   rw [if_pos hl3, ← lcpRows_len l]
   exact allS_sorted (lcpRows l) (fun x hx => (lcpRows_bd l hl3 x hx).2)
  have ok : OKs (lcpRows l) ⟨lo, hi, d⟩ := by
   have c' := c
   unfold stretchB at c'
   rw [if_pos hl3] at c'
   exact (okS_OKs c').1
  have hlo : 0 ≤ lo := by
   obtain ⟨x, y, e0, _⟩ := ok
   simp only at e0
   omega
  have hk : kidsOf l ⟨lo, hi, d⟩ = (stretchesOf l).filter (kidB (stretchesOf l) ⟨lo, hi, d⟩) := by
   unfold kidsOf
   rw [if_pos c]
  have hkin : ∀ x ∈ kidsOf l ⟨lo, hi, d⟩, lo ≤ x.f0 ∧ x.f1 ≤ hi ∧ d < x.f2 := fun x hx => by
   rw [hk, List.mem_filter] at hx
   exact kid_in hm hbd hx.1 hx.2
  have hkap : (kidsOf l ⟨lo, hi, d⟩).Pairwise fun a b => a.f1 ≤ b.f0 := by
   rw [hk]
   refine List.Pairwise.imp_of_mem (fun {a b} ha hb' h => ?_) (hso.sublist List.filter_sublist)
   rw [List.mem_filter] at ha hb'
   exact kids_apart hm hbd ha.1 hb'.1 ha.2 hb'.2 h
  have hlen := kidsOf_len l ⟨lo, hi, d⟩
  generalize kidsOf l ⟨lo, hi, d⟩ = W at h3' h6' hkin hkap hlen
  obtain ⟨K7, h7⟩ := ev_out (kidsLoop ⟨lo, hi, d⟩ (by show -9223372036854775808 ≤ lo; omega) W hlen hkin hkap W.length 0 lo (by omega) (fun x hx => (hkin x (by rwa [List.drop_zero] at hx)).1))
  have h7' : ∀ k, K7 ≤ k → laws_FnStretchWords.l0 k W lo 0 lo hi d = some true := h7
  refine ⟨K1 + K2 + K3 + K4 + K5 + K6 + K7 + 1, ?_⟩
  unfold laws_FnStretchWords.f laws_big.f
  rw [bs, if_neg (by rw [decide_eq_false g]; decide), h1 _ (by omega), bs]
  dsimp only
  rw [h2 _ (by omega), bs, h3' _ (by omega), bs, h4 _ (by omega), bs, if_pos c, h5 _ (by omega), bs]
  dsimp only
  rw [if_pos rfl, if_neg (by simp), if_pos w2, h6' _ (by omega), bs, bne_self_eq_false, laws_FnStretchWords.j0, if_neg (by decide)]
  exact h7' _ (by omega)
 ·have ew : wordOf l lo hi d = [] := by unfold wordOf; rw [if_neg c]
  have ek : kidsOf l ⟨lo, hi, d⟩ = [] := by unfold kidsOf; rw [if_neg c]
  rw [ew] at h2
  rw [ek] at h3'
  refine ⟨K1 + K2 + K3 + K4, ?_⟩
  unfold laws_FnStretchWords.f laws_big.f
  rw [bs, if_neg (by rw [decide_eq_false g]; decide), h1 _ (by omega), bs]
  dsimp only
  rw [h2 _ (by omega), bs, h3' _ (by omega), bs, h4 _ (by omega), bs, if_neg c]
  rfl

end Go.Proofs.Ytoinagnieobbpaa.Pure
