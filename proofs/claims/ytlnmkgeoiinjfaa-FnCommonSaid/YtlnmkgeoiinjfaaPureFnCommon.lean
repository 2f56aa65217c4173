/- The common subsequence of two drawn lists occurs in both in order and has the greatest possible length, no drawn list of pairs that is right is longer, and the length is symmetric. -/
import Derived.Test.YtlnmkgeoiinjfaaQFnCommonx11
import Derived.Test.YtlnmkgeoiinjfaaBase
import Derived.Test.YtlnmkgeoiinjfaaLcs
namespace Go.Proofs.Ytlnmkgeoiinjfaa.Pure
open Go.RowKit Go.Proofs.Ytlnmkgeoiinjfaa.QFnCommon Go.Proofs.YtlnmkgeoiinjfaaW.PrintWords Go.Proofs.YtlnmkgeoiinjfaaW.PrintLast Go.Proofs.YtlnmkgeoiinjfaaW.PrintMore
open Go.Proofs.Ytlnmkgeoiinjfaa Go.Proofs.Ytlnmkgeoiinjfaa.Base
set_option linter.unusedVariables false
set_option linter.unusedSimpArgs false

-- the two tables
theorem rdL (T : List (List Int)) (i : Nat) : rd_L1 T (i : Int) = T.getD i [] := by unfold rd_L1; rw [Int.toNat_natCast]
theorem mx_eq (x y : Nat) : mx (x : Int) (y : Int) = ((max x y : Nat) : Int) := by unfold mx; split <;> omega
theorem L_le301 {a b : List Int} (ha : a.length ≤ 301) (i j : Nat) : Lcs.L a b i j ≤ 301 := Nat.le_trans (Lcs.L_le a b i j) ha

theorem specTable_l1 (a b : List Int) (ha : a.length ≤ 301) (hb : b.length ≤ 301) (i : Nat) (hi : i ≤ a.length)
    (next : ∀ T, Lcs.Rows a b i T → ∃ R, Ev (fun k => spec_l12Table.l0 k a b T ((i : Int) - 1)) R ∧ Lcs.Rows a b 0 R) (j : Nat) :
    ∀ T, j ≤ b.length + 1 → Lcs.Part a b i j T → ∃ R, Ev (fun k => spec_l12Table.l1 k a b T (i : Int) ((j : Int) - 1)) R ∧ Lcs.Rows a b 0 R := by
  induction j with
  | zero =>
    intro T _ hT
    obtain ⟨R, hR, h0⟩ := next T (Lcs.part_rows hT)
    refine ⟨R, Ev.step (f := fun k => spec_l12Table.l0 k a b T ((i : Int) - 1)) (fun k => ?_) hR, h0⟩
    rw [spec_l12Table.l1]
    rw [if_neg (by omega), w64 (by omega) (by omega)]
  | succ j ih =>
    intro T hj hT
    have e1 : ((j + 1 : Nat) : Int) - 1 = (j : Int) := by omega
    rw [e1]
    by_cases hin : i < a.length ∧ j < b.length
    · obtain ⟨hi2, hj2⟩ := hin
      obtain ⟨t1, t2, t3, t4, t5⟩ := id hT
      have r1 := t2 (i + 1) (by omega) (by omega)
      have lL := L_le301 (b := b) ha (i + 1) (j + 1)
      have e2 : ((i : Int) + 1) = ((i + 1 : Nat) : Int) := by omega
      have e3 : ((j : Int) + 1) = ((j + 1 : Nat) : Int) := by omega
      have c1 : ((T.getD (i + 1) []).getD j 0) = (Lcs.L a b (i + 1) j : Int) := r1.2 j (by omega)
      have c2 : ((T.getD i []).getD (j + 1) 0) = (Lcs.L a b i (j + 1) : Int) := t4 (j + 1) (by omega) (by omega)
      have c3 : ((T.getD (i + 1) []).getD (j + 1) 0) = (Lcs.L a b (i + 1) (j + 1) : Int) := r1.2 (j + 1) (by omega)
      obtain ⟨R, hR, h0⟩ := ih (Lcs.put T i j (Lcs.L a b i j : Int)) (by omega) (Lcs.part_put hT (by omega) (by omega) rfl)
      refine ⟨R, Ev.step (f := fun k => spec_l12Table.j2 k a b T (i : Int) (j : Int) true) (fun k => ?_) (Ev.step (f := fun k => spec_l12Table.l1 k a b (Lcs.put T i j (Lcs.L a b i j : Int)) (i : Int) ((j : Int) - 1)) (fun k => ?_) hR), h0⟩
      · rw [spec_l12Table.l1]
        rw [if_pos (by omega), if_pos (by omega), decide_eq_true (by omega)]
      · have hL := Lcs.L_max a b i j hi2 hj2
        rw [spec_l12Table.j2]
        rw [if_pos rfl, if_pos (by omega), if_pos (by omega), w64 (x := (i : Int) + 1) (by omega) (by omega), w64 (x := (j : Int) + 1) (by omega) (by omega), w64 (x := (j : Int) - 1) (by omega) (by omega), e2, e3, rdL, rdL, if_pos (by omega), if_pos (by omega), if_pos (by omega), if_pos (by rw [r1.1]; omega), if_pos (by omega), if_pos (by rw [t3]; omega), if_pos (by rw [t3]; omega)]
        rw [Option.bind_some, if_pos (by omega), if_pos (by omega), rd_nat, rd_nat, rd_nat, rd_nat, c1, c2, mx_eq, Int.toNat_natCast, Int.toNat_natCast]
        have hp : ∀ v, T.set i ((T.getD i []).set j v) = Lcs.put T i j v := fun v => rfl
        rw [hp]
        by_cases he : a.getD i 0 = b.getD j 0
        · rw [if_pos he] at hL
          rw [if_pos he, rdL, rdL, Lcs.put_row _ _ _ _ (by omega), Lcs.put_other _ _ _ _ _ (by omega), if_pos (by rw [List.length_set, t3]; omega), if_pos (by rw [r1.1]; omega), rd_nat, rd_nat, c3, lset_self _ _ _ _ (by omega), w64 (by omega) (by omega)]
          have e4 : (1 : Int) + (Lcs.L a b (i + 1) (j + 1) : Int) = ((1 + Lcs.L a b (i + 1) (j + 1) : Nat) : Int) := by omega
          rw [e4, mx_eq, ← hL, ← Lcs.put_row T i j _ (by omega)]
          have hq : ∀ (U : List (List Int)) (v : Int), U.set i ((U.getD i []).set j v) = Lcs.put U i j v := fun _ _ => rfl
          rw [hq, Lcs.put_put _ _ _ _ _ (by omega)]
        · rw [if_neg he] at hL
          rw [if_neg he, hL, Nat.max_zero]
    · have hz : Lcs.L a b i j = 0 := by
        by_cases h1 : i < a.length
        · exact Lcs.L_end' a b i j (by omega)
        · exact Lcs.L_end a b i j (by omega)
      obtain ⟨R, hR, h0⟩ := ih T (by omega) (Lcs.part_skip hT hz)
      refine ⟨R, Ev.step (f := fun k => spec_l12Table.j2 k a b T (i : Int) (j : Int) false) (fun k => ?_) (Ev.step (f := fun k => spec_l12Table.l1 k a b T (i : Int) ((j : Int) - 1)) (fun k => ?_) hR), h0⟩
      · rw [spec_l12Table.l1]
        rw [if_pos (by omega)]
        by_cases h1 : i < a.length
        · rw [if_pos (by omega), decide_eq_false (by omega)]
        · rw [if_neg (by omega)]
      · rw [spec_l12Table.j2]
        rw [if_neg (by decide), w64 (by omega) (by omega)]

theorem specTable_l0 (a b : List Int) (ha : a.length ≤ 301) (hb : b.length ≤ 301) (i : Nat) :
    ∀ T, i ≤ a.length + 1 → Lcs.Rows a b i T → ∃ R, Ev (fun k => spec_l12Table.l0 k a b T ((i : Int) - 1)) R ∧ Lcs.Rows a b 0 R := by
  induction i with
  | zero =>
    intro T _ hT
    refine ⟨T, Ev.step (f := fun _ => some T) (fun k => ?_) (Ev.now T), hT⟩
    rw [spec_l12Table.l0]
    rw [if_neg (by omega)]
  | succ i ih =>
    intro T hi hT
    have e1 : ((i + 1 : Nat) : Int) - 1 = (i : Int) := by omega
    have e2 : ((b.length : Int) + 1) = ((b.length + 1 : Nat) : Int) := by omega
    have e3 : (b.length : Int) = ((b.length + 1 : Nat) : Int) - 1 := by omega
    rw [e1]
    obtain ⟨R, hR, h0⟩ := specTable_l1 a b ha hb i (by omega) (fun T' hT' => ih T' (by omega) hT') (b.length + 1) _ (Nat.le_refl _) (Lcs.rows_part hT (by omega))
    refine ⟨R, Ev.step (f := fun k => spec_l12Table.l1 k a b (T.set i (List.replicate (b.length + 1) 0)) (i : Int) (((b.length + 1 : Nat) : Int) - 1)) (fun k => ?_) hR, h0⟩
    rw [spec_l12Table.l0]
    rw [if_pos (by omega), w64 (by omega) (by omega), if_pos (by omega), e2, Int.toNat_natCast, if_pos (by omega), if_pos (by omega), if_pos (by have := hT.1; omega), Int.toNat_natCast, e3]

theorem specTable_ev (a b : List Int) (ha : a.length ≤ 301) (hb : b.length ≤ 301) : ∃ R, Ev (fun k => spec_l12Table.f k a b) R ∧ Lcs.Rows a b 0 R := by
  obtain ⟨R, hR, h0⟩ := specTable_l0 a b ha hb (a.length + 1) _ (Nat.le_refl _) (Lcs.rows_none a b)
  have e2 : ((a.length : Int) + 1) = ((a.length + 1 : Nat) : Int) := by omega
  have e3 : (a.length : Int) = ((a.length + 1 : Nat) : Int) - 1 := by omega
  refine ⟨R, Ev.congr (f := fun k => spec_l12Table.l0 k a b (List.replicate (a.length + 1) []) (((a.length + 1 : Nat) : Int) - 1)) (fun k => ?_) hR, h0⟩
  unfold spec_l12Table.f
  rw [w64 (by omega) (by omega), if_pos (by omega), e2, Int.toNat_natCast, if_pos (by omega), ← e3]

theorem implTable_l1 (a b : List Int) (ha : a.length ≤ 301) (hb : b.length ≤ 301) (i : Nat) (hi : i < a.length)
    (next : ∀ T, Lcs.Rows a b i T → ∃ R, Ev (fun k => impl_commonTable.l0 k a b T ((i : Int) - 1)) R ∧ Lcs.Rows a b 0 R) (j : Nat) :
    ∀ T, j ≤ b.length → Lcs.Part a b i j T → ∃ R, Ev (fun k => impl_commonTable.l1 k a b T (i : Int) ((j : Int) - 1)) R ∧ Lcs.Rows a b 0 R := by
  induction j with
  | zero =>
    intro T _ hT
    obtain ⟨R, hR, h0⟩ := next T (Lcs.part_rows hT)
    refine ⟨R, Ev.step (f := fun k => impl_commonTable.l0 k a b T ((i : Int) - 1)) (fun k => ?_) hR, h0⟩
    rw [impl_commonTable.l1]
    rw [if_neg (by omega), w64 (by omega) (by omega)]
  | succ j ih =>
    intro T hj hT
    have e1 : ((j + 1 : Nat) : Int) - 1 = (j : Int) := by omega
    rw [e1]
    obtain ⟨t1, t2, t3, t4, t5⟩ := id hT
    have r1 := t2 (i + 1) (by omega) (by omega)
    have lL := L_le301 (b := b) ha (i + 1) (j + 1)
    have e2 : ((i : Int) + 1) = ((i + 1 : Nat) : Int) := by omega
    have e3 : ((j : Int) + 1) = ((j + 1 : Nat) : Int) := by omega
    have c1 : ((T.getD (i + 1) []).getD j 0) = (Lcs.L a b (i + 1) j : Int) := r1.2 j (by omega)
    have c2 : ((T.getD i []).getD (j + 1) 0) = (Lcs.L a b i (j + 1) : Int) := t4 (j + 1) (by omega) (by omega)
    have c3 : ((T.getD (i + 1) []).getD (j + 1) 0) = (Lcs.L a b (i + 1) (j + 1) : Int) := r1.2 (j + 1) (by omega)
    have hL := Lcs.L_eq a b i j hi (by omega)
    obtain ⟨R, hR, h0⟩ := ih (Lcs.put T i j (Lcs.L a b i j : Int)) (by omega) (Lcs.part_put hT (by omega) (by omega) rfl)
    refine ⟨R, Ev.step (f := fun k => impl_commonTable.l1 k a b (Lcs.put T i j (Lcs.L a b i j : Int)) (i : Int) ((j : Int) - 1)) (fun k => ?_) hR, h0⟩
    have hp : ∀ v, T.set i ((T.getD i []).set j v) = Lcs.put T i j v := fun v => rfl
    rw [impl_commonTable.l1]
    rw [if_pos (by omega), if_pos (by omega), if_pos (by omega), if_pos (by omega), if_pos (by omega), w64 (x := (i : Int) + 1) (by omega) (by omega), w64 (x := (j : Int) + 1) (by omega) (by omega), w64 (x := (j : Int) - 1) (by omega) (by omega), e2, e3]
    simp only [rdL, rd_nat, c1, c2, c3, mx_eq, Int.toNat_natCast, hp]
    by_cases he : a.getD i 0 = b.getD j 0
    · rw [if_pos he] at hL
      rw [if_pos he, if_pos (by omega), if_pos (by omega), if_pos (by omega), if_pos (by omega), if_pos (by rw [r1.1]; omega), if_pos (by rw [t3]; omega), w64 (by omega) (by omega), hL]
      rfl
    · rw [if_neg he] at hL
      rw [if_neg he, if_pos (by omega), if_pos (by omega), if_pos (by omega), if_pos (by rw [r1.1]; omega), if_pos (by omega), if_pos (by rw [t3]; omega), if_pos (by rw [t3]; omega), hL]

theorem implTable_l0 (a b : List Int) (ha : a.length ≤ 301) (hb : b.length ≤ 301) (i : Nat) :
    ∀ T, i ≤ a.length → Lcs.Rows a b i T → ∃ R, Ev (fun k => impl_commonTable.l0 k a b T ((i : Int) - 1)) R ∧ Lcs.Rows a b 0 R := by
  induction i with
  | zero =>
    intro T _ hT
    refine ⟨T, Ev.step (f := fun _ => some T) (fun k => ?_) (Ev.now T), hT⟩
    rw [impl_commonTable.l0]
    rw [if_neg (by omega)]
  | succ i ih =>
    intro T hi hT
    have e1 : ((i + 1 : Nat) : Int) - 1 = (i : Int) := by omega
    have e2 : ((b.length : Int) + 1) = ((b.length + 1 : Nat) : Int) := by omega
    rw [e1]
    obtain ⟨R, hR, h0⟩ := implTable_l1 a b ha hb i (by omega) (fun T' hT' => ih T' (by omega) hT') b.length _ (Nat.le_refl _) (Lcs.part_skip (Lcs.rows_part hT (by omega)) (Lcs.L_end' a b i _ (Nat.le_refl _)))
    refine ⟨R, Ev.step (f := fun k => impl_commonTable.l1 k a b (T.set i (List.replicate (b.length + 1) 0)) (i : Int) ((b.length : Int) - 1)) (fun k => ?_) hR, h0⟩
    rw [impl_commonTable.l0]
    rw [if_pos (by omega), w64 (x := (b.length : Int) + 1) (by omega) (by omega), if_pos (by omega), e2, Int.toNat_natCast, if_pos (by omega), if_pos (by omega), if_pos (by have := hT.1; omega), Int.toNat_natCast, w64 (by omega) (by omega)]

theorem implTable_ev (a b : List Int) (ha : a.length ≤ 301) (hb : b.length ≤ 301) : ∃ R, Ev (fun k => impl_commonTable.f k a b) R ∧ Lcs.Rows a b 0 R := by
  have h1 := Lcs.rows_part (Lcs.rows_none a b) (Nat.le_refl _)
  obtain ⟨R, hR, h0⟩ := implTable_l0 a b ha hb a.length _ (Nat.le_refl _) (Lcs.part_rows (Lcs.part_zero (fun c => Lcs.L_end a b _ c (Nat.le_refl _)) _ h1))
  have e2 : ((a.length : Int) + 1) = ((a.length + 1 : Nat) : Int) := by omega
  have e3 : ((b.length : Int) + 1) = ((b.length + 1 : Nat) : Int) := by omega
  refine ⟨R, Ev.congr (f := fun k => impl_commonTable.l0 k a b ((List.replicate (a.length + 1) []).set a.length (List.replicate (b.length + 1) 0)) ((a.length : Int) - 1)) (fun k => ?_) hR, h0⟩
  unfold impl_commonTable.f
  rw [w64 (x := (a.length : Int) + 1) (by omega) (by omega), w64 (x := (b.length : Int) + 1) (by omega) (by omega), if_pos (by omega), e2, e3, Int.toNat_natCast, Int.toNat_natCast, Int.toNat_natCast, if_pos (by omega), Option.bind_some, if_pos (by omega), if_pos (by omega), if_pos (by omega), if_pos (by rw [List.length_replicate]; omega), w64 (by omega) (by omega)]

-- CommonLen, both
theorem rows_00 {a b : List Int} {R : List (List Int)} (h : Lcs.Rows a b 0 R) : 0 < (R.length : Int) ∧ 0 < ((rd_L1 R 0).length : Int) ∧ rd (rd_L1 R 0) 0 = (Lcs.lcs a b : Int) := by
  have h0 := h.2 0 (by omega) (by omega)
  have e0 : rd_L1 R 0 = R.getD 0 [] := rdL R 0
  have e1 : rd (R.getD 0 []) 0 = (R.getD 0 []).getD 0 0 := rd_nat _ 0
  rw [e0, e1]
  exact ⟨by have := h.1; omega, by have := h0.1; omega, h0.2 0 (by omega)⟩
def lenOf (a b : List Int) : Int := if a.length ≤ 301 ∧ b.length ≤ 301 then (Lcs.lcs a b : Int) else -1
theorem specCommonLen_ev (a b : List Int) : Ev (fun k => spec_CommonLen.f k a b) (lenOf a b) := by
  by_cases ha : a.length ≤ 301
  · by_cases hb : b.length ≤ 301
    · obtain ⟨R, hR, h0⟩ := specTable_ev a b ha hb
      obtain ⟨K, hR⟩ := ev_out hR
      obtain ⟨g1, g2, g3⟩ := rows_00 h0
      refine ev_mk K fun k hk => ?_
      unfold spec_CommonLen.f spec_l12Right.f lenOf
      rw [Option.bind_some, if_pos (decide_eq_true (by omega)), Option.bind_some, if_pos (decide_eq_true (by omega)), hR k hk, Option.bind_some, if_pos g1, if_pos g2, g3, if_pos ⟨ha, hb⟩]
    · refine ev_mk 0 fun k _ => ?_
      unfold spec_CommonLen.f spec_l12Right.f lenOf
      rw [Option.bind_some, if_pos (decide_eq_true (by omega)), Option.bind_some, if_neg (fun h => hb (by have := of_decide_eq_true h; omega)), if_neg (fun h => hb h.2)]
  · refine ev_mk 0 fun k _ => ?_
    unfold spec_CommonLen.f spec_l12Right.f lenOf
    rw [Option.bind_some, if_neg (fun h => ha (by have := of_decide_eq_true h; omega)), if_neg (fun h => ha h.1)]
theorem areListed_eq (a b : List Int) : impl_areListed.f a b = some (decide (a.length ≤ 301 ∧ b.length ≤ 301)) := by
  unfold impl_areListed.f
  by_cases ha : a.length ≤ 301
  · rw [if_pos (by omega)]
    congr 1
    by_cases hb : b.length ≤ 301
    · rw [decide_eq_true (by omega), decide_eq_true ⟨ha, hb⟩]
    · rw [decide_eq_false (by omega), decide_eq_false (fun h => hb h.2)]
  · rw [if_neg (by omega), decide_eq_false (fun h => ha h.1)]

theorem implCommonLen_ev (a b : List Int) : Ev (fun k => impl_CommonLen.f k a b) (lenOf a b) := by
  by_cases h : a.length ≤ 301 ∧ b.length ≤ 301
  · obtain ⟨R, hR, h0⟩ := implTable_ev a b h.1 h.2
    obtain ⟨K, hR⟩ := ev_out hR
    obtain ⟨g1, g2, g3⟩ := rows_00 h0
    refine ev_mk K fun k hk => ?_
    unfold impl_CommonLen.f lenOf
    rw [areListed_eq, Option.bind_some, if_pos (decide_eq_true h), hR k hk, Option.bind_some, if_pos g1, if_pos g2, g3, if_pos h]
  · refine ev_mk 0 fun k _ => ?_
    unfold impl_CommonLen.f lenOf
    rw [areListed_eq, Option.bind_some, if_neg (by rw [decide_eq_false h]; decide), if_neg h]

-- CommonOf, both
def toS (p : Nat × Nat) : S56 := ⟨(p.1 : Int), (p.2 : Int)⟩
theorem index_l0 (b : List Int) (v : Int) (j : Nat) (hj : j ≤ b.length) (hb : b.length ≤ 301) (c : Nat) : ∀ i : Nat, j + i + c = b.length →
    Ev (fun k => slices_Index_int_int.l0 k (b.drop j) v ((b.drop j).length : Int) (i : Int)) (match Lcs.nextAt b v c (j + i) with | none => -1 | some j0 => (j0 : Int) - (j : Int)) := by
  have hlen : (b.drop j).length = b.length - j := List.length_drop
  induction c with
  | zero =>
    intro i h
    refine Ev.step (f := fun _ => some (-1)) (fun k => ?_) (Ev.now _)
    rw [slices_Index_int_int.l0, if_neg (by omega)]
  | succ c ih =>
    intro i h
    have hr : rd (b.drop j) (i : Int) = b.getD (j + i) 0 := by
      rw [rd_nat, List.getD_eq_getElem?_getD, List.getElem?_drop, ← List.getD_eq_getElem?_getD]
    unfold Lcs.nextAt
    by_cases e : v = b.getD (j + i) 0
    · rw [if_pos e]
      refine Ev.step (f := fun _ => some ((i : Nat) : Int)) (fun k => ?_) ?_
      · rw [slices_Index_int_int.l0, if_pos (by omega), if_pos (by omega), if_pos (by omega), hr, if_pos e]
      · have q : ((j + i : Nat) : Int) - (j : Int) = (i : Int) := by omega
        show Ev _ (((j + i : Nat) : Int) - (j : Int))
        rw [q]
        exact Ev.now _
    · rw [if_neg e]
      refine Ev.step (f := fun k => slices_Index_int_int.l0 k (b.drop j) v ((b.drop j).length : Int) ((i + 1 : Nat) : Int)) (fun k => ?_) (ih (i + 1) (by omega))
      rw [slices_Index_int_int.l0, if_pos (by omega), if_pos (by omega), if_pos (by omega), hr, if_neg e, w64 (by omega) (by omega)]
      rfl
theorem index_ev (b : List Int) (v : Int) (j : Nat) (hj : j ≤ b.length) (hb : b.length ≤ 301) :
    Ev (fun k => slices_Index_int_int.f k (b.drop j) v) (match Lcs.nextAt b v (b.length - j) j with | none => -1 | some j0 => (j0 : Int) - (j : Int)) :=
  Ev.congr (f := fun k => slices_Index_int_int.l0 k (b.drop j) v ((b.drop j).length : Int) ((0 : Nat) : Int)) (fun _ => rfl) (index_l0 b v j hj hb (b.length - j) 0 (by omega))

/-- What the table holds at a place. -/
theorem at_table {a b : List Int} {T : List (List Int)} (hT : Lcs.Rows a b 0 T) (i j : Nat) (hi : i ≤ a.length) (hj : j ≤ b.length) :
    ((i : Int) < (T.length : Int)) ∧ ((j : Int) < ((rd_L1 T (i : Int)).length : Int)) ∧ rd (rd_L1 T (i : Int)) (j : Int) = (Lcs.L a b i j : Int) := by
  have h := hT.2 i (by omega) hi
  rw [rdL, rd_nat]
  exact ⟨by have := hT.1; omega, by have := h.1; omega, h.2 j hj⟩

theorem implCommonOf_l0 (a b : List Int) (ha : a.length ≤ 301) (hb : b.length ≤ 301) (T : List (List Int)) (hT : Lcs.Rows a b 0 T) (d : Nat) : ∀ (i j : Nat) (acc : List S56), i + d = a.length → j ≤ b.length → acc.length ≤ i →
    Ev (fun k => impl_commonOf.l0 k a b T acc (i : Int) (j : Int)) (acc ++ (Lcs.firstC a b d i j).map toS) := by
  induction d with
  | zero =>
    intro i j acc h hj hacc
    obtain ⟨t1, t2, t3⟩ := at_table hT i j (by omega) hj
    refine Ev.step (f := fun _ => some (acc ++ [])) (fun k => ?_) (Ev.now _)
    rw [impl_commonOf.l0, if_pos (by omega), if_pos t1, if_pos (by omega), if_pos t2, t3, Lcs.L_end a b i j (by omega), if_neg (by decide), List.append_nil]
  | succ d ih =>
    intro i j acc h hj hacc
    obtain ⟨t1, t2, t3⟩ := at_table hT i j (by omega) hj
    by_cases h0 : Lcs.L a b i j = 0
    · refine Ev.step (f := fun _ => some (acc ++ (Lcs.firstC a b (d + 1) i j).map toS)) (fun k => ?_) (Ev.now _)
      rw [impl_commonOf.l0, if_pos (by omega), if_pos t1, if_pos (by omega), if_pos t2, t3, h0, if_neg (by decide), Lcs.firstC_none h0, List.map_nil, List.append_nil]
    · have hx := index_ev b (a.getD i 0) j hj hb
      cases hn : Lcs.nextAt b (a.getD i 0) (b.length - j) j with
      | none =>
        rw [hn] at hx
        rw [Lcs.firstC_miss h0 hn]
        obtain ⟨K, hK⟩ := ev_out hx
        obtain ⟨K2, hK2⟩ := ev_out (ih (i + 1) j acc (by omega) hj (by omega))
        refine ev_mk (K + K2 + 1) fun k hk => ?_
        obtain ⟨k, rfl⟩ : ∃ m, k = m + 1 := ⟨k - 1, by omega⟩
        rw [impl_commonOf.l0, if_pos (by omega), if_pos t1, if_pos (by omega), if_pos t2, t3, if_pos (by omega), if_pos (by omega), if_pos (by omega), Int.toNat_natCast, rd_nat, hK k (by omega), Option.bind_some, if_neg (by show ¬ (-1 : Int) ≥ 0; decide), w64 (x := (i : Int) + 1) (by omega) (by omega)]
        exact hK2 k (by omega)
      | some j0 =>
        rw [hn] at hx
        obtain ⟨q1, q2, q3, _⟩ := Lcs.nextAt_some b _ _ _ _ hn
        obtain ⟨K, hK⟩ := ev_out hx
        obtain ⟨s1, s2, s3⟩ := at_table hT (i + 1) (j0 + 1) (by omega) (by omega)
        have lL := L_le301 (b := b) ha (i + 1) (j0 + 1)
        have e1 : (match some j0 with | none => (-1 : Int) | some j0 => (j0 : Int) - (j : Int)) = (j0 : Int) - (j : Int) := rfl
        have e2 : (j : Int) + ((j0 : Int) - (j : Int)) = (j0 : Int) := by omega
        have e3 : (i : Int) + 1 = ((i + 1 : Nat) : Int) := by omega
        have e4 : (j0 : Int) + 1 = ((j0 + 1 : Nat) : Int) := by omega
        have e5 : (j : Int) + ((j0 : Int) - (j : Int) + 1) = ((j0 + 1 : Nat) : Int) := by omega
        by_cases e : 1 + Lcs.L a b (i + 1) (j0 + 1) = Lcs.L a b i j
        · obtain ⟨K2, hK2⟩ := ev_out (ih (i + 1) (j0 + 1) (acc ++ [toS (i, j0)]) (by omega) (by omega) (by simp; omega))
          refine ev_mk (K + K2 + 1) fun k hk => ?_
          obtain ⟨k, rfl⟩ : ∃ m, k = m + 1 := ⟨k - 1, by omega⟩
          rw [impl_commonOf.l0, if_pos (by omega), if_pos t1, if_pos (by omega), if_pos t2, t3, if_pos (by omega), if_pos (by omega), if_pos (by omega), Int.toNat_natCast, rd_nat, hK k (by omega), Option.bind_some, e1, if_pos (by omega), w64 (x := (j : Int) + ((j0 : Int) - (j : Int))) (by omega) (by omega), e2, w64 (x := (i : Int) + 1) (by omega) (by omega), w64 (x := (j0 : Int) + 1) (by omega) (by omega), w64 (x := (j0 : Int) - (j : Int) + 1) (by omega) (by omega), w64 (x := (j : Int) + ((j0 : Int) - (j : Int) + 1)) (by omega) (by omega), e5, e3, e4, if_pos (by omega), if_pos s1, if_pos (by omega), if_pos s2, s3, w64 (by omega) (by omega), if_pos (by omega), if_pos (by omega)]
          have hr := hK2 k (by omega)
          rw [Lcs.firstC_hit h0 hn e, List.map_cons]
          rw [List.append_assoc] at hr
          exact hr
        · obtain ⟨K2, hK2⟩ := ev_out (ih (i + 1) j acc (by omega) hj (by omega))
          refine ev_mk (K + K2 + 1) fun k hk => ?_
          obtain ⟨k, rfl⟩ : ∃ m, k = m + 1 := ⟨k - 1, by omega⟩
          rw [impl_commonOf.l0, if_pos (by omega), if_pos t1, if_pos (by omega), if_pos t2, t3, if_pos (by omega), if_pos (by omega), if_pos (by omega), Int.toNat_natCast, rd_nat, hK k (by omega), Option.bind_some, e1, if_pos (by omega), w64 (x := (j : Int) + ((j0 : Int) - (j : Int))) (by omega) (by omega), e2, w64 (x := (i : Int) + 1) (by omega) (by omega), w64 (x := (j0 : Int) + 1) (by omega) (by omega), e3, e4, if_pos (by omega), if_pos s1, if_pos (by omega), if_pos s2, s3, w64 (by omega) (by omega), if_neg (by omega)]
          rw [Lcs.firstC_pass h0 hn e]
          exact hK2 k (by omega)
theorem implcommonOf_ev (a b : List Int) (ha : a.length ≤ 301) (hb : b.length ≤ 301) : Ev (fun k => impl_commonOf.f k a b) ((Lcs.firstC a b a.length 0 0).map toS) := by
  obtain ⟨T, hT, hR⟩ := implTable_ev a b ha hb
  obtain ⟨K, hK⟩ := ev_out hT
  obtain ⟨K2, hK2⟩ := ev_out (implCommonOf_l0 a b ha hb T hR a.length 0 0 [] (by omega) (by omega) (by simp))
  refine ev_mk (K + K2) fun k hk => ?_
  unfold impl_commonOf.f
  rw [hK k (by omega), Option.bind_some]
  exact hK2 k (by omega)

/-- The reference's search for the smallest place. -/
def pick (a b : List Int) (x t : Nat) (j : Nat) : Nat → Int → Int
  | 0, y => y
  | c + 1, y => pick a b x t j c (if a.getD x 0 = b.getD (j + c) 0 ∧ 1 + Lcs.L a b (x + 1) (j + c + 1) = t then ((j + c : Nat) : Int) else y)
theorem pick_none (a b : List Int) (x t j : Nat) (c : Nat) : ∀ y, (∀ k, j ≤ k → k < j + c → ¬ (a.getD x 0 = b.getD k 0 ∧ 1 + Lcs.L a b (x + 1) (k + 1) = t)) → pick a b x t j c y = y := by
  induction c with
  | zero => intro y _; rfl
  | succ c ih =>
    intro y h
    unfold pick
    rw [if_neg (h (j + c) (by omega) (by omega)), ih y (fun k h1 h2 => h k h1 (by omega))]
theorem pick_some (a b : List Int) (x t j j0 : Nat) (h0 : j ≤ j0) (hp : a.getD x 0 = b.getD j0 0 ∧ 1 + Lcs.L a b (x + 1) (j0 + 1) = t) (hq : ∀ k, j ≤ k → k < j0 → ¬ (a.getD x 0 = b.getD k 0 ∧ 1 + Lcs.L a b (x + 1) (k + 1) = t)) (c : Nat) : ∀ y, j0 < j + c → pick a b x t j c y = (j0 : Int) := by
  induction c with
  | zero => intro y h; omega
  | succ c ih =>
    intro y h
    unfold pick
    by_cases e : j0 = j + c
    · rw [← e, if_pos hp]
      exact pick_none a b x t j c _ (fun k h1 h2 => hq k h1 (by omega))
    · exact ih _ (by omega)

theorem specCommonOf_l2 (a b : List Int) (ha : a.length ≤ 301) (hb : b.length ≤ 301) (T : List (List Int)) (hT : Lcs.Rows a b 0 T) (acc : List S56) (i j x : Nat) (hi : i ≤ a.length) (hj : j ≤ b.length) (hx : x < a.length) (R : List S56) (c : Nat) :
    ∀ y : Int, j + c ≤ b.length → Ev (fun k => spec_CommonOf.l1 k a b T acc (i : Int) (j : Int) ((x + 1 : Nat) : Int) (pick a b x (Lcs.L a b i j) j c y)) R →
      Ev (fun k => spec_CommonOf.l2 k a b T acc (i : Int) (j : Int) (x : Int) y (((j + c : Nat) : Int) - 1)) R := by
  induction c with
  | zero =>
    intro y hc h
    refine Ev.step (fun k => ?_) h
    rw [spec_CommonOf.l2, if_neg (by omega), w64 (by omega) (by omega)]
    rfl
  | succ c ih =>
    intro y hc h
    obtain ⟨t1, t2, t3⟩ := at_table hT i j hi hj
    obtain ⟨s1, s2, s3⟩ := at_table hT (x + 1) (j + c + 1) (by omega) (by omega)
    have lL := L_le301 (b := b) ha (x + 1) (j + c + 1)
    have e0 : ((j + (c + 1) : Nat) : Int) - 1 = ((j + c : Nat) : Int) := by omega
    have e3 : (x : Int) + 1 = ((x + 1 : Nat) : Int) := by omega
    have e4 : ((j + c : Nat) : Int) + 1 = ((j + c + 1 : Nat) : Int) := by omega
    rw [e0]
    by_cases e : a.getD x 0 = b.getD (j + c) 0
    · by_cases e2 : 1 + Lcs.L a b (x + 1) (j + c + 1) = Lcs.L a b i j
      · unfold pick at h
        rw [if_pos ⟨e, e2⟩] at h
        refine Ev.step (fun k => ?_) (ih _ (by omega) h)
        rw [spec_CommonOf.l2, if_pos (by omega), if_pos (by omega), if_pos (by omega), if_pos (by omega), if_pos (by omega), rd_nat, rd_nat, if_pos e, w64 (x := (x : Int) + 1) (by omega) (by omega), w64 (x := ((j + c : Nat) : Int) + 1) (by omega) (by omega), e3, e4, if_pos (by omega), if_pos s1, if_pos (by omega), if_pos s2, if_pos (by omega), if_pos t1, if_pos (by omega), if_pos t2, s3, t3, w64 (x := 1 + (Lcs.L a b (x + 1) (j + c + 1) : Int)) (by omega) (by omega), if_pos (by omega), w64 (by omega) (by omega)]
      · unfold pick at h
        rw [if_neg (fun q => e2 q.2)] at h
        refine Ev.step (fun k => ?_) (ih _ (by omega) h)
        rw [spec_CommonOf.l2, if_pos (by omega), if_pos (by omega), if_pos (by omega), if_pos (by omega), if_pos (by omega), rd_nat, rd_nat, if_pos e, w64 (x := (x : Int) + 1) (by omega) (by omega), w64 (x := ((j + c : Nat) : Int) + 1) (by omega) (by omega), e3, e4, if_pos (by omega), if_pos s1, if_pos (by omega), if_pos s2, if_pos (by omega), if_pos t1, if_pos (by omega), if_pos t2, s3, t3, w64 (x := 1 + (Lcs.L a b (x + 1) (j + c + 1) : Int)) (by omega) (by omega), if_neg (by omega), w64 (by omega) (by omega)]
    · unfold pick at h
      rw [if_neg (fun q => e q.1)] at h
      refine Ev.step (fun k => ?_) (ih _ (by omega) h)
      rw [spec_CommonOf.l2, if_pos (by omega), if_pos (by omega), if_pos (by omega), if_pos (by omega), if_pos (by omega), rd_nat, rd_nat, if_neg e, w64 (by omega) (by omega)]

/-- From element x on, where what is left is as much as at i: what is shown of d elements. -/
def Goes (a b : List Int) (T : List (List Int)) (d : Nat) : Prop := ∀ (i j x : Nat) (acc : List S56), x + d = a.length → i ≤ x → j ≤ b.length → acc.length ≤ i → Lcs.L a b x j = Lcs.L a b i j → Lcs.L a b i j ≠ 0 →
    Ev (fun k => spec_CommonOf.l1 k a b T acc (i : Int) (j : Int) (x : Int) (-1)) (acc ++ (Lcs.firstC a b d x j).map toS)
theorem specCommonOf_go (a b : List Int) (ha : a.length ≤ 301) (hb : b.length ≤ 301) (T : List (List Int)) (hT : Lcs.Rows a b 0 T) (d : Nat) (hq : Goes a b T d) (i j : Nat) (acc : List S56) (h : i + d = a.length) (hj : j ≤ b.length) (hacc : acc.length ≤ i) :
    Ev (fun k => spec_CommonOf.l0 k a b T acc (i : Int) (j : Int)) (acc ++ (Lcs.firstC a b d i j).map toS) := by
  obtain ⟨t1, t2, t3⟩ := at_table hT i j (by omega) hj
  by_cases h0 : Lcs.L a b i j = 0
  · refine Ev.step (f := fun _ => some (acc ++ (Lcs.firstC a b d i j).map toS)) (fun k => ?_) (Ev.now _)
    rw [spec_CommonOf.l0, if_pos (by omega), if_pos t1, if_pos (by omega), if_pos t2, t3, h0, if_neg (by decide), Lcs.firstC_none h0, List.map_nil, List.append_nil]
  · refine Ev.step (fun k => ?_) (hq i j i acc h (Nat.le_refl _) hj hacc rfl h0)
    rw [spec_CommonOf.l0, if_pos (by omega), if_pos t1, if_pos (by omega), if_pos t2, t3, if_pos (by omega)]
/-- From element x on, where what is left is as much as at i. -/
theorem specCommonOf_l1 (a b : List Int) (ha : a.length ≤ 301) (hb : b.length ≤ 301) (T : List (List Int)) (hT : Lcs.Rows a b 0 T) (d : Nat) : Goes a b T d := by
  induction d with
  | zero => intro i j x acc h hi hj hacc he h0; rw [Lcs.L_end a b x j (by omega)] at he; exact absurd he.symm h0
  | succ d ih =>
    intro i j x acc h hi hj hacc he h0
    have h0' : Lcs.L a b x j ≠ 0 := by rw [he]; exact h0
    have hf := Lcs.L_first a b x (by omega) (b.length - j) j (by omega)
    refine Ev.step (f := fun k => spec_CommonOf.l2 k a b T acc (i : Int) (j : Int) (x : Int) (-1) (((j + (b.length - j) : Nat) : Int) - 1)) (fun k => ?_) (specCommonOf_l2 a b ha hb T hT acc i j x (by omega) hj (by omega) _ (b.length - j) (-1) (by omega) ?_)
    · rw [spec_CommonOf.l1, if_pos (by decide), w64 (by omega) (by omega)]
      congr 1
      omega
    · have over : ∀ j0, j ≤ j0 → a.getD x 0 = b.getD j0 0 → j0 < b.length → ∀ k, j0 ≤ k → 1 + Lcs.L a b (x + 1) (k + 1) ≤ 1 + Lcs.L a b (x + 1) (j0 + 1) := fun j0 _ _ _ k hk => by have := Lcs.L_mono' a b (x + 1) (j0 + 1) (k + 1) (by omega); omega
      cases hn : Lcs.nextAt b (a.getD x 0) (b.length - j) j with
      | none =>
        rw [hn] at hf
        have hno := Lcs.nextAt_none b _ _ _ hn
        rw [pick_none a b x _ j _ _ (fun k h1 h2 q => hno k h1 h2 q.1), Lcs.firstC_miss h0' hn]
        have hf' : Lcs.L a b x j = Lcs.L a b (x + 1) j := hf
        exact ih i j (x + 1) acc (by omega) (by omega) hj hacc (by omega) h0
      | some j0 =>
        rw [hn] at hf
        obtain ⟨q1, q2, q3, q4⟩ := Lcs.nextAt_some b _ _ _ _ hn
        have hf' : Lcs.L a b x j = max (Lcs.L a b (x + 1) j) (1 + Lcs.L a b (x + 1) (j0 + 1)) := hf
        by_cases e : 1 + Lcs.L a b (x + 1) (j0 + 1) = Lcs.L a b x j
        · rw [pick_some a b x _ j j0 q1 ⟨q3, by omega⟩ (fun k h1 h2 q => q4 k h1 h2 q.1) _ _ (by omega), Lcs.firstC_hit h0' hn e, List.map_cons]
          obtain ⟨K, hK⟩ := ev_out (specCommonOf_go a b ha hb T hT d ih (x + 1) (j0 + 1) (acc ++ [toS (x, j0)]) (by omega) (by omega) (by simp; omega))
          refine ev_mk (K + 1) fun k hk => ?_
          obtain ⟨k, rfl⟩ : ∃ m, k = m + 1 := ⟨k - 1, by omega⟩
          have hr := hK k (by omega)
          rw [spec_CommonOf.l1, if_neg (by omega), if_pos (by omega), w64 (by omega) (by omega), w64 (by omega) (by omega)]
          rw [List.append_assoc] at hr
          have e6 : ((x + 1 : Nat) : Int) - 1 = (x : Int) := by omega
          rw [e6]
          exact hr
        · rw [pick_none a b x _ j _ _ (fun k h1 h2 q => ?_), Lcs.firstC_pass h0' hn e]
          · exact ih i j (x + 1) acc (by omega) (by omega) hj hacc (by omega) h0
          · by_cases hk : j0 ≤ k
            · have := over j0 q1 q3 (by omega) k hk
              have := q.2
              omega
            · exact q4 k h1 (by omega) q.1

def pairsOf (a b : List Int) : List S56 := if a.length ≤ 301 ∧ b.length ≤ 301 then (Lcs.firstC a b a.length 0 0).map toS else []
theorem pairsOf_len (a b : List Int) : (pairsOf a b).length ≤ 301 := by
  unfold pairsOf
  by_cases h : a.length ≤ 301 ∧ b.length ≤ 301
  · rw [if_pos h, List.length_map, Lcs.firstC_length a b a.length 0 0 (by omega) (by omega)]
    exact L_le301 h.1 0 0
  · rw [if_neg h]
    simp
theorem specCommonOf_ev (a b : List Int) : Ev (fun k => spec_CommonOf.f k a b) (pairsOf a b) := by
  have no : ∀ (h : ¬ (a.length ≤ 301 ∧ b.length ≤ 301)), Ev (fun k => spec_CommonOf.j0 k a b true) (pairsOf a b) := fun h => by
    refine Ev.step (f := fun _ => some (pairsOf a b)) (fun k => ?_) (Ev.now _)
    unfold pairsOf
    rw [spec_CommonOf.j0, if_pos rfl, if_neg h]
  by_cases ha : a.length ≤ 301
  · by_cases hb : b.length ≤ 301
    · obtain ⟨T, hT, hR⟩ := specTable_ev a b ha hb
      obtain ⟨K, hK⟩ := ev_out hT
      obtain ⟨K2, hK2⟩ := ev_out (specCommonOf_go a b ha hb T hR a.length (specCommonOf_l1 a b ha hb T hR a.length) 0 0 [] (by omega) (by omega) (by simp))
      refine ev_mk (K + K2 + 1) fun k hk => ?_
      obtain ⟨k, rfl⟩ : ∃ m, k = m + 1 := ⟨k - 1, by omega⟩
      unfold spec_CommonOf.f spec_l12Right.f pairsOf
      rw [Option.bind_some, if_pos (decide_eq_true (by omega)), Option.bind_some, decide_eq_true (by omega), Bool.not_true, spec_CommonOf.j0, if_neg (by decide), hK k (by omega), Option.bind_some, if_pos ⟨ha, hb⟩]
      exact hK2 k (by omega)
    · obtain ⟨K, hK⟩ := ev_out (no (fun h => hb h.2))
      refine ev_mk K fun k hk => ?_
      unfold spec_CommonOf.f spec_l12Right.f
      rw [Option.bind_some, if_pos (decide_eq_true (by omega)), Option.bind_some, decide_eq_false (by omega), Bool.not_false]
      exact hK k hk
  · obtain ⟨K, hK⟩ := ev_out (no (fun h => ha h.1))
    refine ev_mk K fun k hk => ?_
    unfold spec_CommonOf.f spec_l12Right.f
    rw [Option.bind_some, if_neg (fun h => ha (by have := of_decide_eq_true h; omega))]
    exact hK k hk

theorem areListed_eq' (a b : List Int) : impl_areListed.f a b = some (decide (a.length ≤ 301 ∧ b.length ≤ 301)) := by
  unfold impl_areListed.f
  by_cases ha : a.length ≤ 301
  · rw [if_pos (by omega)]
    congr 1
    by_cases hb : b.length ≤ 301
    · rw [decide_eq_true (by omega), decide_eq_true ⟨ha, hb⟩]
    · rw [decide_eq_false (by omega), decide_eq_false (fun h => hb h.2)]
  · rw [if_neg (by omega), decide_eq_false (fun h => ha h.1)]

theorem implCommonOf_ev (a b : List Int) : Ev (fun k => impl_CommonOf.f k a b) (pairsOf a b) := by
  by_cases h : a.length ≤ 301 ∧ b.length ≤ 301
  · obtain ⟨K, hK⟩ := ev_out (implcommonOf_ev a b h.1 h.2)
    refine ev_mk K fun k hk => ?_
    unfold impl_CommonOf.f pairsOf
    rw [areListed_eq', Option.bind_some, if_pos (decide_eq_true h), hK k hk, if_pos h]
    rfl
  · refine ev_mk 0 fun k _ => ?_
    unfold impl_CommonOf.f pairsOf
    rw [areListed_eq', Option.bind_some, if_neg (by rw [decide_eq_false h]; decide), if_neg h]

theorem rdT56 (l : List S56) (i : Nat) : rd_T56 l (i : Int) = l.getD i z56 := by unfold rd_T56; rw [Int.toNat_natCast]

-- CommonOk, both
def good (a b : List Int) (l : List S56) (i : Nat) : Prop :=
  0 ≤ (l.getD i z56).f0 ∧ (l.getD i z56).f0 < (a.length : Int) ∧ 0 ≤ (l.getD i z56).f1 ∧ (l.getD i z56).f1 < (b.length : Int) ∧ rd a (l.getD i z56).f0 = rd b (l.getD i z56).f1 ∧
  (0 < i → (l.getD (i - 1) z56).f0 < (l.getD i z56).f0 ∧ (l.getD (i - 1) z56).f1 < (l.getD i z56).f1)
instance (a b : List Int) (l : List S56) (i : Nat) : Decidable (good a b l i) := by unfold good; infer_instance
def goodFrom (a b : List Int) (l : List S56) : Nat → Nat → Bool
  | 0, _ => true
  | d + 1, i => if good a b l i then goodFrom a b l d (i + 1) else false
theorem spec_j2_true (a b : List Int) (l : List S56) (i x y : Int) : Ev (fun k => spec_CommonOk.j2 k a b l i true x y) false :=
  Ev.step (f := fun _ => some false) (fun k => by rw [spec_CommonOk.j2, if_pos rfl]) (Ev.now _)
theorem spec_j3_true (a b : List Int) (l : List S56) (i : Int) : Ev (fun k => spec_CommonOk.j3 k a b l i true) false :=
  Ev.step (f := fun _ => some false) (fun k => by rw [spec_CommonOk.j3, if_pos rfl]) (Ev.now _)
theorem impl_j1_true (a b : List Int) (l m : List S56) (n i : Int) : Ev (fun k => impl_CommonOk.j1 k a b l m n i true) false :=
  Ev.step (f := fun _ => some false) (fun k => by rw [impl_CommonOk.j1, if_pos rfl]) (Ev.now _)
theorem specCommonOk_l0 (a b : List Int) (l : List S56) (hl : l.length ≤ 1048576) (d : Nat) : ∀ i : Nat, i + d = l.length → Ev (fun k => spec_CommonOk.l0 k a b l (i : Int)) (goodFrom a b l d i) := by
  induction d with
  | zero =>
    intro i h
    refine Ev.step (f := fun _ => some true) (fun k => ?_) (Ev.now _)
    rw [spec_CommonOk.l0, if_neg (by omega)]
  | succ d ih =>
    intro i h
    unfold goodFrom
    by_cases g : good a b l i
    · rw [if_pos g]
      obtain ⟨g1, g2, g3, g4, g5, g6⟩ := g
      have hn := ih (i + 1) (by omega)
      have h3 : Ev (fun k => spec_CommonOk.j3 k a b l (i : Int) false) (goodFrom a b l d (i + 1)) := by
        refine Ev.step (fun k => ?_) hn
        rw [spec_CommonOk.j3, if_neg (by decide), w64 (by omega) (by omega)]
        rfl
      have h2 : Ev (fun k => spec_CommonOk.j2 k a b l (i : Int) false (l.getD i z56).f0 (l.getD i z56).f1) (goodFrom a b l d (i + 1)) := by
        refine Ev.step (fun k => ?_) h3
        rw [spec_CommonOk.j2, if_neg (by decide)]
        by_cases hi : 0 < i
        · obtain ⟨q1, q2⟩ := g6 hi
          have e : (i : Int) - 1 = ((i - 1 : Nat) : Int) := by omega
          rw [if_pos (by omega), w64 (by omega) (by omega), e, if_pos (by omega), if_pos (by omega), rdT56, if_neg (by omega), decide_eq_false (by omega)]
        · rw [if_neg (by omega)]
      refine Ev.step (fun k => ?_) h2
      rw [spec_CommonOk.l0, if_pos (by omega), if_pos (by omega), rdT56, if_neg (by omega), if_neg (by omega), if_neg (by omega), if_neg (by omega), if_pos g1, if_pos g2, if_pos g3, if_pos g4, g5]
      simp
    · rw [if_neg g]
      have step : ∀ x : Bool, (Ev (fun k => spec_CommonOk.j2 k a b l (i : Int) x (l.getD i z56).f0 (l.getD i z56).f1) false) → (∀ k, spec_CommonOk.l0 (k + 1) a b l (i : Int) = spec_CommonOk.j2 k a b l (i : Int) x (l.getD i z56).f0 (l.getD i z56).f1) → Ev (fun k => spec_CommonOk.l0 k a b l (i : Int)) false := fun x h1 h2 => Ev.step h2 h1
      by_cases c1 : (l.getD i z56).f0 < 0
      · exact step true (spec_j2_true _ _ _ _ _ _) (fun k => by rw [spec_CommonOk.l0, if_pos (by omega), if_pos (by omega), rdT56, if_pos c1])
      by_cases c2 : (l.getD i z56).f0 ≥ (a.length : Int)
      · exact step true (spec_j2_true _ _ _ _ _ _) (fun k => by rw [spec_CommonOk.l0, if_pos (by omega), if_pos (by omega), rdT56, if_neg c1, if_pos c2])
      by_cases c3 : (l.getD i z56).f1 < 0
      · exact step true (spec_j2_true _ _ _ _ _ _) (fun k => by rw [spec_CommonOk.l0, if_pos (by omega), if_pos (by omega), rdT56, if_neg c1, if_neg c2, if_pos c3])
      by_cases c4 : (l.getD i z56).f1 ≥ (b.length : Int)
      · exact step true (spec_j2_true _ _ _ _ _ _) (fun k => by rw [spec_CommonOk.l0, if_pos (by omega), if_pos (by omega), rdT56, if_neg c1, if_neg c2, if_neg c3, if_pos c4])
      by_cases c5 : rd a (l.getD i z56).f0 = rd b (l.getD i z56).f1
      · refine step false ?_ (fun k => by rw [spec_CommonOk.l0, if_pos (by omega), if_pos (by omega), rdT56, if_neg c1, if_neg c2, if_neg c3, if_neg c4, if_pos (by omega), if_pos (by omega), if_pos (by omega), if_pos (by omega), c5]; simp)
        have hi : 0 < i := by
          rcases Nat.eq_zero_or_pos i with h0 | h0
          · exact absurd ⟨by omega, by omega, by omega, by omega, c5, fun hp => by omega⟩ g
          · exact h0
        have e : (i : Int) - 1 = ((i - 1 : Nat) : Int) := by omega
        by_cases c6 : (l.getD (i - 1) z56).f0 ≥ (l.getD i z56).f0
        · refine Ev.step (fun k => ?_) (spec_j3_true a b l (i : Int))
          rw [spec_CommonOk.j2, if_neg (by decide), if_pos (by omega), w64 (by omega) (by omega), e, if_pos (by omega), if_pos (by omega), rdT56, if_pos c6]
        · refine Ev.step (fun k => ?_) (spec_j3_true a b l (i : Int))
          have c7 : (l.getD (i - 1) z56).f1 ≥ (l.getD i z56).f1 := by
            by_cases h7 : (l.getD (i - 1) z56).f1 < (l.getD i z56).f1
            · exact absurd ⟨by omega, by omega, by omega, by omega, c5, fun _ => ⟨by omega, h7⟩⟩ g
            · omega
          rw [spec_CommonOk.j2, if_neg (by decide), if_pos (by omega), w64 (by omega) (by omega), e, if_pos (by omega), if_pos (by omega), rdT56, if_neg c6, decide_eq_true c7]
      · exact step true (spec_j2_true _ _ _ _ _ _) (fun k => by rw [spec_CommonOk.l0, if_pos (by omega), if_pos (by omega), rdT56, if_neg c1, if_neg c2, if_neg c3, if_neg c4, if_pos (by omega), if_pos (by omega), if_pos (by omega), if_pos (by omega), show (rd a (l.getD i z56).f0 != rd b (l.getD i z56).f1) = true from bne_iff_ne.2 c5])
theorem within_eq (x lo hi : Int) : impl_within.f x lo hi = some (decide (lo ≤ x ∧ x ≤ hi)) := by
  unfold impl_within.f
  by_cases h : lo ≤ x
  · rw [if_pos h]
    congr 1
    by_cases h2 : x ≤ hi
    · rw [decide_eq_true h2, decide_eq_true ⟨h, h2⟩]
    · rw [decide_eq_false h2, decide_eq_false (fun q => h2 q.2)]
  · rw [if_neg h, decide_eq_false (fun q => h q.1)]
theorem implCommonOk_l0 (a b : List Int) (ha : a.length ≤ 1048576) (hb : b.length ≤ 1048576) (l : List S56) (hl : l.length ≤ 1048576) (d : Nat) : ∀ i : Nat, i + d = l.length → Ev (fun k => impl_CommonOk.l0 k a b l l (l.length : Int) (i : Int)) (goodFrom a b l d i) := by
  induction d with
  | zero =>
    intro i h
    refine Ev.step (f := fun _ => some true) (fun k => ?_) (Ev.now _)
    rw [impl_CommonOk.l0, if_neg (by omega)]
  | succ d ih =>
    intro i h
    unfold goodFrom
    have ew : wrap64 ((a.length : Int) - 1) = (a.length : Int) - 1 := w64 (by omega) (by omega)
    have ew2 : wrap64 ((b.length : Int) - 1) = (b.length : Int) - 1 := w64 (by omega) (by omega)
    by_cases g : good a b l i
    · rw [if_pos g]
      obtain ⟨g1, g2, g3, g4, g5, g6⟩ := g
      have hn := ih (i + 1) (by omega)
      have h1 : Ev (fun k => impl_CommonOk.j1 k a b l l (l.length : Int) (i : Int) false) (goodFrom a b l d (i + 1)) := by
        refine Ev.step (fun k => ?_) hn
        rw [impl_CommonOk.j1, if_neg (by decide), w64 (by omega) (by omega)]
        rfl
      refine Ev.step (fun k => ?_) h1
      rw [impl_CommonOk.l0, if_pos (by omega), if_pos (by omega), if_pos (by omega), rdT56, ew, ew2, within_eq, Option.bind_some, if_pos (decide_eq_true ⟨g1, by omega⟩), within_eq, Option.bind_some, if_pos (decide_eq_true ⟨g3, by omega⟩), if_pos g1, if_pos g2, if_pos g3, if_pos g4, if_pos g5]
      by_cases hi : 0 < i
      · obtain ⟨q1, q2⟩ := g6 hi
        have e : (i : Int) - 1 = ((i - 1 : Nat) : Int) := by omega
        rw [if_pos (by omega), w64 (by omega) (by omega), e, if_pos (by omega), if_pos (by omega), rdT56, if_neg (by omega), decide_eq_false (by omega)]
      · rw [if_neg (by omega)]
    · rw [if_neg g]
      refine Ev.step (fun k => ?_) (impl_j1_true a b l l (l.length : Int) (i : Int))
      rw [impl_CommonOk.l0, if_pos (by omega), if_pos (by omega), if_pos (by omega), rdT56, ew, ew2, within_eq, Option.bind_some]
      by_cases c1 : 0 ≤ (l.getD i z56).f0 ∧ (l.getD i z56).f0 ≤ (a.length : Int) - 1
      · rw [if_pos (decide_eq_true c1), within_eq, Option.bind_some]
        by_cases c2 : 0 ≤ (l.getD i z56).f1 ∧ (l.getD i z56).f1 ≤ (b.length : Int) - 1
        · rw [if_pos (decide_eq_true c2), if_pos (by omega), if_pos (by omega), if_pos (by omega), if_pos (by omega)]
          by_cases c5 : rd a (l.getD i z56).f0 = rd b (l.getD i z56).f1
          · have hi : 0 < i := by
              rcases Nat.eq_zero_or_pos i with h0 | h0
              · exact absurd ⟨by omega, by omega, by omega, by omega, c5, fun hp => by omega⟩ g
              · exact h0
            have e : (i : Int) - 1 = ((i - 1 : Nat) : Int) := by omega
            rw [if_pos c5, if_pos (by omega), w64 (by omega) (by omega), e, if_pos (by omega), if_pos (by omega), rdT56]
            by_cases c6 : (l.getD i z56).f0 ≤ (l.getD (i - 1) z56).f0
            · rw [if_pos c6]
            · rw [if_neg c6]
              have c7 : (l.getD i z56).f1 ≤ (l.getD (i - 1) z56).f1 := by
                by_cases h7 : (l.getD (i - 1) z56).f1 < (l.getD i z56).f1
                · exact absurd ⟨by omega, by omega, by omega, by omega, c5, fun _ => ⟨by omega, h7⟩⟩ g
                · omega
              rw [decide_eq_true c7]
          · rw [if_neg c5]
        · rw [if_neg (by rw [decide_eq_false c2]; decide)]
      · rw [if_neg (by rw [decide_eq_false c1]; decide)]
def okOf (a b : List Int) (l : List S56) : Bool := if a.length ≤ 301 ∧ b.length ≤ 301 then goodFrom a b l l.length 0 else false
theorem specCommonOk_ev (a b : List Int) (l : List S56) (hl : l.length ≤ 1048576) : Ev (fun k => spec_CommonOk.f k a b l) (okOf a b l) := by
  have no : ∀ (h : ¬ (a.length ≤ 301 ∧ b.length ≤ 301)), Ev (fun k => spec_CommonOk.j0 k a b l true) (okOf a b l) := fun h => by
    refine Ev.step (f := fun _ => some (okOf a b l)) (fun k => ?_) (Ev.now _)
    unfold okOf
    rw [spec_CommonOk.j0, if_pos rfl, if_neg h]
  by_cases ha : a.length ≤ 301
  · by_cases hb : b.length ≤ 301
    · obtain ⟨K, hK⟩ := ev_out (specCommonOk_l0 a b l hl l.length 0 (by omega))
      refine ev_mk (K + 1) fun k hk => ?_
      obtain ⟨k, rfl⟩ : ∃ m, k = m + 1 := ⟨k - 1, by omega⟩
      unfold spec_CommonOk.f spec_l12Right.f okOf
      rw [Option.bind_some, if_pos (decide_eq_true (by omega)), Option.bind_some, decide_eq_true (by omega), Bool.not_true, spec_CommonOk.j0, if_neg (by decide), if_pos ⟨ha, hb⟩]
      exact hK k (by omega)
    · obtain ⟨K, hK⟩ := ev_out (no (fun h => hb h.2))
      refine ev_mk K fun k hk => ?_
      unfold spec_CommonOk.f spec_l12Right.f
      rw [Option.bind_some, if_pos (decide_eq_true (by omega)), Option.bind_some, decide_eq_false (by omega), Bool.not_false]
      exact hK k hk
  · obtain ⟨K, hK⟩ := ev_out (no (fun h => ha h.1))
    refine ev_mk K fun k hk => ?_
    unfold spec_CommonOk.f spec_l12Right.f
    rw [Option.bind_some, if_neg (fun h => ha (by have := of_decide_eq_true h; omega))]
    exact hK k hk
theorem implCommonOk_ev (a b : List Int) (l : List S56) (hl : l.length ≤ 1048576) : Ev (fun k => impl_CommonOk.f k a b l) (okOf a b l) := by
  by_cases h : a.length ≤ 301 ∧ b.length ≤ 301
  · obtain ⟨K, hK⟩ := ev_out (implCommonOk_l0 a b (by omega) (by omega) l hl l.length 0 (by omega))
    refine ev_mk K fun k hk => ?_
    unfold impl_CommonOk.f okOf
    rw [areListed_eq', Option.bind_some, if_pos (decide_eq_true h), if_pos h]
    exact hK k hk
  · refine ev_mk 0 fun k _ => ?_
    unfold impl_CommonOk.f okOf
    rw [areListed_eq', Option.bind_some, if_neg (by rw [decide_eq_false h]; decide), if_neg h]

-- the drawing of inputs
/-- A cursor over code: what is kept of it. 'B': how far it may have gone. -/
def Cur (code : List Int) (B : Int) (t u : Int) : Prop := (∀ x ∈ code, 0 ≤ x ∧ x ≤ 255) ∧ code.length ≤ 140737488351232 ∧ 0 ≤ t ∧ t ≤ B ∧ 0 ≤ u ∧ u ≤ 66600
theorem Cur.more {code : List Int} {B B' t u : Int} (h : Cur code B t u) (hB : B ≤ B') : Cur code B' t u := ⟨h.1, h.2.1, h.2.2.1, by have := h.2.2.2.1; omega, h.2.2.2.2⟩
theorem rd_code {code : List Int} (h : ∀ x ∈ code, 0 ≤ x ∧ x ≤ 255) (i : Int) : 0 ≤ rd code i ∧ rd code i ≤ 255 := by
  unfold rd
  rw [List.getD_eq_getElem?_getD]
  cases hq : code[i.toNat]? with
  | none => exact ⟨by show (0 : Int) ≤ 0; omega, by show (0 : Int) ≤ 255; omega⟩
  | some x => exact h x (List.mem_of_getElem? hq)
theorem pick_ev {code : List Int} {B t u : Int} (h : Cur code B t u) (hB : B ≤ 1000000000) (n : Int) (hn : n ≤ 1000000000000) :
    ∃ v t' u', spec_l01Cur_pick.f code t u n = some (v, t', u') ∧ 0 ≤ v ∧ (1 ≤ n → v < n) ∧ (n < 2 → v = 0) ∧ Cur code (B + 1) t' u' := by
  obtain ⟨h1, h2, h3, h4, h5, h6⟩ := h
  unfold spec_l01Cur_pick.f
  by_cases c0 : n < 2
  · exact ⟨0, t, u, if_pos c0, by omega, fun _ => by omega, fun _ => rfl, h1, h2, h3, by omega, h5, h6⟩
  · have npos : 0 < n := by omega
    have wt : wrap64 (t + 1) = t + 1 := w64 (by omega) (by omega)
    rw [if_neg c0]
    by_cases c1 : t < (code.length : Int)
    · obtain ⟨r0, r1⟩ := rd_code h1 t
      refine ⟨Int.tmod (rd code t) n, t + 1, u, by rw [if_pos c1, if_pos h3, if_neg (by omega), w64 (by omega) (by omega), wt], Int.tmod_nonneg _ r0, fun _ => Int.tmod_lt_of_pos _ npos, fun hn2 => absurd hn2 c0, h1, h2, by omega, by omega, h5, h6⟩
    · have w1 : wrap64 (u * 1103) = u * 1103 := w64 (by omega) (by omega)
      have w2 : wrap64 (u * 1103 + 12345) = u * 1103 + 12345 := w64 (by omega) (by omega)
      have s0 : 0 ≤ Int.tmod (u * 1103 + 12345) 65521 := Int.tmod_nonneg _ (by omega)
      have s1 : Int.tmod (u * 1103 + 12345) 65521 < 65521 := Int.tmod_lt_of_pos _ (by omega)
      by_cases c2 : (code.length : Int) > 0
      · have i0 : 0 ≤ Int.tmod t (code.length : Int) := Int.tmod_nonneg _ h3
        have i1 : Int.tmod t (code.length : Int) < (code.length : Int) := Int.tmod_lt_of_pos _ c2
        obtain ⟨r0, r1⟩ := rd_code h1 (Int.tmod t (code.length : Int))
        have d0 : 0 ≤ Int.tdiv (Int.tmod (u * 1103 + 12345) 65521) 7 := Int.tdiv_nonneg s0 (by omega)
        have d1 : Int.tdiv (Int.tmod (u * 1103 + 12345) 65521) 7 ≤ 65521 := by
          have := Int.tdiv_le_self 7 s0
          omega
        refine ⟨Int.tmod (Int.tdiv (Int.tmod (u * 1103 + 12345) 65521) 7 + rd code (Int.tmod t (code.length : Int))) n, t + 1, Int.tmod (u * 1103 + 12345) 65521, ?_, Int.tmod_nonneg _ (by omega), fun _ => Int.tmod_lt_of_pos _ npos, fun hn2 => absurd hn2 c0, h1, h2, by omega, by omega, s0, by omega⟩
        rw [if_neg c1, if_pos c2, if_neg (by omega), if_pos i0, if_pos i1, if_neg (by omega), w1, w2, wt, w64 (x := Int.tdiv (Int.tmod (u * 1103 + 12345) 65521) 7) (by omega) (by omega), w64 (x := rd code (Int.tmod t (code.length : Int))) (by omega) (by omega), w64 (by omega) (by omega)]
      · refine ⟨(0 : Int) % n, t + 1, Int.tmod (u * 1103 + 12345) 65521, by rw [if_neg c1, if_neg c2, if_neg (by omega), w1, w2, wt], Int.emod_nonneg _ (by omega), fun _ => Int.emod_lt_of_pos _ npos, fun hn2 => absurd hn2 c0, h1, h2, by omega, by omega, s0, by omega⟩
theorem open_ev {code : List Int} (h1 : ∀ x ∈ code, 0 ≤ x ∧ x ≤ 255) (h2 : code.length ≤ 140737488351232) : ∃ t u, spec_l01Open.f code = some (code, t, u) ∧ Cur code 0 t u := by
  refine ⟨0, 89 + ((code.length : Int) % 1000), rfl, h1, h2, by omega, by omega, ?_, ?_⟩
  · have := Int.emod_nonneg (code.length : Int) (show (1000 : Int) ≠ 0 by omega); omega
  · have := Int.emod_lt_of_pos (code.length : Int) (show (0 : Int) < 1000 by omega); omega
theorem code_wf {code : List Int} (h : ∀ x ∈ code, (Lit.int .u8 x).wf = true) : ∀ x ∈ code, 0 ≤ x ∧ x ≤ 255 := fun x hx => by
  have := h x hx
  simp only [Lit.wf, IntKind.min, IntKind.max, IntKind.signed, IntKind.bits, Bool.and_eq_true, decide_eq_true_eq] at this
  simpa using this
theorem once_ev {code : List Int} {B t u : Int} (h : Cur code B t u) (hB : B ≤ 1000000000) (n : Int) (hn : n ≤ 1000000000000) :
    ∃ b t' u', spec_l01Cur_once.f code t u n = some (b, t', u') ∧ Cur code (B + 1) t' u' := by
  obtain ⟨v, t', u', e, _, _, _, hc⟩ := pick_ev h hB n hn
  refine ⟨(v == wrap64 (n - 1)), t', u', ?_, hc⟩
  unfold spec_l01Cur_once.f
  rw [e, Option.bind_some]
theorem size_ev {code : List Int} {B t u : Int} (h : Cur code B t u) (hB : B ≤ 1000000000) (n : Int) (h0 : 0 ≤ n) (hn : n ≤ 1000000) :
    ∃ v t' u', spec_l01Cur_size.f code t u n = some (v, t', u') ∧ 0 ≤ v ∧ v ≤ n ∧ Cur code (B + 1) t' u' := by
  have hl := h.2.1
  unfold spec_l01Cur_size.f
  have w1 : wrap64 ((code.length : Int) / 8) = (code.length : Int) / 8 := w64 (by omega) (by omega)
  have w2 : wrap64 (1 + (code.length : Int) / 8) = 1 + (code.length : Int) / 8 := w64 (by omega) (by omega)
  have m1 : mn n (1 + (code.length : Int) / 8) ≤ n ∧ 0 ≤ mn n (1 + (code.length : Int) / 8) := by unfold mn; split <;> omega
  rw [w1, w2, w64 (x := mn n (1 + (code.length : Int) / 8) + 1) (by omega) (by omega)]
  obtain ⟨v, t', u', e, v0, v1, _, hc⟩ := pick_ev h hB (mn n (1 + (code.length : Int) / 8) + 1) (by omega)
  refine ⟨v, t', u', ?_, v0, ?_, hc⟩
  · rw [e, Option.bind_some]
  · have := v1 (by omega); omega
theorem wide_ev {code : List Int} {B t u : Int} (h : Cur code B t u) (hB : B ≤ 900000000) (n : Int) (h0 : 1 ≤ n) (hn : n ≤ 1000000000000) :
    ∃ v t' u', spec_l01Cur_wide.f code t u n = some (v, t', u') ∧ 0 ≤ v ∧ v < n ∧ Cur code (B + 3) t' u' := by
  obtain ⟨v1, t1, u1, e1, a1, b1, _, c1⟩ := pick_ev h (by omega) 256 (by omega)
  obtain ⟨v2, t2, u2, e2, a2, b2, _, c2⟩ := pick_ev c1 (by omega) 256 (by omega)
  obtain ⟨v3, t3, u3, e3, a3, b3, _, c3⟩ := pick_ev c2 (by omega) 256 (by omega)
  have b1 := b1 (by omega)
  have b2 := b2 (by omega)
  have b3 := b3 (by omega)
  refine ⟨Int.tmod (65536 * v1 + 256 * v2 + v3) n, t3, u3, ?_, Int.tmod_nonneg _ (by omega), Int.tmod_lt_of_pos _ (by omega), c3.more (by omega)⟩
  unfold spec_l01Cur_wide.f
  rw [e1, Option.bind_some, e2, Option.bind_some, e3, Option.bind_some, if_neg (by omega), w64 (x := 65536 * v1) (by omega) (by omega), w64 (x := 256 * v2) (by omega) (by omega), w64 (x := 65536 * v1 + 256 * v2) (by omega) (by omega), w64 (by omega) (by omega)]
theorem numbers_l0 (x2 : Int) (hx : x2 ≤ 1000000000000) (c : Nat) : ∀ {code : List Int} {B t u : Int} (out : List Int), Cur code B t u → B + 3 * (c : Int) ≤ 900000000 → out.length + c ≤ 10000000 → (∀ x ∈ out, 0 ≤ x ∧ x < mx 1 x2) →
    ∃ l t' u', Ev (fun k => spec_l01Cur_numbers.l0 k x2 out (c : Int) code t u) (l, t', u') ∧ l.length = out.length + c ∧ (∀ x ∈ l, 0 ≤ x ∧ x < mx 1 x2) ∧ Cur code (B + 3 * (c : Int)) t' u' := by
  have m1 : 1 ≤ mx 1 x2 ∧ mx 1 x2 ≤ 1000000000000 := by unfold mx; split <;> omega
  induction c with
  | zero =>
    intro code B t u out h _ _ ho
    refine ⟨out, t, u, Ev.step (f := fun _ => some (out, t, u)) (fun k => ?_) (Ev.now _), by omega, ho, h.more (by omega)⟩
    rw [spec_l01Cur_numbers.l0, if_neg (by omega)]
  | succ c ih =>
    intro code B t u out h hB hl ho
    obtain ⟨v, t1, u1, e1, a1, b1, c1⟩ := wide_ev h (by omega) (mx 1 x2) m1.1 m1.2
    obtain ⟨l, t', u', hev, hlen, hin, hc⟩ := ih (out ++ [v]) c1 (by omega) (by simp; omega) (fun x hx => by
      rcases List.mem_append.1 hx with h | h
      · exact ho x h
      · rw [List.mem_singleton.1 h]; exact ⟨a1, b1⟩)
    refine ⟨l, t', u', Ev.step (fun k => ?_) hev, by rw [hlen]; simp; omega, hin, hc.more (by omega)⟩
    rw [spec_l01Cur_numbers.l0, if_pos (by omega), e1, Option.bind_some, if_pos (by omega), w64 (by omega) (by omega), show ((c + 1 : Nat) : Int) - 1 = (c : Int) by omega]
theorem numbers_ev {code : List Int} {B t u : Int} (h : Cur code B t u) (n m : Int) (h0 : 0 ≤ n) (hn : n ≤ 1000) (hm : m ≤ 1000000000000) (hB : B ≤ 500000000) :
    ∃ l t' u', Ev (fun k => spec_l01Cur_numbers.f k code t u n m) (l, t', u') ∧ (l.length : Int) ≤ n ∧ (∀ x ∈ l, 0 ≤ x ∧ x < mx 1 m) ∧ Cur code (B + 4 * n + 4) t' u' := by
  obtain ⟨v, t1, u1, e1, a1, b1, c1⟩ := size_ev h (by omega) n h0 (by omega)
  obtain ⟨c, rfl⟩ := Int.eq_ofNat_of_zero_le a1
  obtain ⟨l, t', u', hev, hlen, hin, hc⟩ := numbers_l0 m hm c [] c1 (by omega) (by simp; omega) (fun x hx => by simp at hx)
  refine ⟨l, t', u', Ev.congr (fun k => ?_) hev, by rw [hlen]; simp; omega, hin, hc.more (by omega)⟩
  unfold spec_l01Cur_numbers.f
  rw [e1, Option.bind_some]
theorem raw_ev {code : List Int} {B t u : Int} (h : Cur code B t u) (hB : B ≤ 900000000) :
    ∃ v t' u', spec_l01Cur_raw.f code t u = some (v, t', u') ∧ -9223372036854775808 ≤ v ∧ v ≤ 9223372036854775807 ∧ Cur code (B + 2) t' u' := by
  obtain ⟨v1, t1, u1, e1, a1, b1, _, c1⟩ := pick_ev h (by omega) 8 (by omega)
  have b1 := b1 (by omega)
  unfold spec_l01Cur_raw.f
  rw [e1, Option.bind_some]
  by_cases g0 : v1 = 0
  · obtain ⟨v2, t2, u2, e2, a2, b2, _, c2⟩ := pick_ev c1 (by omega) 256 (by omega)
    have b2 := b2 (by omega)
    exact ⟨v2 - 128, t2, u2, by rw [if_pos g0, e2, Option.bind_some, w64 (by omega) (by omega)], by omega, by omega, c2.more (by omega)⟩
  · by_cases g1 : v1 = 1
    · obtain ⟨v2, t2, u2, e2, a2, b2, _, c2⟩ := pick_ev c1 (by omega) 8 (by omega)
      have b2 := b2 (by omega)
      obtain ⟨j, rfl⟩ := Int.eq_ofNat_of_zero_le a2
      have hin : ∀ x ∈ ([9223372036854775807, (-9223372036854775808), 4611686018427387904, 4294967295, 4294967296, (-1000), 1000, 257] : List Int), -9223372036854775808 ≤ x ∧ x ≤ 9223372036854775807 := by
        intro x hx
        simp at hx
        omega
      have hr := hin (rd [9223372036854775807, (-9223372036854775808), 4611686018427387904, 4294967295, 4294967296, (-1000), 1000, 257] (j : Int)) (by
        rw [rd_nat, lget_lt _ j 0 (by simp; omega)]
        exact List.getElem_mem _)
      exact ⟨_, t2, u2, by rw [if_neg g0, if_pos g1, Option.bind_some, e2, Option.bind_some, if_pos (by omega), if_pos (by simp; omega)], hr.1, hr.2, c2.more (by omega)⟩
    · obtain ⟨v2, t2, u2, e2, a2, b2, _, c2⟩ := pick_ev c1 (by omega) 14 (by omega)
      have b2 := b2 (by omega)
      exact ⟨v2 - 3, t2, u2, by rw [if_neg g0, if_neg g1, e2, Option.bind_some, w64 (by omega) (by omega)], by omega, by omega, c2.more (by omega)⟩

-- two drawn lists
theorem rows_j2 {code : List Int} {B t u : Int} (h : Cur code B t u) (hB : B ≤ 900000000) (a b : List Int) (ha : a.length ≤ 400) (hb : b.length ≤ 400) :
    ∃ a' b' t' u', Ev (fun k => spec_l01Cur_rows.j2 k a b code t u) (a', b', t', u') ∧ a'.length ≤ 400 ∧ b'.length ≤ 400 ∧ Cur code (B + 2) t' u' := by
  obtain ⟨o, t1, u1, e1, c1⟩ := once_ev h (by omega) 60 (by omega)
  cases o with
  | false =>
    refine ⟨a, b, t1, u1, Ev.step (f := fun _ => some _) (fun k => ?_) (Ev.now _), ha, hb, c1.more (by omega)⟩
    rw [spec_l01Cur_rows.j2, e1, Option.bind_some, if_neg (by simp)]
  | true =>
    obtain ⟨v, t2, u2, e2, a2, b2, _, c2⟩ := pick_ev c1 (by omega) 2 (by omega)
    have b2 := b2 (by omega)
    refine ⟨List.replicate (301 + v).toNat 0, b, t2, u2, Ev.step (f := fun _ => some _) (fun k => ?_) (Ev.now _), by rw [List.length_replicate]; omega, hb, c2.more (by omega)⟩
    rw [spec_l01Cur_rows.j2, e1, Option.bind_some, if_pos rfl, e2, Option.bind_some, w64 (by omega) (by omega), if_pos (by omega), if_pos (by omega)]
theorem rows_l0 (a : List Int) (ha : a.length ≤ 100) (d : Nat) : ∀ {code : List Int} {B t u : Int} (i : Nat) (b : List Int), i + d = a.length → Cur code B t u → B + 3 * (d : Int) ≤ 800000 → b.length + 2 * d ≤ 400 →
    ∃ a' b' t' u', Ev (fun k => spec_l01Cur_rows.l0 k a b (i : Int) code t u) (a', b', t', u') ∧ a'.length ≤ 400 ∧ b'.length ≤ 400 ∧ Cur code (B + 3 * (d : Int) + 100) t' u' := by
  induction d with
  | zero =>
    intro code B t u i b hi h hB hb
    obtain ⟨o, t1, u1, e1, c1⟩ := once_ev h (by omega) 5 (by omega)
    cases o with
    | false =>
      obtain ⟨a', b', t', u', hev, la, lb, hc⟩ := rows_j2 c1 (by omega) a b (by omega) (by omega)
      refine ⟨a', b', t', u', Ev.step (fun k => ?_) hev, la, lb, hc.more (by omega)⟩
      rw [spec_l01Cur_rows.l0, if_neg (by omega), e1, Option.bind_some, if_neg (by simp)]
    | true =>
      obtain ⟨l, t2, u2, hn, ln, _, c2⟩ := numbers_ev c1 14 4 (by omega) (by omega) (by omega) (by omega)
      obtain ⟨a', b', t', u', hev, la, lb, hc⟩ := rows_j2 c2 (by omega) a l (by omega) (by omega)
      obtain ⟨K1, h1⟩ := ev_out hn
      obtain ⟨K2, h2⟩ := ev_out hev
      refine ⟨a', b', t', u', ev_mk (K1 + K2 + 1) fun k hk => ?_, la, lb, hc.more (by omega)⟩
      obtain ⟨k, rfl⟩ : ∃ m, k = m + 1 := ⟨k - 1, by omega⟩
      rw [spec_l01Cur_rows.l0, if_neg (by omega), e1, Option.bind_some, if_pos rfl, h1 k (by omega), Option.bind_some]
      exact h2 k (by omega)
  | succ d ih =>
    intro code B t u i b hi h hB hb
    have j1 : ∀ {B' t u : Int} (b' : List Int), Cur code B' t u → B' ≤ B + 2 → b'.length ≤ b.length + 1 → ∃ a' b'' t' u', Ev (fun k => spec_l01Cur_rows.j1 k a b' (i : Int) code t u) (a', b'', t', u') ∧ a'.length ≤ 400 ∧ b''.length ≤ 400 ∧ Cur code (B + 3 * ((d + 1 : Nat) : Int) + 100) t' u' := by
      intro B' t u b' h' hB' hb'
      obtain ⟨o, t1, u1, e1, c1⟩ := once_ev h' (by omega) 5 (by omega)
      cases o with
      | true =>
        obtain ⟨a', b'', t', u', hev, la, lb, hc⟩ := ih (i + 1) b' (by omega) c1 (by omega) (by omega)
        refine ⟨a', b'', t', u', Ev.step (fun k => ?_) hev, la, lb, hc.more (by omega)⟩
        rw [spec_l01Cur_rows.j1, e1, Option.bind_some, if_pos rfl, w64 (by omega) (by omega)]
        rfl
      | false =>
        obtain ⟨a', b'', t', u', hev, la, lb, hc⟩ := ih (i + 1) (b' ++ [rd a (i : Int)]) (by omega) c1 (by omega) (by simp; omega)
        refine ⟨a', b'', t', u', Ev.step (fun k => ?_) hev, la, lb, hc.more (by omega)⟩
        rw [spec_l01Cur_rows.j1, e1, Option.bind_some, if_neg (by simp), if_pos (by omega), if_pos (by omega), if_pos (by omega), w64 (by omega) (by omega)]
        rfl
    obtain ⟨o, t1, u1, e1, c1⟩ := once_ev h (by omega) 5 (by omega)
    cases o with
    | true =>
      obtain ⟨v, t2, u2, e2, a2, b2, _, c2⟩ := pick_ev c1 (by omega) 4 (by omega)
      obtain ⟨a', b', t', u', hev, la, lb, hc⟩ := j1 (b ++ [v]) c2 (by omega) (by simp)
      refine ⟨a', b', t', u', Ev.step (fun k => ?_) hev, la, lb, hc⟩
      rw [spec_l01Cur_rows.l0, if_pos (by omega), e1, Option.bind_some, if_pos rfl, e2, Option.bind_some, if_pos (by omega)]
    | false =>
      obtain ⟨a', b', t', u', hev, la, lb, hc⟩ := j1 b c1 (by omega) (by omega)
      refine ⟨a', b', t', u', Ev.step (fun k => ?_) hev, la, lb, hc⟩
      rw [spec_l01Cur_rows.l0, if_pos (by omega), e1, Option.bind_some, if_neg (by simp)]
theorem rows_ev {code : List Int} {B t u : Int} (h : Cur code B t u) (hB : B ≤ 1000) :
    ∃ a b t' u', Ev (fun k => spec_l01Cur_rows.f k code t u) (a, b, t', u') ∧ a.length ≤ 400 ∧ b.length ≤ 400 ∧ Cur code (B + 1000) t' u' := by
  obtain ⟨v, t1, u1, e1, a1, b1, _, c1⟩ := pick_ev h (by omega) 3 (by omega)
  have b1 := b1 (by omega)
  obtain ⟨j, rfl⟩ := Int.eq_ofNat_of_zero_le a1
  have hr : rd [2, 4, 30] (j : Int) ≤ 30 := by
    have hj : j < 3 := by omega
    match j, hj with
    | 0, _ => decide
    | 1, _ => decide
    | 2, _ => decide
  obtain ⟨l, t2, u2, hn, ln, _, c2⟩ := numbers_ev c1 14 (rd [2, 4, 30] (j : Int)) (by omega) (by omega) (by omega) (by omega)
  obtain ⟨a, b, t', u', hev, la, lb, hc⟩ := rows_l0 l (by omega) l.length 0 [] (by omega) c2 (by omega) (by simp; omega)
  obtain ⟨K1, h1⟩ := ev_out hn
  obtain ⟨K2, h2⟩ := ev_out hev
  refine ⟨a, b, t', u', ev_mk (K1 + K2) fun k hk => ?_, la, lb, hc.more (by omega)⟩
  unfold spec_l01Cur_rows.f
  rw [Option.bind_some, e1, Option.bind_some, if_pos (by omega), if_pos (by simp; omega), h1 k (by omega), Option.bind_some]
  exact h2 k (by omega)

-- what is common is greatest, and in order
theorem L_mono (a b : List Int) (i i' j : Nat) (h : i ≤ i') : Lcs.L a b i' j ≤ Lcs.L a b i j := by
  induction i' with
  | zero => have : i = 0 := by omega
            rw [this]; omega
  | succ i' ih =>
    by_cases e : i = i' + 1
    · rw [e]; omega
    · have := ih (by omega)
      have := Lcs.L_down a b i' j
      omega
theorem goodFrom_le (a b : List Int) (l : List S56) (d : Nat) : ∀ i, i + (d + 1) = l.length → goodFrom a b l (d + 1) i = true → good a b l i ∧ d + 1 ≤ Lcs.L a b (l.getD i z56).f0.toNat (l.getD i z56).f1.toNat := by
  induction d with
  | zero =>
    intro i h hg
    unfold goodFrom at hg
    by_cases g : good a b l i
    · refine ⟨g, ?_⟩
      obtain ⟨g1, g2, g3, g4, g5, _⟩ := g
      rw [Lcs.L_eq a b _ _ (by omega) (by omega), if_pos (by unfold rd at g5; exact g5)]
      omega
    · rw [if_neg g] at hg; cases hg
  | succ d ih =>
    intro i h hg
    rw [goodFrom] at hg
    by_cases g : good a b l i
    · rw [if_pos g] at hg
      obtain ⟨hn, hle⟩ := ih (i + 1) (by omega) hg
      refine ⟨g, ?_⟩
      obtain ⟨g1, g2, g3, g4, g5, _⟩ := g
      obtain ⟨_, _, _, _, _, n6⟩ := hn
      obtain ⟨q1, q2⟩ := n6 (by omega)
      rw [Nat.add_sub_cancel] at q1 q2
      rw [Lcs.L_eq a b _ _ (by omega) (by omega), if_pos (by unfold rd at g5; exact g5)]
      have m1 := L_mono a b ((l.getD i z56).f0.toNat + 1) (l.getD (i + 1) z56).f0.toNat ((l.getD i z56).f1.toNat + 1) (by omega)
      have m2 := Lcs.L_mono' a b (l.getD (i + 1) z56).f0.toNat ((l.getD i z56).f1.toNat + 1) (l.getD (i + 1) z56).f1.toNat (by omega)
      omega
    · rw [if_neg g] at hg; cases hg
theorem okOf_le {a b : List Int} {l : List S56} (h : okOf a b l = true) : l.length ≤ Lcs.lcs a b := by
  unfold okOf at h
  split at h
  · cases hl : l.length with
    | zero => omega
    | succ d =>
      rw [hl] at h
      obtain ⟨_, hle⟩ := goodFrom_le a b l d 0 (by omega) h
      have m1 := L_mono a b 0 (l.getD 0 z56).f0.toNat (l.getD 0 z56).f1.toNat (by omega)
      have m2 := Lcs.L_mono' a b 0 0 (l.getD 0 z56).f1.toNat (by omega)
      rw [← Lcs.L_zero]
      omega
  · cases h
def Chain (a b : List Int) : Nat → Nat → List (Nat × Nat) → Prop
  | _, _, [] => True
  | i, j, p :: ps => i ≤ p.1 ∧ p.1 < a.length ∧ j ≤ p.2 ∧ p.2 < b.length ∧ a.getD p.1 0 = b.getD p.2 0 ∧ Chain a b (p.1 + 1) (p.2 + 1) ps
theorem Chain.less {a b : List Int} {i i' j : Nat} {ps : List (Nat × Nat)} (h : Chain a b i' j ps) (hi : i ≤ i') : Chain a b i j ps := by
  cases ps with
  | nil => trivial
  | cons p ps => obtain ⟨h1, h2⟩ := h; exact ⟨by omega, h2⟩
theorem firstC_chain (a b : List Int) (d : Nat) : ∀ i j, i + d = a.length → j ≤ b.length → Chain a b i j (Lcs.firstC a b d i j) := by
  induction d with
  | zero => intro i j _ _; trivial
  | succ d ih =>
    intro i j h hj
    by_cases h0 : Lcs.L a b i j = 0
    · rw [Lcs.firstC_none h0]; trivial
    · cases hn : Lcs.nextAt b (a.getD i 0) (b.length - j) j with
      | none => rw [Lcs.firstC_miss h0 hn]; exact (ih (i + 1) j (by omega) hj).less (by omega)
      | some j0 =>
        obtain ⟨q1, q2, q3, _⟩ := Lcs.nextAt_some b _ _ _ _ hn
        by_cases e : 1 + Lcs.L a b (i + 1) (j0 + 1) = Lcs.L a b i j
        · rw [Lcs.firstC_hit h0 hn e]
          exact ⟨Nat.le_refl _, by show i < a.length; omega, q1, by show j0 < b.length; omega, q3, ih (i + 1) (j0 + 1) (by omega) (by omega)⟩
        · rw [Lcs.firstC_pass h0 hn e]
          exact (ih (i + 1) j (by omega) hj).less (by omega)
theorem Chain.at {a b : List Int} : ∀ {ps : List (Nat × Nat)} {i j : Nat}, Chain a b i j ps → ∀ k, k < ps.length →
    i ≤ (ps.getD k (0, 0)).1 ∧ (ps.getD k (0, 0)).1 < a.length ∧ j ≤ (ps.getD k (0, 0)).2 ∧ (ps.getD k (0, 0)).2 < b.length ∧ a.getD (ps.getD k (0, 0)).1 0 = b.getD (ps.getD k (0, 0)).2 0 ∧
    (0 < k → (ps.getD (k - 1) (0, 0)).1 < (ps.getD k (0, 0)).1 ∧ (ps.getD (k - 1) (0, 0)).2 < (ps.getD k (0, 0)).2) := by
  intro ps
  induction ps with
  | nil => intro i j _ k hk; simp at hk
  | cons p ps ih =>
    intro i j h k hk
    obtain ⟨h1, h2, h3, h4, h5, h6⟩ := h
    cases k with
    | zero => exact ⟨h1, h2, h3, h4, h5, fun h => by omega⟩
    | succ k =>
      obtain ⟨q1, q2, q3, q4, q5, q6⟩ := ih h6 k (by simp at hk; omega)
      refine ⟨by rw [List.getD_cons_succ]; omega, by rw [List.getD_cons_succ]; exact q2, by rw [List.getD_cons_succ]; omega, by rw [List.getD_cons_succ]; exact q4, by rw [List.getD_cons_succ]; exact q5, fun _ => ?_⟩
      rw [Nat.add_sub_cancel, List.getD_cons_succ]
      cases k with
      | zero => exact ⟨by show p.1 < _; omega, by show p.2 < _; omega⟩
      | succ k =>
        have := q6 (by omega)
        rw [Nat.add_sub_cancel] at this
        rw [List.getD_cons_succ]
        exact this
theorem map_toS (ps : List (Nat × Nat)) (k : Nat) (h : k < ps.length) : (ps.map toS).getD k z56 = toS (ps.getD k (0, 0)) := by
  rw [lget_lt _ k z56 (by rw [List.length_map]; exact h), List.getElem_map, lget_lt _ k (0, 0) h]
theorem pairsOf_good {a b : List Int} (h : a.length ≤ 301 ∧ b.length ≤ 301) : okOf a b (pairsOf a b) = true := by
  have hc := firstC_chain a b a.length 0 0 (by omega) (by omega)
  have hall : ∀ k, k < (pairsOf a b).length → good a b (pairsOf a b) k := by
    intro k hk
    unfold pairsOf at hk ⊢
    rw [if_pos h] at hk ⊢
    rw [List.length_map] at hk
    obtain ⟨q1, q2, q3, q4, q5, q6⟩ := Chain.at hc k hk
    unfold good
    rw [map_toS _ k hk]
    refine ⟨by show (0 : Int) ≤ ((_ : Nat) : Int); omega, by show ((_ : Nat) : Int) < _; omega, by show (0 : Int) ≤ ((_ : Nat) : Int); omega, by show ((_ : Nat) : Int) < _; omega, ?_, fun h0 => ?_⟩
    · show rd a ((_ : Nat) : Int) = rd b ((_ : Nat) : Int)
      rw [rd_nat, rd_nat]; exact q5
    · rw [map_toS _ (k - 1) (by omega)]
      obtain ⟨r1, r2⟩ := q6 h0
      exact ⟨by show ((_ : Nat) : Int) < ((_ : Nat) : Int); omega, by show ((_ : Nat) : Int) < ((_ : Nat) : Int); omega⟩
  have go : ∀ d i, i + d = (pairsOf a b).length → goodFrom a b (pairsOf a b) d i = true := by
    intro d
    induction d with
    | zero => intro i _; rfl
    | succ d ih =>
      intro i hi
      rw [goodFrom, if_pos (hall i (by omega))]
      exact ih (i + 1) (by omega)
  unfold okOf
  rw [if_pos h]
  exact go _ 0 (by omega)
theorem pairsOf_lcs' {a b : List Int} (h : a.length ≤ 301 ∧ b.length ≤ 301) : (pairsOf a b).length = Lcs.lcs a b := by
  unfold pairsOf
  rw [if_pos h, List.length_map, Lcs.firstC_length a b a.length 0 0 (by omega) (by omega), Lcs.L_zero]

theorem drawCommon_ev {code : List Int} (h1 : ∀ x ∈ code, 0 ≤ x ∧ x ≤ 255) (h2 : code.length ≤ 140737488351232) :
    ∃ a b l, Ev (fun k => spec_DrawCommonOk.f k code) (a, b, l) ∧ a.length ≤ 400 ∧ b.length ≤ 400 ∧ l.length ≤ 301 := by
  obtain ⟨t0, u0, e0, c0⟩ := open_ev h1 h2
  obtain ⟨a, b, t1, u1, hr, ha, hb, c1⟩ := rows_ev c0 (by omega)
  obtain ⟨K1, k1⟩ := ev_out hr
  obtain ⟨K2, k2⟩ := ev_out (specCommonOf_ev a b)
  have hl := pairsOf_len a b
  by_cases g : ((pairsOf a b).length : Int) > 0
  · have m1 : 1 ≤ mn 200 ((pairsOf a b).length : Int) ∧ mn 200 ((pairsOf a b).length : Int) ≤ ((pairsOf a b).length : Int) := by unfold mn; split <;> omega
    obtain ⟨v2, t2, u2, e2, a2, b2, _, c2⟩ := pick_ev c1 (by omega) (mn 200 ((pairsOf a b).length : Int)) (by omega)
    have b2 := b2 (by omega)
    obtain ⟨v3, t3, u3, e3, a3, b3, _, c3⟩ := pick_ev c2 (by omega) 5 (by omega)
    have b3 := b3 (by omega)
    by_cases g0 : v3 = 0
    · obtain ⟨v4, t4, u4, e4, a4, b4, c4⟩ := raw_ev c3 (by omega)
      obtain ⟨v5, t5, u5, e5, a5, b5, _, c5⟩ := pick_ev c4 (by omega) 9 (by omega)
      obtain ⟨v6, t6, u6, e6, a6, b6, _, c6⟩ := pick_ev c5 (by omega) 2 (by omega)
      have b6 := b6 (by omega)
      refine ⟨a, b, (pairsOf a b).set v2.toNat ⟨rd [v4, v5] v6, (rd_T56 (pairsOf a b) v2).f1⟩, ev_mk (K1 + K2) fun k hk => ?_, ha, hb, ?_⟩
      · unfold spec_DrawCommonOk.f
        rw [e0, Option.bind_some, k1 k (by omega), Option.bind_some, k2 k (by omega), Option.bind_some, if_pos g, e2, Option.bind_some, e3, Option.bind_some, if_pos g0, e4, Option.bind_some, e5, Option.bind_some, Option.bind_some, e6, Option.bind_some, if_pos a6, if_pos (by simp; omega), if_pos a2, if_pos (by omega)]
      · rw [List.length_set]; exact hl
    · by_cases g1 : v3 = 1
      · obtain ⟨v5, t5, u5, e5, a5, b5, _, c5⟩ := pick_ev c3 (by omega) 9 (by omega)
        refine ⟨a, b, (pairsOf a b).set v2.toNat ⟨(rd_T56 (pairsOf a b) v2).f0, v5⟩, ev_mk (K1 + K2) fun k hk => ?_, ha, hb, ?_⟩
        · unfold spec_DrawCommonOk.f
          rw [e0, Option.bind_some, k1 k (by omega), Option.bind_some, k2 k (by omega), Option.bind_some, if_pos g, e2, Option.bind_some, e3, Option.bind_some, if_neg g0, if_pos g1, e5, Option.bind_some, if_pos a2, if_pos (by omega)]
        · rw [List.length_set]; exact hl
      · by_cases g2 : v3 = 2
        · refine ⟨a, b, (pairsOf a b).eraseIdx v2.toNat, ev_mk (K1 + K2) fun k hk => ?_, ha, hb, ?_⟩
          · unfold spec_DrawCommonOk.f
            rw [e0, Option.bind_some, k1 k (by omega), Option.bind_some, k2 k (by omega), Option.bind_some, if_pos g, e2, Option.bind_some, e3, Option.bind_some, if_neg g0, if_neg g1, if_pos g2, if_pos a2, if_pos (by omega), w64 (by omega) (by omega), if_pos (by omega), if_pos (by omega)]
          · have := List.length_eraseIdx_le (pairsOf a b) v2.toNat
            omega
        · refine ⟨a, b, pairsOf a b, ev_mk (K1 + K2) fun k hk => ?_, ha, hb, hl⟩
          unfold spec_DrawCommonOk.f
          rw [e0, Option.bind_some, k1 k (by omega), Option.bind_some, k2 k (by omega), Option.bind_some, if_pos g, e2, Option.bind_some, e3, Option.bind_some, if_neg g0, if_neg g1, if_neg g2]
  · refine ⟨a, b, pairsOf a b, ev_mk (K1 + K2) fun k hk => ?_, ha, hb, hl⟩
    unfold spec_DrawCommonOk.f
    rw [e0, Option.bind_some, k1 k (by omega), Option.bind_some, k2 k (by omega), Option.bind_some, if_neg g]
theorem fnCommon_j1 {a b : List Int} (h : a.length ≤ 301 ∧ b.length ≤ 301) : Ev (fun k => laws_FnCommon.j1 k a b (Lcs.lcs a b : Int) (pairsOf a b) false) true := by
  have hl := pairsOf_lcs' h
  obtain ⟨K1, h1⟩ := ev_out (specCommonOk_ev a b (pairsOf a b) (by have := pairsOf_len a b; omega))
  obtain ⟨K2, h2⟩ := ev_out (implCommonLen_ev b a)
  refine ev_mk (K1 + K2 + 1) fun k hk => ?_
  obtain ⟨k, rfl⟩ : ∃ m, k = m + 1 := ⟨k - 1, by omega⟩
  rw [laws_FnCommon.j1, if_neg (by decide), if_pos (by omega), h1 k (by omega), Option.bind_some, if_pos (pairsOf_good h), h2 k (by omega), Option.bind_some]
  unfold lenOf
  rw [if_pos ⟨h.2, h.1⟩, Lcs.lcs_comm b a]
  simp
theorem FnCommon : laws_FnCommon.Pure := by
  intro code _ hc hw
  by_cases g : (code.length : Int) > 1048576
  · exact ⟨0, by unfold laws_FnCommon.f laws_big.f; rw [Option.bind_some, if_pos (decide_eq_true g)]⟩
  obtain ⟨a, b, l, hd, ha, hb, hl⟩ := drawCommon_ev (code_wf hw) (by omega)
  obtain ⟨K1, h1⟩ := ev_out hd
  obtain ⟨K2, h2⟩ := ev_out (implCommonLen_ev a b)
  obtain ⟨K3, h3⟩ := ev_out (specCommonLen_ev a b)
  by_cases h : a.length ≤ 301 ∧ b.length ≤ 301
  · obtain ⟨K4, h4⟩ := ev_out (implCommonOf_ev a b)
    obtain ⟨K5, h5⟩ := ev_out (implCommonOk_ev a b l (by omega))
    obtain ⟨K6, h6⟩ := ev_out (specCommonOk_ev a b l (by omega))
    obtain ⟨K7, h7⟩ := ev_out (fnCommon_j1 h)
    refine ⟨K1 + K2 + K3 + K4 + K5 + K6 + K7 + 1, ?_⟩
    unfold laws_FnCommon.f laws_big.f
    rw [Option.bind_some, if_neg (by rw [decide_eq_false g]; decide), h1 _ (by omega), Option.bind_some, h2 _ (by omega), Option.bind_some, h3 _ (by omega), Option.bind_some, if_pos rfl]
    have e : lenOf a b = (Lcs.lcs a b : Int) := if_pos h
    show laws_FnCommon.j0 _ a b l (lenOf a b) (decide (lenOf a b < 0)) = some true
    rw [e, decide_eq_false (by omega), laws_FnCommon.j0, if_neg (by decide), Option.bind_some, if_pos (by simp; omega), Option.bind_some, if_pos (by simp; omega), List.nil_append, List.nil_append, h4 _ (by omega), Option.bind_some]
    unfold laws_pairs.f
    rw [Option.bind_some, if_pos (by simp; omega), Option.bind_some, List.nil_append, h5 _ (by omega), Option.bind_some, h6 _ (by omega), Option.bind_some, if_neg (by simp)]
    by_cases q : okOf a b l = true
    · have := okOf_le q
      rw [if_pos q, decide_eq_false (by omega)]
      exact h7 _ (by omega)
    · rw [if_neg q]
      exact h7 _ (by omega)
  · refine ⟨K1 + K2 + K3 + 1, ?_⟩
    have e : lenOf a b = -1 := if_neg h
    unfold laws_FnCommon.f laws_big.f
    rw [Option.bind_some, if_neg (by rw [decide_eq_false g]; decide), h1 _ (by omega), Option.bind_some, h2 _ (by omega), Option.bind_some, h3 _ (by omega), Option.bind_some, if_pos rfl]
    show laws_FnCommon.j0 _ a b l (lenOf a b) (decide (lenOf a b < 0)) = some true
    rw [decide_eq_true (by omega), laws_FnCommon.j0, if_pos rfl, h3 _ (by omega), Option.bind_some]
    simp

end Go.Proofs.Ytlnmkgeoiinjfaa.Pure
