/- The program's CommonLen returns what the reference's returns, for all arguments (lists of more than 2^20 numbers are let pass by the statement itself). -/
import Derived.Test.YtlnmkgeoiinjfaaQFnExactCommonLenx5
import Derived.Test.YtlnmkgeoiinjfaaBase
import Derived.Test.YtlnmkgeoiinjfaaLcs
namespace Go.Proofs.Ytlnmkgeoiinjfaa.Pure
open Go.RowKit Go.Proofs.Ytlnmkgeoiinjfaa.QFnExactCommonLen Go.Proofs.YtlnmkgeoiinjfaaW.PrintWords Go.Proofs.YtlnmkgeoiinjfaaW.PrintLast
open Go.Proofs.Ytlnmkgeoiinjfaa Go.Proofs.Ytlnmkgeoiinjfaa.Base
set_option linter.unusedVariables false
set_option linter.unusedSimpArgs false

-- toIntS, eqIntS
theorem toIntS_l0 (l : List Int) (hl : l.length ≤ 4000000) (d : Nat) : ∀ i : Nat, i + d = l.length → Ev (fun k => laws_toIntS.l0 k l (l.take i ++ List.replicate d 0) (i : Int)) l := by
  induction d with
  | zero =>
    intro i h
    refine Ev.step (f := fun _ => some l) (fun k => ?_) (Ev.now l)
    rw [laws_toIntS.l0]
    rw [if_neg (by omega), List.take_of_length_le (by omega)]
    simp
  | succ d ih =>
    intro i h
    refine Ev.step (f := fun k => laws_toIntS.l0 k l (l.take (i + 1) ++ List.replicate d 0) ((i + 1 : Nat) : Int)) (fun k => ?_) (ih (i + 1) (by omega))
    rw [laws_toIntS.l0]
    rw [if_pos (by omega), if_pos (by omega), if_pos (by rw [fill_length l 0 i (d + 1) h]; omega), w64 (by omega) (by omega), rd_nat, Int.toNat_natCast, fill_set l 0 _ i d h rfl]
    rfl
theorem toIntS_ev (l : List Int) (hl : l.length ≤ 4000000) : Ev (fun k => laws_toIntS.f k l) l := by
  refine Ev.congr (f := fun k => laws_toIntS.l0 k l (l.take 0 ++ List.replicate l.length 0) ((0 : Nat) : Int)) (fun k => ?_) (toIntS_l0 l hl l.length 0 (by omega))
  unfold laws_toIntS.f
  rw [if_pos (by omega), Int.toNat_natCast, if_pos (by omega)]
  rfl
theorem eqIntS_l0 (l : List Int) (hl : l.length ≤ 4000000) (d : Nat) : ∀ i : Nat, i + d = l.length → Ev (fun k => laws_eqIntS.l0 k l l (i : Int)) true := by
  induction d with
  | zero =>
    intro i h
    refine Ev.step (f := fun _ => some true) (fun k => ?_) (Ev.now true)
    rw [laws_eqIntS.l0]
    rw [if_neg (by omega)]
  | succ d ih =>
    intro i h
    refine Ev.step (f := fun k => laws_eqIntS.l0 k l l ((i + 1 : Nat) : Int)) (fun k => ?_) (ih (i + 1) (by omega))
    rw [laws_eqIntS.l0]
    rw [if_pos (by omega), if_pos (by omega), if_pos (by omega), if_pos rfl, w64 (by omega) (by omega)]
    rfl
theorem eqIntS_ev (l : List Int) (hl : l.length ≤ 4000000) : Ev (fun k => laws_eqIntS.f k l l) true := by
  refine Ev.congr (f := fun k => laws_eqIntS.l0 k l l ((0 : Nat) : Int)) (fun k => ?_) (eqIntS_l0 l hl l.length 0 (by omega))
  unfold laws_eqIntS.f
  rw [if_pos rfl]
  rfl

-- the two tables
theorem rdL (T : List (List Int)) (i : Nat) : rd_L1 T (i : Int) = T.getD i [] := by unfold rd_L1; rw [Int.toNat_natCast]
theorem mx_eq (x y : Nat) : mx (x : Int) (y : Int) = ((max x y : Nat) : Int) := by unfold mx; split <;> omega
theorem L_le301 {a b : List Int} (ha : a.length ≤ 301) (i j : Nat) : Lcs.L a b i j ≤ 301 := Nat.le_trans (Lcs.L_le a b i j) ha

theorem specTable_l1 (a b : List Int) (ha : a.length ≤ 301) (hb : b.length ≤ 301) (i : Nat) (hi : i ≤ a.length)
    (next : ∀ T, Lcs.Rows a b i T → ∃ R, Ev (fun k => spec_l12Table.l0 k a b T ((i : Int) - 1)) R ∧ Lcs.Rows a b 0 R) (j : Nat) :
    ∀ T, j ≤ b.length + 1 → Lcs.Part a b i j T → ∃ R, Ev (fun k => spec_l12Table.l1 k a b T (i : Int) ((j : Int) - 1)) R ∧ Lcs.Rows a b 0 R := by
  induction j with
  | zero =>
    intro T _ hT
    obtain ⟨R, hR, h0⟩ := next T (Lcs.part_rows hT)
    refine ⟨R, Ev.step (f := fun k => spec_l12Table.l0 k a b T ((i : Int) - 1)) (fun k => ?_) hR, h0⟩
    rw [spec_l12Table.l1]
    rw [if_neg (by omega), w64 (by omega) (by omega)]
  | succ j ih =>
    intro T hj hT
    have e1 : ((j + 1 : Nat) : Int) - 1 = (j : Int) := by omega
    rw [e1]
    by_cases hin : i < a.length ∧ j < b.length
    · obtain ⟨hi2, hj2⟩ := hin
      obtain ⟨t1, t2, t3, t4, t5⟩ := id hT
      have r1 := t2 (i + 1) (by omega) (by omega)
      have lL := L_le301 (b := b) ha (i + 1) (j + 1)
      have e2 : ((i : Int) + 1) = ((i + 1 : Nat) : Int) := by omega
      have e3 : ((j : Int) + 1) = ((j + 1 : Nat) : Int) := by omega
      have c1 : ((T.getD (i + 1) []).getD j 0) = (Lcs.L a b (i + 1) j : Int) := r1.2 j (by omega)
      have c2 : ((T.getD i []).getD (j + 1) 0) = (Lcs.L a b i (j + 1) : Int) := t4 (j + 1) (by omega) (by omega)
      have c3 : ((T.getD (i + 1) []).getD (j + 1) 0) = (Lcs.L a b (i + 1) (j + 1) : Int) := r1.2 (j + 1) (by omega)
      obtain ⟨R, hR, h0⟩ := ih (Lcs.put T i j (Lcs.L a b i j : Int)) (by omega) (Lcs.part_put hT (by omega) (by omega) rfl)
      refine ⟨R, Ev.step (f := fun k => spec_l12Table.j2 k a b T (i : Int) (j : Int) true) (fun k => ?_) (Ev.step (f := fun k => spec_l12Table.l1 k a b (Lcs.put T i j (Lcs.L a b i j : Int)) (i : Int) ((j : Int) - 1)) (fun k => ?_) hR), h0⟩
      · rw [spec_l12Table.l1]
        rw [if_pos (by omega), if_pos (by omega), decide_eq_true (by omega)]
      · have hL := Lcs.L_max a b i j hi2 hj2
        rw [spec_l12Table.j2]
        rw [if_pos rfl, if_pos (by omega), if_pos (by omega), w64 (x := (i : Int) + 1) (by omega) (by omega), w64 (x := (j : Int) + 1) (by omega) (by omega), w64 (x := (j : Int) - 1) (by omega) (by omega), e2, e3, rdL, rdL, if_pos (by omega), if_pos (by omega), if_pos (by omega), if_pos (by rw [r1.1]; omega), if_pos (by omega), if_pos (by rw [t3]; omega), if_pos (by rw [t3]; omega)]
        rw [Option.bind_some, if_pos (by omega), if_pos (by omega), rd_nat, rd_nat, rd_nat, rd_nat, c1, c2, mx_eq, Int.toNat_natCast, Int.toNat_natCast]
        have hp : ∀ v, T.set i ((T.getD i []).set j v) = Lcs.put T i j v := fun v => rfl
        rw [hp]
        by_cases he : a.getD i 0 = b.getD j 0
        · rw [if_pos he] at hL
          rw [if_pos he, rdL, rdL, Lcs.put_row _ _ _ _ (by omega), Lcs.put_other _ _ _ _ _ (by omega), if_pos (by rw [List.length_set, t3]; omega), if_pos (by rw [r1.1]; omega), rd_nat, rd_nat, c3, lset_self _ _ _ _ (by omega), w64 (by omega) (by omega)]
          have e4 : (1 : Int) + (Lcs.L a b (i + 1) (j + 1) : Int) = ((1 + Lcs.L a b (i + 1) (j + 1) : Nat) : Int) := by omega
          rw [e4, mx_eq, ← hL, ← Lcs.put_row T i j _ (by omega)]
          have hq : ∀ (U : List (List Int)) (v : Int), U.set i ((U.getD i []).set j v) = Lcs.put U i j v := fun _ _ => rfl
          rw [hq, Lcs.put_put _ _ _ _ _ (by omega)]
        · rw [if_neg he] at hL
          rw [if_neg he, hL, Nat.max_zero]
    · have hz : Lcs.L a b i j = 0 := by
        by_cases h1 : i < a.length
        · exact Lcs.L_end' a b i j (by omega)
        · exact Lcs.L_end a b i j (by omega)
      obtain ⟨R, hR, h0⟩ := ih T (by omega) (Lcs.part_skip hT hz)
      refine ⟨R, Ev.step (f := fun k => spec_l12Table.j2 k a b T (i : Int) (j : Int) false) (fun k => ?_) (Ev.step (f := fun k => spec_l12Table.l1 k a b T (i : Int) ((j : Int) - 1)) (fun k => ?_) hR), h0⟩
      · rw [spec_l12Table.l1]
        rw [if_pos (by omega)]
        by_cases h1 : i < a.length
        · rw [if_pos (by omega), decide_eq_false (by omega)]
        · rw [if_neg (by omega)]
      · rw [spec_l12Table.j2]
        rw [if_neg (by decide), w64 (by omega) (by omega)]

theorem specTable_l0 (a b : List Int) (ha : a.length ≤ 301) (hb : b.length ≤ 301) (i : Nat) :
    ∀ T, i ≤ a.length + 1 → Lcs.Rows a b i T → ∃ R, Ev (fun k => spec_l12Table.l0 k a b T ((i : Int) - 1)) R ∧ Lcs.Rows a b 0 R := by
  induction i with
  | zero =>
    intro T _ hT
    refine ⟨T, Ev.step (f := fun _ => some T) (fun k => ?_) (Ev.now T), hT⟩
    rw [spec_l12Table.l0]
    rw [if_neg (by omega)]
  | succ i ih =>
    intro T hi hT
    have e1 : ((i + 1 : Nat) : Int) - 1 = (i : Int) := by omega
    have e2 : ((b.length : Int) + 1) = ((b.length + 1 : Nat) : Int) := by omega
    have e3 : (b.length : Int) = ((b.length + 1 : Nat) : Int) - 1 := by omega
    rw [e1]
    obtain ⟨R, hR, h0⟩ := specTable_l1 a b ha hb i (by omega) (fun T' hT' => ih T' (by omega) hT') (b.length + 1) _ (Nat.le_refl _) (Lcs.rows_part hT (by omega))
    refine ⟨R, Ev.step (f := fun k => spec_l12Table.l1 k a b (T.set i (List.replicate (b.length + 1) 0)) (i : Int) (((b.length + 1 : Nat) : Int) - 1)) (fun k => ?_) hR, h0⟩
    rw [spec_l12Table.l0]
    rw [if_pos (by omega), w64 (by omega) (by omega), if_pos (by omega), e2, Int.toNat_natCast, if_pos (by omega), if_pos (by omega), if_pos (by have := hT.1; omega), Int.toNat_natCast, e3]

theorem specTable_ev (a b : List Int) (ha : a.length ≤ 301) (hb : b.length ≤ 301) : ∃ R, Ev (fun k => spec_l12Table.f k a b) R ∧ Lcs.Rows a b 0 R := by
  obtain ⟨R, hR, h0⟩ := specTable_l0 a b ha hb (a.length + 1) _ (Nat.le_refl _) (Lcs.rows_none a b)
  have e2 : ((a.length : Int) + 1) = ((a.length + 1 : Nat) : Int) := by omega
  have e3 : (a.length : Int) = ((a.length + 1 : Nat) : Int) - 1 := by omega
  refine ⟨R, Ev.congr (f := fun k => spec_l12Table.l0 k a b (List.replicate (a.length + 1) []) (((a.length + 1 : Nat) : Int) - 1)) (fun k => ?_) hR, h0⟩
  unfold spec_l12Table.f
  rw [w64 (by omega) (by omega), if_pos (by omega), e2, Int.toNat_natCast, if_pos (by omega), ← e3]

theorem implTable_l1 (a b : List Int) (ha : a.length ≤ 301) (hb : b.length ≤ 301) (i : Nat) (hi : i < a.length)
    (next : ∀ T, Lcs.Rows a b i T → ∃ R, Ev (fun k => impl_commonTable.l0 k a b T ((i : Int) - 1)) R ∧ Lcs.Rows a b 0 R) (j : Nat) :
    ∀ T, j ≤ b.length → Lcs.Part a b i j T → ∃ R, Ev (fun k => impl_commonTable.l1 k a b T (i : Int) ((j : Int) - 1)) R ∧ Lcs.Rows a b 0 R := by
  induction j with
  | zero =>
    intro T _ hT
    obtain ⟨R, hR, h0⟩ := next T (Lcs.part_rows hT)
    refine ⟨R, Ev.step (f := fun k => impl_commonTable.l0 k a b T ((i : Int) - 1)) (fun k => ?_) hR, h0⟩
    rw [impl_commonTable.l1]
    rw [if_neg (by omega), w64 (by omega) (by omega)]
  | succ j ih =>
    intro T hj hT
    have e1 : ((j + 1 : Nat) : Int) - 1 = (j : Int) := by omega
    rw [e1]
    obtain ⟨t1, t2, t3, t4, t5⟩ := id hT
    have r1 := t2 (i + 1) (by omega) (by omega)
    have lL := L_le301 (b := b) ha (i + 1) (j + 1)
    have e2 : ((i : Int) + 1) = ((i + 1 : Nat) : Int) := by omega
    have e3 : ((j : Int) + 1) = ((j + 1 : Nat) : Int) := by omega
    have c1 : ((T.getD (i + 1) []).getD j 0) = (Lcs.L a b (i + 1) j : Int) := r1.2 j (by omega)
    have c2 : ((T.getD i []).getD (j + 1) 0) = (Lcs.L a b i (j + 1) : Int) := t4 (j + 1) (by omega) (by omega)
    have c3 : ((T.getD (i + 1) []).getD (j + 1) 0) = (Lcs.L a b (i + 1) (j + 1) : Int) := r1.2 (j + 1) (by omega)
    have hL := Lcs.L_eq a b i j hi (by omega)
    obtain ⟨R, hR, h0⟩ := ih (Lcs.put T i j (Lcs.L a b i j : Int)) (by omega) (Lcs.part_put hT (by omega) (by omega) rfl)
    refine ⟨R, Ev.step (f := fun k => impl_commonTable.l1 k a b (Lcs.put T i j (Lcs.L a b i j : Int)) (i : Int) ((j : Int) - 1)) (fun k => ?_) hR, h0⟩
    have hp : ∀ v, T.set i ((T.getD i []).set j v) = Lcs.put T i j v := fun v => rfl
    rw [impl_commonTable.l1]
    rw [if_pos (by omega), if_pos (by omega), if_pos (by omega), if_pos (by omega), if_pos (by omega), w64 (x := (i : Int) + 1) (by omega) (by omega), w64 (x := (j : Int) + 1) (by omega) (by omega), w64 (x := (j : Int) - 1) (by omega) (by omega), e2, e3]
    simp only [rdL, rd_nat, c1, c2, c3, mx_eq, Int.toNat_natCast, hp]
    by_cases he : a.getD i 0 = b.getD j 0
    · rw [if_pos he] at hL
      rw [if_pos he, if_pos (by omega), if_pos (by omega), if_pos (by omega), if_pos (by omega), if_pos (by rw [r1.1]; omega), if_pos (by rw [t3]; omega), w64 (by omega) (by omega), hL]
      rfl
    · rw [if_neg he] at hL
      rw [if_neg he, if_pos (by omega), if_pos (by omega), if_pos (by omega), if_pos (by rw [r1.1]; omega), if_pos (by omega), if_pos (by rw [t3]; omega), if_pos (by rw [t3]; omega), hL]

theorem implTable_l0 (a b : List Int) (ha : a.length ≤ 301) (hb : b.length ≤ 301) (i : Nat) :
    ∀ T, i ≤ a.length → Lcs.Rows a b i T → ∃ R, Ev (fun k => impl_commonTable.l0 k a b T ((i : Int) - 1)) R ∧ Lcs.Rows a b 0 R := by
  induction i with
  | zero =>
    intro T _ hT
    refine ⟨T, Ev.step (f := fun _ => some T) (fun k => ?_) (Ev.now T), hT⟩
    rw [impl_commonTable.l0]
    rw [if_neg (by omega)]
  | succ i ih =>
    intro T hi hT
    have e1 : ((i + 1 : Nat) : Int) - 1 = (i : Int) := by omega
    have e2 : ((b.length : Int) + 1) = ((b.length + 1 : Nat) : Int) := by omega
    rw [e1]
    obtain ⟨R, hR, h0⟩ := implTable_l1 a b ha hb i (by omega) (fun T' hT' => ih T' (by omega) hT') b.length _ (Nat.le_refl _) (Lcs.part_skip (Lcs.rows_part hT (by omega)) (Lcs.L_end' a b i _ (Nat.le_refl _)))
    refine ⟨R, Ev.step (f := fun k => impl_commonTable.l1 k a b (T.set i (List.replicate (b.length + 1) 0)) (i : Int) ((b.length : Int) - 1)) (fun k => ?_) hR, h0⟩
    rw [impl_commonTable.l0]
    rw [if_pos (by omega), w64 (x := (b.length : Int) + 1) (by omega) (by omega), if_pos (by omega), e2, Int.toNat_natCast, if_pos (by omega), if_pos (by omega), if_pos (by have := hT.1; omega), Int.toNat_natCast, w64 (by omega) (by omega)]

theorem implTable_ev (a b : List Int) (ha : a.length ≤ 301) (hb : b.length ≤ 301) : ∃ R, Ev (fun k => impl_commonTable.f k a b) R ∧ Lcs.Rows a b 0 R := by
  have h1 := Lcs.rows_part (Lcs.rows_none a b) (Nat.le_refl _)
  obtain ⟨R, hR, h0⟩ := implTable_l0 a b ha hb a.length _ (Nat.le_refl _) (Lcs.part_rows (Lcs.part_zero (fun c => Lcs.L_end a b _ c (Nat.le_refl _)) _ h1))
  have e2 : ((a.length : Int) + 1) = ((a.length + 1 : Nat) : Int) := by omega
  have e3 : ((b.length : Int) + 1) = ((b.length + 1 : Nat) : Int) := by omega
  refine ⟨R, Ev.congr (f := fun k => impl_commonTable.l0 k a b ((List.replicate (a.length + 1) []).set a.length (List.replicate (b.length + 1) 0)) ((a.length : Int) - 1)) (fun k => ?_) hR, h0⟩
  unfold impl_commonTable.f
  rw [w64 (x := (a.length : Int) + 1) (by omega) (by omega), w64 (x := (b.length : Int) + 1) (by omega) (by omega), if_pos (by omega), e2, e3, Int.toNat_natCast, Int.toNat_natCast, Int.toNat_natCast, if_pos (by omega), Option.bind_some, if_pos (by omega), if_pos (by omega), if_pos (by omega), if_pos (by rw [List.length_replicate]; omega), w64 (by omega) (by omega)]

-- CommonLen, both
theorem rows_00 {a b : List Int} {R : List (List Int)} (h : Lcs.Rows a b 0 R) : 0 < (R.length : Int) ∧ 0 < ((rd_L1 R 0).length : Int) ∧ rd (rd_L1 R 0) 0 = (Lcs.lcs a b : Int) := by
  have h0 := h.2 0 (by omega) (by omega)
  have e0 : rd_L1 R 0 = R.getD 0 [] := rdL R 0
  have e1 : rd (R.getD 0 []) 0 = (R.getD 0 []).getD 0 0 := rd_nat _ 0
  rw [e0, e1]
  exact ⟨by have := h.1; omega, by have := h0.1; omega, h0.2 0 (by omega)⟩
def lenOf (a b : List Int) : Int := if a.length ≤ 301 ∧ b.length ≤ 301 then (Lcs.lcs a b : Int) else -1
theorem specCommonLen_ev (a b : List Int) : Ev (fun k => spec_CommonLen.f k a b) (lenOf a b) := by
  by_cases ha : a.length ≤ 301
  · by_cases hb : b.length ≤ 301
    · obtain ⟨R, hR, h0⟩ := specTable_ev a b ha hb
      obtain ⟨K, hR⟩ := ev_out hR
      obtain ⟨g1, g2, g3⟩ := rows_00 h0
      refine ev_mk K fun k hk => ?_
      unfold spec_CommonLen.f spec_l12Right.f lenOf
      rw [Option.bind_some, if_pos (decide_eq_true (by omega)), Option.bind_some, if_pos (decide_eq_true (by omega)), hR k hk, Option.bind_some, if_pos g1, if_pos g2, g3, if_pos ⟨ha, hb⟩]
    · refine ev_mk 0 fun k _ => ?_
      unfold spec_CommonLen.f spec_l12Right.f lenOf
      rw [Option.bind_some, if_pos (decide_eq_true (by omega)), Option.bind_some, if_neg (fun h => hb (by have := of_decide_eq_true h; omega)), if_neg (fun h => hb h.2)]
  · refine ev_mk 0 fun k _ => ?_
    unfold spec_CommonLen.f spec_l12Right.f lenOf
    rw [Option.bind_some, if_neg (fun h => ha (by have := of_decide_eq_true h; omega)), if_neg (fun h => ha h.1)]
theorem areListed_eq (a b : List Int) : impl_areListed.f a b = some (decide (a.length ≤ 301 ∧ b.length ≤ 301)) := by
  unfold impl_areListed.f
  by_cases ha : a.length ≤ 301
  · rw [if_pos (by omega)]
    congr 1
    by_cases hb : b.length ≤ 301
    · rw [decide_eq_true (by omega), decide_eq_true ⟨ha, hb⟩]
    · rw [decide_eq_false (by omega), decide_eq_false (fun h => hb h.2)]
  · rw [if_neg (by omega), decide_eq_false (fun h => ha h.1)]
theorem implCommonLen_ev (a b : List Int) : Ev (fun k => impl_CommonLen.f k a b) (lenOf a b) := by
  by_cases h : a.length ≤ 301 ∧ b.length ≤ 301
  · obtain ⟨R, hR, h0⟩ := implTable_ev a b h.1 h.2
    obtain ⟨K, hR⟩ := ev_out hR
    obtain ⟨g1, g2, g3⟩ := rows_00 h0
    refine ev_mk K fun k hk => ?_
    unfold impl_CommonLen.f lenOf
    rw [areListed_eq, Option.bind_some, if_pos (decide_eq_true h), hR k hk, Option.bind_some, if_pos g1, if_pos g2, g3, if_pos h]
  · refine ev_mk 0 fun k _ => ?_
    unfold impl_CommonLen.f lenOf
    rw [areListed_eq, Option.bind_some, if_neg (by rw [decide_eq_false h]; decide), if_neg h]

theorem FnExactCommonLen : laws_FnExactCommonLen.Pure := by
  intro l0 l1 _ _ _ _ _ _
  by_cases g0 : (l0.length : Int) > 1048576
  · exact ⟨0, by unfold laws_FnExactCommonLen.f; rw [if_pos g0]⟩
  by_cases g1 : (l1.length : Int) > 1048576
  · exact ⟨0, by unfold laws_FnExactCommonLen.f; rw [if_neg g0, if_pos g1]⟩
  obtain ⟨K0, h0⟩ := ev_out (toIntS_ev l0 (by omega))
  obtain ⟨K1, h1⟩ := ev_out (toIntS_ev l1 (by omega))
  obtain ⟨K2, h2⟩ := ev_out (specCommonLen_ev l0 l1)
  obtain ⟨K3, h3⟩ := ev_out (implCommonLen_ev l0 l1)
  obtain ⟨K4, h4⟩ := ev_out (eqIntS_ev l0 (by omega))
  obtain ⟨K5, h5⟩ := ev_out (eqIntS_ev l1 (by omega))
  refine ⟨K0 + K1 + K2 + K3 + K4 + K5, ?_⟩
  unfold laws_FnExactCommonLen.f
  rw [if_neg g0, if_neg g1, h0 _ (by omega), Option.bind_some, h1 _ (by omega), Option.bind_some, h2 _ (by omega), Option.bind_some, Option.bind_some, Option.bind_some, h3 _ (by omega), Option.bind_some, if_pos rfl, Option.bind_some, h4 _ (by omega), Option.bind_some, if_pos rfl, Option.bind_some, h5 _ (by omega), Option.bind_some, if_pos rfl]

end Go.Proofs.Ytlnmkgeoiinjfaa.Pure
