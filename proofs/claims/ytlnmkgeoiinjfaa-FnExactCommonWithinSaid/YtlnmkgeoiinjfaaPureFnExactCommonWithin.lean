/- The program's CommonWithin returns what the reference's returns, for all arguments (lists of more than 2^20 numbers are let pass by the statement itself). -/
import Derived.Test.YtlnmkgeoiinjfaaQFnExactCommonWithinx8
import Derived.Test.YtlnmkgeoiinjfaaBase
import Derived.Test.YtlnmkgeoiinjfaaLcs
namespace Go.Proofs.Ytlnmkgeoiinjfaa.Pure
open Go.RowKit Go.Proofs.Ytlnmkgeoiinjfaa.QFnExactCommonWithin Go.Proofs.YtlnmkgeoiinjfaaW.PrintWords Go.Proofs.YtlnmkgeoiinjfaaW.PrintLast
open Go.Proofs.Ytlnmkgeoiinjfaa Go.Proofs.Ytlnmkgeoiinjfaa.Base
set_option linter.unusedVariables false
set_option linter.unusedSimpArgs false

-- toIntS, eqIntS
theorem toIntS_l0 (l : List Int) (hl : l.length ≤ 4000000) (d : Nat) : ∀ i : Nat, i + d = l.length → Ev (fun k => laws_toIntS.l0 k l (l.take i ++ List.replicate d 0) (i : Int)) l := by
  induction d with
  | zero =>
    intro i h
    refine Ev.step (f := fun _ => some l) (fun k => ?_) (Ev.now l)
    rw [laws_toIntS.l0]
    rw [if_neg (by omega), List.take_of_length_le (by omega)]
    simp
  | succ d ih =>
    intro i h
    refine Ev.step (f := fun k => laws_toIntS.l0 k l (l.take (i + 1) ++ List.replicate d 0) ((i + 1 : Nat) : Int)) (fun k => ?_) (ih (i + 1) (by omega))
    rw [laws_toIntS.l0]
    rw [if_pos (by omega), if_pos (by omega), if_pos (by rw [fill_length l 0 i (d + 1) h]; omega), w64 (by omega) (by omega), rd_nat, Int.toNat_natCast, fill_set l 0 _ i d h rfl]
    rfl
theorem toIntS_ev (l : List Int) (hl : l.length ≤ 4000000) : Ev (fun k => laws_toIntS.f k l) l := by
  refine Ev.congr (f := fun k => laws_toIntS.l0 k l (l.take 0 ++ List.replicate l.length 0) ((0 : Nat) : Int)) (fun k => ?_) (toIntS_l0 l hl l.length 0 (by omega))
  unfold laws_toIntS.f
  rw [if_pos (by omega), Int.toNat_natCast, if_pos (by omega)]
  rfl
theorem eqIntS_l0 (l : List Int) (hl : l.length ≤ 4000000) (d : Nat) : ∀ i : Nat, i + d = l.length → Ev (fun k => laws_eqIntS.l0 k l l (i : Int)) true := by
  induction d with
  | zero =>
    intro i h
    refine Ev.step (f := fun _ => some true) (fun k => ?_) (Ev.now true)
    rw [laws_eqIntS.l0]
    rw [if_neg (by omega)]
  | succ d ih =>
    intro i h
    refine Ev.step (f := fun k => laws_eqIntS.l0 k l l ((i + 1 : Nat) : Int)) (fun k => ?_) (ih (i + 1) (by omega))
    rw [laws_eqIntS.l0]
    rw [if_pos (by omega), if_pos (by omega), if_pos (by omega), if_pos rfl, w64 (by omega) (by omega)]
    rfl
theorem eqIntS_ev (l : List Int) (hl : l.length ≤ 4000000) : Ev (fun k => laws_eqIntS.f k l l) true := by
  refine Ev.congr (f := fun k => laws_eqIntS.l0 k l l ((0 : Nat) : Int)) (fun k => ?_) (eqIntS_l0 l hl l.length 0 (by omega))
  unfold laws_eqIntS.f
  rw [if_pos rfl]
  rfl

-- the two tables
theorem rdL (T : List (List Int)) (i : Nat) : rd_L2 T (i : Int) = T.getD i [] := by unfold rd_L2; rw [Int.toNat_natCast]
theorem mx_eq (x y : Nat) : mx (x : Int) (y : Int) = ((max x y : Nat) : Int) := by unfold mx; split <;> omega
theorem L_le301 {a b : List Int} (ha : a.length ≤ 301) (i j : Nat) : Lcs.L a b i j ≤ 301 := Nat.le_trans (Lcs.L_le a b i j) ha

theorem specTable_l1 (a b : List Int) (ha : a.length ≤ 301) (hb : b.length ≤ 301) (i : Nat) (hi : i ≤ a.length)
    (next : ∀ T, Lcs.Rows a b i T → ∃ R, Ev (fun k => spec_l12Table.l0 k a b T ((i : Int) - 1)) R ∧ Lcs.Rows a b 0 R) (j : Nat) :
    ∀ T, j ≤ b.length + 1 → Lcs.Part a b i j T → ∃ R, Ev (fun k => spec_l12Table.l1 k a b T (i : Int) ((j : Int) - 1)) R ∧ Lcs.Rows a b 0 R := by
  induction j with
  | zero =>
    intro T _ hT
    obtain ⟨R, hR, h0⟩ := next T (Lcs.part_rows hT)
    refine ⟨R, Ev.step (f := fun k => spec_l12Table.l0 k a b T ((i : Int) - 1)) (fun k => ?_) hR, h0⟩
    rw [spec_l12Table.l1]
    rw [if_neg (by omega), w64 (by omega) (by omega)]
  | succ j ih =>
    intro T hj hT
    have e1 : ((j + 1 : Nat) : Int) - 1 = (j : Int) := by omega
    rw [e1]
    by_cases hin : i < a.length ∧ j < b.length
    · obtain ⟨hi2, hj2⟩ := hin
      obtain ⟨t1, t2, t3, t4, t5⟩ := id hT
      have r1 := t2 (i + 1) (by omega) (by omega)
      have lL := L_le301 (b := b) ha (i + 1) (j + 1)
      have e2 : ((i : Int) + 1) = ((i + 1 : Nat) : Int) := by omega
      have e3 : ((j : Int) + 1) = ((j + 1 : Nat) : Int) := by omega
      have c1 : ((T.getD (i + 1) []).getD j 0) = (Lcs.L a b (i + 1) j : Int) := r1.2 j (by omega)
      have c2 : ((T.getD i []).getD (j + 1) 0) = (Lcs.L a b i (j + 1) : Int) := t4 (j + 1) (by omega) (by omega)
      have c3 : ((T.getD (i + 1) []).getD (j + 1) 0) = (Lcs.L a b (i + 1) (j + 1) : Int) := r1.2 (j + 1) (by omega)
      obtain ⟨R, hR, h0⟩ := ih (Lcs.put T i j (Lcs.L a b i j : Int)) (by omega) (Lcs.part_put hT (by omega) (by omega) rfl)
      refine ⟨R, Ev.step (f := fun k => spec_l12Table.j2 k a b T (i : Int) (j : Int) true) (fun k => ?_) (Ev.step (f := fun k => spec_l12Table.l1 k a b (Lcs.put T i j (Lcs.L a b i j : Int)) (i : Int) ((j : Int) - 1)) (fun k => ?_) hR), h0⟩
      · rw [spec_l12Table.l1]
        rw [if_pos (by omega), if_pos (by omega), decide_eq_true (by omega)]
      · have hL := Lcs.L_max a b i j hi2 hj2
        rw [spec_l12Table.j2]
        rw [if_pos rfl, if_pos (by omega), if_pos (by omega), w64 (x := (i : Int) + 1) (by omega) (by omega), w64 (x := (j : Int) + 1) (by omega) (by omega), w64 (x := (j : Int) - 1) (by omega) (by omega), e2, e3, rdL, rdL, if_pos (by omega), if_pos (by omega), if_pos (by omega), if_pos (by rw [r1.1]; omega), if_pos (by omega), if_pos (by rw [t3]; omega), if_pos (by rw [t3]; omega)]
        rw [Option.bind_some, if_pos (by omega), if_pos (by omega), rd_nat, rd_nat, rd_nat, rd_nat, c1, c2, mx_eq, Int.toNat_natCast, Int.toNat_natCast]
        have hp : ∀ v, T.set i ((T.getD i []).set j v) = Lcs.put T i j v := fun v => rfl
        rw [hp]
        by_cases he : a.getD i 0 = b.getD j 0
        · rw [if_pos he] at hL
          rw [if_pos he, rdL, rdL, Lcs.put_row _ _ _ _ (by omega), Lcs.put_other _ _ _ _ _ (by omega), if_pos (by rw [List.length_set, t3]; omega), if_pos (by rw [r1.1]; omega), rd_nat, rd_nat, c3, lset_self _ _ _ _ (by omega), w64 (by omega) (by omega)]
          have e4 : (1 : Int) + (Lcs.L a b (i + 1) (j + 1) : Int) = ((1 + Lcs.L a b (i + 1) (j + 1) : Nat) : Int) := by omega
          rw [e4, mx_eq, ← hL, ← Lcs.put_row T i j _ (by omega)]
          have hq : ∀ (U : List (List Int)) (v : Int), U.set i ((U.getD i []).set j v) = Lcs.put U i j v := fun _ _ => rfl
          rw [hq, Lcs.put_put _ _ _ _ _ (by omega)]
        · rw [if_neg he] at hL
          rw [if_neg he, hL, Nat.max_zero]
    · have hz : Lcs.L a b i j = 0 := by
        by_cases h1 : i < a.length
        · exact Lcs.L_end' a b i j (by omega)
        · exact Lcs.L_end a b i j (by omega)
      obtain ⟨R, hR, h0⟩ := ih T (by omega) (Lcs.part_skip hT hz)
      refine ⟨R, Ev.step (f := fun k => spec_l12Table.j2 k a b T (i : Int) (j : Int) false) (fun k => ?_) (Ev.step (f := fun k => spec_l12Table.l1 k a b T (i : Int) ((j : Int) - 1)) (fun k => ?_) hR), h0⟩
      · rw [spec_l12Table.l1]
        rw [if_pos (by omega)]
        by_cases h1 : i < a.length
        · rw [if_pos (by omega), decide_eq_false (by omega)]
        · rw [if_neg (by omega)]
      · rw [spec_l12Table.j2]
        rw [if_neg (by decide), w64 (by omega) (by omega)]

theorem specTable_l0 (a b : List Int) (ha : a.length ≤ 301) (hb : b.length ≤ 301) (i : Nat) :
    ∀ T, i ≤ a.length + 1 → Lcs.Rows a b i T → ∃ R, Ev (fun k => spec_l12Table.l0 k a b T ((i : Int) - 1)) R ∧ Lcs.Rows a b 0 R := by
  induction i with
  | zero =>
    intro T _ hT
    refine ⟨T, Ev.step (f := fun _ => some T) (fun k => ?_) (Ev.now T), hT⟩
    rw [spec_l12Table.l0]
    rw [if_neg (by omega)]
  | succ i ih =>
    intro T hi hT
    have e1 : ((i + 1 : Nat) : Int) - 1 = (i : Int) := by omega
    have e2 : ((b.length : Int) + 1) = ((b.length + 1 : Nat) : Int) := by omega
    have e3 : (b.length : Int) = ((b.length + 1 : Nat) : Int) - 1 := by omega
    rw [e1]
    obtain ⟨R, hR, h0⟩ := specTable_l1 a b ha hb i (by omega) (fun T' hT' => ih T' (by omega) hT') (b.length + 1) _ (Nat.le_refl _) (Lcs.rows_part hT (by omega))
    refine ⟨R, Ev.step (f := fun k => spec_l12Table.l1 k a b (T.set i (List.replicate (b.length + 1) 0)) (i : Int) (((b.length + 1 : Nat) : Int) - 1)) (fun k => ?_) hR, h0⟩
    rw [spec_l12Table.l0]
    rw [if_pos (by omega), w64 (by omega) (by omega), if_pos (by omega), e2, Int.toNat_natCast, if_pos (by omega), if_pos (by omega), if_pos (by have := hT.1; omega), Int.toNat_natCast, e3]

theorem specTable_ev (a b : List Int) (ha : a.length ≤ 301) (hb : b.length ≤ 301) : ∃ R, Ev (fun k => spec_l12Table.f k a b) R ∧ Lcs.Rows a b 0 R := by
  obtain ⟨R, hR, h0⟩ := specTable_l0 a b ha hb (a.length + 1) _ (Nat.le_refl _) (Lcs.rows_none a b)
  have e2 : ((a.length : Int) + 1) = ((a.length + 1 : Nat) : Int) := by omega
  have e3 : (a.length : Int) = ((a.length + 1 : Nat) : Int) - 1 := by omega
  refine ⟨R, Ev.congr (f := fun k => spec_l12Table.l0 k a b (List.replicate (a.length + 1) []) (((a.length + 1 : Nat) : Int) - 1)) (fun k => ?_) hR, h0⟩
  unfold spec_l12Table.f
  rw [w64 (by omega) (by omega), if_pos (by omega), e2, Int.toNat_natCast, if_pos (by omega), ← e3]

theorem implTable_l1 (a b : List Int) (ha : a.length ≤ 301) (hb : b.length ≤ 301) (i : Nat) (hi : i < a.length)
    (next : ∀ T, Lcs.Rows a b i T → ∃ R, Ev (fun k => impl_commonTable.l0 k a b T ((i : Int) - 1)) R ∧ Lcs.Rows a b 0 R) (j : Nat) :
    ∀ T, j ≤ b.length → Lcs.Part a b i j T → ∃ R, Ev (fun k => impl_commonTable.l1 k a b T (i : Int) ((j : Int) - 1)) R ∧ Lcs.Rows a b 0 R := by
  induction j with
  | zero =>
    intro T _ hT
    obtain ⟨R, hR, h0⟩ := next T (Lcs.part_rows hT)
    refine ⟨R, Ev.step (f := fun k => impl_commonTable.l0 k a b T ((i : Int) - 1)) (fun k => ?_) hR, h0⟩
    rw [impl_commonTable.l1]
    rw [if_neg (by omega), w64 (by omega) (by omega)]
  | succ j ih =>
    intro T hj hT
    have e1 : ((j + 1 : Nat) : Int) - 1 = (j : Int) := by omega
    rw [e1]
    obtain ⟨t1, t2, t3, t4, t5⟩ := id hT
    have r1 := t2 (i + 1) (by omega) (by omega)
    have lL := L_le301 (b := b) ha (i + 1) (j + 1)
    have e2 : ((i : Int) + 1) = ((i + 1 : Nat) : Int) := by omega
    have e3 : ((j : Int) + 1) = ((j + 1 : Nat) : Int) := by omega
    have c1 : ((T.getD (i + 1) []).getD j 0) = (Lcs.L a b (i + 1) j : Int) := r1.2 j (by omega)
    have c2 : ((T.getD i []).getD (j + 1) 0) = (Lcs.L a b i (j + 1) : Int) := t4 (j + 1) (by omega) (by omega)
    have c3 : ((T.getD (i + 1) []).getD (j + 1) 0) = (Lcs.L a b (i + 1) (j + 1) : Int) := r1.2 (j + 1) (by omega)
    have hL := Lcs.L_eq a b i j hi (by omega)
    obtain ⟨R, hR, h0⟩ := ih (Lcs.put T i j (Lcs.L a b i j : Int)) (by omega) (Lcs.part_put hT (by omega) (by omega) rfl)
    refine ⟨R, Ev.step (f := fun k => impl_commonTable.l1 k a b (Lcs.put T i j (Lcs.L a b i j : Int)) (i : Int) ((j : Int) - 1)) (fun k => ?_) hR, h0⟩
    have hp : ∀ v, T.set i ((T.getD i []).set j v) = Lcs.put T i j v := fun v => rfl
    rw [impl_commonTable.l1]
    rw [if_pos (by omega), if_pos (by omega), if_pos (by omega), if_pos (by omega), if_pos (by omega), w64 (x := (i : Int) + 1) (by omega) (by omega), w64 (x := (j : Int) + 1) (by omega) (by omega), w64 (x := (j : Int) - 1) (by omega) (by omega), e2, e3]
    simp only [rdL, rd_nat, c1, c2, c3, mx_eq, Int.toNat_natCast, hp]
    by_cases he : a.getD i 0 = b.getD j 0
    · rw [if_pos he] at hL
      rw [if_pos he, if_pos (by omega), if_pos (by omega), if_pos (by omega), if_pos (by omega), if_pos (by rw [r1.1]; omega), if_pos (by rw [t3]; omega), w64 (by omega) (by omega), hL]
      rfl
    · rw [if_neg he] at hL
      rw [if_neg he, if_pos (by omega), if_pos (by omega), if_pos (by omega), if_pos (by rw [r1.1]; omega), if_pos (by omega), if_pos (by rw [t3]; omega), if_pos (by rw [t3]; omega), hL]

theorem implTable_l0 (a b : List Int) (ha : a.length ≤ 301) (hb : b.length ≤ 301) (i : Nat) :
    ∀ T, i ≤ a.length → Lcs.Rows a b i T → ∃ R, Ev (fun k => impl_commonTable.l0 k a b T ((i : Int) - 1)) R ∧ Lcs.Rows a b 0 R := by
  induction i with
  | zero =>
    intro T _ hT
    refine ⟨T, Ev.step (f := fun _ => some T) (fun k => ?_) (Ev.now T), hT⟩
    rw [impl_commonTable.l0]
    rw [if_neg (by omega)]
  | succ i ih =>
    intro T hi hT
    have e1 : ((i + 1 : Nat) : Int) - 1 = (i : Int) := by omega
    have e2 : ((b.length : Int) + 1) = ((b.length + 1 : Nat) : Int) := by omega
    rw [e1]
    obtain ⟨R, hR, h0⟩ := implTable_l1 a b ha hb i (by omega) (fun T' hT' => ih T' (by omega) hT') b.length _ (Nat.le_refl _) (Lcs.part_skip (Lcs.rows_part hT (by omega)) (Lcs.L_end' a b i _ (Nat.le_refl _)))
    refine ⟨R, Ev.step (f := fun k => impl_commonTable.l1 k a b (T.set i (List.replicate (b.length + 1) 0)) (i : Int) ((b.length : Int) - 1)) (fun k => ?_) hR, h0⟩
    rw [impl_commonTable.l0]
    rw [if_pos (by omega), w64 (x := (b.length : Int) + 1) (by omega) (by omega), if_pos (by omega), e2, Int.toNat_natCast, if_pos (by omega), if_pos (by omega), if_pos (by have := hT.1; omega), Int.toNat_natCast, w64 (by omega) (by omega)]

theorem implTable_ev (a b : List Int) (ha : a.length ≤ 301) (hb : b.length ≤ 301) : ∃ R, Ev (fun k => impl_commonTable.f k a b) R ∧ Lcs.Rows a b 0 R := by
  have h1 := Lcs.rows_part (Lcs.rows_none a b) (Nat.le_refl _)
  obtain ⟨R, hR, h0⟩ := implTable_l0 a b ha hb a.length _ (Nat.le_refl _) (Lcs.part_rows (Lcs.part_zero (fun c => Lcs.L_end a b _ c (Nat.le_refl _)) _ h1))
  have e2 : ((a.length : Int) + 1) = ((a.length + 1 : Nat) : Int) := by omega
  have e3 : ((b.length : Int) + 1) = ((b.length + 1 : Nat) : Int) := by omega
  refine ⟨R, Ev.congr (f := fun k => impl_commonTable.l0 k a b ((List.replicate (a.length + 1) []).set a.length (List.replicate (b.length + 1) 0)) ((a.length : Int) - 1)) (fun k => ?_) hR, h0⟩
  unfold impl_commonTable.f
  rw [w64 (x := (a.length : Int) + 1) (by omega) (by omega), w64 (x := (b.length : Int) + 1) (by omega) (by omega), if_pos (by omega), e2, e3, Int.toNat_natCast, Int.toNat_natCast, Int.toNat_natCast, if_pos (by omega), Option.bind_some, if_pos (by omega), if_pos (by omega), if_pos (by omega), if_pos (by rw [List.length_replicate]; omega), w64 (by omega) (by omega)]

-- CommonLen, both
theorem rows_00 {a b : List Int} {R : List (List Int)} (h : Lcs.Rows a b 0 R) : 0 < (R.length : Int) ∧ 0 < ((rd_L2 R 0).length : Int) ∧ rd (rd_L2 R 0) 0 = (Lcs.lcs a b : Int) := by
  have h0 := h.2 0 (by omega) (by omega)
  have e0 : rd_L2 R 0 = R.getD 0 [] := rdL R 0
  have e1 : rd (R.getD 0 []) 0 = (R.getD 0 []).getD 0 0 := rd_nat _ 0
  rw [e0, e1]
  exact ⟨by have := h.1; omega, by have := h0.1; omega, h0.2 0 (by omega)⟩
def lenOf (a b : List Int) : Int := if a.length ≤ 301 ∧ b.length ≤ 301 then (Lcs.lcs a b : Int) else -1
theorem specCommonLen_ev (a b : List Int) : Ev (fun k => spec_CommonLen.f k a b) (lenOf a b) := by
  by_cases ha : a.length ≤ 301
  · by_cases hb : b.length ≤ 301
    · obtain ⟨R, hR, h0⟩ := specTable_ev a b ha hb
      obtain ⟨K, hR⟩ := ev_out hR
      obtain ⟨g1, g2, g3⟩ := rows_00 h0
      refine ev_mk K fun k hk => ?_
      unfold spec_CommonLen.f spec_l12Right.f lenOf
      rw [Option.bind_some, if_pos (decide_eq_true (by omega)), Option.bind_some, if_pos (decide_eq_true (by omega)), hR k hk, Option.bind_some, if_pos g1, if_pos g2, g3, if_pos ⟨ha, hb⟩]
    · refine ev_mk 0 fun k _ => ?_
      unfold spec_CommonLen.f spec_l12Right.f lenOf
      rw [Option.bind_some, if_pos (decide_eq_true (by omega)), Option.bind_some, if_neg (fun h => hb (by have := of_decide_eq_true h; omega)), if_neg (fun h => hb h.2)]
  · refine ev_mk 0 fun k _ => ?_
    unfold spec_CommonLen.f spec_l12Right.f lenOf
    rw [Option.bind_some, if_neg (fun h => ha (by have := of_decide_eq_true h; omega)), if_neg (fun h => ha h.1)]
theorem areListed_eq (a b : List Int) : impl_areListed.f a b = some (decide (a.length ≤ 301 ∧ b.length ≤ 301)) := by
  unfold impl_areListed.f
  by_cases ha : a.length ≤ 301
  · rw [if_pos (by omega)]
    congr 1
    by_cases hb : b.length ≤ 301
    · rw [decide_eq_true (by omega), decide_eq_true ⟨ha, hb⟩]
    · rw [decide_eq_false (by omega), decide_eq_false (fun h => hb h.2)]
  · rw [if_neg (by omega), decide_eq_false (fun h => ha h.1)]

-- CommonOf, both
def toS (p : Nat × Nat) : S56 := ⟨(p.1 : Int), (p.2 : Int)⟩
theorem index_l0 (b : List Int) (v : Int) (j : Nat) (hj : j ≤ b.length) (hb : b.length ≤ 301) (c : Nat) : ∀ i : Nat, j + i + c = b.length →
    Ev (fun k => slices_Index_int_int.l0 k (b.drop j) v ((b.drop j).length : Int) (i : Int)) (match Lcs.nextAt b v c (j + i) with | none => -1 | some j0 => (j0 : Int) - (j : Int)) := by
  have hlen : (b.drop j).length = b.length - j := List.length_drop
  induction c with
  | zero =>
    intro i h
    refine Ev.step (f := fun _ => some (-1)) (fun k => ?_) (Ev.now _)
    rw [slices_Index_int_int.l0, if_neg (by omega)]
  | succ c ih =>
    intro i h
    have hr : rd (b.drop j) (i : Int) = b.getD (j + i) 0 := by
      rw [rd_nat, List.getD_eq_getElem?_getD, List.getElem?_drop, ← List.getD_eq_getElem?_getD]
    unfold Lcs.nextAt
    by_cases e : v = b.getD (j + i) 0
    · rw [if_pos e]
      refine Ev.step (f := fun _ => some ((i : Nat) : Int)) (fun k => ?_) ?_
      · rw [slices_Index_int_int.l0, if_pos (by omega), if_pos (by omega), if_pos (by omega), hr, if_pos e]
      · have q : ((j + i : Nat) : Int) - (j : Int) = (i : Int) := by omega
        show Ev _ (((j + i : Nat) : Int) - (j : Int))
        rw [q]
        exact Ev.now _
    · rw [if_neg e]
      refine Ev.step (f := fun k => slices_Index_int_int.l0 k (b.drop j) v ((b.drop j).length : Int) ((i + 1 : Nat) : Int)) (fun k => ?_) (ih (i + 1) (by omega))
      rw [slices_Index_int_int.l0, if_pos (by omega), if_pos (by omega), if_pos (by omega), hr, if_neg e, w64 (by omega) (by omega)]
      rfl
theorem index_ev (b : List Int) (v : Int) (j : Nat) (hj : j ≤ b.length) (hb : b.length ≤ 301) :
    Ev (fun k => slices_Index_int_int.f k (b.drop j) v) (match Lcs.nextAt b v (b.length - j) j with | none => -1 | some j0 => (j0 : Int) - (j : Int)) :=
  Ev.congr (f := fun k => slices_Index_int_int.l0 k (b.drop j) v ((b.drop j).length : Int) ((0 : Nat) : Int)) (fun _ => rfl) (index_l0 b v j hj hb (b.length - j) 0 (by omega))

/-- What the table holds at a place. -/
theorem at_table {a b : List Int} {T : List (List Int)} (hT : Lcs.Rows a b 0 T) (i j : Nat) (hi : i ≤ a.length) (hj : j ≤ b.length) :
    ((i : Int) < (T.length : Int)) ∧ ((j : Int) < ((rd_L2 T (i : Int)).length : Int)) ∧ rd (rd_L2 T (i : Int)) (j : Int) = (Lcs.L a b i j : Int) := by
  have h := hT.2 i (by omega) hi
  rw [rdL, rd_nat]
  exact ⟨by have := hT.1; omega, by have := h.1; omega, h.2 j hj⟩

theorem implCommonOf_l0 (a b : List Int) (ha : a.length ≤ 301) (hb : b.length ≤ 301) (T : List (List Int)) (hT : Lcs.Rows a b 0 T) (d : Nat) : ∀ (i j : Nat) (acc : List S56), i + d = a.length → j ≤ b.length → acc.length ≤ i →
    Ev (fun k => impl_commonOf.l0 k a b T acc (i : Int) (j : Int)) (acc ++ (Lcs.firstC a b d i j).map toS) := by
  induction d with
  | zero =>
    intro i j acc h hj hacc
    obtain ⟨t1, t2, t3⟩ := at_table hT i j (by omega) hj
    refine Ev.step (f := fun _ => some (acc ++ [])) (fun k => ?_) (Ev.now _)
    rw [impl_commonOf.l0, if_pos (by omega), if_pos t1, if_pos (by omega), if_pos t2, t3, Lcs.L_end a b i j (by omega), if_neg (by decide), List.append_nil]
  | succ d ih =>
    intro i j acc h hj hacc
    obtain ⟨t1, t2, t3⟩ := at_table hT i j (by omega) hj
    by_cases h0 : Lcs.L a b i j = 0
    · refine Ev.step (f := fun _ => some (acc ++ (Lcs.firstC a b (d + 1) i j).map toS)) (fun k => ?_) (Ev.now _)
      rw [impl_commonOf.l0, if_pos (by omega), if_pos t1, if_pos (by omega), if_pos t2, t3, h0, if_neg (by decide), Lcs.firstC_none h0, List.map_nil, List.append_nil]
    · have hx := index_ev b (a.getD i 0) j hj hb
      cases hn : Lcs.nextAt b (a.getD i 0) (b.length - j) j with
      | none =>
        rw [hn] at hx
        rw [Lcs.firstC_miss h0 hn]
        obtain ⟨K, hK⟩ := ev_out hx
        obtain ⟨K2, hK2⟩ := ev_out (ih (i + 1) j acc (by omega) hj (by omega))
        refine ev_mk (K + K2 + 1) fun k hk => ?_
        obtain ⟨k, rfl⟩ : ∃ m, k = m + 1 := ⟨k - 1, by omega⟩
        rw [impl_commonOf.l0, if_pos (by omega), if_pos t1, if_pos (by omega), if_pos t2, t3, if_pos (by omega), if_pos (by omega), if_pos (by omega), Int.toNat_natCast, rd_nat, hK k (by omega), Option.bind_some, if_neg (by show ¬ (-1 : Int) ≥ 0; decide), w64 (x := (i : Int) + 1) (by omega) (by omega)]
        exact hK2 k (by omega)
      | some j0 =>
        rw [hn] at hx
        obtain ⟨q1, q2, q3, _⟩ := Lcs.nextAt_some b _ _ _ _ hn
        obtain ⟨K, hK⟩ := ev_out hx
        obtain ⟨s1, s2, s3⟩ := at_table hT (i + 1) (j0 + 1) (by omega) (by omega)
        have lL := L_le301 (b := b) ha (i + 1) (j0 + 1)
        have e1 : (match some j0 with | none => (-1 : Int) | some j0 => (j0 : Int) - (j : Int)) = (j0 : Int) - (j : Int) := rfl
        have e2 : (j : Int) + ((j0 : Int) - (j : Int)) = (j0 : Int) := by omega
        have e3 : (i : Int) + 1 = ((i + 1 : Nat) : Int) := by omega
        have e4 : (j0 : Int) + 1 = ((j0 + 1 : Nat) : Int) := by omega
        have e5 : (j : Int) + ((j0 : Int) - (j : Int) + 1) = ((j0 + 1 : Nat) : Int) := by omega
        by_cases e : 1 + Lcs.L a b (i + 1) (j0 + 1) = Lcs.L a b i j
        · obtain ⟨K2, hK2⟩ := ev_out (ih (i + 1) (j0 + 1) (acc ++ [toS (i, j0)]) (by omega) (by omega) (by simp; omega))
          refine ev_mk (K + K2 + 1) fun k hk => ?_
          obtain ⟨k, rfl⟩ : ∃ m, k = m + 1 := ⟨k - 1, by omega⟩
          rw [impl_commonOf.l0, if_pos (by omega), if_pos t1, if_pos (by omega), if_pos t2, t3, if_pos (by omega), if_pos (by omega), if_pos (by omega), Int.toNat_natCast, rd_nat, hK k (by omega), Option.bind_some, e1, if_pos (by omega), w64 (x := (j : Int) + ((j0 : Int) - (j : Int))) (by omega) (by omega), e2, w64 (x := (i : Int) + 1) (by omega) (by omega), w64 (x := (j0 : Int) + 1) (by omega) (by omega), w64 (x := (j0 : Int) - (j : Int) + 1) (by omega) (by omega), w64 (x := (j : Int) + ((j0 : Int) - (j : Int) + 1)) (by omega) (by omega), e5, e3, e4, if_pos (by omega), if_pos s1, if_pos (by omega), if_pos s2, s3, w64 (by omega) (by omega), if_pos (by omega), if_pos (by omega)]
          have hr := hK2 k (by omega)
          rw [Lcs.firstC_hit h0 hn e, List.map_cons]
          rw [List.append_assoc] at hr
          exact hr
        · obtain ⟨K2, hK2⟩ := ev_out (ih (i + 1) j acc (by omega) hj (by omega))
          refine ev_mk (K + K2 + 1) fun k hk => ?_
          obtain ⟨k, rfl⟩ : ∃ m, k = m + 1 := ⟨k - 1, by omega⟩
          rw [impl_commonOf.l0, if_pos (by omega), if_pos t1, if_pos (by omega), if_pos t2, t3, if_pos (by omega), if_pos (by omega), if_pos (by omega), Int.toNat_natCast, rd_nat, hK k (by omega), Option.bind_some, e1, if_pos (by omega), w64 (x := (j : Int) + ((j0 : Int) - (j : Int))) (by omega) (by omega), e2, w64 (x := (i : Int) + 1) (by omega) (by omega), w64 (x := (j0 : Int) + 1) (by omega) (by omega), e3, e4, if_pos (by omega), if_pos s1, if_pos (by omega), if_pos s2, s3, w64 (by omega) (by omega), if_neg (by omega)]
          rw [Lcs.firstC_pass h0 hn e]
          exact hK2 k (by omega)
theorem implcommonOf_ev (a b : List Int) (ha : a.length ≤ 301) (hb : b.length ≤ 301) : Ev (fun k => impl_commonOf.f k a b) ((Lcs.firstC a b a.length 0 0).map toS) := by
  obtain ⟨T, hT, hR⟩ := implTable_ev a b ha hb
  obtain ⟨K, hK⟩ := ev_out hT
  obtain ⟨K2, hK2⟩ := ev_out (implCommonOf_l0 a b ha hb T hR a.length 0 0 [] (by omega) (by omega) (by simp))
  refine ev_mk (K + K2) fun k hk => ?_
  unfold impl_commonOf.f
  rw [hK k (by omega), Option.bind_some]
  exact hK2 k (by omega)

/-- The reference's search for the smallest place. -/
def pick (a b : List Int) (x t : Nat) (j : Nat) : Nat → Int → Int
  | 0, y => y
  | c + 1, y => pick a b x t j c (if a.getD x 0 = b.getD (j + c) 0 ∧ 1 + Lcs.L a b (x + 1) (j + c + 1) = t then ((j + c : Nat) : Int) else y)
theorem pick_none (a b : List Int) (x t j : Nat) (c : Nat) : ∀ y, (∀ k, j ≤ k → k < j + c → ¬ (a.getD x 0 = b.getD k 0 ∧ 1 + Lcs.L a b (x + 1) (k + 1) = t)) → pick a b x t j c y = y := by
  induction c with
  | zero => intro y _; rfl
  | succ c ih =>
    intro y h
    unfold pick
    rw [if_neg (h (j + c) (by omega) (by omega)), ih y (fun k h1 h2 => h k h1 (by omega))]
theorem pick_some (a b : List Int) (x t j j0 : Nat) (h0 : j ≤ j0) (hp : a.getD x 0 = b.getD j0 0 ∧ 1 + Lcs.L a b (x + 1) (j0 + 1) = t) (hq : ∀ k, j ≤ k → k < j0 → ¬ (a.getD x 0 = b.getD k 0 ∧ 1 + Lcs.L a b (x + 1) (k + 1) = t)) (c : Nat) : ∀ y, j0 < j + c → pick a b x t j c y = (j0 : Int) := by
  induction c with
  | zero => intro y h; omega
  | succ c ih =>
    intro y h
    unfold pick
    by_cases e : j0 = j + c
    · rw [← e, if_pos hp]
      exact pick_none a b x t j c _ (fun k h1 h2 => hq k h1 (by omega))
    · exact ih _ (by omega)

theorem specCommonOf_l2 (a b : List Int) (ha : a.length ≤ 301) (hb : b.length ≤ 301) (T : List (List Int)) (hT : Lcs.Rows a b 0 T) (acc : List S56) (i j x : Nat) (hi : i ≤ a.length) (hj : j ≤ b.length) (hx : x < a.length) (R : List S56) (c : Nat) :
    ∀ y : Int, j + c ≤ b.length → Ev (fun k => spec_CommonOf.l1 k a b T acc (i : Int) (j : Int) ((x + 1 : Nat) : Int) (pick a b x (Lcs.L a b i j) j c y)) R →
      Ev (fun k => spec_CommonOf.l2 k a b T acc (i : Int) (j : Int) (x : Int) y (((j + c : Nat) : Int) - 1)) R := by
  induction c with
  | zero =>
    intro y hc h
    refine Ev.step (fun k => ?_) h
    rw [spec_CommonOf.l2, if_neg (by omega), w64 (by omega) (by omega)]
    rfl
  | succ c ih =>
    intro y hc h
    obtain ⟨t1, t2, t3⟩ := at_table hT i j hi hj
    obtain ⟨s1, s2, s3⟩ := at_table hT (x + 1) (j + c + 1) (by omega) (by omega)
    have lL := L_le301 (b := b) ha (x + 1) (j + c + 1)
    have e0 : ((j + (c + 1) : Nat) : Int) - 1 = ((j + c : Nat) : Int) := by omega
    have e3 : (x : Int) + 1 = ((x + 1 : Nat) : Int) := by omega
    have e4 : ((j + c : Nat) : Int) + 1 = ((j + c + 1 : Nat) : Int) := by omega
    rw [e0]
    by_cases e : a.getD x 0 = b.getD (j + c) 0
    · by_cases e2 : 1 + Lcs.L a b (x + 1) (j + c + 1) = Lcs.L a b i j
      · unfold pick at h
        rw [if_pos ⟨e, e2⟩] at h
        refine Ev.step (fun k => ?_) (ih _ (by omega) h)
        rw [spec_CommonOf.l2, if_pos (by omega), if_pos (by omega), if_pos (by omega), if_pos (by omega), if_pos (by omega), rd_nat, rd_nat, if_pos e, w64 (x := (x : Int) + 1) (by omega) (by omega), w64 (x := ((j + c : Nat) : Int) + 1) (by omega) (by omega), e3, e4, if_pos (by omega), if_pos s1, if_pos (by omega), if_pos s2, if_pos (by omega), if_pos t1, if_pos (by omega), if_pos t2, s3, t3, w64 (x := 1 + (Lcs.L a b (x + 1) (j + c + 1) : Int)) (by omega) (by omega), if_pos (by omega), w64 (by omega) (by omega)]
      · unfold pick at h
        rw [if_neg (fun q => e2 q.2)] at h
        refine Ev.step (fun k => ?_) (ih _ (by omega) h)
        rw [spec_CommonOf.l2, if_pos (by omega), if_pos (by omega), if_pos (by omega), if_pos (by omega), if_pos (by omega), rd_nat, rd_nat, if_pos e, w64 (x := (x : Int) + 1) (by omega) (by omega), w64 (x := ((j + c : Nat) : Int) + 1) (by omega) (by omega), e3, e4, if_pos (by omega), if_pos s1, if_pos (by omega), if_pos s2, if_pos (by omega), if_pos t1, if_pos (by omega), if_pos t2, s3, t3, w64 (x := 1 + (Lcs.L a b (x + 1) (j + c + 1) : Int)) (by omega) (by omega), if_neg (by omega), w64 (by omega) (by omega)]
    · unfold pick at h
      rw [if_neg (fun q => e q.1)] at h
      refine Ev.step (fun k => ?_) (ih _ (by omega) h)
      rw [spec_CommonOf.l2, if_pos (by omega), if_pos (by omega), if_pos (by omega), if_pos (by omega), if_pos (by omega), rd_nat, rd_nat, if_neg e, w64 (by omega) (by omega)]

/-- From element x on, where what is left is as much as at i: what is shown of d elements. -/
def Goes (a b : List Int) (T : List (List Int)) (d : Nat) : Prop := ∀ (i j x : Nat) (acc : List S56), x + d = a.length → i ≤ x → j ≤ b.length → acc.length ≤ i → Lcs.L a b x j = Lcs.L a b i j → Lcs.L a b i j ≠ 0 →
    Ev (fun k => spec_CommonOf.l1 k a b T acc (i : Int) (j : Int) (x : Int) (-1)) (acc ++ (Lcs.firstC a b d x j).map toS)
theorem specCommonOf_go (a b : List Int) (ha : a.length ≤ 301) (hb : b.length ≤ 301) (T : List (List Int)) (hT : Lcs.Rows a b 0 T) (d : Nat) (hq : Goes a b T d) (i j : Nat) (acc : List S56) (h : i + d = a.length) (hj : j ≤ b.length) (hacc : acc.length ≤ i) :
    Ev (fun k => spec_CommonOf.l0 k a b T acc (i : Int) (j : Int)) (acc ++ (Lcs.firstC a b d i j).map toS) := by
  obtain ⟨t1, t2, t3⟩ := at_table hT i j (by omega) hj
  by_cases h0 : Lcs.L a b i j = 0
  · refine Ev.step (f := fun _ => some (acc ++ (Lcs.firstC a b d i j).map toS)) (fun k => ?_) (Ev.now _)
    rw [spec_CommonOf.l0, if_pos (by omega), if_pos t1, if_pos (by omega), if_pos t2, t3, h0, if_neg (by decide), Lcs.firstC_none h0, List.map_nil, List.append_nil]
  · refine Ev.step (fun k => ?_) (hq i j i acc h (Nat.le_refl _) hj hacc rfl h0)
    rw [spec_CommonOf.l0, if_pos (by omega), if_pos t1, if_pos (by omega), if_pos t2, t3, if_pos (by omega)]
/-- From element x on, where what is left is as much as at i. -/
theorem specCommonOf_l1 (a b : List Int) (ha : a.length ≤ 301) (hb : b.length ≤ 301) (T : List (List Int)) (hT : Lcs.Rows a b 0 T) (d : Nat) : Goes a b T d := by
  induction d with
  | zero => intro i j x acc h hi hj hacc he h0; rw [Lcs.L_end a b x j (by omega)] at he; exact absurd he.symm h0
  | succ d ih =>
    intro i j x acc h hi hj hacc he h0
    have h0' : Lcs.L a b x j ≠ 0 := by rw [he]; exact h0
    have hf := Lcs.L_first a b x (by omega) (b.length - j) j (by omega)
    refine Ev.step (f := fun k => spec_CommonOf.l2 k a b T acc (i : Int) (j : Int) (x : Int) (-1) (((j + (b.length - j) : Nat) : Int) - 1)) (fun k => ?_) (specCommonOf_l2 a b ha hb T hT acc i j x (by omega) hj (by omega) _ (b.length - j) (-1) (by omega) ?_)
    · rw [spec_CommonOf.l1, if_pos (by decide), w64 (by omega) (by omega)]
      congr 1
      omega
    · have over : ∀ j0, j ≤ j0 → a.getD x 0 = b.getD j0 0 → j0 < b.length → ∀ k, j0 ≤ k → 1 + Lcs.L a b (x + 1) (k + 1) ≤ 1 + Lcs.L a b (x + 1) (j0 + 1) := fun j0 _ _ _ k hk => by have := Lcs.L_mono' a b (x + 1) (j0 + 1) (k + 1) (by omega); omega
      cases hn : Lcs.nextAt b (a.getD x 0) (b.length - j) j with
      | none =>
        rw [hn] at hf
        have hno := Lcs.nextAt_none b _ _ _ hn
        rw [pick_none a b x _ j _ _ (fun k h1 h2 q => hno k h1 h2 q.1), Lcs.firstC_miss h0' hn]
        have hf' : Lcs.L a b x j = Lcs.L a b (x + 1) j := hf
        exact ih i j (x + 1) acc (by omega) (by omega) hj hacc (by omega) h0
      | some j0 =>
        rw [hn] at hf
        obtain ⟨q1, q2, q3, q4⟩ := Lcs.nextAt_some b _ _ _ _ hn
        have hf' : Lcs.L a b x j = max (Lcs.L a b (x + 1) j) (1 + Lcs.L a b (x + 1) (j0 + 1)) := hf
        by_cases e : 1 + Lcs.L a b (x + 1) (j0 + 1) = Lcs.L a b x j
        · rw [pick_some a b x _ j j0 q1 ⟨q3, by omega⟩ (fun k h1 h2 q => q4 k h1 h2 q.1) _ _ (by omega), Lcs.firstC_hit h0' hn e, List.map_cons]
          obtain ⟨K, hK⟩ := ev_out (specCommonOf_go a b ha hb T hT d ih (x + 1) (j0 + 1) (acc ++ [toS (x, j0)]) (by omega) (by omega) (by simp; omega))
          refine ev_mk (K + 1) fun k hk => ?_
          obtain ⟨k, rfl⟩ : ∃ m, k = m + 1 := ⟨k - 1, by omega⟩
          have hr := hK k (by omega)
          rw [spec_CommonOf.l1, if_neg (by omega), if_pos (by omega), w64 (by omega) (by omega), w64 (by omega) (by omega)]
          rw [List.append_assoc] at hr
          have e6 : ((x + 1 : Nat) : Int) - 1 = (x : Int) := by omega
          rw [e6]
          exact hr
        · rw [pick_none a b x _ j _ _ (fun k h1 h2 q => ?_), Lcs.firstC_pass h0' hn e]
          · exact ih i j (x + 1) acc (by omega) (by omega) hj hacc (by omega) h0
          · by_cases hk : j0 ≤ k
            · have := over j0 q1 q3 (by omega) k hk
              have := q.2
              omega
            · exact q4 k h1 (by omega) q.1

def pairsOf (a b : List Int) : List S56 := if a.length ≤ 301 ∧ b.length ≤ 301 then (Lcs.firstC a b a.length 0 0).map toS else []
theorem pairsOf_len (a b : List Int) : (pairsOf a b).length ≤ 301 := by
  unfold pairsOf
  by_cases h : a.length ≤ 301 ∧ b.length ≤ 301
  · rw [if_pos h, List.length_map, Lcs.firstC_length a b a.length 0 0 (by omega) (by omega)]
    exact L_le301 h.1 0 0
  · rw [if_neg h]
    simp
theorem specCommonOf_ev (a b : List Int) : Ev (fun k => spec_CommonOf.f k a b) (pairsOf a b) := by
  have no : ∀ (h : ¬ (a.length ≤ 301 ∧ b.length ≤ 301)), Ev (fun k => spec_CommonOf.j0 k a b true) (pairsOf a b) := fun h => by
    refine Ev.step (f := fun _ => some (pairsOf a b)) (fun k => ?_) (Ev.now _)
    unfold pairsOf
    rw [spec_CommonOf.j0, if_pos rfl, if_neg h]
  by_cases ha : a.length ≤ 301
  · by_cases hb : b.length ≤ 301
    · obtain ⟨T, hT, hR⟩ := specTable_ev a b ha hb
      obtain ⟨K, hK⟩ := ev_out hT
      obtain ⟨K2, hK2⟩ := ev_out (specCommonOf_go a b ha hb T hR a.length (specCommonOf_l1 a b ha hb T hR a.length) 0 0 [] (by omega) (by omega) (by simp))
      refine ev_mk (K + K2 + 1) fun k hk => ?_
      obtain ⟨k, rfl⟩ : ∃ m, k = m + 1 := ⟨k - 1, by omega⟩
      unfold spec_CommonOf.f spec_l12Right.f pairsOf
      rw [Option.bind_some, if_pos (decide_eq_true (by omega)), Option.bind_some, decide_eq_true (by omega), Bool.not_true, spec_CommonOf.j0, if_neg (by decide), hK k (by omega), Option.bind_some, if_pos ⟨ha, hb⟩]
      exact hK2 k (by omega)
    · obtain ⟨K, hK⟩ := ev_out (no (fun h => hb h.2))
      refine ev_mk K fun k hk => ?_
      unfold spec_CommonOf.f spec_l12Right.f
      rw [Option.bind_some, if_pos (decide_eq_true (by omega)), Option.bind_some, decide_eq_false (by omega), Bool.not_false]
      exact hK k hk
  · obtain ⟨K, hK⟩ := ev_out (no (fun h => ha h.1))
    refine ev_mk K fun k hk => ?_
    unfold spec_CommonOf.f spec_l12Right.f
    rw [Option.bind_some, if_neg (fun h => ha (by have := of_decide_eq_true h; omega))]
    exact hK k hk

-- lists of pairs: eqPairS, markPairS, heldPairS, markIntS
theorem rdT56 (l : List S56) (i : Nat) : rd_T56 l (i : Int) = l.getD i z56 := by unfold rd_T56; rw [Int.toNat_natCast]
theorem eqPairS_l0 (l : List S56) (hl : l.length ≤ 4000000) (d : Nat) : ∀ i : Nat, i + d = l.length → Ev (fun k => laws_eqPairS.l0 k l l (i : Int)) true := by
  induction d with
  | zero =>
    intro i h
    refine Ev.step (f := fun _ => some true) (fun k => ?_) (Ev.now true)
    rw [laws_eqPairS.l0, if_neg (by omega)]
  | succ d ih =>
    intro i h
    refine Ev.step (f := fun k => laws_eqPairS.l0 k l l ((i + 1 : Nat) : Int)) (fun k => ?_) (ih (i + 1) (by omega))
    rw [laws_eqPairS.l0, if_pos (by omega), if_pos (by omega), if_pos (by omega)]
    unfold laws_eqPair.f
    rw [if_pos rfl, if_pos rfl, Option.bind_some, if_pos rfl, w64 (by omega) (by omega)]
    rfl
theorem eqPairS_ev (l : List S56) (hl : l.length ≤ 4000000) : Ev (fun k => laws_eqPairS.f k l l) true := by
  refine Ev.congr (f := fun k => laws_eqPairS.l0 k l l ((0 : Nat) : Int)) (fun k => ?_) (eqPairS_l0 l hl l.length 0 (by omega))
  unfold laws_eqPairS.f
  rw [if_pos rfl]
  rfl
def marks56 (n : Nat) : List S56 := (List.range n).map fun (j : Nat) => ⟨1 + 2 * (j : Int), 2 + 2 * (j : Int)⟩
theorem marks56_len (n : Nat) : (marks56 n).length = n := by unfold marks56; simp
theorem marks56_get (n j : Nat) (h : j < n) : (marks56 n).getD j z56 = ⟨1 + 2 * (j : Int), 2 + 2 * (j : Int)⟩ := by
  rw [lget_lt _ j z56 (by rw [marks56_len]; exact h)]
  unfold marks56
  simp
theorem markPairS_l0 (l : List S56) (hl : l.length ≤ 4000000) (d : Nat) : ∀ i : Nat, i + d = l.length →
    Ev (fun k => laws_markPairS.l0 k ((marks56 l.length).take i ++ l.drop i) (1 + 2 * (i : Int)) (i : Int)) (1 + 2 * (l.length : Int), marks56 l.length) := by
  induction d with
  | zero =>
    intro i h
    have e : i = l.length := by omega
    refine Ev.step (f := fun _ => some (1 + 2 * (l.length : Int), marks56 l.length)) (fun k => ?_) (Ev.now _)
    rw [laws_markPairS.l0, if_neg (by rw [over_len _ _ _ (marks56_len _) (by omega)]; omega), e, List.drop_length, List.append_nil, List.take_of_length_le (by rw [marks56_len]; omega)]
  | succ d ih =>
    intro i h
    have hi : i < ((marks56 l.length).take i ++ l.drop i).length := by rw [over_len _ _ _ (marks56_len _) (by omega)]; omega
    refine Ev.step (f := fun k => laws_markPairS.l0 k ((marks56 l.length).take (i + 1) ++ l.drop (i + 1)) (1 + 2 * ((i + 1 : Nat) : Int)) ((i + 1 : Nat) : Int)) (fun k => ?_) (ih (i + 1) (by omega))
    rw [laws_markPairS.l0, if_pos (by omega), if_pos (by omega), Option.bind_some, w64 (x := 1 + 2 * (i : Int) + 1) (by omega) (by omega), w64 (x := 1 + 2 * (i : Int) + 1 + 1) (by omega) (by omega), w64 (x := (i : Int) + 1) (by omega) (by omega), Int.toNat_natCast, rdT56, rdT56, lset_self _ _ _ _ hi, List.set_set,
      over_set (marks56 l.length) l z56 _ i (marks56_len _) (by omega) (by rw [marks56_get _ _ (by omega)]; congr 1; omega)]
    congr 1
    all_goals omega
theorem markPairS_ev (l : List S56) (hl : l.length ≤ 4000000) : Ev (fun k => laws_markPairS.f k l 1) (1 + 2 * (l.length : Int), marks56 l.length) :=
  Ev.congr (f := fun k => laws_markPairS.l0 k ((marks56 l.length).take 0 ++ l.drop 0) (1 + 2 * ((0 : Nat) : Int)) ((0 : Nat) : Int)) (fun _ => rfl) (markPairS_l0 l hl l.length 0 (by omega))
theorem heldPairS_l0 (n : Nat) (hn : n ≤ 4000000) (d : Nat) : ∀ i : Nat, i + d = n → Ev (fun k => laws_heldPairS.l0 k (marks56 n) (1 + 2 * (i : Int)) (i : Int)) (1 + 2 * (n : Int)) := by
  have hl := marks56_len n
  induction d with
  | zero =>
    intro i h
    refine Ev.step (f := fun _ => some _) (fun k => ?_) (Ev.now _)
    rw [laws_heldPairS.l0, if_neg (by omega)]
    congr 2
    omega
  | succ d ih =>
    intro i h
    refine Ev.step (f := fun k => laws_heldPairS.l0 k (marks56 n) (1 + 2 * ((i + 1 : Nat) : Int)) ((i + 1 : Nat) : Int)) (fun k => ?_) (ih (i + 1) (by omega))
    rw [laws_heldPairS.l0, if_pos (by omega), if_pos (by omega), rdT56, marks56_get _ _ (by omega), if_pos rfl, w64 (x := 1 + 2 * (i : Int) + 1) (by omega) (by omega), if_pos (by show 2 + 2 * (i : Int) = 1 + 2 * (i : Int) + 1; omega), w64 (x := 1 + 2 * (i : Int) + 1 + 1) (by omega) (by omega), w64 (x := (i : Int) + 1) (by omega) (by omega)]
    congr 1
    all_goals omega
theorem heldPairS_ev (n : Nat) (hn : n ≤ 4000000) : Ev (fun k => laws_heldPairS.f k (marks56 n) 1) (1 + 2 * (n : Int)) :=
  Ev.congr (f := fun k => laws_heldPairS.l0 k (marks56 n) (1 + 2 * ((0 : Nat) : Int)) ((0 : Nat) : Int)) (fun _ => rfl) (heldPairS_l0 n hn n 0 (by omega))
theorem markIntS_l0 (d : Nat) : ∀ (i : Nat) (l : List Int) (c : Int), l.length ≤ 4000000 → 0 ≤ c → c ≤ 1000000000 + (i : Int) → i + d = l.length → ∃ l', Ev (fun k => laws_markIntS.l0 k l c (i : Int)) (c + (d : Int), l') := by
  induction d with
  | zero =>
    intro i l c hl h0 h1 h
    refine ⟨l, Ev.step (f := fun _ => some _) (fun k => ?_) (Ev.now _)⟩
    rw [laws_markIntS.l0, if_neg (by omega)]
    congr 2
    omega
  | succ d ih =>
    intro i l c hl h0 h1 h
    obtain ⟨l', h'⟩ := ih (i + 1) (l.set i c) (c + 1) (by rw [List.length_set]; omega) (by omega) (by omega) (by rw [List.length_set]; omega)
    refine ⟨l', Ev.step (f := fun k => laws_markIntS.l0 k (l.set i c) (c + 1) ((i + 1 : Nat) : Int)) (fun k => ?_) ?_⟩
    · rw [laws_markIntS.l0, if_pos (by omega), if_pos (by omega), w64 (by omega) (by omega), w64 (by omega) (by omega), Int.toNat_natCast]
      rfl
    · have e : c + ((d + 1 : Nat) : Int) = c + 1 + (d : Int) := by omega
      rw [e]
      exact h'
theorem markIntS_ev (l : List Int) (c : Int) (hl : l.length ≤ 4000000) (h0 : 0 ≤ c) (h1 : c ≤ 1000000000) : ∃ l', Ev (fun k => laws_markIntS.f k l c) (c + (l.length : Int), l') := by
  obtain ⟨l', h⟩ := markIntS_l0 l.length 0 l c hl h0 (by omega) (by omega)
  exact ⟨l', Ev.congr (f := fun k => laws_markIntS.l0 k l c ((0 : Nat) : Int)) (fun _ => rfl) h⟩

-- CommonWithin, both
def withinOf (a b : List Int) (budget : Int) : List S56 := if a.length ≤ 301 ∧ b.length ≤ 301 then (if (a.length : Int) + (b.length : Int) - 2 * (Lcs.lcs a b : Int) > budget then [] else pairsOf a b) else []
theorem pairsOf_lcs {a b : List Int} (h : a.length ≤ 301 ∧ b.length ≤ 301) : (pairsOf a b).length = Lcs.lcs a b := by
  unfold pairsOf
  rw [if_pos h, List.length_map, Lcs.firstC_length a b a.length 0 0 (by omega) (by omega), Lcs.L_zero]
theorem withinOf_len (a b : List Int) (budget : Int) : (withinOf a b budget).length ≤ 301 := by
  have := pairsOf_len a b
  unfold withinOf
  split
  · split
    · simp
    · exact this
  · simp
theorem specCommonWithin_ev (a b : List Int) (budget : Int) : Ev (fun k => spec_CommonWithin.f k a b budget) (withinOf a b budget) := by
  obtain ⟨K, hK⟩ := ev_out (specCommonLen_ev a b)
  obtain ⟨K2, hK2⟩ := ev_out (specCommonOf_ev a b)
  refine ev_mk (K + K2) fun k hk => ?_
  unfold spec_CommonWithin.f withinOf
  rw [hK k (by omega), Option.bind_some]
  unfold lenOf
  by_cases h : a.length ≤ 301 ∧ b.length ≤ 301
  · have hl := Lcs.lcs_le_left a b
    rw [if_pos h, if_pos h, if_neg (by omega), w64 (x := 2 * (Lcs.lcs a b : Int)) (by omega) (by omega), w64 (x := (a.length : Int) + (b.length : Int)) (by omega) (by omega), w64 (by omega) (by omega)]
    by_cases g : (a.length : Int) + (b.length : Int) - 2 * (Lcs.lcs a b : Int) > budget
    · rw [if_pos g, if_pos g]
    · rw [if_neg g, if_neg g, hK2 k (by omega), Option.bind_some]
  · rw [if_neg h, if_neg h, if_pos (by decide)]
theorem implCommonWithin_ev (a b : List Int) (budget : Int) : Ev (fun k => impl_CommonWithin.f k a b budget) (withinOf a b budget) := by
  by_cases h : a.length ≤ 301 ∧ b.length ≤ 301
  · obtain ⟨K, hK⟩ := ev_out (implcommonOf_ev a b h.1 h.2)
    have hp : pairsOf a b = (Lcs.firstC a b a.length 0 0).map toS := if_pos h
    have hl := pairsOf_lcs h
    have hL := Lcs.lcs_le_left a b
    refine ev_mk K fun k hk => ?_
    unfold impl_CommonWithin.f withinOf
    rw [areListed_eq, Option.bind_some, if_pos (decide_eq_true h), hK k hk, Option.bind_some, if_pos h, ← hp, hl, w64 (x := 2 * (Lcs.lcs a b : Int)) (by omega) (by omega), w64 (x := (a.length : Int) + (b.length : Int)) (by omega) (by omega), w64 (by omega) (by omega)]
    by_cases g : (a.length : Int) + (b.length : Int) - 2 * (Lcs.lcs a b : Int) > budget
    · rw [if_pos g, if_pos g]
    · rw [if_neg g, if_neg g]
  · refine ev_mk 0 fun k _ => ?_
    unfold impl_CommonWithin.f withinOf
    rw [areListed_eq, Option.bind_some, if_neg (by rw [decide_eq_false h]; decide), if_neg h]

theorem commonWithin_j0 (a b : List Int) (u : Int) (ha : a.length ≤ 1048576) (hb : b.length ≤ 1048576) : Ev (fun k => laws_FnExactCommonWithin.j0 k a b u (withinOf a b u) (withinOf a b u) false) true := by
  have hl := withinOf_len a b u
  obtain ⟨K0, h0⟩ := ev_out (markPairS_ev (withinOf a b u) (by omega))
  obtain ⟨K1, h1⟩ := ev_out (heldPairS_ev (withinOf a b u).length (by omega))
  obtain ⟨K2, h2⟩ := ev_out (toIntS_ev a (by omega))
  obtain ⟨K3, h3⟩ := ev_out (toIntS_ev b (by omega))
  obtain ⟨K4, h4⟩ := ev_out (implCommonWithin_ev a b u)
  obtain ⟨K5, h5⟩ := ev_out (eqPairS_ev (withinOf a b u) (by omega))
  refine ev_mk (K0 + K1 + K2 + K3 + K4 + K5 + 1) fun k hk => ?_
  obtain ⟨k, rfl⟩ : ∃ m, k = m + 1 := ⟨k - 1, by omega⟩
  rw [laws_FnExactCommonWithin.j0, if_neg (by decide), h0 k (by omega), Option.bind_some, h1 k (by omega), Option.bind_some, if_neg (by omega), if_pos rfl, h2 k (by omega), Option.bind_some, h3 k (by omega), Option.bind_some, h4 k (by omega), Option.bind_some, h5 k (by omega), Option.bind_some, if_pos rfl, Option.bind_some, if_neg (by omega), if_pos rfl]
theorem FnExactCommonWithin : laws_FnExactCommonWithin.Pure := by
  intro l0 l1 u _ _ _ _ _ _ _
  by_cases g0 : (l0.length : Int) > 1048576
  · exact ⟨0, by unfold laws_FnExactCommonWithin.f; rw [if_pos g0]⟩
  by_cases g1 : (l1.length : Int) > 1048576
  · exact ⟨0, by unfold laws_FnExactCommonWithin.f; rw [if_neg g0, if_pos g1]⟩
  have hl := withinOf_len l0 l1 u
  obtain ⟨K0, h0⟩ := ev_out (toIntS_ev l0 (by omega))
  obtain ⟨K1, h1⟩ := ev_out (toIntS_ev l1 (by omega))
  obtain ⟨K2, h2⟩ := ev_out (specCommonWithin_ev l0 l1 u)
  obtain ⟨K3, h3⟩ := ev_out (implCommonWithin_ev l0 l1 u)
  obtain ⟨K4, h4⟩ := ev_out (eqPairS_ev (withinOf l0 l1 u) (by omega))
  obtain ⟨K5, h5⟩ := ev_out (eqIntS_ev l0 (by omega))
  obtain ⟨K6, h6⟩ := ev_out (eqIntS_ev l1 (by omega))
  obtain ⟨m0, hm0⟩ := markIntS_ev l0 1 (by omega) (by omega) (by omega)
  obtain ⟨m1, hm1⟩ := markIntS_ev l1 (1 + (l0.length : Int)) (by omega) (by omega) (by omega)
  obtain ⟨K7, h7⟩ := ev_out hm0
  obtain ⟨K8, h8⟩ := ev_out hm1
  obtain ⟨K9, h9⟩ := ev_out (commonWithin_j0 l0 l1 u (by omega) (by omega))
  refine ⟨K0 + K1 + K2 + K3 + K4 + K5 + K6 + K7 + K8 + K9, ?_⟩
  unfold laws_FnExactCommonWithin.f
  rw [if_neg g0, if_neg g1, h0 _ (by omega), Option.bind_some, h1 _ (by omega), Option.bind_some, h2 _ (by omega), Option.bind_some, Option.bind_some, Option.bind_some, h3 _ (by omega), Option.bind_some, h4 _ (by omega), Option.bind_some, if_pos rfl, Option.bind_some, h5 _ (by omega), Option.bind_some, if_pos rfl, Option.bind_some, h6 _ (by omega), Option.bind_some, if_pos rfl, h7 _ (by omega), Option.bind_some, h8 _ (by omega), Option.bind_some, if_neg (by show ¬ (1 + (l0.length : Int) + (l1.length : Int) < 0); omega), Option.bind_some]
  exact h9 _ (by omega)

end Go.Proofs.Ytlnmkgeoiinjfaa.Pure
