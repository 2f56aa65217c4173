/- A drawn list is recovered from its patch, and the patch has as few elements of its own as can be. -/
import Derived.Test.YtdiemmcnekbfaaaQFnPatchBackx12
import Derived.Test.YtdiemmcnekbfaaaBase
import Derived.Test.YtdiemmcnekbfaaaLcs
import Derived.Test.YtdiemmcnekbfaaaBits
namespace Go.Proofs.Ytdiemmcnekbfaaa.Pure
open Go.RowKit Go.Proofs.Ytdiemmcnekbfaaa.QFnPatchBack Go.Proofs.YtdiemmcnekbfaaaW.PrintWords Go.Proofs.YtdiemmcnekbfaaaW.PrintLast Go.Proofs.YtdiemmcnekbfaaaW.PrintMore
open Go.Proofs.Ytdiemmcnekbfaaa Go.Proofs.Ytdiemmcnekbfaaa.Base Go.Proofs.Ytdiemmcnekbfaaa.Bits
set_option linter.unusedVariables false
set_option linter.unusedSimpArgs false

-- the two tables
theorem rdL (T : List (List Int)) (i : Nat) : rd_L3 T (i : Int) = T.getD i [] := by unfold rd_L3; rw [Int.toNat_natCast]
theorem mx_eq (x y : Nat) : mx (x : Int) (y : Int) = ((max x y : Nat) : Int) := by unfold mx; split <;> omega
theorem L_le301 {a b : List Int} (ha : a.length ≤ 301) (i j : Nat) : Lcs.L a b i j ≤ 301 := Nat.le_trans (Lcs.L_le a b i j) ha

theorem specTable_l1 (a b : List Int) (ha : a.length ≤ 301) (hb : b.length ≤ 301) (i : Nat) (hi : i ≤ a.length)
    (next : ∀ T, Lcs.Rows a b i T → ∃ R, Ev (fun k => spec_l12Table.l0 k a b T ((i : Int) - 1)) R ∧ Lcs.Rows a b 0 R) (j : Nat) :
    ∀ T, j ≤ b.length + 1 → Lcs.Part a b i j T → ∃ R, Ev (fun k => spec_l12Table.l1 k a b T (i : Int) ((j : Int) - 1)) R ∧ Lcs.Rows a b 0 R := by
  induction j with
  | zero =>
    intro T _ hT
    obtain ⟨R, hR, h0⟩ := next T (Lcs.part_rows hT)
    refine ⟨R, Ev.step (f := fun k => spec_l12Table.l0 k a b T ((i : Int) - 1)) (fun k => ?_) hR, h0⟩
    rw [spec_l12Table.l1]
    rw [if_neg (by omega), w64 (by omega) (by omega)]
  | succ j ih =>
    intro T hj hT
    have e1 : ((j + 1 : Nat) : Int) - 1 = (j : Int) := by omega
    rw [e1]
    by_cases hin : i < a.length ∧ j < b.length
    · obtain ⟨hi2, hj2⟩ := hin
      obtain ⟨t1, t2, t3, t4, t5⟩ := id hT
      have r1 := t2 (i + 1) (by omega) (by omega)
      have lL := L_le301 (b := b) ha (i + 1) (j + 1)
      have e2 : ((i : Int) + 1) = ((i + 1 : Nat) : Int) := by omega
      have e3 : ((j : Int) + 1) = ((j + 1 : Nat) : Int) := by omega
      have c1 : ((T.getD (i + 1) []).getD j 0) = (Lcs.L a b (i + 1) j : Int) := r1.2 j (by omega)
      have c2 : ((T.getD i []).getD (j + 1) 0) = (Lcs.L a b i (j + 1) : Int) := t4 (j + 1) (by omega) (by omega)
      have c3 : ((T.getD (i + 1) []).getD (j + 1) 0) = (Lcs.L a b (i + 1) (j + 1) : Int) := r1.2 (j + 1) (by omega)
      obtain ⟨R, hR, h0⟩ := ih (Lcs.put T i j (Lcs.L a b i j : Int)) (by omega) (Lcs.part_put hT (by omega) (by omega) rfl)
      refine ⟨R, Ev.step (f := fun k => spec_l12Table.j2 k a b T (i : Int) (j : Int) true) (fun k => ?_) (Ev.step (f := fun k => spec_l12Table.l1 k a b (Lcs.put T i j (Lcs.L a b i j : Int)) (i : Int) ((j : Int) - 1)) (fun k => ?_) hR), h0⟩
      · rw [spec_l12Table.l1]
        rw [if_pos (by omega), if_pos (by omega), decide_eq_true (by omega)]
      · have hL := Lcs.L_max a b i j hi2 hj2
        rw [spec_l12Table.j2]
        rw [if_pos rfl, if_pos (by omega), if_pos (by omega), w64 (x := (i : Int) + 1) (by omega) (by omega), w64 (x := (j : Int) + 1) (by omega) (by omega), w64 (x := (j : Int) - 1) (by omega) (by omega), e2, e3, rdL, rdL, if_pos (by omega), if_pos (by omega), if_pos (by omega), if_pos (by rw [r1.1]; omega), if_pos (by omega), if_pos (by rw [t3]; omega), if_pos (by rw [t3]; omega)]
        rw [Option.bind_some, if_pos (by omega), if_pos (by omega), rd_nat, rd_nat, rd_nat, rd_nat, c1, c2, mx_eq, Int.toNat_natCast, Int.toNat_natCast]
        have hp : ∀ v, T.set i ((T.getD i []).set j v) = Lcs.put T i j v := fun v => rfl
        rw [hp]
        by_cases he : a.getD i 0 = b.getD j 0
        · rw [if_pos he] at hL
          rw [if_pos he, rdL, rdL, Lcs.put_row _ _ _ _ (by omega), Lcs.put_other _ _ _ _ _ (by omega), if_pos (by rw [List.length_set, t3]; omega), if_pos (by rw [r1.1]; omega), rd_nat, rd_nat, c3, lset_self _ _ _ _ (by omega), w64 (by omega) (by omega)]
          have e4 : (1 : Int) + (Lcs.L a b (i + 1) (j + 1) : Int) = ((1 + Lcs.L a b (i + 1) (j + 1) : Nat) : Int) := by omega
          rw [e4, mx_eq, ← hL, ← Lcs.put_row T i j _ (by omega)]
          have hq : ∀ (U : List (List Int)) (v : Int), U.set i ((U.getD i []).set j v) = Lcs.put U i j v := fun _ _ => rfl
          rw [hq, Lcs.put_put _ _ _ _ _ (by omega)]
        · rw [if_neg he] at hL
          rw [if_neg he, hL, Nat.max_zero]
    · have hz : Lcs.L a b i j = 0 := by
        by_cases h1 : i < a.length
        · exact Lcs.L_end' a b i j (by omega)
        · exact Lcs.L_end a b i j (by omega)
      obtain ⟨R, hR, h0⟩ := ih T (by omega) (Lcs.part_skip hT hz)
      refine ⟨R, Ev.step (f := fun k => spec_l12Table.j2 k a b T (i : Int) (j : Int) false) (fun k => ?_) (Ev.step (f := fun k => spec_l12Table.l1 k a b T (i : Int) ((j : Int) - 1)) (fun k => ?_) hR), h0⟩
      · rw [spec_l12Table.l1]
        rw [if_pos (by omega)]
        by_cases h1 : i < a.length
        · rw [if_pos (by omega), decide_eq_false (by omega)]
        · rw [if_neg (by omega)]
      · rw [spec_l12Table.j2]
        rw [if_neg (by decide), w64 (by omega) (by omega)]

theorem specTable_l0 (a b : List Int) (ha : a.length ≤ 301) (hb : b.length ≤ 301) (i : Nat) :
    ∀ T, i ≤ a.length + 1 → Lcs.Rows a b i T → ∃ R, Ev (fun k => spec_l12Table.l0 k a b T ((i : Int) - 1)) R ∧ Lcs.Rows a b 0 R := by
  induction i with
  | zero =>
    intro T _ hT
    refine ⟨T, Ev.step (f := fun _ => some T) (fun k => ?_) (Ev.now T), hT⟩
    rw [spec_l12Table.l0]
    rw [if_neg (by omega)]
  | succ i ih =>
    intro T hi hT
    have e1 : ((i + 1 : Nat) : Int) - 1 = (i : Int) := by omega
    have e2 : ((b.length : Int) + 1) = ((b.length + 1 : Nat) : Int) := by omega
    have e3 : (b.length : Int) = ((b.length + 1 : Nat) : Int) - 1 := by omega
    rw [e1]
    obtain ⟨R, hR, h0⟩ := specTable_l1 a b ha hb i (by omega) (fun T' hT' => ih T' (by omega) hT') (b.length + 1) _ (Nat.le_refl _) (Lcs.rows_part hT (by omega))
    refine ⟨R, Ev.step (f := fun k => spec_l12Table.l1 k a b (T.set i (List.replicate (b.length + 1) 0)) (i : Int) (((b.length + 1 : Nat) : Int) - 1)) (fun k => ?_) hR, h0⟩
    rw [spec_l12Table.l0]
    rw [if_pos (by omega), w64 (by omega) (by omega), if_pos (by omega), e2, Int.toNat_natCast, if_pos (by omega), if_pos (by omega), if_pos (by have := hT.1; omega), Int.toNat_natCast, e3]

theorem specTable_ev (a b : List Int) (ha : a.length ≤ 301) (hb : b.length ≤ 301) : ∃ R, Ev (fun k => spec_l12Table.f k a b) R ∧ Lcs.Rows a b 0 R := by
  obtain ⟨R, hR, h0⟩ := specTable_l0 a b ha hb (a.length + 1) _ (Nat.le_refl _) (Lcs.rows_none a b)
  have e2 : ((a.length : Int) + 1) = ((a.length + 1 : Nat) : Int) := by omega
  have e3 : (a.length : Int) = ((a.length + 1 : Nat) : Int) - 1 := by omega
  refine ⟨R, Ev.congr (f := fun k => spec_l12Table.l0 k a b (List.replicate (a.length + 1) []) (((a.length + 1 : Nat) : Int) - 1)) (fun k => ?_) hR, h0⟩
  unfold spec_l12Table.f
  rw [w64 (by omega) (by omega), if_pos (by omega), e2, Int.toNat_natCast, if_pos (by omega), ← e3]

theorem implTable_l1 (a b : List Int) (ha : a.length ≤ 301) (hb : b.length ≤ 301) (i : Nat) (hi : i < a.length)
    (next : ∀ T, Lcs.Rows a b i T → ∃ R, Ev (fun k => impl_commonTable.l0 k a b T ((i : Int) - 1)) R ∧ Lcs.Rows a b 0 R) (j : Nat) :
    ∀ T, j ≤ b.length → Lcs.Part a b i j T → ∃ R, Ev (fun k => impl_commonTable.l1 k a b T (i : Int) ((j : Int) - 1)) R ∧ Lcs.Rows a b 0 R := by
  induction j with
  | zero =>
    intro T _ hT
    obtain ⟨R, hR, h0⟩ := next T (Lcs.part_rows hT)
    refine ⟨R, Ev.step (f := fun k => impl_commonTable.l0 k a b T ((i : Int) - 1)) (fun k => ?_) hR, h0⟩
    rw [impl_commonTable.l1]
    rw [if_neg (by omega), w64 (by omega) (by omega)]
  | succ j ih =>
    intro T hj hT
    have e1 : ((j + 1 : Nat) : Int) - 1 = (j : Int) := by omega
    rw [e1]
    obtain ⟨t1, t2, t3, t4, t5⟩ := id hT
    have r1 := t2 (i + 1) (by omega) (by omega)
    have lL := L_le301 (b := b) ha (i + 1) (j + 1)
    have e2 : ((i : Int) + 1) = ((i + 1 : Nat) : Int) := by omega
    have e3 : ((j : Int) + 1) = ((j + 1 : Nat) : Int) := by omega
    have c1 : ((T.getD (i + 1) []).getD j 0) = (Lcs.L a b (i + 1) j : Int) := r1.2 j (by omega)
    have c2 : ((T.getD i []).getD (j + 1) 0) = (Lcs.L a b i (j + 1) : Int) := t4 (j + 1) (by omega) (by omega)
    have c3 : ((T.getD (i + 1) []).getD (j + 1) 0) = (Lcs.L a b (i + 1) (j + 1) : Int) := r1.2 (j + 1) (by omega)
    have hL := Lcs.L_eq a b i j hi (by omega)
    obtain ⟨R, hR, h0⟩ := ih (Lcs.put T i j (Lcs.L a b i j : Int)) (by omega) (Lcs.part_put hT (by omega) (by omega) rfl)
    refine ⟨R, Ev.step (f := fun k => impl_commonTable.l1 k a b (Lcs.put T i j (Lcs.L a b i j : Int)) (i : Int) ((j : Int) - 1)) (fun k => ?_) hR, h0⟩
    have hp : ∀ v, T.set i ((T.getD i []).set j v) = Lcs.put T i j v := fun v => rfl
    rw [impl_commonTable.l1]
    rw [if_pos (by omega), if_pos (by omega), if_pos (by omega), if_pos (by omega), if_pos (by omega), w64 (x := (i : Int) + 1) (by omega) (by omega), w64 (x := (j : Int) + 1) (by omega) (by omega), w64 (x := (j : Int) - 1) (by omega) (by omega), e2, e3]
    simp only [rdL, rd_nat, c1, c2, c3, mx_eq, Int.toNat_natCast, hp]
    by_cases he : a.getD i 0 = b.getD j 0
    · rw [if_pos he] at hL
      rw [if_pos he, if_pos (by omega), if_pos (by omega), if_pos (by omega), if_pos (by omega), if_pos (by rw [r1.1]; omega), if_pos (by rw [t3]; omega), w64 (by omega) (by omega), hL]
      rfl
    · rw [if_neg he] at hL
      rw [if_neg he, if_pos (by omega), if_pos (by omega), if_pos (by omega), if_pos (by rw [r1.1]; omega), if_pos (by omega), if_pos (by rw [t3]; omega), if_pos (by rw [t3]; omega), hL]

theorem implTable_l0 (a b : List Int) (ha : a.length ≤ 301) (hb : b.length ≤ 301) (i : Nat) :
    ∀ T, i ≤ a.length → Lcs.Rows a b i T → ∃ R, Ev (fun k => impl_commonTable.l0 k a b T ((i : Int) - 1)) R ∧ Lcs.Rows a b 0 R := by
  induction i with
  | zero =>
    intro T _ hT
    refine ⟨T, Ev.step (f := fun _ => some T) (fun k => ?_) (Ev.now T), hT⟩
    rw [impl_commonTable.l0]
    rw [if_neg (by omega)]
  | succ i ih =>
    intro T hi hT
    have e1 : ((i + 1 : Nat) : Int) - 1 = (i : Int) := by omega
    have e2 : ((b.length : Int) + 1) = ((b.length + 1 : Nat) : Int) := by omega
    rw [e1]
    obtain ⟨R, hR, h0⟩ := implTable_l1 a b ha hb i (by omega) (fun T' hT' => ih T' (by omega) hT') b.length _ (Nat.le_refl _) (Lcs.part_skip (Lcs.rows_part hT (by omega)) (Lcs.L_end' a b i _ (Nat.le_refl _)))
    refine ⟨R, Ev.step (f := fun k => impl_commonTable.l1 k a b (T.set i (List.replicate (b.length + 1) 0)) (i : Int) ((b.length : Int) - 1)) (fun k => ?_) hR, h0⟩
    rw [impl_commonTable.l0]
    rw [if_pos (by omega), w64 (x := (b.length : Int) + 1) (by omega) (by omega), if_pos (by omega), e2, Int.toNat_natCast, if_pos (by omega), if_pos (by omega), if_pos (by have := hT.1; omega), Int.toNat_natCast, w64 (by omega) (by omega)]

theorem implTable_ev (a b : List Int) (ha : a.length ≤ 301) (hb : b.length ≤ 301) : ∃ R, Ev (fun k => impl_commonTable.f k a b) R ∧ Lcs.Rows a b 0 R := by
  have h1 := Lcs.rows_part (Lcs.rows_none a b) (Nat.le_refl _)
  obtain ⟨R, hR, h0⟩ := implTable_l0 a b ha hb a.length _ (Nat.le_refl _) (Lcs.part_rows (Lcs.part_zero (fun c => Lcs.L_end a b _ c (Nat.le_refl _)) _ h1))
  have e2 : ((a.length : Int) + 1) = ((a.length + 1 : Nat) : Int) := by omega
  have e3 : ((b.length : Int) + 1) = ((b.length + 1 : Nat) : Int) := by omega
  refine ⟨R, Ev.congr (f := fun k => impl_commonTable.l0 k a b ((List.replicate (a.length + 1) []).set a.length (List.replicate (b.length + 1) 0)) ((a.length : Int) - 1)) (fun k => ?_) hR, h0⟩
  unfold impl_commonTable.f
  rw [w64 (x := (a.length : Int) + 1) (by omega) (by omega), w64 (x := (b.length : Int) + 1) (by omega) (by omega), if_pos (by omega), e2, e3, Int.toNat_natCast, Int.toNat_natCast, Int.toNat_natCast, if_pos (by omega), Option.bind_some, if_pos (by omega), if_pos (by omega), if_pos (by omega), if_pos (by rw [List.length_replicate]; omega), w64 (by omega) (by omega)]

-- CommonLen, both
theorem rows_00 {a b : List Int} {R : List (List Int)} (h : Lcs.Rows a b 0 R) : 0 < (R.length : Int) ∧ 0 < ((rd_L3 R 0).length : Int) ∧ rd (rd_L3 R 0) 0 = (Lcs.lcs a b : Int) := by
  have h0 := h.2 0 (by omega) (by omega)
  have e0 : rd_L3 R 0 = R.getD 0 [] := rdL R 0
  have e1 : rd (R.getD 0 []) 0 = (R.getD 0 []).getD 0 0 := rd_nat _ 0
  rw [e0, e1]
  exact ⟨by have := h.1; omega, by have := h0.1; omega, h0.2 0 (by omega)⟩
def lenOf (a b : List Int) : Int := if a.length ≤ 301 ∧ b.length ≤ 301 then (Lcs.lcs a b : Int) else -1
theorem specCommonLen_ev (a b : List Int) : Ev (fun k => spec_CommonLen.f k a b) (lenOf a b) := by
  by_cases ha : a.length ≤ 301
  · by_cases hb : b.length ≤ 301
    · obtain ⟨R, hR, h0⟩ := specTable_ev a b ha hb
      obtain ⟨K, hR⟩ := ev_out hR
      obtain ⟨g1, g2, g3⟩ := rows_00 h0
      refine ev_mk K fun k hk => ?_
      unfold spec_CommonLen.f spec_l12Right.f lenOf
      rw [Option.bind_some, if_pos (decide_eq_true (by omega)), Option.bind_some, if_pos (decide_eq_true (by omega)), hR k hk, Option.bind_some, if_pos g1, if_pos g2, g3, if_pos ⟨ha, hb⟩]
    · refine ev_mk 0 fun k _ => ?_
      unfold spec_CommonLen.f spec_l12Right.f lenOf
      rw [Option.bind_some, if_pos (decide_eq_true (by omega)), Option.bind_some, if_neg (fun h => hb (by have := of_decide_eq_true h; omega)), if_neg (fun h => hb h.2)]
  · refine ev_mk 0 fun k _ => ?_
    unfold spec_CommonLen.f spec_l12Right.f lenOf
    rw [Option.bind_some, if_neg (fun h => ha (by have := of_decide_eq_true h; omega)), if_neg (fun h => ha h.1)]

-- CommonOf, both
def toS (p : Nat × Nat) : S70 := ⟨(p.1 : Int), (p.2 : Int)⟩
theorem index_l0 (b : List Int) (v : Int) (j : Nat) (hj : j ≤ b.length) (hb : b.length ≤ 301) (c : Nat) : ∀ i : Nat, j + i + c = b.length →
    Ev (fun k => slices_Index_int_int.l0 k (b.drop j) v ((b.drop j).length : Int) (i : Int)) (match Lcs.nextAt b v c (j + i) with | none => -1 | some j0 => (j0 : Int) - (j : Int)) := by
  have hlen : (b.drop j).length = b.length - j := List.length_drop
  induction c with
  | zero =>
    intro i h
    refine Ev.step (f := fun _ => some (-1)) (fun k => ?_) (Ev.now _)
    rw [slices_Index_int_int.l0, if_neg (by omega)]
  | succ c ih =>
    intro i h
    have hr : rd (b.drop j) (i : Int) = b.getD (j + i) 0 := by
      rw [rd_nat, List.getD_eq_getElem?_getD, List.getElem?_drop, ← List.getD_eq_getElem?_getD]
    unfold Lcs.nextAt
    by_cases e : v = b.getD (j + i) 0
    · rw [if_pos e]
      refine Ev.step (f := fun _ => some ((i : Nat) : Int)) (fun k => ?_) ?_
      · rw [slices_Index_int_int.l0, if_pos (by omega), if_pos (by omega), if_pos (by omega), hr, if_pos e]
      · have q : ((j + i : Nat) : Int) - (j : Int) = (i : Int) := by omega
        show Ev _ (((j + i : Nat) : Int) - (j : Int))
        rw [q]
        exact Ev.now _
    · rw [if_neg e]
      refine Ev.step (f := fun k => slices_Index_int_int.l0 k (b.drop j) v ((b.drop j).length : Int) ((i + 1 : Nat) : Int)) (fun k => ?_) (ih (i + 1) (by omega))
      rw [slices_Index_int_int.l0, if_pos (by omega), if_pos (by omega), if_pos (by omega), hr, if_neg e, w64 (by omega) (by omega)]
      rfl
theorem index_ev (b : List Int) (v : Int) (j : Nat) (hj : j ≤ b.length) (hb : b.length ≤ 301) :
    Ev (fun k => slices_Index_int_int.f k (b.drop j) v) (match Lcs.nextAt b v (b.length - j) j with | none => -1 | some j0 => (j0 : Int) - (j : Int)) :=
  Ev.congr (f := fun k => slices_Index_int_int.l0 k (b.drop j) v ((b.drop j).length : Int) ((0 : Nat) : Int)) (fun _ => rfl) (index_l0 b v j hj hb (b.length - j) 0 (by omega))

/-- What the table holds at a place. -/
theorem at_table {a b : List Int} {T : List (List Int)} (hT : Lcs.Rows a b 0 T) (i j : Nat) (hi : i ≤ a.length) (hj : j ≤ b.length) :
    ((i : Int) < (T.length : Int)) ∧ ((j : Int) < ((rd_L3 T (i : Int)).length : Int)) ∧ rd (rd_L3 T (i : Int)) (j : Int) = (Lcs.L a b i j : Int) := by
  have h := hT.2 i (by omega) hi
  rw [rdL, rd_nat]
  exact ⟨by have := hT.1; omega, by have := h.1; omega, h.2 j hj⟩

theorem implCommonOf_l0 (a b : List Int) (ha : a.length ≤ 301) (hb : b.length ≤ 301) (T : List (List Int)) (hT : Lcs.Rows a b 0 T) (d : Nat) : ∀ (i j : Nat) (acc : List S70), i + d = a.length → j ≤ b.length → acc.length ≤ i →
    Ev (fun k => impl_commonOf.l0 k a b T acc (i : Int) (j : Int)) (acc ++ (Lcs.firstC a b d i j).map toS) := by
  induction d with
  | zero =>
    intro i j acc h hj hacc
    obtain ⟨t1, t2, t3⟩ := at_table hT i j (by omega) hj
    refine Ev.step (f := fun _ => some (acc ++ [])) (fun k => ?_) (Ev.now _)
    rw [impl_commonOf.l0, if_pos (by omega), if_pos t1, if_pos (by omega), if_pos t2, t3, Lcs.L_end a b i j (by omega), if_neg (by decide), List.append_nil]
  | succ d ih =>
    intro i j acc h hj hacc
    obtain ⟨t1, t2, t3⟩ := at_table hT i j (by omega) hj
    by_cases h0 : Lcs.L a b i j = 0
    · refine Ev.step (f := fun _ => some (acc ++ (Lcs.firstC a b (d + 1) i j).map toS)) (fun k => ?_) (Ev.now _)
      rw [impl_commonOf.l0, if_pos (by omega), if_pos t1, if_pos (by omega), if_pos t2, t3, h0, if_neg (by decide), Lcs.firstC_none h0, List.map_nil, List.append_nil]
    · have hx := index_ev b (a.getD i 0) j hj hb
      cases hn : Lcs.nextAt b (a.getD i 0) (b.length - j) j with
      | none =>
        rw [hn] at hx
        rw [Lcs.firstC_miss h0 hn]
        obtain ⟨K, hK⟩ := ev_out hx
        obtain ⟨K2, hK2⟩ := ev_out (ih (i + 1) j acc (by omega) hj (by omega))
        refine ev_mk (K + K2 + 1) fun k hk => ?_
        obtain ⟨k, rfl⟩ : ∃ m, k = m + 1 := ⟨k - 1, by omega⟩
        rw [impl_commonOf.l0, if_pos (by omega), if_pos t1, if_pos (by omega), if_pos t2, t3, if_pos (by omega), if_pos (by omega), if_pos (by omega), Int.toNat_natCast, rd_nat, hK k (by omega), Option.bind_some, if_neg (by show ¬ (-1 : Int) ≥ 0; decide), w64 (x := (i : Int) + 1) (by omega) (by omega)]
        exact hK2 k (by omega)
      | some j0 =>
        rw [hn] at hx
        obtain ⟨q1, q2, q3, _⟩ := Lcs.nextAt_some b _ _ _ _ hn
        obtain ⟨K, hK⟩ := ev_out hx
        obtain ⟨s1, s2, s3⟩ := at_table hT (i + 1) (j0 + 1) (by omega) (by omega)
        have lL := L_le301 (b := b) ha (i + 1) (j0 + 1)
        have e1 : (match some j0 with | none => (-1 : Int) | some j0 => (j0 : Int) - (j : Int)) = (j0 : Int) - (j : Int) := rfl
        have e2 : (j : Int) + ((j0 : Int) - (j : Int)) = (j0 : Int) := by omega
        have e3 : (i : Int) + 1 = ((i + 1 : Nat) : Int) := by omega
        have e4 : (j0 : Int) + 1 = ((j0 + 1 : Nat) : Int) := by omega
        have e5 : (j : Int) + ((j0 : Int) - (j : Int) + 1) = ((j0 + 1 : Nat) : Int) := by omega
        by_cases e : 1 + Lcs.L a b (i + 1) (j0 + 1) = Lcs.L a b i j
        · obtain ⟨K2, hK2⟩ := ev_out (ih (i + 1) (j0 + 1) (acc ++ [toS (i, j0)]) (by omega) (by omega) (by simp; omega))
          refine ev_mk (K + K2 + 1) fun k hk => ?_
          obtain ⟨k, rfl⟩ : ∃ m, k = m + 1 := ⟨k - 1, by omega⟩
          rw [impl_commonOf.l0, if_pos (by omega), if_pos t1, if_pos (by omega), if_pos t2, t3, if_pos (by omega), if_pos (by omega), if_pos (by omega), Int.toNat_natCast, rd_nat, hK k (by omega), Option.bind_some, e1, if_pos (by omega), w64 (x := (j : Int) + ((j0 : Int) - (j : Int))) (by omega) (by omega), e2, w64 (x := (i : Int) + 1) (by omega) (by omega), w64 (x := (j0 : Int) + 1) (by omega) (by omega), w64 (x := (j0 : Int) - (j : Int) + 1) (by omega) (by omega), w64 (x := (j : Int) + ((j0 : Int) - (j : Int) + 1)) (by omega) (by omega), e5, e3, e4, if_pos (by omega), if_pos s1, if_pos (by omega), if_pos s2, s3, w64 (by omega) (by omega), if_pos (by omega), if_pos (by omega)]
          have hr := hK2 k (by omega)
          rw [Lcs.firstC_hit h0 hn e, List.map_cons]
          rw [List.append_assoc] at hr
          exact hr
        · obtain ⟨K2, hK2⟩ := ev_out (ih (i + 1) j acc (by omega) hj (by omega))
          refine ev_mk (K + K2 + 1) fun k hk => ?_
          obtain ⟨k, rfl⟩ : ∃ m, k = m + 1 := ⟨k - 1, by omega⟩
          rw [impl_commonOf.l0, if_pos (by omega), if_pos t1, if_pos (by omega), if_pos t2, t3, if_pos (by omega), if_pos (by omega), if_pos (by omega), Int.toNat_natCast, rd_nat, hK k (by omega), Option.bind_some, e1, if_pos (by omega), w64 (x := (j : Int) + ((j0 : Int) - (j : Int))) (by omega) (by omega), e2, w64 (x := (i : Int) + 1) (by omega) (by omega), w64 (x := (j0 : Int) + 1) (by omega) (by omega), e3, e4, if_pos (by omega), if_pos s1, if_pos (by omega), if_pos s2, s3, w64 (by omega) (by omega), if_neg (by omega)]
          rw [Lcs.firstC_pass h0 hn e]
          exact hK2 k (by omega)
theorem implcommonOf_ev (a b : List Int) (ha : a.length ≤ 301) (hb : b.length ≤ 301) : Ev (fun k => impl_commonOf.f k a b) ((Lcs.firstC a b a.length 0 0).map toS) := by
  obtain ⟨T, hT, hR⟩ := implTable_ev a b ha hb
  obtain ⟨K, hK⟩ := ev_out hT
  obtain ⟨K2, hK2⟩ := ev_out (implCommonOf_l0 a b ha hb T hR a.length 0 0 [] (by omega) (by omega) (by simp))
  refine ev_mk (K + K2) fun k hk => ?_
  unfold impl_commonOf.f
  rw [hK k (by omega), Option.bind_some]
  exact hK2 k (by omega)

/-- The reference's search for the smallest place. -/
def pick (a b : List Int) (x t : Nat) (j : Nat) : Nat → Int → Int
  | 0, y => y
  | c + 1, y => pick a b x t j c (if a.getD x 0 = b.getD (j + c) 0 ∧ 1 + Lcs.L a b (x + 1) (j + c + 1) = t then ((j + c : Nat) : Int) else y)
theorem pick_none (a b : List Int) (x t j : Nat) (c : Nat) : ∀ y, (∀ k, j ≤ k → k < j + c → ¬ (a.getD x 0 = b.getD k 0 ∧ 1 + Lcs.L a b (x + 1) (k + 1) = t)) → pick a b x t j c y = y := by
  induction c with
  | zero => intro y _; rfl
  | succ c ih =>
    intro y h
    unfold pick
    rw [if_neg (h (j + c) (by omega) (by omega)), ih y (fun k h1 h2 => h k h1 (by omega))]
theorem pick_some (a b : List Int) (x t j j0 : Nat) (h0 : j ≤ j0) (hp : a.getD x 0 = b.getD j0 0 ∧ 1 + Lcs.L a b (x + 1) (j0 + 1) = t) (hq : ∀ k, j ≤ k → k < j0 → ¬ (a.getD x 0 = b.getD k 0 ∧ 1 + Lcs.L a b (x + 1) (k + 1) = t)) (c : Nat) : ∀ y, j0 < j + c → pick a b x t j c y = (j0 : Int) := by
  induction c with
  | zero => intro y h; omega
  | succ c ih =>
    intro y h
    unfold pick
    by_cases e : j0 = j + c
    · rw [← e, if_pos hp]
      exact pick_none a b x t j c _ (fun k h1 h2 => hq k h1 (by omega))
    · exact ih _ (by omega)

theorem specCommonOf_l2 (a b : List Int) (ha : a.length ≤ 301) (hb : b.length ≤ 301) (T : List (List Int)) (hT : Lcs.Rows a b 0 T) (acc : List S70) (i j x : Nat) (hi : i ≤ a.length) (hj : j ≤ b.length) (hx : x < a.length) (R : List S70) (c : Nat) :
    ∀ y : Int, j + c ≤ b.length → Ev (fun k => spec_CommonOf.l1 k a b T acc (i : Int) (j : Int) ((x + 1 : Nat) : Int) (pick a b x (Lcs.L a b i j) j c y)) R →
      Ev (fun k => spec_CommonOf.l2 k a b T acc (i : Int) (j : Int) (x : Int) y (((j + c : Nat) : Int) - 1)) R := by
  induction c with
  | zero =>
    intro y hc h
    refine Ev.step (fun k => ?_) h
    rw [spec_CommonOf.l2, if_neg (by omega), w64 (by omega) (by omega)]
    rfl
  | succ c ih =>
    intro y hc h
    obtain ⟨t1, t2, t3⟩ := at_table hT i j hi hj
    obtain ⟨s1, s2, s3⟩ := at_table hT (x + 1) (j + c + 1) (by omega) (by omega)
    have lL := L_le301 (b := b) ha (x + 1) (j + c + 1)
    have e0 : ((j + (c + 1) : Nat) : Int) - 1 = ((j + c : Nat) : Int) := by omega
    have e3 : (x : Int) + 1 = ((x + 1 : Nat) : Int) := by omega
    have e4 : ((j + c : Nat) : Int) + 1 = ((j + c + 1 : Nat) : Int) := by omega
    rw [e0]
    by_cases e : a.getD x 0 = b.getD (j + c) 0
    · by_cases e2 : 1 + Lcs.L a b (x + 1) (j + c + 1) = Lcs.L a b i j
      · unfold pick at h
        rw [if_pos ⟨e, e2⟩] at h
        refine Ev.step (fun k => ?_) (ih _ (by omega) h)
        rw [spec_CommonOf.l2, if_pos (by omega), if_pos (by omega), if_pos (by omega), if_pos (by omega), if_pos (by omega), rd_nat, rd_nat, if_pos e, w64 (x := (x : Int) + 1) (by omega) (by omega), w64 (x := ((j + c : Nat) : Int) + 1) (by omega) (by omega), e3, e4, if_pos (by omega), if_pos s1, if_pos (by omega), if_pos s2, if_pos (by omega), if_pos t1, if_pos (by omega), if_pos t2, s3, t3, w64 (x := 1 + (Lcs.L a b (x + 1) (j + c + 1) : Int)) (by omega) (by omega), if_pos (by omega), w64 (by omega) (by omega)]
      · unfold pick at h
        rw [if_neg (fun q => e2 q.2)] at h
        refine Ev.step (fun k => ?_) (ih _ (by omega) h)
        rw [spec_CommonOf.l2, if_pos (by omega), if_pos (by omega), if_pos (by omega), if_pos (by omega), if_pos (by omega), rd_nat, rd_nat, if_pos e, w64 (x := (x : Int) + 1) (by omega) (by omega), w64 (x := ((j + c : Nat) : Int) + 1) (by omega) (by omega), e3, e4, if_pos (by omega), if_pos s1, if_pos (by omega), if_pos s2, if_pos (by omega), if_pos t1, if_pos (by omega), if_pos t2, s3, t3, w64 (x := 1 + (Lcs.L a b (x + 1) (j + c + 1) : Int)) (by omega) (by omega), if_neg (by omega), w64 (by omega) (by omega)]
    · unfold pick at h
      rw [if_neg (fun q => e q.1)] at h
      refine Ev.step (fun k => ?_) (ih _ (by omega) h)
      rw [spec_CommonOf.l2, if_pos (by omega), if_pos (by omega), if_pos (by omega), if_pos (by omega), if_pos (by omega), rd_nat, rd_nat, if_neg e, w64 (by omega) (by omega)]

/-- From element x on, where what is left is as much as at i: what is shown of d elements. -/
def Goes (a b : List Int) (T : List (List Int)) (d : Nat) : Prop := ∀ (i j x : Nat) (acc : List S70), x + d = a.length → i ≤ x → j ≤ b.length → acc.length ≤ i → Lcs.L a b x j = Lcs.L a b i j → Lcs.L a b i j ≠ 0 →
    Ev (fun k => spec_CommonOf.l1 k a b T acc (i : Int) (j : Int) (x : Int) (-1)) (acc ++ (Lcs.firstC a b d x j).map toS)
theorem specCommonOf_go (a b : List Int) (ha : a.length ≤ 301) (hb : b.length ≤ 301) (T : List (List Int)) (hT : Lcs.Rows a b 0 T) (d : Nat) (hq : Goes a b T d) (i j : Nat) (acc : List S70) (h : i + d = a.length) (hj : j ≤ b.length) (hacc : acc.length ≤ i) :
    Ev (fun k => spec_CommonOf.l0 k a b T acc (i : Int) (j : Int)) (acc ++ (Lcs.firstC a b d i j).map toS) := by
  obtain ⟨t1, t2, t3⟩ := at_table hT i j (by omega) hj
  by_cases h0 : Lcs.L a b i j = 0
  · refine Ev.step (f := fun _ => some (acc ++ (Lcs.firstC a b d i j).map toS)) (fun k => ?_) (Ev.now _)
    rw [spec_CommonOf.l0, if_pos (by omega), if_pos t1, if_pos (by omega), if_pos t2, t3, h0, if_neg (by decide), Lcs.firstC_none h0, List.map_nil, List.append_nil]
  · refine Ev.step (fun k => ?_) (hq i j i acc h (Nat.le_refl _) hj hacc rfl h0)
    rw [spec_CommonOf.l0, if_pos (by omega), if_pos t1, if_pos (by omega), if_pos t2, t3, if_pos (by omega)]
/-- From element x on, where what is left is as much as at i. -/
theorem specCommonOf_l1 (a b : List Int) (ha : a.length ≤ 301) (hb : b.length ≤ 301) (T : List (List Int)) (hT : Lcs.Rows a b 0 T) (d : Nat) : Goes a b T d := by
  induction d with
  | zero => intro i j x acc h hi hj hacc he h0; rw [Lcs.L_end a b x j (by omega)] at he; exact absurd he.symm h0
  | succ d ih =>
    intro i j x acc h hi hj hacc he h0
    have h0' : Lcs.L a b x j ≠ 0 := by rw [he]; exact h0
    have hf := Lcs.L_first a b x (by omega) (b.length - j) j (by omega)
    refine Ev.step (f := fun k => spec_CommonOf.l2 k a b T acc (i : Int) (j : Int) (x : Int) (-1) (((j + (b.length - j) : Nat) : Int) - 1)) (fun k => ?_) (specCommonOf_l2 a b ha hb T hT acc i j x (by omega) hj (by omega) _ (b.length - j) (-1) (by omega) ?_)
    · rw [spec_CommonOf.l1, if_pos (by decide), w64 (by omega) (by omega)]
      congr 1
      omega
    · have over : ∀ j0, j ≤ j0 → a.getD x 0 = b.getD j0 0 → j0 < b.length → ∀ k, j0 ≤ k → 1 + Lcs.L a b (x + 1) (k + 1) ≤ 1 + Lcs.L a b (x + 1) (j0 + 1) := fun j0 _ _ _ k hk => by have := Lcs.L_mono' a b (x + 1) (j0 + 1) (k + 1) (by omega); omega
      cases hn : Lcs.nextAt b (a.getD x 0) (b.length - j) j with
      | none =>
        rw [hn] at hf
        have hno := Lcs.nextAt_none b _ _ _ hn
        rw [pick_none a b x _ j _ _ (fun k h1 h2 q => hno k h1 h2 q.1), Lcs.firstC_miss h0' hn]
        have hf' : Lcs.L a b x j = Lcs.L a b (x + 1) j := hf
        exact ih i j (x + 1) acc (by omega) (by omega) hj hacc (by omega) h0
      | some j0 =>
        rw [hn] at hf
        obtain ⟨q1, q2, q3, q4⟩ := Lcs.nextAt_some b _ _ _ _ hn
        have hf' : Lcs.L a b x j = max (Lcs.L a b (x + 1) j) (1 + Lcs.L a b (x + 1) (j0 + 1)) := hf
        by_cases e : 1 + Lcs.L a b (x + 1) (j0 + 1) = Lcs.L a b x j
        · rw [pick_some a b x _ j j0 q1 ⟨q3, by omega⟩ (fun k h1 h2 q => q4 k h1 h2 q.1) _ _ (by omega), Lcs.firstC_hit h0' hn e, List.map_cons]
          obtain ⟨K, hK⟩ := ev_out (specCommonOf_go a b ha hb T hT d ih (x + 1) (j0 + 1) (acc ++ [toS (x, j0)]) (by omega) (by omega) (by simp; omega))
          refine ev_mk (K + 1) fun k hk => ?_
          obtain ⟨k, rfl⟩ : ∃ m, k = m + 1 := ⟨k - 1, by omega⟩
          have hr := hK k (by omega)
          rw [spec_CommonOf.l1, if_neg (by omega), if_pos (by omega), w64 (by omega) (by omega), w64 (by omega) (by omega)]
          rw [List.append_assoc] at hr
          have e6 : ((x + 1 : Nat) : Int) - 1 = (x : Int) := by omega
          rw [e6]
          exact hr
        · rw [pick_none a b x _ j _ _ (fun k h1 h2 q => ?_), Lcs.firstC_pass h0' hn e]
          · exact ih i j (x + 1) acc (by omega) (by omega) hj hacc (by omega) h0
          · by_cases hk : j0 ≤ k
            · have := over j0 q1 q3 (by omega) k hk
              have := q.2
              omega
            · exact q4 k h1 (by omega) q.1

def pairsOf (a b : List Int) : List S70 := if a.length ≤ 301 ∧ b.length ≤ 301 then (Lcs.firstC a b a.length 0 0).map toS else []
theorem pairsOf_len (a b : List Int) : (pairsOf a b).length ≤ 301 := by
  unfold pairsOf
  by_cases h : a.length ≤ 301 ∧ b.length ≤ 301
  · rw [if_pos h, List.length_map, Lcs.firstC_length a b a.length 0 0 (by omega) (by omega)]
    exact L_le301 h.1 0 0
  · rw [if_neg h]
    simp
theorem specCommonOf_ev (a b : List Int) : Ev (fun k => spec_CommonOf.f k a b) (pairsOf a b) := by
  have no : ∀ (h : ¬ (a.length ≤ 301 ∧ b.length ≤ 301)), Ev (fun k => spec_CommonOf.j0 k a b true) (pairsOf a b) := fun h => by
    refine Ev.step (f := fun _ => some (pairsOf a b)) (fun k => ?_) (Ev.now _)
    unfold pairsOf
    rw [spec_CommonOf.j0, if_pos rfl, if_neg h]
  by_cases ha : a.length ≤ 301
  · by_cases hb : b.length ≤ 301
    · obtain ⟨T, hT, hR⟩ := specTable_ev a b ha hb
      obtain ⟨K, hK⟩ := ev_out hT
      obtain ⟨K2, hK2⟩ := ev_out (specCommonOf_go a b ha hb T hR a.length (specCommonOf_l1 a b ha hb T hR a.length) 0 0 [] (by omega) (by omega) (by simp))
      refine ev_mk (K + K2 + 1) fun k hk => ?_
      obtain ⟨k, rfl⟩ : ∃ m, k = m + 1 := ⟨k - 1, by omega⟩
      unfold spec_CommonOf.f spec_l12Right.f pairsOf
      rw [Option.bind_some, if_pos (decide_eq_true (by omega)), Option.bind_some, decide_eq_true (by omega), Bool.not_true, spec_CommonOf.j0, if_neg (by decide), hK k (by omega), Option.bind_some, if_pos ⟨ha, hb⟩]
      exact hK2 k (by omega)
    · obtain ⟨K, hK⟩ := ev_out (no (fun h => hb h.2))
      refine ev_mk K fun k hk => ?_
      unfold spec_CommonOf.f spec_l12Right.f
      rw [Option.bind_some, if_pos (decide_eq_true (by omega)), Option.bind_some, decide_eq_false (by omega), Bool.not_false]
      exact hK k hk
  · obtain ⟨K, hK⟩ := ev_out (no (fun h => ha h.1))
    refine ev_mk K fun k hk => ?_
    unfold spec_CommonOf.f spec_l12Right.f
    rw [Option.bind_some, if_neg (fun h => ha (by have := of_decide_eq_true h; omega))]
    exact hK k hk

theorem areListed_eq' (a b : List Int) : impl_areListed.f a b = some (decide (a.length ≤ 301 ∧ b.length ≤ 301)) := by
  unfold impl_areListed.f
  by_cases ha : a.length ≤ 301
  · rw [if_pos (by omega)]
    congr 1
    by_cases hb : b.length ≤ 301
    · rw [decide_eq_true (by omega), decide_eq_true ⟨ha, hb⟩]
    · rw [decide_eq_false (by omega), decide_eq_false (fun h => hb h.2)]
  · rw [if_neg (by omega), decide_eq_false (fun h => ha h.1)]

-- pairs in order
def Chain (a b : List Int) : Nat → Nat → List (Nat × Nat) → Prop
  | _, _, [] => True
  | i, j, p :: ps => i ≤ p.1 ∧ p.1 < a.length ∧ j ≤ p.2 ∧ p.2 < b.length ∧ a.getD p.1 0 = b.getD p.2 0 ∧ Chain a b (p.1 + 1) (p.2 + 1) ps
theorem Chain.less {a b : List Int} {i i' j : Nat} {ps : List (Nat × Nat)} (h : Chain a b i' j ps) (hi : i ≤ i') : Chain a b i j ps := by
  cases ps with
  | nil => trivial
  | cons p ps => obtain ⟨h1, h2⟩ := h; exact ⟨by omega, h2⟩
theorem firstC_chain (a b : List Int) (d : Nat) : ∀ i j, i + d = a.length → j ≤ b.length → Chain a b i j (Lcs.firstC a b d i j) := by
  induction d with
  | zero => intro i j _ _; trivial
  | succ d ih =>
    intro i j h hj
    by_cases h0 : Lcs.L a b i j = 0
    · rw [Lcs.firstC_none h0]; trivial
    · cases hn : Lcs.nextAt b (a.getD i 0) (b.length - j) j with
      | none => rw [Lcs.firstC_miss h0 hn]; exact (ih (i + 1) j (by omega) hj).less (by omega)
      | some j0 =>
        obtain ⟨q1, q2, q3, _⟩ := Lcs.nextAt_some b _ _ _ _ hn
        by_cases e : 1 + Lcs.L a b (i + 1) (j0 + 1) = Lcs.L a b i j
        · rw [Lcs.firstC_hit h0 hn e]
          exact ⟨Nat.le_refl _, by show i < a.length; omega, q1, by show j0 < b.length; omega, q3, ih (i + 1) (j0 + 1) (by omega) (by omega)⟩
        · rw [Lcs.firstC_pass h0 hn e]
          exact (ih (i + 1) j (by omega) hj).less (by omega)

theorem wu64 {x : Int} (h0 : 0 ≤ x) (h1 : x < 18446744073709551616) : IntKind.u64.wrap x = x := by
  simp [IntKind.wrap, IntKind.bits, IntKind.signed]
  omega
theorem td64 (i : Nat) : Int.tdiv (i : Int) 64 = ((i / 64 : Nat) : Int) := rfl
theorem tm64 (i : Nat) : Int.tmod (i : Int) 64 = ((i % 64 : Nat) : Int) := rfl
def Words (ws : List Int) : Prop := ∀ x ∈ ws, 0 ≤ x ∧ x < 2 ^ 64
theorem l01Power_l0 (m : Nat) : ∀ (a : Nat), a * 2 ^ m < 18446744073709551616 → m ≤ 64 → Ev (fun k => spec_l01Power.l0 k (m : Int) (a : Int)) ((a * 2 ^ m : Nat) : Int) := by
  induction m with
  | zero =>
    intro a h hm
    refine Ev.step (f := fun _ => some _) (fun k => ?_) (Ev.now _)
    rw [spec_l01Power.l0, if_neg (by omega), Nat.pow_zero, Nat.mul_one]
  | succ m ih =>
    intro a h hm
    have hp : 0 < 2 ^ m := Nat.two_pow_pos m
    have e : a * 2 ^ (m + 1) = (2 * a) * 2 ^ m := by rw [Nat.pow_succ, Nat.mul_comm (2 ^ m) 2, ← Nat.mul_assoc, Nat.mul_comm a 2]
    rw [e] at h ⊢
    have : 2 * a ≤ (2 * a) * 2 ^ m := Nat.le_mul_of_pos_right _ hp
    refine Ev.step (f := fun k => spec_l01Power.l0 k (m : Int) ((2 * a : Nat) : Int)) (fun k => ?_) (ih (2 * a) h (by omega))
    rw [spec_l01Power.l0, if_pos (by omega), w64 (by omega) (by omega), wu64 (by omega) (by omega), show ((m + 1 : Nat) : Int) - 1 = (m : Int) by omega]
    rfl
theorem pow64 (m : Nat) (h : m < 64) : 2 ^ m < 18446744073709551616 := Nat.pow_lt_pow_right (a := 2) (n := 64) (by decide) h
theorem pow64i (m : Nat) (h : m ≤ 64) : (2 : Int) ^ m ≤ 18446744073709551616 := by
  have : 2 ^ m ≤ 2 ^ 64 := Nat.pow_le_pow_right (by decide) h
  have e : (2 : Int) ^ m = ((2 ^ m : Nat) : Int) := by simp
  omega
theorem l01Power_ev (m : Nat) (h : m < 64) : Ev (fun k => spec_l01Power.f k (m : Int)) ((2 : Int) ^ m) := by
  have := l01Power_l0 m 1 (by rw [Nat.one_mul]; exact pow64 m h) (by omega)
  rw [Nat.one_mul] at this
  rw [show (2 : Int) ^ m = ((2 ^ m : Nat) : Int) by simp]
  exact this
theorem bitsOf_j2 (l : List Int) (hb : ∀ i, i < l.length → l.getD i 0 = 0 ∨ l.getD i 0 = 1) (h5 : l.length ≤ 5000) (i : Nat) (hi : i < l.length) (r : Int × List Int × Bool)
    (hr : Ev (fun k => spec_BitsOf.l0 k l ((i + 1 : Nat) : Int) (l.length : Int) (wordsTo l (i + 1) (i / 64 + 1))) r) : Ev (fun k => spec_BitsOf.j2 k l (i : Int) (l.length : Int) (wordsTo l i (i / 64 + 1))) r := by
  have e1 : wrap64 ((i : Int) + 1) = ((i + 1 : Nat) : Int) := w64 (by omega) (by omega)
  rcases hb i hi with q | q
  · refine Ev.step (f := fun k => spec_BitsOf.l0 k l ((i + 1 : Nat) : Int) (l.length : Int) (wordsTo l (i + 1) (i / 64 + 1))) (fun k => ?_) hr
    rw [spec_BitsOf.j2, if_pos (by omega), if_pos (by omega), rd_nat, q, if_neg (by decide), e1, wordsTo_skip l i _ q]
  · obtain ⟨K1, h1⟩ := ev_out (l01Power_ev (i % 64) (by omega))
    obtain ⟨K2, h2⟩ := ev_out hr
    refine ev_mk (K1 + K2 + 1) fun k hk => ?_
    obtain ⟨k, rfl⟩ : ∃ m, k = m + 1 := ⟨k - 1, by omega⟩
    have hlen := wordsTo_length l i (i / 64 + 1)
    have hbd := wordAt_bound l hb i (i / 64) (by omega)
    rw [show min 64 (i - 64 * (i / 64)) = i % 64 by omega] at hbd
    have hp := pow64i (i % 64 + 1) (by omega)
    rw [Int.pow_succ] at hp
    rw [spec_BitsOf.j2, if_pos (by omega), if_pos (by omega), rd_nat, q, if_pos rfl, td64, tm64, w64 (by omega) (by omega), if_pos (by omega), if_pos (by rw [hlen]; omega), h1 k (by omega), Option.bind_some, e1, rd_nat, wordsTo_get _ _ _ _ (by omega),
      wu64 (by have := two_pos (i % 64); omega) (by omega), Int.toNat_natCast, wordsTo_set l i _ _ (by omega) (by rw [q, Int.one_mul])]
    exact h2 k (by omega)
theorem bitsOf_l0 (l : List Int) (hb : ∀ i, i < l.length → l.getD i 0 = 0 ∨ l.getD i 0 = 1) (h5 : l.length ≤ 5000) (d : Nat) : ∀ i : Nat, i + d = l.length →
    Ev (fun k => spec_BitsOf.l0 k l (i : Int) (l.length : Int) (wordsTo l i ((i + 63) / 64))) ((l.length : Int), wordsOf l, true) := by
  induction d with
  | zero =>
    intro i h
    obtain rfl : i = l.length := by omega
    refine Ev.step (f := fun _ => some _) (fun k => ?_) (Ev.now _)
    rw [spec_BitsOf.l0, if_neg (by omega)]
    rfl
  | succ d ih =>
    intro i h
    have hr := bitsOf_j2 l hb h5 i (by omega) _ (by have := ih (i + 1) (by omega); rwa [show (i + 1 + 63) / 64 = i / 64 + 1 by omega] at this)
    have hj : Ev (fun k => spec_BitsOf.j1 k l (i : Int) false (l.length : Int) (wordsTo l i ((i + 63) / 64))) ((l.length : Int), wordsOf l, true) := by
      refine Ev.step (fun k => ?_) hr
      rw [spec_BitsOf.j1, if_neg (by decide), tm64]
      by_cases q : i % 64 = 0
      · rw [if_pos (by omega), if_pos (by rw [wordsTo_length]; omega), wordsTo_more l i q]
      · rw [if_neg (by omega), show (i + 63) / 64 = i / 64 + 1 by omega]
    refine Ev.step (fun k => ?_) hj
    rw [spec_BitsOf.l0, if_pos (by omega), if_pos (by omega), rd_nat]
    rcases hb i (by omega) with q | q
    · rw [q, if_pos rfl]
    · rw [q, if_neg (by decide)]
      rfl
theorem specBitsOf_ev (l : List Int) (hb : ∀ i, i < l.length → l.getD i 0 = 0 ∨ l.getD i 0 = 1) (h5 : l.length ≤ 5000) : Ev (fun k => spec_BitsOf.f k l) ((l.length : Int), wordsOf l, true) := by
  refine Ev.congr (f := fun k => spec_BitsOf.l0 k l ((0 : Nat) : Int) (l.length : Int) (wordsTo l 0 ((0 + 63) / 64))) (fun k => ?_) (bitsOf_l0 l hb h5 l.length 0 (by omega))
  unfold spec_BitsOf.f
  rw [if_neg (by omega)]
  rfl
theorem specBitsOf_big (l : List Int) (h5 : 5000 < l.length) : Ev (fun k => spec_BitsOf.f k l) (0, [], false) := by
  refine Ev.congr (f := fun _ => some _) (fun k => ?_) (Ev.now _)
  unfold spec_BitsOf.f
  rw [if_pos (by omega)]

theorem td2 (i : Nat) : Int.tdiv (i : Int) 2 = ((i / 2 : Nat) : Int) := rfl
theorem tm2 (i : Nat) : Int.tmod (i : Int) 2 = ((i % 2 : Nat) : Int) := rfl
theorem Words.get {ws : List Int} (h : Words ws) (j : Nat) (hj : j < ws.length) : ∃ a : Nat, ws.getD j 0 = (a : Int) ∧ a < 18446744073709551616 := by
  have := h _ (List.getElem_mem hj)
  rw [← lget_lt ws j 0 hj] at this
  refine ⟨(ws.getD j 0).toNat, by omega, by omega⟩
theorem bitAt_nat {ws : List Int} {i a : Nat} (h : ws.getD (i / 64) 0 = (a : Int)) : bitAt ws i = ((a / 2 ^ (i % 64) % 2 : Nat) : Int) := by
  unfold bitAt
  rw [h]
  simp
/-- Whether words are the words of a list of n bits. -/
def okB (n : Int) (ws : List Int) : Bool := decide (0 ≤ n ∧ n ≤ 5000 ∧ ws.length = (n.toNat + 63) / 64 ∧ wordsOf (bitsL n.toNat ws) = ws)
theorem bitsL_get01 (n : Nat) (ws : List Int) : ∀ i, i < (bitsL n ws).length → (bitsL n ws).getD i 0 = 0 ∨ (bitsL n ws).getD i 0 = 1 := by
  intro i hi
  rw [bitsL_length] at hi
  rw [bitsL_get _ _ _ hi]
  exact bitAt_01 ws i

-- the program's bits
theorem and1 (a : Nat) (h : a < 18446744073709551616) : Go.bits .and .u64 (a : Int) 1 = ((a % 2 : Nat) : Int) := by
  have := bits_mask .u64 64 (by decide) (fun n h0 h1 => wu64 h0 (by omega)) 1 (by decide) (a : Int) (by omega) (by omega)
  rw [show ((2 : Int) ^ 1 - 1) = 1 by decide] at this
  rw [this]
  omega
theorem shr_nat (a m : Nat) (h : m < 64) : shr .u64 (a : Int) ((m : Nat) : Int) = ((a / 2 ^ m : Nat) : Int) := by
  unfold shr
  rw [Int.toNat_natCast, show min m IntKind.u64.bits = m by show min m 64 = m; omega]
  simp
theorem at_ev (n : Int) (ws : List Int) (hw : Words ws) (i : Nat) (hi : i < 64 * ws.length) (h5 : i ≤ 1000000) : impl_Bits_at.f n ws (i : Int) = some (bitAt ws i) := by
  obtain ⟨a, ea, ha⟩ := hw.get (i / 64) (by omega)
  have hd : a / 2 ^ (i % 64) ≤ a := Nat.div_le_self _ _
  unfold impl_Bits_at.f
  rw [td64, tm64, w64 (by omega) (by omega), if_pos (by omega), if_pos (by omega), if_pos (by omega), rd_nat, ea, shr_nat _ _ (by omega), and1 _ (by omega), w64 (by omega) (by omega), bitAt_nat ea]
theorem list_l0 (n : Nat) (ws : List Int) (hw : Words ws) (hn : n ≤ 64 * ws.length) (h5 : n ≤ 5000) (d : Nat) : ∀ i : Nat, i + d = n → Ev (fun k => impl_Bits_list.l0 k (bitsL i ws) (n : Int) (i : Int) (n : Int) ws) (bitsL n ws) := by
  induction d with
  | zero =>
    intro i h
    obtain rfl : i = n := by omega
    refine Ev.step (f := fun _ => some _) (fun k => ?_) (Ev.now _)
    rw [impl_Bits_list.l0, if_neg (by omega)]
  | succ d ih =>
    intro i h
    refine Ev.step (fun k => ?_) (ih (i + 1) (by omega))
    rw [impl_Bits_list.l0, if_pos (by omega), at_ev _ _ hw i (by omega) (by omega), Option.bind_some, if_pos (by rw [bitsL_length]; omega), w64 (by omega) (by omega), bitsL_succ]
    rfl
theorem list_ev (n : Nat) (ws : List Int) (hw : Words ws) (hn : n ≤ 64 * ws.length) (h5 : n ≤ 5000) : Ev (fun k => impl_Bits_list.f k (n : Int) ws) (bitsL n ws) :=
  Ev.congr (f := fun k => impl_Bits_list.l0 k (bitsL 0 ws) (n : Int) ((0 : Nat) : Int) (n : Int) ws) (fun _ => rfl) (list_l0 n ws hw hn h5 n 0 (by omega))
theorem implBitsOk_ev (n : Int) (ws : List Int) (hw : Words ws) (hl : ws.length ≤ 4000000) (hn : -9223372036854775808 ≤ n) : impl_BitsOk.f n ws = some (okB n ws) := by
  unfold impl_BitsOk.f impl_within.f
  by_cases h0 : 0 ≤ n
  case neg =>
    rw [if_neg h0, Option.bind_some, if_neg (by decide), okB, decide_eq_false (by omega)]
  rw [if_pos h0, Option.bind_some]
  by_cases h1 : n ≤ 5000
  case neg =>
    rw [decide_eq_false h1, if_neg (by decide), okB, decide_eq_false (by omega)]
  rw [decide_eq_true h1, if_pos rfl]
  obtain ⟨n, rfl⟩ := Int.eq_ofNat_of_zero_le h0
  have e : wrap64 (Int.tdiv (wrap64 ((wrap64 ((n : Int) + 64)) - 1)) 64) = (((n + 63) / 64 : Nat) : Int) := by
    rw [w64 (x := (n : Int) + 64) (by omega) (by omega), w64 (x := (n : Int) + 64 - 1) (by omega) (by omega), show (n : Int) + 64 - 1 = ((n + 63 : Nat) : Int) by omega, td64, w64 (by omega) (by omega)]
  rw [e]
  by_cases q : ws.length = (n + 63) / 64
  case neg =>
    rw [if_neg (by omega), okB, decide_eq_false (by rw [Int.toNat_natCast]; exact fun h => q h.2.2.1)]
  rw [if_pos (by omega), tm64]
  have W := wordsOf_bits n ws hw q
  have fin : ∀ b : Bool, (b = true ↔ (n % 64 = 0 ∨ ws.getD (ws.length - 1) 0 / 2 ^ (n % 64) = 0)) → some b = some (okB (n : Int) ws) := by
    intro b hb
    congr 1
    rw [Bool.eq_iff_iff, hb, ← W, okB, decide_eq_true_iff, Int.toNat_natCast]
    exact ⟨fun h => ⟨by omega, by omega, q, h⟩, fun h => h.2.2.2⟩
  by_cases z : n % 64 = 0
  · rw [if_pos (by omega)]
    exact fin true ⟨fun _ => .inl z, fun _ => rfl⟩
  · obtain ⟨a, ea, ha⟩ := hw.get (ws.length - 1) (by omega)
    rw [if_neg (by omega), w64 (by omega) (by omega), if_pos (by omega), if_pos (by omega), if_pos (by omega), show (ws.length : Int) - 1 = ((ws.length - 1 : Nat) : Int) by omega, rd_nat, ea, shr_nat _ _ (by omega)]
    refine fin _ ?_
    rw [beq_iff_eq, ea]
    constructor
    · intro h
      right
      have : ((a : Int) / 2 ^ (n % 64)) = ((a / 2 ^ (n % 64) : Nat) : Int) := by simp
      rw [this]
      exact h
    · rintro (h | h)
      · exact absurd h z
      · have : ((a : Int) / 2 ^ (n % 64)) = ((a / 2 ^ (n % 64) : Nat) : Int) := by simp
        rw [this] at h
        exact h

-- the program's words of a list
theorem bitsOr_comm (x y : Int) : Go.bits .or .u64 x y = Go.bits .or .u64 y x := by
  unfold Go.bits
  dsimp only
  rw [BitVec.or_comm]
theorem or_bit (x : Int) (m : Nat) (v : Int) (hx : 0 ≤ x) (hx1 : x < 2 ^ m) (hm : m < 64) (hv : v = 0 ∨ v = 1) : Go.bits .or .u64 x (shl .u64 (IntKind.u64.wrap v) (m : Int)) = x + v * 2 ^ m := by
  have hp := pow64i (m + 1) (by omega)
  rw [Int.pow_succ] at hp
  have hp0 := two_pos m
  rcases hv with rfl | rfl
  · have e : shl .u64 (IntKind.u64.wrap 0) (m : Int) = 0 := by
      unfold shl
      rw [wu64 (x := 0) (by decide) (by decide), Int.zero_mul]
      exact wu64 (by decide) (by decide)
    rw [e, bits_join .u64 64 (by decide) (fun n h0 h1 => wu64 h0 (by omega)) 0 x 0 hx (by simp [Int.emod_one]) (by omega) (by decide) (by decide) (by decide)]
    simp
  · have e : shl .u64 (IntKind.u64.wrap 1) (m : Int) = 2 ^ m := by
      unfold shl
      rw [wu64 (x := 1) (by decide) (by decide), Int.one_mul, Int.toNat_natCast, show min m IntKind.u64.bits = m by show min m 64 = m; omega]
      exact wu64 (by omega) (by omega)
    rw [e, bitsOr_comm, bits_join .u64 64 (by decide) (fun n h0 h1 => wu64 h0 (by omega)) m (2 ^ m) x (by omega) Int.emod_self (by omega) hx hx1 (by omega)]
    omega
theorem implBitsOf_l0 (l : List Int) (hb : ∀ i, i < l.length → l.getD i 0 = 0 ∨ l.getD i 0 = 1) (h5 : l.length ≤ 5000) (d : Nat) : ∀ i : Nat, i + d = l.length →
    Ev (fun k => impl_bitsOf.l0 k l (l.length : Int) (i : Int) (l.length : Int) (wordsTo l i ((l.length + 63) / 64))) ((l.length : Int), wordsOf l) := by
  induction d with
  | zero =>
    intro i h
    obtain rfl : i = l.length := by omega
    refine Ev.step (f := fun _ => some _) (fun k => ?_) (Ev.now _)
    rw [impl_bitsOf.l0, if_neg (by omega)]
    rfl
  | succ d ih =>
    intro i h
    refine Ev.step (fun k => ?_) (ih (i + 1) (by omega))
    have hbd := wordAt_bound l hb i (i / 64) (by omega)
    rw [show min 64 (i - 64 * (i / 64)) = i % 64 by omega] at hbd
    rw [impl_bitsOf.l0, if_pos (by omega), if_pos (by omega), if_pos (by omega), td64, tm64, w64 (by omega) (by omega), if_pos (by omega), if_pos (by rw [wordsTo_length]; omega), if_pos (by omega), w64 (by omega) (by omega), rd_nat, rd_nat, Int.toNat_natCast,
      wordsTo_get _ _ _ _ (by omega), or_bit _ _ _ hbd.1 hbd.2 (by omega) (hb i (by omega)), wordsTo_set l i _ _ (by omega) rfl]
    rfl
theorem implBitsOf_ev (l : List Int) (hb : ∀ i, i < l.length → l.getD i 0 = 0 ∨ l.getD i 0 = 1) (h5 : l.length ≤ 5000) : Ev (fun k => impl_bitsOf.f k l) ((l.length : Int), wordsOf l) := by
  have e : wrap64 (Int.tdiv (wrap64 ((wrap64 ((l.length : Int) + 64)) - 1)) 64) = (((l.length + 63) / 64 : Nat) : Int) := by
    rw [w64 (x := (l.length : Int) + 64) (by omega) (by omega), w64 (x := (l.length : Int) + 64 - 1) (by omega) (by omega), show (l.length : Int) + 64 - 1 = ((l.length + 63 : Nat) : Int) by omega, td64, w64 (by omega) (by omega)]
  have z : wordsTo l 0 ((l.length + 63) / 64) = List.replicate ((l.length + 63) / 64) 0 := by
    apply ext_getD 0 (by rw [wordsTo_length, List.length_replicate])
    intro j hj
    rw [wordsTo_length] at hj
    rw [wordsTo_get _ _ _ _ hj, lrep]
    unfold wordAt
    rw [show min 64 (0 - 64 * j) = 0 by omega, wsum]
  refine Ev.congr (f := fun k => impl_bitsOf.l0 k l (l.length : Int) ((0 : Nat) : Int) (l.length : Int) (wordsTo l 0 ((l.length + 63) / 64))) (fun k => ?_) (implBitsOf_l0 l hb h5 l.length 0 (by omega))
  unfold impl_bitsOf.f
  rw [e, if_pos (by omega), Int.toNat_natCast, if_pos (by omega), z]
  rfl
theorem words_lt (l : List Int) (hb : ∀ i, i < l.length → l.getD i 0 = 0 ∨ l.getD i 0 = 1) : Words (wordsOf l) := by
  intro x hx
  unfold wordsOf wordsTo at hx
  obtain ⟨j, _, rfl⟩ := List.mem_map.1 hx
  have h := wordAt_bound l hb l.length j (Nat.le_refl _)
  have hp := pow64i (min 64 (l.length - 64 * j)) (by omega)
  exact ⟨h.1, by omega⟩

-- BitsFlip
def flipL (l : List Int) : List Int := l.map fun x => 1 - x
theorem flipL_length (l : List Int) : (flipL l).length = l.length := by simp [flipL]
theorem flipL_get (l : List Int) (i : Nat) (h : i < l.length) : (flipL l).getD i 0 = 1 - l.getD i 0 := by
  rw [lget_lt _ _ _ (by rw [flipL_length]; exact h), lget_lt _ _ _ h]
  simp [flipL]
theorem flipL_01 (l : List Int) (hb : ∀ i, i < l.length → l.getD i 0 = 0 ∨ l.getD i 0 = 1) : ∀ i, i < (flipL l).length → (flipL l).getD i 0 = 0 ∨ (flipL l).getD i 0 = 1 := by
  intro i hi
  rw [flipL_length] at hi
  rw [flipL_get _ _ hi]
  rcases hb i hi with q | q <;> rw [q] <;> decide
theorem flip_l0 (l : List Int) (hb : ∀ i, i < l.length → l.getD i 0 = 0 ∨ l.getD i 0 = 1) (h5 : l.length ≤ 5000) (d : Nat) : ∀ i : Nat, i + d = l.length →
    Ev (fun k => impl_BitsFlip.l0 k ((flipL l).take i ++ l.drop i) (l.length : Int) (i : Int)) ((l.length : Int), wordsOf (flipL l)) := by
  induction d with
  | zero =>
    intro i h
    obtain rfl : i = l.length := by omega
    have hf := flipL_length l
    obtain ⟨K, hK⟩ := ev_out (implBitsOf_ev (flipL l) (flipL_01 l hb) (by omega))
    refine ev_mk (K + 1) fun k hk => ?_
    obtain ⟨k, rfl⟩ : ∃ m, k = m + 1 := ⟨k - 1, by omega⟩
    rw [impl_BitsFlip.l0, if_neg (by omega), List.drop_length, List.append_nil, List.take_of_length_le (by omega), hK k (by omega), Option.bind_some, hf]
  | succ d ih =>
    intro i h
    refine Ev.step (fun k => ?_) (ih (i + 1) (by omega))
    have hln := over_len (flipL l) l i (flipL_length l) (by omega)
    rw [impl_BitsFlip.l0, if_pos (by omega), if_pos (by omega), if_pos (by omega), rd_nat, over_get _ _ _ _ (flipL_length l) (by omega), w64 (x := (i : Int) + 1) (by omega) (by omega), Int.toNat_natCast,
      w64 (by rcases hb i (by omega) with q | q <;> rw [q] <;> decide) (by rcases hb i (by omega) with q | q <;> rw [q] <;> decide), over_set (flipL l) l 0 _ i (flipL_length l) (by omega) (flipL_get l i (by omega)).symm]
    rfl
theorem okB_out {n : Int} {ws : List Int} (h : okB n ws = true) : 0 ≤ n ∧ n ≤ 5000 ∧ ws.length = (n.toNat + 63) / 64 := by
  have := of_decide_eq_true h
  exact ⟨this.1, this.2.1, this.2.2.1⟩
theorem flip_ev (n : Nat) (ws : List Int) (hw : Words ws) (hl : ws.length ≤ 4000000) (ok : okB (n : Int) ws = true) : Ev (fun k => impl_BitsFlip.f k (n : Int) ws) ((n : Int), wordsOf (flipL (bitsL n ws))) := by
  obtain ⟨_, h5, hq⟩ := okB_out ok
  rw [Int.toNat_natCast] at hq
  have hlen := bitsL_length n ws
  obtain ⟨K1, h1⟩ := ev_out (list_ev n ws hw (by omega) (by omega))
  obtain ⟨K2, h2⟩ := ev_out (flip_l0 (bitsL n ws) (bitsL_get01 n ws) (by omega) (bitsL n ws).length 0 (by omega))
  refine ev_mk (K1 + K2) fun k hk => ?_
  unfold impl_BitsFlip.f
  rw [implBitsOk_ev _ _ hw hl (by omega), ok, Option.bind_some, if_pos rfl, h1 k (by omega), Option.bind_some]
  have := h2 k (by omega)
  rw [hlen] at this
  rw [hlen]
  exact this

-- what stays, and what is woven in
def keep : List Int → List Int → List Int
  | x :: xs, b :: bs => if b = 1 then x :: keep xs bs else keep xs bs
  | _, _ => []
def weave : List Int → List Int → List Int → List Int
  | b :: bs, ks, es => if b = 1 then ks.getD 0 0 :: weave bs (ks.drop 1) es else es.getD 0 0 :: weave bs ks (es.drop 1)
  | [], _, _ => []
theorem drop_cons (l : List Int) (i : Nat) (h : i < l.length) : l.drop i = l.getD i 0 :: l.drop (i + 1) := by
  rw [List.drop_eq_getElem_cons h, lget_lt _ _ _ h]
theorem keep_step (l bs : List Int) (i : Nat) (h : i < l.length) (h2 : i < bs.length) : keep (l.drop i) (bs.drop i) = if bs.getD i 0 = 1 then l.getD i 0 :: keep (l.drop (i + 1)) (bs.drop (i + 1)) else keep (l.drop (i + 1)) (bs.drop (i + 1)) := by
  rw [drop_cons l i h, drop_cons bs i h2, keep]
theorem keep_length (bs : List Int) : ∀ l : List Int, l.length = bs.length → (keep l bs).length = bs.count 1 := by
  induction bs with
  | nil => intro l h; rw [List.eq_nil_of_length_eq_zero h]; rfl
  | cons b bs ih =>
    intro l h
    cases l with
    | nil => simp at h
    | cons x xs =>
      have := ih xs (by simpa using h)
      rw [keep, List.count_cons]
      by_cases q : b = 1
      · rw [if_pos q, List.length_cons, this, q]; rfl
      · rw [if_neg q, this, if_neg (by simpa using q), Nat.add_zero]
theorem count01 (l : List Int) (h : ∀ x ∈ l, x = 0 ∨ x = 1) : l.count 0 + l.count 1 = l.length := by
  induction l with
  | nil => rfl
  | cons x xs ih =>
    have := ih fun y hy => h y (List.mem_cons_of_mem _ hy)
    rw [List.count_cons, List.count_cons, List.length_cons]
    rcases h x (List.mem_cons_self ..) with q | q <;> rw [q] <;> simp <;> omega
theorem count_drop (l : List Int) (v : Int) (i : Nat) (h : i < l.length) : (l.drop i).count v = (l.drop (i + 1)).count v + if l.getD i 0 = v then 1 else 0 := by
  rw [drop_cons l i h, List.count_cons]
  congr 1
  by_cases q : l.getD i 0 = v
  · rw [if_pos q, if_pos (by simpa using q)]
  · rw [if_neg q, if_neg (by simpa using q)]
theorem count_le (l : List Int) (v : Int) : l.count v ≤ l.length := List.count_le_length

theorem unmarked_l0 (l : List Int) (n : Int) (ws bs : List Int) (hw : Words ws) (h64 : l.length ≤ 64 * ws.length) (h5 : l.length ≤ 5000) (hbs : bs.length = l.length) (h : ∀ i, i < l.length → bitAt ws i = 1 - bs.getD i 0) (h01 : ∀ i, i < bs.length → bs.getD i 0 = 0 ∨ bs.getD i 0 = 1)
    (d : Nat) : ∀ (i : Nat) (acc : List Int), i + d = l.length → acc.length ≤ i → Ev (fun k => impl_unmarked.l0 k acc l (l.length : Int) (i : Int) n ws) (acc ++ keep (l.drop i) (bs.drop i)) := by
  induction d with
  | zero =>
    intro i acc hi ha
    obtain rfl : i = l.length := by omega
    refine Ev.step (f := fun _ => some _) (fun k => ?_) (Ev.now _)
    rw [impl_unmarked.l0, if_neg (by omega), List.drop_length, keep, List.append_nil]
    intros; contradiction
  | succ d ih =>
    intro i acc hi ha
    rw [keep_step l bs i (by omega) (by omega)]
    have e1 : wrap64 ((i : Int) + 1) = ((i + 1 : Nat) : Int) := w64 (by omega) (by omega)
    rcases h01 i (by omega) with q | q
    · refine Ev.step (fun k => ?_) (by rw [if_neg (by rw [q]; decide)]; exact ih (i + 1) acc (by omega) (by omega))
      rw [impl_unmarked.l0, if_pos (by omega), if_pos (by omega), if_pos (by omega), at_ev _ _ hw i (by omega) (by omega), Option.bind_some, h i (by omega), q, if_neg (by decide), e1]
    · refine Ev.step (fun k => ?_) (by rw [if_pos q, List.append_cons]; exact ih (i + 1) (acc ++ [l.getD i 0]) (by omega) (by rw [List.length_append]; simp; omega))
      rw [impl_unmarked.l0, if_pos (by omega), if_pos (by omega), if_pos (by omega), at_ev _ _ hw i (by omega) (by omega), Option.bind_some, h i (by omega), q, if_pos (by decide), if_pos (by omega), rd_nat, e1]
theorem count_l0 (l : List Int) (v : Int) (h5 : l.length ≤ 5000) (d : Nat) : ∀ (i : Nat) (c : Nat), i + d = l.length → c ≤ i → Ev (fun k => impl_count.l0 k v (c : Int) l (l.length : Int) (i : Int)) ((c + (l.drop i).count v : Nat) : Int) := by
  induction d with
  | zero =>
    intro i c hi ha
    obtain rfl : i = l.length := by omega
    refine Ev.step (f := fun _ => some _) (fun k => ?_) (Ev.now _)
    rw [impl_count.l0, if_neg (by omega), List.drop_length]
    rfl
  | succ d ih =>
    intro i c hi ha
    rw [count_drop l v i (by omega)]
    have e1 : wrap64 ((i : Int) + 1) = ((i + 1 : Nat) : Int) := w64 (by omega) (by omega)
    by_cases q : l.getD i 0 = v
    · refine Ev.step (fun k => ?_) (by rw [if_pos q, show c + ((l.drop (i + 1)).count v + 1) = c + 1 + (l.drop (i + 1)).count v by omega]; exact ih (i + 1) (c + 1) (by omega) (by omega))
      rw [impl_count.l0, if_pos (by omega), if_pos (by omega), if_pos (by omega), rd_nat, if_pos q, w64 (x := (c : Int) + 1) (by omega) (by omega), e1]
      rfl
    · refine Ev.step (fun k => ?_) (by rw [if_neg q, Nat.add_zero]; exact ih (i + 1) c (by omega) (by omega))
      rw [impl_count.l0, if_pos (by omega), if_pos (by omega), if_pos (by omega), rd_nat, if_neg q, e1]
theorem count_ev (l : List Int) (v : Int) (h5 : l.length ≤ 5000) : Ev (fun k => impl_count.f k l v) ((l.count v : Nat) : Int) := by
  have := count_l0 l v h5 l.length 0 0 (by omega) (by omega)
  rw [Nat.zero_add, List.drop_zero] at this
  exact Ev.congr (fun _ => rfl) this
theorem weave_l0 (bs : List Int) (hb : ∀ i, i < bs.length → bs.getD i 0 = 0 ∨ bs.getD i 0 = 1) (h5 : bs.length ≤ 5000) (d : Nat) : ∀ (i : Nat) (ks es acc : List Int), i + d = bs.length → acc.length ≤ i → ks.length = (bs.drop i).count 1 → es.length = (bs.drop i).count 0 →
    Ev (fun k => impl_PatchDo.l0 k ks es acc bs (bs.length : Int) (i : Int)) (acc ++ weave (bs.drop i) ks es, true) := by
  induction d with
  | zero =>
    intro i ks es acc hi ha hk hs
    obtain rfl : i = bs.length := by omega
    refine Ev.step (f := fun _ => some _) (fun k => ?_) (Ev.now _)
    rw [impl_PatchDo.l0, if_neg (by omega), List.drop_length, weave, List.append_nil]
  | succ d ih =>
    intro i ks es acc hi ha hk hs
    have e1 : wrap64 ((i : Int) + 1) = ((i + 1 : Nat) : Int) := w64 (by omega) (by omega)
    rw [count_drop bs _ i (by omega)] at hk hs
    rw [drop_cons bs i (by omega), weave]
    rcases hb i (by omega) with q | q
    · rw [if_neg (by rw [q]; decide)] at hk
      rw [if_pos q] at hs
      refine Ev.step (fun k => ?_) (by rw [if_neg (by rw [q]; decide), List.append_cons]; exact ih (i + 1) ks (es.drop 1) (acc ++ [es.getD 0 0]) (by omega) (by rw [List.length_append]; simp; omega) (by omega) (by rw [List.length_drop]; omega))
      rw [impl_PatchDo.l0, if_pos (by omega), if_pos (by omega), if_pos (by omega), rd_nat, q, if_neg (by decide), if_pos (by omega), if_pos (by omega), if_pos (by omega), e1]
      rfl
    · rw [if_pos q] at hk
      rw [if_neg (by rw [q]; decide)] at hs
      refine Ev.step (fun k => ?_) (by rw [if_pos q, List.append_cons]; exact ih (i + 1) (ks.drop 1) es (acc ++ [ks.getD 0 0]) (by omega) (by rw [List.length_append]; simp; omega) (by rw [List.length_drop]; omega) (by omega))
      rw [impl_PatchDo.l0, if_pos (by omega), if_pos (by omega), if_pos (by omega), rd_nat, q, if_pos rfl, if_pos (by omega), if_pos (by omega), if_pos (by omega), e1]
      rfl
/-- What both answer. -/
def patchOf (l : List Int) (n1 : Int) (ws1 : List Int) (n2 : Int) (ws2 es : List Int) : List Int × Bool :=
  if l.length ≤ 301 ∧ okB n1 ws1 = true ∧ okB n2 ws2 = true ∧ n1 = (l.length : Int) ∧ n2 ≤ 301 ∧ (bitsL n1.toNat ws1).count 1 = (bitsL n2.toNat ws2).count 1 ∧ (bitsL n2.toNat ws2).count 0 = es.length
  then (weave (bitsL n2.toNat ws2) (keep l (bitsL n1.toNat ws1)) es, true) else ([], false)
theorem implPatch_ev (l : List Int) (n1 : Int) (ws1 : List Int) (n2 : Int) (ws2 es : List Int) (hw1 : Words ws1) (hw2 : Words ws2) (hl1 : ws1.length ≤ 4000000) (hl2 : ws2.length ≤ 4000000) (hla : es.length ≤ 4000000)
    (hn1 : -9223372036854775808 ≤ n1) (hn2 : -9223372036854775808 ≤ n2) : Ev (fun k => impl_PatchDo.f k l n1 ws1 n2 ws2 es) (patchOf l n1 ws1 n2 ws2 es) := by
  have bad : patchOf l n1 ws1 n2 ws2 es = ([], false) → Ev (fun k => impl_PatchDo.j0 k l true n1 ws1 n2 ws2 es) (patchOf l n1 ws1 n2 ws2 es) := by
    intro h
    refine Ev.step (f := fun _ => some _) (fun k => ?_) (Ev.now _)
    rw [impl_PatchDo.j0, if_pos rfl, h]
  by_cases g0 : (l.length : Int) > 301
  · refine Ev.congr (fun k => ?_) (bad (if_neg (by omega)))
    unfold impl_PatchDo.f
    rw [if_pos g0]
  by_cases g1 : okB n1 ws1 = true
  case neg =>
    refine Ev.congr (fun k => ?_) (bad (if_neg (fun h => g1 h.2.1)))
    unfold impl_PatchDo.f
    rw [if_neg g0, implBitsOk_ev _ _ hw1 hl1 hn1, Option.bind_some, if_neg g1]
  by_cases g2 : okB n2 ws2 = true
  case neg =>
    refine Ev.congr (fun k => ?_) (bad (if_neg (fun h => g2 h.2.2.1)))
    unfold impl_PatchDo.f
    rw [if_neg g0, implBitsOk_ev _ _ hw1 hl1 hn1, Option.bind_some, if_pos g1, implBitsOk_ev _ _ hw2 hl2 hn2, Option.bind_some, if_neg g2]
  by_cases g3 : n1 = (l.length : Int)
  case neg =>
    refine Ev.congr (fun k => ?_) (bad (if_neg (fun h => g3 h.2.2.2.1)))
    unfold impl_PatchDo.f
    rw [if_neg g0, implBitsOk_ev _ _ hw1 hl1 hn1, Option.bind_some, if_pos g1, implBitsOk_ev _ _ hw2 hl2 hn2, Option.bind_some, if_pos g2, if_neg g3]
  by_cases g4 : n2 > 301
  · refine Ev.congr (fun k => ?_) (bad (if_neg (by omega)))
    unfold impl_PatchDo.f
    rw [if_neg g0, implBitsOk_ev _ _ hw1 hl1 hn1, Option.bind_some, if_pos g1, implBitsOk_ev _ _ hw2 hl2 hn2, Option.bind_some, if_pos g2, if_pos g3, decide_eq_true g4]
  obtain ⟨a1, b1, q1⟩ := okB_out g1
  obtain ⟨a2, b2, q2⟩ := okB_out g2
  obtain ⟨n1, rfl⟩ := Int.eq_ofNat_of_zero_le a1
  obtain ⟨n2, rfl⟩ := Int.eq_ofNat_of_zero_le a2
  have g3' : n1 = l.length := by omega
  rw [Int.toNat_natCast] at q1 q2
  have e1 := bitsL_length n1 ws1
  have e2 := bitsL_length n2 ws2
  have hc2 := count01 (bitsL n2 ws2) (bitsL_01 n2 ws2)
  obtain ⟨K1, k1⟩ := ev_out (list_ev n1 ws1 hw1 (by omega) (by omega))
  obtain ⟨K2, k2⟩ := ev_out (list_ev n2 ws2 hw2 (by omega) (by omega))
  obtain ⟨K3, k3⟩ := ev_out (count_ev (bitsL n1 ws1) 1 (by omega))
  obtain ⟨K4, k4⟩ := ev_out (count_ev (bitsL n2 ws2) 1 (by omega))
  have hdef : patchOf l (n1 : Int) ws1 (n2 : Int) ws2 es = if (bitsL n1 ws1).count 1 = (bitsL n2 ws2).count 1 ∧ (bitsL n2 ws2).count 0 = es.length then (weave (bitsL n2 ws2) (keep l (bitsL n1 ws1)) es, true) else ([], false) := by
    unfold patchOf
    rw [Int.toNat_natCast, Int.toNat_natCast]
    by_cases c : (bitsL n1 ws1).count 1 = (bitsL n2 ws2).count 1 ∧ (bitsL n2 ws2).count 0 = es.length
    · rw [if_pos c, if_pos ⟨by omega, g1, g2, g3, by omega, c⟩]
    · rw [if_neg c, if_neg (fun h => c h.2.2.2.2.2)]
  have bad1 : patchOf l (n1 : Int) ws1 (n2 : Int) ws2 es = ([], false) → Ev (fun k => impl_PatchDo.j1 k l true (n1 : Int) ws1 (n2 : Int) ws2 es) (patchOf l (n1 : Int) ws1 (n2 : Int) ws2 es) := by
    intro h
    refine Ev.step (f := fun _ => some _) (fun k => ?_) (Ev.now _)
    rw [impl_PatchDo.j1, if_pos rfl, h]
  have key : Ev (fun k => impl_PatchDo.j0 k l false (n1 : Int) ws1 (n2 : Int) ws2 es) (patchOf l (n1 : Int) ws1 (n2 : Int) ws2 es) := by
    by_cases c1 : (bitsL n1 ws1).count 1 = (bitsL n2 ws2).count 1
    · have hle := count_le (bitsL n2 ws2) 1
      by_cases c2 : (bitsL n2 ws2).count 0 = es.length
      · rw [hdef, if_pos ⟨c1, c2⟩]
        have hkl := keep_length (bitsL n1 ws1) l (by omega)
        have hfl := flipL_length (bitsL n1 ws1)
        have hf01 := flipL_01 (bitsL n1 ws1) (bitsL_get01 n1 ws1)
        have hfw := words_lt _ hf01
        have hfn : (wordsOf (flipL (bitsL n1 ws1))).length = (n1 + 63) / 64 := by rw [wordsOf, wordsTo_length, hfl, e1]
        obtain ⟨K5, k5⟩ := ev_out (flip_ev n1 ws1 hw1 hl1 g1)
        have hu := unmarked_l0 l (n1 : Int) (wordsOf (flipL (bitsL n1 ws1))) (bitsL n1 ws1) hfw (by omega) (by omega) (by omega) (by
          intro i hi
          rw [bitAt_words _ hf01 i (by omega), flipL_get _ _ (by omega)]) (bitsL_get01 n1 ws1) l.length 0 [] (by omega) (by simp)
        rw [List.nil_append, List.drop_zero, List.drop_zero] at hu
        obtain ⟨K6, k6⟩ := ev_out hu
        have hv := weave_l0 (bitsL n2 ws2) (bitsL_get01 n2 ws2) (by omega) (bitsL n2 ws2).length 0 (keep l (bitsL n1 ws1)) es [] (by omega) (by simp) (by rw [List.drop_zero]; omega) (by rw [List.drop_zero]; omega)
        rw [List.nil_append, List.drop_zero] at hv
        obtain ⟨K7, k7⟩ := ev_out hv
        refine ev_mk (K1 + K2 + K3 + K4 + K5 + K6 + K7 + 2) fun k hk => ?_
        obtain ⟨k, rfl⟩ : ∃ m, k = m + 2 := ⟨k - 2, by omega⟩
        rw [impl_PatchDo.j0, if_neg (by decide), k2 _ (by omega), Option.bind_some, k4 _ (by omega), Option.bind_some, k1 _ (by omega), Option.bind_some, k3 _ (by omega), Option.bind_some, if_pos (by omega), w64 (by omega) (by omega),
          show (((n2 : Int) - ((bitsL n2 ws2).count 1 : Nat)) != (es.length : Int)) = false by rw [bne_eq_false_iff_eq]; omega, impl_PatchDo.j1, if_neg (by decide), k5 k (by omega), Option.bind_some]
        have hun : impl_unmarked.f k l (n1 : Int) (wordsOf (flipL (bitsL n1 ws1))) = some (keep l (bitsL n1 ws1)) := k6 k (by omega)
        rw [hun, Option.bind_some, k2 _ (by omega), Option.bind_some]
        exact k7 k (by omega)
      · obtain ⟨K5, k5⟩ := ev_out (bad1 (by rw [hdef]; exact if_neg (fun h => c2 h.2)))
        refine ev_mk (K1 + K2 + K3 + K4 + K5 + 2) fun k hk => ?_
        obtain ⟨k, rfl⟩ : ∃ m, k = m + 1 := ⟨k - 1, by omega⟩
        rw [impl_PatchDo.j0, if_neg (by decide), k2 _ (by omega), Option.bind_some, k4 _ (by omega), Option.bind_some, k1 _ (by omega), Option.bind_some, k3 _ (by omega), Option.bind_some, if_pos (by omega), w64 (by omega) (by omega),
          show (((n2 : Int) - ((bitsL n2 ws2).count 1 : Nat)) != (es.length : Int)) = true by rw [bne_iff_ne]; omega]
        exact k5 k (by omega)
    · obtain ⟨K5, k5⟩ := ev_out (bad1 (by rw [hdef]; exact if_neg (fun h => c1 h.1)))
      refine ev_mk (K1 + K2 + K3 + K4 + K5 + 2) fun k hk => ?_
      obtain ⟨k, rfl⟩ : ∃ m, k = m + 1 := ⟨k - 1, by omega⟩
      rw [impl_PatchDo.j0, if_neg (by decide), k2 _ (by omega), Option.bind_some, k4 _ (by omega), Option.bind_some, k1 _ (by omega), Option.bind_some, k3 _ (by omega), Option.bind_some, if_neg (by omega)]
      exact k5 k (by omega)
  refine Ev.congr (fun k => ?_) key
  unfold impl_PatchDo.f
  rw [if_neg g0, implBitsOk_ev _ _ hw1 hl1 hn1, Option.bind_some, if_pos g1, implBitsOk_ev _ _ hw2 hl2 hn2, Option.bind_some, if_pos g2, if_pos g3, decide_eq_false g4]

-- the marks of pairs
theorem rdT70 (l : List S70) (i : Nat) : rd_T70 l (i : Int) = l.getD i z70 := by unfold rd_T70; rw [Int.toNat_natCast]
theorem map_toS (ps : List (Nat × Nat)) (k : Nat) (h : k < ps.length) : (ps.map toS).getD k z70 = toS (ps.getD k (0, 0)) := by
  rw [lget_lt _ k z70 (by rw [List.length_map]; exact h), List.getElem_map, lget_lt _ k (0, 0) h]
theorem drop_pair (ps : List (Nat × Nat)) (i : Nat) (h : i < ps.length) : ps.drop i = ps.getD i (0, 0) :: ps.drop (i + 1) := by
  rw [List.drop_eq_getElem_cons h, lget_lt _ _ _ h]
def setAll (x : List Int) (is : List Nat) : List Int := is.foldl (fun x i => x.set i 1) x
theorem setAll_length (is : List Nat) : ∀ x : List Int, (setAll x is).length = x.length := by
  induction is with
  | nil => intro x; rfl
  | cons i is ih => intro x; show (setAll (x.set i 1) is).length = _; rw [ih, List.length_set]
theorem setAll_get (is : List Nat) : ∀ (x : List Int) (j : Nat), j < x.length → (setAll x is).getD j 0 = if j ∈ is then 1 else x.getD j 0 := by
  induction is with
  | nil => intro x j h; rfl
  | cons i is ih =>
    intro x j h
    show (setAll (x.set i 1) is).getD j 0 = _
    rw [ih _ j (by rw [List.length_set]; exact h), lset]
    by_cases c : j ∈ is
    · rw [if_pos c, if_pos (List.mem_cons_of_mem _ c)]
    · rw [if_neg c]
      by_cases c2 : i = j
      · rw [if_pos ⟨c2, h⟩, if_pos (by rw [c2]; exact List.mem_cons_self ..)]
      · rw [if_neg (fun h => c2 h.1), if_neg (by rw [List.mem_cons]; intro h; rcases h with h | h; exact c2 h.symm; exact c h)]
def inA (n : Nat) (ps : List (Nat × Nat)) : List Int := setAll (List.replicate n 0) (ps.map (·.1))
def inB (n : Nat) (ps : List (Nat × Nat)) : List Int := setAll (List.replicate n 0) (ps.map (·.2))
theorem inA_length (n : Nat) (ps : List (Nat × Nat)) : (inA n ps).length = n := by unfold inA; rw [setAll_length, List.length_replicate]
theorem inB_length (n : Nat) (ps : List (Nat × Nat)) : (inB n ps).length = n := by unfold inB; rw [setAll_length, List.length_replicate]
theorem inA_get (n : Nat) (ps : List (Nat × Nat)) (j : Nat) (h : j < n) : (inA n ps).getD j 0 = if j ∈ ps.map (·.1) then 1 else 0 := by
  unfold inA
  rw [setAll_get _ _ j (by rw [List.length_replicate]; exact h), lrep]
theorem inB_get (n : Nat) (ps : List (Nat × Nat)) (j : Nat) (h : j < n) : (inB n ps).getD j 0 = if j ∈ ps.map (·.2) then 1 else 0 := by
  unfold inB
  rw [setAll_get _ _ j (by rw [List.length_replicate]; exact h), lrep]
theorem inA_01 (n : Nat) (ps : List (Nat × Nat)) : ∀ j, j < (inA n ps).length → (inA n ps).getD j 0 = 0 ∨ (inA n ps).getD j 0 = 1 := by
  intro j hj
  rw [inA_length] at hj
  rw [inA_get n ps j hj]
  split
  · exact .inr rfl
  · exact .inl rfl
theorem inB_01 (n : Nat) (ps : List (Nat × Nat)) : ∀ j, j < (inB n ps).length → (inB n ps).getD j 0 = 0 ∨ (inB n ps).getD j 0 = 1 := by
  intro j hj
  rw [inB_length] at hj
  rw [inB_get n ps j hj]
  split
  · exact .inr rfl
  · exact .inl rfl
def nb (ys : List Int) : List Int := ys.map fun y => 1 - y
theorem nb_length (ys : List Int) : (nb ys).length = ys.length := List.length_map _
theorem nb_get (ys : List Int) (i : Nat) (h : i < ys.length) : (nb ys).getD i 0 = 1 - ys.getD i 0 := by
  rw [lget_lt _ _ _ (by rw [nb_length]; exact h), lget_lt _ _ _ h]
  unfold nb
  rw [List.getElem_map]
theorem nb_01 (ys : List Int) (h : ∀ j, j < ys.length → ys.getD j 0 = 0 ∨ ys.getD j 0 = 1) : ∀ j, j < (nb ys).length → (nb ys).getD j 0 = 0 ∨ (nb ys).getD j 0 = 1 := by
  intro j hj
  rw [nb_length] at hj
  rw [nb_get ys j hj]
  have := h j hj
  omega
theorem bits_back (bs : List Int) (hb : ∀ i, i < bs.length → bs.getD i 0 = 0 ∨ bs.getD i 0 = 1) : bitsL bs.length (wordsOf bs) = bs := by
  apply ext_getD 0 (bitsL_length _ _)
  intro j hj
  rw [bitsL_length] at hj
  rw [bitsL_get _ _ _ hj, bitAt_words bs hb j hj]
def restP (b ys : List Int) : List Int := keep b (nb ys)
def ends (a b : List Int) : List (Nat × Nat) := Lcs.firstC a b a.length 0 0
def patchR (a b : List Int) : Int × List Int × Int × List Int × List Int × Bool := if a.length ≤ 301 ∧ b.length ≤ 301 then ((a.length : Int), wordsOf (inA a.length (ends a b)), (b.length : Int), wordsOf (inB b.length (ends a b)), restP b (inB b.length (ends a b)), true) else (0, [], 0, [], [], false)
theorem chain_in {a b : List Int} : ∀ {ps : List (Nat × Nat)} {i j : Nat}, Chain a b i j ps → ∀ k, k < ps.length → (ps.getD k (0, 0)).1 < a.length ∧ (ps.getD k (0, 0)).2 < b.length := by
  intro ps
  induction ps with
  | nil => intro i j _ k hk; simp at hk
  | cons p ps ih =>
    intro i j h k hk
    obtain ⟨_, h2, _, h4, _, h6⟩ := h
    cases k with
    | zero => exact ⟨h2, h4⟩
    | succ k => rw [List.getD_cons_succ]; exact ih h6 k (by simp at hk; omega)
theorem ends_chain (a b : List Int) : Chain a b 0 0 (ends a b) := firstC_chain a b a.length 0 0 (by omega) (by omega)
theorem ends_length (a b : List Int) : (ends a b).length ≤ a.length := by
  unfold ends
  rw [Lcs.firstC_length a b a.length 0 0 (by omega) (by omega)]
  exact Lcs.L_le a b 0 0
theorem implMarks_l0 (ps : List (Nat × Nat)) (n m : Nat) (hp : ps.length ≤ 5000) (hn : n ≤ 5000) (hm : m ≤ 5000) (hin : ∀ k, k < ps.length → (ps.getD k (0, 0)).1 < n ∧ (ps.getD k (0, 0)).2 < m) (r : Int × List Int × Int × List Int) (d : Nat) : ∀ (i : Nat) (x y : List Int), i + d = ps.length → x.length = n → y.length = m →
    Ev (fun k => (impl_bitsOf.f k (setAll x ((ps.drop i).map (·.1)))).bind fun bt225 => ((impl_bitsOf.f k (setAll y ((ps.drop i).map (·.2)))).bind fun bt229 => (some (bt225.1, bt225.2, bt229.1, bt229.2)))) r →
    Ev (fun k => impl_marks.l0 k x y (ps.map toS) (ps.length : Int) (i : Int)) r := by
  induction d with
  | zero =>
    intro i x y h hx hy hk
    rw [List.drop_eq_nil_of_le (by omega)] at hk
    refine Ev.step (fun k => ?_) hk
    rw [impl_marks.l0, if_neg (by omega)]
    rfl
  | succ d ih =>
    intro i x y h hx hy hk
    rw [drop_pair ps i (by omega)] at hk
    have hi := hin i (by omega)
    refine Ev.step (fun k => ?_) (ih (i + 1) (x.set (ps.getD i (0, 0)).1 1) (y.set (ps.getD i (0, 0)).2 1) (by omega) (by rw [List.length_set]; exact hx) (by rw [List.length_set]; exact hy) hk)
    have e0 : (toS (ps.getD i (0, 0))).f0 = ((ps.getD i (0, 0)).1 : Int) := rfl
    have e1 : (toS (ps.getD i (0, 0))).f1 = ((ps.getD i (0, 0)).2 : Int) := rfl
    rw [impl_marks.l0, if_pos (by omega), if_pos (by omega), if_pos (by rw [List.length_map]; omega), rdT70, map_toS _ _ (by omega), e0, e1, if_pos (by omega), if_pos (by omega), if_pos (by omega), if_pos (by omega), w64 (by omega) (by omega), Int.toNat_natCast, Int.toNat_natCast]
    rfl
theorem implMarks_ev (ps : List (Nat × Nat)) (n m : Nat) (hp : ps.length ≤ 5000) (hn : n ≤ 5000) (hm : m ≤ 5000) (hin : ∀ k, k < ps.length → (ps.getD k (0, 0)).1 < n ∧ (ps.getD k (0, 0)).2 < m) : Ev (fun k => impl_marks.f k (n : Int) (m : Int) (ps.map toS)) ((n : Int), wordsOf (inA n ps), (m : Int), wordsOf (inB m ps)) := by
  obtain ⟨K0, k0⟩ := ev_out (implBitsOf_ev (inA n ps) (inA_01 n ps) (by rw [inA_length]; exact hn))
  obtain ⟨K1, k1⟩ := ev_out (implBitsOf_ev (inB m ps) (inB_01 m ps) (by rw [inB_length]; exact hm))
  rw [inA_length] at k0
  rw [inB_length] at k1
  have h := implMarks_l0 ps n m hp hn hm hin ((n : Int), wordsOf (inA n ps), (m : Int), wordsOf (inB m ps)) ps.length 0 (List.replicate n 0) (List.replicate m 0) (by omega) List.length_replicate List.length_replicate (by
    rw [List.drop_zero]
    refine ev_mk (K0 + K1) fun k hk => ?_
    have e0 : impl_bitsOf.f k (setAll (List.replicate n 0) (ps.map (·.1))) = _ := k0 k (by omega)
    have e1 : impl_bitsOf.f k (setAll (List.replicate m 0) (ps.map (·.2))) = _ := k1 k (by omega)
    rw [e0, Option.bind_some, e1, Option.bind_some])
  refine Ev.congr (fun k => ?_) h
  unfold impl_marks.f
  rw [if_pos (by omega), Int.toNat_natCast, if_pos (by omega), if_pos (by omega), Int.toNat_natCast, if_pos (by omega), List.length_map]
  rfl
theorem implUnmarked_ev (b ys : List Int) (n : Int) (hb5 : b.length ≤ 5000) (hl : ys.length = b.length) (h01 : ∀ j, j < ys.length → ys.getD j 0 = 0 ∨ ys.getD j 0 = 1) : Ev (fun k => impl_unmarked.f k b n (wordsOf ys)) (restP b ys) := by
  have h := unmarked_l0 b n (wordsOf ys) (nb ys) (words_lt ys h01) (by unfold wordsOf; rw [wordsTo_length]; omega) hb5 (by rw [nb_length]; exact hl) (fun i hi => by rw [bitAt_words ys h01 i (by omega), nb_get ys i (by omega)]; omega) (nb_01 ys h01) b.length 0 [] (by omega) (Nat.le_refl _)
  rw [List.drop_zero, List.drop_zero, List.nil_append] at h
  exact h
theorem implPatchOf_ev (a b : List Int) : Ev (fun k => impl_PatchOf.f k a b) (patchR a b) := by
  unfold patchR
  by_cases c : a.length ≤ 301 ∧ b.length ≤ 301
  · rw [if_pos c]
    have hin := chain_in (ends_chain a b)
    have hel := ends_length a b
    obtain ⟨K0, k0⟩ := ev_out (implcommonOf_ev a b c.1 c.2)
    obtain ⟨K1, k1⟩ := ev_out (implMarks_ev (ends a b) a.length b.length (by omega) (by omega) (by omega) hin)
    obtain ⟨K2, k2⟩ := ev_out (implUnmarked_ev b (inB b.length (ends a b)) (b.length : Int) (by omega) (inB_length _ _) (inB_01 _ _))
    refine ev_mk (K0 + K1 + K2) fun k hk => ?_
    have e0 : impl_commonOf.f k a b = some ((ends a b).map toS) := k0 k (by omega)
    unfold impl_PatchOf.f
    rw [areListed_eq', Option.bind_some, decide_eq_true c, if_pos rfl, e0, Option.bind_some, k1 k (by omega), Option.bind_some, k2 k (by omega), Option.bind_some]
  · rw [if_neg c]
    refine Ev.congr (f := fun _ => some _) (fun k => ?_) (Ev.now _)
    unfold impl_PatchOf.f
    rw [areListed_eq', Option.bind_some, decide_eq_false c, if_neg (by decide)]
theorem specRest_l1 (b ys : List Int) (N : Int) (W1 : List Int) (M : Int) (W2 : List Int) (h5 : b.length ≤ 5000) (hl : ys.length = b.length) (h01 : ∀ j, j < ys.length → ys.getD j 0 = 0 ∨ ys.getD j 0 = 1) (d : Nat) : ∀ (i : Nat) (acc : List Int), i + d = b.length → acc.length ≤ i → Ev (fun k => spec_l12Patch.l1 k b ys (i : Int) N W1 M W2 acc) (N, W1, M, W2, acc ++ keep (b.drop i) ((nb ys).drop i)) := by
  induction d with
  | zero =>
    intro i acc h ha
    refine Ev.step (f := fun _ => some _) (fun k => ?_) (Ev.now _)
    rw [spec_l12Patch.l1, if_neg (by omega), List.drop_eq_nil_of_le (by omega), keep, List.append_nil]
    intros; contradiction
  | succ d ih =>
    intro i acc h ha
    have hg := nb_get ys i (by omega)
    rw [keep_step b (nb ys) i (by omega) (by rw [nb_length]; omega)]
    by_cases q : ys.getD i 0 = 0
    · refine Ev.step (fun k => ?_) (by rw [if_pos (by omega), List.append_cons]; exact ih (i + 1) (acc ++ [b.getD i 0]) (by omega) (by rw [List.length_append]; simp; omega))
      rw [spec_l12Patch.l1, if_pos (by omega), if_pos (by omega), if_pos (by omega), rd_nat, if_pos q, if_pos (by omega), rd_nat, w64 (by omega) (by omega)]
      rfl
    · have := h01 i (by omega)
      refine Ev.step (fun k => ?_) (by rw [if_neg (by omega)]; exact ih (i + 1) acc (by omega) (by omega))
      rw [spec_l12Patch.l1, if_pos (by omega), if_pos (by omega), if_pos (by omega), rd_nat, if_neg q, w64 (by omega) (by omega)]
      rfl
theorem specP_l0 (b : List Int) (ps : List (Nat × Nat)) (n m : Nat) (hp : ps.length ≤ 5000) (hn : n ≤ 5000) (hm : m ≤ 5000) (hin : ∀ k, k < ps.length → (ps.getD k (0, 0)).1 < n ∧ (ps.getD k (0, 0)).2 < m) (r : Int × List Int × Int × List Int × List Int) (d : Nat) : ∀ (i : Nat) (x y : List Int), i + d = ps.length → x.length = n → y.length = m →
    Ev (fun k => (spec_BitsOf.f k (setAll x ((ps.drop i).map (·.1)))).bind fun bt124 => ((spec_BitsOf.f k (setAll y ((ps.drop i).map (·.2)))).bind fun bt129 => (spec_l12Patch.l1 k b (setAll y ((ps.drop i).map (·.2))) 0 bt124.1 bt124.2.1 bt129.1 bt129.2.1 ([] : List Int)))) r →
    Ev (fun k => spec_l12Patch.l0 k b (ps.map toS) x y (i : Int)) r := by
  induction d with
  | zero =>
    intro i x y h hx hy hk
    rw [List.drop_eq_nil_of_le (by omega)] at hk
    refine Ev.step (fun k => ?_) hk
    rw [spec_l12Patch.l0, if_neg (by rw [List.length_map]; omega)]
    rfl
  | succ d ih =>
    intro i x y h hx hy hk
    rw [drop_pair ps i (by omega)] at hk
    have hi := hin i (by omega)
    refine Ev.step (fun k => ?_) (ih (i + 1) (x.set (ps.getD i (0, 0)).1 1) (y.set (ps.getD i (0, 0)).2 1) (by omega) (by rw [List.length_set]; exact hx) (by rw [List.length_set]; exact hy) hk)
    have e0 : (toS (ps.getD i (0, 0))).f0 = ((ps.getD i (0, 0)).1 : Int) := rfl
    have e1 : (toS (ps.getD i (0, 0))).f1 = ((ps.getD i (0, 0)).2 : Int) := rfl
    rw [spec_l12Patch.l0, if_pos (by rw [List.length_map]; omega), if_pos (by omega), rdT70, map_toS _ _ (by omega), e0, e1, if_pos (by omega), if_pos (by omega), if_pos (by omega), if_pos (by omega), w64 (by omega) (by omega), Int.toNat_natCast, Int.toNat_natCast]
    rfl
theorem specPatch_f (b : List Int) (ps : List (Nat × Nat)) (n : Nat) (hp : ps.length ≤ 5000) (hn : n ≤ 5000) (hm : b.length ≤ 5000) (hin : ∀ k, k < ps.length → (ps.getD k (0, 0)).1 < n ∧ (ps.getD k (0, 0)).2 < b.length) : Ev (fun k => spec_l12Patch.f k (n : Int) b (ps.map toS)) ((n : Int), wordsOf (inA n ps), (b.length : Int), wordsOf (inB b.length ps), restP b (inB b.length ps)) := by
  obtain ⟨K0, k0⟩ := ev_out (specBitsOf_ev (inA n ps) (inA_01 n ps) (by rw [inA_length]; exact hn))
  obtain ⟨K1, k1⟩ := ev_out (specBitsOf_ev (inB b.length ps) (inB_01 b.length ps) (by rw [inB_length]; exact hm))
  rw [inA_length] at k0
  rw [inB_length] at k1
  obtain ⟨K2, k2⟩ := ev_out (specRest_l1 b (inB b.length ps) (n : Int) (wordsOf (inA n ps)) (b.length : Int) (wordsOf (inB b.length ps)) hm (inB_length _ _) (inB_01 _ _) b.length 0 [] (by omega) (Nat.le_refl _))
  have h := specP_l0 b ps n b.length hp hn hm hin ((n : Int), wordsOf (inA n ps), (b.length : Int), wordsOf (inB b.length ps), restP b (inB b.length ps)) ps.length 0 (List.replicate n 0) (List.replicate b.length 0) (by omega) List.length_replicate List.length_replicate (by
    rw [List.drop_zero]
    refine ev_mk (K0 + K1 + K2) fun k hk => ?_
    have e0 : spec_BitsOf.f k (setAll (List.replicate n 0) (ps.map (·.1))) = _ := k0 k (by omega)
    have e1 : spec_BitsOf.f k (setAll (List.replicate b.length 0) (ps.map (·.2))) = _ := k1 k (by omega)
    rw [e0, Option.bind_some, e1, Option.bind_some]
    have e2 := k2 k (by omega)
    rw [List.drop_zero, List.drop_zero, List.nil_append] at e2
    exact e2)
  refine Ev.congr (fun k => ?_) h
  unfold spec_l12Patch.f
  rw [if_pos (by omega), Int.toNat_natCast, if_pos (by omega), if_pos (by omega), Int.toNat_natCast, if_pos (by omega)]
  rfl
theorem specPatchOf_ev (a b : List Int) : Ev (fun k => spec_PatchOf.f k a b) (patchR a b) := by
  have hj : ¬ (a.length ≤ 301 ∧ b.length ≤ 301) → ∀ k, 1 ≤ k → spec_PatchOf.j0 k a b true = some (patchR a b) := by
    intro h k hk
    obtain ⟨k, rfl⟩ : ∃ m, k = m + 1 := ⟨k - 1, by omega⟩
    unfold patchR
    rw [spec_PatchOf.j0, if_pos rfl, if_neg h]
  by_cases c1 : (a.length : Int) ≤ 301
  · by_cases c2 : (b.length : Int) ≤ 301
    · have c : a.length ≤ 301 ∧ b.length ≤ 301 := ⟨by omega, by omega⟩
      have hin := chain_in (ends_chain a b)
      have hel := ends_length a b
      obtain ⟨K0, k0⟩ := ev_out (specCommonOf_ev a b)
      have hpo : pairsOf a b = (ends a b).map toS := by unfold pairsOf; rw [if_pos c]; rfl
      rw [hpo] at k0
      obtain ⟨K1, k1⟩ := ev_out (specPatch_f b (ends a b) a.length (by omega) (by omega) (by omega) hin)
      refine ev_mk (K0 + K1 + 1) fun k hk => ?_
      obtain ⟨k, rfl⟩ : ∃ m, k = m + 1 := ⟨k - 1, by omega⟩
      unfold spec_PatchOf.f spec_l12Right.f patchR
      rw [Option.bind_some, decide_eq_true c1, if_pos rfl, Option.bind_some, decide_eq_true c2, Bool.not_true, spec_PatchOf.j0, if_neg (by decide), k0 k (by omega), Option.bind_some, k1 k (by omega), Option.bind_some, if_pos c]
    · refine ev_mk 1 fun k hk => ?_
      unfold spec_PatchOf.f spec_l12Right.f
      rw [Option.bind_some, decide_eq_true c1, if_pos rfl, Option.bind_some, decide_eq_false c2, Bool.not_false, hj (by omega) k hk]
  · refine ev_mk 1 fun k hk => ?_
    unfold spec_PatchOf.f spec_l12Right.f
    rw [Option.bind_some, decide_eq_false c1, if_neg (by decide), hj (by omega) k hk]

-- the drawing of inputs
/-- A cursor over code: what is kept of it. 'B': how far it may have gone. -/
def Cur (code : List Int) (B : Int) (t u : Int) : Prop := (∀ x ∈ code, 0 ≤ x ∧ x ≤ 255) ∧ code.length ≤ 140737488351232 ∧ 0 ≤ t ∧ t ≤ B ∧ 0 ≤ u ∧ u ≤ 66600
theorem Cur.more {code : List Int} {B B' t u : Int} (h : Cur code B t u) (hB : B ≤ B') : Cur code B' t u := ⟨h.1, h.2.1, h.2.2.1, by have := h.2.2.2.1; omega, h.2.2.2.2⟩
theorem rd_code {code : List Int} (h : ∀ x ∈ code, 0 ≤ x ∧ x ≤ 255) (i : Int) : 0 ≤ rd code i ∧ rd code i ≤ 255 := by
  unfold rd
  rw [List.getD_eq_getElem?_getD]
  cases hq : code[i.toNat]? with
  | none => exact ⟨by show (0 : Int) ≤ 0; omega, by show (0 : Int) ≤ 255; omega⟩
  | some x => exact h x (List.mem_of_getElem? hq)
theorem pick_ev {code : List Int} {B t u : Int} (h : Cur code B t u) (hB : B ≤ 1000000000) (n : Int) (hn : n ≤ 1000000000000) :
    ∃ v t' u', spec_l01Cur_pick.f code t u n = some (v, t', u') ∧ 0 ≤ v ∧ (1 ≤ n → v < n) ∧ (n < 2 → v = 0) ∧ Cur code (B + 1) t' u' := by
  obtain ⟨h1, h2, h3, h4, h5, h6⟩ := h
  unfold spec_l01Cur_pick.f
  by_cases c0 : n < 2
  · exact ⟨0, t, u, if_pos c0, by omega, fun _ => by omega, fun _ => rfl, h1, h2, h3, by omega, h5, h6⟩
  · have npos : 0 < n := by omega
    have wt : wrap64 (t + 1) = t + 1 := w64 (by omega) (by omega)
    rw [if_neg c0]
    by_cases c1 : t < (code.length : Int)
    · obtain ⟨r0, r1⟩ := rd_code h1 t
      refine ⟨Int.tmod (rd code t) n, t + 1, u, by rw [if_pos c1, if_pos h3, if_neg (by omega), w64 (by omega) (by omega), wt], Int.tmod_nonneg _ r0, fun _ => Int.tmod_lt_of_pos _ npos, fun hn2 => absurd hn2 c0, h1, h2, by omega, by omega, h5, h6⟩
    · have w1 : wrap64 (u * 1103) = u * 1103 := w64 (by omega) (by omega)
      have w2 : wrap64 (u * 1103 + 12345) = u * 1103 + 12345 := w64 (by omega) (by omega)
      have s0 : 0 ≤ Int.tmod (u * 1103 + 12345) 65521 := Int.tmod_nonneg _ (by omega)
      have s1 : Int.tmod (u * 1103 + 12345) 65521 < 65521 := Int.tmod_lt_of_pos _ (by omega)
      by_cases c2 : (code.length : Int) > 0
      · have i0 : 0 ≤ Int.tmod t (code.length : Int) := Int.tmod_nonneg _ h3
        have i1 : Int.tmod t (code.length : Int) < (code.length : Int) := Int.tmod_lt_of_pos _ c2
        obtain ⟨r0, r1⟩ := rd_code h1 (Int.tmod t (code.length : Int))
        have d0 : 0 ≤ Int.tdiv (Int.tmod (u * 1103 + 12345) 65521) 7 := Int.tdiv_nonneg s0 (by omega)
        have d1 : Int.tdiv (Int.tmod (u * 1103 + 12345) 65521) 7 ≤ 65521 := by
          have := Int.tdiv_le_self 7 s0
          omega
        refine ⟨Int.tmod (Int.tdiv (Int.tmod (u * 1103 + 12345) 65521) 7 + rd code (Int.tmod t (code.length : Int))) n, t + 1, Int.tmod (u * 1103 + 12345) 65521, ?_, Int.tmod_nonneg _ (by omega), fun _ => Int.tmod_lt_of_pos _ npos, fun hn2 => absurd hn2 c0, h1, h2, by omega, by omega, s0, by omega⟩
        rw [if_neg c1, if_pos c2, if_neg (by omega), if_pos i0, if_pos i1, if_neg (by omega), w1, w2, wt, w64 (x := Int.tdiv (Int.tmod (u * 1103 + 12345) 65521) 7) (by omega) (by omega), w64 (x := rd code (Int.tmod t (code.length : Int))) (by omega) (by omega), w64 (by omega) (by omega)]
      · refine ⟨(0 : Int) % n, t + 1, Int.tmod (u * 1103 + 12345) 65521, by rw [if_neg c1, if_neg c2, if_neg (by omega), w1, w2, wt], Int.emod_nonneg _ (by omega), fun _ => Int.emod_lt_of_pos _ npos, fun hn2 => absurd hn2 c0, h1, h2, by omega, by omega, s0, by omega⟩
theorem open_ev {code : List Int} (h1 : ∀ x ∈ code, 0 ≤ x ∧ x ≤ 255) (h2 : code.length ≤ 140737488351232) : ∃ t u, spec_l01Open.f code = some (code, t, u) ∧ Cur code 0 t u := by
  refine ⟨0, 89 + ((code.length : Int) % 1000), rfl, h1, h2, by omega, by omega, ?_, ?_⟩
  · have := Int.emod_nonneg (code.length : Int) (show (1000 : Int) ≠ 0 by omega); omega
  · have := Int.emod_lt_of_pos (code.length : Int) (show (0 : Int) < 1000 by omega); omega
theorem code_wf {code : List Int} (h : ∀ x ∈ code, (Lit.int .u8 x).wf = true) : ∀ x ∈ code, 0 ≤ x ∧ x ≤ 255 := fun x hx => by
  have := h x hx
  simp only [Lit.wf, IntKind.min, IntKind.max, IntKind.signed, IntKind.bits, Bool.and_eq_true, decide_eq_true_eq] at this
  simpa using this
theorem size_ev {code : List Int} {B t u : Int} (h : Cur code B t u) (hB : B ≤ 1000000000) (n : Int) (h0 : 0 ≤ n) (hn : n ≤ 1000000) :
    ∃ v t' u', spec_l01Cur_size.f code t u n = some (v, t', u') ∧ 0 ≤ v ∧ v ≤ n ∧ Cur code (B + 1) t' u' := by
  have hl := h.2.1
  unfold spec_l01Cur_size.f
  have w1 : wrap64 ((code.length : Int) / 8) = (code.length : Int) / 8 := w64 (by omega) (by omega)
  have w2 : wrap64 (1 + (code.length : Int) / 8) = 1 + (code.length : Int) / 8 := w64 (by omega) (by omega)
  have m1 : mn n (1 + (code.length : Int) / 8) ≤ n ∧ 0 ≤ mn n (1 + (code.length : Int) / 8) := by unfold mn; split <;> omega
  rw [w1, w2, w64 (x := mn n (1 + (code.length : Int) / 8) + 1) (by omega) (by omega)]
  obtain ⟨v, t', u', e, v0, v1, _, hc⟩ := pick_ev h hB (mn n (1 + (code.length : Int) / 8) + 1) (by omega)
  refine ⟨v, t', u', ?_, v0, ?_, hc⟩
  · rw [e, Option.bind_some]
  · have := v1 (by omega); omega
theorem wide_ev {code : List Int} {B t u : Int} (h : Cur code B t u) (hB : B ≤ 900000000) (n : Int) (h0 : 1 ≤ n) (hn : n ≤ 1000000000000) :
    ∃ v t' u', spec_l01Cur_wide.f code t u n = some (v, t', u') ∧ 0 ≤ v ∧ v < n ∧ Cur code (B + 3) t' u' := by
  obtain ⟨v1, t1, u1, e1, a1, b1, _, c1⟩ := pick_ev h (by omega) 256 (by omega)
  obtain ⟨v2, t2, u2, e2, a2, b2, _, c2⟩ := pick_ev c1 (by omega) 256 (by omega)
  obtain ⟨v3, t3, u3, e3, a3, b3, _, c3⟩ := pick_ev c2 (by omega) 256 (by omega)
  have b1 := b1 (by omega)
  have b2 := b2 (by omega)
  have b3 := b3 (by omega)
  refine ⟨Int.tmod (65536 * v1 + 256 * v2 + v3) n, t3, u3, ?_, Int.tmod_nonneg _ (by omega), Int.tmod_lt_of_pos _ (by omega), c3.more (by omega)⟩
  unfold spec_l01Cur_wide.f
  rw [e1, Option.bind_some, e2, Option.bind_some, e3, Option.bind_some, if_neg (by omega), w64 (x := 65536 * v1) (by omega) (by omega), w64 (x := 256 * v2) (by omega) (by omega), w64 (x := 65536 * v1 + 256 * v2) (by omega) (by omega), w64 (by omega) (by omega)]
theorem numbers_l0 (x2 : Int) (hx : x2 ≤ 1000000000000) (c : Nat) : ∀ {code : List Int} {B t u : Int} (out : List Int), Cur code B t u → B + 3 * (c : Int) ≤ 900000000 → out.length + c ≤ 10000000 → (∀ x ∈ out, 0 ≤ x ∧ x < mx 1 x2) →
    ∃ l t' u', Ev (fun k => spec_l01Cur_numbers.l0 k x2 out (c : Int) code t u) (l, t', u') ∧ l.length = out.length + c ∧ (∀ x ∈ l, 0 ≤ x ∧ x < mx 1 x2) ∧ Cur code (B + 3 * (c : Int)) t' u' := by
  have m1 : 1 ≤ mx 1 x2 ∧ mx 1 x2 ≤ 1000000000000 := by unfold mx; split <;> omega
  induction c with
  | zero =>
    intro code B t u out h _ _ ho
    refine ⟨out, t, u, Ev.step (f := fun _ => some (out, t, u)) (fun k => ?_) (Ev.now _), by omega, ho, h.more (by omega)⟩
    rw [spec_l01Cur_numbers.l0, if_neg (by omega)]
  | succ c ih =>
    intro code B t u out h hB hl ho
    obtain ⟨v, t1, u1, e1, a1, b1, c1⟩ := wide_ev h (by omega) (mx 1 x2) m1.1 m1.2
    obtain ⟨l, t', u', hev, hlen, hin, hc⟩ := ih (out ++ [v]) c1 (by omega) (by simp; omega) (fun x hx => by
      rcases List.mem_append.1 hx with h | h
      · exact ho x h
      · rw [List.mem_singleton.1 h]; exact ⟨a1, b1⟩)
    refine ⟨l, t', u', Ev.step (fun k => ?_) hev, by rw [hlen]; simp; omega, hin, hc.more (by omega)⟩
    rw [spec_l01Cur_numbers.l0, if_pos (by omega), e1, Option.bind_some, if_pos (by omega), w64 (by omega) (by omega), show ((c + 1 : Nat) : Int) - 1 = (c : Int) by omega]
theorem numbers_ev {code : List Int} {B t u : Int} (h : Cur code B t u) (n m : Int) (h0 : 0 ≤ n) (hn : n ≤ 1000) (hm : m ≤ 1000000000000) (hB : B ≤ 500000000) :
    ∃ l t' u', Ev (fun k => spec_l01Cur_numbers.f k code t u n m) (l, t', u') ∧ (l.length : Int) ≤ n ∧ (∀ x ∈ l, 0 ≤ x ∧ x < mx 1 m) ∧ Cur code (B + 4 * n + 4) t' u' := by
  obtain ⟨v, t1, u1, e1, a1, b1, c1⟩ := size_ev h (by omega) n h0 (by omega)
  obtain ⟨c, rfl⟩ := Int.eq_ofNat_of_zero_le a1
  obtain ⟨l, t', u', hev, hlen, hin, hc⟩ := numbers_l0 m hm c [] c1 (by omega) (by simp; omega) (fun x hx => by simp at hx)
  refine ⟨l, t', u', Ev.congr (fun k => ?_) hev, by rw [hlen]; simp; omega, hin, hc.more (by omega)⟩
  unfold spec_l01Cur_numbers.f
  rw [e1, Option.bind_some]

theorem once_ev {code : List Int} {B t u : Int} (h : Cur code B t u) (hB : B ≤ 1000000000) (n : Int) (hn : n ≤ 1000000000000) :
    ∃ b t' u', spec_l01Cur_once.f code t u n = some (b, t', u') ∧ Cur code (B + 1) t' u' := by
  obtain ⟨v, t', u', e, _, _, _, hc⟩ := pick_ev h hB n hn
  refine ⟨(v == wrap64 (n - 1)), t', u', ?_, hc⟩
  unfold spec_l01Cur_once.f
  rw [e, Option.bind_some]

-- two drawn lists
theorem rows_j2 {code : List Int} {B t u : Int} (h : Cur code B t u) (hB : B ≤ 900000000) (a b : List Int) (ha : a.length ≤ 400) (hb : b.length ≤ 400) :
    ∃ a' b' t' u', Ev (fun k => spec_l01Cur_rows.j2 k a b code t u) (a', b', t', u') ∧ a'.length ≤ 400 ∧ b'.length ≤ 400 ∧ Cur code (B + 2) t' u' := by
  obtain ⟨o, t1, u1, e1, c1⟩ := once_ev h (by omega) 60 (by omega)
  cases o with
  | false =>
    refine ⟨a, b, t1, u1, Ev.step (f := fun _ => some _) (fun k => ?_) (Ev.now _), ha, hb, c1.more (by omega)⟩
    rw [spec_l01Cur_rows.j2, e1, Option.bind_some, if_neg (by simp)]
  | true =>
    obtain ⟨v, t2, u2, e2, a2, b2, _, c2⟩ := pick_ev c1 (by omega) 2 (by omega)
    have b2 := b2 (by omega)
    refine ⟨List.replicate (301 + v).toNat 0, b, t2, u2, Ev.step (f := fun _ => some _) (fun k => ?_) (Ev.now _), by rw [List.length_replicate]; omega, hb, c2.more (by omega)⟩
    rw [spec_l01Cur_rows.j2, e1, Option.bind_some, if_pos rfl, e2, Option.bind_some, w64 (by omega) (by omega), if_pos (by omega), if_pos (by omega)]
theorem rows_l0 (a : List Int) (ha : a.length ≤ 100) (d : Nat) : ∀ {code : List Int} {B t u : Int} (i : Nat) (b : List Int), i + d = a.length → Cur code B t u → B + 3 * (d : Int) ≤ 800000 → b.length + 2 * d ≤ 400 →
    ∃ a' b' t' u', Ev (fun k => spec_l01Cur_rows.l0 k a b (i : Int) code t u) (a', b', t', u') ∧ a'.length ≤ 400 ∧ b'.length ≤ 400 ∧ Cur code (B + 3 * (d : Int) + 100) t' u' := by
  induction d with
  | zero =>
    intro code B t u i b hi h hB hb
    obtain ⟨o, t1, u1, e1, c1⟩ := once_ev h (by omega) 5 (by omega)
    cases o with
    | false =>
      obtain ⟨a', b', t', u', hev, la, lb, hc⟩ := rows_j2 c1 (by omega) a b (by omega) (by omega)
      refine ⟨a', b', t', u', Ev.step (fun k => ?_) hev, la, lb, hc.more (by omega)⟩
      rw [spec_l01Cur_rows.l0, if_neg (by omega), e1, Option.bind_some, if_neg (by simp)]
    | true =>
      obtain ⟨l, t2, u2, hn, ln, _, c2⟩ := numbers_ev c1 14 4 (by omega) (by omega) (by omega) (by omega)
      obtain ⟨a', b', t', u', hev, la, lb, hc⟩ := rows_j2 c2 (by omega) a l (by omega) (by omega)
      obtain ⟨K1, h1⟩ := ev_out hn
      obtain ⟨K2, h2⟩ := ev_out hev
      refine ⟨a', b', t', u', ev_mk (K1 + K2 + 1) fun k hk => ?_, la, lb, hc.more (by omega)⟩
      obtain ⟨k, rfl⟩ : ∃ m, k = m + 1 := ⟨k - 1, by omega⟩
      rw [spec_l01Cur_rows.l0, if_neg (by omega), e1, Option.bind_some, if_pos rfl, h1 k (by omega), Option.bind_some]
      exact h2 k (by omega)
  | succ d ih =>
    intro code B t u i b hi h hB hb
    have j1 : ∀ {B' t u : Int} (b' : List Int), Cur code B' t u → B' ≤ B + 2 → b'.length ≤ b.length + 1 → ∃ a' b'' t' u', Ev (fun k => spec_l01Cur_rows.j1 k a b' (i : Int) code t u) (a', b'', t', u') ∧ a'.length ≤ 400 ∧ b''.length ≤ 400 ∧ Cur code (B + 3 * ((d + 1 : Nat) : Int) + 100) t' u' := by
      intro B' t u b' h' hB' hb'
      obtain ⟨o, t1, u1, e1, c1⟩ := once_ev h' (by omega) 5 (by omega)
      cases o with
      | true =>
        obtain ⟨a', b'', t', u', hev, la, lb, hc⟩ := ih (i + 1) b' (by omega) c1 (by omega) (by omega)
        refine ⟨a', b'', t', u', Ev.step (fun k => ?_) hev, la, lb, hc.more (by omega)⟩
        rw [spec_l01Cur_rows.j1, e1, Option.bind_some, if_pos rfl, w64 (by omega) (by omega)]
        rfl
      | false =>
        obtain ⟨a', b'', t', u', hev, la, lb, hc⟩ := ih (i + 1) (b' ++ [rd a (i : Int)]) (by omega) c1 (by omega) (by simp; omega)
        refine ⟨a', b'', t', u', Ev.step (fun k => ?_) hev, la, lb, hc.more (by omega)⟩
        rw [spec_l01Cur_rows.j1, e1, Option.bind_some, if_neg (by simp), if_pos (by omega), if_pos (by omega), if_pos (by omega), w64 (by omega) (by omega)]
        rfl
    obtain ⟨o, t1, u1, e1, c1⟩ := once_ev h (by omega) 5 (by omega)
    cases o with
    | true =>
      obtain ⟨v, t2, u2, e2, a2, b2, _, c2⟩ := pick_ev c1 (by omega) 4 (by omega)
      obtain ⟨a', b', t', u', hev, la, lb, hc⟩ := j1 (b ++ [v]) c2 (by omega) (by simp)
      refine ⟨a', b', t', u', Ev.step (fun k => ?_) hev, la, lb, hc⟩
      rw [spec_l01Cur_rows.l0, if_pos (by omega), e1, Option.bind_some, if_pos rfl, e2, Option.bind_some, if_pos (by omega)]
    | false =>
      obtain ⟨a', b', t', u', hev, la, lb, hc⟩ := j1 b c1 (by omega) (by omega)
      refine ⟨a', b', t', u', Ev.step (fun k => ?_) hev, la, lb, hc⟩
      rw [spec_l01Cur_rows.l0, if_pos (by omega), e1, Option.bind_some, if_neg (by simp)]
theorem rows_ev {code : List Int} {B t u : Int} (h : Cur code B t u) (hB : B ≤ 1000) :
    ∃ a b t' u', Ev (fun k => spec_l01Cur_rows.f k code t u) (a, b, t', u') ∧ a.length ≤ 400 ∧ b.length ≤ 400 ∧ Cur code (B + 1000) t' u' := by
  obtain ⟨v, t1, u1, e1, a1, b1, _, c1⟩ := pick_ev h (by omega) 3 (by omega)
  have b1 := b1 (by omega)
  obtain ⟨j, rfl⟩ := Int.eq_ofNat_of_zero_le a1
  have hr : rd [2, 4, 30] (j : Int) ≤ 30 := by
    have hj : j < 3 := by omega
    match j, hj with
    | 0, _ => decide
    | 1, _ => decide
    | 2, _ => decide
  obtain ⟨l, t2, u2, hn, ln, _, c2⟩ := numbers_ev c1 14 (rd [2, 4, 30] (j : Int)) (by omega) (by omega) (by omega) (by omega)
  obtain ⟨a, b, t', u', hev, la, lb, hc⟩ := rows_l0 l (by omega) l.length 0 [] (by omega) c2 (by omega) (by simp; omega)
  obtain ⟨K1, h1⟩ := ev_out hn
  obtain ⟨K2, h2⟩ := ev_out hev
  refine ⟨a, b, t', u', ev_mk (K1 + K2) fun k hk => ?_, la, lb, hc.more (by omega)⟩
  unfold spec_l01Cur_rows.f
  rw [Option.bind_some, e1, Option.bind_some, if_pos (by omega), if_pos (by simp; omega), h1 k (by omega), Option.bind_some]
  exact h2 k (by omega)

theorem lawSame_l0 (l : List Int) (hl : l.length ≤ 4000000) (d : Nat) : ∀ i : Nat, i + d = l.length → Ev (fun k => laws_same.l0 k l l (i : Int)) true := by
  induction d with
  | zero =>
    intro i h
    refine Ev.step (f := fun _ => some true) (fun k => ?_) (Ev.now true)
    rw [laws_same.l0, if_neg (by omega)]
  | succ d ih =>
    intro i h
    refine Ev.step (f := fun k => laws_same.l0 k l l ((i + 1 : Nat) : Int)) (fun k => ?_) (ih (i + 1) (by omega))
    rw [laws_same.l0, if_pos (by omega), if_pos (by omega), if_pos (by omega), if_pos rfl, w64 (by omega) (by omega)]
    rfl
theorem lawSame_ev (l : List Int) (hl : l.length ≤ 4000000) : Ev (fun k => laws_same.f k l l) true := by
  refine Ev.congr (f := fun k => laws_same.l0 k l l ((0 : Nat) : Int)) (fun k => ?_) (lawSame_l0 l hl l.length 0 (by omega))
  unfold laws_same.f
  rw [if_pos rfl]
  rfl

-- what is kept of both rows is the same, and the one is woven from the other
def Up (n : Nat) : Nat → List Nat → Prop
  | _, [] => True
  | i, x :: xs => i ≤ x ∧ x < n ∧ Up n (x + 1) xs
theorem Up.less {n i i' : Nat} {is : List Nat} (h : Up n i' is) (hi : i ≤ i') : Up n i is := by
  cases is with
  | nil => trivial
  | cons x xs => exact ⟨by have := h.1; omega, h.2⟩
theorem Up.mem {n : Nat} : ∀ {is : List Nat} {i j : Nat}, Up n i is → j ∈ is → i ≤ j := by
  intro is
  induction is with
  | nil => intro i j _ hj; cases hj
  | cons x xs ih =>
    intro i j h hj
    obtain ⟨h1, h2, h3⟩ := h
    rcases List.mem_cons.1 hj with e | e
    · omega
    · have := ih h3 e; omega
theorem chain_upA {a b : List Int} : ∀ {ps : List (Nat × Nat)} {i j : Nat}, Chain a b i j ps → Up a.length i (ps.map (·.1)) := by
  intro ps
  induction ps with
  | nil => intro i j _; trivial
  | cons p ps ih => intro i j h; exact ⟨h.1, h.2.1, ih h.2.2.2.2.2⟩
theorem chain_upB {a b : List Int} : ∀ {ps : List (Nat × Nat)} {i j : Nat}, Chain a b i j ps → Up b.length j (ps.map (·.2)) := by
  intro ps
  induction ps with
  | nil => intro i j _; trivial
  | cons p ps ih => intro i j h; exact ⟨h.2.2.1, h.2.2.2.1, ih h.2.2.2.2.2⟩
theorem chain_same {a b : List Int} : ∀ {ps : List (Nat × Nat)} {i j : Nat}, Chain a b i j ps → ps.map (fun p => a.getD p.1 0) = ps.map (fun p => b.getD p.2 0) := by
  intro ps
  induction ps with
  | nil => intro i j _; rfl
  | cons p ps ih =>
    intro i j h
    rw [List.map_cons, List.map_cons, h.2.2.2.2.1, ih h.2.2.2.2.2]
theorem keep_up (a xs : List Int) (hx : xs.length = a.length) (d : Nat) : ∀ (i : Nat) (is : List Nat), i + d = a.length → Up a.length i is → (∀ j, i ≤ j → j < a.length → xs.getD j 0 = if j ∈ is then 1 else 0) → keep (a.drop i) (xs.drop i) = is.map (fun j => a.getD j 0) := by
  induction d with
  | zero =>
    intro i is h hu _
    rw [List.drop_eq_nil_of_le (by omega), List.drop_eq_nil_of_le (by omega)]
    cases is with
    | nil => rfl
    | cons x xs => have := hu.1; have := hu.2.1; omega
  | succ d ih =>
    intro i is h hu hg
    rw [keep_step a xs i (by omega) (by omega)]
    by_cases c : i ∈ is
    · rw [hg i (Nat.le_refl _) (by omega), if_pos c, if_pos rfl]
      cases is with
      | nil => cases c
      | cons x is =>
        have hx : x = i := by
          rcases List.mem_cons.1 c with e | e
          · exact e.symm
          · have := Up.mem hu.2.2 e; have := hu.1; omega
        subst hx
        rw [List.map_cons, ih (x + 1) is (by omega) hu.2.2 (fun j h1 h2 => by
          rw [hg j (by omega) h2]
          by_cases q : j ∈ is
          · rw [if_pos q, if_pos (List.mem_cons_of_mem _ q)]
          · rw [if_neg q, if_neg (fun h => by rcases List.mem_cons.1 h with e | e; omega; exact q e)])]
    · rw [hg i (Nat.le_refl _) (by omega), if_neg c, if_neg (by decide)]
      refine ih (i + 1) is (by omega) ?_ (fun j h1 h2 => hg j (by omega) h2)
      cases is with
      | nil => trivial
      | cons x is =>
        refine ⟨?_, hu.2⟩
        have := hu.1
        have : x ≠ i := fun e => c (by rw [e]; exact List.mem_cons_self ..)
        omega
theorem keep_a (a b : List Int) : keep a (inA a.length (ends a b)) = (ends a b).map (fun p => a.getD p.1 0) := by
  have h := keep_up a (inA a.length (ends a b)) (inA_length _ _) a.length 0 ((ends a b).map (·.1)) (by omega) (chain_upA (ends_chain a b)) (fun j _ h => inA_get _ _ j h)
  rw [List.drop_zero, List.drop_zero, List.map_map] at h
  exact h
theorem keep_b (a b : List Int) : keep b (inB b.length (ends a b)) = (ends a b).map (fun p => b.getD p.2 0) := by
  have h := keep_up b (inB b.length (ends a b)) (inB_length _ _) b.length 0 ((ends a b).map (·.2)) (by omega) (chain_upB (ends_chain a b)) (fun j _ h => inB_get _ _ j h)
  rw [List.drop_zero, List.drop_zero, List.map_map] at h
  exact h
theorem keep_ab (a b : List Int) : keep a (inA a.length (ends a b)) = keep b (inB b.length (ends a b)) := by
  rw [keep_a, keep_b, chain_same (ends_chain a b)]
theorem weave_back (ys : List Int) (h01 : ∀ x ∈ ys, x = 0 ∨ x = 1) : ∀ b : List Int, b.length = ys.length → weave ys (keep b ys) (keep b (nb ys)) = b := by
  induction ys with
  | nil => intro b h; rw [List.eq_nil_of_length_eq_zero h]; rfl
  | cons y ys ih =>
    intro b h
    cases b with
    | nil => simp at h
    | cons x xs =>
      have hi := ih (fun z hz => h01 z (List.mem_cons_of_mem _ hz)) xs (by simpa using h)
      have e : nb (y :: ys) = (1 - y) :: nb ys := rfl
      rw [e]
      rcases h01 y (List.mem_cons_self ..) with q | q
      · subst q
        have a1 : keep (x :: xs) (0 :: ys) = keep xs ys := by rw [keep, if_neg (by decide)]
        have a2 : keep (x :: xs) ((1 - 0) :: nb ys) = x :: keep xs (nb ys) := by rw [keep, if_pos (by decide)]
        rw [a1, a2, weave, if_neg (by decide)]
        show x :: weave ys (keep xs ys) (keep xs (nb ys)) = x :: xs
        rw [hi]
      · subst q
        have a1 : keep (x :: xs) (1 :: ys) = x :: keep xs ys := by rw [keep, if_pos rfl]
        have a2 : keep (x :: xs) ((1 - 1) :: nb ys) = keep xs (nb ys) := by rw [keep, if_neg (by decide)]
        rw [a1, a2, weave, if_pos rfl]
        show x :: weave ys (keep xs ys) (keep xs (nb ys)) = x :: xs
        rw [hi]
theorem count_nb (ys : List Int) (h01 : ∀ x ∈ ys, x = 0 ∨ x = 1) : (nb ys).count 1 = ys.count 0 := by
  induction ys with
  | nil => rfl
  | cons y ys ih =>
    have hi := ih (fun z hz => h01 z (List.mem_cons_of_mem _ hz))
    have e : nb (y :: ys) = (1 - y) :: nb ys := rfl
    rw [e, List.count_cons, List.count_cons, hi]
    rcases h01 y (List.mem_cons_self ..) with q | q <;> subst q <;> rfl
theorem mem01 (l : List Int) (h : ∀ j, j < l.length → l.getD j 0 = 0 ∨ l.getD j 0 = 1) : ∀ x ∈ l, x = 0 ∨ x = 1 := by
  intro x hx
  obtain ⟨j, hj, rfl⟩ := List.getElem_of_mem hx
  have := h j hj
  rw [lget_lt _ _ _ hj] at this
  exact this
theorem okB_words (bs : List Int) (h : ∀ j, j < bs.length → bs.getD j 0 = 0 ∨ bs.getD j 0 = 1) (h5 : bs.length ≤ 5000) : okB (bs.length : Int) (wordsOf bs) = true := by
  unfold okB
  rw [Int.toNat_natCast, bits_back bs h]
  refine decide_eq_true ⟨by omega, by omega, ?_, rfl⟩
  unfold wordsOf
  rw [wordsTo_length]
theorem rest_length (a b : List Int) : (restP b (inB b.length (ends a b))).length = (inB b.length (ends a b)).count 0 := by
  unfold restP
  rw [keep_length (nb (inB b.length (ends a b))) b (by rw [nb_length, inB_length]), count_nb _ (mem01 _ (inB_01 _ _))]
theorem patchOf_back (a b : List Int) (h : a.length ≤ 301 ∧ b.length ≤ 301) : patchOf a (a.length : Int) (wordsOf (inA a.length (ends a b))) (b.length : Int) (wordsOf (inB b.length (ends a b))) (restP b (inB b.length (ends a b))) = (b, true) := by
  have ex : bitsL a.length (wordsOf (inA a.length (ends a b))) = inA a.length (ends a b) := by
    have := bits_back (inA a.length (ends a b)) (inA_01 _ _)
    rw [inA_length] at this; exact this
  have ey : bitsL b.length (wordsOf (inB b.length (ends a b))) = inB b.length (ends a b) := by
    have := bits_back (inB b.length (ends a b)) (inB_01 _ _)
    rw [inB_length] at this; exact this
  have ox := okB_words (inA a.length (ends a b)) (inA_01 _ _) (by rw [inA_length]; omega)
  have oy := okB_words (inB b.length (ends a b)) (inB_01 _ _) (by rw [inB_length]; omega)
  rw [inA_length] at ox
  rw [inB_length] at oy
  have k1 := keep_length (inA a.length (ends a b)) a (by rw [inA_length])
  have k2 := keep_length (inB b.length (ends a b)) b (by rw [inB_length])
  unfold patchOf
  rw [Int.toNat_natCast, Int.toNat_natCast, ex, ey, if_pos ⟨h.1, ox, oy, rfl, by omega, by rw [← k1, ← k2, keep_ab], (rest_length a b).symm⟩, keep_ab]
  unfold restP
  rw [weave_back _ (mem01 _ (inB_01 _ _)) b (by rw [inB_length])]
theorem rest_least (a b : List Int) : (restP b (inB b.length (ends a b))).length + Lcs.lcs a b = b.length := by
  have k2 := keep_length (inB b.length (ends a b)) b (by rw [inB_length])
  rw [keep_b, List.length_map] at k2
  have hl : (ends a b).length = Lcs.lcs a b := by
    unfold ends
    rw [Lcs.firstC_length a b a.length 0 0 (by omega) (by omega), Lcs.L_zero]
  have := count01 (inB b.length (ends a b)) (mem01 _ (inB_01 _ _))
  rw [inB_length] at this
  rw [rest_length]
  omega

theorem drawPatch_ev {code : List Int} (h1 : ∀ x ∈ code, 0 ≤ x ∧ x ≤ 255) (h2 : code.length ≤ 140737488351232) :
    ∃ a b, Ev (fun k => spec_DrawPatchOf.f k code) (a, b) ∧ a.length ≤ 400 ∧ b.length ≤ 400 := by
  obtain ⟨t0, u0, e0, c0⟩ := open_ev h1 h2
  obtain ⟨a, b, t1, u1, hr, ha, hb, c1⟩ := rows_ev c0 (by omega)
  obtain ⟨K1, k1⟩ := ev_out hr
  refine ⟨a, b, ev_mk K1 fun k hk => ?_, ha, hb⟩
  unfold spec_DrawPatchOf.f
  rw [e0, Option.bind_some, k1 k hk, Option.bind_some]
theorem FnPatchBack : laws_FnPatchBack.Pure := by
  intro code _ hc hw
  by_cases g : (code.length : Int) > 1048576
  · exact ⟨0, by unfold laws_FnPatchBack.f laws_big.f; rw [Option.bind_some, if_pos (decide_eq_true g)]⟩
  obtain ⟨a, b, hd, ha, hb⟩ := drawPatch_ev (code_wf hw) (by omega)
  obtain ⟨K1, h1⟩ := ev_out hd
  obtain ⟨K2, h2⟩ := ev_out (specPatchOf_ev a b)
  obtain ⟨K3, h3⟩ := ev_out (implPatchOf_ev a b)
  by_cases h : a.length ≤ 301 ∧ b.length ≤ 301
  · have e : patchR a b = ((a.length : Int), wordsOf (inA a.length (ends a b)), (b.length : Int), wordsOf (inB b.length (ends a b)), restP b (inB b.length (ends a b)), true) := if_pos h
    have hw1 := words_lt _ (inA_01 a.length (ends a b))
    have hw2 := words_lt _ (inB_01 b.length (ends a b))
    have hr := rest_least a b
    obtain ⟨K4, h4⟩ := ev_out (implPatch_ev a (a.length : Int) (wordsOf (inA a.length (ends a b))) (b.length : Int) (wordsOf (inB b.length (ends a b))) (restP b (inB b.length (ends a b))) hw1 hw2
      (by unfold wordsOf; rw [wordsTo_length, inA_length]; omega) (by unfold wordsOf; rw [wordsTo_length, inB_length]; omega) (by omega) (by omega) (by omega))
    rw [patchOf_back a b h] at h4
    obtain ⟨K5, h5⟩ := ev_out (lawSame_ev b (by omega))
    obtain ⟨K6, h6⟩ := ev_out (specCommonLen_ev a b)
    have e6 : lenOf a b = (Lcs.lcs a b : Int) := if_pos h
    rw [e6] at h6
    refine ⟨K1 + K2 + K3 + K4 + K5 + K6 + 1, ?_⟩
    unfold laws_FnPatchBack.f laws_big.f
    rw [Option.bind_some, if_neg (by rw [decide_eq_false g]; decide), h1 _ (by omega), Option.bind_some, h2 _ (by omega), Option.bind_some, h3 _ (by omega), Option.bind_some, e]
    dsimp only
    rw [if_neg (by decide), laws_FnPatchBack.j0, if_neg (by decide), Option.bind_some, if_pos (by simp; omega), List.nil_append, h4 _ (by omega), Option.bind_some]
    dsimp only
    rw [if_pos rfl, h5 _ (by omega), Option.bind_some, if_pos rfl, h6 _ (by omega), Option.bind_some, if_pos (by rw [w64 (by omega) (by omega)]; omega), beq_self_eq_true]
  · have e : patchR a b = (0, [], 0, [], [], false) := if_neg h
    refine ⟨K1 + K2 + K3 + 1, ?_⟩
    unfold laws_FnPatchBack.f laws_big.f
    rw [Option.bind_some, if_neg (by rw [decide_eq_false g]; decide), h1 _ (by omega), Option.bind_some, h2 _ (by omega), Option.bind_some, h3 _ (by omega), Option.bind_some, e]
    dsimp only
    rw [if_neg (by decide), laws_FnPatchBack.j0, if_pos (by decide)]
    rfl

end Go.Proofs.Ytdiemmcnekbfaaa.Pure
