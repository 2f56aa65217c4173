/- The program's PatchOf returns what the reference's returns, for all arguments (lists of more than 2^20 numbers are let pass by the statement itself). -/
import Derived.Test.YtdiemmcnekbfaaaQFnExactPatchOfx11
import Derived.Test.YtdiemmcnekbfaaaBase
import Derived.Test.YtdiemmcnekbfaaaLcs
import Derived.Test.YtdiemmcnekbfaaaBits
namespace Go.Proofs.Ytdiemmcnekbfaaa.Pure
open Go.RowKit Go.Proofs.Ytdiemmcnekbfaaa.QFnExactPatchOf Go.Proofs.YtdiemmcnekbfaaaW.PrintWords Go.Proofs.YtdiemmcnekbfaaaW.PrintLast Go.Proofs.YtdiemmcnekbfaaaW.PrintMore
open Go.Proofs.Ytdiemmcnekbfaaa Go.Proofs.Ytdiemmcnekbfaaa.Base Go.Proofs.Ytdiemmcnekbfaaa.Bits
set_option linter.unusedVariables false
set_option linter.unusedSimpArgs false

-- toIntS, eqIntS
theorem toIntS_l0 (l : List Int) (hl : l.length ≤ 4000000) (d : Nat) : ∀ i : Nat, i + d = l.length → Ev (fun k => laws_toIntS.l0 k l (l.take i ++ List.replicate d 0) (i : Int)) l := by
  induction d with
  | zero =>
    intro i h
    refine Ev.step (f := fun _ => some l) (fun k => ?_) (Ev.now l)
    rw [laws_toIntS.l0]
    rw [if_neg (by omega), List.take_of_length_le (by omega)]
    simp
  | succ d ih =>
    intro i h
    refine Ev.step (f := fun k => laws_toIntS.l0 k l (l.take (i + 1) ++ List.replicate d 0) ((i + 1 : Nat) : Int)) (fun k => ?_) (ih (i + 1) (by omega))
    rw [laws_toIntS.l0]
    rw [if_pos (by omega), if_pos (by omega), if_pos (by rw [fill_length l 0 i (d + 1) h]; omega), w64 (by omega) (by omega), rd_nat, Int.toNat_natCast, fill_set l 0 _ i d h rfl]
    rfl
theorem toIntS_ev (l : List Int) (hl : l.length ≤ 4000000) : Ev (fun k => laws_toIntS.f k l) l := by
  refine Ev.congr (f := fun k => laws_toIntS.l0 k l (l.take 0 ++ List.replicate l.length 0) ((0 : Nat) : Int)) (fun k => ?_) (toIntS_l0 l hl l.length 0 (by omega))
  unfold laws_toIntS.f
  rw [if_pos (by omega), Int.toNat_natCast, if_pos (by omega)]
  rfl
theorem eqIntS_l0 (l : List Int) (hl : l.length ≤ 4000000) (d : Nat) : ∀ i : Nat, i + d = l.length → Ev (fun k => laws_eqIntS.l0 k l l (i : Int)) true := by
  induction d with
  | zero =>
    intro i h
    refine Ev.step (f := fun _ => some true) (fun k => ?_) (Ev.now true)
    rw [laws_eqIntS.l0]
    rw [if_neg (by omega)]
  | succ d ih =>
    intro i h
    refine Ev.step (f := fun k => laws_eqIntS.l0 k l l ((i + 1 : Nat) : Int)) (fun k => ?_) (ih (i + 1) (by omega))
    rw [laws_eqIntS.l0]
    rw [if_pos (by omega), if_pos (by omega), if_pos (by omega), if_pos rfl, w64 (by omega) (by omega)]
    rfl
theorem eqIntS_ev (l : List Int) (hl : l.length ≤ 4000000) : Ev (fun k => laws_eqIntS.f k l l) true := by
  refine Ev.congr (f := fun k => laws_eqIntS.l0 k l l ((0 : Nat) : Int)) (fun k => ?_) (eqIntS_l0 l hl l.length 0 (by omega))
  unfold laws_eqIntS.f
  rw [if_pos rfl]
  rfl

theorem eqUint64S_l0 (l : List Int) (hl : l.length ≤ 4000000) (d : Nat) : ∀ i : Nat, i + d = l.length → Ev (fun k => laws_eqUint64S.l0 k l l (i : Int)) true := by
  induction d with
  | zero =>
    intro i h
    refine Ev.step (f := fun _ => some true) (fun k => ?_) (Ev.now true)
    rw [laws_eqUint64S.l0]
    rw [if_neg (by omega)]
  | succ d ih =>
    intro i h
    refine Ev.step (f := fun k => laws_eqUint64S.l0 k l l ((i + 1 : Nat) : Int)) (fun k => ?_) (ih (i + 1) (by omega))
    rw [laws_eqUint64S.l0]
    rw [if_pos (by omega), if_pos (by omega), if_pos (by omega), if_pos rfl, w64 (by omega) (by omega)]
    rfl
theorem eqUint64S_ev (l : List Int) (hl : l.length ≤ 4000000) : Ev (fun k => laws_eqUint64S.f k l l) true := by
  refine Ev.congr (f := fun k => laws_eqUint64S.l0 k l l ((0 : Nat) : Int)) (fun k => ?_) (eqUint64S_l0 l hl l.length 0 (by omega))
  unfold laws_eqUint64S.f
  rw [if_pos rfl]
  rfl

-- the two tables
theorem rdL (T : List (List Int)) (i : Nat) : rd_L3 T (i : Int) = T.getD i [] := by unfold rd_L3; rw [Int.toNat_natCast]
theorem mx_eq (x y : Nat) : mx (x : Int) (y : Int) = ((max x y : Nat) : Int) := by unfold mx; split <;> omega
theorem L_le301 {a b : List Int} (ha : a.length ≤ 301) (i j : Nat) : Lcs.L a b i j ≤ 301 := Nat.le_trans (Lcs.L_le a b i j) ha

theorem specTable_l1 (a b : List Int) (ha : a.length ≤ 301) (hb : b.length ≤ 301) (i : Nat) (hi : i ≤ a.length)
    (next : ∀ T, Lcs.Rows a b i T → ∃ R, Ev (fun k => spec_l12Table.l0 k a b T ((i : Int) - 1)) R ∧ Lcs.Rows a b 0 R) (j : Nat) :
    ∀ T, j ≤ b.length + 1 → Lcs.Part a b i j T → ∃ R, Ev (fun k => spec_l12Table.l1 k a b T (i : Int) ((j : Int) - 1)) R ∧ Lcs.Rows a b 0 R := by
  induction j with
  | zero =>
    intro T _ hT
    obtain ⟨R, hR, h0⟩ := next T (Lcs.part_rows hT)
    refine ⟨R, Ev.step (f := fun k => spec_l12Table.l0 k a b T ((i : Int) - 1)) (fun k => ?_) hR, h0⟩
    rw [spec_l12Table.l1]
    rw [if_neg (by omega), w64 (by omega) (by omega)]
  | succ j ih =>
    intro T hj hT
    have e1 : ((j + 1 : Nat) : Int) - 1 = (j : Int) := by omega
    rw [e1]
    by_cases hin : i < a.length ∧ j < b.length
    · obtain ⟨hi2, hj2⟩ := hin
      obtain ⟨t1, t2, t3, t4, t5⟩ := id hT
      have r1 := t2 (i + 1) (by omega) (by omega)
      have lL := L_le301 (b := b) ha (i + 1) (j + 1)
      have e2 : ((i : Int) + 1) = ((i + 1 : Nat) : Int) := by omega
      have e3 : ((j : Int) + 1) = ((j + 1 : Nat) : Int) := by omega
      have c1 : ((T.getD (i + 1) []).getD j 0) = (Lcs.L a b (i + 1) j : Int) := r1.2 j (by omega)
      have c2 : ((T.getD i []).getD (j + 1) 0) = (Lcs.L a b i (j + 1) : Int) := t4 (j + 1) (by omega) (by omega)
      have c3 : ((T.getD (i + 1) []).getD (j + 1) 0) = (Lcs.L a b (i + 1) (j + 1) : Int) := r1.2 (j + 1) (by omega)
      obtain ⟨R, hR, h0⟩ := ih (Lcs.put T i j (Lcs.L a b i j : Int)) (by omega) (Lcs.part_put hT (by omega) (by omega) rfl)
      refine ⟨R, Ev.step (f := fun k => spec_l12Table.j2 k a b T (i : Int) (j : Int) true) (fun k => ?_) (Ev.step (f := fun k => spec_l12Table.l1 k a b (Lcs.put T i j (Lcs.L a b i j : Int)) (i : Int) ((j : Int) - 1)) (fun k => ?_) hR), h0⟩
      · rw [spec_l12Table.l1]
        rw [if_pos (by omega), if_pos (by omega), decide_eq_true (by omega)]
      · have hL := Lcs.L_max a b i j hi2 hj2
        rw [spec_l12Table.j2]
        rw [if_pos rfl, if_pos (by omega), if_pos (by omega), w64 (x := (i : Int) + 1) (by omega) (by omega), w64 (x := (j : Int) + 1) (by omega) (by omega), w64 (x := (j : Int) - 1) (by omega) (by omega), e2, e3, rdL, rdL, if_pos (by omega), if_pos (by omega), if_pos (by omega), if_pos (by rw [r1.1]; omega), if_pos (by omega), if_pos (by rw [t3]; omega), if_pos (by rw [t3]; omega)]
        rw [Option.bind_some, if_pos (by omega), if_pos (by omega), rd_nat, rd_nat, rd_nat, rd_nat, c1, c2, mx_eq, Int.toNat_natCast, Int.toNat_natCast]
        have hp : ∀ v, T.set i ((T.getD i []).set j v) = Lcs.put T i j v := fun v => rfl
        rw [hp]
        by_cases he : a.getD i 0 = b.getD j 0
        · rw [if_pos he] at hL
          rw [if_pos he, rdL, rdL, Lcs.put_row _ _ _ _ (by omega), Lcs.put_other _ _ _ _ _ (by omega), if_pos (by rw [List.length_set, t3]; omega), if_pos (by rw [r1.1]; omega), rd_nat, rd_nat, c3, lset_self _ _ _ _ (by omega), w64 (by omega) (by omega)]
          have e4 : (1 : Int) + (Lcs.L a b (i + 1) (j + 1) : Int) = ((1 + Lcs.L a b (i + 1) (j + 1) : Nat) : Int) := by omega
          rw [e4, mx_eq, ← hL, ← Lcs.put_row T i j _ (by omega)]
          have hq : ∀ (U : List (List Int)) (v : Int), U.set i ((U.getD i []).set j v) = Lcs.put U i j v := fun _ _ => rfl
          rw [hq, Lcs.put_put _ _ _ _ _ (by omega)]
        · rw [if_neg he] at hL
          rw [if_neg he, hL, Nat.max_zero]
    · have hz : Lcs.L a b i j = 0 := by
        by_cases h1 : i < a.length
        · exact Lcs.L_end' a b i j (by omega)
        · exact Lcs.L_end a b i j (by omega)
      obtain ⟨R, hR, h0⟩ := ih T (by omega) (Lcs.part_skip hT hz)
      refine ⟨R, Ev.step (f := fun k => spec_l12Table.j2 k a b T (i : Int) (j : Int) false) (fun k => ?_) (Ev.step (f := fun k => spec_l12Table.l1 k a b T (i : Int) ((j : Int) - 1)) (fun k => ?_) hR), h0⟩
      · rw [spec_l12Table.l1]
        rw [if_pos (by omega)]
        by_cases h1 : i < a.length
        · rw [if_pos (by omega), decide_eq_false (by omega)]
        · rw [if_neg (by omega)]
      · rw [spec_l12Table.j2]
        rw [if_neg (by decide), w64 (by omega) (by omega)]

theorem specTable_l0 (a b : List Int) (ha : a.length ≤ 301) (hb : b.length ≤ 301) (i : Nat) :
    ∀ T, i ≤ a.length + 1 → Lcs.Rows a b i T → ∃ R, Ev (fun k => spec_l12Table.l0 k a b T ((i : Int) - 1)) R ∧ Lcs.Rows a b 0 R := by
  induction i with
  | zero =>
    intro T _ hT
    refine ⟨T, Ev.step (f := fun _ => some T) (fun k => ?_) (Ev.now T), hT⟩
    rw [spec_l12Table.l0]
    rw [if_neg (by omega)]
  | succ i ih =>
    intro T hi hT
    have e1 : ((i + 1 : Nat) : Int) - 1 = (i : Int) := by omega
    have e2 : ((b.length : Int) + 1) = ((b.length + 1 : Nat) : Int) := by omega
    have e3 : (b.length : Int) = ((b.length + 1 : Nat) : Int) - 1 := by omega
    rw [e1]
    obtain ⟨R, hR, h0⟩ := specTable_l1 a b ha hb i (by omega) (fun T' hT' => ih T' (by omega) hT') (b.length + 1) _ (Nat.le_refl _) (Lcs.rows_part hT (by omega))
    refine ⟨R, Ev.step (f := fun k => spec_l12Table.l1 k a b (T.set i (List.replicate (b.length + 1) 0)) (i : Int) (((b.length + 1 : Nat) : Int) - 1)) (fun k => ?_) hR, h0⟩
    rw [spec_l12Table.l0]
    rw [if_pos (by omega), w64 (by omega) (by omega), if_pos (by omega), e2, Int.toNat_natCast, if_pos (by omega), if_pos (by omega), if_pos (by have := hT.1; omega), Int.toNat_natCast, e3]

theorem specTable_ev (a b : List Int) (ha : a.length ≤ 301) (hb : b.length ≤ 301) : ∃ R, Ev (fun k => spec_l12Table.f k a b) R ∧ Lcs.Rows a b 0 R := by
  obtain ⟨R, hR, h0⟩ := specTable_l0 a b ha hb (a.length + 1) _ (Nat.le_refl _) (Lcs.rows_none a b)
  have e2 : ((a.length : Int) + 1) = ((a.length + 1 : Nat) : Int) := by omega
  have e3 : (a.length : Int) = ((a.length + 1 : Nat) : Int) - 1 := by omega
  refine ⟨R, Ev.congr (f := fun k => spec_l12Table.l0 k a b (List.replicate (a.length + 1) []) (((a.length + 1 : Nat) : Int) - 1)) (fun k => ?_) hR, h0⟩
  unfold spec_l12Table.f
  rw [w64 (by omega) (by omega), if_pos (by omega), e2, Int.toNat_natCast, if_pos (by omega), ← e3]

theorem implTable_l1 (a b : List Int) (ha : a.length ≤ 301) (hb : b.length ≤ 301) (i : Nat) (hi : i < a.length)
    (next : ∀ T, Lcs.Rows a b i T → ∃ R, Ev (fun k => impl_commonTable.l0 k a b T ((i : Int) - 1)) R ∧ Lcs.Rows a b 0 R) (j : Nat) :
    ∀ T, j ≤ b.length → Lcs.Part a b i j T → ∃ R, Ev (fun k => impl_commonTable.l1 k a b T (i : Int) ((j : Int) - 1)) R ∧ Lcs.Rows a b 0 R := by
  induction j with
  | zero =>
    intro T _ hT
    obtain ⟨R, hR, h0⟩ := next T (Lcs.part_rows hT)
    refine ⟨R, Ev.step (f := fun k => impl_commonTable.l0 k a b T ((i : Int) - 1)) (fun k => ?_) hR, h0⟩
    rw [impl_commonTable.l1]
    rw [if_neg (by omega), w64 (by omega) (by omega)]
  | succ j ih =>
    intro T hj hT
    have e1 : ((j + 1 : Nat) : Int) - 1 = (j : Int) := by omega
    rw [e1]
    obtain ⟨t1, t2, t3, t4, t5⟩ := id hT
    have r1 := t2 (i + 1) (by omega) (by omega)
    have lL := L_le301 (b := b) ha (i + 1) (j + 1)
    have e2 : ((i : Int) + 1) = ((i + 1 : Nat) : Int) := by omega
    have e3 : ((j : Int) + 1) = ((j + 1 : Nat) : Int) := by omega
    have c1 : ((T.getD (i + 1) []).getD j 0) = (Lcs.L a b (i + 1) j : Int) := r1.2 j (by omega)
    have c2 : ((T.getD i []).getD (j + 1) 0) = (Lcs.L a b i (j + 1) : Int) := t4 (j + 1) (by omega) (by omega)
    have c3 : ((T.getD (i + 1) []).getD (j + 1) 0) = (Lcs.L a b (i + 1) (j + 1) : Int) := r1.2 (j + 1) (by omega)
    have hL := Lcs.L_eq a b i j hi (by omega)
    obtain ⟨R, hR, h0⟩ := ih (Lcs.put T i j (Lcs.L a b i j : Int)) (by omega) (Lcs.part_put hT (by omega) (by omega) rfl)
    refine ⟨R, Ev.step (f := fun k => impl_commonTable.l1 k a b (Lcs.put T i j (Lcs.L a b i j : Int)) (i : Int) ((j : Int) - 1)) (fun k => ?_) hR, h0⟩
    have hp : ∀ v, T.set i ((T.getD i []).set j v) = Lcs.put T i j v := fun v => rfl
    rw [impl_commonTable.l1]
    rw [if_pos (by omega), if_pos (by omega), if_pos (by omega), if_pos (by omega), if_pos (by omega), w64 (x := (i : Int) + 1) (by omega) (by omega), w64 (x := (j : Int) + 1) (by omega) (by omega), w64 (x := (j : Int) - 1) (by omega) (by omega), e2, e3]
    simp only [rdL, rd_nat, c1, c2, c3, mx_eq, Int.toNat_natCast, hp]
    by_cases he : a.getD i 0 = b.getD j 0
    · rw [if_pos he] at hL
      rw [if_pos he, if_pos (by omega), if_pos (by omega), if_pos (by omega), if_pos (by omega), if_pos (by rw [r1.1]; omega), if_pos (by rw [t3]; omega), w64 (by omega) (by omega), hL]
      rfl
    · rw [if_neg he] at hL
      rw [if_neg he, if_pos (by omega), if_pos (by omega), if_pos (by omega), if_pos (by rw [r1.1]; omega), if_pos (by omega), if_pos (by rw [t3]; omega), if_pos (by rw [t3]; omega), hL]

theorem implTable_l0 (a b : List Int) (ha : a.length ≤ 301) (hb : b.length ≤ 301) (i : Nat) :
    ∀ T, i ≤ a.length → Lcs.Rows a b i T → ∃ R, Ev (fun k => impl_commonTable.l0 k a b T ((i : Int) - 1)) R ∧ Lcs.Rows a b 0 R := by
  induction i with
  | zero =>
    intro T _ hT
    refine ⟨T, Ev.step (f := fun _ => some T) (fun k => ?_) (Ev.now T), hT⟩
    rw [impl_commonTable.l0]
    rw [if_neg (by omega)]
  | succ i ih =>
    intro T hi hT
    have e1 : ((i + 1 : Nat) : Int) - 1 = (i : Int) := by omega
    have e2 : ((b.length : Int) + 1) = ((b.length + 1 : Nat) : Int) := by omega
    rw [e1]
    obtain ⟨R, hR, h0⟩ := implTable_l1 a b ha hb i (by omega) (fun T' hT' => ih T' (by omega) hT') b.length _ (Nat.le_refl _) (Lcs.part_skip (Lcs.rows_part hT (by omega)) (Lcs.L_end' a b i _ (Nat.le_refl _)))
    refine ⟨R, Ev.step (f := fun k => impl_commonTable.l1 k a b (T.set i (List.replicate (b.length + 1) 0)) (i : Int) ((b.length : Int) - 1)) (fun k => ?_) hR, h0⟩
    rw [impl_commonTable.l0]
    rw [if_pos (by omega), w64 (x := (b.length : Int) + 1) (by omega) (by omega), if_pos (by omega), e2, Int.toNat_natCast, if_pos (by omega), if_pos (by omega), if_pos (by have := hT.1; omega), Int.toNat_natCast, w64 (by omega) (by omega)]

theorem implTable_ev (a b : List Int) (ha : a.length ≤ 301) (hb : b.length ≤ 301) : ∃ R, Ev (fun k => impl_commonTable.f k a b) R ∧ Lcs.Rows a b 0 R := by
  have h1 := Lcs.rows_part (Lcs.rows_none a b) (Nat.le_refl _)
  obtain ⟨R, hR, h0⟩ := implTable_l0 a b ha hb a.length _ (Nat.le_refl _) (Lcs.part_rows (Lcs.part_zero (fun c => Lcs.L_end a b _ c (Nat.le_refl _)) _ h1))
  have e2 : ((a.length : Int) + 1) = ((a.length + 1 : Nat) : Int) := by omega
  have e3 : ((b.length : Int) + 1) = ((b.length + 1 : Nat) : Int) := by omega
  refine ⟨R, Ev.congr (f := fun k => impl_commonTable.l0 k a b ((List.replicate (a.length + 1) []).set a.length (List.replicate (b.length + 1) 0)) ((a.length : Int) - 1)) (fun k => ?_) hR, h0⟩
  unfold impl_commonTable.f
  rw [w64 (x := (a.length : Int) + 1) (by omega) (by omega), w64 (x := (b.length : Int) + 1) (by omega) (by omega), if_pos (by omega), e2, e3, Int.toNat_natCast, Int.toNat_natCast, Int.toNat_natCast, if_pos (by omega), Option.bind_some, if_pos (by omega), if_pos (by omega), if_pos (by omega), if_pos (by rw [List.length_replicate]; omega), w64 (by omega) (by omega)]

-- CommonOf, both
def toS (p : Nat × Nat) : S70 := ⟨(p.1 : Int), (p.2 : Int)⟩
theorem index_l0 (b : List Int) (v : Int) (j : Nat) (hj : j ≤ b.length) (hb : b.length ≤ 301) (c : Nat) : ∀ i : Nat, j + i + c = b.length →
    Ev (fun k => slices_Index_int_int.l0 k (b.drop j) v ((b.drop j).length : Int) (i : Int)) (match Lcs.nextAt b v c (j + i) with | none => -1 | some j0 => (j0 : Int) - (j : Int)) := by
  have hlen : (b.drop j).length = b.length - j := List.length_drop
  induction c with
  | zero =>
    intro i h
    refine Ev.step (f := fun _ => some (-1)) (fun k => ?_) (Ev.now _)
    rw [slices_Index_int_int.l0, if_neg (by omega)]
  | succ c ih =>
    intro i h
    have hr : rd (b.drop j) (i : Int) = b.getD (j + i) 0 := by
      rw [rd_nat, List.getD_eq_getElem?_getD, List.getElem?_drop, ← List.getD_eq_getElem?_getD]
    unfold Lcs.nextAt
    by_cases e : v = b.getD (j + i) 0
    · rw [if_pos e]
      refine Ev.step (f := fun _ => some ((i : Nat) : Int)) (fun k => ?_) ?_
      · rw [slices_Index_int_int.l0, if_pos (by omega), if_pos (by omega), if_pos (by omega), hr, if_pos e]
      · have q : ((j + i : Nat) : Int) - (j : Int) = (i : Int) := by omega
        show Ev _ (((j + i : Nat) : Int) - (j : Int))
        rw [q]
        exact Ev.now _
    · rw [if_neg e]
      refine Ev.step (f := fun k => slices_Index_int_int.l0 k (b.drop j) v ((b.drop j).length : Int) ((i + 1 : Nat) : Int)) (fun k => ?_) (ih (i + 1) (by omega))
      rw [slices_Index_int_int.l0, if_pos (by omega), if_pos (by omega), if_pos (by omega), hr, if_neg e, w64 (by omega) (by omega)]
      rfl
theorem index_ev (b : List Int) (v : Int) (j : Nat) (hj : j ≤ b.length) (hb : b.length ≤ 301) :
    Ev (fun k => slices_Index_int_int.f k (b.drop j) v) (match Lcs.nextAt b v (b.length - j) j with | none => -1 | some j0 => (j0 : Int) - (j : Int)) :=
  Ev.congr (f := fun k => slices_Index_int_int.l0 k (b.drop j) v ((b.drop j).length : Int) ((0 : Nat) : Int)) (fun _ => rfl) (index_l0 b v j hj hb (b.length - j) 0 (by omega))

/-- What the table holds at a place. -/
theorem at_table {a b : List Int} {T : List (List Int)} (hT : Lcs.Rows a b 0 T) (i j : Nat) (hi : i ≤ a.length) (hj : j ≤ b.length) :
    ((i : Int) < (T.length : Int)) ∧ ((j : Int) < ((rd_L3 T (i : Int)).length : Int)) ∧ rd (rd_L3 T (i : Int)) (j : Int) = (Lcs.L a b i j : Int) := by
  have h := hT.2 i (by omega) hi
  rw [rdL, rd_nat]
  exact ⟨by have := hT.1; omega, by have := h.1; omega, h.2 j hj⟩

theorem implCommonOf_l0 (a b : List Int) (ha : a.length ≤ 301) (hb : b.length ≤ 301) (T : List (List Int)) (hT : Lcs.Rows a b 0 T) (d : Nat) : ∀ (i j : Nat) (acc : List S70), i + d = a.length → j ≤ b.length → acc.length ≤ i →
    Ev (fun k => impl_commonOf.l0 k a b T acc (i : Int) (j : Int)) (acc ++ (Lcs.firstC a b d i j).map toS) := by
  induction d with
  | zero =>
    intro i j acc h hj hacc
    obtain ⟨t1, t2, t3⟩ := at_table hT i j (by omega) hj
    refine Ev.step (f := fun _ => some (acc ++ [])) (fun k => ?_) (Ev.now _)
    rw [impl_commonOf.l0, if_pos (by omega), if_pos t1, if_pos (by omega), if_pos t2, t3, Lcs.L_end a b i j (by omega), if_neg (by decide), List.append_nil]
  | succ d ih =>
    intro i j acc h hj hacc
    obtain ⟨t1, t2, t3⟩ := at_table hT i j (by omega) hj
    by_cases h0 : Lcs.L a b i j = 0
    · refine Ev.step (f := fun _ => some (acc ++ (Lcs.firstC a b (d + 1) i j).map toS)) (fun k => ?_) (Ev.now _)
      rw [impl_commonOf.l0, if_pos (by omega), if_pos t1, if_pos (by omega), if_pos t2, t3, h0, if_neg (by decide), Lcs.firstC_none h0, List.map_nil, List.append_nil]
    · have hx := index_ev b (a.getD i 0) j hj hb
      cases hn : Lcs.nextAt b (a.getD i 0) (b.length - j) j with
      | none =>
        rw [hn] at hx
        rw [Lcs.firstC_miss h0 hn]
        obtain ⟨K, hK⟩ := ev_out hx
        obtain ⟨K2, hK2⟩ := ev_out (ih (i + 1) j acc (by omega) hj (by omega))
        refine ev_mk (K + K2 + 1) fun k hk => ?_
        obtain ⟨k, rfl⟩ : ∃ m, k = m + 1 := ⟨k - 1, by omega⟩
        rw [impl_commonOf.l0, if_pos (by omega), if_pos t1, if_pos (by omega), if_pos t2, t3, if_pos (by omega), if_pos (by omega), if_pos (by omega), Int.toNat_natCast, rd_nat, hK k (by omega), Option.bind_some, if_neg (by show ¬ (-1 : Int) ≥ 0; decide), w64 (x := (i : Int) + 1) (by omega) (by omega)]
        exact hK2 k (by omega)
      | some j0 =>
        rw [hn] at hx
        obtain ⟨q1, q2, q3, _⟩ := Lcs.nextAt_some b _ _ _ _ hn
        obtain ⟨K, hK⟩ := ev_out hx
        obtain ⟨s1, s2, s3⟩ := at_table hT (i + 1) (j0 + 1) (by omega) (by omega)
        have lL := L_le301 (b := b) ha (i + 1) (j0 + 1)
        have e1 : (match some j0 with | none => (-1 : Int) | some j0 => (j0 : Int) - (j : Int)) = (j0 : Int) - (j : Int) := rfl
        have e2 : (j : Int) + ((j0 : Int) - (j : Int)) = (j0 : Int) := by omega
        have e3 : (i : Int) + 1 = ((i + 1 : Nat) : Int) := by omega
        have e4 : (j0 : Int) + 1 = ((j0 + 1 : Nat) : Int) := by omega
        have e5 : (j : Int) + ((j0 : Int) - (j : Int) + 1) = ((j0 + 1 : Nat) : Int) := by omega
        by_cases e : 1 + Lcs.L a b (i + 1) (j0 + 1) = Lcs.L a b i j
        · obtain ⟨K2, hK2⟩ := ev_out (ih (i + 1) (j0 + 1) (acc ++ [toS (i, j0)]) (by omega) (by omega) (by simp; omega))
          refine ev_mk (K + K2 + 1) fun k hk => ?_
          obtain ⟨k, rfl⟩ : ∃ m, k = m + 1 := ⟨k - 1, by omega⟩
          rw [impl_commonOf.l0, if_pos (by omega), if_pos t1, if_pos (by omega), if_pos t2, t3, if_pos (by omega), if_pos (by omega), if_pos (by omega), Int.toNat_natCast, rd_nat, hK k (by omega), Option.bind_some, e1, if_pos (by omega), w64 (x := (j : Int) + ((j0 : Int) - (j : Int))) (by omega) (by omega), e2, w64 (x := (i : Int) + 1) (by omega) (by omega), w64 (x := (j0 : Int) + 1) (by omega) (by omega), w64 (x := (j0 : Int) - (j : Int) + 1) (by omega) (by omega), w64 (x := (j : Int) + ((j0 : Int) - (j : Int) + 1)) (by omega) (by omega), e5, e3, e4, if_pos (by omega), if_pos s1, if_pos (by omega), if_pos s2, s3, w64 (by omega) (by omega), if_pos (by omega), if_pos (by omega)]
          have hr := hK2 k (by omega)
          rw [Lcs.firstC_hit h0 hn e, List.map_cons]
          rw [List.append_assoc] at hr
          exact hr
        · obtain ⟨K2, hK2⟩ := ev_out (ih (i + 1) j acc (by omega) hj (by omega))
          refine ev_mk (K + K2 + 1) fun k hk => ?_
          obtain ⟨k, rfl⟩ : ∃ m, k = m + 1 := ⟨k - 1, by omega⟩
          rw [impl_commonOf.l0, if_pos (by omega), if_pos t1, if_pos (by omega), if_pos t2, t3, if_pos (by omega), if_pos (by omega), if_pos (by omega), Int.toNat_natCast, rd_nat, hK k (by omega), Option.bind_some, e1, if_pos (by omega), w64 (x := (j : Int) + ((j0 : Int) - (j : Int))) (by omega) (by omega), e2, w64 (x := (i : Int) + 1) (by omega) (by omega), w64 (x := (j0 : Int) + 1) (by omega) (by omega), e3, e4, if_pos (by omega), if_pos s1, if_pos (by omega), if_pos s2, s3, w64 (by omega) (by omega), if_neg (by omega)]
          rw [Lcs.firstC_pass h0 hn e]
          exact hK2 k (by omega)
theorem implcommonOf_ev (a b : List Int) (ha : a.length ≤ 301) (hb : b.length ≤ 301) : Ev (fun k => impl_commonOf.f k a b) ((Lcs.firstC a b a.length 0 0).map toS) := by
  obtain ⟨T, hT, hR⟩ := implTable_ev a b ha hb
  obtain ⟨K, hK⟩ := ev_out hT
  obtain ⟨K2, hK2⟩ := ev_out (implCommonOf_l0 a b ha hb T hR a.length 0 0 [] (by omega) (by omega) (by simp))
  refine ev_mk (K + K2) fun k hk => ?_
  unfold impl_commonOf.f
  rw [hK k (by omega), Option.bind_some]
  exact hK2 k (by omega)

/-- The reference's search for the smallest place. -/
def pick (a b : List Int) (x t : Nat) (j : Nat) : Nat → Int → Int
  | 0, y => y
  | c + 1, y => pick a b x t j c (if a.getD x 0 = b.getD (j + c) 0 ∧ 1 + Lcs.L a b (x + 1) (j + c + 1) = t then ((j + c : Nat) : Int) else y)
theorem pick_none (a b : List Int) (x t j : Nat) (c : Nat) : ∀ y, (∀ k, j ≤ k → k < j + c → ¬ (a.getD x 0 = b.getD k 0 ∧ 1 + Lcs.L a b (x + 1) (k + 1) = t)) → pick a b x t j c y = y := by
  induction c with
  | zero => intro y _; rfl
  | succ c ih =>
    intro y h
    unfold pick
    rw [if_neg (h (j + c) (by omega) (by omega)), ih y (fun k h1 h2 => h k h1 (by omega))]
theorem pick_some (a b : List Int) (x t j j0 : Nat) (h0 : j ≤ j0) (hp : a.getD x 0 = b.getD j0 0 ∧ 1 + Lcs.L a b (x + 1) (j0 + 1) = t) (hq : ∀ k, j ≤ k → k < j0 → ¬ (a.getD x 0 = b.getD k 0 ∧ 1 + Lcs.L a b (x + 1) (k + 1) = t)) (c : Nat) : ∀ y, j0 < j + c → pick a b x t j c y = (j0 : Int) := by
  induction c with
  | zero => intro y h; omega
  | succ c ih =>
    intro y h
    unfold pick
    by_cases e : j0 = j + c
    · rw [← e, if_pos hp]
      exact pick_none a b x t j c _ (fun k h1 h2 => hq k h1 (by omega))
    · exact ih _ (by omega)

theorem specCommonOf_l2 (a b : List Int) (ha : a.length ≤ 301) (hb : b.length ≤ 301) (T : List (List Int)) (hT : Lcs.Rows a b 0 T) (acc : List S70) (i j x : Nat) (hi : i ≤ a.length) (hj : j ≤ b.length) (hx : x < a.length) (R : List S70) (c : Nat) :
    ∀ y : Int, j + c ≤ b.length → Ev (fun k => spec_CommonOf.l1 k a b T acc (i : Int) (j : Int) ((x + 1 : Nat) : Int) (pick a b x (Lcs.L a b i j) j c y)) R →
      Ev (fun k => spec_CommonOf.l2 k a b T acc (i : Int) (j : Int) (x : Int) y (((j + c : Nat) : Int) - 1)) R := by
  induction c with
  | zero =>
    intro y hc h
    refine Ev.step (fun k => ?_) h
    rw [spec_CommonOf.l2, if_neg (by omega), w64 (by omega) (by omega)]
    rfl
  | succ c ih =>
    intro y hc h
    obtain ⟨t1, t2, t3⟩ := at_table hT i j hi hj
    obtain ⟨s1, s2, s3⟩ := at_table hT (x + 1) (j + c + 1) (by omega) (by omega)
    have lL := L_le301 (b := b) ha (x + 1) (j + c + 1)
    have e0 : ((j + (c + 1) : Nat) : Int) - 1 = ((j + c : Nat) : Int) := by omega
    have e3 : (x : Int) + 1 = ((x + 1 : Nat) : Int) := by omega
    have e4 : ((j + c : Nat) : Int) + 1 = ((j + c + 1 : Nat) : Int) := by omega
    rw [e0]
    by_cases e : a.getD x 0 = b.getD (j + c) 0
    · by_cases e2 : 1 + Lcs.L a b (x + 1) (j + c + 1) = Lcs.L a b i j
      · unfold pick at h
        rw [if_pos ⟨e, e2⟩] at h
        refine Ev.step (fun k => ?_) (ih _ (by omega) h)
        rw [spec_CommonOf.l2, if_pos (by omega), if_pos (by omega), if_pos (by omega), if_pos (by omega), if_pos (by omega), rd_nat, rd_nat, if_pos e, w64 (x := (x : Int) + 1) (by omega) (by omega), w64 (x := ((j + c : Nat) : Int) + 1) (by omega) (by omega), e3, e4, if_pos (by omega), if_pos s1, if_pos (by omega), if_pos s2, if_pos (by omega), if_pos t1, if_pos (by omega), if_pos t2, s3, t3, w64 (x := 1 + (Lcs.L a b (x + 1) (j + c + 1) : Int)) (by omega) (by omega), if_pos (by omega), w64 (by omega) (by omega)]
      · unfold pick at h
        rw [if_neg (fun q => e2 q.2)] at h
        refine Ev.step (fun k => ?_) (ih _ (by omega) h)
        rw [spec_CommonOf.l2, if_pos (by omega), if_pos (by omega), if_pos (by omega), if_pos (by omega), if_pos (by omega), rd_nat, rd_nat, if_pos e, w64 (x := (x : Int) + 1) (by omega) (by omega), w64 (x := ((j + c : Nat) : Int) + 1) (by omega) (by omega), e3, e4, if_pos (by omega), if_pos s1, if_pos (by omega), if_pos s2, if_pos (by omega), if_pos t1, if_pos (by omega), if_pos t2, s3, t3, w64 (x := 1 + (Lcs.L a b (x + 1) (j + c + 1) : Int)) (by omega) (by omega), if_neg (by omega), w64 (by omega) (by omega)]
    · unfold pick at h
      rw [if_neg (fun q => e q.1)] at h
      refine Ev.step (fun k => ?_) (ih _ (by omega) h)
      rw [spec_CommonOf.l2, if_pos (by omega), if_pos (by omega), if_pos (by omega), if_pos (by omega), if_pos (by omega), rd_nat, rd_nat, if_neg e, w64 (by omega) (by omega)]

/-- From element x on, where what is left is as much as at i: what is shown of d elements. -/
def Goes (a b : List Int) (T : List (List Int)) (d : Nat) : Prop := ∀ (i j x : Nat) (acc : List S70), x + d = a.length → i ≤ x → j ≤ b.length → acc.length ≤ i → Lcs.L a b x j = Lcs.L a b i j → Lcs.L a b i j ≠ 0 →
    Ev (fun k => spec_CommonOf.l1 k a b T acc (i : Int) (j : Int) (x : Int) (-1)) (acc ++ (Lcs.firstC a b d x j).map toS)
theorem specCommonOf_go (a b : List Int) (ha : a.length ≤ 301) (hb : b.length ≤ 301) (T : List (List Int)) (hT : Lcs.Rows a b 0 T) (d : Nat) (hq : Goes a b T d) (i j : Nat) (acc : List S70) (h : i + d = a.length) (hj : j ≤ b.length) (hacc : acc.length ≤ i) :
    Ev (fun k => spec_CommonOf.l0 k a b T acc (i : Int) (j : Int)) (acc ++ (Lcs.firstC a b d i j).map toS) := by
  obtain ⟨t1, t2, t3⟩ := at_table hT i j (by omega) hj
  by_cases h0 : Lcs.L a b i j = 0
  · refine Ev.step (f := fun _ => some (acc ++ (Lcs.firstC a b d i j).map toS)) (fun k => ?_) (Ev.now _)
    rw [spec_CommonOf.l0, if_pos (by omega), if_pos t1, if_pos (by omega), if_pos t2, t3, h0, if_neg (by decide), Lcs.firstC_none h0, List.map_nil, List.append_nil]
  · refine Ev.step (fun k => ?_) (hq i j i acc h (Nat.le_refl _) hj hacc rfl h0)
    rw [spec_CommonOf.l0, if_pos (by omega), if_pos t1, if_pos (by omega), if_pos t2, t3, if_pos (by omega)]
/-- From element x on, where what is left is as much as at i. -/
theorem specCommonOf_l1 (a b : List Int) (ha : a.length ≤ 301) (hb : b.length ≤ 301) (T : List (List Int)) (hT : Lcs.Rows a b 0 T) (d : Nat) : Goes a b T d := by
  induction d with
  | zero => intro i j x acc h hi hj hacc he h0; rw [Lcs.L_end a b x j (by omega)] at he; exact absurd he.symm h0
  | succ d ih =>
    intro i j x acc h hi hj hacc he h0
    have h0' : Lcs.L a b x j ≠ 0 := by rw [he]; exact h0
    have hf := Lcs.L_first a b x (by omega) (b.length - j) j (by omega)
    refine Ev.step (f := fun k => spec_CommonOf.l2 k a b T acc (i : Int) (j : Int) (x : Int) (-1) (((j + (b.length - j) : Nat) : Int) - 1)) (fun k => ?_) (specCommonOf_l2 a b ha hb T hT acc i j x (by omega) hj (by omega) _ (b.length - j) (-1) (by omega) ?_)
    · rw [spec_CommonOf.l1, if_pos (by decide), w64 (by omega) (by omega)]
      congr 1
      omega
    · have over : ∀ j0, j ≤ j0 → a.getD x 0 = b.getD j0 0 → j0 < b.length → ∀ k, j0 ≤ k → 1 + Lcs.L a b (x + 1) (k + 1) ≤ 1 + Lcs.L a b (x + 1) (j0 + 1) := fun j0 _ _ _ k hk => by have := Lcs.L_mono' a b (x + 1) (j0 + 1) (k + 1) (by omega); omega
      cases hn : Lcs.nextAt b (a.getD x 0) (b.length - j) j with
      | none =>
        rw [hn] at hf
        have hno := Lcs.nextAt_none b _ _ _ hn
        rw [pick_none a b x _ j _ _ (fun k h1 h2 q => hno k h1 h2 q.1), Lcs.firstC_miss h0' hn]
        have hf' : Lcs.L a b x j = Lcs.L a b (x + 1) j := hf
        exact ih i j (x + 1) acc (by omega) (by omega) hj hacc (by omega) h0
      | some j0 =>
        rw [hn] at hf
        obtain ⟨q1, q2, q3, q4⟩ := Lcs.nextAt_some b _ _ _ _ hn
        have hf' : Lcs.L a b x j = max (Lcs.L a b (x + 1) j) (1 + Lcs.L a b (x + 1) (j0 + 1)) := hf
        by_cases e : 1 + Lcs.L a b (x + 1) (j0 + 1) = Lcs.L a b x j
        · rw [pick_some a b x _ j j0 q1 ⟨q3, by omega⟩ (fun k h1 h2 q => q4 k h1 h2 q.1) _ _ (by omega), Lcs.firstC_hit h0' hn e, List.map_cons]
          obtain ⟨K, hK⟩ := ev_out (specCommonOf_go a b ha hb T hT d ih (x + 1) (j0 + 1) (acc ++ [toS (x, j0)]) (by omega) (by omega) (by simp; omega))
          refine ev_mk (K + 1) fun k hk => ?_
          obtain ⟨k, rfl⟩ : ∃ m, k = m + 1 := ⟨k - 1, by omega⟩
          have hr := hK k (by omega)
          rw [spec_CommonOf.l1, if_neg (by omega), if_pos (by omega), w64 (by omega) (by omega), w64 (by omega) (by omega)]
          rw [List.append_assoc] at hr
          have e6 : ((x + 1 : Nat) : Int) - 1 = (x : Int) := by omega
          rw [e6]
          exact hr
        · rw [pick_none a b x _ j _ _ (fun k h1 h2 q => ?_), Lcs.firstC_pass h0' hn e]
          · exact ih i j (x + 1) acc (by omega) (by omega) hj hacc (by omega) h0
          · by_cases hk : j0 ≤ k
            · have := over j0 q1 q3 (by omega) k hk
              have := q.2
              omega
            · exact q4 k h1 (by omega) q.1

def pairsOf (a b : List Int) : List S70 := if a.length ≤ 301 ∧ b.length ≤ 301 then (Lcs.firstC a b a.length 0 0).map toS else []
theorem pairsOf_len (a b : List Int) : (pairsOf a b).length ≤ 301 := by
  unfold pairsOf
  by_cases h : a.length ≤ 301 ∧ b.length ≤ 301
  · rw [if_pos h, List.length_map, Lcs.firstC_length a b a.length 0 0 (by omega) (by omega)]
    exact L_le301 h.1 0 0
  · rw [if_neg h]
    simp
theorem specCommonOf_ev (a b : List Int) : Ev (fun k => spec_CommonOf.f k a b) (pairsOf a b) := by
  have no : ∀ (h : ¬ (a.length ≤ 301 ∧ b.length ≤ 301)), Ev (fun k => spec_CommonOf.j0 k a b true) (pairsOf a b) := fun h => by
    refine Ev.step (f := fun _ => some (pairsOf a b)) (fun k => ?_) (Ev.now _)
    unfold pairsOf
    rw [spec_CommonOf.j0, if_pos rfl, if_neg h]
  by_cases ha : a.length ≤ 301
  · by_cases hb : b.length ≤ 301
    · obtain ⟨T, hT, hR⟩ := specTable_ev a b ha hb
      obtain ⟨K, hK⟩ := ev_out hT
      obtain ⟨K2, hK2⟩ := ev_out (specCommonOf_go a b ha hb T hR a.length (specCommonOf_l1 a b ha hb T hR a.length) 0 0 [] (by omega) (by omega) (by simp))
      refine ev_mk (K + K2 + 1) fun k hk => ?_
      obtain ⟨k, rfl⟩ : ∃ m, k = m + 1 := ⟨k - 1, by omega⟩
      unfold spec_CommonOf.f spec_l12Right.f pairsOf
      rw [Option.bind_some, if_pos (decide_eq_true (by omega)), Option.bind_some, decide_eq_true (by omega), Bool.not_true, spec_CommonOf.j0, if_neg (by decide), hK k (by omega), Option.bind_some, if_pos ⟨ha, hb⟩]
      exact hK2 k (by omega)
    · obtain ⟨K, hK⟩ := ev_out (no (fun h => hb h.2))
      refine ev_mk K fun k hk => ?_
      unfold spec_CommonOf.f spec_l12Right.f
      rw [Option.bind_some, if_pos (decide_eq_true (by omega)), Option.bind_some, decide_eq_false (by omega), Bool.not_false]
      exact hK k hk
  · obtain ⟨K, hK⟩ := ev_out (no (fun h => ha h.1))
    refine ev_mk K fun k hk => ?_
    unfold spec_CommonOf.f spec_l12Right.f
    rw [Option.bind_some, if_neg (fun h => ha (by have := of_decide_eq_true h; omega))]
    exact hK k hk

theorem areListed_eq' (a b : List Int) : impl_areListed.f a b = some (decide (a.length ≤ 301 ∧ b.length ≤ 301)) := by
  unfold impl_areListed.f
  by_cases ha : a.length ≤ 301
  · rw [if_pos (by omega)]
    congr 1
    by_cases hb : b.length ≤ 301
    · rw [decide_eq_true (by omega), decide_eq_true ⟨ha, hb⟩]
    · rw [decide_eq_false (by omega), decide_eq_false (fun h => hb h.2)]
  · rw [if_neg (by omega), decide_eq_false (fun h => ha h.1)]

-- pairs in order
def Chain (a b : List Int) : Nat → Nat → List (Nat × Nat) → Prop
  | _, _, [] => True
  | i, j, p :: ps => i ≤ p.1 ∧ p.1 < a.length ∧ j ≤ p.2 ∧ p.2 < b.length ∧ a.getD p.1 0 = b.getD p.2 0 ∧ Chain a b (p.1 + 1) (p.2 + 1) ps
theorem Chain.less {a b : List Int} {i i' j : Nat} {ps : List (Nat × Nat)} (h : Chain a b i' j ps) (hi : i ≤ i') : Chain a b i j ps := by
  cases ps with
  | nil => trivial
  | cons p ps => obtain ⟨h1, h2⟩ := h; exact ⟨by omega, h2⟩
theorem firstC_chain (a b : List Int) (d : Nat) : ∀ i j, i + d = a.length → j ≤ b.length → Chain a b i j (Lcs.firstC a b d i j) := by
  induction d with
  | zero => intro i j _ _; trivial
  | succ d ih =>
    intro i j h hj
    by_cases h0 : Lcs.L a b i j = 0
    · rw [Lcs.firstC_none h0]; trivial
    · cases hn : Lcs.nextAt b (a.getD i 0) (b.length - j) j with
      | none => rw [Lcs.firstC_miss h0 hn]; exact (ih (i + 1) j (by omega) hj).less (by omega)
      | some j0 =>
        obtain ⟨q1, q2, q3, _⟩ := Lcs.nextAt_some b _ _ _ _ hn
        by_cases e : 1 + Lcs.L a b (i + 1) (j0 + 1) = Lcs.L a b i j
        · rw [Lcs.firstC_hit h0 hn e]
          exact ⟨Nat.le_refl _, by show i < a.length; omega, q1, by show j0 < b.length; omega, q3, ih (i + 1) (j0 + 1) (by omega) (by omega)⟩
        · rw [Lcs.firstC_pass h0 hn e]
          exact (ih (i + 1) j (by omega) hj).less (by omega)

theorem wu64 {x : Int} (h0 : 0 ≤ x) (h1 : x < 18446744073709551616) : IntKind.u64.wrap x = x := by
  simp [IntKind.wrap, IntKind.bits, IntKind.signed]
  omega
theorem td64 (i : Nat) : Int.tdiv (i : Int) 64 = ((i / 64 : Nat) : Int) := rfl
theorem tm64 (i : Nat) : Int.tmod (i : Int) 64 = ((i % 64 : Nat) : Int) := rfl
def Words (ws : List Int) : Prop := ∀ x ∈ ws, 0 ≤ x ∧ x < 2 ^ 64
theorem l01Power_l0 (m : Nat) : ∀ (a : Nat), a * 2 ^ m < 18446744073709551616 → m ≤ 64 → Ev (fun k => spec_l01Power.l0 k (m : Int) (a : Int)) ((a * 2 ^ m : Nat) : Int) := by
  induction m with
  | zero =>
    intro a h hm
    refine Ev.step (f := fun _ => some _) (fun k => ?_) (Ev.now _)
    rw [spec_l01Power.l0, if_neg (by omega), Nat.pow_zero, Nat.mul_one]
  | succ m ih =>
    intro a h hm
    have hp : 0 < 2 ^ m := Nat.two_pow_pos m
    have e : a * 2 ^ (m + 1) = (2 * a) * 2 ^ m := by rw [Nat.pow_succ, Nat.mul_comm (2 ^ m) 2, ← Nat.mul_assoc, Nat.mul_comm a 2]
    rw [e] at h ⊢
    have : 2 * a ≤ (2 * a) * 2 ^ m := Nat.le_mul_of_pos_right _ hp
    refine Ev.step (f := fun k => spec_l01Power.l0 k (m : Int) ((2 * a : Nat) : Int)) (fun k => ?_) (ih (2 * a) h (by omega))
    rw [spec_l01Power.l0, if_pos (by omega), w64 (by omega) (by omega), wu64 (by omega) (by omega), show ((m + 1 : Nat) : Int) - 1 = (m : Int) by omega]
    rfl
theorem pow64 (m : Nat) (h : m < 64) : 2 ^ m < 18446744073709551616 := Nat.pow_lt_pow_right (a := 2) (n := 64) (by decide) h
theorem pow64i (m : Nat) (h : m ≤ 64) : (2 : Int) ^ m ≤ 18446744073709551616 := by
  have : 2 ^ m ≤ 2 ^ 64 := Nat.pow_le_pow_right (by decide) h
  have e : (2 : Int) ^ m = ((2 ^ m : Nat) : Int) := by simp
  omega
theorem l01Power_ev (m : Nat) (h : m < 64) : Ev (fun k => spec_l01Power.f k (m : Int)) ((2 : Int) ^ m) := by
  have := l01Power_l0 m 1 (by rw [Nat.one_mul]; exact pow64 m h) (by omega)
  rw [Nat.one_mul] at this
  rw [show (2 : Int) ^ m = ((2 ^ m : Nat) : Int) by simp]
  exact this
theorem bitsOf_j2 (l : List Int) (hb : ∀ i, i < l.length → l.getD i 0 = 0 ∨ l.getD i 0 = 1) (h5 : l.length ≤ 5000) (i : Nat) (hi : i < l.length) (r : Int × List Int × Bool)
    (hr : Ev (fun k => spec_BitsOf.l0 k l ((i + 1 : Nat) : Int) (l.length : Int) (wordsTo l (i + 1) (i / 64 + 1))) r) : Ev (fun k => spec_BitsOf.j2 k l (i : Int) (l.length : Int) (wordsTo l i (i / 64 + 1))) r := by
  have e1 : wrap64 ((i : Int) + 1) = ((i + 1 : Nat) : Int) := w64 (by omega) (by omega)
  rcases hb i hi with q | q
  · refine Ev.step (f := fun k => spec_BitsOf.l0 k l ((i + 1 : Nat) : Int) (l.length : Int) (wordsTo l (i + 1) (i / 64 + 1))) (fun k => ?_) hr
    rw [spec_BitsOf.j2, if_pos (by omega), if_pos (by omega), rd_nat, q, if_neg (by decide), e1, wordsTo_skip l i _ q]
  · obtain ⟨K1, h1⟩ := ev_out (l01Power_ev (i % 64) (by omega))
    obtain ⟨K2, h2⟩ := ev_out hr
    refine ev_mk (K1 + K2 + 1) fun k hk => ?_
    obtain ⟨k, rfl⟩ : ∃ m, k = m + 1 := ⟨k - 1, by omega⟩
    have hlen := wordsTo_length l i (i / 64 + 1)
    have hbd := wordAt_bound l hb i (i / 64) (by omega)
    rw [show min 64 (i - 64 * (i / 64)) = i % 64 by omega] at hbd
    have hp := pow64i (i % 64 + 1) (by omega)
    rw [Int.pow_succ] at hp
    rw [spec_BitsOf.j2, if_pos (by omega), if_pos (by omega), rd_nat, q, if_pos rfl, td64, tm64, w64 (by omega) (by omega), if_pos (by omega), if_pos (by rw [hlen]; omega), h1 k (by omega), Option.bind_some, e1, rd_nat, wordsTo_get _ _ _ _ (by omega),
      wu64 (by have := two_pos (i % 64); omega) (by omega), Int.toNat_natCast, wordsTo_set l i _ _ (by omega) (by rw [q, Int.one_mul])]
    exact h2 k (by omega)
theorem bitsOf_l0 (l : List Int) (hb : ∀ i, i < l.length → l.getD i 0 = 0 ∨ l.getD i 0 = 1) (h5 : l.length ≤ 5000) (d : Nat) : ∀ i : Nat, i + d = l.length →
    Ev (fun k => spec_BitsOf.l0 k l (i : Int) (l.length : Int) (wordsTo l i ((i + 63) / 64))) ((l.length : Int), wordsOf l, true) := by
  induction d with
  | zero =>
    intro i h
    obtain rfl : i = l.length := by omega
    refine Ev.step (f := fun _ => some _) (fun k => ?_) (Ev.now _)
    rw [spec_BitsOf.l0, if_neg (by omega)]
    rfl
  | succ d ih =>
    intro i h
    have hr := bitsOf_j2 l hb h5 i (by omega) _ (by have := ih (i + 1) (by omega); rwa [show (i + 1 + 63) / 64 = i / 64 + 1 by omega] at this)
    have hj : Ev (fun k => spec_BitsOf.j1 k l (i : Int) false (l.length : Int) (wordsTo l i ((i + 63) / 64))) ((l.length : Int), wordsOf l, true) := by
      refine Ev.step (fun k => ?_) hr
      rw [spec_BitsOf.j1, if_neg (by decide), tm64]
      by_cases q : i % 64 = 0
      · rw [if_pos (by omega), if_pos (by rw [wordsTo_length]; omega), wordsTo_more l i q]
      · rw [if_neg (by omega), show (i + 63) / 64 = i / 64 + 1 by omega]
    refine Ev.step (fun k => ?_) hj
    rw [spec_BitsOf.l0, if_pos (by omega), if_pos (by omega), rd_nat]
    rcases hb i (by omega) with q | q
    · rw [q, if_pos rfl]
    · rw [q, if_neg (by decide)]
      rfl
theorem specBitsOf_ev (l : List Int) (hb : ∀ i, i < l.length → l.getD i 0 = 0 ∨ l.getD i 0 = 1) (h5 : l.length ≤ 5000) : Ev (fun k => spec_BitsOf.f k l) ((l.length : Int), wordsOf l, true) := by
  refine Ev.congr (f := fun k => spec_BitsOf.l0 k l ((0 : Nat) : Int) (l.length : Int) (wordsTo l 0 ((0 + 63) / 64))) (fun k => ?_) (bitsOf_l0 l hb h5 l.length 0 (by omega))
  unfold spec_BitsOf.f
  rw [if_neg (by omega)]
  rfl
theorem specBitsOf_big (l : List Int) (h5 : 5000 < l.length) : Ev (fun k => spec_BitsOf.f k l) (0, [], false) := by
  refine Ev.congr (f := fun _ => some _) (fun k => ?_) (Ev.now _)
  unfold spec_BitsOf.f
  rw [if_pos (by omega)]

theorem td2 (i : Nat) : Int.tdiv (i : Int) 2 = ((i / 2 : Nat) : Int) := rfl
theorem tm2 (i : Nat) : Int.tmod (i : Int) 2 = ((i % 2 : Nat) : Int) := rfl
theorem Words.get {ws : List Int} (h : Words ws) (j : Nat) (hj : j < ws.length) : ∃ a : Nat, ws.getD j 0 = (a : Int) ∧ a < 18446744073709551616 := by
  have := h _ (List.getElem_mem hj)
  rw [← lget_lt ws j 0 hj] at this
  refine ⟨(ws.getD j 0).toNat, by omega, by omega⟩
theorem bitAt_nat {ws : List Int} {i a : Nat} (h : ws.getD (i / 64) 0 = (a : Int)) : bitAt ws i = ((a / 2 ^ (i % 64) % 2 : Nat) : Int) := by
  unfold bitAt
  rw [h]
  simp

-- the program's bits
theorem and1 (a : Nat) (h : a < 18446744073709551616) : Go.bits .and .u64 (a : Int) 1 = ((a % 2 : Nat) : Int) := by
  have := bits_mask .u64 64 (by decide) (fun n h0 h1 => wu64 h0 (by omega)) 1 (by decide) (a : Int) (by omega) (by omega)
  rw [show ((2 : Int) ^ 1 - 1) = 1 by decide] at this
  rw [this]
  omega
theorem shr_nat (a m : Nat) (h : m < 64) : shr .u64 (a : Int) ((m : Nat) : Int) = ((a / 2 ^ m : Nat) : Int) := by
  unfold shr
  rw [Int.toNat_natCast, show min m IntKind.u64.bits = m by show min m 64 = m; omega]
  simp
theorem at_ev (n : Int) (ws : List Int) (hw : Words ws) (i : Nat) (hi : i < 64 * ws.length) (h5 : i ≤ 1000000) : impl_Bits_at.f n ws (i : Int) = some (bitAt ws i) := by
  obtain ⟨a, ea, ha⟩ := hw.get (i / 64) (by omega)
  have hd : a / 2 ^ (i % 64) ≤ a := Nat.div_le_self _ _
  unfold impl_Bits_at.f
  rw [td64, tm64, w64 (by omega) (by omega), if_pos (by omega), if_pos (by omega), if_pos (by omega), rd_nat, ea, shr_nat _ _ (by omega), and1 _ (by omega), w64 (by omega) (by omega), bitAt_nat ea]

-- the program's words of a list
theorem bitsOr_comm (x y : Int) : Go.bits .or .u64 x y = Go.bits .or .u64 y x := by
  unfold Go.bits
  dsimp only
  rw [BitVec.or_comm]
theorem or_bit (x : Int) (m : Nat) (v : Int) (hx : 0 ≤ x) (hx1 : x < 2 ^ m) (hm : m < 64) (hv : v = 0 ∨ v = 1) : Go.bits .or .u64 x (shl .u64 (IntKind.u64.wrap v) (m : Int)) = x + v * 2 ^ m := by
  have hp := pow64i (m + 1) (by omega)
  rw [Int.pow_succ] at hp
  have hp0 := two_pos m
  rcases hv with rfl | rfl
  · have e : shl .u64 (IntKind.u64.wrap 0) (m : Int) = 0 := by
      unfold shl
      rw [wu64 (x := 0) (by decide) (by decide), Int.zero_mul]
      exact wu64 (by decide) (by decide)
    rw [e, bits_join .u64 64 (by decide) (fun n h0 h1 => wu64 h0 (by omega)) 0 x 0 hx (by simp [Int.emod_one]) (by omega) (by decide) (by decide) (by decide)]
    simp
  · have e : shl .u64 (IntKind.u64.wrap 1) (m : Int) = 2 ^ m := by
      unfold shl
      rw [wu64 (x := 1) (by decide) (by decide), Int.one_mul, Int.toNat_natCast, show min m IntKind.u64.bits = m by show min m 64 = m; omega]
      exact wu64 (by omega) (by omega)
    rw [e, bitsOr_comm, bits_join .u64 64 (by decide) (fun n h0 h1 => wu64 h0 (by omega)) m (2 ^ m) x (by omega) Int.emod_self (by omega) hx hx1 (by omega)]
    omega
theorem implBitsOf_l0 (l : List Int) (hb : ∀ i, i < l.length → l.getD i 0 = 0 ∨ l.getD i 0 = 1) (h5 : l.length ≤ 5000) (d : Nat) : ∀ i : Nat, i + d = l.length →
    Ev (fun k => impl_bitsOf.l0 k l (l.length : Int) (i : Int) (l.length : Int) (wordsTo l i ((l.length + 63) / 64))) ((l.length : Int), wordsOf l) := by
  induction d with
  | zero =>
    intro i h
    obtain rfl : i = l.length := by omega
    refine Ev.step (f := fun _ => some _) (fun k => ?_) (Ev.now _)
    rw [impl_bitsOf.l0, if_neg (by omega)]
    rfl
  | succ d ih =>
    intro i h
    refine Ev.step (fun k => ?_) (ih (i + 1) (by omega))
    have hbd := wordAt_bound l hb i (i / 64) (by omega)
    rw [show min 64 (i - 64 * (i / 64)) = i % 64 by omega] at hbd
    rw [impl_bitsOf.l0, if_pos (by omega), if_pos (by omega), if_pos (by omega), td64, tm64, w64 (by omega) (by omega), if_pos (by omega), if_pos (by rw [wordsTo_length]; omega), if_pos (by omega), w64 (by omega) (by omega), rd_nat, rd_nat, Int.toNat_natCast,
      wordsTo_get _ _ _ _ (by omega), or_bit _ _ _ hbd.1 hbd.2 (by omega) (hb i (by omega)), wordsTo_set l i _ _ (by omega) rfl]
    rfl
theorem implBitsOf_ev (l : List Int) (hb : ∀ i, i < l.length → l.getD i 0 = 0 ∨ l.getD i 0 = 1) (h5 : l.length ≤ 5000) : Ev (fun k => impl_bitsOf.f k l) ((l.length : Int), wordsOf l) := by
  have e : wrap64 (Int.tdiv (wrap64 ((wrap64 ((l.length : Int) + 64)) - 1)) 64) = (((l.length + 63) / 64 : Nat) : Int) := by
    rw [w64 (x := (l.length : Int) + 64) (by omega) (by omega), w64 (x := (l.length : Int) + 64 - 1) (by omega) (by omega), show (l.length : Int) + 64 - 1 = ((l.length + 63 : Nat) : Int) by omega, td64, w64 (by omega) (by omega)]
  have z : wordsTo l 0 ((l.length + 63) / 64) = List.replicate ((l.length + 63) / 64) 0 := by
    apply ext_getD 0 (by rw [wordsTo_length, List.length_replicate])
    intro j hj
    rw [wordsTo_length] at hj
    rw [wordsTo_get _ _ _ _ hj, lrep]
    unfold wordAt
    rw [show min 64 (0 - 64 * j) = 0 by omega, wsum]
  refine Ev.congr (f := fun k => impl_bitsOf.l0 k l (l.length : Int) ((0 : Nat) : Int) (l.length : Int) (wordsTo l 0 ((l.length + 63) / 64))) (fun k => ?_) (implBitsOf_l0 l hb h5 l.length 0 (by omega))
  unfold impl_bitsOf.f
  rw [e, if_pos (by omega), Int.toNat_natCast, if_pos (by omega), z]
  rfl
theorem words_lt (l : List Int) (hb : ∀ i, i < l.length → l.getD i 0 = 0 ∨ l.getD i 0 = 1) : Words (wordsOf l) := by
  intro x hx
  unfold wordsOf wordsTo at hx
  obtain ⟨j, _, rfl⟩ := List.mem_map.1 hx
  have h := wordAt_bound l hb l.length j (Nat.le_refl _)
  have hp := pow64i (min 64 (l.length - 64 * j)) (by omega)
  exact ⟨h.1, by omega⟩

theorem drop_cons (l : List Int) (i : Nat) (h : i < l.length) : l.drop i = l.getD i 0 :: l.drop (i + 1) := by
  rw [List.drop_eq_getElem_cons h, lget_lt _ _ _ h]

-- what stays
def keep : List Int → List Int → List Int
  | x :: xs, b :: bs => if b = 1 then x :: keep xs bs else keep xs bs
  | _, _ => []
theorem keep_step (l bs : List Int) (i : Nat) (h : i < l.length) (h2 : i < bs.length) : keep (l.drop i) (bs.drop i) = if bs.getD i 0 = 1 then l.getD i 0 :: keep (l.drop (i + 1)) (bs.drop (i + 1)) else keep (l.drop (i + 1)) (bs.drop (i + 1)) := by
  rw [drop_cons l i h, drop_cons bs i h2, keep]
theorem keep_length (bs : List Int) : ∀ l : List Int, l.length = bs.length → (keep l bs).length = bs.count 1 := by
  induction bs with
  | nil => intro l h; rw [List.eq_nil_of_length_eq_zero h]; rfl
  | cons b bs ih =>
    intro l h
    cases l with
    | nil => simp at h
    | cons x xs =>
      have := ih xs (by simpa using h)
      rw [keep, List.count_cons]
      by_cases q : b = 1
      · rw [if_pos q, List.length_cons, this, q]; rfl
      · rw [if_neg q, this, if_neg (by simpa using q), Nat.add_zero]

-- the program's unmarked
theorem unmarked_l0 (l : List Int) (n : Int) (ws bs : List Int) (hw : Words ws) (h64 : l.length ≤ 64 * ws.length) (h5 : l.length ≤ 5000) (hbs : bs.length = l.length) (h : ∀ i, i < l.length → bitAt ws i = 1 - bs.getD i 0) (h01 : ∀ i, i < bs.length → bs.getD i 0 = 0 ∨ bs.getD i 0 = 1)
    (d : Nat) : ∀ (i : Nat) (acc : List Int), i + d = l.length → acc.length ≤ i → Ev (fun k => impl_unmarked.l0 k acc l (l.length : Int) (i : Int) n ws) (acc ++ keep (l.drop i) (bs.drop i)) := by
  induction d with
  | zero =>
    intro i acc hi ha
    obtain rfl : i = l.length := by omega
    refine Ev.step (f := fun _ => some _) (fun k => ?_) (Ev.now _)
    rw [impl_unmarked.l0, if_neg (by omega), List.drop_length, keep, List.append_nil]
    intros; contradiction
  | succ d ih =>
    intro i acc hi ha
    rw [keep_step l bs i (by omega) (by omega)]
    have e1 : wrap64 ((i : Int) + 1) = ((i + 1 : Nat) : Int) := w64 (by omega) (by omega)
    rcases h01 i (by omega) with q | q
    · refine Ev.step (fun k => ?_) (by rw [if_neg (by rw [q]; decide)]; exact ih (i + 1) acc (by omega) (by omega))
      rw [impl_unmarked.l0, if_pos (by omega), if_pos (by omega), if_pos (by omega), at_ev _ _ hw i (by omega) (by omega), Option.bind_some, h i (by omega), q, if_neg (by decide), e1]
    · refine Ev.step (fun k => ?_) (by rw [if_pos q, List.append_cons]; exact ih (i + 1) (acc ++ [l.getD i 0]) (by omega) (by rw [List.length_append]; simp; omega))
      rw [impl_unmarked.l0, if_pos (by omega), if_pos (by omega), if_pos (by omega), at_ev _ _ hw i (by omega) (by omega), Option.bind_some, h i (by omega), q, if_pos (by decide), if_pos (by omega), rd_nat, e1]

-- marks from any number on
def marksF (s n : Nat) : List Int := (List.range n).map fun (j : Nat) => ((s + j : Nat) : Int)
theorem marksF_len (s n : Nat) : (marksF s n).length = n := by simp [marksF]
theorem marksF_get (s n j : Nat) (h : j < n) : (marksF s n).getD j 0 = ((s + j : Nat) : Int) := by
  rw [lget_lt _ j 0 (by rw [marksF_len]; exact h)]
  simp [marksF]
theorem markIntSF_l0 (l : List Int) (s : Nat) (hs : s ≤ 1000000000) (hl : l.length ≤ 4000000) (d : Nat) : ∀ i : Nat, i + d = l.length → Ev (fun k => laws_markIntS.l0 k ((marksF s l.length).take i ++ l.drop i) ((s + i : Nat) : Int) (i : Int)) (((s + l.length : Nat) : Int), marksF s l.length) := by
  induction d with
  | zero =>
    intro i h
    obtain rfl : i = l.length := by omega
    refine Ev.step (f := fun _ => some _) (fun k => ?_) (Ev.now _)
    rw [laws_markIntS.l0, if_neg (by rw [over_len _ _ _ (marksF_len _ _) (by omega)]; omega), List.drop_length, List.append_nil, List.take_of_length_le (by rw [marksF_len]; omega)]
  | succ d ih =>
    intro i h
    refine Ev.step (fun k => ?_) (ih (i + 1) (by omega))
    rw [laws_markIntS.l0, if_pos (by rw [over_len _ _ _ (marksF_len _ _) (by omega)]; omega), if_pos (by omega), w64 (by omega) (by omega), w64 (by omega) (by omega), Int.toNat_natCast, over_set (marksF s l.length) l 0 _ i (marksF_len _ _) (by omega) (marksF_get _ _ _ (by omega)).symm]
    rfl
theorem markIntSF_ev (l : List Int) (s : Nat) (hs : s ≤ 1000000000) (hl : l.length ≤ 4000000) : Ev (fun k => laws_markIntS.f k l (s : Int)) (((s + l.length : Nat) : Int), marksF s l.length) :=
  Ev.congr (f := fun k => laws_markIntS.l0 k ((marksF s l.length).take 0 ++ l.drop 0) ((s + 0 : Nat) : Int) ((0 : Nat) : Int)) (fun _ => rfl) (markIntSF_l0 l s hs hl l.length 0 (by omega))
theorem heldIntSF_l0 (n s : Nat) (hs : s ≤ 1000000000) (hn : n ≤ 4000000) (d : Nat) : ∀ i : Nat, i + d = n → Ev (fun k => laws_heldIntS.l0 k (marksF s n) ((s + i : Nat) : Int) (i : Int)) ((s + n : Nat) : Int) := by
  have hl := marksF_len s n
  induction d with
  | zero =>
    intro i h
    obtain rfl : i = n := by omega
    refine Ev.step (f := fun _ => some _) (fun k => ?_) (Ev.now _)
    rw [laws_heldIntS.l0, if_neg (by omega)]
  | succ d ih =>
    intro i h
    refine Ev.step (fun k => ?_) (ih (i + 1) (by omega))
    rw [laws_heldIntS.l0, if_pos (by omega), if_pos (by omega), rd_nat, marksF_get _ _ _ (by omega), if_pos rfl, w64 (by omega) (by omega), w64 (by omega) (by omega)]
    rfl
theorem heldIntSF_ev (n s : Nat) (hs : s ≤ 1000000000) (hn : n ≤ 4000000) : Ev (fun k => laws_heldIntS.f k (marksF s n) (s : Int)) ((s + n : Nat) : Int) :=
  Ev.congr (f := fun k => laws_heldIntS.l0 k (marksF s n) ((s + 0 : Nat) : Int) ((0 : Nat) : Int)) (fun _ => rfl) (heldIntSF_l0 n s hs hn n 0 (by omega))
theorem markUint64SF_l0 (l : List Int) (s : Nat) (hs : s ≤ 1000000000) (hl : l.length ≤ 4000000) (d : Nat) : ∀ i : Nat, i + d = l.length → Ev (fun k => laws_markUint64S.l0 k ((marksF s l.length).take i ++ l.drop i) ((s + i : Nat) : Int) (i : Int)) (((s + l.length : Nat) : Int), marksF s l.length) := by
  induction d with
  | zero =>
    intro i h
    obtain rfl : i = l.length := by omega
    refine Ev.step (f := fun _ => some _) (fun k => ?_) (Ev.now _)
    rw [laws_markUint64S.l0, if_neg (by rw [over_len _ _ _ (marksF_len _ _) (by omega)]; omega), List.drop_length, List.append_nil, List.take_of_length_le (by rw [marksF_len]; omega)]
  | succ d ih =>
    intro i h
    refine Ev.step (fun k => ?_) (ih (i + 1) (by omega))
    rw [laws_markUint64S.l0, if_pos (by rw [over_len _ _ _ (marksF_len _ _) (by omega)]; omega), if_pos (by omega), wu64 (x := ((s + i : Nat) : Int)) (by omega) (by omega), w64 (by omega) (by omega), w64 (by omega) (by omega), Int.toNat_natCast, over_set (marksF s l.length) l 0 _ i (marksF_len _ _) (by omega) (marksF_get _ _ _ (by omega)).symm]
    rfl
theorem markUint64SF_ev (l : List Int) (s : Nat) (hs : s ≤ 1000000000) (hl : l.length ≤ 4000000) : Ev (fun k => laws_markUint64S.f k l (s : Int)) (((s + l.length : Nat) : Int), marksF s l.length) :=
  Ev.congr (f := fun k => laws_markUint64S.l0 k ((marksF s l.length).take 0 ++ l.drop 0) ((s + 0 : Nat) : Int) ((0 : Nat) : Int)) (fun _ => rfl) (markUint64SF_l0 l s hs hl l.length 0 (by omega))
theorem heldUint64SF_l0 (n s : Nat) (hs : s ≤ 1000000000) (hn : n ≤ 4000000) (d : Nat) : ∀ i : Nat, i + d = n → Ev (fun k => laws_heldUint64S.l0 k (marksF s n) ((s + i : Nat) : Int) (i : Int)) ((s + n : Nat) : Int) := by
  have hl := marksF_len s n
  induction d with
  | zero =>
    intro i h
    obtain rfl : i = n := by omega
    refine Ev.step (f := fun _ => some _) (fun k => ?_) (Ev.now _)
    rw [laws_heldUint64S.l0, if_neg (by omega)]
  | succ d ih =>
    intro i h
    refine Ev.step (fun k => ?_) (ih (i + 1) (by omega))
    rw [laws_heldUint64S.l0, if_pos (by omega), if_pos (by omega), rd_nat, marksF_get _ _ _ (by omega), wu64 (x := ((s + i : Nat) : Int)) (by omega) (by omega), if_pos rfl, w64 (by omega) (by omega), w64 (by omega) (by omega)]
    rfl
theorem heldUint64SF_ev (n s : Nat) (hs : s ≤ 1000000000) (hn : n ≤ 4000000) : Ev (fun k => laws_heldUint64S.f k (marksF s n) (s : Int)) ((s + n : Nat) : Int) :=
  Ev.congr (f := fun k => laws_heldUint64S.l0 k (marksF s n) ((s + 0 : Nat) : Int) ((0 : Nat) : Int)) (fun _ => rfl) (heldUint64SF_l0 n s hs hn n 0 (by omega))

-- the marks of pairs
theorem rdT70 (l : List S70) (i : Nat) : rd_T70 l (i : Int) = l.getD i z70 := by unfold rd_T70; rw [Int.toNat_natCast]
theorem map_toS (ps : List (Nat × Nat)) (k : Nat) (h : k < ps.length) : (ps.map toS).getD k z70 = toS (ps.getD k (0, 0)) := by
  rw [lget_lt _ k z70 (by rw [List.length_map]; exact h), List.getElem_map, lget_lt _ k (0, 0) h]
theorem drop_pair (ps : List (Nat × Nat)) (i : Nat) (h : i < ps.length) : ps.drop i = ps.getD i (0, 0) :: ps.drop (i + 1) := by
  rw [List.drop_eq_getElem_cons h, lget_lt _ _ _ h]
def setAll (x : List Int) (is : List Nat) : List Int := is.foldl (fun x i => x.set i 1) x
theorem setAll_length (is : List Nat) : ∀ x : List Int, (setAll x is).length = x.length := by
  induction is with
  | nil => intro x; rfl
  | cons i is ih => intro x; show (setAll (x.set i 1) is).length = _; rw [ih, List.length_set]
theorem setAll_get (is : List Nat) : ∀ (x : List Int) (j : Nat), j < x.length → (setAll x is).getD j 0 = if j ∈ is then 1 else x.getD j 0 := by
  induction is with
  | nil => intro x j h; rfl
  | cons i is ih =>
    intro x j h
    show (setAll (x.set i 1) is).getD j 0 = _
    rw [ih _ j (by rw [List.length_set]; exact h), lset]
    by_cases c : j ∈ is
    · rw [if_pos c, if_pos (List.mem_cons_of_mem _ c)]
    · rw [if_neg c]
      by_cases c2 : i = j
      · rw [if_pos ⟨c2, h⟩, if_pos (by rw [c2]; exact List.mem_cons_self ..)]
      · rw [if_neg (fun h => c2 h.1), if_neg (by rw [List.mem_cons]; intro h; rcases h with h | h; exact c2 h.symm; exact c h)]
def inA (n : Nat) (ps : List (Nat × Nat)) : List Int := setAll (List.replicate n 0) (ps.map (·.1))
def inB (n : Nat) (ps : List (Nat × Nat)) : List Int := setAll (List.replicate n 0) (ps.map (·.2))
theorem inA_length (n : Nat) (ps : List (Nat × Nat)) : (inA n ps).length = n := by unfold inA; rw [setAll_length, List.length_replicate]
theorem inB_length (n : Nat) (ps : List (Nat × Nat)) : (inB n ps).length = n := by unfold inB; rw [setAll_length, List.length_replicate]
theorem inA_get (n : Nat) (ps : List (Nat × Nat)) (j : Nat) (h : j < n) : (inA n ps).getD j 0 = if j ∈ ps.map (·.1) then 1 else 0 := by
  unfold inA
  rw [setAll_get _ _ j (by rw [List.length_replicate]; exact h), lrep]
theorem inB_get (n : Nat) (ps : List (Nat × Nat)) (j : Nat) (h : j < n) : (inB n ps).getD j 0 = if j ∈ ps.map (·.2) then 1 else 0 := by
  unfold inB
  rw [setAll_get _ _ j (by rw [List.length_replicate]; exact h), lrep]
theorem inA_01 (n : Nat) (ps : List (Nat × Nat)) : ∀ j, j < (inA n ps).length → (inA n ps).getD j 0 = 0 ∨ (inA n ps).getD j 0 = 1 := by
  intro j hj
  rw [inA_length] at hj
  rw [inA_get n ps j hj]
  split
  · exact .inr rfl
  · exact .inl rfl
theorem inB_01 (n : Nat) (ps : List (Nat × Nat)) : ∀ j, j < (inB n ps).length → (inB n ps).getD j 0 = 0 ∨ (inB n ps).getD j 0 = 1 := by
  intro j hj
  rw [inB_length] at hj
  rw [inB_get n ps j hj]
  split
  · exact .inr rfl
  · exact .inl rfl
def nb (ys : List Int) : List Int := ys.map fun y => 1 - y
theorem nb_length (ys : List Int) : (nb ys).length = ys.length := List.length_map _
theorem nb_get (ys : List Int) (i : Nat) (h : i < ys.length) : (nb ys).getD i 0 = 1 - ys.getD i 0 := by
  rw [lget_lt _ _ _ (by rw [nb_length]; exact h), lget_lt _ _ _ h]
  unfold nb
  rw [List.getElem_map]
theorem nb_01 (ys : List Int) (h : ∀ j, j < ys.length → ys.getD j 0 = 0 ∨ ys.getD j 0 = 1) : ∀ j, j < (nb ys).length → (nb ys).getD j 0 = 0 ∨ (nb ys).getD j 0 = 1 := by
  intro j hj
  rw [nb_length] at hj
  rw [nb_get ys j hj]
  have := h j hj
  omega
theorem bits_back (bs : List Int) (hb : ∀ i, i < bs.length → bs.getD i 0 = 0 ∨ bs.getD i 0 = 1) : bitsL bs.length (wordsOf bs) = bs := by
  apply ext_getD 0 (bitsL_length _ _)
  intro j hj
  rw [bitsL_length] at hj
  rw [bitsL_get _ _ _ hj, bitAt_words bs hb j hj]
def restP (b ys : List Int) : List Int := keep b (nb ys)
def ends (a b : List Int) : List (Nat × Nat) := Lcs.firstC a b a.length 0 0
def patchR (a b : List Int) : Int × List Int × Int × List Int × List Int × Bool := if a.length ≤ 301 ∧ b.length ≤ 301 then ((a.length : Int), wordsOf (inA a.length (ends a b)), (b.length : Int), wordsOf (inB b.length (ends a b)), restP b (inB b.length (ends a b)), true) else (0, [], 0, [], [], false)
theorem chain_in {a b : List Int} : ∀ {ps : List (Nat × Nat)} {i j : Nat}, Chain a b i j ps → ∀ k, k < ps.length → (ps.getD k (0, 0)).1 < a.length ∧ (ps.getD k (0, 0)).2 < b.length := by
  intro ps
  induction ps with
  | nil => intro i j _ k hk; simp at hk
  | cons p ps ih =>
    intro i j h k hk
    obtain ⟨_, h2, _, h4, _, h6⟩ := h
    cases k with
    | zero => exact ⟨h2, h4⟩
    | succ k => rw [List.getD_cons_succ]; exact ih h6 k (by simp at hk; omega)
theorem ends_chain (a b : List Int) : Chain a b 0 0 (ends a b) := firstC_chain a b a.length 0 0 (by omega) (by omega)
theorem ends_length (a b : List Int) : (ends a b).length ≤ a.length := by
  unfold ends
  rw [Lcs.firstC_length a b a.length 0 0 (by omega) (by omega)]
  exact Lcs.L_le a b 0 0
theorem implMarks_l0 (ps : List (Nat × Nat)) (n m : Nat) (hp : ps.length ≤ 5000) (hn : n ≤ 5000) (hm : m ≤ 5000) (hin : ∀ k, k < ps.length → (ps.getD k (0, 0)).1 < n ∧ (ps.getD k (0, 0)).2 < m) (r : Int × List Int × Int × List Int) (d : Nat) : ∀ (i : Nat) (x y : List Int), i + d = ps.length → x.length = n → y.length = m →
    Ev (fun k => (impl_bitsOf.f k (setAll x ((ps.drop i).map (·.1)))).bind fun bt225 => ((impl_bitsOf.f k (setAll y ((ps.drop i).map (·.2)))).bind fun bt229 => (some (bt225.1, bt225.2, bt229.1, bt229.2)))) r →
    Ev (fun k => impl_marks.l0 k x y (ps.map toS) (ps.length : Int) (i : Int)) r := by
  induction d with
  | zero =>
    intro i x y h hx hy hk
    rw [List.drop_eq_nil_of_le (by omega)] at hk
    refine Ev.step (fun k => ?_) hk
    rw [impl_marks.l0, if_neg (by omega)]
    rfl
  | succ d ih =>
    intro i x y h hx hy hk
    rw [drop_pair ps i (by omega)] at hk
    have hi := hin i (by omega)
    refine Ev.step (fun k => ?_) (ih (i + 1) (x.set (ps.getD i (0, 0)).1 1) (y.set (ps.getD i (0, 0)).2 1) (by omega) (by rw [List.length_set]; exact hx) (by rw [List.length_set]; exact hy) hk)
    have e0 : (toS (ps.getD i (0, 0))).f0 = ((ps.getD i (0, 0)).1 : Int) := rfl
    have e1 : (toS (ps.getD i (0, 0))).f1 = ((ps.getD i (0, 0)).2 : Int) := rfl
    rw [impl_marks.l0, if_pos (by omega), if_pos (by omega), if_pos (by rw [List.length_map]; omega), rdT70, map_toS _ _ (by omega), e0, e1, if_pos (by omega), if_pos (by omega), if_pos (by omega), if_pos (by omega), w64 (by omega) (by omega), Int.toNat_natCast, Int.toNat_natCast]
    rfl
theorem implMarks_ev (ps : List (Nat × Nat)) (n m : Nat) (hp : ps.length ≤ 5000) (hn : n ≤ 5000) (hm : m ≤ 5000) (hin : ∀ k, k < ps.length → (ps.getD k (0, 0)).1 < n ∧ (ps.getD k (0, 0)).2 < m) : Ev (fun k => impl_marks.f k (n : Int) (m : Int) (ps.map toS)) ((n : Int), wordsOf (inA n ps), (m : Int), wordsOf (inB m ps)) := by
  obtain ⟨K0, k0⟩ := ev_out (implBitsOf_ev (inA n ps) (inA_01 n ps) (by rw [inA_length]; exact hn))
  obtain ⟨K1, k1⟩ := ev_out (implBitsOf_ev (inB m ps) (inB_01 m ps) (by rw [inB_length]; exact hm))
  rw [inA_length] at k0
  rw [inB_length] at k1
  have h := implMarks_l0 ps n m hp hn hm hin ((n : Int), wordsOf (inA n ps), (m : Int), wordsOf (inB m ps)) ps.length 0 (List.replicate n 0) (List.replicate m 0) (by omega) List.length_replicate List.length_replicate (by
    rw [List.drop_zero]
    refine ev_mk (K0 + K1) fun k hk => ?_
    have e0 : impl_bitsOf.f k (setAll (List.replicate n 0) (ps.map (·.1))) = _ := k0 k (by omega)
    have e1 : impl_bitsOf.f k (setAll (List.replicate m 0) (ps.map (·.2))) = _ := k1 k (by omega)
    rw [e0, Option.bind_some, e1, Option.bind_some])
  refine Ev.congr (fun k => ?_) h
  unfold impl_marks.f
  rw [if_pos (by omega), Int.toNat_natCast, if_pos (by omega), if_pos (by omega), Int.toNat_natCast, if_pos (by omega), List.length_map]
  rfl
theorem implUnmarked_ev (b ys : List Int) (n : Int) (hb5 : b.length ≤ 5000) (hl : ys.length = b.length) (h01 : ∀ j, j < ys.length → ys.getD j 0 = 0 ∨ ys.getD j 0 = 1) : Ev (fun k => impl_unmarked.f k b n (wordsOf ys)) (restP b ys) := by
  have h := unmarked_l0 b n (wordsOf ys) (nb ys) (words_lt ys h01) (by unfold wordsOf; rw [wordsTo_length]; omega) hb5 (by rw [nb_length]; exact hl) (fun i hi => by rw [bitAt_words ys h01 i (by omega), nb_get ys i (by omega)]; omega) (nb_01 ys h01) b.length 0 [] (by omega) (Nat.le_refl _)
  rw [List.drop_zero, List.drop_zero, List.nil_append] at h
  exact h
theorem implPatchOf_ev (a b : List Int) : Ev (fun k => impl_PatchOf.f k a b) (patchR a b) := by
  unfold patchR
  by_cases c : a.length ≤ 301 ∧ b.length ≤ 301
  · rw [if_pos c]
    have hin := chain_in (ends_chain a b)
    have hel := ends_length a b
    obtain ⟨K0, k0⟩ := ev_out (implcommonOf_ev a b c.1 c.2)
    obtain ⟨K1, k1⟩ := ev_out (implMarks_ev (ends a b) a.length b.length (by omega) (by omega) (by omega) hin)
    obtain ⟨K2, k2⟩ := ev_out (implUnmarked_ev b (inB b.length (ends a b)) (b.length : Int) (by omega) (inB_length _ _) (inB_01 _ _))
    refine ev_mk (K0 + K1 + K2) fun k hk => ?_
    have e0 : impl_commonOf.f k a b = some ((ends a b).map toS) := k0 k (by omega)
    unfold impl_PatchOf.f
    rw [areListed_eq', Option.bind_some, decide_eq_true c, if_pos rfl, e0, Option.bind_some, k1 k (by omega), Option.bind_some, k2 k (by omega), Option.bind_some]
  · rw [if_neg c]
    refine Ev.congr (f := fun _ => some _) (fun k => ?_) (Ev.now _)
    unfold impl_PatchOf.f
    rw [areListed_eq', Option.bind_some, decide_eq_false c, if_neg (by decide)]
theorem specRest_l1 (b ys : List Int) (N : Int) (W1 : List Int) (M : Int) (W2 : List Int) (h5 : b.length ≤ 5000) (hl : ys.length = b.length) (h01 : ∀ j, j < ys.length → ys.getD j 0 = 0 ∨ ys.getD j 0 = 1) (d : Nat) : ∀ (i : Nat) (acc : List Int), i + d = b.length → acc.length ≤ i → Ev (fun k => spec_l12Patch.l1 k b ys (i : Int) N W1 M W2 acc) (N, W1, M, W2, acc ++ keep (b.drop i) ((nb ys).drop i)) := by
  induction d with
  | zero =>
    intro i acc h ha
    refine Ev.step (f := fun _ => some _) (fun k => ?_) (Ev.now _)
    rw [spec_l12Patch.l1, if_neg (by omega), List.drop_eq_nil_of_le (by omega), keep, List.append_nil]
    intros; contradiction
  | succ d ih =>
    intro i acc h ha
    have hg := nb_get ys i (by omega)
    rw [keep_step b (nb ys) i (by omega) (by rw [nb_length]; omega)]
    by_cases q : ys.getD i 0 = 0
    · refine Ev.step (fun k => ?_) (by rw [if_pos (by omega), List.append_cons]; exact ih (i + 1) (acc ++ [b.getD i 0]) (by omega) (by rw [List.length_append]; simp; omega))
      rw [spec_l12Patch.l1, if_pos (by omega), if_pos (by omega), if_pos (by omega), rd_nat, if_pos q, if_pos (by omega), rd_nat, w64 (by omega) (by omega)]
      rfl
    · have := h01 i (by omega)
      refine Ev.step (fun k => ?_) (by rw [if_neg (by omega)]; exact ih (i + 1) acc (by omega) (by omega))
      rw [spec_l12Patch.l1, if_pos (by omega), if_pos (by omega), if_pos (by omega), rd_nat, if_neg q, w64 (by omega) (by omega)]
      rfl
theorem specP_l0 (b : List Int) (ps : List (Nat × Nat)) (n m : Nat) (hp : ps.length ≤ 5000) (hn : n ≤ 5000) (hm : m ≤ 5000) (hin : ∀ k, k < ps.length → (ps.getD k (0, 0)).1 < n ∧ (ps.getD k (0, 0)).2 < m) (r : Int × List Int × Int × List Int × List Int) (d : Nat) : ∀ (i : Nat) (x y : List Int), i + d = ps.length → x.length = n → y.length = m →
    Ev (fun k => (spec_BitsOf.f k (setAll x ((ps.drop i).map (·.1)))).bind fun bt124 => ((spec_BitsOf.f k (setAll y ((ps.drop i).map (·.2)))).bind fun bt129 => (spec_l12Patch.l1 k b (setAll y ((ps.drop i).map (·.2))) 0 bt124.1 bt124.2.1 bt129.1 bt129.2.1 ([] : List Int)))) r →
    Ev (fun k => spec_l12Patch.l0 k b (ps.map toS) x y (i : Int)) r := by
  induction d with
  | zero =>
    intro i x y h hx hy hk
    rw [List.drop_eq_nil_of_le (by omega)] at hk
    refine Ev.step (fun k => ?_) hk
    rw [spec_l12Patch.l0, if_neg (by rw [List.length_map]; omega)]
    rfl
  | succ d ih =>
    intro i x y h hx hy hk
    rw [drop_pair ps i (by omega)] at hk
    have hi := hin i (by omega)
    refine Ev.step (fun k => ?_) (ih (i + 1) (x.set (ps.getD i (0, 0)).1 1) (y.set (ps.getD i (0, 0)).2 1) (by omega) (by rw [List.length_set]; exact hx) (by rw [List.length_set]; exact hy) hk)
    have e0 : (toS (ps.getD i (0, 0))).f0 = ((ps.getD i (0, 0)).1 : Int) := rfl
    have e1 : (toS (ps.getD i (0, 0))).f1 = ((ps.getD i (0, 0)).2 : Int) := rfl
    rw [spec_l12Patch.l0, if_pos (by rw [List.length_map]; omega), if_pos (by omega), rdT70, map_toS _ _ (by omega), e0, e1, if_pos (by omega), if_pos (by omega), if_pos (by omega), if_pos (by omega), w64 (by omega) (by omega), Int.toNat_natCast, Int.toNat_natCast]
    rfl
theorem specPatch_f (b : List Int) (ps : List (Nat × Nat)) (n : Nat) (hp : ps.length ≤ 5000) (hn : n ≤ 5000) (hm : b.length ≤ 5000) (hin : ∀ k, k < ps.length → (ps.getD k (0, 0)).1 < n ∧ (ps.getD k (0, 0)).2 < b.length) : Ev (fun k => spec_l12Patch.f k (n : Int) b (ps.map toS)) ((n : Int), wordsOf (inA n ps), (b.length : Int), wordsOf (inB b.length ps), restP b (inB b.length ps)) := by
  obtain ⟨K0, k0⟩ := ev_out (specBitsOf_ev (inA n ps) (inA_01 n ps) (by rw [inA_length]; exact hn))
  obtain ⟨K1, k1⟩ := ev_out (specBitsOf_ev (inB b.length ps) (inB_01 b.length ps) (by rw [inB_length]; exact hm))
  rw [inA_length] at k0
  rw [inB_length] at k1
  obtain ⟨K2, k2⟩ := ev_out (specRest_l1 b (inB b.length ps) (n : Int) (wordsOf (inA n ps)) (b.length : Int) (wordsOf (inB b.length ps)) hm (inB_length _ _) (inB_01 _ _) b.length 0 [] (by omega) (Nat.le_refl _))
  have h := specP_l0 b ps n b.length hp hn hm hin ((n : Int), wordsOf (inA n ps), (b.length : Int), wordsOf (inB b.length ps), restP b (inB b.length ps)) ps.length 0 (List.replicate n 0) (List.replicate b.length 0) (by omega) List.length_replicate List.length_replicate (by
    rw [List.drop_zero]
    refine ev_mk (K0 + K1 + K2) fun k hk => ?_
    have e0 : spec_BitsOf.f k (setAll (List.replicate n 0) (ps.map (·.1))) = _ := k0 k (by omega)
    have e1 : spec_BitsOf.f k (setAll (List.replicate b.length 0) (ps.map (·.2))) = _ := k1 k (by omega)
    rw [e0, Option.bind_some, e1, Option.bind_some]
    have e2 := k2 k (by omega)
    rw [List.drop_zero, List.drop_zero, List.nil_append] at e2
    exact e2)
  refine Ev.congr (fun k => ?_) h
  unfold spec_l12Patch.f
  rw [if_pos (by omega), Int.toNat_natCast, if_pos (by omega), if_pos (by omega), Int.toNat_natCast, if_pos (by omega)]
  rfl
theorem specPatchOf_ev (a b : List Int) : Ev (fun k => spec_PatchOf.f k a b) (patchR a b) := by
  have hj : ¬ (a.length ≤ 301 ∧ b.length ≤ 301) → ∀ k, 1 ≤ k → spec_PatchOf.j0 k a b true = some (patchR a b) := by
    intro h k hk
    obtain ⟨k, rfl⟩ : ∃ m, k = m + 1 := ⟨k - 1, by omega⟩
    unfold patchR
    rw [spec_PatchOf.j0, if_pos rfl, if_neg h]
  by_cases c1 : (a.length : Int) ≤ 301
  · by_cases c2 : (b.length : Int) ≤ 301
    · have c : a.length ≤ 301 ∧ b.length ≤ 301 := ⟨by omega, by omega⟩
      have hin := chain_in (ends_chain a b)
      have hel := ends_length a b
      obtain ⟨K0, k0⟩ := ev_out (specCommonOf_ev a b)
      have hpo : pairsOf a b = (ends a b).map toS := by unfold pairsOf; rw [if_pos c]; rfl
      rw [hpo] at k0
      obtain ⟨K1, k1⟩ := ev_out (specPatch_f b (ends a b) a.length (by omega) (by omega) (by omega) hin)
      refine ev_mk (K0 + K1 + 1) fun k hk => ?_
      obtain ⟨k, rfl⟩ : ∃ m, k = m + 1 := ⟨k - 1, by omega⟩
      unfold spec_PatchOf.f spec_l12Right.f patchR
      rw [Option.bind_some, decide_eq_true c1, if_pos rfl, Option.bind_some, decide_eq_true c2, Bool.not_true, spec_PatchOf.j0, if_neg (by decide), k0 k (by omega), Option.bind_some, k1 k (by omega), Option.bind_some, if_pos c]
    · refine ev_mk 1 fun k hk => ?_
      unfold spec_PatchOf.f spec_l12Right.f
      rw [Option.bind_some, decide_eq_true c1, if_pos rfl, Option.bind_some, decide_eq_false c2, Bool.not_false, hj (by omega) k hk]
  · refine ev_mk 1 fun k hk => ?_
    unfold spec_PatchOf.f spec_l12Right.f
    rw [Option.bind_some, decide_eq_false c1, if_neg (by decide), hj (by omega) k hk]

theorem keep_le (l : List Int) : ∀ bs : List Int, (keep l bs).length ≤ l.length := by
  induction l with
  | nil => intro bs; cases bs <;> exact Nat.le_refl _
  | cons x xs ih =>
    intro bs
    cases bs with
    | nil => exact Nat.zero_le _
    | cons b bs =>
      have := ih bs
      rw [keep, List.length_cons]
      split
      · rw [List.length_cons]; omega
      · omega
structure Sz (p : Int × List Int × Int × List Int × List Int × Bool) : Prop where
  a : p.2.1.length ≤ 4000
  b : p.2.2.2.1.length ≤ 4000
  c : p.2.2.2.2.1.length ≤ 4000
theorem patchR_sz (a b : List Int) : Sz (patchR a b) := by
  unfold patchR
  by_cases c : a.length ≤ 301 ∧ b.length ≤ 301
  · rw [if_pos c]
    refine ⟨?_, ?_, ?_⟩
    · show (wordsOf _).length ≤ 4000
      unfold wordsOf
      rw [wordsTo_length, inA_length]
      omega
    · show (wordsOf _).length ≤ 4000
      unfold wordsOf
      rw [wordsTo_length, inB_length]
      omega
    · show (restP _ _).length ≤ 4000
      have := keep_le b (nb (inB b.length (ends a b)))
      unfold restP
      omega
  · rw [if_neg c]
    exact ⟨Nat.zero_le _, Nat.zero_le _, Nat.zero_le _⟩
theorem eqPatch_ev (n : Int) (w1 : List Int) (m : Int) (w2 r : List Int) (h1 : w1.length ≤ 4000) (h2 : w2.length ≤ 4000) (h3 : r.length ≤ 4000) : Ev (fun k => laws_eqPatch.f k n w1 m w2 r n w1 m w2 r) true := by
  obtain ⟨K0, k0⟩ := ev_out (eqUint64S_ev w1 (by omega))
  obtain ⟨K1, k1⟩ := ev_out (eqUint64S_ev w2 (by omega))
  obtain ⟨K2, k2⟩ := ev_out (eqIntS_ev r (by omega))
  refine ev_mk (K0 + K1 + K2) fun k hk => ?_
  unfold laws_eqPatch.f laws_eqBits.f
  rw [if_pos rfl, k0 k (by omega), Option.bind_some, if_pos rfl, Option.bind_some, if_pos rfl, if_pos rfl, k1 k (by omega), Option.bind_some, if_pos rfl, Option.bind_some, if_pos rfl, k2 k (by omega), Option.bind_some, if_pos rfl]
theorem markPatch_ev (n : Int) (w1 : List Int) (m : Int) (w2 r : List Int) (h1 : w1.length ≤ 4000) (h2 : w2.length ≤ 4000) (h3 : r.length ≤ 4000) : Ev (fun k => laws_markPatch.f k n w1 m w2 r 1) (((1 + w1.length + w2.length + r.length : Nat) : Int), marksF 1 w1.length, marksF (1 + w1.length) w2.length, marksF (1 + w1.length + w2.length) r.length) := by
  obtain ⟨K0, k0⟩ := ev_out (markUint64SF_ev w1 1 (by omega) (by omega))
  obtain ⟨K1, k1⟩ := ev_out (markUint64SF_ev w2 (1 + w1.length) (by omega) (by omega))
  obtain ⟨K2, k2⟩ := ev_out (markIntSF_ev r (1 + w1.length + w2.length) (by omega) (by omega))
  refine ev_mk (K0 + K1 + K2) fun k hk => ?_
  have e0 : laws_markUint64S.f k w1 1 = _ := k0 k (by omega)
  unfold laws_markPatch.f laws_markBits.f
  rw [e0, Option.bind_some, Option.bind_some]
  dsimp only
  rw [k1 k (by omega), Option.bind_some, Option.bind_some]
  dsimp only
  rw [k2 k (by omega), Option.bind_some]
theorem heldPatch_ev (n m : Int) (x y z : Nat) (h1 : x ≤ 4000) (h2 : y ≤ 4000) (h3 : z ≤ 4000) : Ev (fun k => laws_heldPatch.f k n (marksF 1 x) m (marksF (1 + x) y) (marksF (1 + x + y) z) 1) ((1 + x + y + z : Nat) : Int) := by
  obtain ⟨K0, k0⟩ := ev_out (heldUint64SF_ev x 1 (by omega) (by omega))
  obtain ⟨K1, k1⟩ := ev_out (heldUint64SF_ev y (1 + x) (by omega) (by omega))
  obtain ⟨K2, k2⟩ := ev_out (heldIntSF_ev z (1 + x + y) (by omega) (by omega))
  refine ev_mk (K0 + K1 + K2) fun k hk => ?_
  have e0 : laws_heldUint64S.f k (marksF 1 x) 1 = _ := k0 k (by omega)
  unfold laws_heldPatch.f laws_heldBits.f
  rw [e0, Option.bind_some, if_neg (by omega), Option.bind_some, if_neg (by omega), k1 k (by omega), Option.bind_some, if_neg (by omega), Option.bind_some, if_neg (by omega), k2 k (by omega), Option.bind_some, if_neg (by omega)]

theorem FnExactPatchOf : laws_FnExactPatchOf.Pure := by
  intro a b _ _ _ _ _ _
  by_cases g0 : (a.length : Int) > 1048576
  · exact ⟨0, by unfold laws_FnExactPatchOf.f; rw [if_pos g0]⟩
  by_cases g1 : (b.length : Int) > 1048576
  · exact ⟨0, by unfold laws_FnExactPatchOf.f; rw [if_neg g0, if_pos g1]⟩
  have hs := patchR_sz a b
  obtain ⟨K0, h0⟩ := ev_out (toIntS_ev a (by omega))
  obtain ⟨K1, h1⟩ := ev_out (toIntS_ev b (by omega))
  obtain ⟨K2, h2⟩ := ev_out (specPatchOf_ev a b)
  obtain ⟨K3, h3⟩ := ev_out (implPatchOf_ev a b)
  obtain ⟨⟨n, w1, m, w2, r, f⟩, hp⟩ : ∃ p, p = patchR a b := ⟨_, rfl⟩
  rw [← hp] at h2 h3 hs
  have s1 : w1.length ≤ 4000 := hs.a
  have s2 : w2.length ≤ 4000 := hs.b
  have s3 : r.length ≤ 4000 := hs.c
  obtain ⟨K4, h4⟩ := ev_out (eqPatch_ev n w1 m w2 r s1 s2 s3)
  obtain ⟨K5, h5⟩ := ev_out (eqIntS_ev a (by omega))
  obtain ⟨K6, h6⟩ := ev_out (eqIntS_ev b (by omega))
  obtain ⟨K7, h7⟩ := ev_out (markIntSF_ev a 1 (by omega) (by omega))
  obtain ⟨K8, h8⟩ := ev_out (markIntSF_ev b (1 + a.length) (by omega) (by omega))
  obtain ⟨K9, h9⟩ := ev_out (markPatch_ev n w1 m w2 r s1 s2 s3)
  obtain ⟨K10, h10⟩ := ev_out (heldPatch_ev n m w1.length w2.length r.length s1 s2 s3)
  refine ⟨K0 + K1 + K2 + K3 + K4 + K5 + K6 + K7 + K8 + K9 + K10 + 3, ?_⟩
  have e7 : ∀ k, K7 ≤ k → laws_markIntS.f k a 1 = some (((1 + a.length : Nat) : Int), marksF 1 a.length) := fun k hk => h7 k hk
  unfold laws_FnExactPatchOf.f
  rw [if_neg g0, if_neg g1, h0 _ (by omega), Option.bind_some, h1 _ (by omega), Option.bind_some, h2 _ (by omega), Option.bind_some, Option.bind_some, Option.bind_some, h3 _ (by omega), Option.bind_some]
  dsimp only
  rw [h4 _ (by omega), Option.bind_some, if_pos rfl, bne_self_eq_false,
    laws_FnExactPatchOf.j0, if_neg (by decide), h0 _ (by omega), Option.bind_some, h5 _ (by omega), Option.bind_some, if_pos rfl, h1 _ (by omega), Option.bind_some, h6 _ (by omega), Option.bind_some, if_pos rfl, e7 _ (by omega), Option.bind_some]
  dsimp only
  rw [h8 _ (by omega), Option.bind_some]
  dsimp only
  rw [if_neg (by omega), h4 _ (by omega), Option.bind_some, if_pos rfl, bne_self_eq_false,
    laws_FnExactPatchOf.j1, if_neg (by decide), h9 _ (by omega), Option.bind_some]
  dsimp only
  rw [h10 _ (by omega), Option.bind_some, if_neg (by omega), if_pos rfl, h0 _ (by omega), Option.bind_some, h1 _ (by omega), Option.bind_some, h3 _ (by omega), Option.bind_some]
  dsimp only
  rw [h4 _ (by omega), Option.bind_some, if_pos rfl, bne_self_eq_false,
    laws_FnExactPatchOf.j2, if_neg (by decide), h10 _ (by omega), Option.bind_some, if_neg (by omega), if_pos rfl]

end Go.Proofs.Ytdiemmcnekbfaaa.Pure
