/- The program's PartsOk returns what the reference's returns, for all arguments (lists that hold more than 2^20 values are let pass by the statement itself). -/
import Derived.Test.YtlnmkgeoiinjfaaQFnExactPartsOkx3
import Derived.Test.YtlnmkgeoiinjfaaBase
namespace Go.Proofs.Ytlnmkgeoiinjfaa.Pure
open Go.RowKit Go.Proofs.Ytlnmkgeoiinjfaa.QFnExactPartsOk Go.Proofs.YtlnmkgeoiinjfaaW.PrintWords Go.Proofs.YtlnmkgeoiinjfaaW.PrintLast
open Go.Proofs.Ytlnmkgeoiinjfaa Go.Proofs.Ytlnmkgeoiinjfaa.Base
set_option linter.unusedVariables false
set_option linter.unusedSimpArgs false

-- toByteS, eqByteS
theorem toByteS_l0 (l : List Int) (hl : l.length ≤ 4000000) (d : Nat) : ∀ i : Nat, i + d = l.length → Ev (fun k => laws_toByteS.l0 k l (l.take i ++ List.replicate d 0) (i : Int)) l := by
  induction d with
  | zero =>
    intro i h
    refine Ev.step (f := fun _ => some l) (fun k => ?_) (Ev.now l)
    rw [laws_toByteS.l0]
    rw [if_neg (by omega), List.take_of_length_le (by omega)]
    simp
  | succ d ih =>
    intro i h
    refine Ev.step (f := fun k => laws_toByteS.l0 k l (l.take (i + 1) ++ List.replicate d 0) ((i + 1 : Nat) : Int)) (fun k => ?_) (ih (i + 1) (by omega))
    rw [laws_toByteS.l0]
    rw [if_pos (by omega), if_pos (by omega), if_pos (by rw [fill_length l 0 i (d + 1) h]; omega), w64 (by omega) (by omega), rd_nat, Int.toNat_natCast, fill_set l 0 _ i d h rfl]
    rfl
theorem toByteS_ev (l : List Int) (hl : l.length ≤ 4000000) : Ev (fun k => laws_toByteS.f k l) l := by
  refine Ev.congr (f := fun k => laws_toByteS.l0 k l (l.take 0 ++ List.replicate l.length 0) ((0 : Nat) : Int)) (fun k => ?_) (toByteS_l0 l hl l.length 0 (by omega))
  unfold laws_toByteS.f
  rw [if_pos (by omega), Int.toNat_natCast, if_pos (by omega)]
  rfl
theorem eqByteS_l0 (l : List Int) (hl : l.length ≤ 4000000) (d : Nat) : ∀ i : Nat, i + d = l.length → Ev (fun k => laws_eqByteS.l0 k l l (i : Int)) true := by
  induction d with
  | zero =>
    intro i h
    refine Ev.step (f := fun _ => some true) (fun k => ?_) (Ev.now true)
    rw [laws_eqByteS.l0]
    rw [if_neg (by omega)]
  | succ d ih =>
    intro i h
    refine Ev.step (f := fun k => laws_eqByteS.l0 k l l ((i + 1 : Nat) : Int)) (fun k => ?_) (ih (i + 1) (by omega))
    rw [laws_eqByteS.l0]
    rw [if_pos (by omega), if_pos (by omega), if_pos (by omega), if_pos rfl, w64 (by omega) (by omega)]
    rfl
theorem eqByteS_ev (l : List Int) (hl : l.length ≤ 4000000) : Ev (fun k => laws_eqByteS.f k l l) true := by
  refine Ev.congr (f := fun k => laws_eqByteS.l0 k l l ((0 : Nat) : Int)) (fun k => ?_) (eqByteS_l0 l hl l.length 0 (by omega))
  unfold laws_eqByteS.f
  rw [if_pos rfl]
  rfl

-- lists of parts
def conv (x : S63) : S64 := ⟨x.f0, x.f1, x.f2, x.f3, x.f4⟩
theorem rdT63 (l : List S63) (i : Nat) : rd_T63 l (i : Int) = l.getD i z63 := by unfold rd_T63; rw [Int.toNat_natCast]
theorem rdT64 (l : List S64) (i : Nat) : rd_T64 l (i : Int) = l.getD i z64 := by unfold rd_T64; rw [Int.toNat_natCast]
theorem szPart_eq (x : S63) (a : Int) (h0 : 0 ≤ a) (h1 : a ≤ 1048576) (hl : x.f0.length ≤ 9223372036854775807) :
    laws_szPart.f x.f0 x.f1 x.f2 x.f3 x.f4 a = some (if a < (x.f0.length : Int) then -1 else a - (x.f0.length : Int)) := by
  unfold laws_szPart.f laws_szByteS.f
  rw [w64 (by omega) (by omega)]
  by_cases h : a < (x.f0.length : Int)
  · rw [if_pos (by omega), if_pos h, Option.bind_some, if_pos (by omega)]
  · rw [if_neg (by omega), if_neg h, Option.bind_some, if_neg (by omega)]
theorem szPartS_l0 (l : List S63) (hl : l.length ≤ 1048576) (ho : ∀ x ∈ l, x.f0.length ≤ 9223372036854775807) (d : Nat) : ∀ (i : Nat) (a : Int), 0 ≤ a → a ≤ 1048576 → i + d = l.length →
    ∃ r, Ev (fun k => laws_szPartS.l0 k l a (i : Int)) r ∧ (0 ≤ r → ∀ j, i ≤ j → j < l.length → (l.getD j z63).f0.length ≤ 1048576) := by
  induction d with
  | zero =>
    intro i a h0 h1 h
    refine ⟨a, Ev.step (f := fun _ => some a) (fun k => ?_) (Ev.now a), fun _ j hj hj2 => by omega⟩
    rw [laws_szPartS.l0, if_neg (by omega)]
  | succ d ih =>
    intro i a h0 h1 h
    have hx : (l.getD i z63).f0.length ≤ 9223372036854775807 := by
      rw [lget_lt l i z63 (by omega)]
      exact ho _ (List.getElem_mem _)
    have hs := szPart_eq (l.getD i z63) a h0 h1 hx
    by_cases hc : a < ((l.getD i z63).f0.length : Int)
    · refine ⟨-1, Ev.step (f := fun _ => some (-1)) (fun k => ?_) (Ev.now _), fun h => by omega⟩
      rw [laws_szPartS.l0, if_pos (by omega), if_pos (by omega), rdT63, hs, if_pos hc, Option.bind_some, if_pos (by omega)]
    · obtain ⟨r, hr, hq⟩ := ih (i + 1) (a - ((l.getD i z63).f0.length : Int)) (by omega) (by omega) (by omega)
      refine ⟨r, Ev.step (f := fun k => laws_szPartS.l0 k l (a - ((l.getD i z63).f0.length : Int)) ((i + 1 : Nat) : Int)) (fun k => ?_) hr, fun h j hj hj2 => ?_⟩
      · rw [laws_szPartS.l0, if_pos (by omega), if_pos (by omega), rdT63, hs, if_neg hc, Option.bind_some, if_neg (by omega), w64 (by omega) (by omega)]
        rfl
      · by_cases e : j = i
        · subst e; omega
        · exact hq h j (by omega) hj2
theorem szPartS_ev (l : List S63) (hl : l.length ≤ 9223372036854775807) (ho : ∀ x ∈ l, x.f0.length ≤ 9223372036854775807) :
    ∃ r, Ev (fun k => laws_szPartS.f k l 1048576) r ∧ (0 ≤ r → l.length ≤ 1048576 ∧ ∀ j, j < l.length → (l.getD j z63).f0.length ≤ 1048576) := by
  by_cases hc : (1048576 : Int) < (l.length : Int)
  · refine ⟨-1, ev_mk 0 fun k _ => ?_, fun h => by omega⟩
    unfold laws_szPartS.f
    rw [w64 (by omega) (by omega), if_pos (by omega)]
  · obtain ⟨r, hr, hq⟩ := szPartS_l0 l (by omega) ho l.length 0 (1048576 - (l.length : Int)) (by omega) (by omega) (by omega)
    refine ⟨r, Ev.congr (f := fun k => laws_szPartS.l0 k l (1048576 - (l.length : Int)) ((0 : Nat) : Int)) (fun k => ?_) hr, fun h => ⟨by omega, fun j hj => hq h j (by omega) hj⟩⟩
    unfold laws_szPartS.f
    rw [w64 (by omega) (by omega), if_neg (by omega)]
    rfl
theorem toPartS_l0 (l : List S63) (hl : l.length ≤ 1048576) (ho : ∀ j, j < l.length → (l.getD j z63).f0.length ≤ 1048576) (d : Nat) : ∀ i : Nat, i + d = l.length →
    Ev (fun k => laws_toPartS.l0 k l ((l.map conv).take i ++ List.replicate d z64) (i : Int)) (l.map conv) := by
  induction d with
  | zero =>
    intro i h
    refine Ev.step (f := fun _ => some (l.map conv)) (fun k => ?_) (Ev.now _)
    rw [laws_toPartS.l0, if_neg (by omega), List.take_of_length_le (by rw [List.length_map]; omega)]
    simp
  | succ d ih =>
    intro i h
    obtain ⟨K, hK⟩ := ev_out (toByteS_ev (l.getD i z63).f0 (by have := ho i (by omega); omega))
    obtain ⟨K2, hK2⟩ := ev_out (ih (i + 1) (by omega))
    have hm : (l.map conv).length = l.length := List.length_map _
    refine ev_mk (K + K2 + 1) fun k hk => ?_
    obtain ⟨k, rfl⟩ : ∃ m, k = m + 1 := ⟨k - 1, by omega⟩
    rw [laws_toPartS.l0, if_pos (by omega), if_pos (by omega), rdT63]
    unfold laws_toPart.f
    rw [hK k (by omega), Option.bind_some, Option.bind_some, if_pos (by rw [fill_length (l.map conv) z64 i (d + 1) (by omega)]; omega), w64 (by omega) (by omega), Int.toNat_natCast,
      fill_set (l.map conv) z64 _ i d (by omega) (by
        rw [lget_lt (l.map conv) i z64 (by omega), List.getElem_map, lget_lt l i z63 (by omega)]
        rfl)]
    exact hK2 k (by omega)
theorem toPartS_ev (l : List S63) (hl : l.length ≤ 1048576) (ho : ∀ j, j < l.length → (l.getD j z63).f0.length ≤ 1048576) : Ev (fun k => laws_toPartS.f k l) (l.map conv) := by
  refine Ev.congr (f := fun k => laws_toPartS.l0 k l ((l.map conv).take 0 ++ List.replicate l.length z64) ((0 : Nat) : Int)) (fun k => ?_) (toPartS_l0 l hl ho l.length 0 (by omega))
  unfold laws_toPartS.f
  rw [if_pos (by omega), Int.toNat_natCast, if_pos (by omega)]
  rfl
theorem eqPartS_l0 (l : List S64) (hl : l.length ≤ 1048576) (ho : ∀ j, j < l.length → (l.getD j z64).f0.length ≤ 1048576) (d : Nat) : ∀ i : Nat, i + d = l.length → Ev (fun k => laws_eqPartS.l0 k l l (i : Int)) true := by
  induction d with
  | zero =>
    intro i h
    refine Ev.step (f := fun _ => some true) (fun k => ?_) (Ev.now _)
    rw [laws_eqPartS.l0, if_neg (by omega)]
  | succ d ih =>
    intro i h
    obtain ⟨K, hK⟩ := ev_out (eqByteS_ev (l.getD i z64).f0 (by have := ho i (by omega); omega))
    obtain ⟨K2, hK2⟩ := ev_out (ih (i + 1) (by omega))
    refine ev_mk (K + K2 + 1) fun k hk => ?_
    obtain ⟨k, rfl⟩ : ∃ m, k = m + 1 := ⟨k - 1, by omega⟩
    rw [laws_eqPartS.l0, if_pos (by omega), if_pos (by omega), if_pos (by omega), rdT64]
    unfold laws_eqPart.f
    rw [hK k (by omega), Option.bind_some, if_pos rfl, if_pos rfl, if_pos rfl, if_pos rfl, if_pos rfl, Option.bind_some, if_pos rfl, w64 (by omega) (by omega)]
    exact hK2 k (by omega)
theorem eqPartS_ev (l : List S64) (hl : l.length ≤ 1048576) (ho : ∀ j, j < l.length → (l.getD j z64).f0.length ≤ 1048576) : Ev (fun k => laws_eqPartS.f k l l) true := by
  refine Ev.congr (f := fun k => laws_eqPartS.l0 k l l ((0 : Nat) : Int)) (fun k => ?_) (eqPartS_l0 l hl ho l.length 0 (by omega))
  unfold laws_eqPartS.f
  rw [if_pos rfl]
  rfl

-- PartsOk, both
theorem partsOk_l0 (r t : List Int) (l : List S64) (hr : r.length ≤ 300) (ht : t.length ≤ 300) (hl : l.length ≤ 1048576) (d : Nat) : ∀ (i : Nat) (a b : Int), i + d = l.length →
    ∃ v, Ev (fun k => spec_PartsOk.l0 k r t l a b (i : Int)) v ∧ Ev (fun k => impl_PartsOk.l0 k r t a b l (l.length : Int) (i : Int)) v := by
  induction d with
  | zero =>
    intro i a b h
    by_cases e : a = (r.length : Int) + 1
    · refine ⟨(b == (t.length : Int) + 1), Ev.step (f := fun _ => some _) (fun k => ?_) (Ev.now _), Ev.step (f := fun _ => some _) (fun k => ?_) (Ev.now _)⟩
      · rw [spec_PartsOk.l0, if_neg (by omega), w64 (by omega) (by omega), w64 (by omega) (by omega), if_pos e]
      · rw [impl_PartsOk.l0, if_neg (by omega), w64 (by omega) (by omega), w64 (by omega) (by omega), if_pos e]
    · refine ⟨false, Ev.step (f := fun _ => some _) (fun k => ?_) (Ev.now _), Ev.step (f := fun _ => some _) (fun k => ?_) (Ev.now _)⟩
      · rw [spec_PartsOk.l0, if_neg (by omega), w64 (by omega) (by omega), if_neg e]
      · rw [impl_PartsOk.l0, if_neg (by omega), w64 (by omega) (by omega), if_neg e]
  | succ d ih =>
    intro i a b h
    by_cases e1 : (l.getD i z64).f1 = a
    · by_cases e2 : (l.getD i z64).f3 = b
      · by_cases e3 : (l.getD i z64).f2 < a
        · refine ⟨false, Ev.step (f := fun _ => some _) (fun k => ?_) (Ev.now _), Ev.step (f := fun _ => some _) (fun k => ?_) (Ev.now _)⟩
          · rw [spec_PartsOk.l0, if_pos (by omega), if_pos (by omega), rdT64, if_pos e1, if_pos e2, if_pos e3]
          · rw [impl_PartsOk.l0, if_pos (by omega), if_pos (by omega), if_pos (by omega), rdT64, if_pos e1, if_pos e2, if_pos (by omega)]
        · by_cases e4 : (l.getD i z64).f4 < b
          · refine ⟨false, Ev.step (f := fun _ => some _) (fun k => ?_) (Ev.now _), Ev.step (f := fun _ => some _) (fun k => ?_) (Ev.now _)⟩
            · rw [spec_PartsOk.l0, if_pos (by omega), if_pos (by omega), rdT64, if_pos e1, if_pos e2, if_neg e3, if_pos e4]
            · rw [impl_PartsOk.l0, if_pos (by omega), if_pos (by omega), if_pos (by omega), rdT64, if_pos e1, if_pos e2, if_neg (by omega), if_pos (by omega)]
          · obtain ⟨v, h1, h2⟩ := ih (i + 1) (l.getD i z64).f2 (l.getD i z64).f4 (by omega)
            refine ⟨v, Ev.step (fun k => ?_) h1, Ev.step (fun k => ?_) h2⟩
            · rw [spec_PartsOk.l0, if_pos (by omega), if_pos (by omega), rdT64, if_pos e1, if_pos e2, if_neg e3, if_neg e4, w64 (by omega) (by omega)]
              rfl
            · rw [impl_PartsOk.l0, if_pos (by omega), if_pos (by omega), if_pos (by omega), rdT64, if_pos e1, if_pos e2, if_neg (by omega), if_neg (by omega), w64 (by omega) (by omega)]
              rfl
      · refine ⟨false, Ev.step (f := fun _ => some _) (fun k => ?_) (Ev.now _), Ev.step (f := fun _ => some _) (fun k => ?_) (Ev.now _)⟩
        · rw [spec_PartsOk.l0, if_pos (by omega), if_pos (by omega), rdT64, if_pos e1, if_neg e2]
        · rw [impl_PartsOk.l0, if_pos (by omega), if_pos (by omega), if_pos (by omega), rdT64, if_pos e1, if_neg e2]
    · refine ⟨false, Ev.step (f := fun _ => some _) (fun k => ?_) (Ev.now _), Ev.step (f := fun _ => some _) (fun k => ?_) (Ev.now _)⟩
      · rw [spec_PartsOk.l0, if_pos (by omega), if_pos (by omega), rdT64, if_neg e1]
      · rw [impl_PartsOk.l0, if_pos (by omega), if_pos (by omega), if_pos (by omega), rdT64, if_neg e1]
theorem partsOk_ev (r t : List Int) (l : List S64) (hl : l.length ≤ 1048576) : ∃ v, Ev (fun k => spec_PartsOk.f k r t l) v ∧ Ev (fun k => impl_PartsOk.f k r t l) v := by
  unfold spec_PartsOk.f impl_PartsOk.f impl_isShared.f spec_TextOk.f impl_TextOk.f impl_within.f
  have no : ∀ (x : Bool), x = true → ∃ v, Ev (fun k => spec_PartsOk.j0 k r t l x) v ∧ Ev (fun k => impl_PartsOk.j0 k r t l x) v := fun x hx =>
    ⟨false, Ev.step (f := fun _ => some _) (fun k => by rw [spec_PartsOk.j0, if_pos hx]) (Ev.now _), Ev.step (f := fun _ => some _) (fun k => by rw [impl_PartsOk.j0, if_pos hx]) (Ev.now _)⟩
  by_cases hr : (r.length : Int) ≤ 300
  · by_cases ht : (t.length : Int) ≤ 300
    · simp only [Option.bind_some, decide_eq_true hr, decide_eq_true ht, if_true, Int.le_refl]
      by_cases hz : ((l.length : Int) == 0) = true
      · obtain ⟨v, h1, h2⟩ := no _ hz
        exact ⟨v, h1, by simpa using h2⟩
      · obtain ⟨v, h1, h2⟩ := partsOk_l0 r t l (by omega) (by omega) hl l.length 0 0 0 (by omega)
        refine ⟨v, Ev.step (fun k => ?_) h1, ?_⟩
        · rw [spec_PartsOk.j0, if_neg hz]
          rfl
        · refine Ev.congr (f := fun k => impl_PartsOk.j0 k r t l ((l.length : Int) == 0)) (fun k => by simp) (Ev.step (fun k => ?_) h2)
          rw [impl_PartsOk.j0, if_neg hz]
          rfl
    · obtain ⟨v, h1, h2⟩ := no true rfl
      simp only [Option.bind_some, decide_eq_true hr, decide_eq_false ht, if_true, Bool.false_eq_true, if_false]
      exact ⟨v, h1, h2⟩
  · obtain ⟨v, h1, h2⟩ := no true rfl
    simp only [Option.bind_some, decide_eq_false hr, Bool.false_eq_true, if_false]
    exact ⟨v, h1, h2⟩

theorem FnExactPartsOk : laws_FnExactPartsOk.Pure := by
  intro l0 l1 l2 _ _ o2
  by_cases g0 : (l0.length : Int) > 1048576
  · exact ⟨0, by unfold laws_FnExactPartsOk.f; rw [if_pos g0]⟩
  by_cases g1 : (l1.length : Int) > 1048576
  · exact ⟨0, by unfold laws_FnExactPartsOk.f; rw [if_neg g0, if_pos g1]⟩
  obtain ⟨r, hr, hq⟩ := szPartS_ev l2 (by have := o2.1; unfold maxLen at this; omega) (fun x hx => by have := (o2.2 x hx).1.1; unfold maxLen at this; omega)
  obtain ⟨K, hK⟩ := ev_out hr
  by_cases hn : r < 0
  · refine ⟨K, ?_⟩
    unfold laws_FnExactPartsOk.f
    rw [if_neg g0, if_neg g1, hK K (Nat.le_refl _), Option.bind_some, if_pos hn]
  obtain ⟨ql, qo⟩ := hq (by omega)
  have hm : (l2.map conv).length = l2.length := List.length_map _
  obtain ⟨K0, h0⟩ := ev_out (toByteS_ev l0 (by omega))
  obtain ⟨K1, h1⟩ := ev_out (toByteS_ev l1 (by omega))
  obtain ⟨K2, h2⟩ := ev_out (toPartS_ev l2 ql qo)
  obtain ⟨v, hs, hi⟩ := partsOk_ev l0 l1 (l2.map conv) (by omega)
  obtain ⟨K3, h3⟩ := ev_out hs
  obtain ⟨K4, h4⟩ := ev_out hi
  obtain ⟨K5, h5⟩ := ev_out (eqByteS_ev l0 (by omega))
  obtain ⟨K6, h6⟩ := ev_out (eqByteS_ev l1 (by omega))
  obtain ⟨K7, h7⟩ := ev_out (eqPartS_ev (l2.map conv) (by omega) (fun j hj => by
    rw [lget_lt _ j z64 hj, List.getElem_map]
    have := qo j (by omega)
    rw [lget_lt _ j z63 (by omega)] at this
    exact this))
  refine ⟨K + K0 + K1 + K2 + K3 + K4 + K5 + K6 + K7, ?_⟩
  unfold laws_FnExactPartsOk.f
  rw [if_neg g0, if_neg g1, hK _ (by omega), Option.bind_some, if_neg hn, h0 _ (by omega), Option.bind_some, h1 _ (by omega), Option.bind_some, h2 _ (by omega), Option.bind_some, h3 _ (by omega), Option.bind_some, Option.bind_some, Option.bind_some, Option.bind_some, h4 _ (by omega), Option.bind_some, if_neg (by simp), Option.bind_some, h5 _ (by omega), Option.bind_some, if_pos rfl, Option.bind_some, h6 _ (by omega), Option.bind_some, if_pos rfl, Option.bind_some, h7 _ (by omega), Option.bind_some, if_pos rfl]

end Go.Proofs.Ytlnmkgeoiinjfaa.Pure
