/- The program's CommonOk returns what the reference's returns, for all arguments (lists that hold more than 2^20 values are let pass by the statement itself). -/
import Derived.Test.YtlnmkgeoiinjfaaQFnExactCommonOkx5
import Derived.Test.YtlnmkgeoiinjfaaBase
namespace Go.Proofs.Ytlnmkgeoiinjfaa.Pure
open Go.RowKit Go.Proofs.Ytlnmkgeoiinjfaa.QFnExactCommonOk Go.Proofs.YtlnmkgeoiinjfaaW.PrintWords Go.Proofs.YtlnmkgeoiinjfaaW.PrintLast Go.Proofs.YtlnmkgeoiinjfaaW.PrintMore
open Go.Proofs.Ytlnmkgeoiinjfaa Go.Proofs.Ytlnmkgeoiinjfaa.Base
set_option linter.unusedVariables false
set_option linter.unusedSimpArgs false

-- toIntS, eqIntS
theorem toIntS_l0 (l : List Int) (hl : l.length ≤ 4000000) (d : Nat) : ∀ i : Nat, i + d = l.length → Ev (fun k => laws_toIntS.l0 k l (l.take i ++ List.replicate d 0) (i : Int)) l := by
  induction d with
  | zero =>
    intro i h
    refine Ev.step (f := fun _ => some l) (fun k => ?_) (Ev.now l)
    rw [laws_toIntS.l0]
    rw [if_neg (by omega), List.take_of_length_le (by omega)]
    simp
  | succ d ih =>
    intro i h
    refine Ev.step (f := fun k => laws_toIntS.l0 k l (l.take (i + 1) ++ List.replicate d 0) ((i + 1 : Nat) : Int)) (fun k => ?_) (ih (i + 1) (by omega))
    rw [laws_toIntS.l0]
    rw [if_pos (by omega), if_pos (by omega), if_pos (by rw [fill_length l 0 i (d + 1) h]; omega), w64 (by omega) (by omega), rd_nat, Int.toNat_natCast, fill_set l 0 _ i d h rfl]
    rfl
theorem toIntS_ev (l : List Int) (hl : l.length ≤ 4000000) : Ev (fun k => laws_toIntS.f k l) l := by
  refine Ev.congr (f := fun k => laws_toIntS.l0 k l (l.take 0 ++ List.replicate l.length 0) ((0 : Nat) : Int)) (fun k => ?_) (toIntS_l0 l hl l.length 0 (by omega))
  unfold laws_toIntS.f
  rw [if_pos (by omega), Int.toNat_natCast, if_pos (by omega)]
  rfl
theorem eqIntS_l0 (l : List Int) (hl : l.length ≤ 4000000) (d : Nat) : ∀ i : Nat, i + d = l.length → Ev (fun k => laws_eqIntS.l0 k l l (i : Int)) true := by
  induction d with
  | zero =>
    intro i h
    refine Ev.step (f := fun _ => some true) (fun k => ?_) (Ev.now true)
    rw [laws_eqIntS.l0]
    rw [if_neg (by omega)]
  | succ d ih =>
    intro i h
    refine Ev.step (f := fun k => laws_eqIntS.l0 k l l ((i + 1 : Nat) : Int)) (fun k => ?_) (ih (i + 1) (by omega))
    rw [laws_eqIntS.l0]
    rw [if_pos (by omega), if_pos (by omega), if_pos (by omega), if_pos rfl, w64 (by omega) (by omega)]
    rfl
theorem eqIntS_ev (l : List Int) (hl : l.length ≤ 4000000) : Ev (fun k => laws_eqIntS.f k l l) true := by
  refine Ev.congr (f := fun k => laws_eqIntS.l0 k l l ((0 : Nat) : Int)) (fun k => ?_) (eqIntS_l0 l hl l.length 0 (by omega))
  unfold laws_eqIntS.f
  rw [if_pos rfl]
  rfl

-- lists of pairs: eqPairS, markPairS, heldPairS, markIntS
theorem rdT56 (l : List S56) (i : Nat) : rd_T56 l (i : Int) = l.getD i z56 := by unfold rd_T56; rw [Int.toNat_natCast]
theorem eqPairS_l0 (l : List S56) (hl : l.length ≤ 4000000) (d : Nat) : ∀ i : Nat, i + d = l.length → Ev (fun k => laws_eqPairS.l0 k l l (i : Int)) true := by
  induction d with
  | zero =>
    intro i h
    refine Ev.step (f := fun _ => some true) (fun k => ?_) (Ev.now true)
    rw [laws_eqPairS.l0, if_neg (by omega)]
  | succ d ih =>
    intro i h
    refine Ev.step (f := fun k => laws_eqPairS.l0 k l l ((i + 1 : Nat) : Int)) (fun k => ?_) (ih (i + 1) (by omega))
    rw [laws_eqPairS.l0, if_pos (by omega), if_pos (by omega), if_pos (by omega)]
    unfold laws_eqPair.f
    rw [if_pos rfl, if_pos rfl, Option.bind_some, if_pos rfl, w64 (by omega) (by omega)]
    rfl
theorem eqPairS_ev (l : List S56) (hl : l.length ≤ 4000000) : Ev (fun k => laws_eqPairS.f k l l) true := by
  refine Ev.congr (f := fun k => laws_eqPairS.l0 k l l ((0 : Nat) : Int)) (fun k => ?_) (eqPairS_l0 l hl l.length 0 (by omega))
  unfold laws_eqPairS.f
  rw [if_pos rfl]
  rfl

theorem areListed_eq' (a b : List Int) : impl_areListed.f a b = some (decide (a.length ≤ 301 ∧ b.length ≤ 301)) := by
  unfold impl_areListed.f
  by_cases ha : a.length ≤ 301
  · rw [if_pos (by omega)]
    congr 1
    by_cases hb : b.length ≤ 301
    · rw [decide_eq_true (by omega), decide_eq_true ⟨ha, hb⟩]
    · rw [decide_eq_false (by omega), decide_eq_false (fun h => hb h.2)]
  · rw [if_neg (by omega), decide_eq_false (fun h => ha h.1)]

-- CommonOk, both
def good (a b : List Int) (l : List S56) (i : Nat) : Prop :=
  0 ≤ (l.getD i z56).f0 ∧ (l.getD i z56).f0 < (a.length : Int) ∧ 0 ≤ (l.getD i z56).f1 ∧ (l.getD i z56).f1 < (b.length : Int) ∧ rd a (l.getD i z56).f0 = rd b (l.getD i z56).f1 ∧
  (0 < i → (l.getD (i - 1) z56).f0 < (l.getD i z56).f0 ∧ (l.getD (i - 1) z56).f1 < (l.getD i z56).f1)
instance (a b : List Int) (l : List S56) (i : Nat) : Decidable (good a b l i) := by unfold good; infer_instance
def goodFrom (a b : List Int) (l : List S56) : Nat → Nat → Bool
  | 0, _ => true
  | d + 1, i => if good a b l i then goodFrom a b l d (i + 1) else false
theorem spec_j2_true (a b : List Int) (l : List S56) (i x y : Int) : Ev (fun k => spec_CommonOk.j2 k a b l i true x y) false :=
  Ev.step (f := fun _ => some false) (fun k => by rw [spec_CommonOk.j2, if_pos rfl]) (Ev.now _)
theorem spec_j3_true (a b : List Int) (l : List S56) (i : Int) : Ev (fun k => spec_CommonOk.j3 k a b l i true) false :=
  Ev.step (f := fun _ => some false) (fun k => by rw [spec_CommonOk.j3, if_pos rfl]) (Ev.now _)
theorem impl_j1_true (a b : List Int) (l m : List S56) (n i : Int) : Ev (fun k => impl_CommonOk.j1 k a b l m n i true) false :=
  Ev.step (f := fun _ => some false) (fun k => by rw [impl_CommonOk.j1, if_pos rfl]) (Ev.now _)
theorem specCommonOk_l0 (a b : List Int) (l : List S56) (hl : l.length ≤ 1048576) (d : Nat) : ∀ i : Nat, i + d = l.length → Ev (fun k => spec_CommonOk.l0 k a b l (i : Int)) (goodFrom a b l d i) := by
  induction d with
  | zero =>
    intro i h
    refine Ev.step (f := fun _ => some true) (fun k => ?_) (Ev.now _)
    rw [spec_CommonOk.l0, if_neg (by omega)]
  | succ d ih =>
    intro i h
    unfold goodFrom
    by_cases g : good a b l i
    · rw [if_pos g]
      obtain ⟨g1, g2, g3, g4, g5, g6⟩ := g
      have hn := ih (i + 1) (by omega)
      have h3 : Ev (fun k => spec_CommonOk.j3 k a b l (i : Int) false) (goodFrom a b l d (i + 1)) := by
        refine Ev.step (fun k => ?_) hn
        rw [spec_CommonOk.j3, if_neg (by decide), w64 (by omega) (by omega)]
        rfl
      have h2 : Ev (fun k => spec_CommonOk.j2 k a b l (i : Int) false (l.getD i z56).f0 (l.getD i z56).f1) (goodFrom a b l d (i + 1)) := by
        refine Ev.step (fun k => ?_) h3
        rw [spec_CommonOk.j2, if_neg (by decide)]
        by_cases hi : 0 < i
        · obtain ⟨q1, q2⟩ := g6 hi
          have e : (i : Int) - 1 = ((i - 1 : Nat) : Int) := by omega
          rw [if_pos (by omega), w64 (by omega) (by omega), e, if_pos (by omega), if_pos (by omega), rdT56, if_neg (by omega), decide_eq_false (by omega)]
        · rw [if_neg (by omega)]
      refine Ev.step (fun k => ?_) h2
      rw [spec_CommonOk.l0, if_pos (by omega), if_pos (by omega), rdT56, if_neg (by omega), if_neg (by omega), if_neg (by omega), if_neg (by omega), if_pos g1, if_pos g2, if_pos g3, if_pos g4, g5]
      simp
    · rw [if_neg g]
      have step : ∀ x : Bool, (Ev (fun k => spec_CommonOk.j2 k a b l (i : Int) x (l.getD i z56).f0 (l.getD i z56).f1) false) → (∀ k, spec_CommonOk.l0 (k + 1) a b l (i : Int) = spec_CommonOk.j2 k a b l (i : Int) x (l.getD i z56).f0 (l.getD i z56).f1) → Ev (fun k => spec_CommonOk.l0 k a b l (i : Int)) false := fun x h1 h2 => Ev.step h2 h1
      by_cases c1 : (l.getD i z56).f0 < 0
      · exact step true (spec_j2_true _ _ _ _ _ _) (fun k => by rw [spec_CommonOk.l0, if_pos (by omega), if_pos (by omega), rdT56, if_pos c1])
      by_cases c2 : (l.getD i z56).f0 ≥ (a.length : Int)
      · exact step true (spec_j2_true _ _ _ _ _ _) (fun k => by rw [spec_CommonOk.l0, if_pos (by omega), if_pos (by omega), rdT56, if_neg c1, if_pos c2])
      by_cases c3 : (l.getD i z56).f1 < 0
      · exact step true (spec_j2_true _ _ _ _ _ _) (fun k => by rw [spec_CommonOk.l0, if_pos (by omega), if_pos (by omega), rdT56, if_neg c1, if_neg c2, if_pos c3])
      by_cases c4 : (l.getD i z56).f1 ≥ (b.length : Int)
      · exact step true (spec_j2_true _ _ _ _ _ _) (fun k => by rw [spec_CommonOk.l0, if_pos (by omega), if_pos (by omega), rdT56, if_neg c1, if_neg c2, if_neg c3, if_pos c4])
      by_cases c5 : rd a (l.getD i z56).f0 = rd b (l.getD i z56).f1
      · refine step false ?_ (fun k => by rw [spec_CommonOk.l0, if_pos (by omega), if_pos (by omega), rdT56, if_neg c1, if_neg c2, if_neg c3, if_neg c4, if_pos (by omega), if_pos (by omega), if_pos (by omega), if_pos (by omega), c5]; simp)
        have hi : 0 < i := by
          rcases Nat.eq_zero_or_pos i with h0 | h0
          · exact absurd ⟨by omega, by omega, by omega, by omega, c5, fun hp => by omega⟩ g
          · exact h0
        have e : (i : Int) - 1 = ((i - 1 : Nat) : Int) := by omega
        by_cases c6 : (l.getD (i - 1) z56).f0 ≥ (l.getD i z56).f0
        · refine Ev.step (fun k => ?_) (spec_j3_true a b l (i : Int))
          rw [spec_CommonOk.j2, if_neg (by decide), if_pos (by omega), w64 (by omega) (by omega), e, if_pos (by omega), if_pos (by omega), rdT56, if_pos c6]
        · refine Ev.step (fun k => ?_) (spec_j3_true a b l (i : Int))
          have c7 : (l.getD (i - 1) z56).f1 ≥ (l.getD i z56).f1 := by
            by_cases h7 : (l.getD (i - 1) z56).f1 < (l.getD i z56).f1
            · exact absurd ⟨by omega, by omega, by omega, by omega, c5, fun _ => ⟨by omega, h7⟩⟩ g
            · omega
          rw [spec_CommonOk.j2, if_neg (by decide), if_pos (by omega), w64 (by omega) (by omega), e, if_pos (by omega), if_pos (by omega), rdT56, if_neg c6, decide_eq_true c7]
      · exact step true (spec_j2_true _ _ _ _ _ _) (fun k => by rw [spec_CommonOk.l0, if_pos (by omega), if_pos (by omega), rdT56, if_neg c1, if_neg c2, if_neg c3, if_neg c4, if_pos (by omega), if_pos (by omega), if_pos (by omega), if_pos (by omega), show (rd a (l.getD i z56).f0 != rd b (l.getD i z56).f1) = true from bne_iff_ne.2 c5])
theorem within_eq (x lo hi : Int) : impl_within.f x lo hi = some (decide (lo ≤ x ∧ x ≤ hi)) := by
  unfold impl_within.f
  by_cases h : lo ≤ x
  · rw [if_pos h]
    congr 1
    by_cases h2 : x ≤ hi
    · rw [decide_eq_true h2, decide_eq_true ⟨h, h2⟩]
    · rw [decide_eq_false h2, decide_eq_false (fun q => h2 q.2)]
  · rw [if_neg h, decide_eq_false (fun q => h q.1)]
theorem implCommonOk_l0 (a b : List Int) (ha : a.length ≤ 1048576) (hb : b.length ≤ 1048576) (l : List S56) (hl : l.length ≤ 1048576) (d : Nat) : ∀ i : Nat, i + d = l.length → Ev (fun k => impl_CommonOk.l0 k a b l l (l.length : Int) (i : Int)) (goodFrom a b l d i) := by
  induction d with
  | zero =>
    intro i h
    refine Ev.step (f := fun _ => some true) (fun k => ?_) (Ev.now _)
    rw [impl_CommonOk.l0, if_neg (by omega)]
  | succ d ih =>
    intro i h
    unfold goodFrom
    have ew : wrap64 ((a.length : Int) - 1) = (a.length : Int) - 1 := w64 (by omega) (by omega)
    have ew2 : wrap64 ((b.length : Int) - 1) = (b.length : Int) - 1 := w64 (by omega) (by omega)
    by_cases g : good a b l i
    · rw [if_pos g]
      obtain ⟨g1, g2, g3, g4, g5, g6⟩ := g
      have hn := ih (i + 1) (by omega)
      have h1 : Ev (fun k => impl_CommonOk.j1 k a b l l (l.length : Int) (i : Int) false) (goodFrom a b l d (i + 1)) := by
        refine Ev.step (fun k => ?_) hn
        rw [impl_CommonOk.j1, if_neg (by decide), w64 (by omega) (by omega)]
        rfl
      refine Ev.step (fun k => ?_) h1
      rw [impl_CommonOk.l0, if_pos (by omega), if_pos (by omega), if_pos (by omega), rdT56, ew, ew2, within_eq, Option.bind_some, if_pos (decide_eq_true ⟨g1, by omega⟩), within_eq, Option.bind_some, if_pos (decide_eq_true ⟨g3, by omega⟩), if_pos g1, if_pos g2, if_pos g3, if_pos g4, if_pos g5]
      by_cases hi : 0 < i
      · obtain ⟨q1, q2⟩ := g6 hi
        have e : (i : Int) - 1 = ((i - 1 : Nat) : Int) := by omega
        rw [if_pos (by omega), w64 (by omega) (by omega), e, if_pos (by omega), if_pos (by omega), rdT56, if_neg (by omega), decide_eq_false (by omega)]
      · rw [if_neg (by omega)]
    · rw [if_neg g]
      refine Ev.step (fun k => ?_) (impl_j1_true a b l l (l.length : Int) (i : Int))
      rw [impl_CommonOk.l0, if_pos (by omega), if_pos (by omega), if_pos (by omega), rdT56, ew, ew2, within_eq, Option.bind_some]
      by_cases c1 : 0 ≤ (l.getD i z56).f0 ∧ (l.getD i z56).f0 ≤ (a.length : Int) - 1
      · rw [if_pos (decide_eq_true c1), within_eq, Option.bind_some]
        by_cases c2 : 0 ≤ (l.getD i z56).f1 ∧ (l.getD i z56).f1 ≤ (b.length : Int) - 1
        · rw [if_pos (decide_eq_true c2), if_pos (by omega), if_pos (by omega), if_pos (by omega), if_pos (by omega)]
          by_cases c5 : rd a (l.getD i z56).f0 = rd b (l.getD i z56).f1
          · have hi : 0 < i := by
              rcases Nat.eq_zero_or_pos i with h0 | h0
              · exact absurd ⟨by omega, by omega, by omega, by omega, c5, fun hp => by omega⟩ g
              · exact h0
            have e : (i : Int) - 1 = ((i - 1 : Nat) : Int) := by omega
            rw [if_pos c5, if_pos (by omega), w64 (by omega) (by omega), e, if_pos (by omega), if_pos (by omega), rdT56]
            by_cases c6 : (l.getD i z56).f0 ≤ (l.getD (i - 1) z56).f0
            · rw [if_pos c6]
            · rw [if_neg c6]
              have c7 : (l.getD i z56).f1 ≤ (l.getD (i - 1) z56).f1 := by
                by_cases h7 : (l.getD (i - 1) z56).f1 < (l.getD i z56).f1
                · exact absurd ⟨by omega, by omega, by omega, by omega, c5, fun _ => ⟨by omega, h7⟩⟩ g
                · omega
              rw [decide_eq_true c7]
          · rw [if_neg c5]
        · rw [if_neg (by rw [decide_eq_false c2]; decide)]
      · rw [if_neg (by rw [decide_eq_false c1]; decide)]
def okOf (a b : List Int) (l : List S56) : Bool := if a.length ≤ 301 ∧ b.length ≤ 301 then goodFrom a b l l.length 0 else false
theorem specCommonOk_ev (a b : List Int) (l : List S56) (hl : l.length ≤ 1048576) : Ev (fun k => spec_CommonOk.f k a b l) (okOf a b l) := by
  have no : ∀ (h : ¬ (a.length ≤ 301 ∧ b.length ≤ 301)), Ev (fun k => spec_CommonOk.j0 k a b l true) (okOf a b l) := fun h => by
    refine Ev.step (f := fun _ => some (okOf a b l)) (fun k => ?_) (Ev.now _)
    unfold okOf
    rw [spec_CommonOk.j0, if_pos rfl, if_neg h]
  by_cases ha : a.length ≤ 301
  · by_cases hb : b.length ≤ 301
    · obtain ⟨K, hK⟩ := ev_out (specCommonOk_l0 a b l hl l.length 0 (by omega))
      refine ev_mk (K + 1) fun k hk => ?_
      obtain ⟨k, rfl⟩ : ∃ m, k = m + 1 := ⟨k - 1, by omega⟩
      unfold spec_CommonOk.f spec_l12Right.f okOf
      rw [Option.bind_some, if_pos (decide_eq_true (by omega)), Option.bind_some, decide_eq_true (by omega), Bool.not_true, spec_CommonOk.j0, if_neg (by decide), if_pos ⟨ha, hb⟩]
      exact hK k (by omega)
    · obtain ⟨K, hK⟩ := ev_out (no (fun h => hb h.2))
      refine ev_mk K fun k hk => ?_
      unfold spec_CommonOk.f spec_l12Right.f
      rw [Option.bind_some, if_pos (decide_eq_true (by omega)), Option.bind_some, decide_eq_false (by omega), Bool.not_false]
      exact hK k hk
  · obtain ⟨K, hK⟩ := ev_out (no (fun h => ha h.1))
    refine ev_mk K fun k hk => ?_
    unfold spec_CommonOk.f spec_l12Right.f
    rw [Option.bind_some, if_neg (fun h => ha (by have := of_decide_eq_true h; omega))]
    exact hK k hk
theorem implCommonOk_ev (a b : List Int) (l : List S56) (hl : l.length ≤ 1048576) : Ev (fun k => impl_CommonOk.f k a b l) (okOf a b l) := by
  by_cases h : a.length ≤ 301 ∧ b.length ≤ 301
  · obtain ⟨K, hK⟩ := ev_out (implCommonOk_l0 a b (by omega) (by omega) l hl l.length 0 (by omega))
    refine ev_mk K fun k hk => ?_
    unfold impl_CommonOk.f okOf
    rw [areListed_eq', Option.bind_some, if_pos (decide_eq_true h), if_pos h]
    exact hK k hk
  · refine ev_mk 0 fun k _ => ?_
    unfold impl_CommonOk.f okOf
    rw [areListed_eq', Option.bind_some, if_neg (by rw [decide_eq_false h]; decide), if_neg h]

-- the statement's own pairs
def conv (x : S58) : S56 := ⟨x.f0, x.f1⟩
theorem rdT58 (l : List S58) (i : Nat) : rd_T58 l (i : Int) = l.getD i z58 := by unfold rd_T58; rw [Int.toNat_natCast]
theorem toPairS_l0 (l : List S58) (hl : l.length ≤ 1048576) (d : Nat) : ∀ i : Nat, i + d = l.length →
    Ev (fun k => laws_toPairS.l0 k l ((l.map conv).take i ++ List.replicate d z56) (i : Int)) (l.map conv) := by
  have hm : (l.map conv).length = l.length := List.length_map _
  induction d with
  | zero =>
    intro i h
    refine Ev.step (f := fun _ => some (l.map conv)) (fun k => ?_) (Ev.now _)
    rw [laws_toPairS.l0, if_neg (by omega), List.take_of_length_le (by omega)]
    simp
  | succ d ih =>
    intro i h
    refine Ev.step (fun k => ?_) (ih (i + 1) (by omega))
    rw [laws_toPairS.l0, if_pos (by omega), if_pos (by omega), rdT58]
    unfold laws_toPair.f
    rw [Option.bind_some, if_pos (by rw [fill_length (l.map conv) z56 i (d + 1) (by omega)]; omega), w64 (by omega) (by omega), Int.toNat_natCast,
      fill_set (l.map conv) z56 _ i d (by omega) (by
        rw [lget_lt (l.map conv) i z56 (by omega), List.getElem_map, lget_lt l i z58 (by omega)]
        rfl)]
    rfl
theorem toPairS_ev (l : List S58) (hl : l.length ≤ 1048576) : Ev (fun k => laws_toPairS.f k l) (l.map conv) := by
  refine Ev.congr (f := fun k => laws_toPairS.l0 k l ((l.map conv).take 0 ++ List.replicate l.length z56) ((0 : Nat) : Int)) (fun k => ?_) (toPairS_l0 l hl l.length 0 (by omega))
  unfold laws_toPairS.f
  rw [if_pos (by omega), Int.toNat_natCast, if_pos (by omega)]
  rfl

theorem FnExactCommonOk : laws_FnExactCommonOk.Pure := by
  intro l0 l1 l2 _ _ o2
  by_cases g0 : (l0.length : Int) > 1048576
  · exact ⟨0, by unfold laws_FnExactCommonOk.f; rw [if_pos g0]⟩
  by_cases g1 : (l1.length : Int) > 1048576
  · exact ⟨0, by unfold laws_FnExactCommonOk.f; rw [if_neg g0, if_pos g1]⟩
  have hl2 : l2.length ≤ 9223372036854775807 := by have := o2.1; unfold maxLen at this; omega
  by_cases hn : (1048576 : Int) < (l2.length : Int)
  · refine ⟨0, ?_⟩
    unfold laws_FnExactCommonOk.f laws_szPairS.f
    rw [if_neg g0, if_neg g1, w64 (by omega) (by omega), if_pos (by omega), Option.bind_some, if_pos (by decide)]
  have hm : (l2.map conv).length = l2.length := List.length_map _
  obtain ⟨K0, h0⟩ := ev_out (toIntS_ev l0 (by omega))
  obtain ⟨K1, h1⟩ := ev_out (toIntS_ev l1 (by omega))
  obtain ⟨K2, h2⟩ := ev_out (toPairS_ev l2 (by omega))
  obtain ⟨K3, h3⟩ := ev_out (specCommonOk_ev l0 l1 (l2.map conv) (by omega))
  obtain ⟨K4, h4⟩ := ev_out (implCommonOk_ev l0 l1 (l2.map conv) (by omega))
  obtain ⟨K5, h5⟩ := ev_out (eqIntS_ev l0 (by omega))
  obtain ⟨K6, h6⟩ := ev_out (eqIntS_ev l1 (by omega))
  obtain ⟨K7, h7⟩ := ev_out (eqPairS_ev (l2.map conv) (by omega))
  refine ⟨K0 + K1 + K2 + K3 + K4 + K5 + K6 + K7, ?_⟩
  unfold laws_FnExactCommonOk.f laws_szPairS.f
  rw [if_neg g0, if_neg g1, w64 (by omega) (by omega), if_neg (by omega), Option.bind_some, if_neg (by omega), h0 _ (by omega), Option.bind_some, h1 _ (by omega), Option.bind_some, h2 _ (by omega), Option.bind_some, h3 _ (by omega), Option.bind_some, Option.bind_some, Option.bind_some, Option.bind_some, h4 _ (by omega), Option.bind_some, if_neg (by simp), Option.bind_some, h5 _ (by omega), Option.bind_some, if_pos rfl, Option.bind_some, h6 _ (by omega), Option.bind_some, if_pos rfl, Option.bind_some, h7 _ (by omega), Option.bind_some, if_pos rfl]

end Go.Proofs.Ytlnmkgeoiinjfaa.Pure
