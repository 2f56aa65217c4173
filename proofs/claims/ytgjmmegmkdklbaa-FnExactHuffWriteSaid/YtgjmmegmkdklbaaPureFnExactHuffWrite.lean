/- The program's HuffWrite returns what the reference's returns, for all arguments (lists of more than 2^20 numbers are let pass by the statement itself). -/
import Derived.Test.YtgjmmegmkdklbaaQFnExactHuffWritex8
import Derived.Test.YtgjmmegmkdklbaaBase
import Derived.Test.YtgjmmegmkdklbaaBits
import Derived.Test.YtgjmmegmkdklbaaHuff
namespace Go.Proofs.Ytgjmmegmkdklbaa.Pure
open Go.RowKit Go.Proofs.Ytgjmmegmkdklbaa.QFnExactHuffWrite Go.Proofs.YtgjmmegmkdklbaaW.PrintWords Go.Proofs.YtgjmmegmkdklbaaW.PrintLast Go.Proofs.YtgjmmegmkdklbaaW.PrintMore
open Go.Proofs.Ytgjmmegmkdklbaa Go.Proofs.Ytgjmmegmkdklbaa.Base Go.Proofs.Ytgjmmegmkdklbaa.Bits Go.Proofs.Ytgjmmegmkdklbaa.Huff
set_option linter.unusedVariables false
set_option linter.unusedSimpArgs false

-- valid lengths of codes: both say the same
theorem winc (y : Nat) (h : y ≤ 1000000000) : wrap64 ((y : Int) + 1) = ((y + 1 : Nat) : Int) := w64 (by omega) (by omega)
theorem wadd (a b : Nat) (h : a + b ≤ 9223372036854775807) : wrap64 ((a : Int) + (b : Int)) = ((a + b : Nat) : Int) := w64 (by omega) (by omega)
theorem wsub (a b : Nat) (hb : b ≤ a) (h : a ≤ 1000000000) : wrap64 ((a : Int) - (b : Int)) = ((a - b : Nat) : Int) := by
  rw [show (a : Int) - (b : Int) = ((a - b : Nat) : Int) by omega]
  exact w64 (by omega) (by omega)
theorem wnat (a : Nat) (h : a ≤ 9223372036854775807) : wrap64 (a : Int) = (a : Int) := w64 (by omega) (by omega)
theorem wsub60 (x : Int) (h0 : 0 ≤ x) (h1 : x ≤ 60) : wrap64 (60 - x) = ((60 - x.toNat : Nat) : Int) := by
  rw [show 60 - x = ((60 - x.toNat : Nat) : Int) by omega]
  exact w64 (by omega) (by omega)
def okH (l : List Int) : Bool := decide (l.length ≤ 300) && okFrom 0 0 0 l
theorem l02Pow_l0 (m : Nat) : ∀ (a : Nat), a * 2 ^ m < 9223372036854775808 → m ≤ 64 → Ev (fun k => spec_l02Pow.l0 k (m : Int) (a : Int)) ((a * 2 ^ m : Nat) : Int) := by
  induction m with
  | zero =>
    intro a h hm
    refine Ev.step (f := fun _ => some _) (fun k => ?_) (Ev.now _)
    rw [spec_l02Pow.l0, if_neg (by omega), Nat.pow_zero, Nat.mul_one]
  | succ m ih =>
    intro a h hm
    have hp : 0 < 2 ^ m := Nat.two_pow_pos m
    have e : a * 2 ^ (m + 1) = (2 * a) * 2 ^ m := by rw [Nat.pow_succ, Nat.mul_comm (2 ^ m) 2, ← Nat.mul_assoc, Nat.mul_comm a 2]
    rw [e] at h ⊢
    have : 2 * a ≤ (2 * a) * 2 ^ m := Nat.le_mul_of_pos_right _ hp
    refine Ev.step (f := fun k => spec_l02Pow.l0 k (m : Int) ((2 * a : Nat) : Int)) (fun k => ?_) (ih (2 * a) h (by omega))
    rw [spec_l02Pow.l0, if_pos (by omega), w64 (by omega) (by omega), w64 (by omega) (by omega), show ((m + 1 : Nat) : Int) - 1 = (m : Int) by omega]
    rfl
theorem pow62 (m : Nat) (h : m ≤ 62) : 2 ^ m ≤ 4611686018427387904 := Nat.le_trans (Nat.pow_le_pow_right (show 0 < 2 by decide) h) (by decide)
theorem l02Pow_ev (m : Nat) (h : m ≤ 62) : Ev (fun k => spec_l02Pow.f k (m : Int)) ((2 ^ m : Nat) : Int) := by
  have hp := pow62 m h
  have := l02Pow_l0 m 1 (by omega) (by omega)
  rw [Nat.one_mul] at this
  exact this
theorem drop_cons (l : List Int) (i : Nat) (h : i < l.length) : l.drop i = l.getD i 0 :: l.drop (i + 1) := by
  rw [List.drop_eq_getElem_cons h, lget_lt _ _ _ h]
theorem specOk_l0 (l : List Int) (hl : l.length ≤ 300) (d : Nat) : ∀ (i c S : Nat) (last : Int), i + d = l.length → c ≤ i → S ≤ 1152921504606846976 →
    Ev (fun k => spec_HuffOk.l0 k l (c : Int) (S : Int) last (i : Int)) (okFrom c S last (l.drop i)) := by
  obtain ⟨K0, k0⟩ := ev_out (l02Pow_ev 60 (by decide))
  have p60 : (((2 ^ 60 : Nat) : Int)) = 1152921504606846976 := by decide
  rw [p60] at k0
  induction d with
  | zero =>
    intro i c S last hi hc hS
    refine ev_mk (K0 + 1) fun k hk => ?_
    obtain ⟨k, rfl⟩ : ∃ m, k = m + 1 := ⟨k - 1, by omega⟩
    have hd : l.drop i = [] := List.drop_eq_nil_of_le (by omega)
    have hk0 : spec_l02Pow.f k 60 = some 1152921504606846976 := k0 k (by omega)
    have hb : ((S : Int) == (1152921504606846976 : Int)) = decide (S = 1152921504606846976) := by
      rw [Bool.eq_iff_iff, beq_iff_eq, decide_eq_true_iff]
      omega
    rw [spec_HuffOk.l0, if_neg (by omega), hd, okFrom, hk0, Option.bind_some, hb]
    by_cases q : c = 1
    · rw [if_pos (by omega), if_pos q]
      by_cases z : last = 1
      · rw [if_pos z, decide_eq_true z, Bool.true_or]
      · rw [if_neg z, decide_eq_false z, Bool.false_or]
    · rw [if_neg (by omega), if_neg q]
  | succ d ih =>
    intro i c S last hi hc hS
    have hg : rd l (i : Int) = l.getD i 0 := rd_nat l i
    rw [drop_cons l i (by omega), okFrom]
    generalize hx : l.getD i 0 = x at hg ⊢
    have bad : ∀ k, spec_HuffOk.j1 (k + 1) l (c : Int) (S : Int) last (i : Int) true = some false := by
      intro k
      rw [spec_HuffOk.j1, if_pos rfl]
    by_cases r : x < 0 ∨ 60 < x
    · rw [if_pos r]
      refine ev_mk 2 fun k hk => ?_
      obtain ⟨k, rfl⟩ : ∃ m, k = m + 2 := ⟨k - 2, by omega⟩
      rw [spec_HuffOk.l0, if_pos (by omega), if_pos (by omega), hg]
      by_cases n : x < 0
      · rw [if_pos n]; exact bad k
      · rw [if_neg n, decide_eq_true (by omega)]; exact bad k
    · rw [if_neg r]
      have hi3 : i ≤ 300 := by omega
      have go : ∀ k, spec_HuffOk.l0 (k + 1) l (c : Int) (S : Int) last (i : Int) = spec_HuffOk.j1 k l (c : Int) (S : Int) last (i : Int) false := by
        intro k
        rw [spec_HuffOk.l0, if_pos (by omega), if_pos (by omega), hg, if_neg (by omega), decide_eq_false (by omega)]
      by_cases q : 0 < x
      · rw [if_pos q]
        have hw := wt_le x q
        obtain ⟨K1, k1⟩ := ev_out (l02Pow_ev (60 - x.toNat) (by omega))
        have hx0 : 0 ≤ x := by omega
        have hx6 : x ≤ 60 := by omega
        have hsw : S + wt x ≤ 9223372036854775807 := by omega
        have hci : c ≤ 1000 := by omega
        have ept : ((2 ^ (60 - x.toNat) : Nat) : Int) = ((wt x : Nat) : Int) := rfl
        by_cases o : 1152921504606846976 < S + wt x
        · rw [if_pos o]
          refine ev_mk (K0 + K1 + 2) fun k hk => ?_
          obtain ⟨k, rfl⟩ : ∃ m, k = m + 2 := ⟨k - 2, by omega⟩
          rw [go, spec_HuffOk.j1, if_neg (by decide), if_pos (by omega), if_pos (by omega), hg, if_pos q, wsub60 x hx0 hx6, k1 k (by omega), Option.bind_some, ept]
          have hk0 : spec_l02Pow.f k 60 = some 1152921504606846976 := k0 k (by omega)
          rw [hk0, Option.bind_some, wadd S (wt x) hsw, if_pos (by omega)]
        · rw [if_neg o]
          obtain ⟨K2, k2⟩ := ev_out (ih (i + 1) (c + 1) (S + wt x) x (by omega) (by omega) (by omega))
          refine ev_mk (K0 + K1 + K2 + 2) fun k hk => ?_
          obtain ⟨k, rfl⟩ : ∃ m, k = m + 2 := ⟨k - 2, by omega⟩
          rw [go, spec_HuffOk.j1, if_neg (by decide), if_pos (by omega), if_pos (by omega), hg, if_pos q, wsub60 x hx0 hx6, k1 k (by omega), Option.bind_some, ept]
          have hk0 : spec_l02Pow.f k 60 = some 1152921504606846976 := k0 k (by omega)
          rw [hk0, Option.bind_some, wadd S (wt x) hsw, if_neg (by omega), winc i (by omega), winc c (by omega)]
          exact k2 k (by omega)
      · rw [if_neg q]
        obtain ⟨K2, k2⟩ := ev_out (ih (i + 1) c S last (by omega) (by omega) (by omega))
        refine ev_mk (K2 + 2) fun k hk => ?_
        obtain ⟨k, rfl⟩ : ∃ m, k = m + 2 := ⟨k - 2, by omega⟩
        rw [go, spec_HuffOk.j1, if_neg (by decide), if_pos (by omega), if_pos (by omega), hg, if_neg q, winc i (by omega)]
        exact k2 k (by omega)
theorem specHuffOk_ev (l : List Int) : Ev (fun k => spec_HuffOk.f k l) (okH l) := by
  by_cases h : (l.length : Int) > 300
  · refine Ev.congr (f := fun _ => some false) (fun k => ?_) ?_
    · unfold spec_HuffOk.f
      rw [if_pos h]
    · rw [okH, decide_eq_false (by omega), Bool.false_and]
      exact Ev.now _
  · refine Ev.congr (fun k => ?_) ?_ (f := fun k => spec_HuffOk.l0 k l ((0 : Nat) : Int) ((0 : Nat) : Int) 0 ((0 : Nat) : Int))
    · unfold spec_HuffOk.f
      rw [if_neg h]
      rfl
    · rw [okH, decide_eq_true (by omega), Bool.true_and]
      exact specOk_l0 l (by omega) l.length 0 0 0 0 (by omega) (by omega) (by omega)

-- the program's HuffOk
theorem shl_nat (a m : Nat) (h : m ≤ 62) : shl .i64 (a : Int) (m : Int) = wrap64 ((a * 2 ^ m : Nat) : Int) := by
  unfold shl
  rw [Int.toNat_natCast, show min m IntKind.i64.bits = m by show min m 64 = m; omega, i64_w]
  simp
theorem max_l0 (l : List Int) (hl : l.length ≤ 1000000) (d : Nat) : ∀ (i : Nat) (m : Int), i + d = l.length → m ∈ l → (∀ j, j < i → l.getD j 0 ≤ m) → ∃ r, Ev (fun k => slices_Max_int_int.l0 k l m (i : Int)) r ∧ r ∈ l ∧ ∀ j, j < l.length → l.getD j 0 ≤ r := by
  induction d with
  | zero =>
    intro i m hi hm hj
    refine ⟨m, Ev.step (f := fun _ => some _) (fun k => ?_) (Ev.now _), hm, fun j h => hj j (by omega)⟩
    rw [slices_Max_int_int.l0, if_neg (by omega)]
  | succ d ih =>
    intro i m hi hm hj
    have hmem : l.getD i 0 ∈ l := by rw [lget_lt _ _ _ (by omega)]; exact List.getElem_mem _
    have hmx : mx m (l.getD i 0) ∈ l ∧ m ≤ mx m (l.getD i 0) ∧ l.getD i 0 ≤ mx m (l.getD i 0) := by
      unfold mx
      split
      · refine ⟨by first | exact hm | exact hmem, ?_, ?_⟩ <;> omega
      · refine ⟨by first | exact hm | exact hmem, ?_, ?_⟩ <;> omega
    obtain ⟨r, hr, h2, h3⟩ := ih (i + 1) (mx m (l.getD i 0)) (by omega) hmx.1 (fun j h => by
      by_cases q : j = i
      · rw [q]; exact hmx.2.2
      · exact Int.le_trans (hj j (by omega)) hmx.2.1)
    refine ⟨r, Ev.step (fun k => ?_) hr, h2, h3⟩
    rw [slices_Max_int_int.l0, if_pos (by omega), if_pos (by omega), rd_nat, w64 (by omega) (by omega)]
    rfl
theorem max_ev (l : List Int) (hl : l.length ≤ 1000000) (h0 : 1 ≤ l.length) : ∃ r, Ev (fun k => slices_Max_int_int.f k l) r ∧ r ∈ l ∧ ∀ x ∈ l, x ≤ r := by
  have hmem : l.getD 0 0 ∈ l := by rw [lget_lt _ _ _ (by omega)]; exact List.getElem_mem _
  obtain ⟨r, hr, h2, h3⟩ := max_l0 l hl (l.length - 1) 1 (l.getD 0 0) (by omega) hmem (fun j h => by rw [show j = 0 by omega]; exact Int.le_refl _)
  refine ⟨r, Ev.congr (fun k => ?_) hr, h2, fun x hx => ?_⟩
  · unfold slices_Max_int_int.f
    rw [if_neg (by omega), if_pos (by omega), show rd l 0 = l.getD 0 0 from rd_nat l 0]
    rfl
  · obtain ⟨j, hj, e⟩ := List.getElem_of_mem hx
    have := h3 j hj
    rw [lget_lt _ _ _ hj, e] at this
    exact this
def fin (m : Int) (p : Nat × Nat) : Bool := if p.2 = 1152921504606846976 then true else if p.1 = 1 then m == 1 else false
theorem inRange_get {l : List Int} (h : inRange l = true) (i : Nat) (hi : i < l.length) : 0 ≤ l.getD i 0 ∧ l.getD i 0 ≤ 60 := by
  rw [lget_lt _ _ _ hi]
  have := List.all_eq_true.1 h _ (List.getElem_mem hi)
  exact of_decide_eq_true this
theorem implOk_l0 (l : List Int) (hl : l.length ≤ 300) (hr : inRange l = true) (m : Int) (hm : 1 ≤ l.length → Ev (fun k => slices_Max_int_int.f k l) m) (d : Nat) : ∀ (i c S : Nat), i + d = l.length → c ≤ i → S ≤ 1152921504606846977 →
    Ev (fun k => impl_HuffOk.l0 k l (c : Int) (S : Int) l (l.length : Int) (i : Int)) (fin m (okSat c S (l.drop i))) := by
  induction d with
  | zero =>
    intro i c S hi hc hS
    have hd : l.drop i = [] := List.drop_eq_nil_of_le (by omega)
    rw [hd, okSat, fin]
    by_cases q : S = 1152921504606846976
    · rw [if_pos q]
      refine Ev.step (f := fun _ => some _) (fun k => ?_) (Ev.now _)
      rw [impl_HuffOk.l0, if_neg (by omega), if_pos (by omega)]
    · rw [if_neg q]
      by_cases z : c = 1
      · rw [if_pos z]
        obtain ⟨K, hK⟩ := ev_out (hm (by omega))
        refine ev_mk (K + 1) fun k hk => ?_
        obtain ⟨k, rfl⟩ : ∃ m, k = m + 1 := ⟨k - 1, by omega⟩
        rw [impl_HuffOk.l0, if_neg (by omega), if_neg (by omega), if_pos (by omega), hK k (by omega), Option.bind_some]
      · rw [if_neg z]
        refine Ev.step (f := fun _ => some _) (fun k => ?_) (Ev.now _)
        rw [impl_HuffOk.l0, if_neg (by omega), if_neg (by omega), if_neg (by omega)]
  | succ d ih =>
    intro i c S hi hc hS
    have hg : rd l (i : Int) = l.getD i 0 := rd_nat l i
    have hx := inRange_get hr i (by omega)
    rw [drop_cons l i (by omega), okSat]
    generalize l.getD i 0 = x at hg hx ⊢
    by_cases q : 0 < x
    · rw [if_pos q]
      have hw := wt_le x q
      have hsw : S + wt x ≤ 9223372036854775807 := by omega
      have es : shl .i64 1 ((60 - x.toNat : Nat) : Int) = ((wt x : Nat) : Int) := by
        have this := shl_nat 1 (60 - x.toNat) (by omega)
        rw [Nat.one_mul] at this
        refine Eq.trans this ?_
        show wrap64 ((wt x : Nat) : Int) = _
        exact wnat _ (by clear this; omega)
      have em : mn ((S + wt x : Nat) : Int) 1152921504606846977 = ((min (S + wt x) 1152921504606846977 : Nat) : Int) := by
        clear es
        unfold mn
        split <;> omega
      refine Ev.step (fun k => ?_) (ih (i + 1) (c + 1) (min (S + wt x) 1152921504606846977) (by clear es em; omega) (by clear es em; omega) (by clear es em; omega))
      rw [impl_HuffOk.l0, if_pos (by clear es em; omega), if_pos (by clear es em; omega), if_pos (by clear es em; omega), hg, if_pos q, wsub60 x hx.1 hx.2, if_pos (Int.natCast_nonneg _), es, wadd S (wt x) hsw, em, winc i (by clear es em; omega), winc c (by clear es em; omega)]
    · rw [if_neg q]
      refine Ev.step (fun k => ?_) (ih (i + 1) c S (by omega) (by omega) hS)
      rw [impl_HuffOk.l0, if_pos (by omega), if_pos (by omega), if_pos (by omega), hg, if_neg q, winc i (by omega)]
theorem implHuffOk_ev (l : List Int) : Ev (fun k => impl_HuffOk.f k l) (okH l) := by
  have bad : okH l = false → Ev (fun k => impl_HuffOk.j0 k l true) (okH l) := by
    intro h
    refine Ev.step (f := fun _ => some _) (fun k => ?_) (Ev.now _)
    rw [impl_HuffOk.j0, if_pos rfl, h]
  by_cases h : (l.length : Int) > 300
  · refine Ev.congr (fun k => ?_) (bad (by rw [okH, decide_eq_false (by omega), Bool.false_and]))
    unfold impl_HuffOk.f
    rw [if_pos h]
  have hall : l.all Fv.p67 = inRange l := rfl
  have hml : l.length ≤ maxLen := by unfold maxLen; omega
  have hok : okH l = (inRange l && (decide (kraft l = 1152921504606846976) || (decide (npos l = 1) && decide (lastp 0 l = 1)))) := by
    rw [okH, decide_eq_true (by omega), Bool.true_and, okFrom_eq l 0 0 0 (by omega) (fun _ => rfl), Nat.zero_add, Nat.zero_add]
  by_cases r : inRange l = true
  case neg =>
    have r' : inRange l = false := by simpa using r
    refine Ev.congr (fun k => ?_) (bad (by rw [hok, r', Bool.false_and]))
    unfold impl_HuffOk.f impl_areAll_67.f
    rw [if_neg h, if_pos hml, Option.bind_some, hall, r']
    rfl
  have key : ∃ m, (1 ≤ l.length → Ev (fun k => slices_Max_int_int.f k l) m) ∧ fin m (okSat 0 0 l) = okH l := by
    have hs := okSat_eq l 0 0 (by omega)
    rw [Nat.zero_add, Nat.zero_add] at hs
    rw [hs, hok, r, Bool.true_and]
    by_cases z : 1 ≤ l.length
    · obtain ⟨m, h1, h2, h3⟩ := max_ev l (by omega) z
      refine ⟨m, fun _ => h1, ?_⟩
      unfold fin
      show (if min (kraft l) 1152921504606846977 = 1152921504606846976 then true else if npos l = 1 then m == 1 else false) = _
      by_cases q : kraft l = 1152921504606846976
      · rw [if_pos (by omega), decide_eq_true q, Bool.true_or]
      · rw [if_neg (by omega), decide_eq_false q, Bool.false_or]
        by_cases p : npos l = 1
        · rw [if_pos p, decide_eq_true p, Bool.true_and, max_lastp l m p h2 h3]
          rw [Bool.eq_iff_iff, beq_iff_eq, decide_eq_true_iff]
        · rw [if_neg p, decide_eq_false p, Bool.false_and]
    · obtain rfl : l = [] := List.eq_nil_of_length_eq_zero (by omega)
      exact ⟨0, fun h => absurd h z, by decide⟩
  obtain ⟨m, hm, hf⟩ := key
  have := implOk_l0 l (by omega) r m hm l.length 0 0 0 (by omega) (by omega) (by omega)
  rw [List.drop_zero, hf] at this
  have hj : Ev (fun k => impl_HuffOk.j0 k l false) (okH l) := by
    refine Ev.step (fun k => ?_) this
    rw [impl_HuffOk.j0, if_neg (by decide)]
    rfl
  refine Ev.congr (fun k => ?_) hj
  unfold impl_HuffOk.f impl_areAll_67.f
  rw [if_neg h, if_pos hml, Option.bind_some, hall, r]
  rfl

-- the codes: both make the same
def Good (l out : List Int) : Prop := out.length = l.length ∧ ∀ x ∈ out, 0 ≤ x ∧ x < 1152921504606846976
def before (nxt last : Nat) : Int := if last = 0 then 0 else (nxt : Int) - 1
theorem Good.set {l out : List Int} (h : Good l out) (i : Nat) (v : Int) (h0 : 0 ≤ v) (h1 : v < 1152921504606846976) : Good l (out.set i v) := by
  refine ⟨by rw [List.length_set]; exact h.1, fun x hx => ?_⟩
  rcases List.mem_or_eq_of_mem_set hx with hx | rfl
  · exact h.2 x hx
  · exact ⟨h0, h1⟩
theorem codes_l1 (l : List Int) (hl : l.length ≤ 300) (K : Nat) (hK : K ≤ 1152921504606846976) (L : Nat) (hL : 1 ≤ L) (hL2 : L ≤ 60)
    (next : ∀ (out : List Int) (nxt last : Nat), Good l out → last ≤ L → (last = 0 ↔ nxt = 0) → nxt * 2 ^ (60 - last) + kEq ((L + 1 : Nat) : Int) l + kGt ((L + 1 : Nat) : Int) l = K →
      ∃ res, Ev (fun k => spec_HuffCodes.l0 k l out (before nxt last) (last : Int) ((L + 1 : Nat) : Int)) res ∧ Ev (fun k => impl_huffCodes.l0 k l out (nxt : Int) (last : Int) ((L + 1 : Nat) : Int)) res ∧ Good l res)
    (d : Nat) : ∀ (i : Nat) (out : List Int) (nxt last : Nat), i + d = l.length → Good l out → last ≤ L → (last = 0 ↔ nxt = 0) → nxt * 2 ^ (60 - last) + kEq (L : Int) (l.drop i) + kGt (L : Int) l = K →
      ∃ res, Ev (fun k => spec_HuffCodes.l1 k l out (before nxt last) (last : Int) (L : Int) (i : Int)) res ∧ Ev (fun k => impl_huffCodes.l1 k l out (nxt : Int) (last : Int) (L : Int) l (l.length : Int) (i : Int)) res ∧ Good l res := by
  induction d with
  | zero =>
    intro i out nxt last hi hg hla hz hp
    have hd : l.drop i = [] := List.drop_eq_nil_of_le (by omega)
    rw [hd, kEq, kGt_step] at hp
    obtain ⟨res, h1, h2, h3⟩ := next out nxt last hg hla hz (by rw [show ((L + 1 : Nat) : Int) = (L : Int) + 1 by omega]; omega)
    have e1 : wrap64 ((L : Int) + 1) = ((L + 1 : Nat) : Int) := w64 (by clear hp; omega) (by clear hp; omega)
    refine ⟨res, Ev.step (fun k => ?_) h1, Ev.step (fun k => ?_) h2, h3⟩
    · rw [spec_HuffCodes.l1, if_neg (by clear hp e1; omega), e1]
    · rw [impl_huffCodes.l1, if_neg (by clear hp e1; omega), e1]
  | succ d ih =>
    intro i out nxt last hi hg hla hz hp
    have hrd : rd l (i : Int) = l.getD i 0 := rd_nat l i
    have hlen := hg.1
    have e1 : wrap64 ((i : Int) + 1) = ((i + 1 : Nat) : Int) := w64 (by clear hp; omega) (by clear hp; omega)
    rw [kEq_drop (L : Int) l i (by clear hp; omega)] at hp
    have c1 : (i : Int) < (l.length : Int) := by clear hp e1; omega
    have c2 : (0 : Int) ≤ (i : Int) := Int.natCast_nonneg _
    have c3 : (i : Int) < (out.length : Int) := by clear hp e1; omega
    by_cases q : l.getD i 0 = (L : Int)
    · rw [if_pos q, q] at hp
      have hwt : wt (L : Int) = 2 ^ (60 - L) := by unfold wt; rw [Int.toNat_natCast]
      have hpw : nxt * 2 ^ (60 - last) = nxt * 2 ^ (L - last) * 2 ^ (60 - L) := by rw [Nat.mul_assoc, ← Nat.pow_add, show L - last + (60 - L) = 60 - last by clear hp e1; omega]
      have hn : (nxt * 2 ^ (L - last) + 1) * 2 ^ (60 - L) = nxt * 2 ^ (60 - last) + 2 ^ (60 - L) := by rw [Nat.add_mul, Nat.one_mul, ← hpw]
      have hle : nxt * 2 ^ (L - last) + 1 ≤ (nxt * 2 ^ (L - last) + 1) * 2 ^ (60 - L) := Nat.le_mul_of_pos_right _ (Nat.two_pow_pos _)
      generalize hN : nxt * 2 ^ (L - last) = N at hn hle hpw
      have hNb : N + 1 ≤ 1152921504606846976 := by clear e1 hN hpw; omega
      have hg' : Good l (out.set i (N : Int)) := hg.set i _ (by clear hp e1; omega) (by clear hp e1; omega)
      have hb' : before (N + 1) L = (N : Int) := by unfold before; rw [if_neg (by clear hp e1; omega)]; clear hp e1; omega
      obtain ⟨res, h1, h2, h3⟩ := ih (i + 1) (out.set i (N : Int)) (N + 1) L (by clear hp e1; omega) hg' (Nat.le_refl _) (by clear hp e1; omega) (by clear e1 hN hpw; omega)
      have eL : wrap64 ((L : Int) - (last : Int)) = ((L - last : Nat) : Int) := by rw [w64 (by clear hp e1; omega) (by clear hp e1; omega)]; clear hp e1; omega
      have eN : wrap64 (N : Int) = (N : Int) := w64 (by clear hp e1 eL; omega) (by clear hp e1 eL; omega)
      refine ⟨res, ?_, ?_, h3⟩
      · obtain ⟨K1, k1⟩ := ev_out h1
        obtain ⟨K2, k2⟩ := ev_out (l02Pow_ev (L - last) (by clear hp e1 eL eN; omega))
        refine ev_mk (K1 + K2 + 1) fun k hk => ?_
        obtain ⟨k, rfl⟩ : ∃ m, k = m + 1 := ⟨k - 1, by clear hp e1 eL eN; omega⟩
        have k1' := k1 k (by clear hp e1 eL eN; omega)
        rw [hb'] at k1'
        rw [spec_HuffCodes.l1, if_pos c1, if_pos c2, hrd, if_pos q]
        by_cases z : last = 0
        · have hn0 : nxt = 0 := hz.1 z
          have hN0 : N = 0 := by rw [← hN, hn0, Nat.zero_mul]
          have hbf : before nxt last = (N : Int) := by unfold before; rw [if_pos z, hN0]; rfl
          rw [if_neg (by clear hp e1 eL eN; omega), if_pos c3, hbf, Int.toNat_natCast, e1]
          exact k1'
        · have hbf : before nxt last = (nxt : Int) - 1 := by unfold before; rw [if_neg z]
          have hnx : nxt ≤ N := by rw [← hN]; exact Nat.le_mul_of_pos_right _ (Nat.two_pow_pos _)
          have eM : wrap64 (wrap64 ((nxt : Int) - 1 + 1) * ((2 ^ (L - last) : Nat) : Int)) = (N : Int) := by
            rw [show (nxt : Int) - 1 + 1 = (nxt : Int) by clear hp e1 eL eN; omega, w64 (x := (nxt : Int)) (by clear hp e1 eL eN; omega) (by clear hp e1 eL eN; omega), ← Int.natCast_mul, hN, eN]
          rw [if_pos (by clear hp e1 eL eN eM; omega), eL, k2 k (by clear hp e1 eL eN eM; omega), Option.bind_some, if_pos c3, hbf, eM, Int.toNat_natCast, e1]
          exact k1'
      · refine Ev.step (fun k => ?_) h2
        have eS : shl .i64 (nxt : Int) ((L - last : Nat) : Int) = (N : Int) := by
          rw [shl_nat _ _ (by clear hp e1 eL eN; omega), hN, eN]
        have eT : wrap64 ((N : Int) + 1) = ((N + 1 : Nat) : Int) := w64 (by clear hp e1 eL eN eS; omega) (by clear hp e1 eL eN eS; omega)
        rw [impl_huffCodes.l1, if_pos c1, if_pos c2, if_pos c1, hrd, if_pos q, eL, if_pos (Int.natCast_nonneg _), if_pos c3, eS, eT, e1, Int.toNat_natCast]
    · rw [if_neg q, Nat.zero_add] at hp
      obtain ⟨res, h1, h2, h3⟩ := ih (i + 1) out nxt last (by clear hp e1; omega) hg hla hz hp
      refine ⟨res, Ev.step (fun k => ?_) h1, Ev.step (fun k => ?_) h2, h3⟩
      · rw [spec_HuffCodes.l1, if_pos c1, if_pos c2, hrd, if_neg q, e1]
      · rw [impl_huffCodes.l1, if_pos c1, if_pos c2, if_pos c1, hrd, if_neg q, e1]
theorem codes_l0 (l : List Int) (hl : l.length ≤ 300) (K : Nat) (hK : K ≤ 1152921504606846976) (d : Nat) : ∀ (L : Nat) (out : List Int) (nxt last : Nat), L + d = 61 → 1 ≤ L → Good l out → last ≤ L → (last = 0 ↔ nxt = 0) →
    nxt * 2 ^ (60 - last) + kEq (L : Int) l + kGt (L : Int) l = K →
      ∃ res, Ev (fun k => spec_HuffCodes.l0 k l out (before nxt last) (last : Int) (L : Int)) res ∧ Ev (fun k => impl_huffCodes.l0 k l out (nxt : Int) (last : Int) (L : Int)) res ∧ Good l res := by
  induction d with
  | zero =>
    intro L out nxt last hd h1 hg hla hz hp
    refine ⟨out, Ev.step (f := fun _ => some _) (fun k => ?_) (Ev.now _), Ev.step (f := fun _ => some _) (fun k => ?_) (Ev.now _), hg⟩
    · rw [spec_HuffCodes.l0, if_neg (by clear hp; omega)]
    · rw [impl_huffCodes.l0, if_neg (by clear hp; omega)]
  | succ d ih =>
    intro L out nxt last hd h1 hg hla hz hp
    obtain ⟨res, a, b, c⟩ := codes_l1 l hl K hK L h1 (by clear hp; omega) (fun out' nxt' last' g' hl' z' p' => ih (L + 1) out' nxt' last' (by clear hp p'; omega) (by clear hp p'; omega) g' (by clear hp p'; omega) z' p')
      l.length 0 out nxt last (by clear hp; omega) hg hla hz (by rw [List.drop_zero]; exact hp)
    refine ⟨res, Ev.step (fun k => ?_) a, Ev.step (fun k => ?_) b, c⟩
    · rw [spec_HuffCodes.l0, if_pos (by clear hp; omega)]
      rfl
    · rw [impl_huffCodes.l0, if_pos (by clear hp; omega)]
      rfl
theorem okH_out {l : List Int} (h : okH l = true) : l.length ≤ 300 ∧ inRange l = true ∧ kraft l ≤ 1152921504606846976 := by
  rw [okH, Bool.and_eq_true, decide_eq_true_iff] at h
  obtain ⟨h1, h2⟩ := h
  rw [okFrom_eq l 0 0 0 (by omega) (fun _ => rfl), Bool.and_eq_true, Bool.or_eq_true, Bool.and_eq_true, decide_eq_true_iff, decide_eq_true_iff, Nat.zero_add, Nat.zero_add] at h2
  refine ⟨h1, h2.1, ?_⟩
  rcases h2.2 with q | q
  · omega
  · exact Nat.le_trans (kraft_one l q.1) (by decide)
theorem codes_ev (l : List Int) (ok : okH l = true) : ∃ res, Ev (fun k => spec_HuffCodes.f k l) res ∧ Ev (fun k => impl_huffCodes.f k l) res ∧ Good l res := by
  obtain ⟨hl, hr, hk⟩ := okH_out ok
  have hg : Good l (List.replicate l.length 0) := ⟨List.length_replicate .., fun x hx => by rw [(List.mem_replicate.1 hx).2]; exact ⟨by decide, by decide⟩⟩
  obtain ⟨res, a, b, c⟩ := codes_l0 l hl (kraft l) hk 60 1 (List.replicate l.length 0) 0 0 rfl (by decide) hg (by decide) ⟨fun _ => rfl, fun _ => rfl⟩ (by
    rw [Nat.zero_mul, Nat.zero_add, kraft_gt, kGt_step 0]; rfl)
  refine ⟨res, ?_, ?_, c⟩
  · obtain ⟨K1, k1⟩ := ev_out (specHuffOk_ev l)
    obtain ⟨K2, k2⟩ := ev_out a
    refine ev_mk (K1 + K2) fun k hk => ?_
    unfold spec_HuffCodes.f
    rw [k1 k (by omega), Option.bind_some, if_pos ok, if_pos (by omega), Int.toNat_natCast, if_pos (by omega)]
    exact k2 k (by omega)
  · refine Ev.congr (fun k => ?_) b
    unfold impl_huffCodes.f
    rw [if_pos (by omega), Int.toNat_natCast, if_pos (by omega)]
    rfl

-- the bits of a code
def codeBits (c : Nat) : Nat → List Int
  | 0 => []
  | n + 1 => ((c / 2 ^ n % 2 : Nat) : Int) :: codeBits c n
def lsb : Nat → Nat → List Int
  | _, 0 => []
  | c, n + 1 => ((c % 2 : Nat) : Int) :: lsb (c / 2) n
theorem codeBits_length (c n : Nat) : (codeBits c n).length = n := by
  induction n with
  | zero => rfl
  | succ n ih => rw [codeBits, List.length_cons, ih]
theorem codeBits_01 (c n : Nat) : ∀ x ∈ codeBits c n, x = 0 ∨ x = 1 := by
  induction n with
  | zero => intro x hx; exact absurd hx (by simp [codeBits])
  | succ n ih =>
    intro x hx
    rw [codeBits] at hx
    rcases List.mem_cons.1 hx with rfl | hx
    · omega
    · exact ih x hx
theorem lsb_length (n : Nat) : ∀ c, (lsb c n).length = n := by
  induction n with
  | zero => intro c; rfl
  | succ n ih => intro c; rw [lsb, List.length_cons, ih]
theorem lsb_more (n : Nat) : ∀ c, lsb c (n + 1) = lsb c n ++ [((c / 2 ^ n % 2 : Nat) : Int)] := by
  induction n with
  | zero => intro c; rw [lsb, lsb, lsb, Nat.pow_zero, Nat.div_one]; rfl
  | succ n ih =>
    intro c
    rw [lsb, ih (c / 2), lsb, Nat.div_div_eq_div_mul, Nat.mul_comm, ← Nat.pow_succ]
    rfl
theorem lsb_reverse (c n : Nat) : (lsb c n).reverse = codeBits c n := by
  induction n with
  | zero => rfl
  | succ n ih => rw [lsb_more, List.reverse_append, ih, codeBits]; rfl
theorem l08Code_l0 (c : Nat) (hc : c < 1152921504606846976) (m : Nat) (hm : m ≤ 60) : ∀ acc : List Int, acc.length + m ≤ 1000000 → Ev (fun k => spec_l08Code.l0 k (c : Int) acc ((m : Int) - 1)) (acc ++ codeBits c m) := by
  induction m with
  | zero =>
    intro acc ha
    refine Ev.step (f := fun _ => some _) (fun k => ?_) (Ev.now _)
    rw [spec_l08Code.l0, if_neg (by omega), codeBits, List.append_nil]
  | succ m ih =>
    intro acc ha
    obtain ⟨K1, k1⟩ := ev_out (l02Pow_ev m (by omega))
    obtain ⟨K2, k2⟩ := ev_out (ih (by omega) (acc ++ [((c / 2 ^ m % 2 : Nat) : Int)]) (by rw [List.length_append]; simp; omega))
    refine ev_mk (K1 + K2 + 1) fun k hk => ?_
    obtain ⟨k, rfl⟩ : ∃ m, k = m + 1 := ⟨k - 1, by omega⟩
    have hp : 0 < 2 ^ m := Nat.two_pow_pos m
    have hd : c / 2 ^ m ≤ c := Nat.div_le_self _ _
    have e : Int.tmod (wrap64 (Int.tdiv (c : Int) ((2 ^ m : Nat) : Int))) 2 = ((c / 2 ^ m % 2 : Nat) : Int) := by
      rw [show Int.tdiv (c : Int) ((2 ^ m : Nat) : Int) = ((c / 2 ^ m : Nat) : Int) from rfl, wnat (c / 2 ^ m) (Nat.le_trans hd (by omega))]
      rfl
    have e2 : ((m + 1 : Nat) : Int) - 1 = (m : Int) := by omega
    rw [e2, spec_l08Code.l0, if_pos (by omega), k1 k (by omega), Option.bind_some, if_neg (by clear e; omega), if_pos (by clear e; omega), e, w64 (by clear e; omega) (by clear e; omega), codeBits]
    have this := k2 k (by clear e; omega)
    rw [List.append_assoc, List.singleton_append] at this
    exact this
theorem l08Code_ev (c : Nat) (hc : c < 1152921504606846976) (m : Nat) (hm : m ≤ 60) : Ev (fun k => spec_l08Code.f k (c : Int) (m : Int)) (codeBits c m) := by
  have := l08Code_l0 c hc m hm [] (by simp; omega)
  rw [List.nil_append] at this
  refine Ev.congr (fun k => ?_) this
  unfold spec_l08Code.f
  rw [w64 (by omega) (by omega)]
theorem andi1 (a : Nat) (h : a < 4611686018427387904) : Go.bits .and .i64 (a : Int) 1 = ((a % 2 : Nat) : Int) := by
  have := bits_mask .i64 62 (by decide) (fun n h0 h1 => by rw [i64_w]; exact w64 (by omega) (by omega)) 1 (by decide) (a : Int) (by omega) (by omega)
  rw [show ((2 : Int) ^ 1 - 1) = 1 by decide] at this
  rw [this]
  omega
theorem digits_l0 (n : Nat) (hn : n ≤ 60) (d : Nat) : ∀ (i c : Nat) (acc : List Int), i + d = n → c < 1152921504606846976 → acc.length ≤ i → Ev (fun k => impl_digits.l0 k (c : Int) acc (n : Int) (i : Int)) (acc ++ lsb c d) := by
  induction d with
  | zero =>
    intro i c acc hi hc ha
    refine Ev.step (f := fun _ => some _) (fun k => ?_) (Ev.now _)
    rw [impl_digits.l0, if_neg (by omega), lsb, List.append_nil]
  | succ d ih =>
    intro i c acc hi hc ha
    have h := ih (i + 1) (c / 2) (acc ++ [((c % 2 : Nat) : Int)]) (by omega) (by omega) (by rw [List.length_append]; exact Nat.add_le_add_right ha 1)
    rw [lsb, List.append_cons]
    refine Ev.step (fun k => ?_) h
    rw [impl_digits.l0, if_pos (by omega), if_pos (by omega), andi1 c (by omega), w64 (by omega) (by omega), show (c : Int) / 2 = ((c / 2 : Nat) : Int) by omega]
    rfl
theorem digits_ev (c n : Nat) (hc : c < 1152921504606846976) (hn : n ≤ 60) : Ev (fun k => impl_digits.f k (c : Int) (n : Int)) (lsb c n) := by
  have := digits_l0 n hn n 0 c [] (by omega) hc (by simp)
  rw [List.nil_append] at this
  exact Ev.congr (fun _ => rfl) this
def revAt (l : List Int) (i : Nat) : List Int := (List.range l.length).map fun t => if t < i ∨ l.length - i ≤ t then l.getD (l.length - 1 - t) 0 else l.getD t 0
theorem revAt_length (l : List Int) (i : Nat) : (revAt l i).length = l.length := by simp [revAt]
theorem revAt_get (l : List Int) (i t : Nat) (h : t < l.length) : (revAt l i).getD t 0 = if t < i ∨ l.length - i ≤ t then l.getD (l.length - 1 - t) 0 else l.getD t 0 := by
  unfold revAt
  rw [List.getD_eq_getElem?_getD, List.getElem?_map, List.getElem?_range h]
  rfl
theorem reverse_get (l : List Int) (t : Nat) (h : t < l.length) : l.reverse.getD t 0 = l.getD (l.length - 1 - t) 0 := by
  rw [lget_lt _ _ _ (by rw [List.length_reverse]; exact h), lget_lt _ _ _ (by omega), List.getElem_reverse]
theorem reverse_l0 (l : List Int) (hl : l.length ≤ 1000000) (d : Nat) : ∀ i : Nat, i + d = l.length → Ev (fun k => slices_Reverse_int_int.l0 k (revAt l i) (i : Int) ((l.length : Int) - 1 - (i : Int))) l.reverse := by
  induction d with
  | zero =>
    intro i hi
    refine Ev.step (f := fun _ => some _) (fun k => ?_) (Ev.now _)
    rw [slices_Reverse_int_int.l0, if_neg (by omega)]
    congr 1
    apply ext_getD 0 (by rw [revAt_length, List.length_reverse])
    intro t ht
    rw [revAt_length] at ht
    rw [revAt_get _ _ _ ht, reverse_get _ _ ht, if_pos (by omega)]
  | succ d ih =>
    intro i hi
    by_cases q : (i : Int) < (l.length : Int) - 1 - (i : Int)
    · refine Ev.step (fun k => ?_) (ih (i + 1) (by omega))
      have ej : (l.length : Int) - 1 - (i : Int) = ((l.length - 1 - i : Nat) : Int) := by omega
      have hlen := revAt_length l i
      rw [slices_Reverse_int_int.l0, if_pos q, ej, if_pos (by omega), if_pos (by omega), if_pos (by omega), if_pos (by omega), rd_nat, rd_nat, Int.toNat_natCast, Int.toNat_natCast, w64 (x := (i : Int) + 1) (by omega) (by omega), w64 (by omega) (by omega),
        show (l.length : Int) - 1 - ((i + 1 : Nat) : Int) = ((l.length - 1 - i : Nat) : Int) - 1 by omega]
      have v1 : (revAt l i).getD (l.length - 1 - i) 0 = l.getD (l.length - 1 - i) 0 := by rw [revAt_get l i _ (by omega), if_neg (by omega)]
      have v2 : (revAt l i).getD i 0 = l.getD i 0 := by rw [revAt_get l i _ (by omega), if_neg (by omega)]
      have es : ((revAt l i).set i ((revAt l i).getD (l.length - 1 - i) 0)).set (l.length - 1 - i) ((revAt l i).getD i 0) = revAt l (i + 1) := by
        rw [v1, v2]
        apply ext_getD 0 (by rw [List.length_set, List.length_set, revAt_length, revAt_length])
        intro t ht
        rw [List.length_set, List.length_set, hlen] at ht
        rw [lset ((revAt l i).set i (l.getD (l.length - 1 - i) 0)), lset (revAt l i), List.length_set, hlen, revAt_get l (i + 1) t ht, revAt_get l i t ht]
        by_cases a : l.length - 1 - i = t
        · rw [if_pos ⟨a, by omega⟩, if_pos (show t < i + 1 ∨ l.length - (i + 1) ≤ t by omega), show l.length - 1 - t = i by omega]
        · rw [if_neg (fun h => a h.1)]
          by_cases b : i = t
          · rw [if_pos ⟨b, by omega⟩, if_pos (show t < i + 1 ∨ l.length - (i + 1) ≤ t by omega), b]
          · rw [if_neg (fun h => b h.1)]
            by_cases c : t < i ∨ l.length - i ≤ t
            · rw [if_pos c, if_pos (show t < i + 1 ∨ l.length - (i + 1) ≤ t by omega)]
            · rw [if_neg c, if_neg (show ¬ (t < i + 1 ∨ l.length - (i + 1) ≤ t) by omega)]
      rw [es]
      rfl
    · refine Ev.step (f := fun _ => some _) (fun k => ?_) (Ev.now _)
      rw [slices_Reverse_int_int.l0, if_neg q]
      congr 1
      apply ext_getD 0 (by rw [revAt_length, List.length_reverse])
      intro t ht
      rw [revAt_length] at ht
      rw [revAt_get _ _ _ ht, reverse_get _ _ ht]
      by_cases c : t < i ∨ l.length - i ≤ t
      · rw [if_pos c]
      · rw [if_neg c, show l.length - 1 - t = t by omega]
theorem reverse_ev (l : List Int) (hl : l.length ≤ 1000000) : Ev (fun k => slices_Reverse_int_int.f k l) l.reverse := by
  have h := reverse_l0 l hl l.length 0 (by omega)
  have e0 : revAt l 0 = l := by
    apply ext_getD 0 (revAt_length l 0)
    intro t ht
    rw [revAt_length] at ht
    rw [revAt_get _ _ _ ht, if_neg (by omega)]
  rw [e0, show (l.length : Int) - 1 - ((0 : Nat) : Int) = (l.length : Int) - 1 by omega] at h
  refine Ev.congr (fun k => ?_) h
  unfold slices_Reverse_int_int.f
  rw [w64 (by omega) (by omega)]
  rfl

theorem wu64 {x : Int} (h0 : 0 ≤ x) (h1 : x < 18446744073709551616) : IntKind.u64.wrap x = x := by
  simp [IntKind.wrap, IntKind.bits, IntKind.signed]
  omega
theorem td64 (i : Nat) : Int.tdiv (i : Int) 64 = ((i / 64 : Nat) : Int) := rfl
theorem tm64 (i : Nat) : Int.tmod (i : Int) 64 = ((i % 64 : Nat) : Int) := rfl
def Words (ws : List Int) : Prop := ∀ x ∈ ws, 0 ≤ x ∧ x < 2 ^ 64
theorem l01Power_l0 (m : Nat) : ∀ (a : Nat), a * 2 ^ m < 18446744073709551616 → m ≤ 64 → Ev (fun k => spec_l01Power.l0 k (m : Int) (a : Int)) ((a * 2 ^ m : Nat) : Int) := by
  induction m with
  | zero =>
    intro a h hm
    refine Ev.step (f := fun _ => some _) (fun k => ?_) (Ev.now _)
    rw [spec_l01Power.l0, if_neg (by omega), Nat.pow_zero, Nat.mul_one]
  | succ m ih =>
    intro a h hm
    have hp : 0 < 2 ^ m := Nat.two_pow_pos m
    have e : a * 2 ^ (m + 1) = (2 * a) * 2 ^ m := by rw [Nat.pow_succ, Nat.mul_comm (2 ^ m) 2, ← Nat.mul_assoc, Nat.mul_comm a 2]
    rw [e] at h ⊢
    have : 2 * a ≤ (2 * a) * 2 ^ m := Nat.le_mul_of_pos_right _ hp
    refine Ev.step (f := fun k => spec_l01Power.l0 k (m : Int) ((2 * a : Nat) : Int)) (fun k => ?_) (ih (2 * a) h (by omega))
    rw [spec_l01Power.l0, if_pos (by omega), w64 (by omega) (by omega), wu64 (by omega) (by omega), show ((m + 1 : Nat) : Int) - 1 = (m : Int) by omega]
    rfl
theorem pow64 (m : Nat) (h : m < 64) : 2 ^ m < 18446744073709551616 := Nat.pow_lt_pow_right (a := 2) (n := 64) (by decide) h
theorem pow64i (m : Nat) (h : m ≤ 64) : (2 : Int) ^ m ≤ 18446744073709551616 := by
  have : 2 ^ m ≤ 2 ^ 64 := Nat.pow_le_pow_right (by decide) h
  have e : (2 : Int) ^ m = ((2 ^ m : Nat) : Int) := by simp
  omega
theorem l01Power_ev (m : Nat) (h : m < 64) : Ev (fun k => spec_l01Power.f k (m : Int)) ((2 : Int) ^ m) := by
  have := l01Power_l0 m 1 (by rw [Nat.one_mul]; exact pow64 m h) (by omega)
  rw [Nat.one_mul] at this
  rw [show (2 : Int) ^ m = ((2 ^ m : Nat) : Int) by simp]
  exact this
theorem bitsOf_j2 (l : List Int) (hb : ∀ i, i < l.length → l.getD i 0 = 0 ∨ l.getD i 0 = 1) (h5 : l.length ≤ 5000) (i : Nat) (hi : i < l.length) (r : Int × List Int × Bool)
    (hr : Ev (fun k => spec_BitsOf.l0 k l ((i + 1 : Nat) : Int) (l.length : Int) (wordsTo l (i + 1) (i / 64 + 1))) r) : Ev (fun k => spec_BitsOf.j2 k l (i : Int) (l.length : Int) (wordsTo l i (i / 64 + 1))) r := by
  have e1 : wrap64 ((i : Int) + 1) = ((i + 1 : Nat) : Int) := w64 (by omega) (by omega)
  rcases hb i hi with q | q
  · refine Ev.step (f := fun k => spec_BitsOf.l0 k l ((i + 1 : Nat) : Int) (l.length : Int) (wordsTo l (i + 1) (i / 64 + 1))) (fun k => ?_) hr
    rw [spec_BitsOf.j2, if_pos (by omega), if_pos (by omega), rd_nat, q, if_neg (by decide), e1, wordsTo_skip l i _ q]
  · obtain ⟨K1, h1⟩ := ev_out (l01Power_ev (i % 64) (by omega))
    obtain ⟨K2, h2⟩ := ev_out hr
    refine ev_mk (K1 + K2 + 1) fun k hk => ?_
    obtain ⟨k, rfl⟩ : ∃ m, k = m + 1 := ⟨k - 1, by omega⟩
    have hlen := wordsTo_length l i (i / 64 + 1)
    have hbd := wordAt_bound l hb i (i / 64) (by omega)
    rw [show min 64 (i - 64 * (i / 64)) = i % 64 by omega] at hbd
    have hp := pow64i (i % 64 + 1) (by omega)
    rw [Int.pow_succ] at hp
    rw [spec_BitsOf.j2, if_pos (by omega), if_pos (by omega), rd_nat, q, if_pos rfl, td64, tm64, w64 (by omega) (by omega), if_pos (by omega), if_pos (by rw [hlen]; omega), h1 k (by omega), Option.bind_some, e1, rd_nat, wordsTo_get _ _ _ _ (by omega),
      wu64 (by have := two_pos (i % 64); omega) (by omega), Int.toNat_natCast, wordsTo_set l i _ _ (by omega) (by rw [q, Int.one_mul])]
    exact h2 k (by omega)
theorem bitsOf_l0 (l : List Int) (hb : ∀ i, i < l.length → l.getD i 0 = 0 ∨ l.getD i 0 = 1) (h5 : l.length ≤ 5000) (d : Nat) : ∀ i : Nat, i + d = l.length →
    Ev (fun k => spec_BitsOf.l0 k l (i : Int) (l.length : Int) (wordsTo l i ((i + 63) / 64))) ((l.length : Int), wordsOf l, true) := by
  induction d with
  | zero =>
    intro i h
    obtain rfl : i = l.length := by omega
    refine Ev.step (f := fun _ => some _) (fun k => ?_) (Ev.now _)
    rw [spec_BitsOf.l0, if_neg (by omega)]
    rfl
  | succ d ih =>
    intro i h
    have hr := bitsOf_j2 l hb h5 i (by omega) _ (by have := ih (i + 1) (by omega); rwa [show (i + 1 + 63) / 64 = i / 64 + 1 by omega] at this)
    have hj : Ev (fun k => spec_BitsOf.j1 k l (i : Int) false (l.length : Int) (wordsTo l i ((i + 63) / 64))) ((l.length : Int), wordsOf l, true) := by
      refine Ev.step (fun k => ?_) hr
      rw [spec_BitsOf.j1, if_neg (by decide), tm64]
      by_cases q : i % 64 = 0
      · rw [if_pos (by omega), if_pos (by rw [wordsTo_length]; omega), wordsTo_more l i q]
      · rw [if_neg (by omega), show (i + 63) / 64 = i / 64 + 1 by omega]
    refine Ev.step (fun k => ?_) hj
    rw [spec_BitsOf.l0, if_pos (by omega), if_pos (by omega), rd_nat]
    rcases hb i (by omega) with q | q
    · rw [q, if_pos rfl]
    · rw [q, if_neg (by decide)]
      rfl
theorem specBitsOf_ev (l : List Int) (hb : ∀ i, i < l.length → l.getD i 0 = 0 ∨ l.getD i 0 = 1) (h5 : l.length ≤ 5000) : Ev (fun k => spec_BitsOf.f k l) ((l.length : Int), wordsOf l, true) := by
  refine Ev.congr (f := fun k => spec_BitsOf.l0 k l ((0 : Nat) : Int) (l.length : Int) (wordsTo l 0 ((0 + 63) / 64))) (fun k => ?_) (bitsOf_l0 l hb h5 l.length 0 (by omega))
  unfold spec_BitsOf.f
  rw [if_neg (by omega)]
  rfl
theorem specBitsOf_big (l : List Int) (h5 : 5000 < l.length) : Ev (fun k => spec_BitsOf.f k l) (0, [], false) := by
  refine Ev.congr (f := fun _ => some _) (fun k => ?_) (Ev.now _)
  unfold spec_BitsOf.f
  rw [if_pos (by omega)]

-- the program's words of a list
theorem bitsOr_comm (x y : Int) : Go.bits .or .u64 x y = Go.bits .or .u64 y x := by
  unfold Go.bits
  dsimp only
  rw [BitVec.or_comm]
theorem or_bit (x : Int) (m : Nat) (v : Int) (hx : 0 ≤ x) (hx1 : x < 2 ^ m) (hm : m < 64) (hv : v = 0 ∨ v = 1) : Go.bits .or .u64 x (shl .u64 (IntKind.u64.wrap v) (m : Int)) = x + v * 2 ^ m := by
  have hp := pow64i (m + 1) (by omega)
  rw [Int.pow_succ] at hp
  have hp0 := two_pos m
  rcases hv with rfl | rfl
  · have e : shl .u64 (IntKind.u64.wrap 0) (m : Int) = 0 := by
      unfold shl
      rw [wu64 (x := 0) (by decide) (by decide), Int.zero_mul]
      exact wu64 (by decide) (by decide)
    rw [e, bits_join .u64 64 (by decide) (fun n h0 h1 => wu64 h0 (by omega)) 0 x 0 hx (by simp [Int.emod_one]) (by omega) (by decide) (by decide) (by decide)]
    simp
  · have e : shl .u64 (IntKind.u64.wrap 1) (m : Int) = 2 ^ m := by
      unfold shl
      rw [wu64 (x := 1) (by decide) (by decide), Int.one_mul, Int.toNat_natCast, show min m IntKind.u64.bits = m by show min m 64 = m; omega]
      exact wu64 (by omega) (by omega)
    rw [e, bitsOr_comm, bits_join .u64 64 (by decide) (fun n h0 h1 => wu64 h0 (by omega)) m (2 ^ m) x (by omega) Int.emod_self (by omega) hx hx1 (by omega)]
    omega
theorem implBitsOf_l0 (l : List Int) (hb : ∀ i, i < l.length → l.getD i 0 = 0 ∨ l.getD i 0 = 1) (h5 : l.length ≤ 5000) (d : Nat) : ∀ i : Nat, i + d = l.length →
    Ev (fun k => impl_bitsOf.l0 k l (l.length : Int) (i : Int) (l.length : Int) (wordsTo l i ((l.length + 63) / 64))) ((l.length : Int), wordsOf l) := by
  induction d with
  | zero =>
    intro i h
    obtain rfl : i = l.length := by omega
    refine Ev.step (f := fun _ => some _) (fun k => ?_) (Ev.now _)
    rw [impl_bitsOf.l0, if_neg (by omega)]
    rfl
  | succ d ih =>
    intro i h
    refine Ev.step (fun k => ?_) (ih (i + 1) (by omega))
    have hbd := wordAt_bound l hb i (i / 64) (by omega)
    rw [show min 64 (i - 64 * (i / 64)) = i % 64 by omega] at hbd
    rw [impl_bitsOf.l0, if_pos (by omega), if_pos (by omega), if_pos (by omega), td64, tm64, w64 (by omega) (by omega), if_pos (by omega), if_pos (by rw [wordsTo_length]; omega), if_pos (by omega), w64 (by omega) (by omega), rd_nat, rd_nat, Int.toNat_natCast,
      wordsTo_get _ _ _ _ (by omega), or_bit _ _ _ hbd.1 hbd.2 (by omega) (hb i (by omega)), wordsTo_set l i _ _ (by omega) rfl]
    rfl
theorem implBitsOf_ev (l : List Int) (hb : ∀ i, i < l.length → l.getD i 0 = 0 ∨ l.getD i 0 = 1) (h5 : l.length ≤ 5000) : Ev (fun k => impl_bitsOf.f k l) ((l.length : Int), wordsOf l) := by
  have e : wrap64 (Int.tdiv (wrap64 ((wrap64 ((l.length : Int) + 64)) - 1)) 64) = (((l.length + 63) / 64 : Nat) : Int) := by
    rw [w64 (x := (l.length : Int) + 64) (by omega) (by omega), w64 (x := (l.length : Int) + 64 - 1) (by omega) (by omega), show (l.length : Int) + 64 - 1 = ((l.length + 63 : Nat) : Int) by omega, td64, w64 (by omega) (by omega)]
  have z : wordsTo l 0 ((l.length + 63) / 64) = List.replicate ((l.length + 63) / 64) 0 := by
    apply ext_getD 0 (by rw [wordsTo_length, List.length_replicate])
    intro j hj
    rw [wordsTo_length] at hj
    rw [wordsTo_get _ _ _ _ hj, lrep]
    unfold wordAt
    rw [show min 64 (0 - 64 * j) = 0 by omega, wsum]
  refine Ev.congr (f := fun k => impl_bitsOf.l0 k l (l.length : Int) ((0 : Nat) : Int) (l.length : Int) (wordsTo l 0 ((l.length + 63) / 64))) (fun k => ?_) (implBitsOf_l0 l hb h5 l.length 0 (by omega))
  unfold impl_bitsOf.f
  rw [e, if_pos (by omega), Int.toNat_natCast, if_pos (by omega), z]
  rfl
theorem words_lt (l : List Int) (hb : ∀ i, i < l.length → l.getD i 0 = 0 ∨ l.getD i 0 = 1) : Words (wordsOf l) := by
  intro x hx
  unfold wordsOf wordsTo at hx
  obtain ⟨j, _, rfl⟩ := List.mem_map.1 hx
  have h := wordAt_bound l hb l.length j (Nat.le_refl _)
  have hp := pow64i (min 64 (l.length - 64 * j)) (by omega)
  exact ⟨h.1, by omega⟩

-- HuffWrite
theorem wpred (n : Nat) (h : n ≤ 1000000000) : wrap64 ((n : Int) - 1) = (n : Int) - 1 := w64 (by omega) (by omega)
theorem waddi (n : Nat) (x : Int) (h : n ≤ 1000000000) (h0 : 0 ≤ x) (h1 : x ≤ 1000000000) : wrap64 ((n : Int) + x) = (n : Int) + x := w64 (by omega) (by omega)
def symB (lens codes : List Int) (s : Int) : List Int := codeBits (codes.getD s.toNat 0).toNat (lens.getD s.toNat 0).toNat
def goW (lens codes : List Int) : List Int → List Int → Option (List Int)
  | acc, [] => if 5000 < acc.length then none else some acc
  | acc, s :: ss => if s < 0 ∨ (lens.length : Int) ≤ s then none else if lens.getD s.toNat 0 = 0 then none else goW lens codes (acc ++ symB lens codes s) ss
def resW : Option (List Int) → Int × List Int × Bool
  | none => (0, [], false)
  | some bs => ((bs.length : Int), wordsOf bs, true)
theorem goW_big (lens codes : List Int) (hr : inRange lens = true) (ss : List Int) : ∀ acc : List Int, 5000 < acc.length + ss.length → goW lens codes acc ss = none := by
  induction ss with
  | nil => intro acc h; rw [goW, if_pos (by simpa using h)]
  | cons s ss ih =>
    intro acc h
    rw [goW]
    by_cases a : s < 0 ∨ (lens.length : Int) ≤ s
    · rw [if_pos a]
    · rw [if_neg a]
      by_cases b : lens.getD s.toNat 0 = 0
      · rw [if_pos b]
      · rw [if_neg b]
        have := inRange_get hr s.toNat (by omega)
        apply ih
        rw [List.length_append, symB, codeBits_length]
        rw [List.length_cons] at h
        omega
theorem get01 {l : List Int} (h : ∀ x ∈ l, x = 0 ∨ x = 1) : ∀ i, i < l.length → l.getD i 0 = 0 ∨ l.getD i 0 = 1 := by
  intro i hi
  rw [lget_lt _ _ _ hi]
  exact h _ (List.getElem_mem hi)
theorem app01 {l m : List Int} (h : ∀ x ∈ l, x = 0 ∨ x = 1) (h2 : ∀ x ∈ m, x = 0 ∨ x = 1) : ∀ x ∈ l ++ m, x = 0 ∨ x = 1 := by
  intro x hx
  rcases List.mem_append.1 hx with q | q
  · exact h x q
  · exact h2 x q
theorem good_get {lens codes : List Int} (hg : Good lens codes) (j : Nat) (h : j < lens.length) : ∃ c : Nat, codes.getD j 0 = (c : Int) ∧ c < 1152921504606846976 := by
  have hl := hg.1
  have := hg.2 _ (List.getElem_mem (show j < codes.length by omega))
  rw [← lget_lt codes j 0 (by omega)] at this
  exact ⟨(codes.getD j 0).toNat, by omega, by omega⟩
theorem specW_l0 (list lens codes : List Int) (hg : Good lens codes) (hr : inRange lens = true) (hl : list.length ≤ 5000) (d : Nat) : ∀ (i : Nat) (acc : List Int), i + d = list.length → acc.length ≤ 60 * i → (∀ x ∈ acc, x = 0 ∨ x = 1) →
    Ev (fun k => spec_HuffWrite.l0 k list lens codes acc (i : Int)) (resW (goW lens codes acc (list.drop i))) := by
  induction d with
  | zero =>
    intro i acc hi ha h01
    have hd : list.drop i = [] := List.drop_eq_nil_of_le (by omega)
    rw [hd, goW]
    by_cases b : 5000 < acc.length
    · obtain ⟨K, hK⟩ := ev_out (specBitsOf_big acc b)
      refine ev_mk (K + 1) fun k hk => ?_
      obtain ⟨k, rfl⟩ : ∃ m, k = m + 1 := ⟨k - 1, by omega⟩
      rw [spec_HuffWrite.l0, if_neg (by omega), hK k (by omega), Option.bind_some, if_pos b]
      rfl
    · obtain ⟨K, hK⟩ := ev_out (specBitsOf_ev acc (get01 h01) (by omega))
      refine ev_mk (K + 1) fun k hk => ?_
      obtain ⟨k, rfl⟩ : ∃ m, k = m + 1 := ⟨k - 1, by omega⟩
      rw [spec_HuffWrite.l0, if_neg (by omega), hK k (by omega), Option.bind_some, if_neg b]
      rfl
  | succ d ih =>
    intro i acc hi ha h01
    have hrd : rd list (i : Int) = list.getD i 0 := rd_nat list i
    rw [drop_cons list i (by omega), goW]
    generalize list.getD i 0 = s at hrd ⊢
    have bad : ∀ k, spec_HuffWrite.j2 (k + 1) list lens codes acc (i : Int) s true = some (resW none) := by
      intro k
      rw [spec_HuffWrite.j2, if_pos rfl]
      rfl
    by_cases a : s < 0 ∨ (lens.length : Int) ≤ s
    · rw [if_pos a]
      refine ev_mk 2 fun k hk => ?_
      obtain ⟨k, rfl⟩ : ∃ m, k = m + 2 := ⟨k - 2, by omega⟩
      rw [spec_HuffWrite.l0, if_pos (by omega), if_pos (by omega), hrd]
      by_cases n : s < 0
      · rw [if_pos n]; exact bad k
      · rw [if_neg n, if_pos (by omega)]; exact bad k
    · rw [if_neg a]
      have hrl : rd lens s = lens.getD s.toNat 0 := rfl
      have hrc : rd codes s = codes.getD s.toNat 0 := rfl
      have hsl : s.toNat < lens.length := by omega
      have hlr := inRange_get hr s.toNat hsl
      obtain ⟨c, hc, hcl⟩ := good_get hg s.toNat hsl
      have hcg := hg.1
      by_cases b : lens.getD s.toNat 0 = 0
      · rw [if_pos b]
        refine ev_mk 2 fun k hk => ?_
        obtain ⟨k, rfl⟩ : ∃ m, k = m + 2 := ⟨k - 2, by omega⟩
        rw [spec_HuffWrite.l0, if_pos (by omega), if_pos (by omega), hrd, if_neg (by omega), if_neg (by omega), if_pos (by omega), if_pos (by omega), hrl, b]
        exact bad k
      · rw [if_neg b]
        have hsb : symB lens codes s = codeBits c (lens.getD s.toNat 0).toNat := by unfold symB; rw [hc, Int.toNat_natCast]
        have hbl := codeBits_length c (lens.getD s.toNat 0).toNat
        have hbb : (lens.getD s.toNat 0 == 0) = false := by simpa using b
        have hm : lens.getD s.toNat 0 = (((lens.getD s.toNat 0).toNat : Nat) : Int) := by omega
        generalize hM : (lens.getD s.toNat 0).toNat = m at hsb hbl hm
        rw [hsb]
        obtain ⟨K1, k1⟩ := ev_out (l08Code_ev c hcl m (by omega))
        obtain ⟨K2, k2⟩ := ev_out (ih (i + 1) (acc ++ codeBits c m) (by omega) (by rw [List.length_append]; omega) (app01 h01 (codeBits_01 c m)))
        refine ev_mk (K1 + K2 + 2) fun k hk => ?_
        obtain ⟨k, rfl⟩ : ∃ m, k = m + 2 := ⟨k - 2, by omega⟩
        rw [spec_HuffWrite.l0, if_pos (by omega), if_pos (by omega), hrd, if_neg (by omega), if_neg (by omega), if_pos (by omega), if_pos (by omega), hrl, hbb, spec_HuffWrite.j2, if_neg (by decide), if_pos (by omega), if_pos (by omega), if_pos (by omega), hrc, hrl, hc, hm, k1 k (by omega), Option.bind_some, if_pos (by omega), winc i (by omega)]
        exact k2 k (by omega)
theorem implW_l0 (list lens codes : List Int) (hg : Good lens codes) (hr : inRange lens = true) (hn : lens.length ≤ 300) (hl : list.length ≤ 1048576) (d : Nat) : ∀ (i : Nat) (acc : List Int), i + d = list.length → acc.length ≤ 5000 → (∀ x ∈ acc, x = 0 ∨ x = 1) →
    Ev (fun k => impl_HuffWrite.l0 k lens codes acc list (list.length : Int) (i : Int)) (resW (goW lens codes acc (list.drop i))) := by
  induction d with
  | zero =>
    intro i acc hi ha h01
    have hd : list.drop i = [] := List.drop_eq_nil_of_le (by omega)
    rw [hd, goW]
    obtain ⟨K, hK⟩ := ev_out (implBitsOf_ev acc (get01 h01) (by omega))
    refine ev_mk (K + 1) fun k hk => ?_
    obtain ⟨k, rfl⟩ : ∃ m, k = m + 1 := ⟨k - 1, by omega⟩
    rw [impl_HuffWrite.l0, if_neg (by omega), hK k (by omega), Option.bind_some, if_neg (by omega)]
    rfl
  | succ d ih =>
    intro i acc hi ha h01
    have hrd : rd list (i : Int) = list.getD i 0 := rd_nat list i
    rw [drop_cons list i (by omega), goW]
    generalize list.getD i 0 = s at hrd ⊢
    have bad : ∀ k, impl_HuffWrite.j1 (k + 1) lens codes acc s list (list.length : Int) (i : Int) true = some (resW none) := by
      intro k
      rw [impl_HuffWrite.j1, if_pos rfl]
      rfl
    have hwi : impl_within.f s 0 (wrap64 ((lens.length : Int) - 1)) = some (decide (¬ (s < 0 ∨ (lens.length : Int) ≤ s))) := by
      unfold impl_within.f
      rw [wpred _ (by omega)]
      by_cases n : 0 ≤ s
      · rw [if_pos n]
        congr 1
        exact decide_eq_decide.2 (by omega)
      · rw [if_neg n, decide_eq_false (by omega)]
    by_cases a : s < 0 ∨ (lens.length : Int) ≤ s
    · rw [if_pos a]
      refine ev_mk 2 fun k hk => ?_
      obtain ⟨k, rfl⟩ : ∃ m, k = m + 2 := ⟨k - 2, by clear hwi; omega⟩
      rw [impl_HuffWrite.l0, if_pos (by clear hwi; omega), if_pos (by clear hwi; omega), if_pos (by clear hwi; omega), hrd, hwi, Option.bind_some, decide_eq_false (fun h => h a), if_neg (by decide)]
      exact bad k
    · rw [if_neg a]
      rw [decide_eq_true a] at hwi
      have hrl : rd lens s = lens.getD s.toNat 0 := rfl
      have hrc : rd codes s = codes.getD s.toNat 0 := rfl
      have hsl : s.toNat < lens.length := by clear hwi; omega
      have hlr := inRange_get hr s.toNat hsl
      obtain ⟨c, hc, hcl⟩ := good_get hg s.toNat hsl
      have hcg := hg.1
      have c1 : (i : Int) < (list.length : Int) := by clear hwi; omega
      have c2 : (0 : Int) ≤ s := by clear hwi; omega
      have c3 : s < (lens.length : Int) := by clear hwi; omega
      have c4 : s < (codes.length : Int) := by clear hwi; omega
      have hgo : ∀ k, impl_HuffWrite.l0 (k + 1) lens codes acc list (list.length : Int) (i : Int) = (if lens.getD s.toNat 0 = 0 then impl_HuffWrite.j1 k lens codes acc s list (list.length : Int) (i : Int) true else impl_HuffWrite.j1 k lens codes acc s list (list.length : Int) (i : Int) (decide ((acc.length : Int) + lens.getD s.toNat 0 > 5000))) := by
        intro k
        rw [impl_HuffWrite.l0, if_pos c1, if_pos (Int.natCast_nonneg _), if_pos c1, hrd, hwi, Option.bind_some, if_pos rfl, if_pos c2, if_pos c3, hrl, waddi acc.length _ (by clear hwi; omega) hlr.1 (by clear hwi; omega)]
      clear hwi
      by_cases b : lens.getD s.toNat 0 = 0
      · rw [if_pos b]
        refine ev_mk 2 fun k hk => ?_
        obtain ⟨k, rfl⟩ : ∃ m, k = m + 2 := ⟨k - 2, by omega⟩
        rw [hgo, if_pos b]
        exact bad k
      · rw [if_neg b]
        by_cases o : (acc.length : Int) + lens.getD s.toNat 0 > 5000
        · rw [goW_big lens codes hr _ _ (by rw [List.length_append, symB, codeBits_length]; omega)]
          refine ev_mk 2 fun k hk => ?_
          obtain ⟨k, rfl⟩ : ∃ m, k = m + 2 := ⟨k - 2, by omega⟩
          rw [hgo, if_neg b, decide_eq_true o]
          exact bad k
        · have hsb : symB lens codes s = codeBits c (lens.getD s.toNat 0).toNat := by unfold symB; rw [hc, Int.toNat_natCast]
          have hbl := codeBits_length c (lens.getD s.toNat 0).toNat
          have hm : lens.getD s.toNat 0 = (((lens.getD s.toNat 0).toNat : Nat) : Int) := by omega
          generalize hM : (lens.getD s.toNat 0).toNat = m at hsb hbl hm
          rw [hsb]
          have hll := lsb_length m c
          have hrv := lsb_reverse c m
          obtain ⟨K1, k1⟩ := ev_out (digits_ev c m hcl (by omega))
          obtain ⟨K2, k2⟩ := ev_out (reverse_ev (lsb c m) (by omega))
          obtain ⟨K3, k3⟩ := ev_out (ih (i + 1) (acc ++ codeBits c m) (by omega) (by rw [List.length_append]; omega) (app01 h01 (codeBits_01 c m)))
          refine ev_mk (K1 + K2 + K3 + 2) fun k hk => ?_
          obtain ⟨k, rfl⟩ : ∃ m, k = m + 2 := ⟨k - 2, by omega⟩
          rw [hgo, if_neg b, decide_eq_false o, impl_HuffWrite.j1, if_neg (by decide), if_pos c2, if_pos c4, if_pos c3, hrc, hrl, hc, hm, k1 k (by omega), Option.bind_some, k2 k (by omega), Option.bind_some, hrv, if_pos (by omega), winc i (by omega)]
          exact k3 k (by omega)
theorem huffWrite_ev (list lens : List Int) (hl : list.length ≤ 1048576) : ∃ o : Option (List Int), (∀ bs, o = some bs → bs.length ≤ 5000) ∧ Ev (fun k => spec_HuffWrite.f k list lens) (resW o) ∧ Ev (fun k => impl_HuffWrite.f k list lens) (resW o) := by
  obtain ⟨K1, k1⟩ := ev_out (specHuffOk_ev lens)
  obtain ⟨K2, k2⟩ := ev_out (implHuffOk_ev lens)
  by_cases ok : okH lens = true
  case neg =>
    refine ⟨none, fun _ h => absurd h (by simp), ev_mk (K1 + 1) fun k hk => ?_, ev_mk K2 fun k hk => ?_⟩
    · obtain ⟨k, rfl⟩ : ∃ m, k = m + 1 := ⟨k - 1, by omega⟩
      unfold spec_HuffWrite.f spec_HuffCodes.f
      rw [k1 _ (by omega), Option.bind_some, if_neg ok, Option.bind_some, Option.bind_some, if_neg ok, spec_HuffWrite.j0, if_pos rfl]
      rfl
    · unfold impl_HuffWrite.f
      rw [k2 _ (by omega), Option.bind_some, if_neg ok]
      rfl
  obtain ⟨hn, hr, _⟩ := okH_out ok
  obtain ⟨codes, e1, e2, hg⟩ := codes_ev lens ok
  obtain ⟨K3, k3⟩ := ev_out e1
  obtain ⟨K4, k4⟩ := ev_out e2
  have hI := implW_l0 list lens codes hg hr hn hl list.length 0 [] (by omega) (by simp) (by simp)
  rw [List.drop_zero] at hI
  obtain ⟨K5, k5⟩ := ev_out hI
  refine ⟨goW lens codes [] list, ?_, ?_, ev_mk (K2 + K4 + K5) fun k hk => ?_⟩
  · have key : ∀ (ss acc bs : List Int), goW lens codes acc ss = some bs → bs.length ≤ 5000 := by
      intro ss
      induction ss with
      | nil =>
        intro acc bs h
        rw [goW] at h
        by_cases q : 5000 < acc.length
        · rw [if_pos q] at h; exact absurd h (by simp)
        · rw [if_neg q] at h
          obtain rfl := Option.some.inj h
          omega
      | cons s ss ih =>
        intro acc bs h
        rw [goW] at h
        by_cases a : s < 0 ∨ (lens.length : Int) ≤ s
        · rw [if_pos a] at h; exact absurd h (by simp)
        · rw [if_neg a] at h
          by_cases b : lens.getD s.toNat 0 = 0
          · rw [if_pos b] at h; exact absurd h (by simp)
          · rw [if_neg b] at h
            exact ih _ _ h
    exact key list []
  · by_cases big : (list.length : Int) > 5000
    · rw [goW_big lens codes hr list [] (by simp; omega)]
      refine ev_mk (K1 + K3 + 1) fun k hk => ?_
      obtain ⟨k, rfl⟩ : ∃ m, k = m + 1 := ⟨k - 1, by omega⟩
      unfold spec_HuffWrite.f
      rw [k3 _ (by omega), Option.bind_some, k1 _ (by omega), Option.bind_some, if_pos ok, decide_eq_true big, spec_HuffWrite.j0, if_pos rfl]
      rfl
    · have hS := specW_l0 list lens codes hg hr (by omega) list.length 0 [] (by omega) (by simp) (by simp)
      rw [List.drop_zero] at hS
      obtain ⟨K6, k6⟩ := ev_out hS
      refine ev_mk (K1 + K3 + K6 + 1) fun k hk => ?_
      obtain ⟨k, rfl⟩ : ∃ m, k = m + 1 := ⟨k - 1, by omega⟩
      unfold spec_HuffWrite.f
      rw [k3 _ (by omega), Option.bind_some, k1 _ (by omega), Option.bind_some, if_pos ok, decide_eq_false big, spec_HuffWrite.j0, if_neg (by decide)]
      exact k6 k (by omega)
  · unfold impl_HuffWrite.f
    rw [k2 _ (by omega), Option.bind_some, if_pos ok, k4 _ (by omega), Option.bind_some]
    exact k5 k (by omega)

-- toIntS, eqIntS
theorem toIntS_l0 (l : List Int) (hl : l.length ≤ 4000000) (d : Nat) : ∀ i : Nat, i + d = l.length → Ev (fun k => laws_toIntS.l0 k l (l.take i ++ List.replicate d 0) (i : Int)) l := by
  induction d with
  | zero =>
    intro i h
    refine Ev.step (f := fun _ => some l) (fun k => ?_) (Ev.now l)
    rw [laws_toIntS.l0]
    rw [if_neg (by omega), List.take_of_length_le (by omega)]
    simp
  | succ d ih =>
    intro i h
    refine Ev.step (f := fun k => laws_toIntS.l0 k l (l.take (i + 1) ++ List.replicate d 0) ((i + 1 : Nat) : Int)) (fun k => ?_) (ih (i + 1) (by omega))
    rw [laws_toIntS.l0]
    rw [if_pos (by omega), if_pos (by omega), if_pos (by rw [fill_length l 0 i (d + 1) h]; omega), w64 (by omega) (by omega), rd_nat, Int.toNat_natCast, fill_set l 0 _ i d h rfl]
    rfl
theorem toIntS_ev (l : List Int) (hl : l.length ≤ 4000000) : Ev (fun k => laws_toIntS.f k l) l := by
  refine Ev.congr (f := fun k => laws_toIntS.l0 k l (l.take 0 ++ List.replicate l.length 0) ((0 : Nat) : Int)) (fun k => ?_) (toIntS_l0 l hl l.length 0 (by omega))
  unfold laws_toIntS.f
  rw [if_pos (by omega), Int.toNat_natCast, if_pos (by omega)]
  rfl
theorem eqIntS_l0 (l : List Int) (hl : l.length ≤ 4000000) (d : Nat) : ∀ i : Nat, i + d = l.length → Ev (fun k => laws_eqIntS.l0 k l l (i : Int)) true := by
  induction d with
  | zero =>
    intro i h
    refine Ev.step (f := fun _ => some true) (fun k => ?_) (Ev.now true)
    rw [laws_eqIntS.l0]
    rw [if_neg (by omega)]
  | succ d ih =>
    intro i h
    refine Ev.step (f := fun k => laws_eqIntS.l0 k l l ((i + 1 : Nat) : Int)) (fun k => ?_) (ih (i + 1) (by omega))
    rw [laws_eqIntS.l0]
    rw [if_pos (by omega), if_pos (by omega), if_pos (by omega), if_pos rfl, w64 (by omega) (by omega)]
    rfl
theorem eqIntS_ev (l : List Int) (hl : l.length ≤ 4000000) : Ev (fun k => laws_eqIntS.f k l l) true := by
  refine Ev.congr (f := fun k => laws_eqIntS.l0 k l l ((0 : Nat) : Int)) (fun k => ?_) (eqIntS_l0 l hl l.length 0 (by omega))
  unfold laws_eqIntS.f
  rw [if_pos rfl]
  rfl

theorem eqUint64S_l0 (l : List Int) (hl : l.length ≤ 4000000) (d : Nat) : ∀ i : Nat, i + d = l.length → Ev (fun k => laws_eqUint64S.l0 k l l (i : Int)) true := by
  induction d with
  | zero =>
    intro i h
    refine Ev.step (f := fun _ => some true) (fun k => ?_) (Ev.now true)
    rw [laws_eqUint64S.l0]
    rw [if_neg (by omega)]
  | succ d ih =>
    intro i h
    refine Ev.step (f := fun k => laws_eqUint64S.l0 k l l ((i + 1 : Nat) : Int)) (fun k => ?_) (ih (i + 1) (by omega))
    rw [laws_eqUint64S.l0]
    rw [if_pos (by omega), if_pos (by omega), if_pos (by omega), if_pos rfl, w64 (by omega) (by omega)]
    rfl
theorem eqUint64S_ev (l : List Int) (hl : l.length ≤ 4000000) : Ev (fun k => laws_eqUint64S.f k l l) true := by
  refine Ev.congr (f := fun k => laws_eqUint64S.l0 k l l ((0 : Nat) : Int)) (fun k => ?_) (eqUint64S_l0 l hl l.length 0 (by omega))
  unfold laws_eqUint64S.f
  rw [if_pos rfl]
  rfl

theorem markIntS_l0 (d : Nat) : ∀ (i : Nat) (l : List Int) (c : Int), l.length ≤ 4000000 → 0 ≤ c → c ≤ 1000000000 + (i : Int) → i + d = l.length → ∃ l', Ev (fun k => laws_markIntS.l0 k l c (i : Int)) (c + (d : Int), l') := by
  induction d with
  | zero =>
    intro i l c hl h0 h1 h
    refine ⟨l, Ev.step (f := fun _ => some _) (fun k => ?_) (Ev.now _)⟩
    rw [laws_markIntS.l0, if_neg (by omega)]
    congr 2
    omega
  | succ d ih =>
    intro i l c hl h0 h1 h
    obtain ⟨l', h'⟩ := ih (i + 1) (l.set i c) (c + 1) (by rw [List.length_set]; omega) (by omega) (by omega) (by rw [List.length_set]; omega)
    refine ⟨l', Ev.step (f := fun k => laws_markIntS.l0 k (l.set i c) (c + 1) ((i + 1 : Nat) : Int)) (fun k => ?_) ?_⟩
    · rw [laws_markIntS.l0, if_pos (by omega), if_pos (by omega), w64 (by omega) (by omega), w64 (by omega) (by omega), Int.toNat_natCast]
      rfl
    · have e : c + ((d + 1 : Nat) : Int) = c + 1 + (d : Int) := by omega
      rw [e]
      exact h'
theorem markIntS_ev (l : List Int) (c : Int) (hl : l.length ≤ 4000000) (h0 : 0 ≤ c) (h1 : c ≤ 1000000000) : ∃ l', Ev (fun k => laws_markIntS.f k l c) (c + (l.length : Int), l') := by
  obtain ⟨l', h⟩ := markIntS_l0 l.length 0 l c hl h0 (by omega) (by omega)
  exact ⟨l', Ev.congr (f := fun k => laws_markIntS.l0 k l c ((0 : Nat) : Int)) (fun _ => rfl) h⟩

-- the statement's marks in a list of numbers, and what is held of them
def marksL (n : Nat) : List Int := (List.range n).map fun (j : Nat) => 1 + (j : Int)
theorem marksL_len (n : Nat) : (marksL n).length = n := by simp [marksL]
theorem marksL_get (n j : Nat) (h : j < n) : (marksL n).getD j 0 = 1 + (j : Int) := by
  rw [lget_lt _ j 0 (by rw [marksL_len]; exact h)]
  simp [marksL]

-- the same in words
theorem markU_l0 (l : List Int) (hl : l.length ≤ 4000000) (d : Nat) : ∀ i : Nat, i + d = l.length → Ev (fun k => laws_markUint64S.l0 k ((marksL l.length).take i ++ l.drop i) (1 + (i : Int)) (i : Int)) (1 + (l.length : Int), marksL l.length) := by
  induction d with
  | zero =>
    intro i h
    obtain rfl : i = l.length := by omega
    refine Ev.step (f := fun _ => some _) (fun k => ?_) (Ev.now _)
    rw [laws_markUint64S.l0, if_neg (by rw [over_len _ _ _ (marksL_len _) (by omega)]; omega), List.drop_length, List.append_nil, List.take_of_length_le (by rw [marksL_len]; omega)]
  | succ d ih =>
    intro i h
    refine Ev.step (f := fun k => laws_markUint64S.l0 k ((marksL l.length).take (i + 1) ++ l.drop (i + 1)) (1 + ((i + 1 : Nat) : Int)) ((i + 1 : Nat) : Int)) (fun k => ?_) (ih (i + 1) (by omega))
    rw [laws_markUint64S.l0, if_pos (by rw [over_len _ _ _ (marksL_len _) (by omega)]; omega), if_pos (by omega), w64 (by omega) (by omega), w64 (by omega) (by omega), Int.toNat_natCast, wu64 (x := 1 + (i : Int)) (by omega) (by omega), over_set (marksL l.length) l 0 _ i (marksL_len _) (by omega) (marksL_get _ _ (by omega)).symm]
    rfl
theorem markU_ev (l : List Int) (hl : l.length ≤ 4000000) : Ev (fun k => laws_markUint64S.f k l 1) (1 + (l.length : Int), marksL l.length) :=
  Ev.congr (f := fun k => laws_markUint64S.l0 k ((marksL l.length).take 0 ++ l.drop 0) (1 + ((0 : Nat) : Int)) ((0 : Nat) : Int)) (fun _ => rfl) (markU_l0 l hl l.length 0 (by omega))
theorem heldU_l0 (n : Nat) (hn : n ≤ 4000000) (d : Nat) : ∀ i : Nat, i + d = n → Ev (fun k => laws_heldUint64S.l0 k (marksL n) (1 + (i : Int)) (i : Int)) (1 + (n : Int)) := by
  have hl := marksL_len n
  induction d with
  | zero =>
    intro i h
    obtain rfl : i = n := by omega
    refine Ev.step (f := fun _ => some _) (fun k => ?_) (Ev.now _)
    rw [laws_heldUint64S.l0, if_neg (by omega)]
  | succ d ih =>
    intro i h
    refine Ev.step (f := fun k => laws_heldUint64S.l0 k (marksL n) (1 + ((i + 1 : Nat) : Int)) ((i + 1 : Nat) : Int)) (fun k => ?_) (ih (i + 1) (by omega))
    rw [laws_heldUint64S.l0, if_pos (by omega), if_pos (by omega), rd_nat, marksL_get _ _ (by omega), wu64 (x := 1 + (i : Int)) (by omega) (by omega), if_pos rfl, w64 (by omega) (by omega), w64 (by omega) (by omega)]
    rfl
theorem heldU_ev (n : Nat) (hn : n ≤ 4000000) : Ev (fun k => laws_heldUint64S.f k (marksL n) 1) (1 + (n : Int)) :=
  Ev.congr (f := fun k => laws_heldUint64S.l0 k (marksL n) (1 + ((0 : Nat) : Int)) ((0 : Nat) : Int)) (fun _ => rfl) (heldU_l0 n hn n 0 (by omega))

theorem resW_length (o : Option (List Int)) (h : ∀ bs, o = some bs → bs.length ≤ 5000) : (resW o).2.1.length ≤ 100 := by
  cases o with
  | none => exact Nat.zero_le _
  | some bs =>
    have := h bs rfl
    show (wordsOf bs).length ≤ 100
    rw [wordsOf, wordsTo_length]
    omega
theorem FnExactHuffWrite : laws_FnExactHuffWrite.Pure := by
  intro l0 l1 _ _ _ _ _ _
  by_cases g0 : (l0.length : Int) > 1048576
  · exact ⟨0, by unfold laws_FnExactHuffWrite.f; rw [if_pos g0]⟩
  by_cases g1 : (l1.length : Int) > 1048576
  · exact ⟨0, by unfold laws_FnExactHuffWrite.f; rw [if_neg g0, if_pos g1]⟩
  obtain ⟨o, ho, hS, hI⟩ := huffWrite_ev l0 l1 (by omega)
  have hlen := resW_length o ho
  generalize resW o = P at hlen hS hI
  obtain ⟨n, ws, b⟩ := P
  have hlen : ws.length ≤ 100 := hlen
  obtain ⟨K1, k1⟩ := ev_out (toIntS_ev l0 (by omega))
  obtain ⟨K2, k2⟩ := ev_out (toIntS_ev l1 (by omega))
  obtain ⟨K3, k3⟩ := ev_out hS
  obtain ⟨K4, k4⟩ := ev_out hI
  have heq : Ev (fun k => laws_eqBits.f k n ws n ws) true := by
    obtain ⟨K, hK⟩ := ev_out (eqUint64S_ev ws (by omega))
    refine ev_mk K fun k hk => ?_
    unfold laws_eqBits.f
    rw [if_pos rfl, hK k hk, Option.bind_some, if_pos rfl]
  obtain ⟨K5, k5⟩ := ev_out heq
  obtain ⟨K6, k6⟩ := ev_out (eqIntS_ev l0 (by omega))
  obtain ⟨K7, k7⟩ := ev_out (eqIntS_ev l1 (by omega))
  obtain ⟨x1, e8⟩ := markIntS_ev l0 1 (by omega) (by omega) (by omega)
  obtain ⟨K8, k8⟩ := ev_out e8
  obtain ⟨x2, e9⟩ := markIntS_ev l1 (1 + (l0.length : Int)) (by omega) (by omega) (by omega)
  obtain ⟨K9, k9⟩ := ev_out e9
  obtain ⟨K10, k10⟩ := ev_out (markU_ev ws (by omega))
  have hhe : Ev (fun k => laws_heldBits.f k n (marksL ws.length) 1) (1 + (ws.length : Int)) := by
    obtain ⟨K, hK⟩ := ev_out (heldU_ev ws.length (by omega))
    refine ev_mk K fun k hk => ?_
    unfold laws_heldBits.f
    rw [hK k hk, Option.bind_some, if_neg (by omega)]
  obtain ⟨K11, k11⟩ := ev_out hhe
  have bb : (b != b) = false := by simp
  refine ⟨K1 + K2 + K3 + K4 + K5 + K6 + K7 + K8 + K9 + K10 + K11 + 3, ?_⟩
  generalize hk : K1 + K2 + K3 + K4 + K5 + K6 + K7 + K8 + K9 + K10 + K11 = k
  unfold laws_FnExactHuffWrite.f
  rw [if_neg g0, if_neg g1, k1 _ (by omega), Option.bind_some, k2 _ (by omega), Option.bind_some, k3 _ (by omega), Option.bind_some, Option.bind_some, Option.bind_some, k4 _ (by omega), Option.bind_some, k5 _ (by omega), Option.bind_some, if_pos rfl]
  show laws_FnExactHuffWrite.j0 (k + 2 + 1) l0 l1 b l0 l1 b (b != b) n ws n ws = some true
  rw [bb, laws_FnExactHuffWrite.j0, if_neg (by decide), k1 _ (by omega), Option.bind_some, k6 _ (by omega), Option.bind_some, if_pos rfl, k2 _ (by omega), Option.bind_some, k7 _ (by omega), Option.bind_some, if_pos rfl, k8 _ (by omega), Option.bind_some, k9 _ (by omega), Option.bind_some, if_neg (by omega), k5 _ (by omega), Option.bind_some, if_pos rfl, bb]
  have hmb : laws_markBits.f (k + 1) n ws 1 = some (1 + (ws.length : Int), marksL ws.length) := by
    unfold laws_markBits.f
    rw [k10 _ (by omega), Option.bind_some]
  rw [laws_FnExactHuffWrite.j1, if_neg (by decide), hmb, Option.bind_some, k11 _ (by omega), Option.bind_some, if_neg (by omega), if_pos rfl, k1 _ (by omega), Option.bind_some, k2 _ (by omega), Option.bind_some, k4 _ (by omega), Option.bind_some, k5 _ (by omega), Option.bind_some, if_pos rfl]
  show laws_FnExactHuffWrite.j2 (k + 1) (1 + (ws.length : Int)) (b != b) n (marksL ws.length) = some true
  rw [bb, laws_FnExactHuffWrite.j2, if_neg (by decide), k11 _ (by omega), Option.bind_some, if_neg (by omega), if_pos rfl]

end Go.Proofs.Ytgjmmegmkdklbaa.Pure
