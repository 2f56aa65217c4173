/- The program's HuffRead returns what the reference's returns, for all arguments (values that hold more than 2^20 numbers are let pass by the statement itself). -/
import Derived.Test.YtgjmmegmkdklbaaQFnExactHuffReadx8
import Derived.Test.YtgjmmegmkdklbaaBase
import Derived.Test.YtgjmmegmkdklbaaBits
import Derived.Test.YtgjmmegmkdklbaaHuff
namespace Go.Proofs.Ytgjmmegmkdklbaa.Pure
open Go.RowKit Go.Proofs.Ytgjmmegmkdklbaa.QFnExactHuffRead Go.Proofs.YtgjmmegmkdklbaaW.PrintWords Go.Proofs.YtgjmmegmkdklbaaW.PrintLast Go.Proofs.YtgjmmegmkdklbaaW.PrintMore
open Go.Proofs.Ytgjmmegmkdklbaa Go.Proofs.Ytgjmmegmkdklbaa.Base Go.Proofs.Ytgjmmegmkdklbaa.Bits Go.Proofs.Ytgjmmegmkdklbaa.Huff
set_option linter.unusedVariables false
set_option linter.unusedSimpArgs false

theorem winc (y : Nat) (h : y ≤ 1000000000) : wrap64 ((y : Int) + 1) = ((y + 1 : Nat) : Int) := w64 (by omega) (by omega)
theorem wadd (a b : Nat) (h : a + b ≤ 9223372036854775807) : wrap64 ((a : Int) + (b : Int)) = ((a + b : Nat) : Int) := w64 (by omega) (by omega)
theorem wnat (a : Nat) (h : a ≤ 9223372036854775807) : wrap64 (a : Int) = (a : Int) := w64 (by omega) (by omega)
theorem wsub60 (x : Int) (h0 : 0 ≤ x) (h1 : x ≤ 60) : wrap64 (60 - x) = ((60 - x.toNat : Nat) : Int) := by
 rw [show 60 - x = ((60 - x.toNat : Nat) : Int) by omega]
 exact w64 (by omega) (by omega)
def okH (l : List Int) : Bool := decide (l.length ≤ 300) && okFrom 0 0 0 l
theorem l02Pow_l0 (m : Nat) : ∀ (a : Nat), a * 2 ^ m < 9223372036854775808 → m ≤ 64 → Ev (fun k => spec_l02Pow.l0 k (m : Int) (a : Int)) ((a * 2 ^ m : Nat) : Int) := by
 induction m with
 | zero =>
  intro a h hm
  refine Ev.step (f := fun _ => some _) (fun k => ?_) (Ev.now _)
  rw [spec_l02Pow.l0, if_neg (by omega), Nat.pow_zero, Nat.mul_one]
 | succ m ih =>
  intro a h hm
  have hp : 0 < 2 ^ m := Nat.two_pow_pos m
  have e : a * 2 ^ (m + 1) = (2 * a) * 2 ^ m := by rw [Nat.pow_succ, Nat.mul_comm (2 ^ m) 2, ← Nat.mul_assoc, Nat.mul_comm a 2]
  rw [e] at h ⊢
  have : 2 * a ≤ (2 * a) * 2 ^ m := Nat.le_mul_of_pos_right _ hp
  refine Ev.step (f := fun k => spec_l02Pow.l0 k (m : Int) ((2 * a : Nat) : Int)) (fun k => ?_) (ih (2 * a) h (by omega))
  rw [spec_l02Pow.l0, if_pos (by omega), w64 (by omega) (by omega), w64 (by omega) (by omega), show ((m + 1 : Nat) : Int) - 1 = (m : Int) by omega]
  rfl
theorem pow62 (m : Nat) (h : m ≤ 62) : 2 ^ m ≤ 4611686018427387904 := Nat.le_trans (Nat.pow_le_pow_right (show 0 < 2 by decide) h) (by decide)
theorem l02Pow_ev (m : Nat) (h : m ≤ 62) : Ev (fun k => spec_l02Pow.f k (m : Int)) ((2 ^ m : Nat) : Int) := by
 have hp := pow62 m h
 have := l02Pow_l0 m 1 (by omega) (by omega)
 rw [Nat.one_mul] at this
 exact this
theorem drop_cons (l : List Int) (i : Nat) (h : i < l.length) : l.drop i = l.getD i 0 :: l.drop (i + 1) := by
 rw [List.drop_eq_getElem_cons h, lget_lt _ _ _ h]
theorem specOk_l0 (l : List Int) (hl : l.length ≤ 300) (d : Nat) : ∀ (i c S : Nat) (last : Int), i + d = l.length → c ≤ i → S ≤ 1152921504606846976 →
  Ev (fun k => spec_HuffOk.l0 k l (c : Int) (S : Int) last (i : Int)) (okFrom c S last (l.drop i)) := by
 obtain ⟨K0, k0⟩ := ev_out (l02Pow_ev 60 (by decide))
 have p60 : (((2 ^ 60 : Nat) : Int)) = 1152921504606846976 := by decide
 rw [p60] at k0
 induction d with
 | zero =>
  intro i c S last hi hc hS
  refine ev_mk (K0 + 1) fun k hk => ?_
  obtain ⟨k, rfl⟩ : ∃ m, k = m + 1 := ⟨k - 1, by omega⟩
  have hd : l.drop i = [] := List.drop_eq_nil_of_le (by omega)
  have hk0 : spec_l02Pow.f k 60 = some 1152921504606846976 := k0 k (by omega)
  have hb : ((S : Int) == (1152921504606846976 : Int)) = decide (S = 1152921504606846976) := by
   rw [Bool.eq_iff_iff, beq_iff_eq, decide_eq_true_iff]
   omega
  rw [spec_HuffOk.l0, if_neg (by omega), hd, okFrom, hk0, Option.bind_some, hb]
  by_cases q : c = 1
  ·rw [if_pos (by omega), if_pos q]
   by_cases z : last = 1
   ·rw [if_pos z, decide_eq_true z, Bool.true_or]
   ·rw [if_neg z, decide_eq_false z, Bool.false_or]
  ·rw [if_neg (by omega), if_neg q]
 | succ d ih =>
  intro i c S last hi hc hS
  have hg : rd l (i : Int) = l.getD i 0 := rd_nat l i
  rw [drop_cons l i (by omega), okFrom]
  generalize hx : l.getD i 0 = x at hg ⊢
  have bad : ∀ k, spec_HuffOk.j1 (k + 1) l (c : Int) (S : Int) last (i : Int) true = some false := by
   intro k
   rw [spec_HuffOk.j1, if_pos rfl]
  by_cases r : x < 0 ∨ 60 < x
  ·rw [if_pos r]
   refine ev_mk 2 fun k hk => ?_
   obtain ⟨k, rfl⟩ : ∃ m, k = m + 2 := ⟨k - 2, by omega⟩
   rw [spec_HuffOk.l0, if_pos (by omega), if_pos (by omega), hg]
   by_cases n : x < 0
   ·rw [if_pos n]; exact bad k
   ·rw [if_neg n, decide_eq_true (by omega)]; exact bad k
  ·rw [if_neg r]
   have hi3 : i ≤ 300 := by omega
   have go : ∀ k, spec_HuffOk.l0 (k + 1) l (c : Int) (S : Int) last (i : Int) = spec_HuffOk.j1 k l (c : Int) (S : Int) last (i : Int) false := by
    intro k
    rw [spec_HuffOk.l0, if_pos (by omega), if_pos (by omega), hg, if_neg (by omega), decide_eq_false (by omega)]
   by_cases q : 0 < x
   ·rw [if_pos q]
    have hw := wt_le x q
    obtain ⟨K1, k1⟩ := ev_out (l02Pow_ev (60 - x.toNat) (by omega))
    have hx0 : 0 ≤ x := by omega
    have hx6 : x ≤ 60 := by omega
    have hsw : S + wt x ≤ 9223372036854775807 := by omega
    have hci : c ≤ 1000 := by omega
    have ept : ((2 ^ (60 - x.toNat) : Nat) : Int) = ((wt x : Nat) : Int) := rfl
    by_cases o : 1152921504606846976 < S + wt x
    ·rw [if_pos o]
     refine ev_mk (K0 + K1 + 2) fun k hk => ?_
     obtain ⟨k, rfl⟩ : ∃ m, k = m + 2 := ⟨k - 2, by omega⟩
     rw [go, spec_HuffOk.j1, if_neg (by decide), if_pos (by omega), if_pos (by omega), hg, if_pos q, wsub60 x hx0 hx6, k1 k (by omega), Option.bind_some, ept]
     have hk0 : spec_l02Pow.f k 60 = some 1152921504606846976 := k0 k (by omega)
     rw [hk0, Option.bind_some, wadd S (wt x) hsw, if_pos (by omega)]
    ·rw [if_neg o]
     obtain ⟨K2, k2⟩ := ev_out (ih (i + 1) (c + 1) (S + wt x) x (by omega) (by omega) (by omega))
     refine ev_mk (K0 + K1 + K2 + 2) fun k hk => ?_
     obtain ⟨k, rfl⟩ : ∃ m, k = m + 2 := ⟨k - 2, by omega⟩
     rw [go, spec_HuffOk.j1, if_neg (by decide), if_pos (by omega), if_pos (by omega), hg, if_pos q, wsub60 x hx0 hx6, k1 k (by omega), Option.bind_some, ept]
     have hk0 : spec_l02Pow.f k 60 = some 1152921504606846976 := k0 k (by omega)
     rw [hk0, Option.bind_some, wadd S (wt x) hsw, if_neg (by omega), winc i (by omega), winc c (by omega)]
     exact k2 k (by omega)
   ·rw [if_neg q]
    obtain ⟨K2, k2⟩ := ev_out (ih (i + 1) c S last (by omega) (by omega) (by omega))
    refine ev_mk (K2 + 2) fun k hk => ?_
    obtain ⟨k, rfl⟩ : ∃ m, k = m + 2 := ⟨k - 2, by omega⟩
    rw [go, spec_HuffOk.j1, if_neg (by decide), if_pos (by omega), if_pos (by omega), hg, if_neg q, winc i (by omega)]
    exact k2 k (by omega)
theorem specHuffOk_ev (l : List Int) : Ev (fun k => spec_HuffOk.f k l) (okH l) := by
 by_cases h : (l.length : Int) > 300
 ·refine Ev.congr (f := fun _ => some false) (fun k => ?_) ?_
  ·unfold spec_HuffOk.f
   rw [if_pos h]
  ·rw [okH, decide_eq_false (by omega), Bool.false_and]
   exact Ev.now _
 ·refine Ev.congr (fun k => ?_) ?_ (f := fun k => spec_HuffOk.l0 k l ((0 : Nat) : Int) ((0 : Nat) : Int) 0 ((0 : Nat) : Int))
  ·unfold spec_HuffOk.f
   rw [if_neg h]
   rfl
  ·rw [okH, decide_eq_true (by omega), Bool.true_and]
   exact specOk_l0 l (by omega) l.length 0 0 0 0 (by omega) (by omega) (by omega)
theorem shl_nat (a m : Nat) (h : m ≤ 62) : shl .i64 (a : Int) (m : Int) = wrap64 ((a * 2 ^ m : Nat) : Int) := by
 unfold shl
 rw [Int.toNat_natCast, show min m IntKind.i64.bits = m by show min m 64 = m; omega, i64_w]
 simp
theorem max_l0 (l : List Int) (hl : l.length ≤ 1000000) (d : Nat) : ∀ (i : Nat) (m : Int), i + d = l.length → m ∈ l → (∀ j, j < i → l.getD j 0 ≤ m) → ∃ r, Ev (fun k => slices_Max_int_int.l0 k l m (i : Int)) r ∧ r ∈ l ∧ ∀ j, j < l.length → l.getD j 0 ≤ r := by
 induction d with
 | zero =>
  intro i m hi hm hj
  refine ⟨m, Ev.step (f := fun _ => some _) (fun k => ?_) (Ev.now _), hm, fun j h => hj j (by omega)⟩
  rw [slices_Max_int_int.l0, if_neg (by omega)]
 | succ d ih =>
  intro i m hi hm hj
  have hmem : l.getD i 0 ∈ l := by rw [lget_lt _ _ _ (by omega)]; exact List.getElem_mem _
  have hmx : mx m (l.getD i 0) ∈ l ∧ m ≤ mx m (l.getD i 0) ∧ l.getD i 0 ≤ mx m (l.getD i 0) := by
   unfold mx
   split
   ·refine ⟨by first | exact hm | exact hmem, ?_, ?_⟩ <;> omega
   ·refine ⟨by first | exact hm | exact hmem, ?_, ?_⟩ <;> omega
  obtain ⟨r, hr, h2, h3⟩ := ih (i + 1) (mx m (l.getD i 0)) (by omega) hmx.1 (fun j h => by
   by_cases q : j = i
   ·rw [q]; exact hmx.2.2
   ·exact Int.le_trans (hj j (by omega)) hmx.2.1)
  refine ⟨r, Ev.step (fun k => ?_) hr, h2, h3⟩
  rw [slices_Max_int_int.l0, if_pos (by omega), if_pos (by omega), rd_nat, w64 (by omega) (by omega)]
  rfl
theorem max_ev (l : List Int) (hl : l.length ≤ 1000000) (h0 : 1 ≤ l.length) : ∃ r, Ev (fun k => slices_Max_int_int.f k l) r ∧ r ∈ l ∧ ∀ x ∈ l, x ≤ r := by
 have hmem : l.getD 0 0 ∈ l := by rw [lget_lt _ _ _ (by omega)]; exact List.getElem_mem _
 obtain ⟨r, hr, h2, h3⟩ := max_l0 l hl (l.length - 1) 1 (l.getD 0 0) (by omega) hmem (fun j h => by rw [show j = 0 by omega]; exact Int.le_refl _)
 refine ⟨r, Ev.congr (fun k => ?_) hr, h2, fun x hx => ?_⟩
 ·unfold slices_Max_int_int.f
  rw [if_neg (by omega), if_pos (by omega), show rd l 0 = l.getD 0 0 from rd_nat l 0]
  rfl
 ·obtain ⟨j, hj, e⟩ := List.getElem_of_mem hx
  have := h3 j hj
  rw [lget_lt _ _ _ hj, e] at this
  exact this
def fin (m : Int) (p : Nat × Nat) : Bool := if p.2 = 1152921504606846976 then true else if p.1 = 1 then m == 1 else false
theorem inRange_get {l : List Int} (h : inRange l = true) (i : Nat) (hi : i < l.length) : 0 ≤ l.getD i 0 ∧ l.getD i 0 ≤ 60 := by
 rw [lget_lt _ _ _ hi]
 have := List.all_eq_true.1 h _ (List.getElem_mem hi)
 exact of_decide_eq_true this
theorem implOk_l0 (l : List Int) (hl : l.length ≤ 300) (hr : inRange l = true) (m : Int) (hm : 1 ≤ l.length → Ev (fun k => slices_Max_int_int.f k l) m) (d : Nat) : ∀ (i c S : Nat), i + d = l.length → c ≤ i → S ≤ 1152921504606846977 →
  Ev (fun k => impl_HuffOk.l0 k l (c : Int) (S : Int) l (l.length : Int) (i : Int)) (fin m (okSat c S (l.drop i))) := by
 induction d with
 | zero =>
  intro i c S hi hc hS
  have hd : l.drop i = [] := List.drop_eq_nil_of_le (by omega)
  rw [hd, okSat, fin]
  by_cases q : S = 1152921504606846976
  ·rw [if_pos q]
   refine Ev.step (f := fun _ => some _) (fun k => ?_) (Ev.now _)
   rw [impl_HuffOk.l0, if_neg (by omega), if_pos (by omega)]
  ·rw [if_neg q]
   by_cases z : c = 1
   ·rw [if_pos z]
    obtain ⟨K, hK⟩ := ev_out (hm (by omega))
    refine ev_mk (K + 1) fun k hk => ?_
    obtain ⟨k, rfl⟩ : ∃ m, k = m + 1 := ⟨k - 1, by omega⟩
    rw [impl_HuffOk.l0, if_neg (by omega), if_neg (by omega), if_pos (by omega), hK k (by omega), Option.bind_some]
   ·rw [if_neg z]
    refine Ev.step (f := fun _ => some _) (fun k => ?_) (Ev.now _)
    rw [impl_HuffOk.l0, if_neg (by omega), if_neg (by omega), if_neg (by omega)]
 | succ d ih =>
  intro i c S hi hc hS
  have hg : rd l (i : Int) = l.getD i 0 := rd_nat l i
  have hx := inRange_get hr i (by omega)
  rw [drop_cons l i (by omega), okSat]
  generalize l.getD i 0 = x at hg hx ⊢
  by_cases q : 0 < x
  ·rw [if_pos q]
   have hw := wt_le x q
   have hsw : S + wt x ≤ 9223372036854775807 := by omega
   have es : shl .i64 1 ((60 - x.toNat : Nat) : Int) = ((wt x : Nat) : Int) := by
    have this := shl_nat 1 (60 - x.toNat) (by omega)
    rw [Nat.one_mul] at this
    refine Eq.trans this ?_
    show wrap64 ((wt x : Nat) : Int) = _
    exact wnat _ (by clear this; omega)
   have em : mn ((S + wt x : Nat) : Int) 1152921504606846977 = ((min (S + wt x) 1152921504606846977 : Nat) : Int) := by
    clear es
    unfold mn
    split <;> omega
   refine Ev.step (fun k => ?_) (ih (i + 1) (c + 1) (min (S + wt x) 1152921504606846977) (by clear es em; omega) (by clear es em; omega) (by clear es em; omega))
   rw [impl_HuffOk.l0, if_pos (by clear es em; omega), if_pos (by clear es em; omega), if_pos (by clear es em; omega), hg, if_pos q, wsub60 x hx.1 hx.2, if_pos (Int.natCast_nonneg _), es, wadd S (wt x) hsw, em, winc i (by clear es em; omega), winc c (by clear es em; omega)]
  ·rw [if_neg q]
   refine Ev.step (fun k => ?_) (ih (i + 1) c S (by omega) (by omega) hS)
   rw [impl_HuffOk.l0, if_pos (by omega), if_pos (by omega), if_pos (by omega), hg, if_neg q, winc i (by omega)]
theorem implHuffOk_ev (l : List Int) : Ev (fun k => impl_HuffOk.f k l) (okH l) := by
 have bad : okH l = false → Ev (fun k => impl_HuffOk.j0 k l true) (okH l) := by
  intro h
  refine Ev.step (f := fun _ => some _) (fun k => ?_) (Ev.now _)
  rw [impl_HuffOk.j0, if_pos rfl, h]
 by_cases h : (l.length : Int) > 300
 ·refine Ev.congr (fun k => ?_) (bad (by rw [okH, decide_eq_false (by omega), Bool.false_and]))
  unfold impl_HuffOk.f
  rw [if_pos h]
 have hall : l.all Fv.p67 = inRange l := rfl
 have hml : l.length ≤ maxLen := by unfold maxLen; omega
 have hok : okH l = (inRange l && (decide (kraft l = 1152921504606846976) || (decide (npos l = 1) && decide (lastp 0 l = 1)))) := by
  rw [okH, decide_eq_true (by omega), Bool.true_and, okFrom_eq l 0 0 0 (by omega) (fun _ => rfl), Nat.zero_add, Nat.zero_add]
 by_cases r : inRange l = true
 case neg =>
  have r' : inRange l = false := by simpa using r
  refine Ev.congr (fun k => ?_) (bad (by rw [hok, r', Bool.false_and]))
  unfold impl_HuffOk.f impl_areAll_67.f
  rw [if_neg h, if_pos hml, Option.bind_some, hall, r']
  rfl
 have key : ∃ m, (1 ≤ l.length → Ev (fun k => slices_Max_int_int.f k l) m) ∧ fin m (okSat 0 0 l) = okH l := by
  have hs := okSat_eq l 0 0 (by omega)
  rw [Nat.zero_add, Nat.zero_add] at hs
  rw [hs, hok, r, Bool.true_and]
  by_cases z : 1 ≤ l.length
  ·obtain ⟨m, h1, h2, h3⟩ := max_ev l (by omega) z
   refine ⟨m, fun _ => h1, ?_⟩
   unfold fin
   show (if min (kraft l) 1152921504606846977 = 1152921504606846976 then true else if npos l = 1 then m == 1 else false) = _
   by_cases q : kraft l = 1152921504606846976
   ·rw [if_pos (by omega), decide_eq_true q, Bool.true_or]
   ·rw [if_neg (by omega), decide_eq_false q, Bool.false_or]
    by_cases p : npos l = 1
    ·rw [if_pos p, decide_eq_true p, Bool.true_and, max_lastp l m p h2 h3]
     rw [Bool.eq_iff_iff, beq_iff_eq, decide_eq_true_iff]
    ·rw [if_neg p, decide_eq_false p, Bool.false_and]
  ·obtain rfl : l = [] := List.eq_nil_of_length_eq_zero (by omega)
   exact ⟨0, fun h => absurd h z, by decide⟩
 obtain ⟨m, hm, hf⟩ := key
 have := implOk_l0 l (by omega) r m hm l.length 0 0 0 (by omega) (by omega) (by omega)
 rw [List.drop_zero, hf] at this
 have hj : Ev (fun k => impl_HuffOk.j0 k l false) (okH l) := by
  refine Ev.step (fun k => ?_) this
  rw [impl_HuffOk.j0, if_neg (by decide)]
  rfl
 refine Ev.congr (fun k => ?_) hj
 unfold impl_HuffOk.f impl_areAll_67.f
 rw [if_neg h, if_pos hml, Option.bind_some, hall, r]
 rfl
def Good (l out : List Int) : Prop := out.length = l.length ∧ ∀ x ∈ out, 0 ≤ x ∧ x < 1152921504606846976
def before (nxt last : Nat) : Int := if last = 0 then 0 else (nxt : Int) - 1
theorem Good.set {l out : List Int} (h : Good l out) (i : Nat) (v : Int) (h0 : 0 ≤ v) (h1 : v < 1152921504606846976) : Good l (out.set i v) := by
 refine ⟨by rw [List.length_set]; exact h.1, fun x hx => ?_⟩
 rcases List.mem_or_eq_of_mem_set hx with hx | rfl
 ·exact h.2 x hx
 ·exact ⟨h0, h1⟩
theorem codes_l1 (l : List Int) (hl : l.length ≤ 300) (K : Nat) (hK : K ≤ 1152921504606846976) (L : Nat) (hL : 1 ≤ L) (hL2 : L ≤ 60)
  (next : ∀ (out : List Int) (nxt last : Nat), Good l out → last ≤ L → (last = 0 ↔ nxt = 0) → nxt * 2 ^ (60 - last) + kEq ((L + 1 : Nat) : Int) l + kGt ((L + 1 : Nat) : Int) l = K →
   ∃ res, Ev (fun k => spec_HuffCodes.l0 k l (before nxt last) (last : Int) ((L + 1 : Nat) : Int) out) res ∧ Ev (fun k => impl_huffCodes.l0 k l (nxt : Int) (last : Int) ((L + 1 : Nat) : Int) out) res ∧ Good l res)
  (d : Nat) : ∀ (i : Nat) (out : List Int) (nxt last : Nat), i + d = l.length → Good l out → last ≤ L → (last = 0 ↔ nxt = 0) → nxt * 2 ^ (60 - last) + kEq (L : Int) (l.drop i) + kGt (L : Int) l = K →
   ∃ res, Ev (fun k => spec_HuffCodes.l1 k l (before nxt last) (last : Int) (L : Int) (i : Int) out) res ∧ Ev (fun k => impl_huffCodes.l1 k l (nxt : Int) (last : Int) (L : Int) out l (l.length : Int) (i : Int)) res ∧ Good l res := by
 induction d with
 | zero =>
  intro i out nxt last hi hg hla hz hp
  have hd : l.drop i = [] := List.drop_eq_nil_of_le (by omega)
  rw [hd, kEq, kGt_step] at hp
  obtain ⟨res, h1, h2, h3⟩ := next out nxt last hg hla hz (by rw [show ((L + 1 : Nat) : Int) = (L : Int) + 1 by omega]; omega)
  have e1 : wrap64 ((L : Int) + 1) = ((L + 1 : Nat) : Int) := w64 (by clear hp; omega) (by clear hp; omega)
  refine ⟨res, Ev.step (fun k => ?_) h1, Ev.step (fun k => ?_) h2, h3⟩
  ·rw [spec_HuffCodes.l1, if_neg (by clear hp e1; omega), e1]
  ·rw [impl_huffCodes.l1, if_neg (by clear hp e1; omega), e1]
 | succ d ih =>
  intro i out nxt last hi hg hla hz hp
  have hrd : rd l (i : Int) = l.getD i 0 := rd_nat l i
  have hlen := hg.1
  have e1 : wrap64 ((i : Int) + 1) = ((i + 1 : Nat) : Int) := w64 (by clear hp; omega) (by clear hp; omega)
  rw [kEq_drop (L : Int) l i (by clear hp; omega)] at hp
  have c1 : (i : Int) < (l.length : Int) := by clear hp e1; omega
  have c2 : (0 : Int) ≤ (i : Int) := Int.natCast_nonneg _
  have c3 : (i : Int) < (out.length : Int) := by clear hp e1; omega
  by_cases q : l.getD i 0 = (L : Int)
  ·rw [if_pos q, q] at hp
   have hwt : wt (L : Int) = 2 ^ (60 - L) := by unfold wt; rw [Int.toNat_natCast]
   have hpw : nxt * 2 ^ (60 - last) = nxt * 2 ^ (L - last) * 2 ^ (60 - L) := by rw [Nat.mul_assoc, ← Nat.pow_add, show L - last + (60 - L) = 60 - last by clear hp e1; omega]
   have hn : (nxt * 2 ^ (L - last) + 1) * 2 ^ (60 - L) = nxt * 2 ^ (60 - last) + 2 ^ (60 - L) := by rw [Nat.add_mul, Nat.one_mul, ← hpw]
   have hle : nxt * 2 ^ (L - last) + 1 ≤ (nxt * 2 ^ (L - last) + 1) * 2 ^ (60 - L) := Nat.le_mul_of_pos_right _ (Nat.two_pow_pos _)
   generalize hN : nxt * 2 ^ (L - last) = N at hn hle hpw
   have hNb : N + 1 ≤ 1152921504606846976 := by clear e1 hN hpw; omega
   have hg' : Good l (out.set i (N : Int)) := hg.set i _ (by clear hp e1; omega) (by clear hp e1; omega)
   have hb' : before (N + 1) L = (N : Int) := by unfold before; rw [if_neg (by clear hp e1; omega)]; clear hp e1; omega
   obtain ⟨res, h1, h2, h3⟩ := ih (i + 1) (out.set i (N : Int)) (N + 1) L (by clear hp e1; omega) hg' (Nat.le_refl _) (by clear hp e1; omega) (by clear e1 hN hpw; omega)
   have eL : wrap64 ((L : Int) - (last : Int)) = ((L - last : Nat) : Int) := by rw [w64 (by clear hp e1; omega) (by clear hp e1; omega)]; clear hp e1; omega
   have eN : wrap64 (N : Int) = (N : Int) := w64 (by clear hp e1 eL; omega) (by clear hp e1 eL; omega)
   refine ⟨res, ?_, ?_, h3⟩
   ·obtain ⟨K1, k1⟩ := ev_out h1
    obtain ⟨K2, k2⟩ := ev_out (l02Pow_ev (L - last) (by clear hp e1 eL eN; omega))
    refine ev_mk (K1 + K2 + 1) fun k hk => ?_
    obtain ⟨k, rfl⟩ : ∃ m, k = m + 1 := ⟨k - 1, by clear hp e1 eL eN; omega⟩
    have k1' := k1 k (by clear hp e1 eL eN; omega)
    rw [hb'] at k1'
    rw [spec_HuffCodes.l1, if_pos c1, if_pos c2, hrd, if_pos q]
    by_cases z : last = 0
    ·have hn0 : nxt = 0 := hz.1 z
     have hN0 : N = 0 := by rw [← hN, hn0, Nat.zero_mul]
     have hbf : before nxt last = (N : Int) := by unfold before; rw [if_pos z, hN0]; rfl
     rw [if_neg (by clear hp e1 eL eN; omega), if_pos c3, hbf, Int.toNat_natCast, e1]
     exact k1'
    ·have hbf : before nxt last = (nxt : Int) - 1 := by unfold before; rw [if_neg z]
     have hnx : nxt ≤ N := by rw [← hN]; exact Nat.le_mul_of_pos_right _ (Nat.two_pow_pos _)
     have eM : wrap64 (wrap64 ((nxt : Int) - 1 + 1) * ((2 ^ (L - last) : Nat) : Int)) = (N : Int) := by
      rw [show (nxt : Int) - 1 + 1 = (nxt : Int) by clear hp e1 eL eN; omega, w64 (x := (nxt : Int)) (by clear hp e1 eL eN; omega) (by clear hp e1 eL eN; omega), ← Int.natCast_mul, hN, eN]
     rw [if_pos (by clear hp e1 eL eN eM; omega), eL, k2 k (by clear hp e1 eL eN eM; omega), Option.bind_some, if_pos c3, hbf, eM, Int.toNat_natCast, e1]
     exact k1'
   ·refine Ev.step (fun k => ?_) h2
    have eS : shl .i64 (nxt : Int) ((L - last : Nat) : Int) = (N : Int) := by
     rw [shl_nat _ _ (by clear hp e1 eL eN; omega), hN, eN]
    have eT : wrap64 ((N : Int) + 1) = ((N + 1 : Nat) : Int) := w64 (by clear hp e1 eL eN eS; omega) (by clear hp e1 eL eN eS; omega)
    rw [impl_huffCodes.l1, if_pos c1, if_pos c2, if_pos c1, hrd, if_pos q, eL, if_pos (Int.natCast_nonneg _), if_pos c3, eS, eT, e1, Int.toNat_natCast]
  ·rw [if_neg q, Nat.zero_add] at hp
   obtain ⟨res, h1, h2, h3⟩ := ih (i + 1) out nxt last (by clear hp e1; omega) hg hla hz hp
   refine ⟨res, Ev.step (fun k => ?_) h1, Ev.step (fun k => ?_) h2, h3⟩
   ·rw [spec_HuffCodes.l1, if_pos c1, if_pos c2, hrd, if_neg q, e1]
   ·rw [impl_huffCodes.l1, if_pos c1, if_pos c2, if_pos c1, hrd, if_neg q, e1]
theorem codes_l0 (l : List Int) (hl : l.length ≤ 300) (K : Nat) (hK : K ≤ 1152921504606846976) (d : Nat) : ∀ (L : Nat) (out : List Int) (nxt last : Nat), L + d = 61 → 1 ≤ L → Good l out → last ≤ L → (last = 0 ↔ nxt = 0) →
  nxt * 2 ^ (60 - last) + kEq (L : Int) l + kGt (L : Int) l = K →
   ∃ res, Ev (fun k => spec_HuffCodes.l0 k l (before nxt last) (last : Int) (L : Int) out) res ∧ Ev (fun k => impl_huffCodes.l0 k l (nxt : Int) (last : Int) (L : Int) out) res ∧ Good l res := by
 induction d with
 | zero =>
  intro L out nxt last hd h1 hg hla hz hp
  refine ⟨out, Ev.step (f := fun _ => some _) (fun k => ?_) (Ev.now _), Ev.step (f := fun _ => some _) (fun k => ?_) (Ev.now _), hg⟩
  ·rw [spec_HuffCodes.l0, if_neg (by clear hp; omega)]
  ·rw [impl_huffCodes.l0, if_neg (by clear hp; omega)]
 | succ d ih =>
  intro L out nxt last hd h1 hg hla hz hp
  obtain ⟨res, a, b, c⟩ := codes_l1 l hl K hK L h1 (by clear hp; omega) (fun out' nxt' last' g' hl' z' p' => ih (L + 1) out' nxt' last' (by clear hp p'; omega) (by clear hp p'; omega) g' (by clear hp p'; omega) z' p')
   l.length 0 out nxt last (by clear hp; omega) hg hla hz (by rw [List.drop_zero]; exact hp)
  refine ⟨res, Ev.step (fun k => ?_) a, Ev.step (fun k => ?_) b, c⟩
  ·rw [spec_HuffCodes.l0, if_pos (by clear hp; omega)]
   rfl
  ·rw [impl_huffCodes.l0, if_pos (by clear hp; omega)]
   rfl
theorem okH_out {l : List Int} (h : okH l = true) : l.length ≤ 300 ∧ inRange l = true ∧ kraft l ≤ 1152921504606846976 := by
 rw [okH, Bool.and_eq_true, decide_eq_true_iff] at h
 obtain ⟨h1, h2⟩ := h
 rw [okFrom_eq l 0 0 0 (by omega) (fun _ => rfl), Bool.and_eq_true, Bool.or_eq_true, Bool.and_eq_true, decide_eq_true_iff, decide_eq_true_iff, Nat.zero_add, Nat.zero_add] at h2
 refine ⟨h1, h2.1, ?_⟩
 rcases h2.2 with q | q
 ·omega
 ·exact Nat.le_trans (kraft_one l q.1) (by decide)
theorem codes_ev (l : List Int) (ok : okH l = true) : ∃ res, Ev (fun k => spec_HuffCodes.f k l) res ∧ Ev (fun k => impl_huffCodes.f k l) res ∧ Good l res := by
 obtain ⟨hl, hr, hk⟩ := okH_out ok
 have hg : Good l (List.replicate l.length 0) := ⟨List.length_replicate .., fun x hx => by rw [(List.mem_replicate.1 hx).2]; exact ⟨by decide, by decide⟩⟩
 obtain ⟨res, a, b, c⟩ := codes_l0 l hl (kraft l) hk 60 1 (List.replicate l.length 0) 0 0 rfl (by decide) hg (by decide) ⟨fun _ => rfl, fun _ => rfl⟩ (by
  rw [Nat.zero_mul, Nat.zero_add, kraft_gt, kGt_step 0]; rfl)
 refine ⟨res, ?_, ?_, c⟩
 ·obtain ⟨K1, k1⟩ := ev_out (specHuffOk_ev l)
  obtain ⟨K2, k2⟩ := ev_out a
  refine ev_mk (K1 + K2) fun k hk => ?_
  unfold spec_HuffCodes.f
  rw [k1 k (by omega), Option.bind_some, if_pos ok, if_pos (by omega), Int.toNat_natCast, if_pos (by omega)]
  exact k2 k (by omega)
 ·refine Ev.congr (fun k => ?_) b
  unfold impl_huffCodes.f
  rw [if_pos (by omega), Int.toNat_natCast, if_pos (by omega)]
  rfl
def codeBits (c : Nat) : Nat → List Int
 | 0 => []
 | n + 1 => ((c / 2 ^ n % 2 : Nat) : Int) :: codeBits c n
theorem codeBits_length (c n : Nat) : (codeBits c n).length = n := by
 induction n with
 | zero => rfl
 | succ n ih => rw [codeBits, List.length_cons, ih]
theorem codeBits_01 (c n : Nat) : ∀ x ∈ codeBits c n, x = 0 ∨ x = 1 := by
 induction n with
 | zero => intro x hx; exact absurd hx (by simp [codeBits])
 | succ n ih =>
  intro x hx
  rw [codeBits] at hx
  rcases List.mem_cons.1 hx with rfl | hx
  ·omega
  ·exact ih x hx
theorem l08Code_l0 (c : Nat) (hc : c < 1152921504606846976) (m : Nat) (hm : m ≤ 60) : ∀ acc : List Int, acc.length + m ≤ 1000000 → Ev (fun k => spec_l08Code.l0 k (c : Int) acc ((m : Int) - 1)) (acc ++ codeBits c m) := by
 induction m with
 | zero =>
  intro acc ha
  refine Ev.step (f := fun _ => some _) (fun k => ?_) (Ev.now _)
  rw [spec_l08Code.l0, if_neg (by omega), codeBits, List.append_nil]
 | succ m ih =>
  intro acc ha
  obtain ⟨K1, k1⟩ := ev_out (l02Pow_ev m (by omega))
  obtain ⟨K2, k2⟩ := ev_out (ih (by omega) (acc ++ [((c / 2 ^ m % 2 : Nat) : Int)]) (by rw [List.length_append]; simp; omega))
  refine ev_mk (K1 + K2 + 1) fun k hk => ?_
  obtain ⟨k, rfl⟩ : ∃ m, k = m + 1 := ⟨k - 1, by omega⟩
  have hp : 0 < 2 ^ m := Nat.two_pow_pos m
  have hd : c / 2 ^ m ≤ c := Nat.div_le_self _ _
  have e : Int.tmod (wrap64 (Int.tdiv (c : Int) ((2 ^ m : Nat) : Int))) 2 = ((c / 2 ^ m % 2 : Nat) : Int) := by
   rw [show Int.tdiv (c : Int) ((2 ^ m : Nat) : Int) = ((c / 2 ^ m : Nat) : Int) from rfl, wnat (c / 2 ^ m) (Nat.le_trans hd (by omega))]
   rfl
  have e2 : ((m + 1 : Nat) : Int) - 1 = (m : Int) := by omega
  rw [e2, spec_l08Code.l0, if_pos (by omega), k1 k (by omega), Option.bind_some, if_neg (by clear e; omega), if_pos (by clear e; omega), e, w64 (by clear e; omega) (by clear e; omega), codeBits]
  have this := k2 k (by clear e; omega)
  rw [List.append_assoc, List.singleton_append] at this
  exact this
theorem l08Code_ev (c : Nat) (hc : c < 1152921504606846976) (m : Nat) (hm : m ≤ 60) : Ev (fun k => spec_l08Code.f k (c : Int) (m : Int)) (codeBits c m) := by
 have := l08Code_l0 c hc m hm [] (by simp; omega)
 rw [List.nil_append] at this
 refine Ev.congr (fun k => ?_) this
 unfold spec_l08Code.f
 rw [w64 (by omega) (by omega)]
def GoodP (l out : List Int) : Prop := out.length = l.length ∧ ∀ x ∈ out, 0 ≤ x ∧ x < 1152921504606846976
theorem GoodP.set {l out : List Int} (h : GoodP l out) (i : Nat) (v : Int) (h0 : 0 ≤ v) (h1 : v < 1152921504606846976) : GoodP l (out.set i v) := by
 refine ⟨by rw [List.length_set]; exact h.1, fun x hx => ?_⟩
 rcases List.mem_or_eq_of_mem_set hx with hx | rfl
 ·exact h.2 x hx
 ·exact ⟨h0, h1⟩
def wl (l : List Int) (j : Nat) : Nat := 2 ^ (60 - (l.getD j 0).toNat)
def st (l out : List Int) (j : Nat) : Nat := (out.getD j 0).toNat * wl l j
def Dn (l : List Int) (L i j : Nat) : Prop := 0 < l.getD j 0 ∧ (l.getD j 0 < (L : Int) ∨ (l.getD j 0 = (L : Int) ∧ j < i))
structure Inv (l out : List Int) (L i S : Nat) : Prop where
 good : GoodP l out
 ends : ∀ j, j < l.length → Dn l L i j → st l out j + wl l j ≤ S
 apart : ∀ j k, j < l.length → k < l.length → Dn l L i j → Dn l L i k → j ≠ k → st l out j + wl l j ≤ st l out k ∨ st l out k + wl l k ≤ st l out j
theorem st_set_ne (l out : List Int) (i j : Nat) (v : Int) (h : i ≠ j) : st l (out.set i v) j = st l out j := by unfold st; rw [lset_ne _ _ _ _ _ h]
theorem Inv.skip {l out : List Int} {L i S : Nat} (h : Inv l out L i S) (hne : l.getD i 0 ≠ (L : Int)) : Inv l out L (i + 1) S := by
 have e : ∀ j, Dn l L (i + 1) j → Dn l L i j := fun j ⟨h0, h1⟩ => ⟨h0, by
  rcases h1 with h1 | ⟨h1, h2⟩
  ·exact .inl h1
  ·refine .inr ⟨h1, ?_⟩
   by_cases ej : j = i
   ·rw [ej] at h1; exact absurd h1 hne
   ·omega⟩
 exact ⟨h.good, fun j hj hd => h.ends j hj (e j hd), fun j k hj hk dj dk hne => h.apart j k hj hk (e j dj) (e k dk) hne⟩
theorem Inv.put {l out : List Int} {L i S N : Nat} (h : Inv l out L i S) (hi : i < l.length) (he : l.getD i 0 = (L : Int)) (hL : L ≤ 60) (hN : N * 2 ^ (60 - L) = S) (hb : N < 1152921504606846976) : Inv l (out.set i (N : Int)) L (i + 1) (S + 2 ^ (60 - L)) := by
 have hlen := h.good.1
 have hw : wl l i = 2 ^ (60 - L) := by unfold wl; rw [he, Int.toNat_natCast]
 have hs : st l (out.set i (N : Int)) i = S := by
  unfold st
  rw [lset_self _ _ _ _ (by omega), hw, Int.toNat_natCast, hN]
 have e : ∀ j, j ≠ i → Dn l L (i + 1) j → Dn l L i j := fun j hj ⟨h0, h1⟩ => ⟨h0, by
  rcases h1 with h1 | ⟨h1, h2⟩
  ·exact .inl h1
  ·exact .inr ⟨h1, by omega⟩⟩
 refine ⟨h.good.set i _ (by omega) (by omega), fun j hj hd => ?_, fun j k hj hk dj dk hne => ?_⟩
 ·by_cases ej : j = i
  ·subst ej; rw [hs, hw]; exact Nat.le_refl _
  ·rw [st_set_ne _ _ _ _ _ (fun h => ej h.symm)]
   exact Nat.le_trans (h.ends j hj (e j ej hd)) (Nat.le_add_right _ _)
 ·by_cases ej : j = i
  ·have ek : k ≠ i := fun h => hne (by rw [ej, h])
   subst ej
   rw [hs, st_set_ne _ _ _ _ _ (fun h => ek h.symm)]
   exact .inr (h.ends k hk (e k ek dk))
  ·by_cases ek : k = i
   ·subst ek
    rw [hs, st_set_ne _ _ _ _ _ (fun h => ej h.symm)]
    exact .inl (h.ends j hj (e j ej dj))
   ·rw [st_set_ne _ _ _ _ _ (fun h => ej h.symm), st_set_ne _ _ _ _ _ (fun h => ek h.symm)]
    exact h.apart j k hj hk (e j ej dj) (e k ek dk) hne
theorem Inv.next {l out : List Int} {L S : Nat} (h : Inv l out L l.length S) : Inv l out (L + 1) 0 S := by
 have e : ∀ j, j < l.length → Dn l (L + 1) 0 j → Dn l L l.length j := fun j hj ⟨h0, h1⟩ => ⟨h0, by
  rcases h1 with h1 | ⟨_, h2⟩
  ·by_cases ej : l.getD j 0 = (L : Int)
   ·exact .inr ⟨ej, hj⟩
   ·exact .inl (by omega)
  ·omega⟩
 exact ⟨h.good, fun j hj hd => h.ends j hj (e j hj hd), fun j k hj hk dj dk hne => h.apart j k hj hk (e j hj dj) (e k hk dk) hne⟩
theorem codes2_l1 (l : List Int) (hl : l.length ≤ 300) (K : Nat) (hK : K ≤ 1152921504606846976) (L : Nat) (hL : 1 ≤ L) (hL2 : L ≤ 60)
  (next : ∀ (out : List Int) (nxt last : Nat), Inv l out (L + 1) 0 (nxt * 2 ^ (60 - last)) → last ≤ L → nxt * 2 ^ (60 - last) + kEq ((L + 1 : Nat) : Int) l + kGt ((L + 1 : Nat) : Int) l = K →
   ∃ res S, Ev (fun k => impl_huffCodes.l0 k l (nxt : Int) (last : Int) ((L + 1 : Nat) : Int) out) res ∧ (Inv l res 61 0 S ∧ S ≤ 1152921504606846976))
  (d : Nat) : ∀ (i : Nat) (out : List Int) (nxt last : Nat), i + d = l.length → Inv l out L i (nxt * 2 ^ (60 - last)) → last ≤ L → nxt * 2 ^ (60 - last) + kEq (L : Int) (l.drop i) + kGt (L : Int) l = K →
   ∃ res S, Ev (fun k => impl_huffCodes.l1 k l (nxt : Int) (last : Int) (L : Int) out l (l.length : Int) (i : Int)) res ∧ (Inv l res 61 0 S ∧ S ≤ 1152921504606846976) := by
 induction d with
 | zero =>
  intro i out nxt last hi hg hla hp
  obtain rfl : i = l.length := by clear hp; omega
  rw [List.drop_length, kEq, kGt_step] at hp
  obtain ⟨res, S, h2, h3⟩ := next out nxt last hg.next hla (by rw [show ((L + 1 : Nat) : Int) = (L : Int) + 1 by omega]; omega)
  have e1 : wrap64 ((L : Int) + 1) = ((L + 1 : Nat) : Int) := w64 (by clear hp; omega) (by clear hp; omega)
  refine ⟨res, S, Ev.step (fun k => ?_) h2, h3⟩
  rw [impl_huffCodes.l1, if_neg (by clear hp e1; omega), e1]
 | succ d ih =>
  intro i out nxt last hi hg hla hp
  have hrd : rd l (i : Int) = l.getD i 0 := rd_nat l i
  have hlen := hg.good.1
  have e1 : wrap64 ((i : Int) + 1) = ((i + 1 : Nat) : Int) := w64 (by clear hp; omega) (by clear hp; omega)
  rw [kEq_drop (L : Int) l i (by clear hp; omega)] at hp
  have c1 : (i : Int) < (l.length : Int) := by clear hp e1; omega
  have c2 : (0 : Int) ≤ (i : Int) := Int.natCast_nonneg _
  have c3 : (i : Int) < (out.length : Int) := by clear hp e1; omega
  by_cases q : l.getD i 0 = (L : Int)
  ·rw [if_pos q, q] at hp
   have hwt : wt (L : Int) = 2 ^ (60 - L) := by unfold wt; rw [Int.toNat_natCast]
   have hpw : nxt * 2 ^ (60 - last) = nxt * 2 ^ (L - last) * 2 ^ (60 - L) := by rw [Nat.mul_assoc, ← Nat.pow_add, show L - last + (60 - L) = 60 - last by clear hp e1; omega]
   have hn : (nxt * 2 ^ (L - last) + 1) * 2 ^ (60 - L) = nxt * 2 ^ (60 - last) + 2 ^ (60 - L) := by rw [Nat.add_mul, Nat.one_mul, ← hpw]
   have hle : nxt * 2 ^ (L - last) + 1 ≤ (nxt * 2 ^ (L - last) + 1) * 2 ^ (60 - L) := Nat.le_mul_of_pos_right _ (Nat.two_pow_pos _)
   generalize hN : nxt * 2 ^ (L - last) = N at hn hle hpw
   have hNb : N + 1 ≤ 1152921504606846976 := by clear e1 hN hpw; omega
   have hg' := hg.put (by clear hp e1; omega) q hL2 hpw.symm (by clear hp e1; omega)
   rw [← hn] at hg'
   obtain ⟨res, S, h2, h3⟩ := ih (i + 1) (out.set i (N : Int)) (N + 1) L (by clear hp e1; omega) hg' (Nat.le_refl _) (by clear e1 hN hpw hg'; omega)
   have eL : wrap64 ((L : Int) - (last : Int)) = ((L - last : Nat) : Int) := by rw [w64 (by clear hp e1; omega) (by clear hp e1; omega)]; clear hp e1; omega
   have eN : wrap64 (N : Int) = (N : Int) := w64 (by clear hp e1 eL; omega) (by clear hp e1 eL; omega)
   refine ⟨res, S, ?_, h3⟩
   refine Ev.step (fun k => ?_) h2
   have eS : shl .i64 (nxt : Int) ((L - last : Nat) : Int) = (N : Int) := by
    rw [shl_nat _ _ (by clear hp e1 eL eN; omega), hN, eN]
   have eT : wrap64 ((N : Int) + 1) = ((N + 1 : Nat) : Int) := w64 (by clear hp e1 eL eN eS; omega) (by clear hp e1 eL eN eS; omega)
   rw [impl_huffCodes.l1, if_pos c1, if_pos c2, if_pos c1, hrd, if_pos q, eL, if_pos (Int.natCast_nonneg _), if_pos c3, eS, eT, e1, Int.toNat_natCast]
  ·rw [if_neg q, Nat.zero_add] at hp
   obtain ⟨res, S, h2, h3⟩ := ih (i + 1) out nxt last (by clear hp e1; omega) (hg.skip q) hla hp
   refine ⟨res, S, Ev.step (fun k => ?_) h2, h3⟩
   rw [impl_huffCodes.l1, if_pos c1, if_pos c2, if_pos c1, hrd, if_neg q, e1]
theorem codes2_l0 (l : List Int) (hl : l.length ≤ 300) (K : Nat) (hK : K ≤ 1152921504606846976) (d : Nat) : ∀ (L : Nat) (out : List Int) (nxt last : Nat), L + d = 61 → 1 ≤ L → Inv l out L 0 (nxt * 2 ^ (60 - last)) → last ≤ L →
  nxt * 2 ^ (60 - last) + kEq (L : Int) l + kGt (L : Int) l = K → ∃ res S, Ev (fun k => impl_huffCodes.l0 k l (nxt : Int) (last : Int) (L : Int) out) res ∧ (Inv l res 61 0 S ∧ S ≤ 1152921504606846976) := by
 induction d with
 | zero =>
  intro L out nxt last hd h1 hg hla hp
  obtain rfl : L = 61 := by clear hp; omega
  refine ⟨out, _, Ev.step (f := fun _ => some _) (fun k => ?_) (Ev.now _), hg, by omega⟩
  rw [impl_huffCodes.l0, if_neg (by decide)]
 | succ d ih =>
  intro L out nxt last hd h1 hg hla hp
  obtain ⟨res, S, b, c⟩ := codes2_l1 l hl K hK L h1 (by clear hp; omega) (fun out' nxt' last' g' hl' p' => ih (L + 1) out' nxt' last' (by clear hp p'; omega) (by clear hp p'; omega) g' (by clear hp p'; omega) p')
   l.length 0 out nxt last (by clear hp; omega) hg hla (by rw [List.drop_zero]; exact hp)
  refine ⟨res, S, Ev.step (fun k => ?_) b, c⟩
  rw [impl_huffCodes.l0, if_pos (by clear hp; omega)]
  rfl
theorem codes2_ev (l : List Int) (ok : okH l = true) : ∃ res S, Ev (fun k => impl_huffCodes.f k l) res ∧ (Inv l res 61 0 S ∧ S ≤ 1152921504606846976) := by
 obtain ⟨hl, hr, hk⟩ := okH_out ok
 have hg : GoodP l (List.replicate l.length 0) := ⟨List.length_replicate .., fun x hx => by rw [(List.mem_replicate.1 hx).2]; exact ⟨by decide, by decide⟩⟩
 have hno : ∀ j, ¬ Dn l 1 0 j := fun j ⟨h0, h1⟩ => by rcases h1 with h1 | ⟨_, h1⟩ <;> omega
 obtain ⟨res, S, b, c⟩ := codes2_l0 l hl (kraft l) hk 60 1 (List.replicate l.length 0) 0 0 rfl (by decide) ⟨hg, fun j _ hd => absurd hd (hno j), fun j k _ _ hd _ _ => absurd hd (hno j)⟩ (by decide) (by
  rw [Nat.zero_mul, Nat.zero_add, kraft_gt, kGt_step 0]; rfl)
 refine ⟨res, S, Ev.congr (fun k => ?_) b, c⟩
 unfold impl_huffCodes.f
 rw [if_pos (by omega), Int.toNat_natCast, if_pos (by omega)]
 rfl
theorem no_prefix {l res : List Int} {S : Nat} (h : (Inv l res 61 0 S ∧ S ≤ 1152921504606846976)) (hr : inRange l = true) (i j : Nat) (hi : i < l.length) (hj : j < l.length) (hne : i ≠ j) (h0 : 0 < l.getD i 0) (hle : l.getD i 0 ≤ l.getD j 0) :
  (res.getD j 0).toNat / 2 ^ ((l.getD j 0).toNat - (l.getD i 0).toNat) ≠ (res.getD i 0).toNat := by
 intro he
 obtain ⟨a1, a2⟩ := inRange_get hr i hi
 obtain ⟨b1, b2⟩ := inRange_get hr j hj
 have hap := h.1.apart i j hi hj ⟨h0, .inl (by omega)⟩ ⟨by omega, .inl (by omega)⟩ hne
 unfold st wl at hap
 obtain ⟨p, hp⟩ := Int.eq_ofNat_of_zero_le a1
 obtain ⟨q, hq⟩ := Int.eq_ofNat_of_zero_le b1
 rw [hp, hq, Int.toNat_natCast, Int.toNat_natCast] at hap he
 have e : 2 ^ (60 - p) = 2 ^ (q - p) * 2 ^ (60 - q) := by rw [← Nat.pow_add, show q - p + (60 - q) = 60 - p by omega]
 rw [e] at hap
 generalize (res.getD j 0).toNat = c at hap he
 generalize (res.getD i 0).toNat = f at hap he
 have hA := Nat.two_pow_pos (q - p)
 have hB := Nat.two_pow_pos (60 - q)
 generalize 2 ^ (q - p) = A at hap he hA
 generalize 2 ^ (60 - q) = B at hap hB
 have hd := Nat.div_add_mod c A
 have hm := Nat.mod_lt c hA
 rw [he] at hd
 have h1 : f * (A * B) ≤ c * B := by
  rw [← Nat.mul_assoc]
  exact Nat.mul_le_mul_right B (by rw [Nat.mul_comm f A]; omega)
 have h2 : c * B + B ≤ f * (A * B) + A * B := by
  have e3 : f * (A * B) + A * B = (f * A + A) * B := by rw [Nat.add_mul, Nat.mul_assoc]
  have e4 : c * B + B = (c + 1) * B := by rw [Nat.succ_mul]
  rw [e3, e4]
  exact Nat.mul_le_mul_right B (by rw [Nat.mul_comm f A]; omega)
 generalize f * (A * B) = X at hap h1 h2
 generalize c * B = Y at hap h1 h2
 generalize A * B = Z at hap h2
 omega
theorem wu64 {x : Int} (h0 : 0 ≤ x) (h1 : x < 18446744073709551616) : IntKind.u64.wrap x = x := by
 simp [IntKind.wrap, IntKind.bits, IntKind.signed]
 omega
theorem td64 (i : Nat) : Int.tdiv (i : Int) 64 = ((i / 64 : Nat) : Int) := rfl
theorem tm64 (i : Nat) : Int.tmod (i : Int) 64 = ((i % 64 : Nat) : Int) := rfl
theorem td2 (i : Nat) : Int.tdiv (i : Int) 2 = ((i / 2 : Nat) : Int) := rfl
theorem tm2 (i : Nat) : Int.tmod (i : Int) 2 = ((i % 2 : Nat) : Int) := rfl
def Words (ws : List Int) : Prop := ∀ x ∈ ws, 0 ≤ x ∧ x < 2 ^ 64
theorem Words.get {ws : List Int} (h : Words ws) (j : Nat) (hj : j < ws.length) : ∃ a : Nat, ws.getD j 0 = (a : Int) ∧ a < 18446744073709551616 := by
 have := h _ (List.getElem_mem hj)
 rw [← lget_lt ws j 0 hj] at this
 refine ⟨(ws.getD j 0).toNat, by omega, by omega⟩
theorem bitAt_nat {ws : List Int} {i a : Nat} (h : ws.getD (i / 64) 0 = (a : Int)) : bitAt ws i = ((a / 2 ^ (i % 64) % 2 : Nat) : Int) := by
 unfold bitAt
 rw [h]
 simp
theorem l01List_l1 (n : Int) (ws : List Int) (m : Nat) (hm : m ≤ 64) : ∀ (l : List Int) (i a : Nat) (r : List Int), l.length ≤ 1000000 → i ≤ 1000000 → a < 18446744073709551616 →
  Ev (fun k => spec_l01List.l0 k (l ++ [((a / 2 ^ m % 2 : Nat) : Int)]) ((i + 1 : Nat) : Int) n ws) r → Ev (fun k => spec_l01List.l1 k l (i : Int) (a : Int) (m : Int) n ws) r := by
 induction m with
 | zero =>
  intro l i a r hl hi ha hr
  refine Ev.step (f := fun k => spec_l01List.l0 k (l ++ [((a / 2 ^ 0 % 2 : Nat) : Int)]) ((i + 1 : Nat) : Int) n ws) (fun k => ?_) hr
  rw [spec_l01List.l1, if_neg (by omega), if_pos (by omega), tm2, w64 (by omega) (by omega), w64 (by omega) (by omega), Nat.pow_zero, Nat.div_one]
  rfl
 | succ m ih =>
  intro l i a r hl hi ha hr
  refine Ev.step (f := fun k => spec_l01List.l1 k l (i : Int) ((a / 2 : Nat) : Int) (m : Int) n ws) (fun k => ?_) (ih (by omega) l i (a / 2) r hl hi (by omega) ?_)
  ·rw [spec_l01List.l1, if_pos (by omega), td2, wu64 (by omega) (by omega), w64 (by omega) (by omega), show ((m + 1 : Nat) : Int) - 1 = (m : Int) by omega]
  ·rw [Nat.div_div_eq_div_mul, Nat.mul_comm, ← Nat.pow_succ]
   exact hr
theorem l01List_l0 (n : Nat) (ws : List Int) (hw : Words ws) (hn : n ≤ 64 * ws.length) (h5 : n ≤ 5000) (d : Nat) : ∀ i : Nat, i + d = n → Ev (fun k => spec_l01List.l0 k (bitsL i ws) (i : Int) (n : Int) ws) (bitsL n ws) := by
 induction d with
 | zero =>
  intro i h
  obtain rfl : i = n := by omega
  refine Ev.step (f := fun _ => some _) (fun k => ?_) (Ev.now _)
  rw [spec_l01List.l0, if_neg (by omega)]
 | succ d ih =>
  intro i h
  obtain ⟨a, ea, ha⟩ := hw.get (i / 64) (by omega)
  refine Ev.step (f := fun k => spec_l01List.l1 k (bitsL i ws) (i : Int) (a : Int) ((i % 64 : Nat) : Int) (n : Int) ws) (fun k => ?_) (l01List_l1 (n : Int) ws (i % 64) (by omega) _ i a _ (by rw [bitsL_length]; omega) (by omega) ha ?_)
  ·rw [spec_l01List.l0, if_pos (by omega), td64, w64 (by omega) (by omega), if_pos (by omega), if_pos (by omega), rd_nat, ea, tm64]
  ·rw [← bitAt_nat ea, ← bitsL_succ]
   exact ih (i + 1) (by omega)
theorem l01List_ev (n : Nat) (ws : List Int) (hw : Words ws) (hn : n ≤ 64 * ws.length) (h5 : n ≤ 5000) : Ev (fun k => spec_l01List.f k (n : Int) ws) (bitsL n ws) :=
 Ev.congr (f := fun k => spec_l01List.l0 k (bitsL 0 ws) ((0 : Nat) : Int) (n : Int) ws) (fun _ => rfl) (l01List_l0 n ws hw hn h5 n 0 (by omega))
theorem l01Power_l0 (m : Nat) : ∀ (a : Nat), a * 2 ^ m < 18446744073709551616 → m ≤ 64 → Ev (fun k => spec_l01Power.l0 k (m : Int) (a : Int)) ((a * 2 ^ m : Nat) : Int) := by
 induction m with
 | zero =>
  intro a h hm
  refine Ev.step (f := fun _ => some _) (fun k => ?_) (Ev.now _)
  rw [spec_l01Power.l0, if_neg (by omega), Nat.pow_zero, Nat.mul_one]
 | succ m ih =>
  intro a h hm
  have hp : 0 < 2 ^ m := Nat.two_pow_pos m
  have e : a * 2 ^ (m + 1) = (2 * a) * 2 ^ m := by rw [Nat.pow_succ, Nat.mul_comm (2 ^ m) 2, ← Nat.mul_assoc, Nat.mul_comm a 2]
  rw [e] at h ⊢
  have : 2 * a ≤ (2 * a) * 2 ^ m := Nat.le_mul_of_pos_right _ hp
  refine Ev.step (f := fun k => spec_l01Power.l0 k (m : Int) ((2 * a : Nat) : Int)) (fun k => ?_) (ih (2 * a) h (by omega))
  rw [spec_l01Power.l0, if_pos (by omega), w64 (by omega) (by omega), wu64 (by omega) (by omega), show ((m + 1 : Nat) : Int) - 1 = (m : Int) by omega]
  rfl
theorem pow64 (m : Nat) (h : m < 64) : 2 ^ m < 18446744073709551616 := Nat.pow_lt_pow_right (a := 2) (n := 64) (by decide) h
theorem pow64i (m : Nat) (h : m ≤ 64) : (2 : Int) ^ m ≤ 18446744073709551616 := by
 have : 2 ^ m ≤ 2 ^ 64 := Nat.pow_le_pow_right (by decide) h
 have e : (2 : Int) ^ m = ((2 ^ m : Nat) : Int) := by simp
 omega
theorem l01Power_ev (m : Nat) (h : m < 64) : Ev (fun k => spec_l01Power.f k (m : Int)) ((2 : Int) ^ m) := by
 have := l01Power_l0 m 1 (by rw [Nat.one_mul]; exact pow64 m h) (by omega)
 rw [Nat.one_mul] at this
 rw [show (2 : Int) ^ m = ((2 ^ m : Nat) : Int) by simp]
 exact this
theorem bitsOf_j2 (l : List Int) (hb : ∀ i, i < l.length → l.getD i 0 = 0 ∨ l.getD i 0 = 1) (h5 : l.length ≤ 5000) (i : Nat) (hi : i < l.length) (r : Int × List Int × Bool)
  (hr : Ev (fun k => spec_BitsOf.l0 k l ((i + 1 : Nat) : Int) (l.length : Int) (wordsTo l (i + 1) (i / 64 + 1))) r) : Ev (fun k => spec_BitsOf.j2 k l (i : Int) (l.length : Int) (wordsTo l i (i / 64 + 1))) r := by
 have e1 : wrap64 ((i : Int) + 1) = ((i + 1 : Nat) : Int) := w64 (by omega) (by omega)
 rcases hb i hi with q | q
 ·refine Ev.step (f := fun k => spec_BitsOf.l0 k l ((i + 1 : Nat) : Int) (l.length : Int) (wordsTo l (i + 1) (i / 64 + 1))) (fun k => ?_) hr
  rw [spec_BitsOf.j2, if_pos (by omega), if_pos (by omega), rd_nat, q, if_neg (by decide), e1, wordsTo_skip l i _ q]
 ·obtain ⟨K1, h1⟩ := ev_out (l01Power_ev (i % 64) (by omega))
  obtain ⟨K2, h2⟩ := ev_out hr
  refine ev_mk (K1 + K2 + 1) fun k hk => ?_
  obtain ⟨k, rfl⟩ : ∃ m, k = m + 1 := ⟨k - 1, by omega⟩
  have hlen := wordsTo_length l i (i / 64 + 1)
  have hbd := wordAt_bound l hb i (i / 64) (by omega)
  rw [show min 64 (i - 64 * (i / 64)) = i % 64 by omega] at hbd
  have hp := pow64i (i % 64 + 1) (by omega)
  rw [Int.pow_succ] at hp
  rw [spec_BitsOf.j2, if_pos (by omega), if_pos (by omega), rd_nat, q, if_pos rfl, td64, tm64, w64 (by omega) (by omega), if_pos (by omega), if_pos (by rw [hlen]; omega), h1 k (by omega), Option.bind_some, e1, rd_nat, wordsTo_get _ _ _ _ (by omega),
   wu64 (by have := two_pos (i % 64); omega) (by omega), Int.toNat_natCast, wordsTo_set l i _ _ (by omega) (by rw [q, Int.one_mul])]
  exact h2 k (by omega)
theorem bitsOf_l0 (l : List Int) (hb : ∀ i, i < l.length → l.getD i 0 = 0 ∨ l.getD i 0 = 1) (h5 : l.length ≤ 5000) (d : Nat) : ∀ i : Nat, i + d = l.length →
  Ev (fun k => spec_BitsOf.l0 k l (i : Int) (l.length : Int) (wordsTo l i ((i + 63) / 64))) ((l.length : Int), wordsOf l, true) := by
 induction d with
 | zero =>
  intro i h
  obtain rfl : i = l.length := by omega
  refine Ev.step (f := fun _ => some _) (fun k => ?_) (Ev.now _)
  rw [spec_BitsOf.l0, if_neg (by omega)]
  rfl
 | succ d ih =>
  intro i h
  have hr := bitsOf_j2 l hb h5 i (by omega) _ (by have := ih (i + 1) (by omega); rwa [show (i + 1 + 63) / 64 = i / 64 + 1 by omega] at this)
  have hj : Ev (fun k => spec_BitsOf.j1 k l (i : Int) false (l.length : Int) (wordsTo l i ((i + 63) / 64))) ((l.length : Int), wordsOf l, true) := by
   refine Ev.step (fun k => ?_) hr
   rw [spec_BitsOf.j1, if_neg (by decide), tm64]
   by_cases q : i % 64 = 0
   ·rw [if_pos (by omega), if_pos (by rw [wordsTo_length]; omega), wordsTo_more l i q]
   ·rw [if_neg (by omega), show (i + 63) / 64 = i / 64 + 1 by omega]
  refine Ev.step (fun k => ?_) hj
  rw [spec_BitsOf.l0, if_pos (by omega), if_pos (by omega), rd_nat]
  rcases hb i (by omega) with q | q
  ·rw [q, if_pos rfl]
  ·rw [q, if_neg (by decide)]
   rfl
theorem specBitsOf_ev (l : List Int) (hb : ∀ i, i < l.length → l.getD i 0 = 0 ∨ l.getD i 0 = 1) (h5 : l.length ≤ 5000) : Ev (fun k => spec_BitsOf.f k l) ((l.length : Int), wordsOf l, true) := by
 refine Ev.congr (f := fun k => spec_BitsOf.l0 k l ((0 : Nat) : Int) (l.length : Int) (wordsTo l 0 ((0 + 63) / 64))) (fun k => ?_) (bitsOf_l0 l hb h5 l.length 0 (by omega))
 unfold spec_BitsOf.f
 rw [if_neg (by omega)]
 rfl
/-- Whether words are the words of a list of n bits. -/
def okB (n : Int) (ws : List Int) : Bool := decide (0 ≤ n ∧ n ≤ 5000 ∧ ws.length = (n.toNat + 63) / 64 ∧ wordsOf (bitsL n.toNat ws) = ws)
theorem bitsL_get01 (n : Nat) (ws : List Int) : ∀ i, i < (bitsL n ws).length → (bitsL n ws).getD i 0 = 0 ∨ (bitsL n ws).getD i 0 = 1 := by
 intro i hi
 rw [bitsL_length] at hi
 rw [bitsL_get _ _ _ hi]
 exact bitAt_01 ws i
theorem specBitsOk_l0 (n : Int) (ws : List Int) (m : Int) (ys : List Int) (hl : ws.length = ys.length) (h5 : ws.length ≤ 1000000) (d : Nat) : ∀ i : Nat, i + d = ws.length → ws.take i = ys.take i → Ev (fun k => spec_BitsOk.l0 k (i : Int) n ws m ys) (decide (ys = ws)) := by
 induction d with
 | zero =>
  intro i h he
  refine Ev.step (f := fun _ => some _) (fun k => ?_) (Ev.now _)
  rw [List.take_of_length_le (by omega), List.take_of_length_le (by omega)] at he
  rw [spec_BitsOk.l0, if_neg (by omega), decide_eq_true he.symm]
 | succ d ih =>
  intro i h he
  by_cases q : ws.getD i 0 = ys.getD i 0
  ·refine Ev.step (f := fun k => spec_BitsOk.l0 k ((i + 1 : Nat) : Int) n ws m ys) (fun k => ?_) (ih (i + 1) (by omega) ?_)
   ·rw [spec_BitsOk.l0, if_pos (by omega), if_pos (by omega), if_pos (by omega), rd_nat, rd_nat, if_pos q, w64 (by omega) (by omega)]
    rfl
   ·rw [take_succ_getD ws 0 i (by omega), take_succ_getD ys 0 i (by omega), he, q]
  ·refine Ev.step (f := fun _ => some _) (fun k => ?_) (Ev.now _)
   rw [spec_BitsOk.l0, if_pos (by omega), if_pos (by omega), if_pos (by omega), rd_nat, rd_nat, if_neg q, decide_eq_false]
   intro e
   exact q (by rw [e])
theorem specBitsOk_ev (n : Int) (ws : List Int) (hw : Words ws) (hl : ws.length ≤ 4000000) (hn : -9223372036854775808 ≤ n) : Ev (fun k => spec_BitsOk.f k n ws) (okB n ws) := by
 by_cases h0 : n < 0
 ·refine Ev.congr (f := fun k => spec_BitsOk.j0 k true n ws) (fun k => ?_) (Ev.step (f := fun _ => some _) (fun k => ?_) (Ev.now _))
  ·unfold spec_BitsOk.f
   rw [if_pos h0]
  ·rw [spec_BitsOk.j0, if_pos rfl, okB, decide_eq_false (by omega)]
 by_cases h1 : n > 5000
 ·refine Ev.congr (f := fun k => spec_BitsOk.j0 k true n ws) (fun k => ?_) (Ev.step (f := fun _ => some _) (fun k => ?_) (Ev.now _))
  ·unfold spec_BitsOk.f
   rw [if_neg h0, if_pos h1]
  ·rw [spec_BitsOk.j0, if_pos rfl, okB, decide_eq_false (by omega)]
 obtain ⟨n, rfl⟩ := Int.eq_ofNat_of_zero_le (show 0 ≤ n by omega)
 have e : wrap64 (Int.tdiv (wrap64 ((n : Int) + 63)) 64) = (((n + 63) / 64 : Nat) : Int) := by
  rw [w64 (x := (n : Int) + 63) (by omega) (by omega), show (n : Int) + 63 = ((n + 63 : Nat) : Int) by omega, td64, w64 (by omega) (by omega)]
 have key : Ev (fun k => spec_BitsOk.j0 k ((ws.length : Int) != (((n + 63) / 64 : Nat) : Int)) (n : Int) ws) (okB (n : Int) ws) := by
  by_cases q : ws.length = (n + 63) / 64
  ·have hn' : n ≤ 64 * ws.length := by omega
   obtain ⟨K1, k1⟩ := ev_out (l01List_ev n ws hw hn' (by omega))
   obtain ⟨K2, k2⟩ := ev_out (specBitsOf_ev (bitsL n ws) (bitsL_get01 n ws) (by rw [bitsL_length]; omega))
   have hlen : (wordsOf (bitsL n ws)).length = ws.length := by rw [wordsOf, wordsTo_length, bitsL_length, q]
   obtain ⟨K3, k3⟩ := ev_out (specBitsOk_l0 (n : Int) ws ((bitsL n ws).length : Int) (wordsOf (bitsL n ws)) hlen.symm (by omega) ws.length 0 (by omega) rfl)
   refine ev_mk (K1 + K2 + K3 + 1) fun k hk => ?_
   obtain ⟨k, rfl⟩ : ∃ m, k = m + 1 := ⟨k - 1, by omega⟩
   rw [spec_BitsOk.j0, if_neg (by rw [bne_iff_ne, q]; simp), k1 k (by omega), Option.bind_some, k2 k (by omega), Option.bind_some]
   show spec_BitsOk.l0 k ((0 : Nat) : Int) (n : Int) ws ((bitsL n ws).length : Int) (wordsOf (bitsL n ws)) = _
   rw [k3 k (by omega), okB, Int.toNat_natCast]
   congr 1
   exact decide_eq_decide.2 ⟨fun h => ⟨by omega, by omega, q, h⟩, fun h => h.2.2.2⟩
  ·refine Ev.step (f := fun _ => some _) (fun k => ?_) (Ev.now _)
   rw [spec_BitsOk.j0, if_pos (by rw [bne_iff_ne]; omega), okB, decide_eq_false (by rw [Int.toNat_natCast]; exact fun h => q h.2.2.1)]
 refine Ev.congr (fun k => ?_) key
 unfold spec_BitsOk.f
 rw [if_neg h0, if_neg h1, e]
theorem and1 (a : Nat) (h : a < 18446744073709551616) : Go.bits .and .u64 (a : Int) 1 = ((a % 2 : Nat) : Int) := by
 have := bits_mask .u64 64 (by decide) (fun n h0 h1 => wu64 h0 (by omega)) 1 (by decide) (a : Int) (by omega) (by omega)
 rw [show ((2 : Int) ^ 1 - 1) = 1 by decide] at this
 rw [this]
 omega
theorem shr_nat (a m : Nat) (h : m < 64) : shr .u64 (a : Int) ((m : Nat) : Int) = ((a / 2 ^ m : Nat) : Int) := by
 unfold shr
 rw [Int.toNat_natCast, show min m IntKind.u64.bits = m by show min m 64 = m; omega]
 simp
theorem at_ev (n : Int) (ws : List Int) (hw : Words ws) (i : Nat) (hi : i < 64 * ws.length) (h5 : i ≤ 1000000) : impl_Bits_at.f n ws (i : Int) = some (bitAt ws i) := by
 obtain ⟨a, ea, ha⟩ := hw.get (i / 64) (by omega)
 have hd : a / 2 ^ (i % 64) ≤ a := Nat.div_le_self _ _
 unfold impl_Bits_at.f
 rw [td64, tm64, w64 (by omega) (by omega), if_pos (by omega), if_pos (by omega), if_pos (by omega), rd_nat, ea, shr_nat _ _ (by omega), and1 _ (by omega), w64 (by omega) (by omega), bitAt_nat ea]
theorem list_l0 (n : Nat) (ws : List Int) (hw : Words ws) (hn : n ≤ 64 * ws.length) (h5 : n ≤ 5000) (d : Nat) : ∀ i : Nat, i + d = n → Ev (fun k => impl_Bits_list.l0 k (bitsL i ws) (n : Int) (i : Int) (n : Int) ws) (bitsL n ws) := by
 induction d with
 | zero =>
  intro i h
  obtain rfl : i = n := by omega
  refine Ev.step (f := fun _ => some _) (fun k => ?_) (Ev.now _)
  rw [impl_Bits_list.l0, if_neg (by omega)]
 | succ d ih =>
  intro i h
  refine Ev.step (fun k => ?_) (ih (i + 1) (by omega))
  rw [impl_Bits_list.l0, if_pos (by omega), at_ev _ _ hw i (by omega) (by omega), Option.bind_some, if_pos (by rw [bitsL_length]; omega), w64 (by omega) (by omega), bitsL_succ]
  rfl
theorem list_ev (n : Nat) (ws : List Int) (hw : Words ws) (hn : n ≤ 64 * ws.length) (h5 : n ≤ 5000) : Ev (fun k => impl_Bits_list.f k (n : Int) ws) (bitsL n ws) :=
 Ev.congr (f := fun k => impl_Bits_list.l0 k (bitsL 0 ws) (n : Int) ((0 : Nat) : Int) (n : Int) ws) (fun _ => rfl) (list_l0 n ws hw hn h5 n 0 (by omega))
theorem implBitsOk_ev (n : Int) (ws : List Int) (hw : Words ws) (hl : ws.length ≤ 4000000) (hn : -9223372036854775808 ≤ n) : impl_BitsOk.f n ws = some (okB n ws) := by
 unfold impl_BitsOk.f impl_within.f
 by_cases h0 : 0 ≤ n
 case neg =>
  rw [if_neg h0, Option.bind_some, if_neg (by decide), okB, decide_eq_false (by omega)]
 rw [if_pos h0, Option.bind_some]
 by_cases h1 : n ≤ 5000
 case neg =>
  rw [decide_eq_false h1, if_neg (by decide), okB, decide_eq_false (by omega)]
 rw [decide_eq_true h1, if_pos rfl]
 obtain ⟨n, rfl⟩ := Int.eq_ofNat_of_zero_le h0
 have e : wrap64 (Int.tdiv (wrap64 ((wrap64 ((n : Int) + 64)) - 1)) 64) = (((n + 63) / 64 : Nat) : Int) := by
  rw [w64 (x := (n : Int) + 64) (by omega) (by omega), w64 (x := (n : Int) + 64 - 1) (by omega) (by omega), show (n : Int) + 64 - 1 = ((n + 63 : Nat) : Int) by omega, td64, w64 (by omega) (by omega)]
 rw [e]
 by_cases q : ws.length = (n + 63) / 64
 case neg =>
  rw [if_neg (by omega), okB, decide_eq_false (by rw [Int.toNat_natCast]; exact fun h => q h.2.2.1)]
 rw [if_pos (by omega), tm64]
 have W := wordsOf_bits n ws hw q
 have fin : ∀ b : Bool, (b = true ↔ (n % 64 = 0 ∨ ws.getD (ws.length - 1) 0 / 2 ^ (n % 64) = 0)) → some b = some (okB (n : Int) ws) := by
  intro b hb
  congr 1
  rw [Bool.eq_iff_iff, hb, ← W, okB, decide_eq_true_iff, Int.toNat_natCast]
  exact ⟨fun h => ⟨by omega, by omega, q, h⟩, fun h => h.2.2.2⟩
 by_cases z : n % 64 = 0
 ·rw [if_pos (by omega)]
  exact fin true ⟨fun _ => .inl z, fun _ => rfl⟩
 ·obtain ⟨a, ea, ha⟩ := hw.get (ws.length - 1) (by omega)
  rw [if_neg (by omega), w64 (by omega) (by omega), if_pos (by omega), if_pos (by omega), if_pos (by omega), show (ws.length : Int) - 1 = ((ws.length - 1 : Nat) : Int) by omega, rd_nat, ea, shr_nat _ _ (by omega)]
  refine fin _ ?_
  rw [beq_iff_eq, ea]
  constructor
  ·intro h
   right
   have : ((a : Int) / 2 ^ (n % 64)) = ((a / 2 ^ (n % 64) : Nat) : Int) := by simp
   rw [this]
   exact h
  ·rintro (h | h)
   ·exact absurd h z
   ·have : ((a : Int) / 2 ^ (n % 64)) = ((a / 2 ^ (n % 64) : Nat) : Int) := by simp
    rw [this] at h
    exact h
theorem toIntS_l0 (l : List Int) (hl : l.length ≤ 4000000) (d : Nat) : ∀ i : Nat, i + d = l.length → Ev (fun k => laws_toIntS.l0 k l (i : Int) (l.take i ++ List.replicate d 0)) l := by
 induction d with
 | zero =>
  intro i h
  refine Ev.step (f := fun _ => some l) (fun k => ?_) (Ev.now l)
  rw [laws_toIntS.l0]
  rw [if_neg (by omega), List.take_of_length_le (by omega)]
  simp
 | succ d ih =>
  intro i h
  refine Ev.step (f := fun k => laws_toIntS.l0 k l ((i + 1 : Nat) : Int) (l.take (i + 1) ++ List.replicate d 0)) (fun k => ?_) (ih (i + 1) (by omega))
  rw [laws_toIntS.l0]
  rw [if_pos (by omega), if_pos (by omega), if_pos (by rw [fill_length l 0 i (d + 1) h]; omega), w64 (by omega) (by omega), rd_nat, Int.toNat_natCast, fill_set l 0 _ i d h rfl]
  rfl
theorem toIntS_ev (l : List Int) (hl : l.length ≤ 4000000) : Ev (fun k => laws_toIntS.f k l) l := by
 refine Ev.congr (f := fun k => laws_toIntS.l0 k l ((0 : Nat) : Int) (l.take 0 ++ List.replicate l.length 0)) (fun k => ?_) (toIntS_l0 l hl l.length 0 (by omega))
 unfold laws_toIntS.f
 rw [if_pos (by omega), Int.toNat_natCast, if_pos (by omega)]
 rfl
theorem eqIntS_l0 (l : List Int) (hl : l.length ≤ 4000000) (d : Nat) : ∀ i : Nat, i + d = l.length → Ev (fun k => laws_eqIntS.l0 k l l (i : Int)) true := by
 induction d with
 | zero =>
  intro i h
  refine Ev.step (f := fun _ => some true) (fun k => ?_) (Ev.now true)
  rw [laws_eqIntS.l0]
  rw [if_neg (by omega)]
 | succ d ih =>
  intro i h
  refine Ev.step (f := fun k => laws_eqIntS.l0 k l l ((i + 1 : Nat) : Int)) (fun k => ?_) (ih (i + 1) (by omega))
  rw [laws_eqIntS.l0]
  rw [if_pos (by omega), if_pos (by omega), if_pos (by omega), if_pos rfl, w64 (by omega) (by omega)]
  rfl
theorem eqIntS_ev (l : List Int) (hl : l.length ≤ 4000000) : Ev (fun k => laws_eqIntS.f k l l) true := by
 refine Ev.congr (f := fun k => laws_eqIntS.l0 k l l ((0 : Nat) : Int)) (fun k => ?_) (eqIntS_l0 l hl l.length 0 (by omega))
 unfold laws_eqIntS.f
 rw [if_pos rfl]
 rfl
theorem toUint64S_l0 (l : List Int) (hl : l.length ≤ 4000000) (d : Nat) : ∀ i : Nat, i + d = l.length → Ev (fun k => laws_toUint64S.l0 k l (i : Int) (l.take i ++ List.replicate d 0)) l := by
 induction d with
 | zero =>
  intro i h
  refine Ev.step (f := fun _ => some l) (fun k => ?_) (Ev.now l)
  rw [laws_toUint64S.l0]
  rw [if_neg (by omega), List.take_of_length_le (by omega)]
  simp
 | succ d ih =>
  intro i h
  refine Ev.step (f := fun k => laws_toUint64S.l0 k l ((i + 1 : Nat) : Int) (l.take (i + 1) ++ List.replicate d 0)) (fun k => ?_) (ih (i + 1) (by omega))
  rw [laws_toUint64S.l0]
  rw [if_pos (by omega), if_pos (by omega), if_pos (by rw [fill_length l 0 i (d + 1) h]; omega), w64 (by omega) (by omega), rd_nat, Int.toNat_natCast, fill_set l 0 _ i d h rfl]
  rfl
theorem toUint64S_ev (l : List Int) (hl : l.length ≤ 4000000) : Ev (fun k => laws_toUint64S.f k l) l := by
 refine Ev.congr (f := fun k => laws_toUint64S.l0 k l ((0 : Nat) : Int) (l.take 0 ++ List.replicate l.length 0)) (fun k => ?_) (toUint64S_l0 l hl l.length 0 (by omega))
 unfold laws_toUint64S.f
 rw [if_pos (by omega), Int.toNat_natCast, if_pos (by omega)]
 rfl
theorem eqUint64S_l0 (l : List Int) (hl : l.length ≤ 4000000) (d : Nat) : ∀ i : Nat, i + d = l.length → Ev (fun k => laws_eqUint64S.l0 k l l (i : Int)) true := by
 induction d with
 | zero =>
  intro i h
  refine Ev.step (f := fun _ => some true) (fun k => ?_) (Ev.now true)
  rw [laws_eqUint64S.l0]
  rw [if_neg (by omega)]
 | succ d ih =>
  intro i h
  refine Ev.step (f := fun k => laws_eqUint64S.l0 k l l ((i + 1 : Nat) : Int)) (fun k => ?_) (ih (i + 1) (by omega))
  rw [laws_eqUint64S.l0]
  rw [if_pos (by omega), if_pos (by omega), if_pos (by omega), if_pos rfl, w64 (by omega) (by omega)]
  rfl
theorem eqUint64S_ev (l : List Int) (hl : l.length ≤ 4000000) : Ev (fun k => laws_eqUint64S.f k l l) true := by
 refine Ev.congr (f := fun k => laws_eqUint64S.l0 k l l ((0 : Nat) : Int)) (fun k => ?_) (eqUint64S_l0 l hl l.length 0 (by omega))
 unfold laws_eqUint64S.f
 rw [if_pos rfl]
 rfl
theorem okI_out {n : Int} (h : Fv.OkI .i64 n) : -9223372036854775808 ≤ n ∧ n ≤ 9223372036854775807 := by
 have this : (Lit.int .i64 n).wf = true := h
 simp only [Lit.wf, IntKind.min, IntKind.max, IntKind.signed, IntKind.bits, Bool.and_eq_true, decide_eq_true_eq] at this
 simpa using this
theorem okW_out {ws : List Int} (h : Fv.OkL (Fv.OkI .u64) ws) : Words ws := by
 intro x hx
 have this : (Lit.int .u64 x).wf = true := h.2 x hx
 simp only [Lit.wf, IntKind.min, IntKind.max, IntKind.signed, IntKind.bits, Bool.and_eq_true, decide_eq_true_eq] at this
 have t2 : 0 ≤ x ∧ x ≤ 18446744073709551615 := by simpa using this
 omega
def marksF (s n : Nat) : List Int := (List.range n).map fun (j : Nat) => ((s + j : Nat) : Int)
theorem marksF_len (s n : Nat) : (marksF s n).length = n := by simp [marksF]
theorem marksF_get (s n j : Nat) (h : j < n) : (marksF s n).getD j 0 = ((s + j : Nat) : Int) := by
 rw [lget_lt _ j 0 (by rw [marksF_len]; exact h)]
 simp [marksF]
theorem markIntSF_l0 (l : List Int) (s : Nat) (hs : s ≤ 1000000000) (hl : l.length ≤ 4000000) (d : Nat) : ∀ i : Nat, i + d = l.length → Ev (fun k => laws_markIntS.l0 k ((marksF s l.length).take i ++ l.drop i) ((s + i : Nat) : Int) (i : Int)) (((s + l.length : Nat) : Int), marksF s l.length) := by
 induction d with
 | zero =>
  intro i h
  obtain rfl : i = l.length := by omega
  refine Ev.step (f := fun _ => some _) (fun k => ?_) (Ev.now _)
  rw [laws_markIntS.l0, if_neg (by rw [over_len _ _ _ (marksF_len _ _) (by omega)]; omega), List.drop_length, List.append_nil, List.take_of_length_le (by rw [marksF_len]; omega)]
 | succ d ih =>
  intro i h
  refine Ev.step (fun k => ?_) (ih (i + 1) (by omega))
  rw [laws_markIntS.l0, if_pos (by rw [over_len _ _ _ (marksF_len _ _) (by omega)]; omega), if_pos (by omega), w64 (by omega) (by omega), w64 (by omega) (by omega), Int.toNat_natCast, over_set (marksF s l.length) l 0 _ i (marksF_len _ _) (by omega) (marksF_get _ _ _ (by omega)).symm]
  rfl
theorem markIntSF_ev (l : List Int) (s : Nat) (hs : s ≤ 1000000000) (hl : l.length ≤ 4000000) : Ev (fun k => laws_markIntS.f k l (s : Int)) (((s + l.length : Nat) : Int), marksF s l.length) :=
 Ev.congr (f := fun k => laws_markIntS.l0 k ((marksF s l.length).take 0 ++ l.drop 0) ((s + 0 : Nat) : Int) ((0 : Nat) : Int)) (fun _ => rfl) (markIntSF_l0 l s hs hl l.length 0 (by omega))
theorem heldIntSF_l0 (n s : Nat) (hs : s ≤ 1000000000) (hn : n ≤ 4000000) (d : Nat) : ∀ i : Nat, i + d = n → Ev (fun k => laws_heldIntS.l0 k (marksF s n) ((s + i : Nat) : Int) (i : Int)) ((s + n : Nat) : Int) := by
 have hl := marksF_len s n
 induction d with
 | zero =>
  intro i h
  obtain rfl : i = n := by omega
  refine Ev.step (f := fun _ => some _) (fun k => ?_) (Ev.now _)
  rw [laws_heldIntS.l0, if_neg (by omega)]
 | succ d ih =>
  intro i h
  refine Ev.step (fun k => ?_) (ih (i + 1) (by omega))
  rw [laws_heldIntS.l0, if_pos (by omega), if_pos (by omega), rd_nat, marksF_get _ _ _ (by omega), if_pos rfl, w64 (by omega) (by omega), w64 (by omega) (by omega)]
  rfl
theorem heldIntSF_ev (n s : Nat) (hs : s ≤ 1000000000) (hn : n ≤ 4000000) : Ev (fun k => laws_heldIntS.f k (marksF s n) (s : Int)) ((s + n : Nat) : Int) :=
 Ev.congr (f := fun k => laws_heldIntS.l0 k (marksF s n) ((s + 0 : Nat) : Int) ((0 : Nat) : Int)) (fun _ => rfl) (heldIntSF_l0 n s hs hn n 0 (by omega))
theorem markUint64SF_l0 (l : List Int) (s : Nat) (hs : s ≤ 1000000000) (hl : l.length ≤ 4000000) (d : Nat) : ∀ i : Nat, i + d = l.length → Ev (fun k => laws_markUint64S.l0 k ((marksF s l.length).take i ++ l.drop i) ((s + i : Nat) : Int) (i : Int)) (((s + l.length : Nat) : Int), marksF s l.length) := by
 induction d with
 | zero =>
  intro i h
  obtain rfl : i = l.length := by omega
  refine Ev.step (f := fun _ => some _) (fun k => ?_) (Ev.now _)
  rw [laws_markUint64S.l0, if_neg (by rw [over_len _ _ _ (marksF_len _ _) (by omega)]; omega), List.drop_length, List.append_nil, List.take_of_length_le (by rw [marksF_len]; omega)]
 | succ d ih =>
  intro i h
  refine Ev.step (fun k => ?_) (ih (i + 1) (by omega))
  rw [laws_markUint64S.l0, if_pos (by rw [over_len _ _ _ (marksF_len _ _) (by omega)]; omega), if_pos (by omega), wu64 (x := ((s + i : Nat) : Int)) (by omega) (by omega), w64 (by omega) (by omega), w64 (by omega) (by omega), Int.toNat_natCast, over_set (marksF s l.length) l 0 _ i (marksF_len _ _) (by omega) (marksF_get _ _ _ (by omega)).symm]
  rfl
theorem markUint64SF_ev (l : List Int) (s : Nat) (hs : s ≤ 1000000000) (hl : l.length ≤ 4000000) : Ev (fun k => laws_markUint64S.f k l (s : Int)) (((s + l.length : Nat) : Int), marksF s l.length) :=
 Ev.congr (f := fun k => laws_markUint64S.l0 k ((marksF s l.length).take 0 ++ l.drop 0) ((s + 0 : Nat) : Int) ((0 : Nat) : Int)) (fun _ => rfl) (markUint64SF_l0 l s hs hl l.length 0 (by omega))
def val2 (l : List Int) : Nat := l.foldl (fun a b => 2 * a + b.toNat) 0
theorem val2_snoc (l : List Int) (b : Int) : val2 (l ++ [b]) = 2 * val2 l + b.toNat := by unfold val2; rw [List.foldl_append]; rfl
theorem val2_acc (l : List Int) : ∀ a : Nat, l.foldl (fun a b => 2 * a + b.toNat) a = a * 2 ^ l.length + val2 l := by
 induction l with
 | nil => intro a; simp [val2]
 | cons x l ih =>
  intro a
  have e : val2 (x :: l) = (2 * 0 + x.toNat) * 2 ^ l.length + val2 l := by
   show l.foldl _ _ = _
   rw [ih]
  rw [List.foldl_cons, ih, e, List.length_cons, Nat.pow_succ, Nat.mul_zero, Nat.zero_add, Nat.add_mul, Nat.add_assoc]
  congr 1
  rw [Nat.mul_comm 2 a, Nat.mul_assoc, Nat.mul_comm 2]
theorem val2_cons (x : Int) (l : List Int) : val2 (x :: l) = x.toNat * 2 ^ l.length + val2 l := by
 show l.foldl _ _ = _
 rw [val2_acc]
 show (2 * 0 + x.toNat) * 2 ^ l.length + val2 l = _
 rw [Nat.mul_zero, Nat.zero_add]
theorem val2_app (a b : List Int) : val2 (a ++ b) = val2 a * 2 ^ b.length + val2 b := by
 show (a ++ b).foldl _ _ = _
 rw [List.foldl_append]
 exact val2_acc b _
def B01 (l : List Int) : Prop := ∀ x ∈ l, x = 0 ∨ x = 1
theorem B01.drop {l : List Int} (h : B01 l) (i : Nat) : B01 (l.drop i) := fun x hx => h x (List.mem_of_mem_drop hx)
theorem B01.take {l : List Int} (h : B01 l) (i : Nat) : B01 (l.take i) := fun x hx => h x (List.mem_of_mem_take hx)
theorem val2_lt : ∀ l : List Int, B01 l → val2 l < 2 ^ l.length
 | [], _ => by simp [val2]
 | x :: l, h => by
  have h1 := val2_lt l (fun y hy => h y (List.mem_cons_of_mem _ hy))
  have h2 := h x List.mem_cons_self
  rw [val2_cons, List.length_cons, Nat.pow_succ]
  have : x.toNat ≤ 1 := by omega
  have := Nat.mul_le_mul_right (2 ^ l.length) this
  omega
theorem val2_inj : ∀ a b : List Int, B01 a → B01 b → a.length = b.length → val2 a = val2 b → a = b
 | [], b, _, _, hl, _ => (List.eq_nil_of_length_eq_zero hl.symm).symm
 | x :: a, [], _, _, hl, _ => by simp at hl
 | x :: a, y :: b, ha, hb, hl, h => by
  have hl' : a.length = b.length := by simpa using hl
  rw [val2_cons, val2_cons, hl'] at h
  have a1 := val2_lt a (fun z hz => ha z (List.mem_cons_of_mem _ hz))
  have b1 := val2_lt b (fun z hz => hb z (List.mem_cons_of_mem _ hz))
  rw [hl'] at a1
  have hx := ha x List.mem_cons_self
  have hy := hb y List.mem_cons_self
  generalize 2 ^ b.length = M at h a1 b1
  have hxy : x = y ∧ val2 a = val2 b := by
   rcases hx with rfl | rfl <;> rcases hy with rfl | rfl <;> simp at h <;> (constructor <;> omega)
  rw [hxy.1, val2_inj a b (fun z hz => ha z (List.mem_cons_of_mem _ hz)) (fun z hz => hb z (List.mem_cons_of_mem _ hz)) hl' hxy.2]
theorem val2_code (n : Nat) : ∀ c, val2 (codeBits c n) = c % 2 ^ n := by
 induction n with
 | zero => intro c; simp [codeBits, val2, Nat.mod_one]
 | succ n ih =>
  intro c
  rw [codeBits, val2_cons, codeBits_length, ih, Int.toNat_natCast, Nat.mod_pow_succ, Nat.add_comm, Nat.mul_comm]
theorem code_eq {c n : Nat} {w : List Int} (hw : B01 w) (hl : w.length = n) (hc : c < 2 ^ n) : codeBits c n = w ↔ c = val2 w := by
 constructor
 ·intro h
  rw [← h, val2_code, Nat.mod_eq_of_lt hc]
 ·intro h
  exact val2_inj _ _ (codeBits_01 c n) hw (by rw [codeBits_length, hl]) (by rw [val2_code, Nat.mod_eq_of_lt hc, h])
def seg (bits : List Int) (p n : Nat) : List Int := (bits.drop p).take n
theorem seg_length {bits : List Int} {p n : Nat} (h : p + n ≤ bits.length) : (seg bits p n).length = n := by unfold seg; rw [List.length_take, List.length_drop]; omega
theorem seg_succ {bits : List Int} {p n : Nat} (h : p + n < bits.length) : seg bits p (n + 1) = seg bits p n ++ [bits.getD (p + n) 0] := by
 unfold seg
 have hl : n < (bits.drop p).length := by rw [List.length_drop]; omega
 rw [List.take_succ_eq_append_getElem hl, List.getElem_drop, lget_lt bits (p + n) 0 h]
def Mb (lens codes bits : List Int) (p s : Nat) : Bool := decide (0 < lens.getD s 0) && decide (p + (lens.getD s 0).toNat ≤ bits.length) && decide (val2 (seg bits p (lens.getD s 0).toNat) = (codes.getD s 0).toNat)
theorem Mb_iff {lens codes bits : List Int} {p s : Nat} : Mb lens codes bits p s = true ↔ 0 < lens.getD s 0 ∧ p + (lens.getD s 0).toNat ≤ bits.length ∧ val2 (seg bits p (lens.getD s 0).toNat) = (codes.getD s 0).toNat := by
 unfold Mb
 rw [Bool.and_eq_true, Bool.and_eq_true, decide_eq_true_eq, decide_eq_true_eq, decide_eq_true_eq, and_assoc]
/-- No code begins another one; each code has its length. -/
def Codes (lens codes : List Int) : Prop := codes.length = lens.length ∧ inRange lens = true ∧ (∀ s, s < lens.length → 0 < lens.getD s 0 → 0 ≤ codes.getD s 0 ∧ (codes.getD s 0).toNat < 2 ^ (lens.getD s 0).toNat) ∧
 ∀ i j, i < lens.length → j < lens.length → i ≠ j → 0 < lens.getD i 0 → lens.getD i 0 ≤ lens.getD j 0 → (codes.getD j 0).toNat / 2 ^ ((lens.getD j 0).toNat - (lens.getD i 0).toNat) ≠ (codes.getD i 0).toNat
theorem Mb_le {lens codes bits : List Int} (hC : Codes lens codes) (h01 : B01 bits) {p i j : Nat} (hi : i < lens.length) (hj : j < lens.length) (mi : Mb lens codes bits p i = true) (mj : Mb lens codes bits p j = true) (hle : lens.getD i 0 ≤ lens.getD j 0) : i = j := by
 refine Classical.byContradiction fun hne => ?_
 obtain ⟨a1, a2, a3⟩ := Mb_iff.1 mi
 obtain ⟨b1, b2, b3⟩ := Mb_iff.1 mj
 refine hC.2.2.2 i j hi hj hne a1 hle ?_
 obtain ⟨m, hm⟩ : ∃ m, (lens.getD j 0).toNat = (lens.getD i 0).toNat + m := ⟨(lens.getD j 0).toNat - (lens.getD i 0).toNat, by omega⟩
 have e : seg bits p (lens.getD j 0).toNat = seg bits p (lens.getD i 0).toNat ++ seg bits (p + (lens.getD i 0).toNat) m := by
  unfold seg
  rw [hm, List.take_add, List.drop_drop]
 have hl : (seg bits (p + (lens.getD i 0).toNat) m).length = m := seg_length (by omega)
 have hlt := val2_lt (seg bits (p + (lens.getD i 0).toNat) m) ((h01.drop _).take _)
 rw [← b3, e, val2_app, hl, a3, hm, Nat.add_sub_cancel_left]
 rw [hl] at hlt
 rw [Nat.mul_comm, Nat.mul_add_div (Nat.two_pow_pos m), Nat.div_eq_of_lt hlt, Nat.add_zero]
theorem Mb_one {lens codes bits : List Int} (hC : Codes lens codes) (h01 : B01 bits) {p i j : Nat} (hi : i < lens.length) (hj : j < lens.length) (mi : Mb lens codes bits p i = true) (mj : Mb lens codes bits p j = true) : i = j := by
 by_cases h : lens.getD i 0 ≤ lens.getD j 0
 ·exact Mb_le hC h01 hi hj mi mj h
 ·exact (Mb_le hC h01 hj hi mj mi (by omega)).symm
/-- Whoever of those from s on matches at p, or h. -/
def hitF (lens codes bits : List Int) (p : Nat) (l : List Nat) (h : Int) : Int := l.foldl (fun h s => if Mb lens codes bits p s = true then (s : Int) else h) h
theorem hitF_or (lens codes bits : List Int) (p : Nat) : ∀ (l : List Nat) (h : Int), (hitF lens codes bits p l h = h ∧ ∀ t ∈ l, ¬ Mb lens codes bits p t = true) ∨ ∃ t ∈ l, Mb lens codes bits p t = true ∧ hitF lens codes bits p l h = (t : Int)
 | [], h => .inl ⟨rfl, fun t ht => (by cases ht)⟩
 | s :: l, h => by
  have e : hitF lens codes bits p (s :: l) h = hitF lens codes bits p l (if Mb lens codes bits p s = true then (s : Int) else h) := rfl
  rw [e]
  rcases hitF_or lens codes bits p l (if Mb lens codes bits p s = true then (s : Int) else h) with ⟨a, b⟩ | ⟨t, a, b, c⟩
  ·by_cases m : Mb lens codes bits p s = true
   ·rw [if_pos m] at a ⊢
    exact .inr ⟨s, List.mem_cons_self, m, a⟩
   ·rw [if_neg m] at a ⊢
    refine .inl ⟨a, fun t ht => ?_⟩
    rcases List.mem_cons.1 ht with rfl | ht
    ·exact m
    ·exact b t ht
  ·exact .inr ⟨t, List.mem_cons_of_mem _ a, b, c⟩
def hit (lens codes bits : List Int) (p : Nat) : Int := hitF lens codes bits p (List.range lens.length) (-1)
theorem hit_some {lens codes bits : List Int} (hC : Codes lens codes) (h01 : B01 bits) {p s : Nat} (hs : s < lens.length) (m : Mb lens codes bits p s = true) : hit lens codes bits p = (s : Int) := by
 rcases hitF_or lens codes bits p (List.range lens.length) (-1) with ⟨_, b⟩ | ⟨t, a, b, c⟩
 ·exact absurd m (b s (List.mem_range.2 hs))
 ·unfold hit
  rw [c, Mb_one hC h01 (List.mem_range.1 a) hs b m]
theorem hit_none {lens codes bits : List Int} {p : Nat} (h : ∀ s, s < lens.length → ¬ Mb lens codes bits p s = true) : hit lens codes bits p = -1 := by
 rcases hitF_or lens codes bits p (List.range lens.length) (-1) with ⟨a, _⟩ | ⟨t, a, b, _⟩
 ·exact a
 ·exact absurd b (h t (List.mem_range.1 a))
theorem hit_cases {lens codes bits : List Int} (p : Nat) : (hit lens codes bits p = -1 ∧ ∀ s, s < lens.length → ¬ Mb lens codes bits p s = true) ∨ ∃ s, s < lens.length ∧ Mb lens codes bits p s = true ∧ hit lens codes bits p = (s : Int) := by
 rcases hitF_or lens codes bits p (List.range lens.length) (-1) with ⟨a, b⟩ | ⟨t, a, b, c⟩
 ·exact .inl ⟨a, fun s hs => b s (List.mem_range.2 hs)⟩
 ·exact .inr ⟨t, List.mem_range.1 a, b, c⟩
/-- The symbols, word by word. -/
def dec (lens codes bits : List Int) : Nat → Nat → List Int → Option (List Int)
 | 0, p, out => if p < bits.length then none else some out
 | d + 1, p, out => if p < bits.length then (if hit lens codes bits p < 0 then none else dec lens codes bits d (p + (lens.getD (hit lens codes bits p).toNat 0).toNat) (out ++ [hit lens codes bits p])) else some out
def resD (n : Int) : Option (List Int) → List Int × Bool
 | none => ([], false)
 | some o => if (o.length : Int) = n then (o, true) else ([], false)
theorem or_bitH (n b : Nat) (hn : n < 1152921504606846976) (hb : b < 2) : Go.bits .or .i64 ((2 * n : Nat) : Int) (b : Int) = ((2 * n + b : Nat) : Int) := by
 have e : 2 * n ||| b = 2 * n + b := (Nat.two_pow_add_eq_or_of_lt (i := 1) (by omega) n).symm
 have o : ∀ a : Nat, a < 4611686018427387904 → (BitVec.ofInt 64 (a : Int)).toNat = a := fun a h => by rw [BitVec.ofInt_natCast, BitVec.toNat_ofNat]; exact Nat.mod_eq_of_lt (by omega)
 show IntKind.i64.wrap ((BitVec.ofInt 64 ((2 * n : Nat) : Int) ||| BitVec.ofInt 64 (b : Int)).toNat : Int) = _
 rw [BitVec.toNat_or, o _ (by omega), o _ (by omega), e, i64_w, w64 (by omega) (by omega)]
theorem codes_of {lens codes : List Int} {S : Nat} (h : Inv lens codes 61 0 S ∧ S ≤ 1152921504606846976) (hr : inRange lens = true) : Codes lens codes := by
 refine ⟨h.1.good.1, hr, fun s hs h0 => ?_, fun i j hi hj hne h0 hle => no_prefix h hr i j hi hj hne h0 hle⟩
 obtain ⟨a1, a2⟩ := inRange_get hr s hs
 have hg := h.1.good.2 (codes.getD s 0) (by rw [lget_lt _ _ _ (by have := h.1.good.1; omega)]; exact List.getElem_mem _)
 refine ⟨hg.1, ?_⟩
 have he := h.1.ends s hs ⟨h0, .inl (by omega)⟩
 unfold st wl at he
 obtain ⟨m, hm⟩ : ∃ m : Nat, 60 = m + (lens.getD s 0).toNat := ⟨60 - (lens.getD s 0).toNat, by omega⟩
 have e60 : (1152921504606846976 : Nat) = 2 ^ (lens.getD s 0).toNat * 2 ^ m := by rw [← Nat.pow_add, Nat.add_comm, ← hm]
 rw [show 60 - (lens.getD s 0).toNat = m by omega] at he
 have h2 := Nat.le_trans he h.2
 rw [e60, ← Nat.succ_mul] at h2
 exact Nat.le_of_mul_le_mul_right h2 (Nat.two_pow_pos m)
/-- What the program's table holds behind i symbols. -/
def knL (lens codes : List Int) (i : Nat) : List ((Int × Int) × Int) := ((List.range i).filter fun s => decide (0 < lens.getD s 0)).map fun s => ((codes.getD s 0, lens.getD s 0), (s : Int))
theorem knL_mem {lens codes : List Int} {i : Nat} {e : (Int × Int) × Int} : e ∈ knL lens codes i ↔ ∃ s, s < i ∧ 0 < lens.getD s 0 ∧ e = ((codes.getD s 0, lens.getD s 0), (s : Int)) := by
 unfold knL
 rw [List.mem_map]
 constructor
 ·rintro ⟨s, hs, rfl⟩
  rw [List.mem_filter, List.mem_range, decide_eq_true_eq] at hs
  exact ⟨s, hs.1, hs.2, rfl⟩
 ·rintro ⟨s, h1, h2, rfl⟩
  exact ⟨s, by rw [List.mem_filter, List.mem_range, decide_eq_true_eq]; exact ⟨h1, h2⟩, rfl⟩
theorem knL_succ (lens codes : List Int) (i : Nat) : knL lens codes (i + 1) = knL lens codes i ++ (if 0 < lens.getD i 0 then [((codes.getD i 0, lens.getD i 0), (i : Int))] else []) := by
 unfold knL
 rw [List.range_succ, List.filter_append, List.map_append]
 congr 1
 by_cases c : 0 < lens.getD i 0
 ·rw [List.filter_cons, decide_eq_true c, if_pos rfl, if_pos c]; rfl
 ·rw [List.filter_cons, decide_eq_false c, if_neg (by decide), if_neg c]; rfl
theorem knL_new {lens codes : List Int} (hC : Codes lens codes) {i : Nat} (hi : i < lens.length) (h0 : 0 < lens.getD i 0) : (knL lens codes i).any (fun e => e.1 == (codes.getD i 0, lens.getD i 0)) = false := by
 rw [← Bool.not_eq_true, List.any_eq_true]
 rintro ⟨e, he, hq⟩
 obtain ⟨s, h1, h2, rfl⟩ := knL_mem.1 he
 have hq' := eq_of_beq hq
 injection hq' with e1 e2
 refine hC.2.2.2 s i (by omega) hi (by omega) h2 (by omega) ?_
 rw [← e2, Nat.sub_self, Nat.pow_zero, Nat.div_one, e1]
theorem wf_of {a : Int} (h0 : -9223372036854775808 ≤ a) (h1 : a ≤ 9223372036854775807) : Wd.wf a = true := decide_eq_true ⟨h0, h1⟩
theorem implRead_l0 {lens codes : List Int} (hC : Codes lens codes) (hl : lens.length ≤ 300) (d : Nat) : ∀ i : Nat, i + d = lens.length → Ev (fun k => impl_HuffRead.l0 k codes lens (knL lens codes i) (i : Int)) (knL lens codes lens.length) := by
 have hcl := hC.1
 induction d with
 | zero =>
  intro i h
  obtain rfl : i = lens.length := by omega
  refine Ev.step (f := fun _ => some _) (fun k => ?_) (Ev.now _)
  rw [impl_HuffRead.l0, if_neg (by omega)]
 | succ d ih =>
  intro i h
  have h' := ih (i + 1) (by omega)
  rw [knL_succ] at h'
  by_cases c : 0 < lens.getD i 0
  ·rw [if_pos c] at h'
   have hc1 := (hC.2.2.1 i (by omega) c).1
   have hc2 : codes.getD i 0 ≤ 1152921504606846976 := by
    have := (hC.2.2.1 i (by omega) c).2
    have h60 := (inRange_get hC.2.1 i (by omega)).2
    have := Nat.lt_of_lt_of_le this (Nat.le_trans (Nat.pow_le_pow_right (n := 2) (by decide) (show (lens.getD i 0).toNat ≤ 60 by omega)) (show 2 ^ 60 ≤ 1152921504606846976 by decide))
    omega
   have hc3 := (inRange_get hC.2.1 i (by omega)).2
   refine Ev.step (fun k => ?_) h'
   rw [impl_HuffRead.l0, if_pos (by omega), if_pos (by omega), if_pos (by omega), rd_nat, rd_nat, if_pos c, if_neg (by rw [knL_new hC (by omega) c, wf_of (by omega) (by omega), wf_of (by omega) (by omega)]; decide), w64 (by omega) (by omega)]
   rfl
  ·rw [if_neg c, List.append_nil] at h'
   refine Ev.step (fun k => ?_) h'
   rw [impl_HuffRead.l0, if_pos (by omega), if_pos (by omega), if_pos (by omega), rd_nat, if_neg c, w64 (by omega) (by omega)]
   rfl
theorem dec_end (lens codes bits : List Int) (d : Nat) (out : List Int) : dec lens codes bits d bits.length out = some out := by
 cases d with
 | zero => rw [dec, if_neg (Nat.lt_irrefl _)]
 | succ d => rw [dec, if_neg (Nat.lt_irrefl _)]
theorem dec_none {lens codes bits : List Int} {d p : Nat} {out : List Int} (hp : p < bits.length) (h : ∀ s, s < lens.length → ¬ Mb lens codes bits p s = true) : dec lens codes bits d p out = none := by
 cases d with
 | zero => rw [dec, if_pos hp]
 | succ d => rw [dec, if_pos hp, hit_none h, if_pos (by decide)]
theorem implRead_l1 {lens codes bits : List Int} (hC : Codes lens codes) (h01 : B01 bits) (hbl : bits.length ≤ 100000) (n : Int) (r : Nat) : ∀ (p j d : Nat) (out : List Int), p + j + r = bits.length → bits.length - p ≤ d → j ≤ 60 → out.length ≤ p →
  (∀ s, s < lens.length → (lens.getD s 0).toNat ≤ j → ¬ Mb lens codes bits p s = true) → Ev (fun k => impl_HuffRead.l1 k (knL lens codes lens.length) bits out ((val2 (seg bits p j) : Nat) : Int) (j : Int) ((p + j : Nat) : Int) n) (resD n (dec lens codes bits d p out)) := by
 have hr := hC.2.1
 induction r with
 | zero =>
  intro p j d out h hd hj ho hno
  by_cases c : 0 < j
  ·rw [dec_none (by omega) (fun s hs m => hno s hs (by have := (Mb_iff.1 m).2.1; omega) m)]
   refine Ev.step (f := fun _ => some (resD n none)) (fun k => ?_) (Ev.now _)
   rw [impl_HuffRead.l1, if_neg (by omega), if_pos (by omega)]
   rfl
  ·obtain rfl : j = 0 := by omega
   obtain rfl : p = bits.length := by omega
   rw [dec_end]
   refine Ev.step (f := fun _ => some (resD n (some out))) (fun k => ?_) (Ev.now _)
   rw [impl_HuffRead.l1, if_neg (by omega), if_neg (by omega)]
   show _ = some (if (out.length : Int) = n then (out, true) else ([], false))
   by_cases q : (out.length : Int) = n
   ·rw [if_pos q, if_pos q]
   ·rw [if_neg q, if_neg q]
 | succ r ih =>
  intro p j d out h hd hj ho hno
  obtain ⟨d, rfl⟩ : ∃ m, d = m + 1 := ⟨d - 1, by omega⟩
  have hb : bits.getD (p + j) 0 = 0 ∨ bits.getD (p + j) 0 = 1 := h01 _ (by rw [lget_lt _ _ _ (by omega)]; exact List.getElem_mem _)
  have hseg : val2 (seg bits p (j + 1)) = 2 * val2 (seg bits p j) + (bits.getD (p + j) 0).toNat := by rw [seg_succ (by omega), val2_snoc]
  have hlt : val2 (seg bits p j) < 1152921504606846976 := by
   have := val2_lt (seg bits p j) ((h01.drop _).take _)
   rw [seg_length (by omega)] at this
   exact Nat.lt_of_lt_of_le this (Nat.le_trans (Nat.pow_le_pow_right (by decide) hj) (by decide))
  have hlt2 : val2 (seg bits p (j + 1)) < 4611686018427387904 := by rw [hseg]; omega
  have hval := Aside0.mk (show Go.bits .or .i64 (wrap64 (((val2 (seg bits p j) : Nat) : Int) * 2)) (rd bits ((p + j : Nat) : Int)) = ((val2 (seg bits p (j + 1)) : Nat) : Int) from by
   rw [rd_nat, hseg]
   obtain ⟨b, hbb, hb2⟩ : ∃ b : Nat, bits.getD (p + j) 0 = (b : Int) ∧ b < 2 := by
    rcases hb with e | e
    ·exact ⟨0, e, by decide⟩
    ·exact ⟨1, e, by decide⟩
   rw [hbb, w64 (by omega) (by omega), show ((val2 (seg bits p j) : Nat) : Int) * 2 = ((2 * val2 (seg bits p j) : Nat) : Int) by omega, Int.toNat_natCast]
   exact or_bitH _ b hlt hb2)
  have hw1 := Aside0.mk (show wrap64 ((j : Int) + 1) = ((j + 1 : Nat) : Int) from by rw [w64 (by omega) (by omega)]; omega)
  have hw2 := Aside0.mk (show wrap64 (((p + j : Nat) : Int) + 1) = ((p + (j + 1) : Nat) : Int) from by rw [w64 (by omega) (by omega)]; omega)
  cases hf : (knL lens codes lens.length).find? (fun e => e.1 == (((val2 (seg bits p (j + 1)) : Nat) : Int), ((j + 1 : Nat) : Int))) with
  | some e =>
   have hq := List.find?_some hf
   obtain ⟨s, h1, h2, rfl⟩ := knL_mem.1 (List.mem_of_find?_eq_some hf)
   have hq' := eq_of_beq hq
   injection hq' with e1 e2
   have m : Mb lens codes bits p s = true := Mb_iff.2 ⟨h2, by rw [e2]; omega, by rw [e1, e2, Int.toNat_natCast, Int.toNat_natCast]⟩
   have hh := hit_some hC h01 h1 m
   have hdec : dec lens codes bits (d + 1) p out = dec lens codes bits d (p + (j + 1)) (out ++ [(s : Int)]) := by
    rw [dec, if_pos (by omega), hh, if_neg (by omega), Int.toNat_natCast, e2, Int.toNat_natCast]
   rw [hdec]
   have h' := ih (p + (j + 1)) 0 d (out ++ [(s : Int)]) (by omega) (by omega) (by omega) (by simp; omega) (fun t ht h0 mt => by have := (Mb_iff.1 mt).1; omega)
   have e0 : val2 (seg bits (p + (j + 1)) 0) = 0 := by unfold seg; rw [List.take_zero]; rfl
   rw [e0] at h'
   refine Ev.step (fun k => ?_) h'
   rw [impl_HuffRead.l1, if_pos (by omega), if_pos (by omega), hval.out, hw1.out, if_pos (by rw [wf_of (by omega) (by omega), wf_of (by omega) (by omega)]; rfl), hf]
   dsimp only
   rw [if_pos (by omega), hw2.out]
   rfl
  | none =>
   have hf' := List.find?_eq_none.1 hf
   have hno' : ∀ s, s < lens.length → (lens.getD s 0).toNat ≤ j + 1 → ¬ Mb lens codes bits p s = true := fun s hs hle m => by
    by_cases c : (lens.getD s 0).toNat ≤ j
    ·exact hno s hs c m
    ·obtain ⟨m1, m2, m3⟩ := Mb_iff.1 m
     refine hf' _ (knL_mem.2 ⟨s, hs, m1, rfl⟩) ?_
     have e2 : lens.getD s 0 = ((j + 1 : Nat) : Int) := by omega
     rw [e2, Int.toNat_natCast] at m3
     have := (hC.2.2.1 s hs m1).1
     rw [beq_iff_eq, Prod.mk.injEq]
     exact ⟨by omega, e2⟩
   by_cases c : 60 < j + 1
   ·rw [dec_none (by omega) (fun s hs m => hno' s hs (by have := (inRange_get hr s hs).2; omega) m)]
    refine Ev.step (f := fun _ => some (resD n none)) (fun k => ?_) (Ev.now _)
    rw [impl_HuffRead.l1, if_pos (by omega), if_pos (by omega), hval.out, hw1.out, if_pos (by rw [wf_of (by omega) (by omega), wf_of (by omega) (by omega)]; rfl), hf]
    dsimp only
    rw [if_pos (by omega)]
    rfl
   ·refine Ev.step (fun k => ?_) (ih p (j + 1) (d + 1) out (by omega) hd (by omega) ho hno')
    rw [impl_HuffRead.l1, if_pos (by omega), if_pos (by omega), hval.out, hw1.out, if_pos (by rw [wf_of (by omega) (by omega), wf_of (by omega) (by omega)]; rfl), hf]
    dsimp only
    rw [if_neg (by omega), hw2.out]
theorem same_l0 (a b : List Int) (hl : a.length = b.length) (h5 : a.length ≤ 1000000) (d : Nat) : ∀ i : Nat, i + d = a.length → Ev (fun k => spec_l01Same.l0 k a b (i : Int)) (decide (a.drop i = b.drop i)) := by
 induction d with
 | zero =>
  intro i h
  refine Ev.step (f := fun _ => some _) (fun k => ?_) (Ev.now _)
  rw [spec_l01Same.l0, if_neg (by omega), List.drop_eq_nil_of_le (by omega), List.drop_eq_nil_of_le (by omega), decide_eq_true rfl]
 | succ d ih =>
  intro i h
  rw [drop_cons a i (by omega), drop_cons b i (by omega)]
  by_cases c : a.getD i 0 = b.getD i 0
  ·have e : decide (a.getD i 0 :: a.drop (i + 1) = b.getD i 0 :: b.drop (i + 1)) = decide (a.drop (i + 1) = b.drop (i + 1)) := decide_eq_decide.2 ⟨fun h => by injection h, fun h => by rw [c, h]⟩
   rw [e]
   refine Ev.step (fun k => ?_) (ih (i + 1) (by omega))
   rw [spec_l01Same.l0, if_pos (by omega), if_pos (by omega), if_pos (by omega), rd_nat, rd_nat, if_pos c, w64 (by omega) (by omega)]
   rfl
  ·have e : decide (a.getD i 0 :: a.drop (i + 1) = b.getD i 0 :: b.drop (i + 1)) = false := decide_eq_false (fun h => by injection h with h1 _; exact c h1)
   rw [e]
   refine Ev.step (f := fun _ => some _) (fun k => ?_) (Ev.now _)
   rw [spec_l01Same.l0, if_pos (by omega), if_pos (by omega), if_pos (by omega), rd_nat, rd_nat, if_neg c]
theorem same_ev (a b : List Int) (hl : a.length = b.length) (h5 : a.length ≤ 1000000) : Ev (fun k => spec_l01Same.f k a b) (decide (a = b)) := by
 refine Ev.congr (fun k => ?_) (same_l0 a b hl h5 a.length 0 (by omega))
 unfold spec_l01Same.f
 rw [if_pos (by omega)]
 rfl
theorem drop_range (m i : Nat) (h : i < m) : (List.range m).drop i = i :: (List.range m).drop (i + 1) := by
 rw [List.drop_eq_getElem_cons (by rw [List.length_range]; exact h), List.getElem_range]
theorem specRead_l1 {lens codes bits : List Int} (hC : Codes lens codes) (h01 : B01 bits) (hbl : bits.length ≤ 100000) (hll : lens.length ≤ 300) (n : Int) (p : Nat) (hp : p < bits.length) (out : List Int) (r : List Int × Bool) (d : Nat) : ∀ (i : Nat) (h : Int), i + d = lens.length →
  Ev (fun k => spec_HuffRead.l1 k lens n out (p : Int) (hitF lens codes bits p ((List.range lens.length).drop i) h) (lens.length : Int) bits codes) r → Ev (fun k => spec_HuffRead.l1 k lens n out (p : Int) h (i : Int) bits codes) r := by
 have hcl := hC.1
 induction d with
 | zero =>
  intro i h hi hev
  obtain rfl : i = lens.length := by omega
  rw [List.drop_eq_nil_of_le (by rw [List.length_range]; exact Nat.le_refl _)] at hev
  exact hev
 | succ d ih =>
  intro i h hi hev
  rw [drop_range _ _ (by omega)] at hev
  have he : hitF lens codes bits p (i :: (List.range lens.length).drop (i + 1)) h = hitF lens codes bits p ((List.range lens.length).drop (i + 1)) (if Mb lens codes bits p i = true then (i : Int) else h) := rfl
  rw [he] at hev
  have h' := ih (i + 1) _ (by omega) hev
  have hj3 : Ev (fun k => spec_HuffRead.j3 k lens n bits codes out (p : Int) h (i : Int) (Mb lens codes bits p i)) r := by
   refine Ev.step (fun k => ?_) h'
   by_cases m : Mb lens codes bits p i = true
   ·rw [spec_HuffRead.j3, if_pos m, if_pos m, w64 (by omega) (by omega)]
    rfl
   ·rw [spec_HuffRead.j3, if_neg m, if_neg m, w64 (by omega) (by omega)]
    rfl
  obtain ⟨K, hK⟩ := ev_out hj3
  obtain ⟨a1, a2⟩ := inRange_get hC.2.1 i (by omega)
  by_cases c1 : 0 < lens.getD i 0
  ·obtain ⟨q, hq⟩ := Int.eq_ofNat_of_zero_le a1
   by_cases c2 : p + q ≤ bits.length
   ·obtain ⟨b1, b2⟩ := hC.2.2.1 i (by omega) c1
    obtain ⟨cc, hcc⟩ := Int.eq_ofNat_of_zero_le b1
    rw [hcc, hq, Int.toNat_natCast, Int.toNat_natCast] at b2
    have hcb : cc < 1152921504606846976 := Nat.lt_of_lt_of_le b2 (Nat.le_trans (Nat.pow_le_pow_right (n := 2) (by decide) (show q ≤ 60 by omega)) (by decide))
    obtain ⟨K1, hK1⟩ := ev_out (l08Code_ev cc hcb q (by omega))
    obtain ⟨K2, hK2⟩ := ev_out (same_ev (codeBits cc q) (seg bits p q) (by rw [codeBits_length, seg_length c2]) (by rw [codeBits_length]; omega))
    have hm : decide (codeBits cc q = seg bits p q) = Mb lens codes bits p i := by
     rw [Bool.eq_iff_iff, decide_eq_true_eq, code_eq (show B01 (seg bits p q) from (h01.drop _).take _) (seg_length c2) b2, Mb_iff, hq, hcc, Int.toNat_natCast, Int.toNat_natCast]
     constructor
     ·intro e; exact ⟨by omega, c2, e.symm⟩
     ·intro e; exact e.2.2.symm
    rw [hm] at hK2
    refine ev_mk (K + K1 + K2 + 1) fun k hk => ?_
    obtain ⟨k, rfl⟩ : ∃ m, k = m + 1 := ⟨k - 1, by omega⟩
    have e1 := Aside0.mk (show wrap64 ((p : Int) + (q : Int)) = ((p + q : Nat) : Int) from by rw [w64 (by omega) (by omega)]; omega)
    have e2 : (bits.take (p + q)).drop p = seg bits p q := by unfold seg; rw [List.drop_take, Nat.add_sub_cancel_left]
    rw [spec_HuffRead.l1, if_pos (by omega), if_pos (by omega), rd_nat, if_pos c1, hq, e1.out, if_pos (by omega), if_pos (by omega), rd_nat, hcc, hK1 k (by omega), Option.bind_some, if_pos (by omega), if_pos (by omega), Int.toNat_natCast, Int.toNat_natCast, e2, hK2 k (by omega), Option.bind_some]
    exact hK k (by omega)
   ·have hm : Mb lens codes bits p i = false := by
     rw [← Bool.not_eq_true, Mb_iff, hq, Int.toNat_natCast]
     exact fun h => c2 h.2.1
    rw [hm] at hK
    refine ev_mk (K + 1) fun k hk => ?_
    obtain ⟨k, rfl⟩ : ∃ m, k = m + 1 := ⟨k - 1, by omega⟩
    rw [spec_HuffRead.l1, if_pos (by omega), if_pos (by omega), rd_nat, if_pos c1, hq, w64 (x := (p : Int) + (q : Int)) (by omega) (by omega), if_neg (by omega)]
    exact hK k (by omega)
  ·have hm : Mb lens codes bits p i = false := by
    rw [← Bool.not_eq_true, Mb_iff]
    exact fun h => c1 h.1
   rw [hm] at hK
   refine ev_mk (K + 1) fun k hk => ?_
   obtain ⟨k, rfl⟩ : ∃ m, k = m + 1 := ⟨k - 1, by omega⟩
   rw [spec_HuffRead.l1, if_pos (by omega), if_pos (by omega), rd_nat, if_neg c1]
   exact hK k (by omega)
theorem specRead_l0 {lens codes bits : List Int} (hC : Codes lens codes) (h01 : B01 bits) (hbl : bits.length ≤ 100000) (hll : lens.length ≤ 300) (n : Int) (d : Nat) : ∀ (p : Nat) (out : List Int), bits.length - p ≤ d → p ≤ bits.length → out.length ≤ p →
  Ev (fun k => spec_HuffRead.l0 k lens n out (p : Int) bits codes) (resD n (dec lens codes bits d p out)) := by
 have fin : ∀ (p : Nat) (out : List Int) (d : Nat), ¬ p < bits.length → Ev (fun k => spec_HuffRead.l0 k lens n out (p : Int) bits codes) (resD n (dec lens codes bits d p out)) := fun p out d hp => by
  have hd : dec lens codes bits d p out = some out := by cases d with
   | zero => rw [dec, if_neg hp]
   | succ d => rw [dec, if_neg hp]
  rw [hd]
  refine Ev.step (f := fun _ => some (resD n (some out))) (fun k => ?_) (Ev.now _)
  rw [spec_HuffRead.l0, if_neg (by omega)]
  show _ = some (if (out.length : Int) = n then (out, true) else ([], false))
  by_cases q : (out.length : Int) = n
  ·rw [if_pos q, if_pos q]
  ·rw [if_neg q, if_neg q]
 induction d with
 | zero =>
  intro p out h1 h2 _
  exact fin p out 0 (by omega)
 | succ d ih =>
  intro p out h1 h2 ho
  by_cases hp : p < bits.length
  case neg => exact fin p out (d + 1) hp
  have hev : Ev (fun k => spec_HuffRead.l1 k lens n out (p : Int) (hitF lens codes bits p ((List.range lens.length).drop 0) (-1)) (lens.length : Int) bits codes) (resD n (dec lens codes bits (d + 1) p out)) := by
   rw [List.drop_zero]
   show Ev (fun k => spec_HuffRead.l1 k lens n out (p : Int) (hit lens codes bits p) (lens.length : Int) bits codes) _
   rw [dec, if_pos hp]
   rcases hit_cases (lens := lens) (codes := codes) (bits := bits) p with ⟨e, _⟩ | ⟨s, hs, m, e⟩
   ·rw [e, if_pos (by decide)]
    refine Ev.step (f := fun _ => some (resD n none)) (fun k => ?_) (Ev.now _)
    rw [spec_HuffRead.l1, if_neg (by omega), if_pos (by decide)]
    rfl
   ·obtain ⟨m1, m2, m3⟩ := Mb_iff.1 m
    rw [e, if_neg (by omega), Int.toNat_natCast]
    obtain ⟨q, hq⟩ := Int.eq_ofNat_of_zero_le (show 0 ≤ lens.getD s 0 by omega)
    rw [hq, Int.toNat_natCast] at m2 ⊢
    refine Ev.step (fun k => ?_) (ih (p + q) (out ++ [(s : Int)]) (by omega) m2 (by simp; omega))
    rw [spec_HuffRead.l1, if_neg (by omega), if_neg (by omega), if_pos (by omega), if_pos (by omega), if_pos (by omega), rd_nat, hq, w64 (by omega) (by omega)]
    rfl
  have h' := specRead_l1 hC h01 hbl hll n p hp out _ lens.length 0 (-1) (by omega) hev
  refine Ev.step (fun k => ?_) h'
  rw [spec_HuffRead.l0, if_pos (by omega)]
  rfl
theorem dec_len {lens codes bits : List Int} (d : Nat) : ∀ (p : Nat) (out o : List Int), out.length ≤ p → p ≤ bits.length → dec lens codes bits d p out = some o → o.length ≤ bits.length := by
 induction d with
 | zero =>
  intro p out o h1 h2 h
  rw [dec] at h
  by_cases c : p < bits.length
  ·rw [if_pos c] at h; cases h
  ·rw [if_neg c] at h
   obtain rfl := Option.some.inj h
   omega
 | succ d ih =>
  intro p out o h1 h2 h
  rw [dec] at h
  by_cases c : p < bits.length
  ·rw [if_pos c] at h
   rcases hit_cases (lens := lens) (codes := codes) (bits := bits) p with ⟨e, _⟩ | ⟨s, hs, m, e⟩
   ·rw [e, if_pos (by decide)] at h; cases h
   ·obtain ⟨m1, m2, _⟩ := Mb_iff.1 m
    rw [e, if_neg (by omega), Int.toNat_natCast] at h
    exact ih _ _ _ (by rw [List.length_append]; show out.length + 1 ≤ _; omega) m2 h
  ·rw [if_neg c] at h
   obtain rfl := Option.some.inj h
   omega
theorem codes_both (l : List Int) (ok : okH l = true) : ∃ res, Ev (fun k => spec_HuffCodes.f k l) res ∧ Ev (fun k => impl_huffCodes.f k l) res ∧ Codes l res := by
 obtain ⟨res, a, b, _⟩ := codes_ev l ok
 obtain ⟨res2, S, c, hI⟩ := codes2_ev l ok
 obtain ⟨K1, k1⟩ := ev_out b
 obtain ⟨K2, k2⟩ := ev_out c
 have e : res = res2 := Option.some.inj ((k1 (K1 + K2) (by omega)).symm.trans (k2 (K1 + K2) (by omega)))
 subst e
 exact ⟨res, a, b, codes_of hI (okH_out ok).2.1⟩
theorem okB_outH {n : Int} {ws : List Int} (h : okB n ws = true) : 0 ≤ n ∧ n ≤ 5000 ∧ ws.length = (n.toNat + 63) / 64 := by
 have := of_decide_eq_true h
 exact ⟨this.1, this.2.1, this.2.2.1⟩
theorem huffRead_ev (N : Int) (ws lens : List Int) (n : Int) (hw : Words ws) (hl : ws.length ≤ 4000000) (hN : -9223372036854775808 ≤ N) : ∃ R : List Int × Bool, R.1.length ≤ 5000 ∧ Ev (fun k => spec_HuffRead.f k N ws lens n) R ∧ Ev (fun k => impl_HuffRead.f k N ws lens n) R := by
 obtain ⟨K1, k1⟩ := ev_out (specBitsOk_ev N ws hw hl hN)
 have i1 := implBitsOk_ev N ws hw hl hN
 obtain ⟨K2, k2⟩ := ev_out (specHuffOk_ev lens)
 obtain ⟨K3, k3⟩ := ev_out (implHuffOk_ev lens)
 have bad : ∀ k, spec_HuffRead.j0 (k + 1) lens n true N ws = some (([] : List Int), false) := fun k => by rw [spec_HuffRead.j0, if_pos rfl]
 by_cases c1 : okB N ws = true
 case neg =>
  refine ⟨([], false), by simp, ev_mk (K1 + 1) fun k hk => ?_, ev_mk 0 fun k hk => ?_⟩
  ·obtain ⟨k, rfl⟩ : ∃ m, k = m + 1 := ⟨k - 1, by omega⟩
   unfold spec_HuffRead.f
   rw [k1 _ (by omega), Option.bind_some, if_neg c1, bad]
  ·unfold impl_HuffRead.f
   rw [i1, Option.bind_some, if_neg c1]
 by_cases c2 : okH lens = true
 case neg =>
  refine ⟨([], false), by simp, ev_mk (K1 + K2 + 1) fun k hk => ?_, ev_mk K3 fun k hk => ?_⟩
  ·obtain ⟨k, rfl⟩ : ∃ m, k = m + 1 := ⟨k - 1, by omega⟩
   unfold spec_HuffRead.f
   rw [k1 _ (by omega), Option.bind_some, if_pos c1, k2 _ (by omega), Option.bind_some, if_neg c2, bad]
  ·unfold impl_HuffRead.f
   rw [i1, Option.bind_some, if_pos c1, k3 _ hk, Option.bind_some, if_neg c2]
 by_cases c3 : n < 0
 ·refine ⟨([], false), by simp, ev_mk (K1 + K2 + 1) fun k hk => ?_, ev_mk K3 fun k hk => ?_⟩
  ·obtain ⟨k, rfl⟩ : ∃ m, k = m + 1 := ⟨k - 1, by omega⟩
   unfold spec_HuffRead.f
   rw [k1 _ (by omega), Option.bind_some, if_pos c1, k2 _ (by omega), Option.bind_some, if_pos c2, decide_eq_true c3, bad]
  ·unfold impl_HuffRead.f
   rw [i1, Option.bind_some, if_pos c1, k3 _ hk, Option.bind_some, if_pos c2, if_pos c3]
 have ho := okB_outH c1
 obtain ⟨m, rfl⟩ : ∃ m : Nat, N = (m : Int) := ⟨N.toNat, by omega⟩
 rw [Int.toNat_natCast] at ho
 obtain ⟨K4, k4⟩ := ev_out (l01List_ev m ws hw (by omega) (by omega))
 obtain ⟨K5, k5⟩ := ev_out (list_ev m ws hw (by omega) (by omega))
 obtain ⟨codes, e1, e2, hC⟩ := codes_both lens c2
 obtain ⟨K6, k6⟩ := ev_out e1
 obtain ⟨K7, k7⟩ := ev_out e2
 have hll := (okH_out c2).1
 have hbl := bitsL_length m ws
 have h01 : B01 (bitsL m ws) := bitsL_01 m ws
 generalize bitsL m ws = bits at k4 k5 hbl h01
 obtain ⟨K8, k8⟩ := ev_out (specRead_l0 hC h01 (by omega) hll n bits.length 0 [] (by omega) (by omega) (Nat.le_refl _))
 obtain ⟨K9, k9⟩ := ev_out (implRead_l0 hC hll lens.length 0 (by omega))
 obtain ⟨K10, k10⟩ := ev_out (implRead_l1 hC h01 (by omega) n bits.length 0 0 bits.length [] (by omega) (by omega) (by omega) (Nat.le_refl _) (fun s _ h0 m => by have := (Mb_iff.1 m).1; omega))
 have k9' : ∀ k, K9 ≤ k → impl_HuffRead.l0 k codes lens [] 0 = some (knL lens codes lens.length) := k9
 have k10' : ∀ k, K10 ≤ k → impl_HuffRead.l1 k (knL lens codes lens.length) bits [] 0 0 0 n = some (resD n (dec lens codes bits bits.length 0 [])) := fun k hk => by
  have := k10 k hk
  have e0 : val2 (seg bits 0 0) = 0 := by unfold seg; rw [List.take_zero]; rfl
  rw [e0] at this
  exact this
 refine ⟨resD n (dec lens codes bits bits.length 0 []), ?_, ev_mk (K1 + K2 + K4 + K6 + K8 + 1) fun k hk => ?_, ev_mk (K3 + K5 + K7 + K9 + K10) fun k hk => ?_⟩
 ·cases hd : dec lens codes bits bits.length 0 [] with
  | none => simp [resD]
  | some o =>
   have := dec_len bits.length 0 [] o (Nat.le_refl _) (Nat.zero_le _) hd
   unfold resD
   dsimp only
   split
   ·show o.length ≤ 5000
    omega
   ·simp
 ·obtain ⟨k, rfl⟩ : ∃ m, k = m + 1 := ⟨k - 1, by omega⟩
  unfold spec_HuffRead.f
  rw [k1 _ (by omega), Option.bind_some, if_pos c1, k2 _ (by omega), Option.bind_some, if_pos c2, decide_eq_false c3, spec_HuffRead.j0, if_neg (by decide), k4 _ (by omega), Option.bind_some, k6 _ (by omega), Option.bind_some]
  exact k8 k (by omega)
 ·unfold impl_HuffRead.f impl_HuffRead.g
  rw [i1, Option.bind_some, if_pos c1, k3 _ (by omega), Option.bind_some, if_pos c2, if_neg c3, k7 _ (by omega), Option.bind_some, k9' _ (by omega), Option.bind_some, k5 _ (by omega), Option.bind_some]
  exact k10' k (by omega)
theorem szBitsH (n : Int) (l : List Int) (a : Int) (h0 : 0 ≤ a) (h1 : a ≤ 1048576) (hl : l.length ≤ 9223372036854775807) : laws_szBits.f n l a = some (if a - (l.length : Int) < 0 then -1 else a - (l.length : Int)) := by
 unfold laws_szBits.f laws_szUint64S.f
 rw [w64 (by omega) (by omega)]
 by_cases q : a - (l.length : Int) < 0
 ·rw [if_pos q, if_pos q, Option.bind_some, if_pos (by decide)]
 ·rw [if_neg q, if_neg q, Option.bind_some, if_neg q]
theorem FnExactHuffRead : laws_FnExactHuffRead.Pure := by
 intro N ws lens n hok _ _
 have hN := (okI_out hok.1).1
 have hwl : ws.length ≤ maxLen := hok.2.1
 have hw : Words ws := okW_out hok.2
 by_cases g0 : (lens.length : Int) > 1048576
 ·exact ⟨0, by unfold laws_FnExactHuffRead.f; rw [if_pos g0]⟩
 have hsz := szBitsH N ws 1048576 (by omega) (by omega) (by unfold maxLen at hwl; omega)
 by_cases g1 : (1048576 : Int) - (ws.length : Int) < 0
 ·refine ⟨0, ?_⟩
  unfold laws_FnExactHuffRead.f
  rw [if_neg g0, hsz, Option.bind_some, if_pos g1, if_pos (by decide)]
 obtain ⟨R, hR, s1, s2⟩ := huffRead_ev N ws lens n hw (by omega) hN
 obtain ⟨R1, R2⟩ := R
 obtain ⟨K1, h1⟩ := ev_out s1
 obtain ⟨K2, h2⟩ := ev_out s2
 obtain ⟨K3, h3⟩ := ev_out (toUint64S_ev ws (by omega))
 obtain ⟨K4, h4⟩ := ev_out (toIntS_ev lens (by omega))
 simp only at hR
 obtain ⟨K5, h5⟩ := ev_out (eqIntS_ev R1 (by omega))
 obtain ⟨K6, h6⟩ := ev_out (eqUint64S_ev ws (by omega))
 obtain ⟨K7, h7⟩ := ev_out (eqIntS_ev lens (by omega))
 obtain ⟨K8, h8⟩ := ev_out (markUint64SF_ev ws 1 (by omega) (by omega))
 obtain ⟨K9, h9⟩ := ev_out (markIntSF_ev lens (1 + ws.length) (by omega) (by omega))
 obtain ⟨K10, h10⟩ := ev_out (markIntSF_ev R1 1 (by omega) (by omega))
 obtain ⟨K11, h11⟩ := ev_out (heldIntSF_ev R1.length 1 (by omega) (by omega))
 have tb : ∀ k, K3 ≤ k → laws_toBits.f k N ws = some (N, ws) := fun k hk => by unfold laws_toBits.f; rw [h3 k hk, Option.bind_some]
 have eb : ∀ k, K6 ≤ k → laws_eqBits.f k N ws N ws = some true := fun k hk => by unfold laws_eqBits.f; rw [if_pos rfl, h6 k hk, Option.bind_some, if_pos rfl]
 have mb : ∀ k, K8 ≤ k → laws_markBits.f k N ws 1 = some (((1 + ws.length : Nat) : Int), marksF 1 ws.length) := fun k hk => by
  unfold laws_markBits.f
  have e : laws_markUint64S.f k ws 1 = some (((1 + ws.length : Nat) : Int), marksF 1 ws.length) := h8 k hk
  rw [e, Option.bind_some]
 have h10' : ∀ k, K10 ≤ k → laws_markIntS.f k R1 1 = some (((1 + R1.length : Nat) : Int), marksF 1 R1.length) := h10
 have h11' : ∀ k, K11 ≤ k → laws_heldIntS.f k (marksF 1 R1.length) 1 = some ((1 + R1.length : Nat) : Int) := h11
 refine ⟨K1 + K2 + K3 + K4 + K5 + K6 + K7 + K8 + K9 + K10 + K11 + 3, ?_⟩
 unfold laws_FnExactHuffRead.f
 rw [if_neg g0, hsz, Option.bind_some, if_neg g1, if_neg g1, tb _ (by omega), Option.bind_some, h4 _ (by omega), Option.bind_some]
 dsimp only
 rw [h1 _ (by omega), Option.bind_some, Option.bind_some, Option.bind_some, h2 _ (by omega), Option.bind_some]
 dsimp only
 rw [h5 _ (by omega), Option.bind_some, if_pos rfl, bne_self_eq_false, laws_FnExactHuffRead.j0, if_neg (by decide), tb _ (by omega), Option.bind_some]
 dsimp only
 rw [eb _ (by omega), Option.bind_some, if_pos rfl, h4 _ (by omega), Option.bind_some, h7 _ (by omega), Option.bind_some, if_pos rfl, mb _ (by omega), Option.bind_some]
 dsimp only
 rw [h9 _ (by omega), Option.bind_some]
 dsimp only
 rw [if_neg (by omega), h5 _ (by omega), Option.bind_some, if_pos rfl, bne_self_eq_false, laws_FnExactHuffRead.j1, if_neg (by decide), h10' _ (by omega), Option.bind_some]
 dsimp only
 rw [h11' _ (by omega), Option.bind_some, if_neg (by omega), if_pos rfl, tb _ (by omega), Option.bind_some, h4 _ (by omega), Option.bind_some]
 dsimp only
 rw [h2 _ (by omega), Option.bind_some]
 dsimp only
 rw [h5 _ (by omega), Option.bind_some, if_pos rfl, bne_self_eq_false, laws_FnExactHuffRead.j2, if_neg (by decide), h11' _ (by omega), Option.bind_some, if_neg (by omega), if_pos rfl]

end Go.Proofs.Ytgjmmegmkdklbaa.Pure
