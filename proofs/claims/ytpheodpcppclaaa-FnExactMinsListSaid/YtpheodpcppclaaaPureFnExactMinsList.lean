/- The program's MinsList returns what the reference's returns, for all arguments (values that hold more than 2^20 numbers are let pass by the statement itself). -/
import Derived.Test.YtpheodpcppclaaaQFnExactMinsListx6
import Derived.Test.YtpheodpcppclaaaBase
namespace Go.Proofs.Ytpheodpcppclaaa.Pure
open Go.RowKit Go.Proofs.Ytpheodpcppclaaa.QFnExactMinsList Go.Proofs.YtpheodpcppclaaaW.PrintWords Go.Proofs.YtpheodpcppclaaaW.PrintLast Go.Proofs.YtpheodpcppclaaaW.PrintMore
open Go.Proofs.Ytpheodpcppclaaa Go.Proofs.Ytpheodpcppclaaa.Base
set_option linter.unusedVariables false
set_option linter.unusedSimpArgs false

-- toIntS, eqIntS
theorem toIntS_l0 (l : List Int) (hl : l.length ≤ 4000000) (d : Nat) : ∀ i : Nat, i + d = l.length → Ev (fun k => laws_toIntS.l0 k l (l.take i ++ List.replicate d 0) (i : Int)) l := by
  induction d with
  | zero =>
    intro i h
    refine Ev.step (f := fun _ => some l) (fun k => ?_) (Ev.now l)
    rw [laws_toIntS.l0]
    rw [if_neg (by omega), List.take_of_length_le (by omega)]
    simp
  | succ d ih =>
    intro i h
    refine Ev.step (f := fun k => laws_toIntS.l0 k l (l.take (i + 1) ++ List.replicate d 0) ((i + 1 : Nat) : Int)) (fun k => ?_) (ih (i + 1) (by omega))
    rw [laws_toIntS.l0]
    rw [if_pos (by omega), if_pos (by omega), if_pos (by rw [fill_length l 0 i (d + 1) h]; omega), w64 (by omega) (by omega), rd_nat, Int.toNat_natCast, fill_set l 0 _ i d h rfl]
    rfl
theorem toIntS_ev (l : List Int) (hl : l.length ≤ 4000000) : Ev (fun k => laws_toIntS.f k l) l := by
  refine Ev.congr (f := fun k => laws_toIntS.l0 k l (l.take 0 ++ List.replicate l.length 0) ((0 : Nat) : Int)) (fun k => ?_) (toIntS_l0 l hl l.length 0 (by omega))
  unfold laws_toIntS.f
  rw [if_pos (by omega), Int.toNat_natCast, if_pos (by omega)]
  rfl
theorem eqIntS_l0 (l : List Int) (hl : l.length ≤ 4000000) (d : Nat) : ∀ i : Nat, i + d = l.length → Ev (fun k => laws_eqIntS.l0 k l l (i : Int)) true := by
  induction d with
  | zero =>
    intro i h
    refine Ev.step (f := fun _ => some true) (fun k => ?_) (Ev.now true)
    rw [laws_eqIntS.l0]
    rw [if_neg (by omega)]
  | succ d ih =>
    intro i h
    refine Ev.step (f := fun k => laws_eqIntS.l0 k l l ((i + 1 : Nat) : Int)) (fun k => ?_) (ih (i + 1) (by omega))
    rw [laws_eqIntS.l0]
    rw [if_pos (by omega), if_pos (by omega), if_pos (by omega), if_pos rfl, w64 (by omega) (by omega)]
    rfl
theorem eqIntS_ev (l : List Int) (hl : l.length ≤ 4000000) : Ev (fun k => laws_eqIntS.f k l l) true := by
  refine Ev.congr (f := fun k => laws_eqIntS.l0 k l l ((0 : Nat) : Int)) (fun k => ?_) (eqIntS_l0 l hl l.length 0 (by omega))
  unfold laws_eqIntS.f
  rw [if_pos rfl]
  rfl

-- the statement's marks in a list of numbers, and what is held of them
def marksL (n : Nat) : List Int := (List.range n).map fun (j : Nat) => 1 + (j : Int)
theorem marksL_len (n : Nat) : (marksL n).length = n := by simp [marksL]
theorem marksL_get (n j : Nat) (h : j < n) : (marksL n).getD j 0 = 1 + (j : Int) := by
  rw [lget_lt _ j 0 (by rw [marksL_len]; exact h)]
  simp [marksL]
theorem markL_l0 (l : List Int) (hl : l.length ≤ 4000000) (d : Nat) : ∀ i : Nat, i + d = l.length → Ev (fun k => laws_markIntS.l0 k ((marksL l.length).take i ++ l.drop i) (1 + (i : Int)) (i : Int)) (1 + (l.length : Int), marksL l.length) := by
  induction d with
  | zero =>
    intro i h
    obtain rfl : i = l.length := by omega
    refine Ev.step (f := fun _ => some _) (fun k => ?_) (Ev.now _)
    rw [laws_markIntS.l0, if_neg (by rw [over_len _ _ _ (marksL_len _) (by omega)]; omega), List.drop_length, List.append_nil, List.take_of_length_le (by rw [marksL_len]; omega)]
  | succ d ih =>
    intro i h
    refine Ev.step (f := fun k => laws_markIntS.l0 k ((marksL l.length).take (i + 1) ++ l.drop (i + 1)) (1 + ((i + 1 : Nat) : Int)) ((i + 1 : Nat) : Int)) (fun k => ?_) (ih (i + 1) (by omega))
    rw [laws_markIntS.l0, if_pos (by rw [over_len _ _ _ (marksL_len _) (by omega)]; omega), if_pos (by omega), w64 (by omega) (by omega), w64 (by omega) (by omega), Int.toNat_natCast, over_set (marksL l.length) l 0 _ i (marksL_len _) (by omega) (marksL_get _ _ (by omega)).symm]
    rfl
theorem markL_ev (l : List Int) (hl : l.length ≤ 4000000) : Ev (fun k => laws_markIntS.f k l 1) (1 + (l.length : Int), marksL l.length) :=
  Ev.congr (f := fun k => laws_markIntS.l0 k ((marksL l.length).take 0 ++ l.drop 0) (1 + ((0 : Nat) : Int)) ((0 : Nat) : Int)) (fun _ => rfl) (markL_l0 l hl l.length 0 (by omega))
theorem heldL_l0 (n : Nat) (hn : n ≤ 4000000) (d : Nat) : ∀ i : Nat, i + d = n → Ev (fun k => laws_heldIntS.l0 k (marksL n) (1 + (i : Int)) (i : Int)) (1 + (n : Int)) := by
  have hl := marksL_len n
  induction d with
  | zero =>
    intro i h
    obtain rfl : i = n := by omega
    refine Ev.step (f := fun _ => some _) (fun k => ?_) (Ev.now _)
    rw [laws_heldIntS.l0, if_neg (by omega)]
  | succ d ih =>
    intro i h
    refine Ev.step (f := fun k => laws_heldIntS.l0 k (marksL n) (1 + ((i + 1 : Nat) : Int)) ((i + 1 : Nat) : Int)) (fun k => ?_) (ih (i + 1) (by omega))
    rw [laws_heldIntS.l0, if_pos (by omega), if_pos (by omega), rd_nat, marksL_get _ _ (by omega), if_pos rfl, w64 (by omega) (by omega), w64 (by omega) (by omega)]
    rfl
theorem heldL_ev (n : Nat) (hn : n ≤ 4000000) : Ev (fun k => laws_heldIntS.f k (marksL n) 1) (1 + (n : Int)) :=
  Ev.congr (f := fun k => laws_heldIntS.l0 k (marksL n) (1 + ((0 : Nat) : Int)) ((0 : Nat) : Int)) (fun _ => rfl) (heldL_l0 n hn n 0 (by omega))

-- the tree of minima: what both make
def up (n : Nat) : Nat → Nat → Nat
  | 0, p => p
  | d + 1, p => if p < n then up n d (2 * p) else p
def lvs (n : Nat) : Nat := up n 9 1
theorem lvs_le (n : Nat) (h : n ≤ 512) : n ≤ lvs n := by
  unfold lvs
  simp only [up]
  repeat' split
  all_goals omega
theorem lvs_cases (n : Nat) : lvs n = 1 ∨ lvs n = 2 ∨ lvs n = 4 ∨ lvs n = 8 ∨ lvs n = 16 ∨ lvs n = 32 ∨ lvs n = 64 ∨ lvs n = 128 ∨ lvs n = 256 ∨ lvs n = 512 := by
  unfold lvs
  simp only [up]
  repeat' split
  all_goals omega
theorem lvs_pos (n : Nat) : 1 ≤ lvs n ∧ lvs n ≤ 512 := by
  rcases lvs_cases n with h | h | h | h | h | h | h | h | h | h <;> omega
def bld : Nat → List Int → List Int
  | 0, S => S
  | i + 1, S => bld i (mn (S.getD i 0) (S.getD (i + 1) 0) :: S)
theorem bld_length : ∀ (i : Nat) (S : List Int), (bld i S).length = i + S.length
  | 0, S => by simp [bld]
  | i + 1, S => by rw [bld, bld_length i, List.length_cons]; omega
def mLeaves (l : List Int) : List Int := l ++ List.replicate (lvs l.length - l.length) 1000000000
def mTree (l : List Int) : List Int := 0 :: bld (lvs l.length - 1) (mLeaves l)
theorem mLeaves_length (l : List Int) (h : l.length ≤ 512) : (mLeaves l).length = lvs l.length := by
  have := lvs_le l.length h
  unfold mLeaves
  rw [List.length_append, List.length_replicate]
  omega
theorem mTree_length (l : List Int) (h : l.length ≤ 512) : (mTree l).length = 2 * lvs l.length := by
  have := lvs_pos l.length
  unfold mTree
  rw [List.length_cons, bld_length, mLeaves_length l h]
  omega
theorem set_rep (c v : Int) (i : Nat) (S : List Int) : (List.replicate (i + 1) c ++ S).set i v = List.replicate i c ++ v :: S := by
  rw [List.replicate_succ', List.append_assoc, List.set_append_right _ _ (by simp)]
  simp
theorem getD_rep (c z : Int) (i j : Nat) (S : List Int) (h : i ≤ j) : (List.replicate i c ++ S).getD j z = S.getD (j - i) z := by
  rw [List.getD_eq_getElem?_getD, List.getD_eq_getElem?_getD, List.getElem?_append_right (by simpa using h), List.length_replicate]
theorem up_l0 (x : Int) (n : Nat) (hx : x.toNat = n) : ∀ d p : Nat, 1 ≤ p → n ≤ p * 2 ^ d → p * 2 ^ d ≤ 512 → Ev (fun k => impl_leaves.l0 k x (p : Int)) ((up n d p : Nat) : Int) := by
  intro d
  induction d with
  | zero =>
    intro p hp h1 h2
    refine Ev.step (f := fun _ => some _) (fun k => ?_) (Ev.now _)
    rw [Nat.pow_zero, Nat.mul_one] at h1
    rw [impl_leaves.l0, if_neg (by omega), up]
  | succ d ih =>
    intro p hp h1 h2
    have e : p * 2 ^ (d + 1) = (2 * p) * 2 ^ d := by rw [Nat.pow_succ, Nat.mul_comm 2 p, Nat.mul_assoc p 2, Nat.mul_comm (2 ^ d) 2]
    have hq : p ≤ p * 2 ^ (d + 1) := Nat.le_mul_of_pos_right p (Nat.two_pow_pos _)
    rw [e] at h1 h2
    rw [e] at hq
    by_cases c : p < n
    · rw [up, if_pos c]
      refine Ev.step (fun k => ?_) (ih (2 * p) (by omega) h1 h2)
      rw [impl_leaves.l0, if_pos (by omega), w64 (by omega) (by omega)]
      rw [show (p : Int) * 2 = ((2 * p : Nat) : Int) by omega]
    · rw [up, if_neg c]
      refine Ev.step (f := fun _ => some _) (fun k => ?_) (Ev.now _)
      rw [impl_leaves.l0, if_neg (by omega)]
theorem leaves_ev (x : Int) (h : x ≤ 512) : Ev (fun k => impl_leaves.f k x) ((lvs x.toNat : Nat) : Int) :=
  up_l0 x x.toNat rfl 9 1 (by omega) (by omega) (by omega)
theorem minsOf_l0 (c n : Int) (N : Nat) (hN : N ≤ 1024) : ∀ (i : Nat) (S : List Int), i + 1 + S.length = N → 2 * i + 1 < N → Ev (fun k => impl_minsOf.l0 k (i : Int) n (List.replicate (i + 1) c ++ S)) (n, 0 :: bld i S) := by
  intro i
  induction i with
  | zero =>
    intro S h1 h2
    refine Ev.step (f := fun _ => some _) (fun k => ?_) (Ev.now _)
    rw [impl_minsOf.l0, if_neg (by omega), if_pos (by rw [List.length_append, List.length_replicate]; omega)]
    rfl
  | succ i ih =>
    intro S h1 h2
    have hl : (List.replicate (i + 1 + 1) c ++ S).length = N := by rw [List.length_append, List.length_replicate]; exact h1
    rw [bld]
    refine Ev.step (fun k => ?_) (ih (mn (S.getD i 0) (S.getD (i + 1) 0) :: S) (by rw [List.length_cons]; omega) (by omega))
    rw [impl_minsOf.l0, if_pos (by omega), w64 (by omega) (by omega), w64 (by omega) (by omega), w64 (by omega) (by omega), if_pos (by omega), if_pos (by rw [hl]; omega), if_pos (by omega), if_pos (by rw [hl]; omega), if_pos (by omega), if_pos (by rw [hl]; omega),
      show (2 * ((i + 1 : Nat) : Int)) + 1 = ((2 * (i + 1) + 1 : Nat) : Int) by omega, show 2 * ((i + 1 : Nat) : Int) = ((2 * (i + 1) : Nat) : Int) by omega, rd_nat, rd_nat, getD_rep c 0 _ _ S (by omega), getD_rep c 0 _ _ S (by omega), Int.toNat_natCast, set_rep,
      show ((i + 1 : Nat) : Int) - 1 = (i : Int) by omega, show 2 * (i + 1) - (i + 1 + 1) = i by omega, show 2 * (i + 1) + 1 - (i + 1 + 1) = i + 1 by omega]
-- what the reference makes: the inner nodes, then the leaves
theorem spec_l2i (l : List Int) (n : Int) (P N : Nat) (hN : N ≤ 1024) : ∀ (i : Nat) (S : List Int), i + 1 + S.length = N → 2 * i + 1 < N → i < P → Ev (fun k => spec_MinsOf.l2 k l (P : Int) (i : Int) n (List.replicate (i + 1) 0 ++ S)) (n, 0 :: bld i S, true) := by
  intro i
  induction i with
  | zero =>
    intro S h1 h2 h3
    refine Ev.step (f := fun _ => some _) (fun k => ?_) (Ev.now _)
    rw [spec_MinsOf.l2, if_neg (by omega)]
    rfl
  | succ i ih =>
    intro S h1 h2 h3
    have hl : (List.replicate (i + 1 + 1) (0 : Int) ++ S).length = N := by rw [List.length_append, List.length_replicate]; exact h1
    rw [bld]
    refine Ev.step (fun k => ?_) (ih (mn (S.getD i 0) (S.getD (i + 1) 0) :: S) (by rw [List.length_cons]; omega) (by omega) (by omega))
    rw [spec_MinsOf.l2, if_pos (by omega), if_pos (by omega), w64 (by omega) (by omega), w64 (by omega) (by omega), w64 (by omega) (by omega), if_pos (by omega), if_pos (by rw [hl]; omega), if_pos (by omega), if_pos (by rw [hl]; omega), if_pos (by omega), if_pos (by rw [hl]; omega),
      show (2 * ((i + 1 : Nat) : Int)) + 1 = ((2 * (i + 1) + 1 : Nat) : Int) by omega, show 2 * ((i + 1 : Nat) : Int) = ((2 * (i + 1) : Nat) : Int) by omega, rd_nat, rd_nat, getD_rep 0 0 _ _ S (by omega), getD_rep 0 0 _ _ S (by omega), Int.toNat_natCast, set_rep,
      show ((i + 1 : Nat) : Int) - 1 = (i : Int) by omega, show 2 * (i + 1) - (i + 1 + 1) = i by omega, show 2 * (i + 1) + 1 - (i + 1 + 1) = i + 1 by omega]
theorem spec_l2 (l : List Int) (h : l.length ≤ 512) : ∀ m : Nat, m ≤ lvs l.length → Ev (fun k => spec_MinsOf.l2 k l (lvs l.length : Int) ((lvs l.length + m : Nat) - 1 : Int) (l.length : Int) (List.replicate (lvs l.length + m) 0 ++ (mLeaves l).drop m)) ((l.length : Int), mTree l, true) := by
  obtain ⟨P, hP⟩ : ∃ P, P = lvs l.length := ⟨_, rfl⟩
  have hP1 := lvs_pos l.length
  have hP2 := mLeaves_length l h
  rw [← hP] at hP1 hP2 ⊢
  intro m
  induction m with
  | zero =>
    intro _
    have h1 := spec_l2i l (l.length : Int) P (2 * P) (by omega) (P - 1) (mLeaves l) (by omega) (by omega) (by omega)
    rw [show P - 1 + 1 = P + 0 by omega, show ((P - 1 : Nat) : Int) = ((P + 0 : Nat) : Int) - 1 by omega] at h1
    rw [List.drop_zero]
    unfold mTree
    rw [← hP]
    exact h1
  | succ m ih =>
    intro hm
    have hl : (List.replicate (P + (m + 1)) (0 : Int) ++ (mLeaves l).drop (m + 1)).length = 2 * P := by rw [List.length_append, List.length_replicate, List.length_drop]; omega
    have hd : (mLeaves l).drop m = (mLeaves l).getD m 0 :: (mLeaves l).drop (m + 1) := by rw [List.drop_eq_getElem_cons (by omega), lget_lt (mLeaves l) m 0 (by omega)]
    have hset : ∀ v, v = (mLeaves l).getD m 0 → (List.replicate (P + (m + 1)) (0 : Int) ++ (mLeaves l).drop (m + 1)).set (P + m) v = List.replicate (P + m) 0 ++ (mLeaves l).drop m := by
      intro v hv
      rw [hd, hv]
      exact set_rep 0 _ (P + m) _
    refine Ev.step (fun k => ?_) (ih (by omega))
    rw [spec_MinsOf.l2, show ((P + (m + 1) : Nat) : Int) - 1 = ((P + m : Nat) : Int) by omega, if_pos (by omega), if_neg (by omega), w64 (by omega) (by omega), w64 (by omega) (by omega), show ((P + m : Nat) : Int) - (P : Int) = (m : Int) by omega]
    by_cases c : m < l.length
    · rw [if_pos (by omega), if_pos (by omega), if_pos (by omega), if_pos (by rw [hl]; omega), rd_nat, Int.toNat_natCast, hset _ (by unfold mLeaves; rw [List.getD_eq_getElem?_getD, List.getD_eq_getElem?_getD, List.getElem?_append_left c])]
    · rw [if_neg (by omega), if_pos (by omega), if_pos (by rw [hl]; omega), Int.toNat_natCast, hset _ (by unfold mLeaves; rw [List.getD_eq_getElem?_getD, List.getElem?_append_right (by omega), List.getElem?_replicate, if_pos (by omega)]; rfl)]
theorem spec_l1 (l : List Int) (h : l.length ≤ 512) : ∀ d p : Nat, 1 ≤ p → l.length ≤ p * 2 ^ d → p * 2 ^ d ≤ 512 → up l.length d p = lvs l.length → Ev (fun k => spec_MinsOf.l1 k l (p : Int)) ((l.length : Int), mTree l, true) := by
  have fin : ∀ p : Nat, 1 ≤ p → p ≤ 512 → p = lvs l.length → ¬ (p < l.length) → Ev (fun k => spec_MinsOf.l1 k l (p : Int)) ((l.length : Int), mTree l, true) := by
    intro p h1 h2 h3 h4
    have h5 := spec_l2 l h (lvs l.length) (Nat.le_refl _)
    rw [← h3] at h5
    rw [List.drop_eq_nil_of_le (by rw [mLeaves_length l h, ← h3]; omega), List.append_nil] at h5
    refine Ev.step (fun k => ?_) h5
    rw [spec_MinsOf.l1, if_neg (by omega), w64 (by omega) (by omega), w64 (by omega) (by omega), if_pos (by omega), if_pos (by omega), show (2 * (p : Int)).toNat = p + p by omega, show 2 * (p : Int) - 1 = ((p + p : Nat) : Int) - 1 by omega]
  intro d
  induction d with
  | zero =>
    intro p hp h1 h2 h3
    rw [Nat.pow_zero, Nat.mul_one] at h1 h2
    exact fin p hp h2 h3 (by omega)
  | succ d ih =>
    intro p hp h1 h2 h3
    have e : p * 2 ^ (d + 1) = (2 * p) * 2 ^ d := by rw [Nat.pow_succ, Nat.mul_comm 2 p, Nat.mul_assoc p 2, Nat.mul_comm (2 ^ d) 2]
    have hq : p ≤ p * 2 ^ (d + 1) := Nat.le_mul_of_pos_right p (Nat.two_pow_pos _)
    rw [e] at h1 h2
    rw [e] at hq
    rw [up] at h3
    by_cases c : p < l.length
    · rw [if_pos c] at h3
      refine Ev.step (fun k => ?_) (ih (2 * p) (by omega) h1 h2 h3)
      rw [spec_MinsOf.l1, if_pos (by omega), w64 (by omega) (by omega)]
      rw [show 2 * (p : Int) = ((2 * p : Nat) : Int) by omega]
    · rw [if_neg c] at h3
      exact fin p hp (by omega) h3 c
def minsR (l : List Int) : Int × List Int × Bool := if l.length ≤ 301 ∧ l.all Fv.p48 = true then ((l.length : Int), mTree l, true) else (0, [], false)
theorem p48_iff (x : Int) : Fv.p48 x = true ↔ 0 ≤ x ∧ x ≤ 1000000 := by unfold Fv.p48 Fv.inR; simp
theorem spec_l0 (l : List Int) (h : l.length ≤ 301) (d : Nat) : ∀ i : Nat, i + d = l.length → Ev (fun k => spec_MinsOf.l0 k l (i : Int)) (if (l.drop i).all Fv.p48 = true then ((l.length : Int), mTree l, true) else (0, [], false)) := by
  induction d with
  | zero =>
    intro i hi
    rw [List.drop_eq_nil_of_le (by omega), if_pos (by rfl)]
    refine Ev.step (fun k => ?_) (spec_l1 l (by omega) 9 1 (by omega) (by omega) (by omega) rfl)
    rw [spec_MinsOf.l0, if_neg (by omega)]
    rfl
  | succ d ih =>
    intro i hi
    have hd : (l.drop i).all Fv.p48 = (Fv.p48 (l.getD i 0) && (l.drop (i + 1)).all Fv.p48) := by rw [List.drop_eq_getElem_cons (by omega), List.all_cons, lget_lt l i 0 (by omega)]
    rw [hd]
    by_cases c1 : l.getD i 0 < 0
    · rw [if_neg (by rw [Bool.and_eq_true, p48_iff]; omega)]
      refine Ev.step (f := fun _ => some _) (fun k => ?_) (Ev.now _)
      rw [spec_MinsOf.l0, if_pos (by omega), if_pos (by omega), rd_nat, if_pos c1]
    · by_cases c2 : l.getD i 0 > 1000000
      · rw [if_neg (by rw [Bool.and_eq_true, p48_iff]; omega)]
        refine Ev.step (f := fun _ => some _) (fun k => ?_) (Ev.now _)
        rw [spec_MinsOf.l0, if_pos (by omega), if_pos (by omega), rd_nat, if_neg c1, if_pos c2]
      · rw [show Fv.p48 (l.getD i 0) = true from (p48_iff _).2 (by omega), Bool.true_and]
        refine Ev.step (fun k => ?_) (ih (i + 1) (by omega))
        rw [spec_MinsOf.l0, if_pos (by omega), if_pos (by omega), rd_nat, if_neg c1, if_neg c2, w64 (by omega) (by omega)]
        rfl
theorem specMinsOf_ev (l : List Int) : Ev (fun k => spec_MinsOf.f k l) (minsR l) := by
  by_cases c : l.length ≤ 301
  · have h1 := spec_l0 l c l.length 0 (by omega)
    rw [List.drop_zero] at h1
    unfold minsR
    simp only [c, true_and]
    refine Ev.congr (fun k => ?_) h1
    unfold spec_MinsOf.f
    rw [if_neg (by omega)]
    rfl
  · unfold minsR
    rw [if_neg (by omega)]
    refine Ev.congr (f := fun _ => some _) (fun k => ?_) (Ev.now _)
    unfold spec_MinsOf.f
    rw [if_pos (by omega)]
-- slices.Repeat of one number
theorem repeat_kopy (h : Int) (N n : Nat) (hn : n ≤ N) : kopy (List.replicate n h ++ List.replicate (N - n) 0) n ((List.replicate n h ++ List.replicate (N - n) 0).take n) = List.replicate (n + min n (N - n)) h ++ List.replicate (N - (n + min n (N - n))) 0 := by
  have e1 : (List.replicate n h ++ List.replicate (N - n) (0 : Int)).take n = List.replicate n h := by rw [List.take_append_of_le_length (by simp), List.take_of_length_le (by simp)]
  have e2 : (List.replicate n h ++ List.replicate (N - n) (0 : Int)).length = N := by simp; omega
  unfold kopy
  rw [e1, e2, List.take_replicate, List.length_replicate, List.drop_append, List.length_replicate, List.drop_eq_nil_of_le (by simp), List.nil_append, List.drop_replicate, ← List.append_assoc, List.replicate_append_replicate, Nat.min_comm (N - n) n]
  congr 2
  omega
theorem repeat_l0 (h : Int) (N : Nat) (hN : N ≤ 1048576) (d : Nat) : ∀ n : Nat, N - n ≤ d → 1 ≤ n → n ≤ N → Ev (fun k => slices_Repeat_int_int.l0 k (List.replicate n h ++ List.replicate (N - n) 0) (n : Int)) (List.replicate N h) := by
  induction d with
  | zero =>
    intro n h1 h2 h3
    obtain rfl : n = N := by omega
    refine Ev.step (f := fun _ => some _) (fun k => ?_) (Ev.now _)
    rw [slices_Repeat_int_int.l0, if_neg (by simp), Nat.sub_self, List.replicate_zero, List.append_nil]
  | succ d ih =>
    intro n h1 h2 h3
    by_cases c : n < N
    · have e2 : (List.replicate n h ++ List.replicate (N - n) (0 : Int)).length = N := by simp; omega
      refine Ev.step (fun k => ?_) (ih (n + min n (N - n)) (by omega) (by omega) (by omega))
      rw [slices_Repeat_int_int.l0, if_pos (by rw [e2]; omega), if_pos (by omega), if_pos (by rw [e2]; omega), Option.bind_some, Int.toNat_natCast, repeat_kopy h N n h3, e2, List.length_take, e2, Nat.min_eq_left h3, w64 (by omega) (by omega)]
      rw [show (n : Int) + ((min n (N - n) : Nat) : Int) = ((n + min n (N - n) : Nat) : Int) by omega]
    · obtain rfl : n = N := by omega
      refine Ev.step (f := fun _ => some _) (fun k => ?_) (Ev.now _)
      rw [slices_Repeat_int_int.l0, if_neg (by simp), Nat.sub_self, List.replicate_zero, List.append_nil]
theorem mul_one_ev (P : Nat) (h : P = 1 ∨ P = 2 ∨ P = 4 ∨ P = 8 ∨ P = 16 ∨ P = 32 ∨ P = 64 ∨ P = 128 ∨ P = 256 ∨ P = 512) : bits_Mul.f (IntKind.u64.wrap 1) (IntKind.u64.wrap (2 * (P : Int))) = some (0, 2 * (P : Int)) := by
  rcases h with rfl | rfl | rfl | rfl | rfl | rfl | rfl | rfl | rfl | rfl <;> decide
theorem repeat_ev (h : Int) (P : Nat) (hP : P = 1 ∨ P = 2 ∨ P = 4 ∨ P = 8 ∨ P = 16 ∨ P = 32 ∨ P = 64 ∨ P = 128 ∨ P = 256 ∨ P = 512) : Ev (fun k => slices_Repeat_int_int.f k [h] (2 * (P : Int))) (List.replicate (2 * P) h) := by
  have hb : 1 ≤ P ∧ P ≤ 512 := by omega
  have h0 := repeat_l0 h (2 * P) (by omega) (2 * P) 1 (by omega) (by omega) (by omega)
  have h1 : Ev (fun k => slices_Repeat_int_int.j0 k [h] (2 * (P : Int)) false) (List.replicate (2 * P) h) := by
    refine Ev.step (fun k => ?_) h0
    rw [slices_Repeat_int_int.j0, if_neg (by decide), w64 (by omega) (by omega), if_pos (by omega), if_pos (by omega), Option.bind_some, show (2 * (P : Int)).toNat = 2 * P by omega, List.length_replicate, Nat.sub_zero, show min [h].length (2 * P) = 1 by simp; omega]
    congr 1
    unfold kopy
    rw [List.take_zero, List.nil_append, List.length_replicate, Nat.sub_zero, List.take_of_length_le (by simp; omega), List.drop_replicate]
    simp
  refine Ev.congr (fun k => ?_) h1
  unfold slices_Repeat_int_int.f
  rw [if_neg (by omega), show (([h] : List Int).length : Int) = 1 from rfl, mul_one_ev P hP, Option.bind_some, if_neg (by show ¬ ((0 : Int) > 0); decide)]
  rw [show decide ((0, 2 * (P : Int)).2 > 9223372036854775807) = false by rw [decide_eq_false_iff_not]; show ¬ (2 * (P : Int) > 9223372036854775807); omega]
theorem minsOf_ev (l : List Int) (h : l.length ≤ 512) : Ev (fun k => impl_minsOf.f k l) ((l.length : Int), mTree l) := by
  have h0 := leaves_ev (l.length : Int) (by omega)
  rw [Int.toNat_natCast] at h0
  have h1 := repeat_ev 1000000000 (lvs l.length) (lvs_cases _)
  have hp := lvs_pos l.length
  have hle := lvs_le l.length h
  have hml := mLeaves_length l h
  have h2 := minsOf_l0 1000000000 (l.length : Int) (2 * lvs l.length) (by omega) (lvs l.length - 1) (mLeaves l) (by omega) (by omega)
  obtain ⟨K0, h0⟩ := ev_out h0
  obtain ⟨K1, h1⟩ := ev_out h1
  obtain ⟨K2, h2⟩ := ev_out h2
  refine ev_mk (K0 + K1 + K2) fun k hk => ?_
  have e : kopy (List.replicate (2 * lvs l.length) (1000000000 : Int)) (lvs l.length) l = List.replicate (lvs l.length) 1000000000 ++ mLeaves l := by
    unfold kopy mLeaves
    rw [List.length_replicate, List.take_replicate, Nat.min_eq_left (by omega), List.take_of_length_le (by omega), List.drop_replicate]
    congr 3
    omega
  unfold impl_minsOf.f
  rw [h0 k (by omega), Option.bind_some, w64 (by omega) (by omega), h1 k (by omega), Option.bind_some, if_pos (by omega), if_pos (by rw [List.length_replicate]; omega), w64 (by omega) (by omega), Int.toNat_natCast, e]
  have h3 := h2 k (by omega)
  rw [show lvs l.length - 1 + 1 = lvs l.length by omega, show ((lvs l.length - 1 : Nat) : Int) = (lvs l.length : Int) - 1 by omega] at h3
  exact h3
theorem areMins_eq (l : List Int) : impl_areMins.f l = some (decide (l.length ≤ 301) && l.all Fv.p48) := by
  unfold impl_areMins.f impl_areAll_48.f
  by_cases c : l.length ≤ 301
  · rw [if_pos (by omega), if_pos (by unfold maxLen; omega), Option.bind_some]
    simp [c]
  · rw [if_neg (by omega)]
    simp [c]
theorem minsR_length (l : List Int) : (minsR l).2.1.length ≤ 1024 := by
  unfold minsR
  split
  · rename_i h
    show (mTree l).length ≤ 1024
    rw [mTree_length l (by omega)]
    have := lvs_pos l.length
    omega
  · simp
theorem eqMins_ev (n : Int) (T : List Int) (h : T.length ≤ 4000000) : Ev (fun k => laws_eqMins.f k n T n T) true := by
  obtain ⟨K0, h0⟩ := ev_out (eqIntS_ev T h)
  refine ev_mk K0 fun k hk => ?_
  unfold laws_eqMins.f
  rw [if_pos rfl, h0 k hk, Option.bind_some, if_pos rfl]

theorem markMins_ev (n : Int) (T : List Int) (h : T.length ≤ 4000000) : Ev (fun k => laws_markMins.f k n T 1) (1 + (T.length : Int), marksL T.length) := by
  obtain ⟨K0, h0⟩ := ev_out (markL_ev T h)
  refine ev_mk K0 fun k hk => ?_
  unfold laws_markMins.f
  rw [h0 k hk, Option.bind_some]

-- what both read of a given tree
def rl (N : Int) (T : List Int) : List Int := if 0 ≤ N ∧ N ≤ ((T.length / 2 : Nat) : Int) ∧ T.length / 2 ≤ 512 then (T.take (T.length / 2 + N.toNat)).drop (T.length / 2) else []
def okN (N : Int) (T : List Int) : Bool := decide (minsR (rl N T) = (N, T, true))
theorem rl_length {N : Int} {T : List Int} (h0 : 0 ≤ N) (h1 : N ≤ ((T.length / 2 : Nat) : Int)) (h2 : T.length / 2 ≤ 512) : (rl N T).length = N.toNat := by
  unfold rl
  rw [if_pos ⟨h0, h1, h2⟩, List.length_drop, List.length_take]
  omega
theorem okN_out {N : Int} {T : List Int} (h : okN N T = true) : 0 ≤ N ∧ N ≤ 301 ∧ T.length = 2 * lvs N.toNat ∧ (rl N T).all Fv.p48 = true ∧ mTree (rl N T) = T ∧ (rl N T).length = N.toNat := by
  have h1 := of_decide_eq_true h
  unfold minsR at h1
  split at h1
  · rename_i hc
    injection h1 with e1 e2
    injection e2 with e2 _
    have hl := mTree_length (rl N T) (by omega)
    rw [e2] at hl
    have e3 : (rl N T).length = N.toNat := by omega
    rw [e3] at hl
    exact ⟨by omega, by omega, hl, hc.2, e2, e3⟩
  · injection h1 with _ h2
    injection h2 with _ h3
    cases h3
theorem okN_in {N : Int} {T : List Int} (h0 : 0 ≤ N) (h1 : N ≤ 301) (h2 : T.length = 2 * lvs N.toNat) (h3 : (rl N T).all Fv.p48 = true) : okN N T = decide (mTree (rl N T) = T) := by
  have hp := lvs_pos N.toNat
  have hle := lvs_le N.toNat (by omega)
  have hr := rl_length (T := T) h0 (by omega) (by omega)
  unfold okN minsR
  rw [if_pos ⟨by omega, h3⟩, show ((rl N T).length : Int) = N by omega]
  by_cases c : mTree (rl N T) = T
  · rw [decide_eq_true c, decide_eq_true_eq, c]
  · rw [decide_eq_false c, decide_eq_false_iff_not]
    intro h
    injection h with _ h
    injection h with h _
    exact c h
theorem drop_cons (a : List Int) (i : Nat) (h : i < a.length) : a.drop i = a.getD i 0 :: a.drop (i + 1) := by
  rw [List.drop_eq_getElem_cons h, lget_lt a i 0 h]
theorem l10List_ev (N : Int) (T : List Int) (hT : T.length ≤ 4000000) : Ev (fun k => spec_l10List.f k N T) (rl N T) := by
  obtain ⟨p, hp⟩ : ∃ p, p = T.length / 2 := ⟨_, rfl⟩
  have hw : wrap64 ((T.length : Int) / 2) = (p : Int) := by rw [w64 (by omega) (by omega)]; omega
  have hbad : ¬ (0 ≤ N ∧ N ≤ ((T.length / 2 : Nat) : Int) ∧ T.length / 2 ≤ 512) → Ev (fun k => spec_l10List.j0 k (p : Int) true N T) (rl N T) := by
    intro h
    unfold rl
    rw [if_neg h]
    refine Ev.step (f := fun _ => some _) (fun k => ?_) (Ev.now _)
    rw [spec_l10List.j0, if_pos rfl]
  by_cases c1 : N < 0
  · refine Ev.congr (fun k => ?_) (hbad (by omega))
    unfold spec_l10List.f
    rw [if_pos c1, hw]
  by_cases c2 : N > (p : Int)
  · refine Ev.congr (fun k => ?_) (hbad (by omega))
    unfold spec_l10List.f
    rw [if_neg c1, hw, if_pos c2]
  by_cases c3 : (p : Int) > 512
  · refine Ev.congr (fun k => ?_) (hbad (by omega))
    unfold spec_l10List.f
    rw [if_neg c1, hw, if_neg c2, decide_eq_true c3]
  have hr := rl_length (N := N) (T := T) (by omega) (by omega) (by omega)
  have hd : (T.take (wrap64 ((p : Int) + N)).toNat).drop ((p : Int).toNat) = rl N T := by
    unfold rl
    rw [if_pos ⟨by omega, by omega, by omega⟩, w64 (by omega) (by omega), Int.toNat_natCast, hp, show (((T.length / 2 : Nat) : Int) + N).toNat = T.length / 2 + N.toNat by omega]
  refine Ev.congr (f := fun k => spec_l10List.j0 k (p : Int) false N T) (fun k => ?_) (Ev.step (f := fun _ => some _) (fun k => ?_) (Ev.now _))
  · unfold spec_l10List.f
    rw [if_neg c1, hw, if_neg c2, decide_eq_false c3]
  · have hw2 : wrap64 ((p : Int) + N) = (p : Int) + N := w64 (by omega) (by omega)
    rw [spec_l10List.j0, if_neg (by decide), Option.bind_some, hd, hw2, if_pos (by omega), if_pos (by omega), if_pos (by omega), if_pos (by rw [hr]; simp only [List.length_nil]; omega), List.nil_append]
theorem same_l0 (a b : List Int) (hl : a.length = b.length) (h : a.length ≤ 4000000) (d : Nat) : ∀ i : Nat, i + d = a.length → Ev (fun k => spec_l01Same.l0 k a b (i : Int)) (decide (a.drop i = b.drop i)) := by
  induction d with
  | zero =>
    intro i hi
    rw [List.drop_eq_nil_of_le (by omega), List.drop_eq_nil_of_le (by omega)]
    refine Ev.step (f := fun _ => some _) (fun k => ?_) (Ev.now _)
    rw [spec_l01Same.l0, if_neg (by omega)]
    rfl
  | succ d ih =>
    intro i hi
    rw [drop_cons a i (by omega), drop_cons b i (by omega)]
    by_cases c : a.getD i 0 = b.getD i 0
    · rw [c, show decide (b.getD i 0 :: a.drop (i + 1) = b.getD i 0 :: b.drop (i + 1)) = decide (a.drop (i + 1) = b.drop (i + 1)) by simp]
      refine Ev.step (fun k => ?_) (ih (i + 1) (by omega))
      rw [spec_l01Same.l0, if_pos (by omega), if_pos (by omega), if_pos (by omega), rd_nat, rd_nat, if_pos c, w64 (by omega) (by omega)]
      rfl
    · rw [decide_eq_false (fun h => c (List.cons.inj h).1)]
      refine Ev.step (f := fun _ => some _) (fun k => ?_) (Ev.now _)
      rw [spec_l01Same.l0, if_pos (by omega), if_pos (by omega), if_pos (by omega), rd_nat, rd_nat, if_neg c]
theorem same_ev (a b : List Int) (h : a.length ≤ 4000000) : Ev (fun k => spec_l01Same.f k a b) (decide (a = b)) := by
  by_cases c : a.length = b.length
  · have h1 := same_l0 a b c h a.length 0 (by omega)
    rw [List.drop_zero, List.drop_zero] at h1
    refine Ev.congr (fun k => ?_) h1
    unfold spec_l01Same.f
    rw [if_pos (by omega)]
    rfl
  · rw [decide_eq_false (fun h => c (by rw [h]))]
    refine Ev.congr (f := fun _ => some _) (fun k => ?_) (Ev.now _)
    unfold spec_l01Same.f
    rw [if_neg (by omega)]
theorem equal_l0 (a b : List Int) (hl : a.length = b.length) (h : a.length ≤ 4000000) (d : Nat) : ∀ i : Nat, i + d = a.length → Ev (fun k => slices_Equal_int_int.l0 k a b (a.length : Int) (i : Int)) (decide (a.drop i = b.drop i)) := by
  induction d with
  | zero =>
    intro i hi
    rw [List.drop_eq_nil_of_le (by omega), List.drop_eq_nil_of_le (by omega)]
    refine Ev.step (f := fun _ => some _) (fun k => ?_) (Ev.now _)
    rw [slices_Equal_int_int.l0, if_neg (by omega)]
    rfl
  | succ d ih =>
    intro i hi
    rw [drop_cons a i (by omega), drop_cons b i (by omega)]
    by_cases c : a.getD i 0 = b.getD i 0
    · rw [c, show decide (b.getD i 0 :: a.drop (i + 1) = b.getD i 0 :: b.drop (i + 1)) = decide (a.drop (i + 1) = b.drop (i + 1)) by simp]
      refine Ev.step (fun k => ?_) (ih (i + 1) (by omega))
      rw [slices_Equal_int_int.l0, if_pos (by omega), if_pos (by omega), if_pos (by omega), if_pos (by omega), rd_nat, rd_nat, if_pos c, w64 (by omega) (by omega)]
      rfl
    · rw [decide_eq_false (fun h => c (List.cons.inj h).1)]
      refine Ev.step (f := fun _ => some _) (fun k => ?_) (Ev.now _)
      rw [slices_Equal_int_int.l0, if_pos (by omega), if_pos (by omega), if_pos (by omega), if_pos (by omega), rd_nat, rd_nat, if_neg c]
theorem equal_ev (a b : List Int) (h : a.length ≤ 4000000) : Ev (fun k => slices_Equal_int_int.f k a b) (decide (a = b)) := by
  by_cases c : a.length = b.length
  · have h1 := equal_l0 a b c h a.length 0 (by omega)
    rw [List.drop_zero, List.drop_zero] at h1
    refine Ev.congr (fun k => ?_) h1
    unfold slices_Equal_int_int.f
    rw [if_pos (by omega)]
    rfl
  · rw [decide_eq_false (fun h => c (by rw [h]))]
    refine Ev.congr (f := fun _ => some _) (fun k => ?_) (Ev.now _)
    unfold slices_Equal_int_int.f
    rw [if_neg (by omega)]
theorem specMinsOk_ev (N : Int) (T : List Int) (hT : T.length ≤ 4000000) : Ev (fun k => spec_MinsOk.f k N T) (okN N T) := by
  have hl := minsR_length (rl N T)
  obtain ⟨K0, h0⟩ := ev_out (l10List_ev N T hT)
  obtain ⟨K1, h1⟩ := ev_out (specMinsOf_ev (rl N T))
  obtain ⟨K2, h2⟩ := ev_out (same_ev (minsR (rl N T)).2.1 T (by omega))
  refine ev_mk (K0 + K1 + K2) fun k hk => ?_
  unfold spec_MinsOk.f
  rw [h0 k (by omega), Option.bind_some, h1 k (by omega), Option.bind_some]
  obtain ⟨⟨a, b, c⟩, hr⟩ : ∃ z, z = minsR (rl N T) := ⟨_, rfl⟩
  rw [← hr] at h2 ⊢
  unfold okN
  rw [← hr]
  have e2 : spec_l01Same.f k b T = some (decide (b = T)) := h2 k (by omega)
  show (if c = true then (if a = N then ((spec_l01Same.f k b T).bind fun t => some t) else some false) else some false) = _
  by_cases c1 : c = true
  · rw [if_pos c1]
    by_cases c2 : a = N
    · rw [if_pos c2, e2, Option.bind_some, c1, c2]
      congr 1
      simp
    · rw [if_neg c2, decide_eq_false (fun h => c2 (by injection h))]
  · rw [if_neg c1, decide_eq_false (fun h => c1 (by injection h with _ h; injection h))]
theorem within_eq (a b c : Int) : impl_within.f a b c = some (decide (b ≤ a ∧ a ≤ c)) := by
  unfold impl_within.f
  by_cases h : b ≤ a
  · rw [if_pos h]
    simp [h]
  · rw [if_neg h]
    simp [h]
theorem read_ev (N : Int) (T : List Int) (hT : T.length ≤ 4000000) : ∃ X, Ev (fun k => impl_Mins_read.f k N T) (X, okN N T) ∧ (okN N T = true → X = rl N T) := by
  obtain ⟨K0, h0⟩ := ev_out (leaves_ev (mn N 301) (by unfold mn; split <;> omega))
  obtain ⟨P, hP⟩ : ∃ P, P = lvs (mn N 301).toNat := ⟨_, rfl⟩
  have hp := lvs_pos (mn N 301).toNat
  rw [← hP] at h0 hp
  have hbad : ∀ (K : Nat), (∀ k, K ≤ k → impl_Mins_read.f k N T = impl_Mins_read.j0 k (P : Int) true N T) → okN N T = false → ∃ X, Ev (fun k => impl_Mins_read.f k N T) (X, okN N T) ∧ (okN N T = true → X = rl N T) := by
    intro K hK hf
    refine ⟨[], ev_mk (K + 1) fun k hk => ?_, fun h => by rw [hf] at h; cases h⟩
    rw [hK k (by omega)]
    obtain ⟨k, rfl⟩ : ∃ m, k = m + 1 := ⟨k - 1, by omega⟩
    rw [impl_Mins_read.j0, if_pos rfl, hf]
  by_cases c1 : 0 ≤ N ∧ N ≤ 301
  · have hm : mn N 301 = N := by unfold mn; split <;> omega
    rw [hm] at hP h0
    have hle := lvs_le N.toNat (by omega)
    rw [← hP] at hle
    have hw : wrap64 (2 * (P : Int)) = ((2 * P : Nat) : Int) := by rw [w64 (by omega) (by omega)]; omega
    have hfun : ∀ k, K0 ≤ k → impl_Mins_read.f k N T = impl_Mins_read.j0 k (P : Int) ((T.length : Int) != ((2 * P : Nat) : Int)) N T := by
      intro k hk
      unfold impl_Mins_read.f
      rw [hm, h0 k hk, Option.bind_some, within_eq, Option.bind_some, decide_eq_true c1, if_pos rfl, hw]
    by_cases c2 : T.length = 2 * P
    · have hb : ((T.length : Int) != ((2 * P : Nat) : Int)) = false := by rw [c2]; simp
      rw [hb] at hfun
      have hr := rl_length (N := N) (T := T) c1.1 (by omega) (by omega)
      have hd : (T.take (wrap64 ((P : Int) + N)).toNat).drop ((P : Int).toNat) = rl N T := by
        unfold rl
        rw [if_pos ⟨by omega, by omega, by omega⟩, w64 (by omega) (by omega), Int.toNat_natCast, c2, show 2 * P / 2 = P by omega, show ((P : Int) + N).toNat = P + N.toNat by omega]
      have hw2 : wrap64 ((P : Int) + N) = (P : Int) + N := w64 (by omega) (by omega)
      obtain ⟨K1, h1⟩ := ev_out (minsOf_ev (rl N T) (by omega))
      obtain ⟨K2, h2⟩ := ev_out (equal_ev (mTree (rl N T)) T (by rw [mTree_length _ (by omega)]; have := lvs_pos (rl N T).length; omega))
      refine ⟨rl N T, ev_mk (K0 + K1 + K2 + 1) fun k hk => ?_, fun _ => rfl⟩
      rw [hfun k (by omega)]
      obtain ⟨k, rfl⟩ : ∃ m, k = m + 1 := ⟨k - 1, by omega⟩
      rw [impl_Mins_read.j0, if_neg (by decide), hd, hw2, if_pos (by omega), if_pos (by omega), if_pos (by omega), Option.bind_some, areMins_eq, Option.bind_some]
      by_cases c3 : (rl N T).all Fv.p48 = true
      · rw [c3, decide_eq_true (show (rl N T).length ≤ 301 by omega), if_pos (by rfl), h1 k (by omega), Option.bind_some, h2 k (by omega), Option.bind_some, okN_in c1.1 c1.2 (by rw [c2, hP]) c3]
      · have hf : okN N T = false := by
          cases h : okN N T with
          | false => rfl
          | true => exact absurd (okN_out h).2.2.2.1 c3
        rw [if_neg (by rw [Bool.and_eq_true]; exact fun h => c3 h.2), hf]
    · have hb : ((T.length : Int) != ((2 * P : Nat) : Int)) = true := by simp only [bne_iff_ne, ne_eq]; omega
      rw [hb] at hfun
      refine hbad K0 hfun ?_
      cases h : okN N T with
      | false => rfl
      | true => have := (okN_out h).2.2.1; rw [← hP] at this; exact absurd this c2
  · refine hbad K0 (fun k hk => ?_) ?_
    · unfold impl_Mins_read.f
      rw [h0 k hk, Option.bind_some, within_eq, Option.bind_some, decide_eq_false c1, if_neg (by decide)]
    · cases h : okN N T with
      | false => rfl
      | true => exact absurd ⟨(okN_out h).1, (okN_out h).2.1⟩ c1
theorem toMins_ev (N : Int) (T : List Int) (hT : T.length ≤ 4000000) : Ev (fun k => laws_toMins.f k N T) (N, T) := by
  obtain ⟨K0, h0⟩ := ev_out (toIntS_ev T hT)
  refine ev_mk K0 fun k hk => ?_
  unfold laws_toMins.f
  rw [h0 k hk, Option.bind_some]
theorem szMins_big (N : Int) (T : List Int) (hT : T.length ≤ maxLen) (h : ¬ T.length ≤ 1048576) : laws_szMins.f N T 1048576 = some (-1) := by
  unfold laws_szMins.f laws_szIntS.f
  unfold maxLen at hT
  rw [w64 (by omega) (by omega), if_pos (by omega), Option.bind_some, if_pos (by decide)]
theorem szMins_ok (N : Int) (T : List Int) (h : T.length ≤ 1048576) : laws_szMins.f N T 1048576 = some (1048576 - (T.length : Int)) := by
  unfold laws_szMins.f laws_szIntS.f
  rw [w64 (by omega) (by omega), if_neg (by omega), Option.bind_some, if_neg (by omega)]

def listA (N : Int) (T : List Int) : List Int := if okN N T = true then rl N T else []
theorem listA_length (N : Int) (T : List Int) : (listA N T).length ≤ 512 := by
  unfold listA
  split
  · rename_i h
    have := okN_out h
    omega
  · simp
theorem specList_ev (N : Int) (T : List Int) (hT : T.length ≤ 4000000) : Ev (fun k => spec_MinsList.f k N T) (listA N T) := by
  obtain ⟨K0, h0⟩ := ev_out (specMinsOk_ev N T hT)
  obtain ⟨K1, h1⟩ := ev_out (l10List_ev N T hT)
  refine ev_mk (K0 + K1) fun k hk => ?_
  unfold spec_MinsList.f listA
  rw [h0 k (by omega), Option.bind_some]
  by_cases c : okN N T = true
  · rw [if_pos c, if_pos c, h1 k (by omega), Option.bind_some]
  · rw [if_neg c, if_neg c]
theorem clone_ev (l : List Int) (h : l.length ≤ 4000000) : slices_Clone_int_int.f l = some l := by
  unfold slices_Clone_int_int.f
  rw [if_pos (by omega)]
theorem implList_ev (N : Int) (T : List Int) (hT : T.length ≤ 4000000) : Ev (fun k => impl_MinsList.f k N T) (listA N T) := by
  obtain ⟨X, h0, hX⟩ := read_ev N T hT
  obtain ⟨K0, h0⟩ := ev_out h0
  refine ev_mk K0 fun k hk => ?_
  unfold impl_MinsList.f listA
  rw [h0 k (by omega), Option.bind_some]
  by_cases c : okN N T = true
  · have ho := okN_out c
    obtain rfl := hX c
    rw [if_pos c, if_pos c]
    dsimp only
    rw [clone_ev _ (by omega), Option.bind_some]
  · rw [if_neg c, if_neg c]

theorem FnExactMinsList : laws_FnExactMinsList.Pure := by
  intro N T hok
  have hT : T.length ≤ maxLen := hok.2.1
  by_cases g : T.length ≤ 1048576
  · have hl := listA_length N T
    obtain ⟨K0, h0⟩ := ev_out (toMins_ev N T (by omega))
    obtain ⟨K1, h1⟩ := ev_out (specList_ev N T (by omega))
    obtain ⟨K2, h2⟩ := ev_out (implList_ev N T (by omega))
    obtain ⟨K3, h3⟩ := ev_out (eqMins_ev N T (by omega))
    obtain ⟨K4, h4⟩ := ev_out (eqIntS_ev (listA N T) (by omega))
    obtain ⟨K5, h5⟩ := ev_out (markMins_ev N T (by omega))
    obtain ⟨K6, h6⟩ := ev_out (markL_ev (listA N T) (by omega))
    obtain ⟨K7, h7⟩ := ev_out (heldL_ev (listA N T).length (by omega))
    refine ⟨K0 + K1 + K2 + K3 + K4 + K5 + K6 + K7 + 1, ?_⟩
    unfold laws_FnExactMinsList.f
    rw [szMins_ok N T g, Option.bind_some, if_neg (by omega), h0 _ (by omega), Option.bind_some, h1 _ (by omega), Option.bind_some, Option.bind_some, h2 _ (by omega), Option.bind_some, h4 _ (by omega), Option.bind_some, if_pos rfl, Option.bind_some, h3 _ (by omega), Option.bind_some, if_pos rfl, h5 _ (by omega), Option.bind_some, if_neg (by show ¬ (1 + (T.length : Int) < 0); omega), Option.bind_some, Bool.not_true,
      laws_FnExactMinsList.j0, if_neg (by decide), h6 _ (by omega), Option.bind_some, h7 _ (by omega), Option.bind_some, if_neg (by omega), if_pos rfl, h0 _ (by omega), Option.bind_some, h2 _ (by omega), Option.bind_some, h4 _ (by omega), Option.bind_some, if_pos rfl, Option.bind_some, if_neg (by omega), if_pos rfl]
  · refine ⟨0, ?_⟩
    unfold laws_FnExactMinsList.f
    rw [szMins_big N T hT g, Option.bind_some, if_pos (by decide)]

end Go.Proofs.Ytpheodpcppclaaa.Pure
