/- For drawn numbers, a drawn place and a drawn value that are taken: changing one number leaves all others unchanged, and the minima are told anew. -/
import Derived.Test.YtpheodpcppclaaaQFnMinsSetx11
import Derived.Test.YtpheodpcppclaaaBase
namespace Go.Proofs.Ytpheodpcppclaaa.Pure
open Go.RowKit Go.Proofs.Ytpheodpcppclaaa.QFnMinsSet Go.Proofs.YtpheodpcppclaaaW.PrintWords Go.Proofs.YtpheodpcppclaaaW.PrintLast Go.Proofs.YtpheodpcppclaaaW.PrintMore
open Go.Proofs.Ytpheodpcppclaaa Go.Proofs.Ytpheodpcppclaaa.Base
set_option linter.unusedVariables false
set_option linter.unusedSimpArgs false

-- the tree of minima: what both make
def up (n : Nat) : Nat → Nat → Nat
  | 0, p => p
  | d + 1, p => if p < n then up n d (2 * p) else p
def lvs (n : Nat) : Nat := up n 9 1
theorem lvs_le (n : Nat) (h : n ≤ 512) : n ≤ lvs n := by
  unfold lvs
  simp only [up]
  repeat' split
  all_goals omega
theorem lvs_cases (n : Nat) : lvs n = 1 ∨ lvs n = 2 ∨ lvs n = 4 ∨ lvs n = 8 ∨ lvs n = 16 ∨ lvs n = 32 ∨ lvs n = 64 ∨ lvs n = 128 ∨ lvs n = 256 ∨ lvs n = 512 := by
  unfold lvs
  simp only [up]
  repeat' split
  all_goals omega
theorem lvs_pos (n : Nat) : 1 ≤ lvs n ∧ lvs n ≤ 512 := by
  rcases lvs_cases n with h | h | h | h | h | h | h | h | h | h <;> omega
def bld : Nat → List Int → List Int
  | 0, S => S
  | i + 1, S => bld i (mn (S.getD i 0) (S.getD (i + 1) 0) :: S)
theorem bld_length : ∀ (i : Nat) (S : List Int), (bld i S).length = i + S.length
  | 0, S => by simp [bld]
  | i + 1, S => by rw [bld, bld_length i, List.length_cons]; omega
def mLeaves (l : List Int) : List Int := l ++ List.replicate (lvs l.length - l.length) 1000000000
def mTree (l : List Int) : List Int := 0 :: bld (lvs l.length - 1) (mLeaves l)
theorem mLeaves_length (l : List Int) (h : l.length ≤ 512) : (mLeaves l).length = lvs l.length := by
  have := lvs_le l.length h
  unfold mLeaves
  rw [List.length_append, List.length_replicate]
  omega
theorem mTree_length (l : List Int) (h : l.length ≤ 512) : (mTree l).length = 2 * lvs l.length := by
  have := lvs_pos l.length
  unfold mTree
  rw [List.length_cons, bld_length, mLeaves_length l h]
  omega
theorem set_rep (c v : Int) (i : Nat) (S : List Int) : (List.replicate (i + 1) c ++ S).set i v = List.replicate i c ++ v :: S := by
  rw [List.replicate_succ', List.append_assoc, List.set_append_right _ _ (by simp)]
  simp
theorem getD_rep (c z : Int) (i j : Nat) (S : List Int) (h : i ≤ j) : (List.replicate i c ++ S).getD j z = S.getD (j - i) z := by
  rw [List.getD_eq_getElem?_getD, List.getD_eq_getElem?_getD, List.getElem?_append_right (by simpa using h), List.length_replicate]
theorem up_l0 (x : Int) (n : Nat) (hx : x.toNat = n) : ∀ d p : Nat, 1 ≤ p → n ≤ p * 2 ^ d → p * 2 ^ d ≤ 512 → Ev (fun k => impl_leaves.l0 k x (p : Int)) ((up n d p : Nat) : Int) := by
  intro d
  induction d with
  | zero =>
    intro p hp h1 h2
    refine Ev.step (f := fun _ => some _) (fun k => ?_) (Ev.now _)
    rw [Nat.pow_zero, Nat.mul_one] at h1
    rw [impl_leaves.l0, if_neg (by omega), up]
  | succ d ih =>
    intro p hp h1 h2
    have e : p * 2 ^ (d + 1) = (2 * p) * 2 ^ d := by rw [Nat.pow_succ, Nat.mul_comm 2 p, Nat.mul_assoc p 2, Nat.mul_comm (2 ^ d) 2]
    have hq : p ≤ p * 2 ^ (d + 1) := Nat.le_mul_of_pos_right p (Nat.two_pow_pos _)
    rw [e] at h1 h2
    rw [e] at hq
    by_cases c : p < n
    · rw [up, if_pos c]
      refine Ev.step (fun k => ?_) (ih (2 * p) (by omega) h1 h2)
      rw [impl_leaves.l0, if_pos (by omega), w64 (by omega) (by omega)]
      rw [show (p : Int) * 2 = ((2 * p : Nat) : Int) by omega]
    · rw [up, if_neg c]
      refine Ev.step (f := fun _ => some _) (fun k => ?_) (Ev.now _)
      rw [impl_leaves.l0, if_neg (by omega)]
theorem leaves_ev (x : Int) (h : x ≤ 512) : Ev (fun k => impl_leaves.f k x) ((lvs x.toNat : Nat) : Int) :=
  up_l0 x x.toNat rfl 9 1 (by omega) (by omega) (by omega)
theorem minsOf_l0 (c n : Int) (N : Nat) (hN : N ≤ 1024) : ∀ (i : Nat) (S : List Int), i + 1 + S.length = N → 2 * i + 1 < N → Ev (fun k => impl_minsOf.l0 k (i : Int) n (List.replicate (i + 1) c ++ S)) (n, 0 :: bld i S) := by
  intro i
  induction i with
  | zero =>
    intro S h1 h2
    refine Ev.step (f := fun _ => some _) (fun k => ?_) (Ev.now _)
    rw [impl_minsOf.l0, if_neg (by omega), if_pos (by rw [List.length_append, List.length_replicate]; omega)]
    rfl
  | succ i ih =>
    intro S h1 h2
    have hl : (List.replicate (i + 1 + 1) c ++ S).length = N := by rw [List.length_append, List.length_replicate]; exact h1
    rw [bld]
    refine Ev.step (fun k => ?_) (ih (mn (S.getD i 0) (S.getD (i + 1) 0) :: S) (by rw [List.length_cons]; omega) (by omega))
    rw [impl_minsOf.l0, if_pos (by omega), w64 (by omega) (by omega), w64 (by omega) (by omega), w64 (by omega) (by omega), if_pos (by omega), if_pos (by rw [hl]; omega), if_pos (by omega), if_pos (by rw [hl]; omega), if_pos (by omega), if_pos (by rw [hl]; omega),
      show (2 * ((i + 1 : Nat) : Int)) + 1 = ((2 * (i + 1) + 1 : Nat) : Int) by omega, show 2 * ((i + 1 : Nat) : Int) = ((2 * (i + 1) : Nat) : Int) by omega, rd_nat, rd_nat, getD_rep c 0 _ _ S (by omega), getD_rep c 0 _ _ S (by omega), Int.toNat_natCast, set_rep,
      show ((i + 1 : Nat) : Int) - 1 = (i : Int) by omega, show 2 * (i + 1) - (i + 1 + 1) = i by omega, show 2 * (i + 1) + 1 - (i + 1 + 1) = i + 1 by omega]
-- what the reference makes: the inner nodes, then the leaves
theorem spec_l2i (l : List Int) (n : Int) (P N : Nat) (hN : N ≤ 1024) : ∀ (i : Nat) (S : List Int), i + 1 + S.length = N → 2 * i + 1 < N → i < P → Ev (fun k => spec_MinsOf.l2 k l (P : Int) (i : Int) n (List.replicate (i + 1) 0 ++ S)) (n, 0 :: bld i S, true) := by
  intro i
  induction i with
  | zero =>
    intro S h1 h2 h3
    refine Ev.step (f := fun _ => some _) (fun k => ?_) (Ev.now _)
    rw [spec_MinsOf.l2, if_neg (by omega)]
    rfl
  | succ i ih =>
    intro S h1 h2 h3
    have hl : (List.replicate (i + 1 + 1) (0 : Int) ++ S).length = N := by rw [List.length_append, List.length_replicate]; exact h1
    rw [bld]
    refine Ev.step (fun k => ?_) (ih (mn (S.getD i 0) (S.getD (i + 1) 0) :: S) (by rw [List.length_cons]; omega) (by omega) (by omega))
    rw [spec_MinsOf.l2, if_pos (by omega), if_pos (by omega), w64 (by omega) (by omega), w64 (by omega) (by omega), w64 (by omega) (by omega), if_pos (by omega), if_pos (by rw [hl]; omega), if_pos (by omega), if_pos (by rw [hl]; omega), if_pos (by omega), if_pos (by rw [hl]; omega),
      show (2 * ((i + 1 : Nat) : Int)) + 1 = ((2 * (i + 1) + 1 : Nat) : Int) by omega, show 2 * ((i + 1 : Nat) : Int) = ((2 * (i + 1) : Nat) : Int) by omega, rd_nat, rd_nat, getD_rep 0 0 _ _ S (by omega), getD_rep 0 0 _ _ S (by omega), Int.toNat_natCast, set_rep,
      show ((i + 1 : Nat) : Int) - 1 = (i : Int) by omega, show 2 * (i + 1) - (i + 1 + 1) = i by omega, show 2 * (i + 1) + 1 - (i + 1 + 1) = i + 1 by omega]
theorem spec_l2 (l : List Int) (h : l.length ≤ 512) : ∀ m : Nat, m ≤ lvs l.length → Ev (fun k => spec_MinsOf.l2 k l (lvs l.length : Int) ((lvs l.length + m : Nat) - 1 : Int) (l.length : Int) (List.replicate (lvs l.length + m) 0 ++ (mLeaves l).drop m)) ((l.length : Int), mTree l, true) := by
  obtain ⟨P, hP⟩ : ∃ P, P = lvs l.length := ⟨_, rfl⟩
  have hP1 := lvs_pos l.length
  have hP2 := mLeaves_length l h
  rw [← hP] at hP1 hP2 ⊢
  intro m
  induction m with
  | zero =>
    intro _
    have h1 := spec_l2i l (l.length : Int) P (2 * P) (by omega) (P - 1) (mLeaves l) (by omega) (by omega) (by omega)
    rw [show P - 1 + 1 = P + 0 by omega, show ((P - 1 : Nat) : Int) = ((P + 0 : Nat) : Int) - 1 by omega] at h1
    rw [List.drop_zero]
    unfold mTree
    rw [← hP]
    exact h1
  | succ m ih =>
    intro hm
    have hl : (List.replicate (P + (m + 1)) (0 : Int) ++ (mLeaves l).drop (m + 1)).length = 2 * P := by rw [List.length_append, List.length_replicate, List.length_drop]; omega
    have hd : (mLeaves l).drop m = (mLeaves l).getD m 0 :: (mLeaves l).drop (m + 1) := by rw [List.drop_eq_getElem_cons (by omega), lget_lt (mLeaves l) m 0 (by omega)]
    have hset : ∀ v, v = (mLeaves l).getD m 0 → (List.replicate (P + (m + 1)) (0 : Int) ++ (mLeaves l).drop (m + 1)).set (P + m) v = List.replicate (P + m) 0 ++ (mLeaves l).drop m := by
      intro v hv
      rw [hd, hv]
      exact set_rep 0 _ (P + m) _
    refine Ev.step (fun k => ?_) (ih (by omega))
    rw [spec_MinsOf.l2, show ((P + (m + 1) : Nat) : Int) - 1 = ((P + m : Nat) : Int) by omega, if_pos (by omega), if_neg (by omega), w64 (by omega) (by omega), w64 (by omega) (by omega), show ((P + m : Nat) : Int) - (P : Int) = (m : Int) by omega]
    by_cases c : m < l.length
    · rw [if_pos (by omega), if_pos (by omega), if_pos (by omega), if_pos (by rw [hl]; omega), rd_nat, Int.toNat_natCast, hset _ (by unfold mLeaves; rw [List.getD_eq_getElem?_getD, List.getD_eq_getElem?_getD, List.getElem?_append_left c])]
    · rw [if_neg (by omega), if_pos (by omega), if_pos (by rw [hl]; omega), Int.toNat_natCast, hset _ (by unfold mLeaves; rw [List.getD_eq_getElem?_getD, List.getElem?_append_right (by omega), List.getElem?_replicate, if_pos (by omega)]; rfl)]
theorem spec_l1 (l : List Int) (h : l.length ≤ 512) : ∀ d p : Nat, 1 ≤ p → l.length ≤ p * 2 ^ d → p * 2 ^ d ≤ 512 → up l.length d p = lvs l.length → Ev (fun k => spec_MinsOf.l1 k l (p : Int)) ((l.length : Int), mTree l, true) := by
  have fin : ∀ p : Nat, 1 ≤ p → p ≤ 512 → p = lvs l.length → ¬ (p < l.length) → Ev (fun k => spec_MinsOf.l1 k l (p : Int)) ((l.length : Int), mTree l, true) := by
    intro p h1 h2 h3 h4
    have h5 := spec_l2 l h (lvs l.length) (Nat.le_refl _)
    rw [← h3] at h5
    rw [List.drop_eq_nil_of_le (by rw [mLeaves_length l h, ← h3]; omega), List.append_nil] at h5
    refine Ev.step (fun k => ?_) h5
    rw [spec_MinsOf.l1, if_neg (by omega), w64 (by omega) (by omega), w64 (by omega) (by omega), if_pos (by omega), if_pos (by omega), show (2 * (p : Int)).toNat = p + p by omega, show 2 * (p : Int) - 1 = ((p + p : Nat) : Int) - 1 by omega]
  intro d
  induction d with
  | zero =>
    intro p hp h1 h2 h3
    rw [Nat.pow_zero, Nat.mul_one] at h1 h2
    exact fin p hp h2 h3 (by omega)
  | succ d ih =>
    intro p hp h1 h2 h3
    have e : p * 2 ^ (d + 1) = (2 * p) * 2 ^ d := by rw [Nat.pow_succ, Nat.mul_comm 2 p, Nat.mul_assoc p 2, Nat.mul_comm (2 ^ d) 2]
    have hq : p ≤ p * 2 ^ (d + 1) := Nat.le_mul_of_pos_right p (Nat.two_pow_pos _)
    rw [e] at h1 h2
    rw [e] at hq
    rw [up] at h3
    by_cases c : p < l.length
    · rw [if_pos c] at h3
      refine Ev.step (fun k => ?_) (ih (2 * p) (by omega) h1 h2 h3)
      rw [spec_MinsOf.l1, if_pos (by omega), w64 (by omega) (by omega)]
      rw [show 2 * (p : Int) = ((2 * p : Nat) : Int) by omega]
    · rw [if_neg c] at h3
      exact fin p hp (by omega) h3 c
def minsR (l : List Int) : Int × List Int × Bool := if l.length ≤ 301 ∧ l.all Fv.p48 = true then ((l.length : Int), mTree l, true) else (0, [], false)
theorem p48_iff (x : Int) : Fv.p48 x = true ↔ 0 ≤ x ∧ x ≤ 1000000 := by unfold Fv.p48 Fv.inR; simp
theorem spec_l0 (l : List Int) (h : l.length ≤ 301) (d : Nat) : ∀ i : Nat, i + d = l.length → Ev (fun k => spec_MinsOf.l0 k l (i : Int)) (if (l.drop i).all Fv.p48 = true then ((l.length : Int), mTree l, true) else (0, [], false)) := by
  induction d with
  | zero =>
    intro i hi
    rw [List.drop_eq_nil_of_le (by omega), if_pos (by rfl)]
    refine Ev.step (fun k => ?_) (spec_l1 l (by omega) 9 1 (by omega) (by omega) (by omega) rfl)
    rw [spec_MinsOf.l0, if_neg (by omega)]
    rfl
  | succ d ih =>
    intro i hi
    have hd : (l.drop i).all Fv.p48 = (Fv.p48 (l.getD i 0) && (l.drop (i + 1)).all Fv.p48) := by rw [List.drop_eq_getElem_cons (by omega), List.all_cons, lget_lt l i 0 (by omega)]
    rw [hd]
    by_cases c1 : l.getD i 0 < 0
    · rw [if_neg (by rw [Bool.and_eq_true, p48_iff]; omega)]
      refine Ev.step (f := fun _ => some _) (fun k => ?_) (Ev.now _)
      rw [spec_MinsOf.l0, if_pos (by omega), if_pos (by omega), rd_nat, if_pos c1]
    · by_cases c2 : l.getD i 0 > 1000000
      · rw [if_neg (by rw [Bool.and_eq_true, p48_iff]; omega)]
        refine Ev.step (f := fun _ => some _) (fun k => ?_) (Ev.now _)
        rw [spec_MinsOf.l0, if_pos (by omega), if_pos (by omega), rd_nat, if_neg c1, if_pos c2]
      · rw [show Fv.p48 (l.getD i 0) = true from (p48_iff _).2 (by omega), Bool.true_and]
        refine Ev.step (fun k => ?_) (ih (i + 1) (by omega))
        rw [spec_MinsOf.l0, if_pos (by omega), if_pos (by omega), rd_nat, if_neg c1, if_neg c2, w64 (by omega) (by omega)]
        rfl
theorem specMinsOf_ev (l : List Int) : Ev (fun k => spec_MinsOf.f k l) (minsR l) := by
  by_cases c : l.length ≤ 301
  · have h1 := spec_l0 l c l.length 0 (by omega)
    rw [List.drop_zero] at h1
    unfold minsR
    simp only [c, true_and]
    refine Ev.congr (fun k => ?_) h1
    unfold spec_MinsOf.f
    rw [if_neg (by omega)]
    rfl
  · unfold minsR
    rw [if_neg (by omega)]
    refine Ev.congr (f := fun _ => some _) (fun k => ?_) (Ev.now _)
    unfold spec_MinsOf.f
    rw [if_pos (by omega)]
-- slices.Repeat of one number
theorem repeat_kopy (h : Int) (N n : Nat) (hn : n ≤ N) : kopy (List.replicate n h ++ List.replicate (N - n) 0) n ((List.replicate n h ++ List.replicate (N - n) 0).take n) = List.replicate (n + min n (N - n)) h ++ List.replicate (N - (n + min n (N - n))) 0 := by
  have e1 : (List.replicate n h ++ List.replicate (N - n) (0 : Int)).take n = List.replicate n h := by rw [List.take_append_of_le_length (by simp), List.take_of_length_le (by simp)]
  have e2 : (List.replicate n h ++ List.replicate (N - n) (0 : Int)).length = N := by simp; omega
  unfold kopy
  rw [e1, e2, List.take_replicate, List.length_replicate, List.drop_append, List.length_replicate, List.drop_eq_nil_of_le (by simp), List.nil_append, List.drop_replicate, ← List.append_assoc, List.replicate_append_replicate, Nat.min_comm (N - n) n]
  congr 2
  omega
theorem repeat_l0 (h : Int) (N : Nat) (hN : N ≤ 1048576) (d : Nat) : ∀ n : Nat, N - n ≤ d → 1 ≤ n → n ≤ N → Ev (fun k => slices_Repeat_int_int.l0 k (List.replicate n h ++ List.replicate (N - n) 0) (n : Int)) (List.replicate N h) := by
  induction d with
  | zero =>
    intro n h1 h2 h3
    obtain rfl : n = N := by omega
    refine Ev.step (f := fun _ => some _) (fun k => ?_) (Ev.now _)
    rw [slices_Repeat_int_int.l0, if_neg (by simp), Nat.sub_self, List.replicate_zero, List.append_nil]
  | succ d ih =>
    intro n h1 h2 h3
    by_cases c : n < N
    · have e2 : (List.replicate n h ++ List.replicate (N - n) (0 : Int)).length = N := by simp; omega
      refine Ev.step (fun k => ?_) (ih (n + min n (N - n)) (by omega) (by omega) (by omega))
      rw [slices_Repeat_int_int.l0, if_pos (by rw [e2]; omega), if_pos (by omega), if_pos (by rw [e2]; omega), Option.bind_some, Int.toNat_natCast, repeat_kopy h N n h3, e2, List.length_take, e2, Nat.min_eq_left h3, w64 (by omega) (by omega)]
      rw [show (n : Int) + ((min n (N - n) : Nat) : Int) = ((n + min n (N - n) : Nat) : Int) by omega]
    · obtain rfl : n = N := by omega
      refine Ev.step (f := fun _ => some _) (fun k => ?_) (Ev.now _)
      rw [slices_Repeat_int_int.l0, if_neg (by simp), Nat.sub_self, List.replicate_zero, List.append_nil]
theorem mul_one_ev (P : Nat) (h : P = 1 ∨ P = 2 ∨ P = 4 ∨ P = 8 ∨ P = 16 ∨ P = 32 ∨ P = 64 ∨ P = 128 ∨ P = 256 ∨ P = 512) : bits_Mul.f (IntKind.u64.wrap 1) (IntKind.u64.wrap (2 * (P : Int))) = some (0, 2 * (P : Int)) := by
  rcases h with rfl | rfl | rfl | rfl | rfl | rfl | rfl | rfl | rfl | rfl <;> decide
theorem repeat_ev (h : Int) (P : Nat) (hP : P = 1 ∨ P = 2 ∨ P = 4 ∨ P = 8 ∨ P = 16 ∨ P = 32 ∨ P = 64 ∨ P = 128 ∨ P = 256 ∨ P = 512) : Ev (fun k => slices_Repeat_int_int.f k [h] (2 * (P : Int))) (List.replicate (2 * P) h) := by
  have hb : 1 ≤ P ∧ P ≤ 512 := by omega
  have h0 := repeat_l0 h (2 * P) (by omega) (2 * P) 1 (by omega) (by omega) (by omega)
  have h1 : Ev (fun k => slices_Repeat_int_int.j0 k [h] (2 * (P : Int)) false) (List.replicate (2 * P) h) := by
    refine Ev.step (fun k => ?_) h0
    rw [slices_Repeat_int_int.j0, if_neg (by decide), w64 (by omega) (by omega), if_pos (by omega), if_pos (by omega), Option.bind_some, show (2 * (P : Int)).toNat = 2 * P by omega, List.length_replicate, Nat.sub_zero, show min [h].length (2 * P) = 1 by simp; omega]
    congr 1
    unfold kopy
    rw [List.take_zero, List.nil_append, List.length_replicate, Nat.sub_zero, List.take_of_length_le (by simp; omega), List.drop_replicate]
    simp
  refine Ev.congr (fun k => ?_) h1
  unfold slices_Repeat_int_int.f
  rw [if_neg (by omega), show (([h] : List Int).length : Int) = 1 from rfl, mul_one_ev P hP, Option.bind_some, if_neg (by show ¬ ((0 : Int) > 0); decide)]
  rw [show decide ((0, 2 * (P : Int)).2 > 9223372036854775807) = false by rw [decide_eq_false_iff_not]; show ¬ (2 * (P : Int) > 9223372036854775807); omega]
theorem minsOf_ev (l : List Int) (h : l.length ≤ 512) : Ev (fun k => impl_minsOf.f k l) ((l.length : Int), mTree l) := by
  have h0 := leaves_ev (l.length : Int) (by omega)
  rw [Int.toNat_natCast] at h0
  have h1 := repeat_ev 1000000000 (lvs l.length) (lvs_cases _)
  have hp := lvs_pos l.length
  have hle := lvs_le l.length h
  have hml := mLeaves_length l h
  have h2 := minsOf_l0 1000000000 (l.length : Int) (2 * lvs l.length) (by omega) (lvs l.length - 1) (mLeaves l) (by omega) (by omega)
  obtain ⟨K0, h0⟩ := ev_out h0
  obtain ⟨K1, h1⟩ := ev_out h1
  obtain ⟨K2, h2⟩ := ev_out h2
  refine ev_mk (K0 + K1 + K2) fun k hk => ?_
  have e : kopy (List.replicate (2 * lvs l.length) (1000000000 : Int)) (lvs l.length) l = List.replicate (lvs l.length) 1000000000 ++ mLeaves l := by
    unfold kopy mLeaves
    rw [List.length_replicate, List.take_replicate, Nat.min_eq_left (by omega), List.take_of_length_le (by omega), List.drop_replicate]
    congr 3
    omega
  unfold impl_minsOf.f
  rw [h0 k (by omega), Option.bind_some, w64 (by omega) (by omega), h1 k (by omega), Option.bind_some, if_pos (by omega), if_pos (by rw [List.length_replicate]; omega), w64 (by omega) (by omega), Int.toNat_natCast, e]
  have h3 := h2 k (by omega)
  rw [show lvs l.length - 1 + 1 = lvs l.length by omega, show ((lvs l.length - 1 : Nat) : Int) = (lvs l.length : Int) - 1 by omega] at h3
  exact h3
theorem areMins_eq (l : List Int) : impl_areMins.f l = some (decide (l.length ≤ 301) && l.all Fv.p48) := by
  unfold impl_areMins.f impl_areAll_48.f
  by_cases c : l.length ≤ 301
  · rw [if_pos (by omega), if_pos (by unfold maxLen; omega), Option.bind_some]
    simp [c]
  · rw [if_neg (by omega)]
    simp [c]
theorem minsR_length (l : List Int) : (minsR l).2.1.length ≤ 1024 := by
  unfold minsR
  split
  · rename_i h
    show (mTree l).length ≤ 1024
    rw [mTree_length l (by omega)]
    have := lvs_pos l.length
    omega
  · simp

-- what both read of a given tree
def rl (N : Int) (T : List Int) : List Int := if 0 ≤ N ∧ N ≤ ((T.length / 2 : Nat) : Int) ∧ T.length / 2 ≤ 512 then (T.take (T.length / 2 + N.toNat)).drop (T.length / 2) else []
def okN (N : Int) (T : List Int) : Bool := decide (minsR (rl N T) = (N, T, true))
theorem rl_length {N : Int} {T : List Int} (h0 : 0 ≤ N) (h1 : N ≤ ((T.length / 2 : Nat) : Int)) (h2 : T.length / 2 ≤ 512) : (rl N T).length = N.toNat := by
  unfold rl
  rw [if_pos ⟨h0, h1, h2⟩, List.length_drop, List.length_take]
  omega
theorem okN_out {N : Int} {T : List Int} (h : okN N T = true) : 0 ≤ N ∧ N ≤ 301 ∧ T.length = 2 * lvs N.toNat ∧ (rl N T).all Fv.p48 = true ∧ mTree (rl N T) = T ∧ (rl N T).length = N.toNat := by
  have h1 := of_decide_eq_true h
  unfold minsR at h1
  split at h1
  · rename_i hc
    injection h1 with e1 e2
    injection e2 with e2 _
    have hl := mTree_length (rl N T) (by omega)
    rw [e2] at hl
    have e3 : (rl N T).length = N.toNat := by omega
    rw [e3] at hl
    exact ⟨by omega, by omega, hl, hc.2, e2, e3⟩
  · injection h1 with _ h2
    injection h2 with _ h3
    cases h3
theorem okN_in {N : Int} {T : List Int} (h0 : 0 ≤ N) (h1 : N ≤ 301) (h2 : T.length = 2 * lvs N.toNat) (h3 : (rl N T).all Fv.p48 = true) : okN N T = decide (mTree (rl N T) = T) := by
  have hp := lvs_pos N.toNat
  have hle := lvs_le N.toNat (by omega)
  have hr := rl_length (T := T) h0 (by omega) (by omega)
  unfold okN minsR
  rw [if_pos ⟨by omega, h3⟩, show ((rl N T).length : Int) = N by omega]
  by_cases c : mTree (rl N T) = T
  · rw [decide_eq_true c, decide_eq_true_eq, c]
  · rw [decide_eq_false c, decide_eq_false_iff_not]
    intro h
    injection h with _ h
    injection h with h _
    exact c h
theorem drop_cons (a : List Int) (i : Nat) (h : i < a.length) : a.drop i = a.getD i 0 :: a.drop (i + 1) := by
  rw [List.drop_eq_getElem_cons h, lget_lt a i 0 h]
theorem l10List_ev (N : Int) (T : List Int) (hT : T.length ≤ 4000000) : Ev (fun k => spec_l10List.f k N T) (rl N T) := by
  obtain ⟨p, hp⟩ : ∃ p, p = T.length / 2 := ⟨_, rfl⟩
  have hw : wrap64 ((T.length : Int) / 2) = (p : Int) := by rw [w64 (by omega) (by omega)]; omega
  have hbad : ¬ (0 ≤ N ∧ N ≤ ((T.length / 2 : Nat) : Int) ∧ T.length / 2 ≤ 512) → Ev (fun k => spec_l10List.j0 k (p : Int) true N T) (rl N T) := by
    intro h
    unfold rl
    rw [if_neg h]
    refine Ev.step (f := fun _ => some _) (fun k => ?_) (Ev.now _)
    rw [spec_l10List.j0, if_pos rfl]
  by_cases c1 : N < 0
  · refine Ev.congr (fun k => ?_) (hbad (by omega))
    unfold spec_l10List.f
    rw [if_pos c1, hw]
  by_cases c2 : N > (p : Int)
  · refine Ev.congr (fun k => ?_) (hbad (by omega))
    unfold spec_l10List.f
    rw [if_neg c1, hw, if_pos c2]
  by_cases c3 : (p : Int) > 512
  · refine Ev.congr (fun k => ?_) (hbad (by omega))
    unfold spec_l10List.f
    rw [if_neg c1, hw, if_neg c2, decide_eq_true c3]
  have hr := rl_length (N := N) (T := T) (by omega) (by omega) (by omega)
  have hd : (T.take (wrap64 ((p : Int) + N)).toNat).drop ((p : Int).toNat) = rl N T := by
    unfold rl
    rw [if_pos ⟨by omega, by omega, by omega⟩, w64 (by omega) (by omega), Int.toNat_natCast, hp, show (((T.length / 2 : Nat) : Int) + N).toNat = T.length / 2 + N.toNat by omega]
  refine Ev.congr (f := fun k => spec_l10List.j0 k (p : Int) false N T) (fun k => ?_) (Ev.step (f := fun _ => some _) (fun k => ?_) (Ev.now _))
  · unfold spec_l10List.f
    rw [if_neg c1, hw, if_neg c2, decide_eq_false c3]
  · have hw2 : wrap64 ((p : Int) + N) = (p : Int) + N := w64 (by omega) (by omega)
    rw [spec_l10List.j0, if_neg (by decide), Option.bind_some, hd, hw2, if_pos (by omega), if_pos (by omega), if_pos (by omega), if_pos (by rw [hr]; simp only [List.length_nil]; omega), List.nil_append]
theorem same_l0 (a b : List Int) (hl : a.length = b.length) (h : a.length ≤ 4000000) (d : Nat) : ∀ i : Nat, i + d = a.length → Ev (fun k => spec_l01Same.l0 k a b (i : Int)) (decide (a.drop i = b.drop i)) := by
  induction d with
  | zero =>
    intro i hi
    rw [List.drop_eq_nil_of_le (by omega), List.drop_eq_nil_of_le (by omega)]
    refine Ev.step (f := fun _ => some _) (fun k => ?_) (Ev.now _)
    rw [spec_l01Same.l0, if_neg (by omega)]
    rfl
  | succ d ih =>
    intro i hi
    rw [drop_cons a i (by omega), drop_cons b i (by omega)]
    by_cases c : a.getD i 0 = b.getD i 0
    · rw [c, show decide (b.getD i 0 :: a.drop (i + 1) = b.getD i 0 :: b.drop (i + 1)) = decide (a.drop (i + 1) = b.drop (i + 1)) by simp]
      refine Ev.step (fun k => ?_) (ih (i + 1) (by omega))
      rw [spec_l01Same.l0, if_pos (by omega), if_pos (by omega), if_pos (by omega), rd_nat, rd_nat, if_pos c, w64 (by omega) (by omega)]
      rfl
    · rw [decide_eq_false (fun h => c (List.cons.inj h).1)]
      refine Ev.step (f := fun _ => some _) (fun k => ?_) (Ev.now _)
      rw [spec_l01Same.l0, if_pos (by omega), if_pos (by omega), if_pos (by omega), rd_nat, rd_nat, if_neg c]
theorem same_ev (a b : List Int) (h : a.length ≤ 4000000) : Ev (fun k => spec_l01Same.f k a b) (decide (a = b)) := by
  by_cases c : a.length = b.length
  · have h1 := same_l0 a b c h a.length 0 (by omega)
    rw [List.drop_zero, List.drop_zero] at h1
    refine Ev.congr (fun k => ?_) h1
    unfold spec_l01Same.f
    rw [if_pos (by omega)]
    rfl
  · rw [decide_eq_false (fun h => c (by rw [h]))]
    refine Ev.congr (f := fun _ => some _) (fun k => ?_) (Ev.now _)
    unfold spec_l01Same.f
    rw [if_neg (by omega)]
theorem equal_l0 (a b : List Int) (hl : a.length = b.length) (h : a.length ≤ 4000000) (d : Nat) : ∀ i : Nat, i + d = a.length → Ev (fun k => slices_Equal_int_int.l0 k a b (a.length : Int) (i : Int)) (decide (a.drop i = b.drop i)) := by
  induction d with
  | zero =>
    intro i hi
    rw [List.drop_eq_nil_of_le (by omega), List.drop_eq_nil_of_le (by omega)]
    refine Ev.step (f := fun _ => some _) (fun k => ?_) (Ev.now _)
    rw [slices_Equal_int_int.l0, if_neg (by omega)]
    rfl
  | succ d ih =>
    intro i hi
    rw [drop_cons a i (by omega), drop_cons b i (by omega)]
    by_cases c : a.getD i 0 = b.getD i 0
    · rw [c, show decide (b.getD i 0 :: a.drop (i + 1) = b.getD i 0 :: b.drop (i + 1)) = decide (a.drop (i + 1) = b.drop (i + 1)) by simp]
      refine Ev.step (fun k => ?_) (ih (i + 1) (by omega))
      rw [slices_Equal_int_int.l0, if_pos (by omega), if_pos (by omega), if_pos (by omega), if_pos (by omega), rd_nat, rd_nat, if_pos c, w64 (by omega) (by omega)]
      rfl
    · rw [decide_eq_false (fun h => c (List.cons.inj h).1)]
      refine Ev.step (f := fun _ => some _) (fun k => ?_) (Ev.now _)
      rw [slices_Equal_int_int.l0, if_pos (by omega), if_pos (by omega), if_pos (by omega), if_pos (by omega), rd_nat, rd_nat, if_neg c]
theorem equal_ev (a b : List Int) (h : a.length ≤ 4000000) : Ev (fun k => slices_Equal_int_int.f k a b) (decide (a = b)) := by
  by_cases c : a.length = b.length
  · have h1 := equal_l0 a b c h a.length 0 (by omega)
    rw [List.drop_zero, List.drop_zero] at h1
    refine Ev.congr (fun k => ?_) h1
    unfold slices_Equal_int_int.f
    rw [if_pos (by omega)]
    rfl
  · rw [decide_eq_false (fun h => c (by rw [h]))]
    refine Ev.congr (f := fun _ => some _) (fun k => ?_) (Ev.now _)
    unfold slices_Equal_int_int.f
    rw [if_neg (by omega)]
theorem specMinsOk_ev (N : Int) (T : List Int) (hT : T.length ≤ 4000000) : Ev (fun k => spec_MinsOk.f k N T) (okN N T) := by
  have hl := minsR_length (rl N T)
  obtain ⟨K0, h0⟩ := ev_out (l10List_ev N T hT)
  obtain ⟨K1, h1⟩ := ev_out (specMinsOf_ev (rl N T))
  obtain ⟨K2, h2⟩ := ev_out (same_ev (minsR (rl N T)).2.1 T (by omega))
  refine ev_mk (K0 + K1 + K2) fun k hk => ?_
  unfold spec_MinsOk.f
  rw [h0 k (by omega), Option.bind_some, h1 k (by omega), Option.bind_some]
  obtain ⟨⟨a, b, c⟩, hr⟩ : ∃ z, z = minsR (rl N T) := ⟨_, rfl⟩
  rw [← hr] at h2 ⊢
  unfold okN
  rw [← hr]
  have e2 : spec_l01Same.f k b T = some (decide (b = T)) := h2 k (by omega)
  show (if c = true then (if a = N then ((spec_l01Same.f k b T).bind fun t => some t) else some false) else some false) = _
  by_cases c1 : c = true
  · rw [if_pos c1]
    by_cases c2 : a = N
    · rw [if_pos c2, e2, Option.bind_some, c1, c2]
      congr 1
      simp
    · rw [if_neg c2, decide_eq_false (fun h => c2 (by injection h))]
  · rw [if_neg c1, decide_eq_false (fun h => c1 (by injection h with _ h; injection h))]
theorem within_eq (a b c : Int) : impl_within.f a b c = some (decide (b ≤ a ∧ a ≤ c)) := by
  unfold impl_within.f
  by_cases h : b ≤ a
  · rw [if_pos h]
    simp [h]
  · rw [if_neg h]
    simp [h]
theorem read_ev (N : Int) (T : List Int) (hT : T.length ≤ 4000000) : ∃ X, Ev (fun k => impl_Mins_read.f k N T) (X, okN N T) ∧ (okN N T = true → X = rl N T) := by
  obtain ⟨K0, h0⟩ := ev_out (leaves_ev (mn N 301) (by unfold mn; split <;> omega))
  obtain ⟨P, hP⟩ : ∃ P, P = lvs (mn N 301).toNat := ⟨_, rfl⟩
  have hp := lvs_pos (mn N 301).toNat
  rw [← hP] at h0 hp
  have hbad : ∀ (K : Nat), (∀ k, K ≤ k → impl_Mins_read.f k N T = impl_Mins_read.j0 k (P : Int) true N T) → okN N T = false → ∃ X, Ev (fun k => impl_Mins_read.f k N T) (X, okN N T) ∧ (okN N T = true → X = rl N T) := by
    intro K hK hf
    refine ⟨[], ev_mk (K + 1) fun k hk => ?_, fun h => by rw [hf] at h; cases h⟩
    rw [hK k (by omega)]
    obtain ⟨k, rfl⟩ : ∃ m, k = m + 1 := ⟨k - 1, by omega⟩
    rw [impl_Mins_read.j0, if_pos rfl, hf]
  by_cases c1 : 0 ≤ N ∧ N ≤ 301
  · have hm : mn N 301 = N := by unfold mn; split <;> omega
    rw [hm] at hP h0
    have hle := lvs_le N.toNat (by omega)
    rw [← hP] at hle
    have hw : wrap64 (2 * (P : Int)) = ((2 * P : Nat) : Int) := by rw [w64 (by omega) (by omega)]; omega
    have hfun : ∀ k, K0 ≤ k → impl_Mins_read.f k N T = impl_Mins_read.j0 k (P : Int) ((T.length : Int) != ((2 * P : Nat) : Int)) N T := by
      intro k hk
      unfold impl_Mins_read.f
      rw [hm, h0 k hk, Option.bind_some, within_eq, Option.bind_some, decide_eq_true c1, if_pos rfl, hw]
    by_cases c2 : T.length = 2 * P
    · have hb : ((T.length : Int) != ((2 * P : Nat) : Int)) = false := by rw [c2]; simp
      rw [hb] at hfun
      have hr := rl_length (N := N) (T := T) c1.1 (by omega) (by omega)
      have hd : (T.take (wrap64 ((P : Int) + N)).toNat).drop ((P : Int).toNat) = rl N T := by
        unfold rl
        rw [if_pos ⟨by omega, by omega, by omega⟩, w64 (by omega) (by omega), Int.toNat_natCast, c2, show 2 * P / 2 = P by omega, show ((P : Int) + N).toNat = P + N.toNat by omega]
      have hw2 : wrap64 ((P : Int) + N) = (P : Int) + N := w64 (by omega) (by omega)
      obtain ⟨K1, h1⟩ := ev_out (minsOf_ev (rl N T) (by omega))
      obtain ⟨K2, h2⟩ := ev_out (equal_ev (mTree (rl N T)) T (by rw [mTree_length _ (by omega)]; have := lvs_pos (rl N T).length; omega))
      refine ⟨rl N T, ev_mk (K0 + K1 + K2 + 1) fun k hk => ?_, fun _ => rfl⟩
      rw [hfun k (by omega)]
      obtain ⟨k, rfl⟩ : ∃ m, k = m + 1 := ⟨k - 1, by omega⟩
      rw [impl_Mins_read.j0, if_neg (by decide), hd, hw2, if_pos (by omega), if_pos (by omega), if_pos (by omega), Option.bind_some, areMins_eq, Option.bind_some]
      by_cases c3 : (rl N T).all Fv.p48 = true
      · rw [c3, decide_eq_true (show (rl N T).length ≤ 301 by omega), if_pos (by rfl), h1 k (by omega), Option.bind_some, h2 k (by omega), Option.bind_some, okN_in c1.1 c1.2 (by rw [c2, hP]) c3]
      · have hf : okN N T = false := by
          cases h : okN N T with
          | false => rfl
          | true => exact absurd (okN_out h).2.2.2.1 c3
        rw [if_neg (by rw [Bool.and_eq_true]; exact fun h => c3 h.2), hf]
    · have hb : ((T.length : Int) != ((2 * P : Nat) : Int)) = true := by simp only [bne_iff_ne, ne_eq]; omega
      rw [hb] at hfun
      refine hbad K0 hfun ?_
      cases h : okN N T with
      | false => rfl
      | true => have := (okN_out h).2.2.1; rw [← hP] at this; exact absurd this c2
  · refine hbad K0 (fun k hk => ?_) ?_
    · unfold impl_Mins_read.f
      rw [h0 k hk, Option.bind_some, within_eq, Option.bind_some, decide_eq_false c1, if_neg (by decide)]
    · cases h : okN N T with
      | false => rfl
      | true => exact absurd ⟨(okN_out h).1, (okN_out h).2.1⟩ c1

def minR (M : List Int) : Int := (M.drop 1).foldl mn (M.getD 0 0)
theorem take_get (l : List Int) (h i : Nat) (hi : i < h) : (l.take h).getD i 0 = l.getD i 0 := by
  rw [List.getD_eq_getElem?_getD, List.getD_eq_getElem?_getD, List.getElem?_take, if_pos hi]
theorem specRange_l0 (l : List Int) (h : Nat) (hh : h ≤ l.length) (hl : l.length ≤ 4000000) : ∀ (d i : Nat) (x : Int), i + d = h → Ev (fun k => spec_MinsRange.l0 k (h : Int) l x (i : Int)) (((l.take h).drop i).foldl mn x) := by
  intro d
  induction d with
  | zero =>
    intro i x hi
    rw [List.drop_eq_nil_of_le (by rw [List.length_take]; omega)]
    refine Ev.step (f := fun _ => some _) (fun k => ?_) (Ev.now _)
    rw [spec_MinsRange.l0, if_neg (by omega)]
    rfl
  | succ d ih =>
    intro i x hi
    rw [drop_cons (l.take h) i (by rw [List.length_take]; omega), take_get l h i (by omega), List.foldl_cons]
    refine Ev.step (fun k => ?_) (ih (i + 1) (mn x (l.getD i 0)) (by omega))
    rw [spec_MinsRange.l0, if_pos (by omega), if_pos (by omega), if_pos (by omega), rd_nat, w64 (by omega) (by omega)]
    rfl
theorem min_l0 (M : List Int) (hl : M.length ≤ 4000000) : ∀ (d i : Nat) (x : Int), i + d = M.length → Ev (fun k => slices_Min_int_int.l0 k M x (i : Int)) ((M.drop i).foldl mn x) := by
  intro d
  induction d with
  | zero =>
    intro i x hi
    rw [List.drop_eq_nil_of_le (by omega)]
    refine Ev.step (f := fun _ => some _) (fun k => ?_) (Ev.now _)
    rw [slices_Min_int_int.l0, if_neg (by omega)]
    rfl
  | succ d ih =>
    intro i x hi
    rw [drop_cons M i (by omega), List.foldl_cons]
    refine Ev.step (fun k => ?_) (ih (i + 1) (mn x (M.getD i 0)) (by omega))
    rw [slices_Min_int_int.l0, if_pos (by omega), if_pos (by omega), rd_nat, w64 (by omega) (by omega)]
    rfl
theorem min_ev (M : List Int) (h0 : 1 ≤ M.length) (hl : M.length ≤ 4000000) : Ev (fun k => slices_Min_int_int.f k M) (minR M) := by
  refine Ev.congr (fun k => ?_) (min_l0 M hl (M.length - 1) 1 (M.getD 0 0) (by omega))
  unfold slices_Min_int_int.f
  rw [if_neg (by omega), if_pos (by omega), show rd M 0 = M.getD 0 0 from rd_nat M 0]
  rfl
def rangeA (N : Int) (T : List Int) (a b : Int) : Int := if okN N T = true ∧ 0 ≤ a ∧ a < b ∧ b ≤ N then minR (((rl N T).take b.toNat).drop a.toNat) else -1
theorem mn_self (x : Int) : mn x x = x := by unfold mn; split <;> rfl
theorem specRange_ev (N : Int) (T : List Int) (a b : Int) (hT : T.length ≤ 4000000) : Ev (fun k => spec_MinsRange.f k N T a b) (rangeA N T a b) := by
  obtain ⟨K0, h0⟩ := ev_out (specMinsOk_ev N T hT)
  have hj : ¬ (okN N T = true ∧ 0 ≤ a ∧ a < b ∧ b ≤ N) → ∀ k, 1 ≤ k → spec_MinsRange.j0 k a b true N T = some (rangeA N T a b) := by
    intro h k hk
    obtain ⟨k, rfl⟩ : ∃ m, k = m + 1 := ⟨k - 1, by omega⟩
    unfold rangeA
    rw [spec_MinsRange.j0, if_pos rfl, if_neg h]
  by_cases c : okN N T = true
  · have ho := okN_out c
    by_cases c1 : a < 0
    · refine ev_mk (K0 + 1) fun k hk => ?_
      unfold spec_MinsRange.f
      rw [h0 k (by omega), Option.bind_some, if_pos c, if_pos c1, hj (by omega) k (by omega)]
    by_cases c2 : a ≥ b
    · refine ev_mk (K0 + 1) fun k hk => ?_
      unfold spec_MinsRange.f
      rw [h0 k (by omega), Option.bind_some, if_pos c, if_neg c1, if_pos c2, hj (by omega) k (by omega)]
    by_cases c3 : b > N
    · refine ev_mk (K0 + 1) fun k hk => ?_
      unfold spec_MinsRange.f
      rw [h0 k (by omega), Option.bind_some, if_pos c, if_neg c1, if_neg c2, decide_eq_true c3, hj (by omega) k (by omega)]
    · obtain ⟨K1, h1⟩ := ev_out (l10List_ev N T hT)
      obtain ⟨K2, h2⟩ := ev_out (specRange_l0 (rl N T) b.toNat (by omega) (by omega) (b.toNat - a.toNat) a.toNat ((rl N T).getD a.toNat 0) (by omega))
      refine ev_mk (K0 + K1 + K2 + 1) fun k hk => ?_
      unfold spec_MinsRange.f
      rw [h0 k (by omega), Option.bind_some, if_pos c, if_neg c1, if_neg c2, decide_eq_false c3]
      obtain ⟨k, rfl⟩ : ∃ m, k = m + 1 := ⟨k - 1, by omega⟩
      rw [spec_MinsRange.j0, if_neg (by decide), h1 k (by omega), Option.bind_some, if_pos (by omega), if_pos (by omega)]
      have h3 := h2 k (by omega)
      rw [show ((a.toNat : Nat) : Int) = a by omega, show ((b.toNat : Nat) : Int) = b by omega] at h3
      rw [show rd (rl N T) a = (rl N T).getD a.toNat 0 from rfl, h3]
      unfold rangeA minR
      rw [if_pos ⟨c, by omega, by omega, by omega⟩]
      have hd := drop_cons ((rl N T).take b.toNat) a.toNat (by rw [List.length_take]; omega)
      rw [take_get _ _ _ (by omega)] at hd
      rw [hd, List.foldl_cons, mn_self]
      rfl
  · refine ev_mk (K0 + 1) fun k hk => ?_
    unfold spec_MinsRange.f
    rw [h0 k (by omega), Option.bind_some, if_neg c, hj (fun h => c h.1) k (by omega)]
theorem isRange_eq (a b c : Int) : impl_isRange.f a b c = some (decide (0 ≤ a ∧ a ≤ b ∧ b ≤ c)) := by
  unfold impl_isRange.f
  by_cases h : 0 ≤ a
  · rw [if_pos h]
    by_cases h2 : a ≤ b
    · rw [if_pos h2]
      simp [h, h2]
    · rw [if_neg h2]
      simp [h2]
  · rw [if_neg h]
    simp [h]
theorem implRange_ev (N : Int) (T : List Int) (a b : Int) (hT : T.length ≤ 4000000) : Ev (fun k => impl_MinsRange.f k N T a b) (rangeA N T a b) := by
  obtain ⟨X, h0, hX⟩ := read_ev N T hT
  obtain ⟨K0, h0⟩ := ev_out h0
  have hj : ¬ (okN N T = true ∧ 0 ≤ a ∧ a < b ∧ b ≤ N) → ∀ k, 1 ≤ k → impl_MinsRange.j0 k a b X true = some (rangeA N T a b) := by
    intro h k hk
    obtain ⟨k, rfl⟩ : ∃ m, k = m + 1 := ⟨k - 1, by omega⟩
    unfold rangeA
    rw [impl_MinsRange.j0, if_pos rfl, if_neg h]
  by_cases c : okN N T = true
  · have ho := okN_out c
    obtain rfl := hX c
    by_cases c1 : 0 ≤ a ∧ a ≤ b ∧ b ≤ N
    · have hfun : ∀ k, K0 ≤ k → impl_MinsRange.f k N T a b = impl_MinsRange.j0 k a b (rl N T) (a == b) := by
        intro k hk
        unfold impl_MinsRange.f
        rw [h0 k hk, Option.bind_some, if_pos c, isRange_eq, Option.bind_some, decide_eq_true (show 0 ≤ a ∧ a ≤ b ∧ b ≤ ((rl N T).length : Int) by omega), if_pos rfl]
      by_cases c2 : a = b
      · rw [show (a == b) = true by rw [beq_iff_eq]; exact c2] at hfun
        refine ev_mk (K0 + 1) fun k hk => ?_
        rw [hfun k (by omega), hj (by omega) k (by omega)]
      · rw [show (a == b) = false by rw [beq_eq_false_iff_ne]; exact c2] at hfun
        have hlen : (((rl N T).take b.toNat).drop a.toNat).length = b.toNat - a.toNat := by rw [List.length_drop, List.length_take]; omega
        obtain ⟨K2, h2⟩ := ev_out (min_ev (((rl N T).take b.toNat).drop a.toNat) (by omega) (by omega))
        refine ev_mk (K0 + K2 + 1) fun k hk => ?_
        rw [hfun k (by omega)]
        obtain ⟨k, rfl⟩ : ∃ m, k = m + 1 := ⟨k - 1, by omega⟩
        rw [impl_MinsRange.j0, if_neg (by decide), if_pos (by omega), if_pos (by omega), if_pos (by omega), h2 k (by omega), Option.bind_some]
        unfold rangeA
        rw [if_pos ⟨c, by omega, by omega, by omega⟩]
    · refine ev_mk (K0 + 1) fun k hk => ?_
      unfold impl_MinsRange.f
      rw [h0 k (by omega), Option.bind_some, if_pos c, isRange_eq, Option.bind_some, decide_eq_false (show ¬ (0 ≤ a ∧ a ≤ b ∧ b ≤ ((rl N T).length : Int)) by omega), if_neg (by decide)]
      exact hj (fun h => c1 (by omega)) k (by omega)
  · refine ev_mk (K0 + 1) fun k hk => ?_
    unfold impl_MinsRange.f
    rw [h0 k (by omega), Option.bind_some, if_neg c, hj (fun h => c h.1) k (by omega)]

def listA (N : Int) (T : List Int) : List Int := if okN N T = true then rl N T else []
theorem listA_length (N : Int) (T : List Int) : (listA N T).length ≤ 512 := by
  unfold listA
  split
  · rename_i h
    have := okN_out h
    omega
  · simp

theorem specList_ev (N : Int) (T : List Int) (hT : T.length ≤ 4000000) : Ev (fun k => spec_MinsList.f k N T) (listA N T) := by
  obtain ⟨K0, h0⟩ := ev_out (specMinsOk_ev N T hT)
  obtain ⟨K1, h1⟩ := ev_out (l10List_ev N T hT)
  refine ev_mk (K0 + K1) fun k hk => ?_
  unfold spec_MinsList.f listA
  rw [h0 k (by omega), Option.bind_some]
  by_cases c : okN N T = true
  · rw [if_pos c, if_pos c, h1 k (by omega), Option.bind_some]
  · rw [if_neg c, if_neg c]

def setA (N : Int) (T : List Int) (a v : Int) : Int × List Int × Bool := if okN N T = true ∧ 0 ≤ a ∧ a < N then minsR ((rl N T).set a.toNat v) else (0, [], false)
theorem setA_length (N : Int) (T : List Int) (a v : Int) : (setA N T a v).2.1.length ≤ 1024 := by
  unfold setA
  split
  · exact minsR_length _
  · simp
theorem specSet_ev (N : Int) (T : List Int) (a v : Int) (hT : T.length ≤ 4000000) : Ev (fun k => spec_MinsSet.f k N T a v) (setA N T a v) := by
  obtain ⟨K0, h0⟩ := ev_out (specMinsOk_ev N T hT)
  have hj : ¬ (okN N T = true ∧ 0 ≤ a ∧ a < N) → ∀ k, 1 ≤ k → spec_MinsSet.j0 k a v true N T = some (setA N T a v) := by
    intro h k hk
    obtain ⟨k, rfl⟩ : ∃ m, k = m + 1 := ⟨k - 1, by omega⟩
    unfold setA
    rw [spec_MinsSet.j0, if_pos rfl, if_neg h]
  by_cases c : okN N T = true
  · have ho := okN_out c
    by_cases c1 : a < 0
    · refine ev_mk (K0 + 1) fun k hk => ?_
      unfold spec_MinsSet.f
      rw [h0 k (by omega), Option.bind_some, if_pos c, if_pos c1, hj (by omega) k (by omega)]
    by_cases c2 : a ≥ N
    · refine ev_mk (K0 + 1) fun k hk => ?_
      unfold spec_MinsSet.f
      rw [h0 k (by omega), Option.bind_some, if_pos c, if_neg c1, decide_eq_true c2, hj (by omega) k (by omega)]
    · obtain ⟨K1, h1⟩ := ev_out (l10List_ev N T hT)
      obtain ⟨K2, h2⟩ := ev_out (specMinsOf_ev ((rl N T).set a.toNat v))
      refine ev_mk (K0 + K1 + K2 + 1) fun k hk => ?_
      unfold spec_MinsSet.f
      rw [h0 k (by omega), Option.bind_some, if_pos c, if_neg c1, decide_eq_false c2]
      obtain ⟨k, rfl⟩ : ∃ m, k = m + 1 := ⟨k - 1, by omega⟩
      rw [spec_MinsSet.j0, if_neg (by decide), h1 k (by omega), Option.bind_some, if_pos (by omega), if_pos (by omega), h2 k (by omega), Option.bind_some]
      unfold setA
      rw [if_pos ⟨c, by omega, by omega⟩]
  · refine ev_mk (K0 + 1) fun k hk => ?_
    unfold spec_MinsSet.f
    rw [h0 k (by omega), Option.bind_some, if_neg c, hj (fun h => c h.1) k (by omega)]
theorem clone_ev (l : List Int) (h : l.length ≤ 4000000) : slices_Clone_int_int.f l = some l := by
  unfold slices_Clone_int_int.f
  rw [if_pos (by omega)]
theorem set_mem (l : List Int) (i : Nat) (v : Int) (h : i < l.length) : v ∈ l.set i v := by
  rw [List.mem_iff_getElem]
  exact ⟨i, by rw [List.length_set]; exact h, by rw [List.getElem_set_self]⟩
theorem set_all (l : List Int) (i : Nat) (v : Int) (h : l.all Fv.p48 = true) (hv : Fv.p48 v = true) : (l.set i v).all Fv.p48 = true := by
  rw [List.all_eq_true] at h ⊢
  intro x hx
  rcases List.mem_or_eq_of_mem_set hx with h1 | h1
  · exact h x h1
  · rw [h1]
    exact hv
theorem implSet_ev (N : Int) (T : List Int) (a v : Int) (hT : T.length ≤ 4000000) : Ev (fun k => impl_MinsSet.f k N T a v) (setA N T a v) := by
  obtain ⟨X, h0, hX⟩ := read_ev N T hT
  obtain ⟨K0, h0⟩ := ev_out h0
  have hj : setA N T a v = (0, [], false) → ∀ k, 1 ≤ k → impl_MinsSet.j0 k a v X true = some (setA N T a v) := by
    intro h k hk
    obtain ⟨k, rfl⟩ : ∃ m, k = m + 1 := ⟨k - 1, by omega⟩
    rw [impl_MinsSet.j0, if_pos rfl, h]
  have hj0 : ¬ (okN N T = true ∧ 0 ≤ a ∧ a < N) → setA N T a v = (0, [], false) := by
    intro h
    unfold setA
    rw [if_neg h]
  by_cases c : okN N T = true
  · have ho := okN_out c
    obtain rfl := hX c
    have hw : wrap64 (((rl N T).length : Int) - 1) = N - 1 := by rw [w64 (by omega) (by omega)]; omega
    by_cases c1 : 0 ≤ a ∧ a ≤ N - 1
    · have hfun : ∀ k, K0 ≤ k → impl_MinsSet.f k N T a v = impl_MinsSet.j0 k a v (rl N T) (!decide (0 ≤ v ∧ v ≤ 1000000)) := by
        intro k hk
        unfold impl_MinsSet.f impl_isCount.f
        rw [h0 k hk, Option.bind_some, if_pos c, hw, within_eq, Option.bind_some, decide_eq_true c1, if_pos rfl, within_eq, Option.bind_some, Option.bind_some]
      have hsl : ((rl N T).set a.toNat v).length = N.toNat := by rw [List.length_set]; omega
      by_cases c2 : 0 ≤ v ∧ v ≤ 1000000
      · rw [decide_eq_true c2, Bool.not_true] at hfun
        obtain ⟨K2, h2⟩ := ev_out (minsOf_ev ((rl N T).set a.toNat v) (by omega))
        refine ev_mk (K0 + K2 + 1) fun k hk => ?_
        rw [hfun k (by omega)]
        obtain ⟨k, rfl⟩ : ∃ m, k = m + 1 := ⟨k - 1, by omega⟩
        rw [impl_MinsSet.j0, if_neg (by decide), clone_ev _ (by omega), Option.bind_some, if_pos (by omega), if_pos (by omega), h2 k (by omega), Option.bind_some]
        unfold setA minsR
        rw [if_pos ⟨c, by omega, by omega⟩, if_pos ⟨by omega, set_all _ _ _ ho.2.2.2.1 ((p48_iff v).2 c2)⟩]
      · rw [decide_eq_false c2, Bool.not_false] at hfun
        refine ev_mk (K0 + 1) fun k hk => ?_
        rw [hfun k (by omega)]
        refine hj ?_ k (by omega)
        unfold setA minsR
        rw [if_pos ⟨c, by omega, by omega⟩, if_neg (fun h => c2 ((p48_iff v).1 (List.all_eq_true.1 h.2 v (set_mem _ _ _ (by omega)))))]
    · refine ev_mk (K0 + 1) fun k hk => ?_
      unfold impl_MinsSet.f
      rw [h0 k (by omega), Option.bind_some, if_pos c, hw, within_eq, Option.bind_some, decide_eq_false c1, if_neg (by decide)]
      exact hj (hj0 (fun h => c1 (by omega))) k (by omega)
  · refine ev_mk (K0 + 1) fun k hk => ?_
    unfold impl_MinsSet.f
    rw [h0 k (by omega), Option.bind_some, if_neg c, hj (hj0 (fun h => c h.1)) k (by omega)]

-- the tree's list, read back
theorem bld_app : ∀ (i : Nat) (S : List Int), ∃ X, bld i S = X ++ S ∧ X.length = i
  | 0, S => ⟨[], rfl, rfl⟩
  | i + 1, S => by
    obtain ⟨X, h1, h2⟩ := bld_app i (mn (S.getD i 0) (S.getD (i + 1) 0) :: S)
    exact ⟨X ++ [mn (S.getD i 0) (S.getD (i + 1) 0)], by rw [bld, h1, List.append_assoc]; rfl, by rw [List.length_append, h2]; rfl⟩
theorem rl_back (l : List Int) (h : l.length ≤ 512) : rl (l.length : Int) (mTree l) = l := by
  have hp := lvs_pos l.length
  have hle := lvs_le l.length h
  have hl := mTree_length l h
  obtain ⟨X, h1, h2⟩ := bld_app (lvs l.length - 1) (mLeaves l)
  unfold rl
  rw [if_pos ⟨by omega, by omega, by omega⟩, Int.toNat_natCast, hl, show 2 * lvs l.length / 2 = lvs l.length by omega]
  have e : mTree l = (0 :: X) ++ mLeaves l := by unfold mTree; rw [h1]; rfl
  have hx : (0 :: X).length = lvs l.length := by rw [List.length_cons, h2]; omega
  rw [e, List.drop_take, List.drop_append, ← hx, List.drop_length, List.nil_append, Nat.sub_self, List.drop_zero, show (0 :: X).length + l.length - (0 :: X).length = l.length by omega]
  unfold mLeaves
  rw [List.take_append_of_le_length (Nat.le_refl _), List.take_of_length_le (Nat.le_refl _)]
theorem okN_back (l : List Int) (h : l.length ≤ 301) (ha : l.all Fv.p48 = true) : okN (l.length : Int) (mTree l) = true := by
  have hb := rl_back l (by omega)
  rw [okN_in (by omega) (by omega) (by rw [Int.toNat_natCast]; exact mTree_length l (by omega)) (by rw [hb]; exact ha), hb]
  exact decide_eq_true rfl
theorem implOk_ev (N : Int) (T : List Int) (hT : T.length ≤ 4000000) : Ev (fun k => impl_MinsOk.f k N T) (okN N T) := by
  obtain ⟨X, h0, _⟩ := read_ev N T hT
  obtain ⟨K0, k0⟩ := ev_out h0
  refine ev_mk K0 fun k hk => ?_
  unfold impl_MinsOk.f
  rw [k0 k hk, Option.bind_some]
theorem lawSame_l0 (l : List Int) (hl : l.length ≤ 4000000) (d : Nat) : ∀ i : Nat, i + d = l.length → Ev (fun k => laws_same.l0 k l l (i : Int)) true := by
  induction d with
  | zero =>
    intro i h
    refine Ev.step (f := fun _ => some true) (fun k => ?_) (Ev.now true)
    rw [laws_same.l0, if_neg (by omega)]
  | succ d ih =>
    intro i h
    refine Ev.step (f := fun k => laws_same.l0 k l l ((i + 1 : Nat) : Int)) (fun k => ?_) (ih (i + 1) (by omega))
    rw [laws_same.l0, if_pos (by omega), if_pos (by omega), if_pos (by omega), if_pos rfl, w64 (by omega) (by omega)]
    rfl
theorem lawSame_ev (l : List Int) (hl : l.length ≤ 4000000) : Ev (fun k => laws_same.f k l l) true := by
  refine Ev.congr (f := fun k => laws_same.l0 k l l ((0 : Nat) : Int)) (fun k => ?_) (lawSame_l0 l hl l.length 0 (by omega))
  unfold laws_same.f
  rw [if_pos rfl]
  rfl

-- the drawing of inputs
/-- A cursor over code: what is kept of it. 'B': how far it may have gone. -/
def Cur (code : List Int) (B : Int) (t u : Int) : Prop := (∀ x ∈ code, 0 ≤ x ∧ x ≤ 255) ∧ code.length ≤ 140737488351232 ∧ 0 ≤ t ∧ t ≤ B ∧ 0 ≤ u ∧ u ≤ 66600
theorem Cur.more {code : List Int} {B B' t u : Int} (h : Cur code B t u) (hB : B ≤ B') : Cur code B' t u := ⟨h.1, h.2.1, h.2.2.1, by have := h.2.2.2.1; omega, h.2.2.2.2⟩
theorem rd_code {code : List Int} (h : ∀ x ∈ code, 0 ≤ x ∧ x ≤ 255) (i : Int) : 0 ≤ rd code i ∧ rd code i ≤ 255 := by
  unfold rd
  rw [List.getD_eq_getElem?_getD]
  cases hq : code[i.toNat]? with
  | none => exact ⟨by show (0 : Int) ≤ 0; omega, by show (0 : Int) ≤ 255; omega⟩
  | some x => exact h x (List.mem_of_getElem? hq)
theorem pick_ev {code : List Int} {B t u : Int} (h : Cur code B t u) (hB : B ≤ 1000000000) (n : Int) (hn : n ≤ 1000000000000) :
    ∃ v t' u', spec_l01Cur_pick.f code t u n = some (v, t', u') ∧ 0 ≤ v ∧ (1 ≤ n → v < n) ∧ (n < 2 → v = 0) ∧ Cur code (B + 1) t' u' := by
  obtain ⟨h1, h2, h3, h4, h5, h6⟩ := h
  unfold spec_l01Cur_pick.f
  by_cases c0 : n < 2
  · exact ⟨0, t, u, if_pos c0, by omega, fun _ => by omega, fun _ => rfl, h1, h2, h3, by omega, h5, h6⟩
  · have npos : 0 < n := by omega
    have wt : wrap64 (t + 1) = t + 1 := w64 (by omega) (by omega)
    rw [if_neg c0]
    by_cases c1 : t < (code.length : Int)
    · obtain ⟨r0, r1⟩ := rd_code h1 t
      refine ⟨Int.tmod (rd code t) n, t + 1, u, by rw [if_pos c1, if_pos h3, if_neg (by omega), w64 (by omega) (by omega), wt], Int.tmod_nonneg _ r0, fun _ => Int.tmod_lt_of_pos _ npos, fun hn2 => absurd hn2 c0, h1, h2, by omega, by omega, h5, h6⟩
    · have w1 : wrap64 (u * 1103) = u * 1103 := w64 (by omega) (by omega)
      have w2 : wrap64 (u * 1103 + 12345) = u * 1103 + 12345 := w64 (by omega) (by omega)
      have s0 : 0 ≤ Int.tmod (u * 1103 + 12345) 65521 := Int.tmod_nonneg _ (by omega)
      have s1 : Int.tmod (u * 1103 + 12345) 65521 < 65521 := Int.tmod_lt_of_pos _ (by omega)
      by_cases c2 : (code.length : Int) > 0
      · have i0 : 0 ≤ Int.tmod t (code.length : Int) := Int.tmod_nonneg _ h3
        have i1 : Int.tmod t (code.length : Int) < (code.length : Int) := Int.tmod_lt_of_pos _ c2
        obtain ⟨r0, r1⟩ := rd_code h1 (Int.tmod t (code.length : Int))
        have d0 : 0 ≤ Int.tdiv (Int.tmod (u * 1103 + 12345) 65521) 7 := Int.tdiv_nonneg s0 (by omega)
        have d1 : Int.tdiv (Int.tmod (u * 1103 + 12345) 65521) 7 ≤ 65521 := by
          have := Int.tdiv_le_self 7 s0
          omega
        refine ⟨Int.tmod (Int.tdiv (Int.tmod (u * 1103 + 12345) 65521) 7 + rd code (Int.tmod t (code.length : Int))) n, t + 1, Int.tmod (u * 1103 + 12345) 65521, ?_, Int.tmod_nonneg _ (by omega), fun _ => Int.tmod_lt_of_pos _ npos, fun hn2 => absurd hn2 c0, h1, h2, by omega, by omega, s0, by omega⟩
        rw [if_neg c1, if_pos c2, if_neg (by omega), if_pos i0, if_pos i1, if_neg (by omega), w1, w2, wt, w64 (x := Int.tdiv (Int.tmod (u * 1103 + 12345) 65521) 7) (by omega) (by omega), w64 (x := rd code (Int.tmod t (code.length : Int))) (by omega) (by omega), w64 (by omega) (by omega)]
      · refine ⟨(0 : Int) % n, t + 1, Int.tmod (u * 1103 + 12345) 65521, by rw [if_neg c1, if_neg c2, if_neg (by omega), w1, w2, wt], Int.emod_nonneg _ (by omega), fun _ => Int.emod_lt_of_pos _ npos, fun hn2 => absurd hn2 c0, h1, h2, by omega, by omega, s0, by omega⟩
theorem open_ev {code : List Int} (h1 : ∀ x ∈ code, 0 ≤ x ∧ x ≤ 255) (h2 : code.length ≤ 140737488351232) : ∃ t u, spec_l01Open.f code = some (code, t, u) ∧ Cur code 0 t u := by
  refine ⟨0, 89 + ((code.length : Int) % 1000), rfl, h1, h2, by omega, by omega, ?_, ?_⟩
  · have := Int.emod_nonneg (code.length : Int) (show (1000 : Int) ≠ 0 by omega); omega
  · have := Int.emod_lt_of_pos (code.length : Int) (show (0 : Int) < 1000 by omega); omega
theorem code_wf {code : List Int} (h : ∀ x ∈ code, (Lit.int .u8 x).wf = true) : ∀ x ∈ code, 0 ≤ x ∧ x ≤ 255 := fun x hx => by
  have := h x hx
  simp only [Lit.wf, IntKind.min, IntKind.max, IntKind.signed, IntKind.bits, Bool.and_eq_true, decide_eq_true_eq] at this
  simpa using this
theorem size_ev {code : List Int} {B t u : Int} (h : Cur code B t u) (hB : B ≤ 1000000000) (n : Int) (h0 : 0 ≤ n) (hn : n ≤ 1000000) :
    ∃ v t' u', spec_l01Cur_size.f code t u n = some (v, t', u') ∧ 0 ≤ v ∧ v ≤ n ∧ Cur code (B + 1) t' u' := by
  have hl := h.2.1
  unfold spec_l01Cur_size.f
  have w1 : wrap64 ((code.length : Int) / 8) = (code.length : Int) / 8 := w64 (by omega) (by omega)
  have w2 : wrap64 (1 + (code.length : Int) / 8) = 1 + (code.length : Int) / 8 := w64 (by omega) (by omega)
  have m1 : mn n (1 + (code.length : Int) / 8) ≤ n ∧ 0 ≤ mn n (1 + (code.length : Int) / 8) := by unfold mn; split <;> omega
  rw [w1, w2, w64 (x := mn n (1 + (code.length : Int) / 8) + 1) (by omega) (by omega)]
  obtain ⟨v, t', u', e, v0, v1, _, hc⟩ := pick_ev h hB (mn n (1 + (code.length : Int) / 8) + 1) (by omega)
  refine ⟨v, t', u', ?_, v0, ?_, hc⟩
  · rw [e, Option.bind_some]
  · have := v1 (by omega); omega
theorem wide_ev {code : List Int} {B t u : Int} (h : Cur code B t u) (hB : B ≤ 900000000) (n : Int) (h0 : 1 ≤ n) (hn : n ≤ 1000000000000) :
    ∃ v t' u', spec_l01Cur_wide.f code t u n = some (v, t', u') ∧ 0 ≤ v ∧ v < n ∧ Cur code (B + 3) t' u' := by
  obtain ⟨v1, t1, u1, e1, a1, b1, _, c1⟩ := pick_ev h (by omega) 256 (by omega)
  obtain ⟨v2, t2, u2, e2, a2, b2, _, c2⟩ := pick_ev c1 (by omega) 256 (by omega)
  obtain ⟨v3, t3, u3, e3, a3, b3, _, c3⟩ := pick_ev c2 (by omega) 256 (by omega)
  have b1 := b1 (by omega)
  have b2 := b2 (by omega)
  have b3 := b3 (by omega)
  refine ⟨Int.tmod (65536 * v1 + 256 * v2 + v3) n, t3, u3, ?_, Int.tmod_nonneg _ (by omega), Int.tmod_lt_of_pos _ (by omega), c3.more (by omega)⟩
  unfold spec_l01Cur_wide.f
  rw [e1, Option.bind_some, e2, Option.bind_some, e3, Option.bind_some, if_neg (by omega), w64 (x := 65536 * v1) (by omega) (by omega), w64 (x := 256 * v2) (by omega) (by omega), w64 (x := 65536 * v1 + 256 * v2) (by omega) (by omega), w64 (by omega) (by omega)]
theorem numbers_l0 (x2 : Int) (hx : x2 ≤ 1000000000000) (c : Nat) : ∀ {code : List Int} {B t u : Int} (out : List Int), Cur code B t u → B + 3 * (c : Int) ≤ 900000000 → out.length + c ≤ 10000000 → (∀ x ∈ out, 0 ≤ x ∧ x < mx 1 x2) →
    ∃ l t' u', Ev (fun k => spec_l01Cur_numbers.l0 k x2 out (c : Int) code t u) (l, t', u') ∧ l.length = out.length + c ∧ (∀ x ∈ l, 0 ≤ x ∧ x < mx 1 x2) ∧ Cur code (B + 3 * (c : Int)) t' u' := by
  have m1 : 1 ≤ mx 1 x2 ∧ mx 1 x2 ≤ 1000000000000 := by unfold mx; split <;> omega
  induction c with
  | zero =>
    intro code B t u out h _ _ ho
    refine ⟨out, t, u, Ev.step (f := fun _ => some (out, t, u)) (fun k => ?_) (Ev.now _), by omega, ho, h.more (by omega)⟩
    rw [spec_l01Cur_numbers.l0, if_neg (by omega)]
  | succ c ih =>
    intro code B t u out h hB hl ho
    obtain ⟨v, t1, u1, e1, a1, b1, c1⟩ := wide_ev h (by omega) (mx 1 x2) m1.1 m1.2
    obtain ⟨l, t', u', hev, hlen, hin, hc⟩ := ih (out ++ [v]) c1 (by omega) (by simp; omega) (fun x hx => by
      rcases List.mem_append.1 hx with h | h
      · exact ho x h
      · rw [List.mem_singleton.1 h]; exact ⟨a1, b1⟩)
    refine ⟨l, t', u', Ev.step (fun k => ?_) hev, by rw [hlen]; simp; omega, hin, hc.more (by omega)⟩
    rw [spec_l01Cur_numbers.l0, if_pos (by omega), e1, Option.bind_some, if_pos (by omega), w64 (by omega) (by omega), show ((c + 1 : Nat) : Int) - 1 = (c : Int) by omega]
theorem numbers_ev {code : List Int} {B t u : Int} (h : Cur code B t u) (n m : Int) (h0 : 0 ≤ n) (hn : n ≤ 1000) (hm : m ≤ 1000000000000) (hB : B ≤ 500000000) :
    ∃ l t' u', Ev (fun k => spec_l01Cur_numbers.f k code t u n m) (l, t', u') ∧ (l.length : Int) ≤ n ∧ (∀ x ∈ l, 0 ≤ x ∧ x < mx 1 m) ∧ Cur code (B + 4 * n + 4) t' u' := by
  obtain ⟨v, t1, u1, e1, a1, b1, c1⟩ := size_ev h (by omega) n h0 (by omega)
  obtain ⟨c, rfl⟩ := Int.eq_ofNat_of_zero_le a1
  obtain ⟨l, t', u', hev, hlen, hin, hc⟩ := numbers_l0 m hm c [] c1 (by omega) (by simp; omega) (fun x hx => by simp at hx)
  refine ⟨l, t', u', Ev.congr (fun k => ?_) hev, by rw [hlen]; simp; omega, hin, hc.more (by omega)⟩
  unfold spec_l01Cur_numbers.f
  rw [e1, Option.bind_some]
theorem raw_ev {code : List Int} {B t u : Int} (h : Cur code B t u) (hB : B ≤ 900000000) :
    ∃ v t' u', spec_l01Cur_raw.f code t u = some (v, t', u') ∧ -9223372036854775808 ≤ v ∧ v ≤ 9223372036854775807 ∧ Cur code (B + 2) t' u' := by
  obtain ⟨v1, t1, u1, e1, a1, b1, _, c1⟩ := pick_ev h (by omega) 8 (by omega)
  have b1 := b1 (by omega)
  unfold spec_l01Cur_raw.f
  rw [e1, Option.bind_some]
  by_cases g0 : v1 = 0
  · obtain ⟨v2, t2, u2, e2, a2, b2, _, c2⟩ := pick_ev c1 (by omega) 256 (by omega)
    have b2 := b2 (by omega)
    exact ⟨v2 - 128, t2, u2, by rw [if_pos g0, e2, Option.bind_some, w64 (by omega) (by omega)], by omega, by omega, c2.more (by omega)⟩
  · by_cases g1 : v1 = 1
    · obtain ⟨v2, t2, u2, e2, a2, b2, _, c2⟩ := pick_ev c1 (by omega) 8 (by omega)
      have b2 := b2 (by omega)
      obtain ⟨j, rfl⟩ := Int.eq_ofNat_of_zero_le a2
      have hin : ∀ x ∈ ([9223372036854775807, (-9223372036854775808), 4611686018427387904, 4294967295, 4294967296, (-1000), 1000, 257] : List Int), -9223372036854775808 ≤ x ∧ x ≤ 9223372036854775807 := by
        intro x hx
        simp at hx
        omega
      have hr := hin (rd [9223372036854775807, (-9223372036854775808), 4611686018427387904, 4294967295, 4294967296, (-1000), 1000, 257] (j : Int)) (by
        rw [rd_nat, lget_lt _ j 0 (by simp; omega)]
        exact List.getElem_mem _)
      exact ⟨_, t2, u2, by rw [if_neg g0, if_pos g1, Option.bind_some, e2, Option.bind_some, if_pos (by omega), if_pos (by simp; omega)], hr.1, hr.2, c2.more (by omega)⟩
    · obtain ⟨v2, t2, u2, e2, a2, b2, _, c2⟩ := pick_ev c1 (by omega) 14 (by omega)
      have b2 := b2 (by omega)
      exact ⟨v2 - 3, t2, u2, by rw [if_neg g0, if_neg g1, e2, Option.bind_some, w64 (by omega) (by omega)], by omega, by omega, c2.more (by omega)⟩

-- drawn trees of minima
theorem rd_in (y : List Int) (j lo hi : Int) (h0 : 0 ≤ j) (h1 : j < (y.length : Int)) (h : ∀ x ∈ y, lo ≤ x ∧ x ≤ hi) : lo ≤ rd y j ∧ rd y j ≤ hi := by
  obtain ⟨i, rfl⟩ := Int.eq_ofNat_of_zero_le h0
  rw [rd_nat, lget_lt _ _ _ (by omega)]
  exact h _ (List.getElem_mem _)
theorem mins_ev {code : List Int} {B t u : Int} (h : Cur code B t u) (hB : B ≤ 400000000) :
    ∃ N T t' u', Ev (fun k => spec_l01Cur_mins.f k code t u) (N, T, t', u') ∧ -9223372036854775808 ≤ N ∧ N ≤ 9223372036854775807 ∧ T.length ≤ 2000 ∧ Cur code (B + 100) t' u' := by
  obtain ⟨v1, t1, u1, e1, a1, b1, _, c1⟩ := pick_ev h (by omega) 3 (by omega)
  have b1 := b1 (by omega)
  have hm := rd_in [3, 30, 1000] v1 3 1000 a1 (by simp; omega) (by intro x hx; simp at hx; omega)
  obtain ⟨l, t2, u2, hev, hlen, hin, c2⟩ := numbers_ev c1 20 (rd [3, 30, 1000] v1) (by omega) (by omega) (by omega) (by omega)
  obtain ⟨v3, t3, u3, e3, a3, b3, _, c3⟩ := pick_ev c2 (by omega) 12 (by omega)
  have hall : l.all Fv.p48 = true := by
    rw [List.all_eq_true]
    intro x hx
    have h1 := hin x hx
    have h2 : mx 1 (rd [3, 30, 1000] v1) ≤ 1000 := by unfold mx; split <;> omega
    rw [p48_iff]
    omega
  have hmr : minsR l = ((l.length : Int), mTree l, true) := by unfold minsR; rw [if_pos ⟨by omega, hall⟩]
  have htl := mTree_length l (by omega)
  have hp := lvs_pos l.length
  have hle := lvs_le l.length (by omega)
  obtain ⟨K0, k0⟩ := ev_out hev
  obtain ⟨K1, k1⟩ := ev_out (specMinsOf_ev l)
  rw [hmr] at k1
  have pre : ∀ k, K0 + K1 ≤ k → ∀ r, (if v3 = 0 then ((spec_l01Cur_raw.f code t3 u3).bind fun bt296 => ((some (([bt296.1, wrap64 ((l.length : Int) + 1), wrap64 ((l.length : Int) - 1)] : List Int) : List Int)).bind fun y299 => ((spec_l01Cur_pick.f code bt296.2.1 bt296.2.2 3).bind fun bt302 => (if 0 ≤ bt302.1 then (if bt302.1 < (y299.length : Int) then (some (rd y299 bt302.1, mTree l, bt302.2.1, bt302.2.2)) else (none)) else (none))))) else (if v3 = 1 then ((spec_l01Cur_pick.f code t3 u3 ((mTree l).length : Int)).bind fun bt306 => ((spec_l01Cur_pick.f code bt306.2.1 bt306.2.2 9).bind fun bt309 => ((spec_l01Cur_raw.f code bt309.2.1 bt309.2.2).bind fun bt312 => ((some (([bt309.1, bt312.1, 1000000000] : List Int) : List Int)).bind fun y315 => ((spec_l01Cur_pick.f code bt312.2.1 bt312.2.2 3).bind fun bt318 => (if 0 ≤ bt318.1 then (if bt318.1 < (y315.length : Int) then (if 0 ≤ bt306.1 then (if bt306.1 < ((mTree l).length : Int) then (some ((l.length : Int), ((mTree l).set (bt306.1 : Int).toNat (rd y315 bt318.1)), bt318.2.1, bt318.2.2)) else (none)) else (none)) else (none)) else (none))))))) else (if v3 = 2 then (if (mTree l).length < 17592186044416 then (some ((l.length : Int), ((mTree l) ++ [0]), t3, u3)) else (none)) else (some ((l.length : Int), mTree l, t3, u3))))) = some r → spec_l01Cur_mins.f k code t u = some r := by
    intro k hk r hr
    unfold spec_l01Cur_mins.f
    rw [Option.bind_some, e1, Option.bind_some, if_pos a1, if_pos (by simp; omega), k0 k (by omega), Option.bind_some, k1 k (by omega), Option.bind_some, e3, Option.bind_some]
    exact hr
  by_cases g0 : v3 = 0
  · obtain ⟨v4, t4, u4, e4, lo4, hi4, c4⟩ := raw_ev c3 (by omega)
    obtain ⟨v5, t5, u5, e5, a5, b5, _, c5⟩ := pick_ev c4 (by omega) 3 (by omega)
    have b5 := b5 (by omega)
    have w1 : wrap64 ((l.length : Int) + 1) = (l.length : Int) + 1 := w64 (by omega) (by omega)
    have w2 : wrap64 ((l.length : Int) - 1) = (l.length : Int) - 1 := w64 (by omega) (by omega)
    have hr := rd_in [v4, (l.length : Int) + 1, (l.length : Int) - 1] v5 (-9223372036854775808) 9223372036854775807 a5 (by simp; omega) (by intro x hx; simp at hx; omega)
    refine ⟨rd [v4, (l.length : Int) + 1, (l.length : Int) - 1] v5, mTree l, t5, u5, ev_mk (K0 + K1) fun k hk => pre k hk _ ?_, hr.1, hr.2, by omega, c5.more (by omega)⟩
    rw [if_pos g0, e4, Option.bind_some, w1, w2, Option.bind_some, e5, Option.bind_some, if_pos a5, if_pos (by simp; omega)]
  by_cases g1 : v3 = 1
  · obtain ⟨v4, t4, u4, e4, a4, b4, _, c4⟩ := pick_ev c3 (by omega) ((mTree l).length : Int) (by omega)
    have b4 := b4 (by omega)
    obtain ⟨v5, t5, u5, e5, a5, b5, _, c5⟩ := pick_ev c4 (by omega) 9 (by omega)
    obtain ⟨v6, t6, u6, e6, lo6, hi6, c6⟩ := raw_ev c5 (by omega)
    obtain ⟨v7, t7, u7, e7, a7, b7, _, c7⟩ := pick_ev c6 (by omega) 3 (by omega)
    have b7 := b7 (by omega)
    refine ⟨(l.length : Int), (mTree l).set v4.toNat (rd [v5, v6, 1000000000] v7), t7, u7, ev_mk (K0 + K1) fun k hk => pre k hk _ ?_, by omega, by omega, by rw [List.length_set]; omega, c7.more (by omega)⟩
    rw [if_neg g0, if_pos g1, e4, Option.bind_some, e5, Option.bind_some, e6, Option.bind_some, Option.bind_some, e7, Option.bind_some, if_pos a7, if_pos (by simp; omega), if_pos a4, if_pos b4]
  by_cases g2 : v3 = 2
  · refine ⟨(l.length : Int), mTree l ++ [0], t3, u3, ev_mk (K0 + K1) fun k hk => pre k hk _ ?_, by omega, by omega, by rw [List.length_append]; simp; omega, c3.more (by omega)⟩
    rw [if_neg g0, if_neg g1, if_pos g2, if_pos (by omega)]
  · refine ⟨(l.length : Int), mTree l, t3, u3, ev_mk (K0 + K1) fun k hk => pre k hk _ ?_, by omega, by omega, by omega, c3.more (by omega)⟩
    rw [if_neg g0, if_neg g1, if_neg g2]
theorem low30 (N : Int) : 0 ≤ mn 30 (mx 0 N) ∧ mn 30 (mx 0 N) ≤ 30 := by
  unfold mn mx
  split <;> split <;> omega

theorem place_ev {code : List Int} {B t u : Int} (h : Cur code B t u) (hB : B ≤ 400000000) (n : Int) (h0 : 0 ≤ n) (hn : n ≤ 1000) :
    ∃ a t' u', spec_l01Cur_place.f code t u n = some (a, t', u') ∧ -9223372036854775808 ≤ a ∧ a ≤ 9223372036854775807 ∧ Cur code (B + 10) t' u' := by
  have w1 : wrap64 (n + 2) = n + 2 := w64 (by omega) (by omega)
  have m1 : mx 1 (n + 2) = n + 2 := by unfold mx; split <;> omega
  have w2 : wrap64 (n - 1) = n - 1 := w64 (by omega) (by omega)
  have m2 : mx 1 n ≤ 1000 ∧ 1 ≤ mx 1 n := by unfold mx; split <;> omega
  obtain ⟨v1, t1, u1, e1, a1, b1, _, c1⟩ := pick_ev h (by omega) (n + 2) (by omega)
  have b1 := b1 (by omega)
  obtain ⟨v2, t2, u2, e2, lo2, hi2, c2⟩ := raw_ev c1 (by omega)
  obtain ⟨v3, t3, u3, e3, a3, b3, _, c3⟩ := pick_ev c2 (by omega) (mx 1 n) (by omega)
  have b3 := b3 (by omega)
  obtain ⟨v4, t4, u4, e4, a4, b4, _, c4⟩ := pick_ev c3 (by omega) 5 (by omega)
  have b4 := b4 (by omega)
  have hr := rd_in [v1, n, n - 1, v2, v3] v4 (-9223372036854775808) 9223372036854775807 a4 (by simp; omega) (by intro x hx; simp at hx; omega)
  refine ⟨rd [v1, n, n - 1, v2, v3] v4, t4, u4, ?_, hr.1, hr.2, c4.more (by omega)⟩
  unfold spec_l01Cur_place.f
  rw [w1, m1, e1, Option.bind_some, e2, Option.bind_some, e3, Option.bind_some, w2, Option.bind_some, e4, Option.bind_some, if_pos a4, if_pos (by simp; omega)]
theorem drawSet_ev {code : List Int} (h1 : ∀ x ∈ code, 0 ≤ x ∧ x ≤ 255) (h2 : code.length ≤ 140737488351232) :
    ∃ N T a v, Ev (fun k => spec_DrawMinsSet.f k code) (N, T, a, v) ∧ -9223372036854775808 ≤ N ∧ N ≤ 9223372036854775807 ∧ T.length ≤ 2000 := by
  obtain ⟨t, u, e0, c0⟩ := open_ev h1 h2
  obtain ⟨N, T, t1, u1, ev1, lo, hi, hT, c1⟩ := mins_ev c0 (by omega)
  have h30 := low30 N
  obtain ⟨a, t2, u2, e2, _, _, c2⟩ := place_ev c1 (by omega) (mn 30 (mx 0 N)) h30.1 (by omega)
  obtain ⟨v3, t3, u3, e3, a3, b3, _, c3⟩ := pick_ev c2 (by omega) 30 (by omega)
  obtain ⟨v4, t4, u4, e4, lo4, hi4, c4⟩ := raw_ev c3 (by omega)
  obtain ⟨v5, t5, u5, e5, a5, b5, _, c5⟩ := pick_ev c4 (by omega) 3 (by omega)
  have b5 := b5 (by omega)
  obtain ⟨K0, k0⟩ := ev_out ev1
  refine ⟨N, T, a, rd [v3, v4, 1000001] v5, ev_mk K0 fun k hk => ?_, lo, hi, hT⟩
  unfold spec_DrawMinsSet.f
  rw [e0, Option.bind_some, k0 k hk, Option.bind_some, e2, Option.bind_some, e3, Option.bind_some, e4, Option.bind_some, Option.bind_some, e5, Option.bind_some, if_pos a5, if_pos (by simp; omega)]

theorem FnMinsSet : laws_FnMinsSet.Pure := by
  intro code _ hs hwf
  by_cases g : (code.length : Int) > 1048576
  · exact ⟨0, by unfold laws_FnMinsSet.f laws_big.f; rw [Option.bind_some, if_pos (decide_eq_true g)]⟩
  obtain ⟨N, T, a, v, hd, lo, hi, hT⟩ := drawSet_ev (code_wf hwf) (by omega)
  obtain ⟨K0, k0⟩ := ev_out hd
  obtain ⟨K1, k1⟩ := ev_out (specSet_ev N T a v (by omega))
  obtain ⟨K2, k2⟩ := ev_out (implSet_ev N T a v (by omega))
  have hstart : ∀ k, K0 + K1 + K2 ≤ k → laws_FnMinsSet.f k code = laws_FnMinsSet.j0 k a v (setA N T a v).2.2 (setA N T a v).2.2 (!(setA N T a v).2.2) N T (setA N T a v).1 (setA N T a v).2.1 := by
    intro k hk
    unfold laws_FnMinsSet.f laws_big.f
    rw [Option.bind_some, if_neg (by rw [decide_eq_false g]; decide), k0 k (by omega), Option.bind_some, k1 k (by omega), Option.bind_some, k2 k (by omega), Option.bind_some, bne_self_eq_false, if_neg (by decide)]
  by_cases c : (setA N T a v).2.2 = true
  · have hr : okN N T = true ∧ 0 ≤ a ∧ a < N := by
      by_cases q : okN N T = true ∧ 0 ≤ a ∧ a < N
      · exact q
      · exfalso
        unfold setA at c
        rw [if_neg q] at c
        cases c
    have ho := okN_out hr.1
    obtain ⟨L, hL⟩ : ∃ L, L = (rl N T).set a.toNat v := ⟨_, rfl⟩
    have hsA : setA N T a v = minsR L := by unfold setA; rw [if_pos hr, hL]
    rw [hsA] at c
    have hLl : (L.length : Int) = N := by rw [hL, List.length_set]; omega
    have hLa : L.all Fv.p48 = true := by
      by_cases q : L.length ≤ 301 ∧ L.all Fv.p48 = true
      · exact q.2
      · exfalso
        unfold minsR at c
        rw [if_neg q] at c
        cases c
    have hmr : minsR L = ((L.length : Int), mTree L, true) := by unfold minsR; rw [if_pos ⟨by omega, hLa⟩]
    have htl := mTree_length L (by omega)
    have hp := lvs_pos L.length
    obtain ⟨K3, k3⟩ := ev_out (specList_ev N T (by omega))
    have hla : listA N T = rl N T := by unfold listA; rw [if_pos hr.1]
    rw [hla] at k3
    obtain ⟨K4, k4⟩ := ev_out (specMinsOf_ev L)
    obtain ⟨K5, k5⟩ := ev_out (lawSame_ev (mTree L) (by omega))
    obtain ⟨K6, k6⟩ := ev_out (implRange_ev (L.length : Int) (mTree L) 0 N (by omega))
    obtain ⟨K7, k7⟩ := ev_out (specRange_ev (L.length : Int) (mTree L) 0 N (by omega))
    obtain ⟨K8, k8⟩ := ev_out (implOk_ev (L.length : Int) (mTree L) (by omega))
    rw [hmr] at k4
    refine ⟨K0 + K1 + K2 + K3 + K4 + K5 + K6 + K7 + K8 + 1, ?_⟩
    rw [hstart _ (by omega), hsA, hmr]
    dsimp only
    rw [Bool.not_true, laws_FnMinsSet.j0, if_neg (by decide), k3 _ (by omega), Option.bind_some, if_pos (by omega), if_pos (by omega), ← hL, k4 _ (by omega), Option.bind_some, k5 _ (by omega), Option.bind_some, if_pos rfl, k6 _ (by omega), Option.bind_some, k7 _ (by omega), Option.bind_some, if_pos rfl, k8 _ (by omega), Option.bind_some, okN_back L (by omega) hLa]
  · refine ⟨K0 + K1 + K2 + 1, ?_⟩
    rw [hstart _ (by omega), eq_false_of_ne_true c, Bool.not_false, laws_FnMinsSet.j0, if_pos rfl]
    rfl

end Go.Proofs.Ytpheodpcppclaaa.Pure
