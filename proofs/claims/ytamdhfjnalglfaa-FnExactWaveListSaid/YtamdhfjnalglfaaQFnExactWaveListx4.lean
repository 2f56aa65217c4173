-- A walk, made by walk.py, a program of this session's.
import Derived.Test.YtamdhfjnalglfaaQFnExactWaveListx0
import Derived.Test.YtamdhfjnalglfaaQFnExactWaveListx2
import Derived.Test.YtamdhfjnalglfaaQFnExactWaveListx3
namespace Go.Proofs.Ytamdhfjnalglfaa.QFnExactWaveList
open Go.RowKit Go.Proofs.YtamdhfjnalglfaaW.PrintWords Go.Proofs.YtamdhfjnalglfaaW.PrintLast Go.Proofs.YtamdhfjnalglfaaW.PrintMore
attribute [local go_sem] max2_int min2_int max_two min_two max_three min_three max_four min_four   -- for this text's walks alone
set_option linter.unusedVariables false
set_option linter.unusedSimpArgs false

/-! ### impl_Wave_read: function 40 -/
mutual
def impl_Wave_read.j0 : Nat → Bool → Int → List Int → List (S64) → Option (List Int × Bool)
 | 0, _, _, _, _ => none
 | k + 1, x32, x173000, x173001, x173002 => if x32 = true then (some (([] : List Int), false)) else (if 0 ≤ x173000 then (if (x173000 : Int).toNat ≤ 35184372088832 then ((some (List.replicate (x173000 : Int).toNat 0 : List Int)).bind fun y177 => (impl_Wave_read.l0 k (List.replicate (x173000 : Int).toNat 0) y177 (y177.length : Int) 0 x173000 x173001 x173002)) else (none)) else (none))
def impl_Wave_read.l0 : Nat → List Int → List Int → Int → Int → Int → List Int → List (S64) → Option (List Int × Bool)
 | 0, _, _, _, _, _, _, _ => none
 | k + 1, x35, x38, x40, x41, x173000, x173001, x173002 => if x41 < x40 then (if 0 ≤ x41 then (if x41 < (x38.length : Int) then (impl_Wave_read.l0 k x35 (x38.set (x41 : Int).toNat x41) x40 (wrap64 (x41 + 1)) x173000 x173001 x173002) else (none)) else (none)) else (impl_Wave_read.l1 k x35 x38 x173002 (x173002.length : Int) 0 x173000 x173001 x173002)
def impl_Wave_read.l1 : Nat → List Int → List Int → List (S64) → Int → Int → Int → List Int → List (S64) → Option (List Int × Bool)
 | 0, _, _, _, _, _, _, _, _ => none
 | k + 1, x35, x38, x50, x51, x52, x173000, x173001, x173002 => if x52 < x51 then (if 0 ≤ x52 then (if x52 < (x50.length : Int) then ((impl_BitsList.f k ((rd_T64 x50 x52).f0) ((rd_T64 x50 x52).f1)).bind fun t183 => ((impl_BitsOk.f ((rd_T64 x50 x52).f0) ((rd_T64 x50 x52).f1)).bind fun t186 => (if t186 = true then (if ((rd_T64 x50 x52).f0) = x173000 then ((impl_count.f k t183 0).bind fun t187 => (if x52 < (x173001.length : Int) then (impl_Wave_read.j3 k x35 x38 x52 t183 x50 x51 x52 (t187 != (rd x173001 x52)) x173000 x173001 x173002) else (none))) else (impl_Wave_read.j3 k x35 x38 x52 t183 x50 x51 x52 true x173000 x173001 x173002)) else (impl_Wave_read.j3 k x35 x38 x52 t183 x50 x51 x52 true x173000 x173001 x173002)))) else (none)) else (none)) else (some (x35, true))
def impl_Wave_read.j3 : Nat → List Int → List Int → Int → List Int → List (S64) → Int → Int → Bool → Int → List Int → List (S64) → Option (List Int × Bool)
 | 0, _, _, _, _, _, _, _, _, _, _, _ => none
 | k + 1, x4, x5, x7, x9, x50, x51, x52, x78, x173000, x173001, x173002 => if x78 = true then (some (([] : List Int), false)) else (if 0 ≤ x173000 then (if (x173000 : Int).toNat ≤ 35184372088832 then (if 0 ≤ x7 then (if x7 < (x173001.length : Int) then (impl_Wave_read.l2 k x4 x5 x9 0 (rd x173001 x7) x50 x51 x52 (List.replicate (x173000 : Int).toNat 0) (x9.length : Int) 0 x173000 x173001 x173002) else (none)) else (none)) else (none)) else (none))
def impl_Wave_read.l2 : Nat → List Int → List Int → List Int → Int → Int → List (S64) → Int → Int → List Int → Int → Int → Int → List Int → List (S64) → Option (List Int × Bool)
 | 0, _, _, _, _, _, _, _, _, _, _, _, _, _, _ => none
 | k + 1, x4, x5, x9, x11, x12, x50, x51, x52, x81, x88, x89, x173000, x173001, x173002 => if x89 < x88 then (if 0 ≤ x89 then (if x89 < (x9.length : Int) then (if (rd x9 x89) = 0 then (if x89 < (x81.length : Int) then (impl_Wave_read.l2 k x4 x5 x9 (wrap64 (x11 + 1)) x12 x50 x51 x52 (x81.set (x89 : Int).toNat x11) x88 (wrap64 (x89 + 1)) x173000 x173001 x173002) else (none)) else (if x89 < (x81.length : Int) then (impl_Wave_read.l2 k x4 x5 x9 x11 (wrap64 (x12 + 1)) x50 x51 x52 (x81.set (x89 : Int).toNat x12) x88 (wrap64 (x89 + 1)) x173000 x173001 x173002) else (none))) else (none)) else (none)) else (impl_Wave_read.l3 k x4 x5 x9 x50 x51 x52 x81 (x5.length : Int) 0 x173000 x173001 x173002)
def impl_Wave_read.l3 : Nat → List Int → List Int → List Int → List (S64) → Int → Int → List Int → Int → Int → Int → List Int → List (S64) → Option (List Int × Bool)
 | 0, _, _, _, _, _, _, _, _, _, _, _, _ => none
 | k + 1, x4, x5, x9, x50, x51, x52, x81, x110, x111, x173000, x173001, x173002 => if x111 < x110 then (if 0 ≤ x111 then (if x111 < (x5.length : Int) then (if x111 < (x4.length : Int) then (if 0 ≤ (rd x5 x111) then (if (rd x5 x111) < (x9.length : Int) then (if (rd x5 x111) < (x81.length : Int) then (impl_Wave_read.l3 k (x4.set (x111 : Int).toNat (Go.bits .or .i64 (wrap64 ((rd x4 x111) * 2)) (rd x9 (rd x5 x111)))) (x5.set (x111 : Int).toNat (rd x81 (rd x5 x111))) x9 x50 x51 x52 x81 x110 (wrap64 (x111 + 1)) x173000 x173001 x173002) else (none)) else (none)) else (none)) else (none)) else (none)) else (none)) else (impl_Wave_read.l1 k x4 x5 x50 x51 (wrap64 (x52 + 1)) x173000 x173001 x173002)
end
def impl_Wave_read.f (k : Nat) (a0_0 : Int) (l0_1 : List Int) (l0_2 : List (S64)) : Option (List Int × Bool) := (impl_within.f a0_0 0 1000).bind fun t173 => (if t173 = true then (if (l0_1.length : Int) = 9 then (impl_Wave_read.j0 k ((l0_2.length : Int) != 9) a0_0 l0_1 l0_2) else (impl_Wave_read.j0 k true a0_0 l0_1 l0_2)) else (impl_Wave_read.j0 k true a0_0 l0_1 l0_2))
theorem impl_Wave_read.mono_l : ∀ k, (∀ y0 y1 y2 y3, LeO (impl_Wave_read.j0 k y0 y1 y2 y3) (impl_Wave_read.j0 (k + 1) y0 y1 y2 y3)) ∧ (∀ y0 y1 y2 y3 y4 y5 y6, LeO (impl_Wave_read.l0 k y0 y1 y2 y3 y4 y5 y6) (impl_Wave_read.l0 (k + 1) y0 y1 y2 y3 y4 y5 y6)) ∧ (∀ y0 y1 y2 y3 y4 y5 y6 y7, LeO (impl_Wave_read.l1 k y0 y1 y2 y3 y4 y5 y6 y7) (impl_Wave_read.l1 (k + 1) y0 y1 y2 y3 y4 y5 y6 y7)) ∧ (∀ y0 y1 y2 y3 y4 y5 y6 y7 y8 y9 y10, LeO (impl_Wave_read.j3 k y0 y1 y2 y3 y4 y5 y6 y7 y8 y9 y10) (impl_Wave_read.j3 (k + 1) y0 y1 y2 y3 y4 y5 y6 y7 y8 y9 y10)) ∧ (∀ y0 y1 y2 y3 y4 y5 y6 y7 y8 y9 y10 y11 y12 y13, LeO (impl_Wave_read.l2 k y0 y1 y2 y3 y4 y5 y6 y7 y8 y9 y10 y11 y12 y13) (impl_Wave_read.l2 (k + 1) y0 y1 y2 y3 y4 y5 y6 y7 y8 y9 y10 y11 y12 y13)) ∧ (∀ y0 y1 y2 y3 y4 y5 y6 y7 y8 y9 y10 y11, LeO (impl_Wave_read.l3 k y0 y1 y2 y3 y4 y5 y6 y7 y8 y9 y10 y11) (impl_Wave_read.l3 (k + 1) y0 y1 y2 y3 y4 y5 y6 y7 y8 y9 y10 y11))
 | 0 => ⟨fun _ _ _ _ r h => by simp [impl_Wave_read.j0] at h, fun _ _ _ _ _ _ _ r h => by simp [impl_Wave_read.l0] at h, fun _ _ _ _ _ _ _ _ r h => by simp [impl_Wave_read.l1] at h, fun _ _ _ _ _ _ _ _ _ _ _ r h => by simp [impl_Wave_read.j3] at h, fun _ _ _ _ _ _ _ _ _ _ _ _ _ _ r h => by simp [impl_Wave_read.l2] at h, fun _ _ _ _ _ _ _ _ _ _ _ _ r h => by simp [impl_Wave_read.l3] at h⟩
 | k + 1 => by
  obtain ⟨ih0, ih1, ih2, ih3, ih4, ih5⟩ := impl_Wave_read.mono_l k
  refine ⟨?_, ?_, ?_, ?_, ?_, ?_⟩
  ·intro y0 y1 y2 y3
   unfold impl_Wave_read.j0
   repeat' first|(with_reducible first|exact ih0 _ _ _ _|exact ih1 _ _ _ _ _ _ _|exact ih2 _ _ _ _ _ _ _ _|exact ih3 _ _ _ _ _ _ _ _ _ _ _|exact ih4 _ _ _ _ _ _ _ _ _ _ _ _ _ _|exact ih5 _ _ _ _ _ _ _ _ _ _ _ _|exact impl_BitsList.mono _ _ _|exact impl_count.mono _ _ _|exact LeO.refl _|exact LeO.none _|refine LeO.ite ?_ ?_|refine LeO.bind ?_ (fun _ => ?_))|exact LeO.none _|refine LeO.ite ?_ ?_|refine LeO.bind ?_ (fun _ => ?_)
  ·intro y0 y1 y2 y3 y4 y5 y6
   unfold impl_Wave_read.l0
   repeat' first|(with_reducible first|exact ih0 _ _ _ _|exact ih1 _ _ _ _ _ _ _|exact ih2 _ _ _ _ _ _ _ _|exact ih3 _ _ _ _ _ _ _ _ _ _ _|exact ih4 _ _ _ _ _ _ _ _ _ _ _ _ _ _|exact ih5 _ _ _ _ _ _ _ _ _ _ _ _|exact impl_BitsList.mono _ _ _|exact impl_count.mono _ _ _|exact LeO.refl _|exact LeO.none _|refine LeO.ite ?_ ?_|refine LeO.bind ?_ (fun _ => ?_))|exact LeO.none _|refine LeO.ite ?_ ?_|refine LeO.bind ?_ (fun _ => ?_)
  ·intro y0 y1 y2 y3 y4 y5 y6 y7
   unfold impl_Wave_read.l1
   repeat' first|(with_reducible first|exact ih0 _ _ _ _|exact ih1 _ _ _ _ _ _ _|exact ih2 _ _ _ _ _ _ _ _|exact ih3 _ _ _ _ _ _ _ _ _ _ _|exact ih4 _ _ _ _ _ _ _ _ _ _ _ _ _ _|exact ih5 _ _ _ _ _ _ _ _ _ _ _ _|exact impl_BitsList.mono _ _ _|exact impl_count.mono _ _ _|exact LeO.refl _|exact LeO.none _|refine LeO.ite ?_ ?_|refine LeO.bind ?_ (fun _ => ?_))|exact LeO.none _|refine LeO.ite ?_ ?_|refine LeO.bind ?_ (fun _ => ?_)
  ·intro y0 y1 y2 y3 y4 y5 y6 y7 y8 y9 y10
   unfold impl_Wave_read.j3
   repeat' first|(with_reducible first|exact ih0 _ _ _ _|exact ih1 _ _ _ _ _ _ _|exact ih2 _ _ _ _ _ _ _ _|exact ih3 _ _ _ _ _ _ _ _ _ _ _|exact ih4 _ _ _ _ _ _ _ _ _ _ _ _ _ _|exact ih5 _ _ _ _ _ _ _ _ _ _ _ _|exact impl_BitsList.mono _ _ _|exact impl_count.mono _ _ _|exact LeO.refl _|exact LeO.none _|refine LeO.ite ?_ ?_|refine LeO.bind ?_ (fun _ => ?_))|exact LeO.none _|refine LeO.ite ?_ ?_|refine LeO.bind ?_ (fun _ => ?_)
  ·intro y0 y1 y2 y3 y4 y5 y6 y7 y8 y9 y10 y11 y12 y13
   unfold impl_Wave_read.l2
   repeat' first|(with_reducible first|exact ih0 _ _ _ _|exact ih1 _ _ _ _ _ _ _|exact ih2 _ _ _ _ _ _ _ _|exact ih3 _ _ _ _ _ _ _ _ _ _ _|exact ih4 _ _ _ _ _ _ _ _ _ _ _ _ _ _|exact ih5 _ _ _ _ _ _ _ _ _ _ _ _|exact impl_BitsList.mono _ _ _|exact impl_count.mono _ _ _|exact LeO.refl _|exact LeO.none _|refine LeO.ite ?_ ?_|refine LeO.bind ?_ (fun _ => ?_))|exact LeO.none _|refine LeO.ite ?_ ?_|refine LeO.bind ?_ (fun _ => ?_)
  ·intro y0 y1 y2 y3 y4 y5 y6 y7 y8 y9 y10 y11
   unfold impl_Wave_read.l3
   repeat' first|(with_reducible first|exact ih0 _ _ _ _|exact ih1 _ _ _ _ _ _ _|exact ih2 _ _ _ _ _ _ _ _|exact ih3 _ _ _ _ _ _ _ _ _ _ _|exact ih4 _ _ _ _ _ _ _ _ _ _ _ _ _ _|exact ih5 _ _ _ _ _ _ _ _ _ _ _ _|exact impl_BitsList.mono _ _ _|exact impl_count.mono _ _ _|exact LeO.refl _|exact LeO.none _|refine LeO.ite ?_ ?_|refine LeO.bind ?_ (fun _ => ?_))|exact LeO.none _|refine LeO.ite ?_ ?_|refine LeO.bind ?_ (fun _ => ?_)
theorem impl_Wave_read.mono : ∀ a0 a1 a2 k, LeO (impl_Wave_read.f k a0 a1 a2) (impl_Wave_read.f (k + 1) a0 a1 a2) := by
 intro a0 a1 a2 k
 obtain ⟨ih0, ih1, ih2, ih3, ih4, ih5⟩ := impl_Wave_read.mono_l k
 unfold impl_Wave_read.f
 repeat' first|(with_reducible first|exact ih0 _ _ _ _|exact ih1 _ _ _ _ _ _ _|exact ih2 _ _ _ _ _ _ _ _|exact ih3 _ _ _ _ _ _ _ _ _ _ _|exact ih4 _ _ _ _ _ _ _ _ _ _ _ _ _ _|exact ih5 _ _ _ _ _ _ _ _ _ _ _ _|exact impl_BitsList.mono _ _ _|exact impl_count.mono _ _ _|exact LeO.refl _|exact LeO.none _|refine LeO.ite ?_ ?_|refine LeO.bind ?_ (fun _ => ?_))|exact LeO.none _|refine LeO.ite ?_ ?_|refine LeO.bind ?_ (fun _ => ?_)
def impl_Wave_read.T3 : Bool × List (List Nat × List Nat) := (true, [([], []), ([0], [0]), ([1, 1], [1]), ([], []), ([3], [3]), ([4, 4], [4]), ([2, 0, 1, 2], [2]), ([5, 6, 0, 1, 2, 3, 4, 5, 6], [5])])
def impl_Wave_read.B3 : List Nat := [0, 1, 3, 0, 8, 24, 7, 127]
theorem impl_Wave_read.tab3 : rtab .any (opsOf Try.f40 3) = impl_Wave_read.T3 := by kernel_rfl
theorem impl_Wave_read.bits3 : waitsOk impl_Wave_read.T3.2 impl_Wave_read.B3 = true := by kernel_rfl
def impl_Wave_read.T13 : Bool × List (List Nat × List Nat) := (true, [([], []), ([0], [0]), ([1], [1]), ([2, 1], [2]), ([3], [3]), ([4, 3], [3, 4]), ([3], [3]), ([6, 3], [3, 6]), ([5, 7, 3], [3, 5, 7]), ([3, 8], [3, 8]), ([9, 3], [9]), ([10], [10]), ([11, 10, 10], [10, 11]), ([10], [10]), ([13, 10], [10, 13]), ([10], [10]), ([14, 15, 10], [10, 14, 15]), ([16, 10], [10, 16]), ([12, 17, 10], [10, 12, 17]), ([10, 18], [10, 18])])
def impl_Wave_read.B13 : List Nat := [0, 1, 3, 7, 15, 31, 15, 79, 255, 511, 1023, 2047, 4095, 2047, 10239, 2047, 59391, 124927, 262143, 524287]
theorem impl_Wave_read.tab13 : rtab .any (opsOf Try.f40 13) = impl_Wave_read.T13 := by kernel_rfl
theorem impl_Wave_read.bits13 : waitsOk impl_Wave_read.T13.2 impl_Wave_read.B13 = true := by kernel_rfl
def impl_Wave_read.T15 : Bool × List (List Nat × List Nat) := (true, [([], []), ([0], [0]), ([1, 1], [1]), ([], []), ([3], [3]), ([], []), ([4, 5], [4, 5]), ([6], [6]), ([2, 0, 1, 2], [2]), ([8, 0, 1, 2, 8], []), ([7, 9, 0, 1, 2, 3, 4, 5, 6, 7, 8, 9], [7])])
def impl_Wave_read.B15 : List Nat := [0, 1, 3, 0, 8, 0, 56, 120, 7, 263, 1023]
theorem impl_Wave_read.tab15 : rtab .any (opsOf Try.f40 15) = impl_Wave_read.T15 := by kernel_rfl
theorem impl_Wave_read.bits15 : waitsOk impl_Wave_read.T15.2 impl_Wave_read.B15 = true := by kernel_rfl
def impl_Wave_read.T26 : Bool × List (List Nat × List Nat) := (true, [([], []), ([], []), ([], []), ([], []), ([2, 3], [2, 3]), ([4], [4]), ([5], [5]), ([], []), ([], []), ([7, 8], [7, 8]), ([9], [9]), ([6, 10], [6, 10]), ([0, 1, 0, 1, 2, 3, 4, 5, 6, 7, 8, 9, 10, 11], [0, 1]), ([12, 11, 0, 1, 2, 3, 4, 5, 6, 7, 8, 9, 10, 11], [11, 12])])
def impl_Wave_read.B26 : List Nat := [0, 0, 0, 0, 12, 28, 60, 0, 0, 384, 896, 2044, 4095, 8191]
theorem impl_Wave_read.tab26 : rtab .any (opsOf Try.f40 26) = impl_Wave_read.T26 := by kernel_rfl
theorem impl_Wave_read.bits26 : waitsOk impl_Wave_read.T26.2 impl_Wave_read.B26 = true := by kernel_rfl
abbrev impl_Wave_read.m0 : Array Bool := #[F,F,F,F,F,F,F,F]
abbrev impl_Wave_read.m1 : Array Bool := #[T,F,F,F,F,F,F,F]
abbrev impl_Wave_read.m2 : Array Bool := #[T,F,F,T,F,F,F,F]
abbrev impl_Wave_read.m3 : Array Bool := #[T,T,F,T,F,F,F,F]
abbrev impl_Wave_read.m4 : Array Bool := #[T,T,F,T,T,F,F,F]
abbrev impl_Wave_read.m5 : Array Bool := #[T,T,T,T,T,F,F,F]
abbrev impl_Wave_read.m6 : Array Bool := #[T,T,F,T,T,T,F,F]
abbrev impl_Wave_read.m7 : Array Bool := #[F,F,F,F,F,F,F,F,F,F,F,F,F,F,F,F,F,F,F,F]
abbrev impl_Wave_read.m8 : Array Bool := #[T,F,F,F,F,F,F,F,F,F,F,F,F,F,F,F,F,F,F,F]
abbrev impl_Wave_read.m9 : Array Bool := #[T,T,F,F,F,F,F,F,F,F,F,F,F,F,F,F,F,F,F,F]
abbrev impl_Wave_read.m10 : Array Bool := #[T,T,T,F,F,F,F,F,F,F,F,F,F,F,F,F,F,F,F,F]
abbrev impl_Wave_read.m11 : Array Bool := #[T,T,T,T,F,F,F,F,F,F,F,F,F,F,F,F,F,F,F,F]
abbrev impl_Wave_read.m12 : Array Bool := #[T,T,T,T,T,F,F,F,F,F,F,F,F,F,F,F,F,F,F,F]
abbrev impl_Wave_read.m13 : Array Bool := #[T,T,T,T,T,T,F,F,F,F,F,F,F,F,F,F,F,F,F,F]
abbrev impl_Wave_read.m14 : Array Bool := #[T,T,T,T,T,T,T,F,F,F,F,F,F,F,F,F,F,F,F,F]
abbrev impl_Wave_read.m15 : Array Bool := #[T,T,T,T,T,T,T,T,F,F,F,F,F,F,F,F,F,F,F,F]
abbrev impl_Wave_read.m16 : Array Bool := #[T,T,T,T,T,T,T,T,T,F,F,F,F,F,F,F,F,F,F,F]
abbrev impl_Wave_read.m17 : Array Bool := #[T,T,T,T,T,T,T,T,T,T,F,F,F,F,F,F,F,F,F,F]
abbrev impl_Wave_read.m18 : Array Bool := #[T,T,T,T,T,T,T,T,T,T,T,F,F,F,F,F,F,F,F,F]
abbrev impl_Wave_read.m19 : Array Bool := #[T,T,T,T,T,T,T,T,T,T,T,T,F,F,F,F,F,F,F,F]
abbrev impl_Wave_read.m20 : Array Bool := #[T,T,T,T,T,T,T,T,T,T,T,T,T,F,F,F,F,F,F,F]
abbrev impl_Wave_read.m21 : Array Bool := #[T,T,T,T,T,T,T,T,T,T,T,T,T,T,F,F,F,F,F,F]
abbrev impl_Wave_read.m22 : Array Bool := #[T,T,T,T,T,T,T,T,T,T,T,T,T,T,T,F,F,F,F,F]
abbrev impl_Wave_read.m23 : Array Bool := #[T,T,T,T,T,T,T,T,T,T,T,T,T,T,T,T,F,F,F,F]
abbrev impl_Wave_read.m24 : Array Bool := #[T,T,T,T,T,T,T,T,T,T,T,T,T,T,T,T,T,F,F,F]
abbrev impl_Wave_read.m25 : Array Bool := #[T,T,T,T,T,T,T,T,T,T,T,T,T,T,T,T,T,T,F,F]
abbrev impl_Wave_read.m26 : Array Bool := #[T,T,T,T,T,T,T,T,T,T,T,T,T,T,T,T,T,T,T,F]
abbrev impl_Wave_read.m27 : Array Bool := #[T,T,T,T,T,T,T,T,T,T,T,T,T,T,T,T,T,T,T,T]
abbrev impl_Wave_read.m28 : Array Bool := #[T,T,T,T,T,F,T,F,F,F,F,F,F,F,F,F,F,F,F,F]
abbrev impl_Wave_read.m29 : Array Bool := #[T,T,T,T,T,T,T,T,T,T,T,T,F,T,F,F,F,F,F,F]
abbrev impl_Wave_read.m30 : Array Bool := #[T,T,T,T,T,T,T,T,T,T,T,T,F,T,F,T,F,F,F,F]
abbrev impl_Wave_read.m31 : Array Bool := #[T,T,T,T,T,T,T,T,T,T,T,T,F,T,T,T,F,F,F,F]
abbrev impl_Wave_read.m32 : Array Bool := #[T,T,T,T,T,T,T,T,T,T,T,T,F,T,T,T,T,F,F,F]
abbrev impl_Wave_read.m33 : Array Bool := #[T,T,T,T,T,T,T,T,T,T,T,T,F,T,T,T,T,T,F,F]
abbrev impl_Wave_read.m34 : Array Bool := #[F,F,F,F,F,F,F,F,F,F,F]
abbrev impl_Wave_read.m35 : Array Bool := #[T,F,F,F,F,F,F,F,F,F,F]
abbrev impl_Wave_read.m36 : Array Bool := #[T,F,F,T,F,F,F,F,F,F,F]
abbrev impl_Wave_read.m37 : Array Bool := #[T,F,F,T,F,T,F,F,F,F,F]
abbrev impl_Wave_read.m38 : Array Bool := #[T,T,F,T,F,T,F,F,F,F,F]
abbrev impl_Wave_read.m39 : Array Bool := #[T,T,F,T,T,T,F,F,F,F,F]
abbrev impl_Wave_read.m40 : Array Bool := #[T,T,F,T,T,T,T,F,F,F,F]
abbrev impl_Wave_read.m41 : Array Bool := #[T,T,F,T,T,T,T,T,F,F,F]
abbrev impl_Wave_read.m42 : Array Bool := #[T,T,T,T,T,T,T,T,F,F,F]
abbrev impl_Wave_read.m43 : Array Bool := #[T,T,T,T,T,T,T,T,T,F,F]
abbrev impl_Wave_read.m44 : Array Bool := #[T,T,T,T,T,T,T,T,T,T,F]
abbrev impl_Wave_read.m45 : Array Bool := #[T,T,T,T,T,T,T,T,T,T,T]
abbrev impl_Wave_read.m46 : Array Bool := #[F,F,F,F,F,F,F,F,F,F,F,F,F,F]
abbrev impl_Wave_read.m47 : Array Bool := #[T,F,F,F,F,F,F,F,F,F,F,F,F,F]
abbrev impl_Wave_read.m48 : Array Bool := #[T,T,F,F,F,F,F,F,F,F,F,F,F,F]
abbrev impl_Wave_read.m49 : Array Bool := #[T,T,T,F,F,F,F,F,F,F,F,F,F,F]
abbrev impl_Wave_read.m50 : Array Bool := #[T,T,T,T,F,F,F,F,F,F,F,F,F,F]
abbrev impl_Wave_read.m51 : Array Bool := #[T,T,T,T,T,F,F,F,F,F,F,F,F,F]
abbrev impl_Wave_read.m52 : Array Bool := #[T,T,T,T,T,F,F,T,F,F,F,F,F,F]
abbrev impl_Wave_read.m53 : Array Bool := #[T,T,T,T,T,F,F,T,T,F,F,F,F,F]
abbrev impl_Wave_read.m54 : Array Bool := #[T,T,T,T,T,F,F,T,T,T,F,F,F,F]
abbrev impl_Wave_read.m55 : Array Bool := #[T,T,T,T,T,T,F,T,T,T,F,F,F,F]
abbrev impl_Wave_read.m56 : Array Bool := #[T,T,T,T,T,T,T,T,T,T,F,F,F,F]
abbrev impl_Wave_read.m57 : Array Bool := #[T,T,T,T,T,T,T,T,T,T,T,F,F,F]
abbrev impl_Wave_read.m58 : Array Bool := #[T,T,T,T,T,T,T,T,T,T,T,T,F,F]
abbrev impl_Wave_read.m59 : Array Bool := #[T,T,T,T,T,T,T,T,T,T,T,T,T,F]
abbrev impl_Wave_read.m60 : Array Bool := #[T,T,T,T,T,T,T,T,T,T,T,T,T,T]
set_option maxHeartbeats 8000000 in
set_option maxRecDepth 100000 in
theorem impl_Wave_read.calls (k : Nat) (a0_0 : Int) (A0_1 : Option Addr) (c0_1 : Nat) (l0_1 : List Int) (A0_2 : Option Addr) (c0_2 : Nat) (l0_2 : List (S64)) (r1 : List Int) (r2 : Bool) (w : World) (hr0_1 : Kd.C (Kd.int .i64) w A0_1 l0_1.length l0_1) (hc0_1 : l0_1.length ≤ c0_1) (hr0_2 : Kd.C k64 w A0_2 l0_2.length l0_2) (hc0_2 : l0_2.length ≤ c0_2) (h : impl_Wave_read.f k a0_0 l0_1 l0_2 = some (r1, r2)) :
  Calls Try.prog 40 #[.agg #[.int .i64 a0_0, .slice A0_1 l0_1.length c0_1, .slice A0_2 l0_2.length c0_2]] w fun e w' => ∃ v0_ : Value, e = .returned (.tuple #[v0_, .bool r2]) ∧ Kd.R (Kd.int .i64) 3 w' w.heap.size (fun _ => True) v0_ r1 ∧ Below w.heap.size w w' := by
 have hu30:=Try.underlying30
 have hu64:=Try.underlying64
 have HR0_1:=mk0 hr0_1
 have HC0_1:=mk0 hc0_1
 clear hr0_1 hc0_1
 have HR0_2:=mk0 hr0_2
 have HC0_2:=mk0 hc0_2
 clear hr0_2 hc0_2
 have HB:=mk0 (Below.refl w.heap.size w)
 have H:((impl_within.f a0_0 0 1000).bind fun t173=>(if t173 = true then (if (l0_1.length:Int) = 9 then (impl_Wave_read.j0 k ((l0_2.length:Int) != 9) a0_0 l0_1 l0_2) else (impl_Wave_read.j0 k true a0_0 l0_1 l0_2)) else (impl_Wave_read.j0 k true a0_0 l0_1 l0_2))) = some (r1,r2):=h
 clear h
 have HC2:=mk0 H
 clear H
 go_enter Try.func40,Try.ntmps40
 go_upto_region 1 with (first|((with_reducible refine gate_dst (N:=1) rfl ?_);(try (refine gate_guard (by rfl) ?_;dsimp only));refine box_event ?hg (N:=1) ?hd (cs:=#[.int .i64 a0_0,.slice A0_1 l0_1.length c0_1,.slice A0_2 l0_2.length c0_2]) (t:=30) ?hr ?_;(case hd=>rfl);(case hg=>rfl);(case hr=>first|(go_simp;done)|(go_simp;rfl));intro gb172 hg w3 hbox hb;have n0_:=mk0 (below_step (by repeat (first|(with_reducible first|exact HB.out|apply aZ|apply nZ|apply dZ)|exact HB.out)) hb);have n1_:=mk0 (hbox);have n2_:=mk0 ((by rw [hg];exact (below_size (by repeat (first|(with_reducible first|exact HB.out|apply aZ|apply nZ|apply dZ)|exact HB.out))):w.heap.size ≤ gb172));have n3_:=mk0 ((by rw [hg];exact (below_size (by repeat (first|(with_reducible first|exact HB.out|apply aZ|apply nZ|apply dZ)|exact HB.out))):w.heap.size ≤ gb172));clear HB;have HB:=n0_;have BK172:=n1_;have GW172:=n2_;have GE172:=n3_;clear n0_ n1_ n2_ n3_ hb hbox hg))
 (try simp only [Act.put,sA,sO,sS])
 go_cut [32] (fun v32 wc=>∃ (kq:Nat) (x32_1:Bool),v32 = .bool x32_1 ∧ Aside0 (impl_Wave_read.j0 kq x32_1 a0_0 l0_1 l0_2 = some (r1,r2)) ∧ Aside0 (kq ≤ k) ∧ Aside0 (wc.heap[gb172]? = some (.cells #[.int .i64 a0_0,(.slice A0_1 l0_1.length c0_1),(.slice A0_2 l0_2.length c0_2)] 30 (0,0))) ∧ Aside0 (Below w.heap.size w wc))
 case first =>
  have H:=HC2.out
  clear HC2
  replace H:=Option.bind_eq_some_iff.mp H
  obtain⟨t173,A40,H⟩:=H
  replace H:(if t173 = true then (if (l0_1.length:Int) = 9 then (impl_Wave_read.j0 k ((l0_2.length:Int) != 9) a0_0 l0_1 l0_2) else (impl_Wave_read.j0 k true a0_0 l0_1 l0_2)) else (impl_Wave_read.j0 k true a0_0 l0_1 l0_2)) = some (r1,r2):=H
  have A4:=mk0 A40
  clear A40
  by_cases c5:t173 = true
  rotate_left
  ·replace c5:=Bool.eq_false_iff.mpr c5
   subst c5
   have H1:(impl_Wave_read.j0 k true a0_0 l0_1 l0_2) = some (r1,r2):=by rw [if_neg (show ¬ (false = true) by decide)] at H;exact H
   clear H
   have H:=H1
   clear H1
   have H':=mk0 H
   clear H
   have hcz9_0:w3.cell? ⟨gb172,0,none⟩ = some (.int .i64 a0_0):=(blk_cell BK172.out 0).trans rfl
   have hcz9_1:w3.cell? ⟨gb172,1,none⟩ = some (.slice A0_1 l0_1.length c0_1):=(blk_cell BK172.out 1).trans rfl
   have hcz9_2:w3.cell? ⟨gb172,2,none⟩ = some (.slice A0_2 l0_2.length c0_2):=(blk_cell BK172.out 2).trans rfl
   have hfz9_0:=blk_frozen BK172.out 0
   have hfz9_1:=blk_frozen BK172.out 1
   have hfz9_2:=blk_frozen BK172.out 2
   go_wp2_with (first|((with_reducible refine gate_callee (f:=41) rfl ?_);refine goesL_ (some 19) rfl rfl Try.func41 (by kernel_rfl) rfl #[.int .i64 a0_0,.int .i64 0,.int .i64 1000] rfl (by (try simp only [mA,mC,mN]);first|done|rfl|(simp only [List.length_drop,List.length_take];done)|(simp only [List.length_drop,List.length_take];rfl)) ?_;(with_reducible refine (impl_within.calls a0_0 0 1000 false _ A4.out).mono ?_);rintro e w' ⟨rfl,⟨nd,rfl⟩⟩;refine⟨_,rfl,?_⟩))
   go_meet
   case rel=>exact⟨_,(true),(by first|rfl|(simp;done)|(simp [*];done)),H',⟨by first|omega|exact Nat.le_refl _⟩,⟨by (with_reducible repeat (first|apply nB|apply dB|apply aB));exact BK172.out⟩,⟨by repeat (first|(with_reducible first|exact HB.out|apply aZ|apply nZ|apply dZ|refine sZ ?_ GE172.out)|exact HB.out)⟩⟩
  subst c5
  have H1:(if (l0_1.length:Int) = 9 then (impl_Wave_read.j0 k ((l0_2.length:Int) != 9) a0_0 l0_1 l0_2) else (impl_Wave_read.j0 k true a0_0 l0_1 l0_2)) = some (r1,r2):=by rw [if_pos rfl] at H;exact H
  clear H
  have H:=H1
  clear H1
  by_cases c6:(l0_1.length:Int) = 9
  rotate_left
  ·rw [if_neg c6] at H
   have c6b0:((l0_1.length:Int) == 9) = false:=beq_eq_false_iff_ne.mpr c6
   (try simp only [hl181_1] at c6b0)
   (try simp only [hl38_2] at c6b0)
   (try simp only [hl38_3] at c6b0)
   (try simp only [hl5_6] at c6b0)
   have c6b1:((l0_1.length:Int) != 9) = true:=bne_iff_ne.mpr c6
   (try simp only [hl181_1] at c6b1)
   (try simp only [hl38_2] at c6b1)
   (try simp only [hl38_3] at c6b1)
   (try simp only [hl5_6] at c6b1)
   (first|rw [c6b0]|(simp only [i64_w,i32_w];rw [c6b0])|skip)
   have H':=mk0 H
   clear H
   have hcz8_0:w3.cell? ⟨gb172,0,none⟩ = some (.int .i64 a0_0):=(blk_cell BK172.out 0).trans rfl
   have hcz8_1:w3.cell? ⟨gb172,1,none⟩ = some (.slice A0_1 l0_1.length c0_1):=(blk_cell BK172.out 1).trans rfl
   have hcz8_2:w3.cell? ⟨gb172,2,none⟩ = some (.slice A0_2 l0_2.length c0_2):=(blk_cell BK172.out 2).trans rfl
   have hfz8_0:=blk_frozen BK172.out 0
   have hfz8_1:=blk_frozen BK172.out 1
   have hfz8_2:=blk_frozen BK172.out 2
   go_wp2_with (first|((with_reducible refine gate_callee (f:=41) rfl ?_);refine goesL_ (some 19) rfl rfl Try.func41 (by kernel_rfl) rfl #[.int .i64 a0_0,.int .i64 0,.int .i64 1000] rfl (by (try simp only [mA,mC,mN]);first|done|rfl|(simp only [List.length_drop,List.length_take];done)|(simp only [List.length_drop,List.length_take];rfl)) ?_;(with_reducible refine (impl_within.calls a0_0 0 1000 true _ A4.out).mono ?_);rintro e w' ⟨rfl,⟨nd,rfl⟩⟩;refine⟨_,rfl,?_⟩))
   go_meet
   case rel=>exact⟨_,(true),(by first|rfl|(simp;done)|(simp [*];done)),H',⟨by first|omega|exact Nat.le_refl _⟩,⟨by (with_reducible repeat (first|apply nB|apply dB|apply aB));exact BK172.out⟩,⟨by repeat (first|(with_reducible first|exact HB.out|apply aZ|apply nZ|apply dZ|refine sZ ?_ GE172.out)|exact HB.out)⟩⟩
  rw [if_pos c6] at H
  have c6b0:((l0_1.length:Int) == 9) = true:=beq_iff_eq.mpr c6
  (try simp only [hl181_1] at c6b0)
  (try simp only [hl38_2] at c6b0)
  (try simp only [hl38_3] at c6b0)
  (try simp only [hl5_6] at c6b0)
  have c6b1:((l0_1.length:Int) != 9) = false:=bne_eq_false_iff_eq.mpr c6
  (try simp only [hl181_1] at c6b1)
  (try simp only [hl38_2] at c6b1)
  (try simp only [hl38_3] at c6b1)
  (try simp only [hl5_6] at c6b1)
  clear c6
  (first|rw [c6b0]|(simp only [i64_w,i32_w];rw [c6b0])|skip)
  have H':=mk0 H
  clear H
  have hcz7_0:w3.cell? ⟨gb172,0,none⟩ = some (.int .i64 a0_0):=(blk_cell BK172.out 0).trans rfl
  have hcz7_1:w3.cell? ⟨gb172,1,none⟩ = some (.slice A0_1 l0_1.length c0_1):=(blk_cell BK172.out 1).trans rfl
  have hcz7_2:w3.cell? ⟨gb172,2,none⟩ = some (.slice A0_2 l0_2.length c0_2):=(blk_cell BK172.out 2).trans rfl
  have hfz7_0:=blk_frozen BK172.out 0
  have hfz7_1:=blk_frozen BK172.out 1
  have hfz7_2:=blk_frozen BK172.out 2
  go_wp2_with (first|((with_reducible refine gate_callee (f:=41) rfl ?_);refine goesL_ (some 19) rfl rfl Try.func41 (by kernel_rfl) rfl #[.int .i64 a0_0,.int .i64 0,.int .i64 1000] rfl (by (try simp only [mA,mC,mN]);first|done|rfl|(simp only [List.length_drop,List.length_take];done)|(simp only [List.length_drop,List.length_take];rfl)) ?_;(with_reducible refine (impl_within.calls a0_0 0 1000 true _ A4.out).mono ?_);rintro e w' ⟨rfl,⟨nd,rfl⟩⟩;refine⟨_,rfl,?_⟩))
  go_meet
  case rel=>exact⟨_,(((l0_2.length:Int) != 9)),(by first|rfl|(simp;done)|(simp [*];done)),H',⟨by first|omega|exact Nat.le_refl _⟩,⟨by (with_reducible repeat (first|apply nB|apply dB|apply aB));exact BK172.out⟩,⟨by repeat (first|(with_reducible first|exact HB.out|apply aZ|apply nZ|apply dZ|refine sZ ?_ GE172.out)|exact HB.out)⟩⟩
 case rest =>
  clear HC2
  try clear p2
  try clear c4
  try clear c5
  try clear c6
  try clear c6b0
  try clear c6b1
  try clear hcz7_0
  try clear hcz7_1
  try clear hcz7_2
  try clear hcz8_0
  try clear hcz8_1
  try clear hcz8_2
  try clear hcz9_0
  try clear hcz9_1
  try clear hcz9_2
  try clear hfz7_0
  try clear hfz7_1
  try clear hfz7_2
  try clear hfz8_0
  try clear hfz8_1
  try clear hfz8_2
  try clear hfz9_0
  try clear hfz9_1
  try clear hfz9_2
  obtain⟨kq,x32_1,rfl,HA,HJ1,BK172,HB⟩:=hcut
  cases kq with
  | zero=>exact absurd HA.out (by simp [impl_Wave_read.j0])
  | succ kj1 =>
   have H:=HA.out
   clear HA
   simp only [impl_Wave_read.j0] at H
   by_cases c10:x32_1 = true
   ·subst c10
    have H1:(some (([]:List Int),false)) = some (r1,r2):=by rw [if_pos rfl] at H;exact H
    clear H
    have H:=H1
    clear H1
    simp only [Option.some.injEq,Prod.mk.injEq] at H
    obtain⟨rfl,rfl⟩:=H
    go_wp2
    go_ret2
    exact⟨_,by first|rfl|(simp [errW_none,errW_some] <;> rfl)|(simp [*,errW_none,errW_some] <;> rfl),by first|exact Kd.R_nil _ _ _ _ _|exact Kd.N_nil _ _ _ _ _|exact Kd.V_nil _ _ _ _ _|exact Kd.Q_nil _ _ _ _ _|exact Kd.S_nil _ _ _ _ _,by repeat (first|(with_reducible first|exact HB.out|apply aZ|apply nZ|apply dZ|refine sZ ?_ GE172.out)|exact HB.out)⟩
   replace c10:=Bool.eq_false_iff.mpr c10
   subst c10
   have H1:(if 0 ≤ a0_0 then (if (a0_0:Int).toNat ≤ 35184372088832 then ((some (List.replicate (a0_0:Int).toNat 0:List Int)).bind fun y177=>(impl_Wave_read.l0 kj1 (List.replicate (a0_0:Int).toNat 0) y177 (y177.length:Int) 0 a0_0 l0_1 l0_2)) else (none)) else (none)) = some (r1,r2):=by rw [if_neg (show ¬ (false = true) by decide)] at H;exact H
   clear H
   have H:=H1
   clear H1
   by_cases c11:0 ≤ a0_0
   rotate_left
   ·rw [if_neg c11] at H
    exact absurd H (by simp)

   rw [if_pos c11] at H
   have c11b0:=eq_true c11
   have c11b1:decide (0 ≤ a0_0) = true:=decide_eq_true c11
   clear c11
   by_cases c12:(a0_0:Int).toNat ≤ 35184372088832
   rotate_left
   ·rw [if_neg c12] at H
    exact absurd H (by simp)
   rw [if_pos c12] at H
   have c12b0:=eq_true c12
   have c12b1:decide ((a0_0:Int).toNat ≤ 35184372088832) = true:=decide_eq_true c12
   clear c12
   obtain⟨y174,hy174⟩:∃ y_:List Int,y_ = (List.replicate (a0_0:Int).toNat 0):=⟨_,rfl⟩
   replace H:((some (List.replicate (a0_0:Int).toNat 0:List Int)).bind fun y177=>(impl_Wave_read.l0 kj1 y174 y177 (y177.length:Int) 0 a0_0 l0_1 l0_2)) = some (r1,r2):=by first|(rw [hy174];with_reducible exact H)|(have H2_:=(Option.bind_some _ _).symm.trans H;rw [hy174];with_reducible exact H2_)|(have H2_:=(Option.bind_some _ _).symm.trans H;with_reducible exact H2_)|with_reducible exact H|(rw [hy174];exact H)|exact H
   have Ny174:=mk0 hy174
   clear hy174
   obtain⟨y177,hy177⟩:∃ y_:List Int,y_ = (List.replicate (a0_0:Int).toNat 0):=⟨_,rfl⟩
   replace H:(impl_Wave_read.l0 kj1 y174 y177 (y177.length:Int) 0 a0_0 l0_1 l0_2) = some (r1,r2):=by first|(rw [hy177];with_reducible exact H)|(have H2_:=(Option.bind_some _ _).symm.trans H;rw [hy177];with_reducible exact H2_)|(have H2_:=(Option.bind_some _ _).symm.trans H;with_reducible exact H2_)|with_reducible exact H|(rw [hy177];exact H)|exact H
   have Ny177:=mk0 hy177
   clear hy177
   have H':=mk0 H
   clear H
   try go_wp2
   have n0_:=mk0 (dB BK172.out)
   have n1_:=mk0 (dZ HB.out)
   clear BK172
   clear HB
   have BK172:=n0_
   have HB:=n1_
   clear n0_ n1_
   refine start_ (n:=8) (S:=fun w'=>w'.cell? ⟨gb172,0,none⟩ = some (.int .i64 a0_0) ∧ w'.cell? ⟨gb172,1,none⟩ = some (.slice A0_1 l0_1.length c0_1) ∧ w'.cell? ⟨gb172,2,none⟩ = some (.slice A0_2 l0_2.length c0_2)) (ds:=[]) impl_Wave_read.m0 (by kernel_rfl) rfl rfl ⟨(blk_cell BK172.out 0).trans rfl,(blk_cell BK172.out 1).trans rfl,(blk_cell BK172.out 2).trans rfl⟩ (fun hHeld=>?_);refine with_tabW impl_Wave_read.tab3 impl_Wave_read.bits3 (fun HT_ HW_=>?_)
   generalize wc.drew = w13 at BK172 HB hHeld ⊢
   refine pure_ (i:=0) (N:=some 33) (v:=?_) (a':=?_) impl_Wave_read.m1 rfl rfl (any_of HT_.out (by kernel_rfl)) (fun _ _ _ h=>h) (Or.inl ⟨by rfl,?_⟩) ?_ ?_
   rotate_left
   ·intro w'
    go_simp
    with_reducible rfl
   rotate_left
   ·simp only [Act.put,sA,sO,sS,i64_w,i32_w]
    rfl
   refine pure_ (i:=3) (N:=some 36) (v:=?_) (a':=?_) impl_Wave_read.m2 rfl rfl (any_of HT_.out (by kernel_rfl)) (fun _ _ _ h=>h) (Or.inl ⟨by rfl,?_⟩) ?_ ?_
   rotate_left
   ·intro w'
    go_simp
    with_reducible rfl
   rotate_left
   ·simp only [Act.put,sA,sO,sS,i64_w,i32_w]
    rfl
   refine take_ (i:=1) (N:=some 34) (v:=?_) (a':=?_) impl_Wave_read.m3 rfl rfl (take_ofW HT_.out HW_.out (by kernel_rfl)) (fun _ _ _ h=>h) (Or.inl ⟨by rfl,?_⟩) hHeld ?_ ?_
   rotate_left
   ·rintro w' ⟨s0,s1,s2⟩
    go_simp
    with_reducible rfl
   rotate_left
   ·simp only [Act.put,sA,sO,sS,i64_w,i32_w]
    rfl
   refine take_ (i:=4) (N:=some 37) (v:=?_) (a':=?_) impl_Wave_read.m4 rfl rfl (take_ofW HT_.out HW_.out (by kernel_rfl)) (fun _ _ _ h=>h) (Or.inl ⟨by rfl,?_⟩) hHeld ?_ ?_
   rotate_left
   ·rintro w' ⟨s0,s1,s2⟩
    go_simp
    with_reducible rfl
   rotate_left
   ·simp only [Act.put,sA,sO,sS,i64_w,i32_w]
    rfl
   refine join_ (σ:=Value × Value) 1 #[true,true,true,true,true,true,true,false] (fun s_=>[(35,s_.1),(38,s_.2),(4,s_.1)]) (fun s_ w'=>(w'.cell? ⟨gb172,0,none⟩ = some (.int .i64 a0_0) ∧ w'.cell? ⟨gb172,1,none⟩ = some (.slice A0_1 l0_1.length c0_1) ∧ w'.cell? ⟨gb172,2,none⟩ = some (.slice A0_2 l0_2.length c0_2)) ∧ (Kd.R (Kd.int .i64) 3 w' w.heap.size (fun k_=>some k_ ≠ (s_.2:Value).ownBlock) s_.1 y174) ∧ (Kd.R (Kd.int .i64) 3 w' w.heap.size (fun k_=>some k_ ≠ (s_.1:Value).ownBlock) s_.2 y177) ∧ (w'.heap[gb172]? = some (.cells #[.int .i64 a0_0,.slice A0_1 l0_1.length c0_1,.slice A0_2 l0_2.length c0_2] 30 (0,0))) ∧ (Below w.heap.size w w')) ?_ ?_
   rotate_left
   ·intro hCont
    refine two_ (i:=2) (j:=5) (Ni:=some 35) (Nj:=some 38) impl_Wave_read.m5 impl_Wave_read.m6 rfl rfl rfl rfl (two_of HT_.out (by kernel_rfl)) (by decide) (by decide) (fun K hK=>?_) (fun K hK=>?_)
    ·skip
     refine Kd.R_make_step (Kd.int .i64) _ 3 (by rfl) (N:=35) rfl 22 _ _ rfl a0_0 rfl rfl Try.underlying22 (.int .i64 0) 8 info3 rfl (by decide) (by omega) 0 (ok:=fun _=>True) (okp:=fun _=>True) rfl (fun _ hk=>hk) trivial (of_decide_eq_true (by first|(with_reducible assumption)|assumption)) (Nat.le_trans (Nat.mul_le_mul_right _ (of_decide_eq_true (by first|(with_reducible assumption)|assumption):a0_0.toNat ≤ 35184372088832)) (by omega)) (Below.refl _ _) (Nat.le_refl _) ?_
     intro v175 w14 ho15 hb hg_ hnew_
     clear hg_ hnew_
     (first|rw [← Ny174.out] at ho15|(simp only [Int.reduceToNat] at ho15;rw [← Ny174.out] at ho15))
     have n0_:=mk0 (Kd.R_lower ho15 (below_size (by repeat (first|(with_reducible first|exact HB.out|apply aZ|apply nZ|apply dZ|refine sZ ?_ GE172.out)|exact HB.out))))
     have n1_:=mk0 (blk_below (g:=gb172) (o:=.cells #[.int .i64 a0_0,.slice A0_1 l0_1.length c0_1,.slice A0_2 l0_2.length c0_2] 30 (0,0)) (by (with_reducible repeat (first|apply nB|apply dB|apply aB));exact BK172.out) hb)
     have n2_:=mk0 (below_step (by repeat (first|(with_reducible first|exact HB.out|apply aZ|apply nZ|apply dZ|refine sZ ?_ GE172.out)|exact HB.out)) hb)
     clear BK172
     clear HB
     have HO176:=n0_
     have BK172:=n1_
     have HB:=n2_
     clear n0_ n1_ n2_
     clear hb ho15
     refine hK.out _ _ ⟨(blk_cell BK172.out 0).trans rfl,(blk_cell BK172.out 1).trans rfl,(blk_cell BK172.out 2).trans rfl⟩ (fun hHeld=>?_)
     clear hK K
     refine norm_ (a':=?_) ?_ ?_
     rotate_left
     ·show Act.put _ (some 35) _ = _
      simp only [Act.put,sA,sO,sS,i64_w,i32_w]
      rfl
     refine pure_ (i:=6) (N:=some 4) (v:=?_) (a':=?_) #[true,true,true,true,true,false,true,false] rfl rfl (any_of HT_.out (by kernel_rfl)) (fun _ _ _ h=>h) (Or.inl ⟨by rfl,?_⟩) ?_ ?_
     rotate_left
     ·intro w'
      go_simp
      with_reducible rfl
     rotate_left
     ·simp only [Act.put,sA,sO,sS,i64_w,i32_w]
      rfl
     refine one_ (i:=5) (N:=some 38) #[true,true,true,true,true,true,true,false] rfl rfl (one_of HT_.out (by kernel_rfl)) (by decide) (fun K hK=>?_)
     refine Kd.R_make_step (Kd.int .i64) _ 3 (by rfl) (N:=38) rfl 22 _ _ rfl a0_0 rfl rfl Try.underlying22 (.int .i64 0) 8 info3 rfl (by decide) (by omega) 0 (ok:=fun _=>True) (okp:=fun _=>True) rfl (fun _ hk=>hk) trivial (of_decide_eq_true (by first|(with_reducible assumption)|assumption)) (Nat.le_trans (Nat.mul_le_mul_right _ (of_decide_eq_true (by first|(with_reducible assumption)|assumption):a0_0.toNat ≤ 35184372088832)) (by omega)) (Below.refl _ _) (Nat.le_refl _) ?_
     intro v178 w16 ho17 hb hg_ hnew_
     clear hg_ hnew_
     (first|rw [← Ny177.out] at ho17|(simp only [Int.reduceToNat] at ho17;rw [← Ny177.out] at ho17))
     have n0_:=mk0 (Kd.R_elder' (by (with_reducible repeat (first|apply aR|apply nR|apply dR));exact HO176.out) (Kd.R_base ho17) hb)
     have n1_:=mk0 (Kd.R_lower (Kd.R_new' ho17 (Kd.R_lt (by (with_reducible repeat (first|apply aR|apply nR|apply dR));exact HO176.out))) (below_size (by repeat (first|(with_reducible first|exact HB.out|apply aZ|apply nZ|apply dZ|refine sZ ?_ GE172.out)|exact HB.out))))
     have n2_:=mk0 (blk_below (g:=gb172) (o:=.cells #[.int .i64 a0_0,.slice A0_1 l0_1.length c0_1,.slice A0_2 l0_2.length c0_2] 30 (0,0)) (by (with_reducible repeat (first|apply nB|apply dB|apply aB));exact BK172.out) hb)
     have n3_:=mk0 (below_step (by repeat (first|(with_reducible first|exact HB.out|apply aZ|apply nZ|apply dZ|refine sZ ?_ GE172.out)|exact HB.out)) hb)
     clear HO176
     clear BK172
     clear HB
     have HO176:=n0_
     have HO179:=n1_
     have BK172:=n2_
     have HB:=n3_
     clear n0_ n1_ n2_ n3_
     clear hb ho17
     refine hK.out _ _ ⟨(blk_cell BK172.out 0).trans rfl,(blk_cell BK172.out 1).trans rfl,(blk_cell BK172.out 2).trans rfl⟩ (fun hHeld=>?_)
     clear hK K
     refine norm_ (a':=?_) ?_ ?_
     rotate_left
     ·show Act.put _ (some 38) _ = _
      simp only [Act.put,sA,sO,sS,i64_w,i32_w]
      rfl
     exact norm_ (by simp only [putAll,Act.put,sA,sO,sS]) (hCont (v175,v178) _ ⟨hHeld,(by (with_reducible repeat (first|apply aR|apply nR|apply dR));exact Kd.R_mono HO176.out (by first|exact fun _ hk=>hk.2|(intro k_ hk;simp only [hk,ne_eq,and_self,not_false_eq_true]))),(by (with_reducible repeat (first|apply aR|apply nR|apply dR));exact Kd.R_mono HO179.out (by first|exact fun _ hk=>hk.2|(intro k_ hk;simp only [hk,ne_eq,and_self,not_false_eq_true]))),(by (with_reducible repeat (first|apply nB|apply dB|apply aB));exact BK172.out),(by repeat (first|(with_reducible first|exact HB.out|apply aZ|apply nZ|apply dZ|refine sZ ?_ GE172.out)|exact HB.out))⟩)
    ·skip
     refine Kd.R_make_step (Kd.int .i64) _ 3 (by rfl) (N:=38) rfl 22 _ _ rfl a0_0 rfl rfl Try.underlying22 (.int .i64 0) 8 info3 rfl (by decide) (by omega) 0 (ok:=fun _=>True) (okp:=fun _=>True) rfl (fun _ hk=>hk) trivial (of_decide_eq_true (by first|(with_reducible assumption)|assumption)) (Nat.le_trans (Nat.mul_le_mul_right _ (of_decide_eq_true (by first|(with_reducible assumption)|assumption):a0_0.toNat ≤ 35184372088832)) (by omega)) (Below.refl _ _) (Nat.le_refl _) ?_
     intro v178 w14 ho15 hb hg_ hnew_
     clear hg_ hnew_
     (first|rw [← Ny177.out] at ho15|(simp only [Int.reduceToNat] at ho15;rw [← Ny177.out] at ho15))
     have n0_:=mk0 (Kd.R_lower ho15 (below_size (by repeat (first|(with_reducible first|exact HB.out|apply aZ|apply nZ|apply dZ|refine sZ ?_ GE172.out)|exact HB.out))))
     have n1_:=mk0 (blk_below (g:=gb172) (o:=.cells #[.int .i64 a0_0,.slice A0_1 l0_1.length c0_1,.slice A0_2 l0_2.length c0_2] 30 (0,0)) (by (with_reducible repeat (first|apply nB|apply dB|apply aB));exact BK172.out) hb)
     have n2_:=mk0 (below_step (by repeat (first|(with_reducible first|exact HB.out|apply aZ|apply nZ|apply dZ|refine sZ ?_ GE172.out)|exact HB.out)) hb)
     clear BK172
     clear HB
     have HO179:=n0_
     have BK172:=n1_
     have HB:=n2_
     clear n0_ n1_ n2_
     clear hb ho15
     refine hK.out _ _ ⟨(blk_cell BK172.out 0).trans rfl,(blk_cell BK172.out 1).trans rfl,(blk_cell BK172.out 2).trans rfl⟩ (fun hHeld=>?_)
     clear hK K
     refine norm_ (a':=?_) ?_ ?_
     rotate_left
     ·show Act.put _ (some 38) _ = _
      simp only [Act.put,sA,sO,sS,i64_w,i32_w]
      rfl
     refine one_ (i:=2) (N:=some 35) #[true,true,true,true,true,true,false,false] rfl rfl (one_of HT_.out (by kernel_rfl)) (by decide) (fun K hK=>?_)
     refine Kd.R_make_step (Kd.int .i64) _ 3 (by rfl) (N:=35) rfl 22 _ _ rfl a0_0 rfl rfl Try.underlying22 (.int .i64 0) 8 info3 rfl (by decide) (by omega) 0 (ok:=fun _=>True) (okp:=fun _=>True) rfl (fun _ hk=>hk) trivial (of_decide_eq_true (by first|(with_reducible assumption)|assumption)) (Nat.le_trans (Nat.mul_le_mul_right _ (of_decide_eq_true (by first|(with_reducible assumption)|assumption):a0_0.toNat ≤ 35184372088832)) (by omega)) (Below.refl _ _) (Nat.le_refl _) ?_
     intro v175 w16 ho17 hb hg_ hnew_
     clear hg_ hnew_
     (first|rw [← Ny174.out] at ho17|(simp only [Int.reduceToNat] at ho17;rw [← Ny174.out] at ho17))
     have n0_:=mk0 (Kd.R_elder' (by (with_reducible repeat (first|apply aR|apply nR|apply dR));exact HO179.out) (Kd.R_base ho17) hb)
     have n1_:=mk0 (Kd.R_lower (Kd.R_new' ho17 (Kd.R_lt (by (with_reducible repeat (first|apply aR|apply nR|apply dR));exact HO179.out))) (below_size (by repeat (first|(with_reducible first|exact HB.out|apply aZ|apply nZ|apply dZ|refine sZ ?_ GE172.out)|exact HB.out))))
     have n2_:=mk0 (blk_below (g:=gb172) (o:=.cells #[.int .i64 a0_0,.slice A0_1 l0_1.length c0_1,.slice A0_2 l0_2.length c0_2] 30 (0,0)) (by (with_reducible repeat (first|apply nB|apply dB|apply aB));exact BK172.out) hb)
     have n3_:=mk0 (below_step (by repeat (first|(with_reducible first|exact HB.out|apply aZ|apply nZ|apply dZ|refine sZ ?_ GE172.out)|exact HB.out)) hb)
     clear HO179
     clear BK172
     clear HB
     have HO179:=n0_
     have HO176:=n1_
     have BK172:=n2_
     have HB:=n3_
     clear n0_ n1_ n2_ n3_
     clear hb ho17
     refine hK.out _ _ ⟨(blk_cell BK172.out 0).trans rfl,(blk_cell BK172.out 1).trans rfl,(blk_cell BK172.out 2).trans rfl⟩ (fun hHeld=>?_)
     clear hK K
     refine norm_ (a':=?_) ?_ ?_
     rotate_left
     ·show Act.put _ (some 35) _ = _
      simp only [Act.put,sA,sO,sS,i64_w,i32_w]
      rfl
     refine pure_ (i:=6) (N:=some 4) (v:=?_) (a':=?_) #[true,true,true,true,true,true,true,false] rfl rfl (any_of HT_.out (by kernel_rfl)) (fun _ _ _ h=>h) (Or.inl ⟨by rfl,?_⟩) ?_ ?_
     rotate_left
     ·intro w'
      go_simp
      with_reducible rfl
     rotate_left
     ·simp only [Act.put,sA,sO,sS,i64_w,i32_w]
      rfl
     exact norm_ (by simp only [putAll,Act.put,sA,sO,sS]) (hCont (v175,v178) _ ⟨hHeld,(by (with_reducible repeat (first|apply aR|apply nR|apply dR));exact Kd.R_mono HO176.out (by first|exact fun _ hk=>hk.2|(intro k_ hk;simp only [hk,ne_eq,and_self,not_false_eq_true]))),(by (with_reducible repeat (first|apply aR|apply nR|apply dR));exact Kd.R_mono HO179.out (by first|exact fun _ hk=>hk.2|(intro k_ hk;simp only [hk,ne_eq,and_self,not_false_eq_true]))),(by (with_reducible repeat (first|apply nB|apply dB|apply aB));exact BK172.out),(by repeat (first|(with_reducible first|exact HB.out|apply aZ|apply nZ|apply dZ|refine sZ ?_ GE172.out)|exact HB.out))⟩)
   rintro⟨v175,v178⟩ w18 ⟨hS_,h0_,h1_,h2_,h3_⟩
   have n0_:Aside0 (Kd.R (Kd.int .i64) 3 w18 w.heap.size (fun k_=>some k_ ≠ (v178:Value).ownBlock) v175 y174):=⟨h0_⟩
   have n1_:Aside0 (Kd.R (Kd.int .i64) 3 w18 w.heap.size (fun k_=>some k_ ≠ (v175:Value).ownBlock) v178 y177):=⟨h1_⟩
   have n2_:Aside0 (w18.heap[gb172]? = some (.cells #[.int .i64 a0_0,.slice A0_1 l0_1.length c0_1,.slice A0_2 l0_2.length c0_2] 30 (0,0))):=⟨h2_⟩
   have n3_:Aside0 (Below w.heap.size w w18):=⟨h3_⟩
   clear BK172
   clear HB
   clear h0_ h1_ h2_ h3_
   have HO176:=n0_
   have HO179:=n1_
   have BK172:=n2_
   have HB:=n3_
   clear n0_ n1_ n2_ n3_
   have hHeld:w18.cell? ⟨gb172,0,none⟩ = some (.int .i64 a0_0) ∧ w18.cell? ⟨gb172,1,none⟩ = some (.slice A0_1 l0_1.length c0_1) ∧ w18.cell? ⟨gb172,2,none⟩ = some (.slice A0_2 l0_2.length c0_2):=hS_
   refine norm_ (a':=?_) ?_ ?_
   rotate_left
   ·simp only [putAll,Act.put,sA,sO,sS]
    rfl
   refine pure_ (i:=7) (N:=some 5) (v:=?_) (a':=?_) #[true,true,true,true,true,true,true,true] rfl rfl (any_of HT_.out (by kernel_rfl)) (fun _ _ _ h=>h) (Or.inl ⟨by rfl,?_⟩) ?_ ?_
   rotate_left
   ·intro w'
    go_simp
    with_reducible rfl
   rotate_left
   ·simp only [Act.put,sA,sO,sS,i64_w,i32_w]
    rfl
   refine done_ (done_of HT_.out (by kernel_rfl)) ?_
   obtain⟨Ao19,co19,eo19⟩:=Kd.R_slice HO179.out
   subst eo19
   try go_wp2
   go_loopg [41] kj1 (fun kq v41 w'=>∃ (x38_2:List Int) (x41_2:Int),v41 = .int .i64 x41_2 ∧ Aside0 (impl_Wave_read.l0 kq y174 x38_2 (y177.length:Int) x41_2 a0_0 l0_1 l0_2 = some (r1,r2)) ∧ Aside0 (kq ≤ kj1) ∧ Aside0 (Kd.R (Kd.int .i64) 3 w' w.heap.size (fun k_=>some k_ ≠ ((.slice Ao19 y177.length co19):Value).ownBlock) v175 y174) ∧ Aside0 (Kd.R (Kd.int .i64) 3 w' w.heap.size (fun k_=>some k_ ≠ (v175:Value).ownBlock) (.slice Ao19 y177.length co19) x38_2) ∧ Aside0 (w'.heap[gb172]? = some (.cells #[.int .i64 a0_0,(.slice A0_1 l0_1.length c0_1),(.slice A0_2 l0_2.length c0_2)] 30 (0,0))) ∧ Aside0 (Below w.heap.size w w'))
   case atStart=>exact⟨(y177),(0),(by first|rfl|(simp;done)|(simp [*];done)),H',⟨Nat.le_refl _⟩,⟨by (with_reducible repeat (first|apply aR|apply nR|apply dR));exact HO176.out⟩,⟨by (with_reducible repeat (first|apply aR|apply nR|apply dR));exact HO179.out⟩,⟨by (with_reducible repeat (first|apply nB|apply dB|apply aB));exact BK172.out⟩,⟨by repeat (first|(with_reducible first|exact HB.out|apply aZ|apply nZ|apply dZ|refine sZ ?_ GE172.out)|exact HB.out)⟩⟩
   case round =>
    clear H'
    try clear c1
    try clear p2
    try clear c4
    try clear c5
    try clear c6
    try clear c6b0
    try clear c6b1
    try clear c10
    try clear c11
    try clear c11b0
    try clear c11b1
    try clear c12
    try clear c12b0
    try clear c12b1
    try clear hcz7_0
    try clear hcz7_1
    try clear hcz7_2
    try clear hcz8_0
    try clear hcz8_1
    try clear hcz8_2
    try clear hcz9_0
    try clear hcz9_1
    try clear hcz9_2
    try clear hfz7_0
    try clear hfz7_1
    try clear hfz7_2
    try clear hfz8_0
    try clear hfz8_1
    try clear hfz8_2
    try clear hfz9_0
    try clear hfz9_1
    try clear hfz9_2
    try clear p2
    obtain⟨x38_2,x41_2,rfl,HA,HK2,HO_35,HO_38,BK172,HB⟩:=hrel
    have hl38_2:=(Kd.R_reads' HO_38.out).1
    rw [hl38_2] at HO_38
    (try simp only [hl38_2])
    (try simp only [hl38_2] at BK172)
    (try simp only [hl38_2] at HO_35)
    cases gk with
    | zero=>exact absurd HA.out (by simp [impl_Wave_read.l0])
    | succ k2 =>
     have H:=HA.out
     clear HA
     simp only [impl_Wave_read.l0] at H
     by_cases c20:x41_2 < (y177.length:Int)
     ·rw [if_pos c20] at H
      have c20b0:decide (x41_2 < (y177.length:Int)) = true:=decide_eq_true c20
      (try simp only [hl181_1] at c20b0)
      (try simp only [hl38_2] at c20b0)
      (try simp only [hl38_3] at c20b0)
      (try simp only [hl5_6] at c20b0)
      clear c20
      by_cases c21:0 ≤ x41_2
      rotate_left
      ·rw [if_neg c21] at H
       exact absurd H (by simp)
      rw [if_pos c21] at H
      have c21b0:decide (0 ≤ x41_2) = true:=decide_eq_true c21
      clear c21
      by_cases c22:x41_2 < (x38_2.length:Int)
      rotate_left
      ·rw [if_neg c22] at H
       exact absurd H (by simp)
      rw [if_pos c22] at H
      have c22b0:decide (x41_2 < (x38_2.length:Int)) = true:=decide_eq_true c22
      (try simp only [hl181_1] at c22b0)
      (try simp only [hl38_2] at c22b0)
      (try simp only [hl38_3] at c22b0)
      (try simp only [hl5_6] at c22b0)
      clear c22
      obtain⟨y180,hy180⟩:∃ y_:List Int,y_ = (x38_2.set (x41_2:Int).toNat x41_2):=⟨_,rfl⟩
      replace H:(impl_Wave_read.l0 k2 y174 y180 (y177.length:Int) (wrap64 (x41_2 + 1)) a0_0 l0_1 l0_2) = some (r1,r2):=by first|(rw [hy180];with_reducible exact H)|(have H2_:=(Option.bind_some _ _).symm.trans H;rw [hy180];with_reducible exact H2_)|(have H2_:=(Option.bind_some _ _).symm.trans H;with_reducible exact H2_)|with_reducible exact H|(rw [hy180];exact H)|exact H
      have Ny180:=mk0 hy180
      clear hy180
      have H':=mk0 H
      clear H
      have p23:0 ≤ (x41_2:Int):=of_decide_eq_true (by first|(with_reducible assumption)|assumption)
      have q23:(x41_2:Int) < ((x38_2.length:Int):Int):=of_decide_eq_true (by first|(with_reducible assumption)|assumption)
      obtain⟨go23,co23,eo23,gb23,gl23,cl23,HG23⟩:=Kd.R_form HO_38.out (by omega)
      (first|cases eo23|(injection eo23 with ea_ en_ ec_;(first|subst ea_|(injection ea_ with ea_;subst ea_));subst ec_;clear en_))
      have GB23:=mk0 gb23
      have GG23:=mk0 HG23
      clear gb23 gl23 HG23
      obtain⟨hx23_0,hf23_0⟩:=Kd.R_celln 0 HO_38.out (x41_2:Int) p23 q23
      replace p23:=eq_true p23
      replace q23:=eq_true q23
      have HP24:=Kd.R_putg HO_38.out (x41_2:Int) x41_2
      go_wp2_with (first|((with_reducible refine gate_store (t:=3) (p:=47) rfl ?_);refine store_event (t:=3) (p:=47) (v:=?vo_w25) (w1:=(wr.setCell ⟨go23,(x41_2:Int).toNat,none⟩ (.int .i64 x41_2))) ?hg ?ho ?hn ?hr ?_;(case ho=>rfl);(case hg=>rfl);(case hn=>rfl);(case hr=>first|(go_simp;done)|(go_simp;rfl));intro w25 hw;have hg:wr.grownBy w25 (some go23):=(by rw [hw];exact HP24.2);have hp_:Kd.R (Kd.int .i64) 3 w25 w.heap.size (fun k_=>some k_ ≠ (v175:Value).ownBlock) (.slice (some ⟨go23,0,none⟩) x38_2.length co19) y180:=(by rw [hw,Ny180.out];exact HP24.1);clear HP24;have n0_:=mk0 (Kd.R_after (v:=(.slice (some ⟨go23,0,none⟩) x38_2.length co19)) (v1:=(.slice (some ⟨go23,0,none⟩) x38_2.length co19)) (ok:=(fun _=>True)) (by (with_reducible repeat (first|apply aR|apply nR|apply dR));exact Kd.R_mono HO_35.out (fun _ hk=>⟨trivial,hk⟩)) hg (.inl rfl));have n1_:=mk0 (hp_);have n2_:=mk0 (blk_grown (g:=gb172) (o:=.cells #[.int .i64 a0_0,.slice A0_1 l0_1.length c0_1,.slice A0_2 l0_2.length c0_2] 30 (0,0)) (by (with_reducible repeat (first|apply nB|apply dB|apply aB));exact BK172.out) hg (Kd.R_ne HO_38.out BK172.out (by decide)));have n3_:=mk0 ((by rw [hw];exact sZ (HB.out) GB23.out:Below w.heap.size w w25));clear HO_35 HO_38 BK172 HB;have HO_35:=n0_;have HO_38:=n1_;have BK172:=n2_;have HB:=n3_;clear n0_ n1_ n2_ n3_ hg hw hp_))
      (try simp only [← hl38_2])
      go_roundg k2
      case measure=>have:=HJ1.out;have:=HK2.out;omega
      case rel=>exact⟨(y180),(wrap64 (x41_2 + 1)),(by first|rfl|(simp;done)|(simp [*];done)),H',⟨by have:=HJ1.out;have:=HK2.out;omega⟩,⟨by (try simp only [hl38_2]);(with_reducible repeat (first|apply aR|apply nR|apply dR));exact Kd.R_mono HO_35.out (by first|exact fun _ hk=>hk.2|(intro k_ hk;simp only [hk,ne_eq,and_self,not_false_eq_true]))⟩,⟨by (try simp only [hl38_2]);(with_reducible repeat (first|apply aR|apply nR|apply dR));exact HO_38.out⟩,⟨by (try simp only [hl38_2]);(with_reducible repeat (first|apply nB|apply dB|apply aB));exact BK172.out⟩,⟨by repeat (first|(with_reducible first|exact HB.out|apply aZ|apply nZ|apply dZ|refine sZ ?_ GE172.out)|exact HB.out)⟩⟩
     rw [if_neg c20] at H
     have c20b0:decide (x41_2 < (y177.length:Int)) = false:=decide_eq_false c20
     (try simp only [hl181_1] at c20b0)
     (try simp only [hl38_2] at c20b0)
     (try simp only [hl38_3] at c20b0)
     (try simp only [hl5_6] at c20b0)
     clear c20
     have H':=mk0 H
     clear H
     have hcz26_0:wr.cell? ⟨gb172,0,none⟩ = some (.int .i64 a0_0):=(blk_cell BK172.out 0).trans rfl
     have hcz26_1:wr.cell? ⟨gb172,1,none⟩ = some (.slice A0_1 l0_1.length c0_1):=(blk_cell BK172.out 1).trans rfl
     have hcz26_2:wr.cell? ⟨gb172,2,none⟩ = some (.slice A0_2 l0_2.length c0_2):=(blk_cell BK172.out 2).trans rfl
     have hfz26_0:=blk_frozen BK172.out 0
     have hfz26_1:=blk_frozen BK172.out 1
     have hfz26_2:=blk_frozen BK172.out 2
     go_wp2
     go_loopg [52] k2 (fun kq v52 w'=>∃ (x35_3:List Int) (x38_3:List Int) (x52_3:Int),v52 = .int .i64 x52_3 ∧ Aside0 (impl_Wave_read.l1 kq x35_3 x38_3 l0_2 (l0_2.length:Int) x52_3 a0_0 l0_1 l0_2 = some (r1,r2)) ∧ Aside0 (kq ≤ k2) ∧ Aside0 (Kd.R (Kd.int .i64) 3 w' w.heap.size (fun k_=>some k_ ≠ ((.slice Ao19 x38_2.length co19):Value).ownBlock) v175 x35_3) ∧ Aside0 (Kd.R (Kd.int .i64) 3 w' w.heap.size (fun k_=>some k_ ≠ (v175:Value).ownBlock) (.slice Ao19 x38_2.length co19) x38_3) ∧ Aside0 (w'.heap[gb172]? = some (.cells #[.int .i64 a0_0,(.slice A0_1 l0_1.length c0_1),(.slice A0_2 l0_2.length c0_2)] 30 (0,0))) ∧ Aside0 (Below w.heap.size w w'))
     case atStart=>exact⟨(y174),(x38_2),(0),(by first|rfl|(simp;done)|(simp [*];done)),H',⟨Nat.le_refl _⟩,⟨by (try simp only [hl38_2]);(with_reducible repeat (first|apply aR|apply nR|apply dR));exact HO_35.out⟩,⟨by (try simp only [hl38_2]);(with_reducible repeat (first|apply aR|apply nR|apply dR));exact HO_38.out⟩,⟨by (try simp only [hl38_2]);(with_reducible repeat (first|apply nB|apply dB|apply aB));exact BK172.out⟩,⟨by repeat (first|(with_reducible first|exact HB.out|apply aZ|apply nZ|apply dZ|refine sZ ?_ GE172.out)|exact HB.out)⟩⟩
     case round =>
      clear H'
      try clear c1
      try clear c2
      try clear p2
      try clear q2
      try clear hx2
      try clear hf2
      try clear c4
      try clear c5
      try clear c6
      try clear c6b0
      try clear c6b1
      try clear p6
      try clear c10
      try clear c11
      try clear c11b0
      try clear c11b1
      try clear c12
      try clear c12b0
      try clear c12b1
      try clear c20
      try clear c20b0
      try clear c21
      try clear c21b0
      try clear c22
      try clear c22b0
      try clear p23
      try clear q23
      try clear hx23
      try clear hf23
      try clear hcz26_0
      try clear hcz26_1
      try clear hcz26_2
      try clear hcz7_0
      try clear hcz7_1
      try clear hcz7_2
      try clear hcz8_0
      try clear hcz8_1
      try clear hcz8_2
      try clear hcz9_0
      try clear hcz9_1
      try clear hcz9_2
      try clear hfz26_0
      try clear hfz26_1
      try clear hfz26_2
      try clear hfz7_0
      try clear hfz7_1
      try clear hfz7_2
      try clear hfz8_0
      try clear hfz8_1
      try clear hfz8_2
      try clear hfz9_0
      try clear hfz9_1
      try clear hfz9_2
      try clear hx23_0
      try clear p2
      try clear p23
      try clear q23
      obtain⟨x35_3,x38_3,x52_3,rfl,HA,HK3,HO_35,HO_38,BK172,HB⟩:=hrel
      have hl38_3:=(Kd.R_reads' HO_38.out).1
      rw [hl38_3] at HO_38
      (try simp only [hl38_3])
      (try simp only [hl38_3] at BK172)
      (try simp only [hl38_3] at HO_35)
      cases gk with
      | zero=>exact absurd HA.out (by simp [impl_Wave_read.l1])
      | succ k3 =>
       have H:=HA.out
       clear HA
       simp only [impl_Wave_read.l1] at H
       by_cases c27:x52_3 < (l0_2.length:Int)
       rotate_left
       ·rw [if_neg c27] at H
        have c27b0:decide (x52_3 < (l0_2.length:Int)) = false:=decide_eq_false c27
        (try simp only [hl181_1] at c27b0)
        (try simp only [hl38_2] at c27b0)
        (try simp only [hl38_3] at c27b0)
        (try simp only [hl5_6] at c27b0)
        clear c27
        simp only [Option.some.injEq,Prod.mk.injEq] at H
        obtain⟨rfl,rfl⟩:=H
        go_wp2
        go_ret2
        exact⟨_,by first|rfl|(simp [errW_none,errW_some] <;> rfl)|(simp [*,errW_none,errW_some] <;> rfl),by (with_reducible repeat (first|apply aR|apply nR|apply dR));exact Kd.R_mono HO_35.out (fun _ hk=>trivial),by repeat (first|(with_reducible first|exact HB.out|apply aZ|apply nZ|apply dZ|refine sZ ?_ GE172.out)|exact HB.out)⟩
       rw [if_pos c27] at H
       have c27b0:decide (x52_3 < (l0_2.length:Int)) = true:=decide_eq_true c27
       (try simp only [hl181_1] at c27b0)
       (try simp only [hl38_2] at c27b0)
       (try simp only [hl38_3] at c27b0)
       (try simp only [hl5_6] at c27b0)
       clear c27
       by_cases c28:0 ≤ x52_3
       rotate_left
       ·rw [if_neg c28] at H
        exact absurd H (by simp)
       rw [if_pos c28] at H
       have c28b0:decide (0 ≤ x52_3) = true:=decide_eq_true c28
       clear c28
       by_cases c29:x52_3 < (l0_2.length:Int)
       rotate_left
       ·rw [if_neg c29] at H
        exact absurd H (by simp)
       rw [if_pos c29] at H
       have c29b0:decide (x52_3 < (l0_2.length:Int)) = true:=decide_eq_true c29
       (try simp only [hl181_1] at c29b0)
       (try simp only [hl38_2] at c29b0)
       (try simp only [hl38_3] at c29b0)
       (try simp only [hl5_6] at c29b0)
       clear c29
       replace H:=Option.bind_eq_some_iff.mp H
       obtain⟨t183,A300,H⟩:=H
       replace H:((impl_BitsOk.f ((rd_T64 l0_2 x52_3).f0) ((rd_T64 l0_2 x52_3).f1)).bind fun t186=>(if t186 = true then (if ((rd_T64 l0_2 x52_3).f0) = a0_0 then ((impl_count.f k3 t183 0).bind fun t187=>(if x52_3 < (l0_1.length:Int) then (impl_Wave_read.j3 k3 x35_3 x38_3 x52_3 t183 l0_2 (l0_2.length:Int) x52_3 (t187 != (rd l0_1 x52_3)) a0_0 l0_1 l0_2) else (none))) else (impl_Wave_read.j3 k3 x35_3 x38_3 x52_3 t183 l0_2 (l0_2.length:Int) x52_3 true a0_0 l0_1 l0_2)) else (impl_Wave_read.j3 k3 x35_3 x38_3 x52_3 t183 l0_2 (l0_2.length:Int) x52_3 true a0_0 l0_1 l0_2))) = some (r1,r2):=H
       have A30:=mk0 A300
       clear A300
       have HC31:=mk0 H
       clear H
       have p181:0 ≤ (x52_3:Int):=of_decide_eq_true (by first|(with_reducible assumption)|assumption)
       have q181:x52_3 < (l0_2.length:Int):=of_decide_eq_true (by first|(with_reducible assumption)|assumption)
       obtain⟨ad181,A181_1,c181_1,e181,hx181_0,hx181_1,hl181_1,hi181_1⟩:=at_T64 HR0_2.out x52_3 p181 q181
       cases e181
       replace hx181_0:=(HB.out.cell (World.block_lt_of_cell? w _ hx181_0)).trans hx181_0
       replace hx181_1:=(HB.out.cell (World.block_lt_of_cell? w _ hx181_1)).trans hx181_1
       have HR181_1:=mk0 hi181_1
       have HC181_1:=mk0 hl181_1
       clear hi181_1 hl181_1
       replace p181:=eq_true p181
       replace q181:=eq_true q181
       go_upto_region 13 with (first|((with_reducible refine gate_dst (N:=8) rfl ?_);(try (refine gate_guard (by rfl) ?_;dsimp only));refine box_event ?hg (N:=8) ?hd (cs:=#[.int .i64 0,.slice none 0 0]) (t:=64) ?hr ?_;(case hd=>rfl);(case hg=>rfl);(case hr=>first|(go_simp;done)|(go_simp;rfl));intro gb182 hg w32 hbox hb;have n0_:=mk0 (Kd.R_below (by (with_reducible repeat (first|apply aR|apply nR|apply dR));exact HO_35.out) hb);have n1_:=mk0 (Kd.R_below (by (with_reducible repeat (first|apply aR|apply nR|apply dR));exact HO_38.out) hb);have n2_:=mk0 (blk_below (g:=gb172) (o:=.cells #[.int .i64 a0_0,.slice A0_1 l0_1.length c0_1,.slice (some ad181) l0_2.length c0_2] 30 (0,0)) (by (with_reducible repeat (first|apply nB|apply dB|apply aB));exact BK172.out) hb);have n3_:=mk0 (below_step (by repeat (first|(with_reducible first|exact HB.out|apply aZ|apply nZ|apply dZ|refine sZ ?_ GE172.out)|exact HB.out)) hb);have n4_:=mk0 (hbox);have n5_:=mk0 ((by rw [hg];exact (below_size (by repeat (first|(with_reducible first|exact HB.out|apply aZ|apply nZ|apply dZ|refine sZ ?_ GE172.out)|exact HB.out))):w.heap.size ≤ gb182));have n6_:=mk0 ((by rw [hg];exact (below_size (by repeat (first|(with_reducible first|exact HB.out|apply aZ|apply nZ|apply dZ|refine sZ ?_ GE172.out)|exact HB.out))):w.heap.size ≤ gb182));have n7_:=mk0 ((by rw [hg];exact Nat.ne_of_lt (blk_lt (g:=gb172) (o:=.cells #[.int .i64 a0_0,.slice A0_1 l0_1.length c0_1,.slice (some ad181) l0_2.length c0_2] 30 (0,0)) (by (with_reducible repeat (first|apply nB|apply dB|apply aB));exact BK172.out)):gb172 ≠ gb182));have n8_:=mk0 ((by rw [hg];exact Nat.ne_of_gt (blk_lt (g:=gb172) (o:=.cells #[.int .i64 a0_0,.slice A0_1 l0_1.length c0_1,.slice (some ad181) l0_2.length c0_2] 30 (0,0)) (by (with_reducible repeat (first|apply nB|apply dB|apply aB));exact BK172.out)):gb182 ≠ gb172));clear HO_35 HO_38 BK172 HB;have HO_35:=n0_;have HO_38:=n1_;have BK172:=n2_;have HB:=n3_;have BK182:=n4_;have GW182:=n5_;have GE182:=n6_;have NB172_182:=n7_;have NB182_172:=n8_;clear n0_ n1_ n2_ n3_ n4_ n5_ n6_ n7_ n8_ hb hbox hg;have hnb33:=NB182_172.out;have hnc33:=NB172_182.out;have hcz34_0:w32.cell? ⟨gb182,0,none⟩ = some (.int .i64 0):=(blk_cell BK182.out 0).trans rfl;have hcz34_1:w32.cell? ⟨gb182,1,none⟩ = some (.slice none 0 0):=(blk_cell BK182.out 1).trans rfl;have hfz34_0:=blk_frozen BK182.out 0;have hfz34_1:=blk_frozen BK182.out 1)|((with_reducible refine gate_callee (f:=64) rfl ?_);refine goesL_ (some 58) rfl rfl Try.func64 (by kernel_rfl) rfl #[.agg #[.int .i64 ((rd_T64 l0_2 x52_3).f0),.slice A181_1 ((rd_T64 l0_2 x52_3).f1).length c181_1]] rfl (by (try simp only [mA,mC,mN]);first|done|rfl|(simp only [List.length_drop,List.length_take];done)|(simp only [List.length_drop,List.length_take];rfl)) ?_;(with_reducible refine (impl_BitsList.calls k3 ((rd_T64 l0_2 x52_3).f0) _ _ ((rd_T64 l0_2 x52_3).f1) t183 _ ?side1 ?side2 A30.out).mono ?_);(case side1=>exact Kd.C_below HR181_1.out (by repeat (first|(with_reducible first|exact HB.out|apply aZ|apply nZ|apply dZ|refine sZ ?_ GE172.out|refine sZ ?_ GE182.out)|exact HB.out)));(case side2=>exact HC181_1.out);rintro e w35 ⟨v184,rfl,ho0,hb⟩;refine⟨_,rfl,?_⟩;have n0_:=mk0 (Kd.R_elder' (by (with_reducible repeat (first|apply aR|apply nR|apply dR));exact (Kd.R_mono (Kd.R_far (p:=⟨gb182,1,none⟩) (Kd.R_far (p:=⟨gb182,0,none⟩) (Kd.R_types HO_35.out BK182.out (by decide)) (by first|exact fun _ hk=>hk.2|(intro k_ hk;simp only [hk,ne_eq,and_self,not_false_eq_true])) (.int .i64 ((rd_T64 l0_2 x52_3).f0))) (by first|exact fun _ hk=>hk.2|(intro k_ hk;simp only [hk,ne_eq,and_self,not_false_eq_true])) (.slice A181_1 ((rd_T64 l0_2 x52_3).f1).length c181_1)) (fun _ h_=>h_.1))) (Kd.R_base ho0) hb);have n1_:=mk0 (Kd.R_elder' (by (with_reducible repeat (first|apply aR|apply nR|apply dR));exact (Kd.R_mono (Kd.R_far (p:=⟨gb182,1,none⟩) (Kd.R_far (p:=⟨gb182,0,none⟩) (Kd.R_types HO_38.out BK182.out (by decide)) (by first|exact fun _ hk=>hk.2|(intro k_ hk;simp only [hk,ne_eq,and_self,not_false_eq_true])) (.int .i64 ((rd_T64 l0_2 x52_3).f0))) (by first|exact fun _ hk=>hk.2|(intro k_ hk;simp only [hk,ne_eq,and_self,not_false_eq_true])) (.slice A181_1 ((rd_T64 l0_2 x52_3).f1).length c181_1)) (fun _ h_=>h_.1))) (Kd.R_base ho0) hb);have n2_:=mk0 (Kd.R_lower (Kd.R_new' (Kd.R_new' ho0 (Kd.R_lt (by (with_reducible repeat (first|apply aR|apply nR|apply dR));exact (Kd.R_mono (Kd.R_far (p:=⟨gb182,1,none⟩) (Kd.R_far (p:=⟨gb182,0,none⟩) (Kd.R_types HO_35.out BK182.out (by decide)) (by first|exact fun _ hk=>hk.2|(intro k_ hk;simp only [hk,ne_eq,and_self,not_false_eq_true])) (.int .i64 ((rd_T64 l0_2 x52_3).f0))) (by first|exact fun _ hk=>hk.2|(intro k_ hk;simp only [hk,ne_eq,and_self,not_false_eq_true])) (.slice A181_1 ((rd_T64 l0_2 x52_3).f1).length c181_1)) (fun _ h_=>h_.1))))) (Kd.R_lt (by (with_reducible repeat (first|apply aR|apply nR|apply dR));exact (Kd.R_mono (Kd.R_far (p:=⟨gb182,1,none⟩) (Kd.R_far (p:=⟨gb182,0,none⟩) (Kd.R_types HO_38.out BK182.out (by decide)) (by first|exact fun _ hk=>hk.2|(intro k_ hk;simp only [hk,ne_eq,and_self,not_false_eq_true])) (.int .i64 ((rd_T64 l0_2 x52_3).f0))) (by first|exact fun _ hk=>hk.2|(intro k_ hk;simp only [hk,ne_eq,and_self,not_false_eq_true])) (.slice A181_1 ((rd_T64 l0_2 x52_3).f1).length c181_1)) (fun _ h_=>h_.1))))) (below_size (by repeat (first|(with_reducible first|exact HB.out|apply aZ|apply nZ|apply dZ|refine sZ ?_ GE172.out|refine sZ ?_ GE182.out)|exact HB.out))));have n3_:=mk0 (blk_below (g:=gb172) (o:=.cells #[.int .i64 a0_0,.slice A0_1 l0_1.length c0_1,.slice (some ad181) l0_2.length c0_2] 30 (0,0)) (by (with_reducible repeat (first|apply nB|apply dB|apply aB));refine blk_far ?_ NB172_182.out _;(with_reducible repeat (first|apply nB|apply dB|apply aB));refine blk_far ?_ NB172_182.out _;(with_reducible repeat (first|apply nB|apply dB|apply aB));exact BK172.out) hb);have n4_:=mk0 (blk_below (g:=gb182) (o:=.cells #[.int .i64 ((rd_T64 l0_2 x52_3).f0),.slice A181_1 ((rd_T64 l0_2 x52_3).f1).length c181_1] 64 (0,0)) (by (with_reducible repeat (first|apply nB|apply dB|apply aB));refine blk_put (cs:=#[.int .i64 ((rd_T64 l0_2 x52_3).f0),.slice none 0 0]) ?_ 1 _ rfl;(with_reducible repeat (first|apply nB|apply dB|apply aB));refine blk_put (cs:=#[.int .i64 0,.slice none 0 0]) ?_ 0 _ rfl;(with_reducible repeat (first|apply nB|apply dB|apply aB));exact BK182.out) hb);have n5_:=mk0 (below_step (by repeat (first|(with_reducible first|exact HB.out|apply aZ|apply nZ|apply dZ|refine sZ ?_ GE172.out|refine sZ ?_ GE182.out)|exact HB.out)) hb);clear HO_35 HO_38 BK172 BK182 HB;have HO_35:=n0_;have HO_38:=n1_;have HO185:=n2_;have BK172:=n3_;have BK182:=n4_;have HB:=n5_;clear n0_ n1_ n2_ n3_ n4_ n5_;(try clear hb);(try clear hb2);(try clear hk);(try clear hi);(try clear ho0)))
       (try simp only [Act.put,sA,sO,sS])
       go_cut [78] (fun v78 wc=>∃ (kq:Nat) (x78_30:Bool),v78 = .bool x78_30 ∧ Aside0 (impl_Wave_read.j3 kq x35_3 x38_3 x52_3 t183 l0_2 (l0_2.length:Int) x52_3 x78_30 a0_0 l0_1 l0_2 = some (r1,r2)) ∧ Aside0 (kq ≤ k3) ∧ Aside0 (Kd.R (Kd.int .i64) 3 wc w.heap.size (fun k_=>some k_ ≠ ((.slice Ao19 x38_3.length co19):Value).ownBlock ∧ some k_ ≠ (v184:Value).ownBlock) v175 x35_3) ∧ Aside0 (Kd.R (Kd.int .i64) 3 wc w.heap.size (fun k_=>some k_ ≠ (v175:Value).ownBlock ∧ some k_ ≠ (v184:Value).ownBlock) (.slice Ao19 x38_3.length co19) x38_3) ∧ Aside0 (Kd.R (Kd.int .i64) 3 wc w.heap.size (fun k_=>some k_ ≠ (v175:Value).ownBlock ∧ some k_ ≠ ((.slice Ao19 x38_3.length co19):Value).ownBlock) v184 t183) ∧ Aside0 (wc.heap[gb172]? = some (.cells #[.int .i64 a0_0,(.slice A0_1 l0_1.length c0_1),(.slice (some ad181) l0_2.length c0_2)] 30 (0,0))) ∧ Aside0 (wc.heap[gb182]? = some (.cells #[.int .i64 ((rd_T64 l0_2 x52_3).f0),(.slice A181_1 ((rd_T64 l0_2 x52_3).f1).length c181_1)] 64 (0,0))) ∧ Aside0 (Below w.heap.size w wc))
       case first =>
        have H:=HC31.out
        clear HC31
        replace H:=Option.bind_eq_some_iff.mp H
        obtain⟨t186,A360,H⟩:=H
        replace H:(if t186 = true then (if ((rd_T64 l0_2 x52_3).f0) = a0_0 then ((impl_count.f k3 t183 0).bind fun t187=>(if x52_3 < (l0_1.length:Int) then (impl_Wave_read.j3 k3 x35_3 x38_3 x52_3 t183 l0_2 (l0_2.length:Int) x52_3 (t187 != (rd l0_1 x52_3)) a0_0 l0_1 l0_2) else (none))) else (impl_Wave_read.j3 k3 x35_3 x38_3 x52_3 t183 l0_2 (l0_2.length:Int) x52_3 true a0_0 l0_1 l0_2)) else (impl_Wave_read.j3 k3 x35_3 x38_3 x52_3 t183 l0_2 (l0_2.length:Int) x52_3 true a0_0 l0_1 l0_2)) = some (r1,r2):=H
        have A36:=mk0 A360
        clear A360
        by_cases c37:t186 = true
        rotate_left
        ·replace c37:=Bool.eq_false_iff.mpr c37
         subst c37
         have H1:(impl_Wave_read.j3 k3 x35_3 x38_3 x52_3 t183 l0_2 (l0_2.length:Int) x52_3 true a0_0 l0_1 l0_2) = some (r1,r2):=by rw [if_neg (show ¬ (false = true) by decide)] at H;exact H
         clear H
         have H:=H1
         clear H1
         have H':=mk0 H
         clear H
         try go_wp2
         have n0_:=mk0 (dR HO_35.out)
         have n1_:=mk0 (dR HO_38.out)
         have n2_:=mk0 (dR HO185.out)
         have n3_:=mk0 (dB BK172.out)
         have n4_:=mk0 (dB BK182.out)
         have n5_:=mk0 (dZ HB.out)
         clear HO_35
         clear HO_38
         clear HO185
         clear BK172
         clear BK182
         clear HB
         have HO_35:=n0_
         have HO_38:=n1_
         have HO185:=n2_
         have BK172:=n3_
         have BK182:=n4_
         have HB:=n5_
         clear n0_ n1_ n2_ n3_ n4_ n5_
         refine start_ (n:=20) (S:=fun w'=>w'.cell? ⟨gb182,0,none⟩ = some (.int .i64 ((rd_T64 l0_2 x52_3).f0)) ∧ w'.cell? ⟨gb182,1,none⟩ = some (.slice A181_1 ((rd_T64 l0_2 x52_3).f1).length c181_1)) (ds:=[]) impl_Wave_read.m7 (by kernel_rfl) rfl rfl ⟨(blk_cell BK182.out 0).trans rfl,(blk_cell BK182.out 1).trans rfl⟩ (fun hHeld=>?_);refine with_tabW impl_Wave_read.tab13 impl_Wave_read.bits13 (fun HT_ HW_=>?_)
         generalize w35.drew = w46 at HO_35 HO_38 HO185 BK172 BK182 HB hHeld ⊢
         refine take_ (i:=0) (N:=some 59) (v:=?_) (a':=?_) impl_Wave_read.m8 rfl rfl (take_ofW HT_.out HW_.out (by kernel_rfl)) (fun _ _ _ h=>h) (Or.inl ⟨by rfl,?_⟩) hHeld ?_ ?_
         rotate_left
         ·rintro w' ⟨s0,s1⟩
          go_simp
          with_reducible rfl
         rotate_left
         ·simp only [Act.put,sA,sO,sS,i64_w,i32_w]
          rfl
         refine one_ (i:=1) (N:=some 60) impl_Wave_read.m9 rfl rfl (one_of HT_.out (by kernel_rfl)) (by decide) (fun K hK=>?_)
         refine goes_ Try.func65 (by kernel_rfl) rfl #[.agg #[.int .i64 ((rd_T64 l0_2 x52_3).f0),.slice A181_1 ((rd_T64 l0_2 x52_3).f1).length c181_1]] (by rfl) rfl rfl (by (try simp only [mA,mC,mN]);first|done|rfl|(simp only [List.length_drop,List.length_take];done)|(simp only [List.length_drop,List.length_take];rfl)) ?_
         with_reducible refine (impl_BitsOk.calls ((rd_T64 l0_2 x52_3).f0) _ _ ((rd_T64 l0_2 x52_3).f1) false _ ?side1 ?side2 A36.out).mono ?_
         (case side1=>repeat (first|exact (Kd.C_below HR181_1.out HB.out)|(with_reducible first|apply aC|apply nC|apply dC)))
         (case side2=>exact HC181_1.out)
         rintro e w47 ⟨rfl,hb⟩
         refine⟨_,rfl,?_⟩
         have n0_:=mk0 (Kd.R_below (by (with_reducible repeat (first|apply aR|apply nR|apply dR));exact HO_35.out) hb)
         have n1_:=mk0 (Kd.R_below (by (with_reducible repeat (first|apply aR|apply nR|apply dR));exact HO_38.out) hb)
         have n2_:=mk0 (Kd.R_below (by (with_reducible repeat (first|apply aR|apply nR|apply dR));exact HO185.out) hb)
         have n3_:=mk0 (blk_below (g:=gb172) (o:=.cells #[.int .i64 a0_0,.slice A0_1 l0_1.length c0_1,.slice (some ad181) l0_2.length c0_2] 30 (0,0)) (by (with_reducible repeat (first|apply nB|apply dB|apply aB));exact BK172.out) hb)
         have n4_:=mk0 (blk_below (g:=gb182) (o:=.cells #[.int .i64 ((rd_T64 l0_2 x52_3).f0),.slice A181_1 ((rd_T64 l0_2 x52_3).f1).length c181_1] 64 (0,0)) (by (with_reducible repeat (first|apply nB|apply dB|apply aB));exact BK182.out) hb)
         have n5_:=mk0 (below_step (by repeat (first|(with_reducible first|exact HB.out|apply aZ|apply nZ|apply dZ|refine sZ ?_ GE172.out|refine sZ ?_ GE182.out)|exact HB.out)) hb)
         clear HO_35
         clear HO_38
         clear HO185
         clear BK172
         clear BK182
         clear HB
         have HO_35:=n0_
         have HO_38:=n1_
         have HO185:=n2_
         have BK172:=n3_
         have BK182:=n4_
         have HB:=n5_
         clear n0_ n1_ n2_ n3_ n4_ n5_
         (try clear hb)
         (try clear hb2)
         (try clear hk)
         (try clear hi)
         refine hK.out _ _ ⟨(blk_cell BK182.out 0).trans rfl,(blk_cell BK182.out 1).trans rfl⟩ (fun hHeld=>?_)
         clear hK K
         refine norm_ (a':=?_) ?_ ?_
         rotate_left
         ·show Act.put _ (some 60) _ = _
          simp only [Act.put,sA,sO,sS,i64_w,i32_w]
          rfl
         refine pure_ (i:=2) (N:=some 61) (v:=?_) (a':=?_) impl_Wave_read.m10 rfl rfl (any_of HT_.out (by kernel_rfl)) (fun _ _ _ h=>h) (Or.inl ⟨by rfl,?_⟩) ?_ ?_
         rotate_left
         ·intro w'
          go_simp
          with_reducible rfl
         rotate_left
         ·simp only [Act.put,sA,sO,sS,i64_w,i32_w]
          rfl
         refine pure_ (i:=3) (N:=some 62) (v:=?_) (a':=?_) impl_Wave_read.m11 rfl rfl (any_of HT_.out (by kernel_rfl)) (fun _ _ _ h=>h) (Or.inl ⟨by rfl,?_⟩) ?_ ?_
         rotate_left
         ·intro w'
          go_simp
          with_reducible rfl
         rotate_left
         ·simp only [Act.put,sA,sO,sS,i64_w,i32_w]
          rfl
         refine pure_ (i:=4) (N:=some 63) (v:=undef) (a':=?_) impl_Wave_read.m12 rfl rfl (any_of HT_.out (by kernel_rfl)) (fun _ _ _ h=>h) (Or.inr ⟨by rfl,rfl⟩) ?_ ?_
         rotate_left
         ·simp only [Act.put,sA,sO,sS,i64_w,i32_w]
          rfl
         refine pure_ (i:=5) (N:=some 64) (v:=undef) (a':=?_) impl_Wave_read.m13 rfl rfl (any_of HT_.out (by kernel_rfl)) (fun _ _ _ h=>h) (Or.inr ⟨by rfl,rfl⟩) ?_ ?_
         rotate_left
         ·simp only [Act.put,sA,sO,sS,i64_w,i32_w]
          rfl
         refine pure_ (i:=6) (N:=some 65) (v:=undef) (a':=?_) impl_Wave_read.m14 rfl rfl (any_of HT_.out (by kernel_rfl)) (fun _ _ _ h=>h) (Or.inr ⟨by rfl,rfl⟩) ?_ ?_
         rotate_left
         ·simp only [Act.put,sA,sO,sS,i64_w,i32_w]
          rfl
         refine pure_ (i:=7) (N:=some 66) (v:=undef) (a':=?_) impl_Wave_read.m15 rfl rfl (any_of HT_.out (by kernel_rfl)) (fun _ _ _ h=>h) (Or.inr ⟨by rfl,rfl⟩) ?_ ?_
         rotate_left
         ·simp only [Act.put,sA,sO,sS,i64_w,i32_w]
          rfl
         refine pure_ (i:=8) (N:=some 67) (v:=undef) (a':=?_) impl_Wave_read.m16 rfl rfl (any_of HT_.out (by kernel_rfl)) (fun _ _ _ h=>h) (Or.inr ⟨by rfl,rfl⟩) ?_ ?_
         rotate_left
         ·simp only [Act.put,sA,sO,sS,i64_w,i32_w]
          rfl
         refine pure_ (i:=9) (N:=some 68) (v:=?_) (a':=?_) impl_Wave_read.m17 rfl rfl (any_of HT_.out (by kernel_rfl)) (fun _ _ _ h=>h) (Or.inl ⟨by rfl,?_⟩) ?_ ?_
         rotate_left
         ·intro w'
          go_simp
          with_reducible rfl
         rotate_left
         ·simp only [Act.put,sA,sO,sS,i64_w,i32_w]
          rfl
         refine pure_ (i:=10) (N:=some 69) (v:=?_) (a':=?_) impl_Wave_read.m18 rfl rfl (any_of HT_.out (by kernel_rfl)) (fun _ _ _ h=>h) (Or.inl ⟨by rfl,?_⟩) ?_ ?_
         rotate_left
         ·intro w'
          go_simp
          with_reducible rfl
         rotate_left
         ·simp only [Act.put,sA,sO,sS,i64_w,i32_w]
          rfl
         refine pure_ (i:=11) (N:=some 70) (v:=undef) (a':=?_) impl_Wave_read.m19 rfl rfl (any_of HT_.out (by kernel_rfl)) (fun _ _ _ h=>h) (Or.inr ⟨by rfl,rfl⟩) ?_ ?_
         rotate_left
         ·simp only [Act.put,sA,sO,sS,i64_w,i32_w]
          rfl
         refine pure_ (i:=12) (N:=some 71) (v:=undef) (a':=?_) impl_Wave_read.m20 rfl rfl (any_of HT_.out (by kernel_rfl)) (fun _ _ _ h=>h) (Or.inr ⟨by rfl,rfl⟩) ?_ ?_
         rotate_left
         ·simp only [Act.put,sA,sO,sS,i64_w,i32_w]
          rfl
         refine pure_ (i:=13) (N:=some 72) (v:=undef) (a':=?_) impl_Wave_read.m21 rfl rfl (any_of HT_.out (by kernel_rfl)) (fun _ _ _ h=>h) (Or.inr ⟨by rfl,rfl⟩) ?_ ?_
         rotate_left
         ·simp only [Act.put,sA,sO,sS,i64_w,i32_w]
          rfl
         refine pure_ (i:=14) (N:=some 73) (v:=undef) (a':=?_) impl_Wave_read.m22 rfl rfl (any_of HT_.out (by kernel_rfl)) (fun _ _ _ h=>h) (Or.inr ⟨by rfl,rfl⟩) ?_ ?_
         rotate_left
         ·simp only [Act.put,sA,sO,sS,i64_w,i32_w]
          rfl
         refine pure_ (i:=15) (N:=some 74) (v:=undef) (a':=?_) impl_Wave_read.m23 rfl rfl (any_of HT_.out (by kernel_rfl)) (fun _ _ _ h=>h) (Or.inr ⟨by rfl,rfl⟩) ?_ ?_
         rotate_left
         ·simp only [Act.put,sA,sO,sS,i64_w,i32_w]
          rfl
         refine pure_ (i:=16) (N:=some 75) (v:=undef) (a':=?_) impl_Wave_read.m24 rfl rfl (any_of HT_.out (by kernel_rfl)) (fun _ _ _ h=>h) (Or.inr ⟨by rfl,rfl⟩) ?_ ?_
         rotate_left
         ·simp only [Act.put,sA,sO,sS,i64_w,i32_w]
          rfl
         refine pure_ (i:=17) (N:=some 76) (v:=undef) (a':=?_) impl_Wave_read.m25 rfl rfl (any_of HT_.out (by kernel_rfl)) (fun _ _ _ h=>h) (Or.inr ⟨by rfl,rfl⟩) ?_ ?_
         rotate_left
         ·simp only [Act.put,sA,sO,sS,i64_w,i32_w]
          rfl
         refine pure_ (i:=18) (N:=some 77) (v:=undef) (a':=?_) impl_Wave_read.m26 rfl rfl (any_of HT_.out (by kernel_rfl)) (fun _ _ _ h=>h) (Or.inr ⟨by rfl,rfl⟩) ?_ ?_
         rotate_left
         ·simp only [Act.put,sA,sO,sS,i64_w,i32_w]
          rfl
         refine pure_ (i:=19) (N:=some 78) (v:=?_) (a':=?_) impl_Wave_read.m27 rfl rfl (any_of HT_.out (by kernel_rfl)) (fun _ _ _ h=>h) (Or.inl ⟨by rfl,?_⟩) ?_ ?_
         rotate_left
         ·intro w'
          go_simp
          with_reducible rfl
         rotate_left
         ·simp only [Act.put,sA,sO,sS,i64_w,i32_w]
          rfl
         refine done_ (done_of HT_.out (by kernel_rfl)) ?_
         try go_wp2
         go_meet
         case rel=>exact⟨_,(true),(by first|rfl|(simp;done)|(simp [*];done)),H',⟨by have:=HJ1.out;have:=HK2.out;have:=HK3.out;first|omega|exact Nat.le_refl _⟩,⟨by (try simp only [hl38_2]);(try simp only [hl38_3]);(with_reducible repeat (first|apply aR|apply nR|apply dR));exact HO_35.out⟩,⟨by (try simp only [hl38_2]);(try simp only [hl38_3]);(with_reducible repeat (first|apply aR|apply nR|apply dR));exact HO_38.out⟩,⟨by (try simp only [hl38_2]);(try simp only [hl38_3]);(with_reducible repeat (first|apply aR|apply nR|apply dR));exact Kd.R_mono HO185.out (by first|exact fun _ hk=>⟨hk.1.2,hk.2⟩|(intro k_ hk;simp only [hk,ne_eq,and_self,not_false_eq_true]))⟩,⟨by (try simp only [hl38_2]);(try simp only [hl38_3]);(with_reducible repeat (first|apply nB|apply dB|apply aB));exact BK172.out⟩,⟨by (try simp only [hl38_2]);(try simp only [hl38_3]);(with_reducible repeat (first|apply nB|apply dB|apply aB));exact BK182.out⟩,⟨by repeat (first|(with_reducible first|exact HB.out|apply aZ|apply nZ|apply dZ|refine sZ ?_ GE172.out|refine sZ ?_ GE182.out)|exact HB.out)⟩⟩
        subst c37
        have H1:(if ((rd_T64 l0_2 x52_3).f0) = a0_0 then ((impl_count.f k3 t183 0).bind fun t187=>(if x52_3 < (l0_1.length:Int) then (impl_Wave_read.j3 k3 x35_3 x38_3 x52_3 t183 l0_2 (l0_2.length:Int) x52_3 (t187 != (rd l0_1 x52_3)) a0_0 l0_1 l0_2) else (none))) else (impl_Wave_read.j3 k3 x35_3 x38_3 x52_3 t183 l0_2 (l0_2.length:Int) x52_3 true a0_0 l0_1 l0_2)) = some (r1,r2):=by rw [if_pos rfl] at H;exact H
        clear H
        have H:=H1
        clear H1
        by_cases c38:((rd_T64 l0_2 x52_3).f0) = a0_0
        rotate_left
        ·rw [if_neg c38] at H
         have c38b0:(((rd_T64 l0_2 x52_3).f0) == a0_0) = false:=beq_eq_false_iff_ne.mpr c38
         have c38b1:(((rd_T64 l0_2 x52_3).f0) != a0_0) = true:=bne_iff_ne.mpr c38
         (first|rw [c38b0]|(simp only [i64_w,i32_w];rw [c38b0])|skip)
         have H':=mk0 H
         clear H
         try go_wp2
         have n0_:=mk0 (dR HO_35.out)
         have n1_:=mk0 (dR HO_38.out)
         have n2_:=mk0 (dR HO185.out)
         have n3_:=mk0 (dB BK172.out)
         have n4_:=mk0 (dB BK182.out)
         have n5_:=mk0 (dZ HB.out)
         clear HO_35
         clear HO_38
         clear HO185
         clear BK172
         clear BK182
         clear HB
         have HO_35:=n0_
         have HO_38:=n1_
         have HO185:=n2_
         have BK172:=n3_
         have BK182:=n4_
         have HB:=n5_
         clear n0_ n1_ n2_ n3_ n4_ n5_
         refine start_ (n:=20) (S:=fun w'=>w'.cell? ⟨gb182,0,none⟩ = some (.int .i64 ((rd_T64 l0_2 x52_3).f0)) ∧ w'.cell? ⟨gb182,1,none⟩ = some (.slice A181_1 ((rd_T64 l0_2 x52_3).f1).length c181_1) ∧ w'.cell? ⟨gb172,0,none⟩ = some (.int .i64 a0_0) ∧ w'.cell? ⟨gb172,1,none⟩ = some (.slice A0_1 l0_1.length c0_1) ∧ w'.cell? ⟨gb172,2,none⟩ = some (.slice (some ad181) l0_2.length c0_2)) (ds:=[]) impl_Wave_read.m7 (by kernel_rfl) rfl rfl ⟨(blk_cell BK182.out 0).trans rfl,(blk_cell BK182.out 1).trans rfl,(blk_cell BK172.out 0).trans rfl,(blk_cell BK172.out 1).trans rfl,(blk_cell BK172.out 2).trans rfl⟩ (fun hHeld=>?_);refine with_tabW impl_Wave_read.tab13 impl_Wave_read.bits13 (fun HT_ HW_=>?_)
         generalize w35.drew = w44 at HO_35 HO_38 HO185 BK172 BK182 HB hHeld ⊢
         refine take_ (i:=0) (N:=some 59) (v:=?_) (a':=?_) impl_Wave_read.m8 rfl rfl (take_ofW HT_.out HW_.out (by kernel_rfl)) (fun _ _ _ h=>h) (Or.inl ⟨by rfl,?_⟩) hHeld ?_ ?_
         rotate_left
         ·rintro w' ⟨s0,s1,s2,s3,s4⟩
          go_simp
          with_reducible rfl
         rotate_left
         ·simp only [Act.put,sA,sO,sS,i64_w,i32_w]
          rfl
         refine one_ (i:=1) (N:=some 60) impl_Wave_read.m9 rfl rfl (one_of HT_.out (by kernel_rfl)) (by decide) (fun K hK=>?_)
         refine goes_ Try.func65 (by kernel_rfl) rfl #[.agg #[.int .i64 ((rd_T64 l0_2 x52_3).f0),.slice A181_1 ((rd_T64 l0_2 x52_3).f1).length c181_1]] (by rfl) rfl rfl (by (try simp only [mA,mC,mN]);first|done|rfl|(simp only [List.length_drop,List.length_take];done)|(simp only [List.length_drop,List.length_take];rfl)) ?_
         with_reducible refine (impl_BitsOk.calls ((rd_T64 l0_2 x52_3).f0) _ _ ((rd_T64 l0_2 x52_3).f1) true _ ?side1 ?side2 A36.out).mono ?_
         (case side1=>repeat (first|exact (Kd.C_below HR181_1.out HB.out)|(with_reducible first|apply aC|apply nC|apply dC)))
         (case side2=>exact HC181_1.out)
         rintro e w45 ⟨rfl,hb⟩
         refine⟨_,rfl,?_⟩
         have n0_:=mk0 (Kd.R_below (by (with_reducible repeat (first|apply aR|apply nR|apply dR));exact HO_35.out) hb)
         have n1_:=mk0 (Kd.R_below (by (with_reducible repeat (first|apply aR|apply nR|apply dR));exact HO_38.out) hb)
         have n2_:=mk0 (Kd.R_below (by (with_reducible repeat (first|apply aR|apply nR|apply dR));exact HO185.out) hb)
         have n3_:=mk0 (blk_below (g:=gb172) (o:=.cells #[.int .i64 a0_0,.slice A0_1 l0_1.length c0_1,.slice (some ad181) l0_2.length c0_2] 30 (0,0)) (by (with_reducible repeat (first|apply nB|apply dB|apply aB));exact BK172.out) hb)
         have n4_:=mk0 (blk_below (g:=gb182) (o:=.cells #[.int .i64 ((rd_T64 l0_2 x52_3).f0),.slice A181_1 ((rd_T64 l0_2 x52_3).f1).length c181_1] 64 (0,0)) (by (with_reducible repeat (first|apply nB|apply dB|apply aB));exact BK182.out) hb)
         have n5_:=mk0 (below_step (by repeat (first|(with_reducible first|exact HB.out|apply aZ|apply nZ|apply dZ|refine sZ ?_ GE172.out|refine sZ ?_ GE182.out)|exact HB.out)) hb)
         clear HO_35
         clear HO_38
         clear HO185
         clear BK172
         clear BK182
         clear HB
         have HO_35:=n0_
         have HO_38:=n1_
         have HO185:=n2_
         have BK172:=n3_
         have BK182:=n4_
         have HB:=n5_
         clear n0_ n1_ n2_ n3_ n4_ n5_
         (try clear hb)
         (try clear hb2)
         (try clear hk)
         (try clear hi)
         refine hK.out _ _ ⟨(blk_cell BK182.out 0).trans rfl,(blk_cell BK182.out 1).trans rfl,(blk_cell BK172.out 0).trans rfl,(blk_cell BK172.out 1).trans rfl,(blk_cell BK172.out 2).trans rfl⟩ (fun hHeld=>?_)
         clear hK K
         refine norm_ (a':=?_) ?_ ?_
         rotate_left
         ·show Act.put _ (some 60) _ = _
          simp only [Act.put,sA,sO,sS,i64_w,i32_w]
          rfl
         refine pure_ (i:=2) (N:=some 61) (v:=?_) (a':=?_) impl_Wave_read.m10 rfl rfl (any_of HT_.out (by kernel_rfl)) (fun _ _ _ h=>h) (Or.inl ⟨by rfl,?_⟩) ?_ ?_
         rotate_left
         ·intro w'
          go_simp
          with_reducible rfl
         rotate_left
         ·simp only [Act.put,sA,sO,sS,i64_w,i32_w]
          rfl
         refine pure_ (i:=3) (N:=some 62) (v:=?_) (a':=?_) impl_Wave_read.m11 rfl rfl (any_of HT_.out (by kernel_rfl)) (fun _ _ _ h=>h) (Or.inl ⟨by rfl,?_⟩) ?_ ?_
         rotate_left
         ·intro w'
          go_simp
          with_reducible rfl
         rotate_left
         ·simp only [Act.put,sA,sO,sS,i64_w,i32_w]
          rfl
         refine pure_ (i:=4) (N:=some 63) (v:=?_) (a':=?_) impl_Wave_read.m12 rfl rfl (any_of HT_.out (by kernel_rfl)) (fun _ _ _ h=>h) (Or.inl ⟨by rfl,?_⟩) ?_ ?_
         rotate_left
         ·intro w'
          go_simp
          with_reducible rfl
         rotate_left
         ·simp only [Act.put,sA,sO,sS,i64_w,i32_w]
          rfl
         refine pure_ (i:=6) (N:=some 65) (v:=?_) (a':=?_) impl_Wave_read.m28 rfl rfl (any_of HT_.out (by kernel_rfl)) (fun _ _ _ h=>h) (Or.inl ⟨by rfl,?_⟩) ?_ ?_
         rotate_left
         ·intro w'
          go_simp
          with_reducible rfl
         rotate_left
         ·simp only [Act.put,sA,sO,sS,i64_w,i32_w]
          rfl
         refine take_ (i:=5) (N:=some 64) (v:=?_) (a':=?_) impl_Wave_read.m14 rfl rfl (take_ofW HT_.out HW_.out (by kernel_rfl)) (fun _ _ _ h=>h) (Or.inl ⟨by rfl,?_⟩) hHeld ?_ ?_
         rotate_left
         ·rintro w' ⟨s0,s1,s2,s3,s4⟩
          go_simp
          with_reducible rfl
         rotate_left
         ·simp only [Act.put,sA,sO,sS,i64_w,i32_w]
          rfl
         refine take_ (i:=7) (N:=some 66) (v:=?_) (a':=?_) impl_Wave_read.m15 rfl rfl (take_ofW HT_.out HW_.out (by kernel_rfl)) (fun _ _ _ h=>h) (Or.inl ⟨by rfl,?_⟩) hHeld ?_ ?_
         rotate_left
         ·rintro w' ⟨s0,s1,s2,s3,s4⟩
          go_simp
          with_reducible rfl
         rotate_left
         ·simp only [Act.put,sA,sO,sS,i64_w,i32_w]
          rfl
         refine pure_ (i:=8) (N:=some 67) (v:=?_) (a':=?_) impl_Wave_read.m16 rfl rfl (any_of HT_.out (by kernel_rfl)) (fun _ _ _ h=>h) (Or.inl ⟨by rfl,?_⟩) ?_ ?_
         rotate_left
         ·intro w'
          go_simp
          with_reducible rfl
         rotate_left
         ·simp only [Act.put,sA,sO,sS,i64_w,i32_w]
          rfl
         refine pure_ (i:=9) (N:=some 68) (v:=?_) (a':=?_) impl_Wave_read.m17 rfl rfl (any_of HT_.out (by kernel_rfl)) (fun _ _ _ h=>h) (Or.inl ⟨by rfl,?_⟩) ?_ ?_
         rotate_left
         ·intro w'
          go_simp
          with_reducible rfl
         rotate_left
         ·simp only [Act.put,sA,sO,sS,i64_w,i32_w]
          rfl
         refine pure_ (i:=10) (N:=some 69) (v:=?_) (a':=?_) impl_Wave_read.m18 rfl rfl (any_of HT_.out (by kernel_rfl)) (fun _ _ _ h=>h) (Or.inl ⟨by rfl,?_⟩) ?_ ?_
         rotate_left
         ·intro w'
          go_simp
          with_reducible rfl
         rotate_left
         ·simp only [Act.put,sA,sO,sS,i64_w,i32_w]
          rfl
         refine pure_ (i:=11) (N:=some 70) (v:=undef) (a':=?_) impl_Wave_read.m19 rfl rfl (any_of HT_.out (by kernel_rfl)) (fun _ _ _ h=>h) (Or.inr ⟨by rfl,rfl⟩) ?_ ?_
         rotate_left
         ·simp only [Act.put,sA,sO,sS,i64_w,i32_w]
          rfl
         refine pure_ (i:=12) (N:=some 71) (v:=undef) (a':=?_) impl_Wave_read.m20 rfl rfl (any_of HT_.out (by kernel_rfl)) (fun _ _ _ h=>h) (Or.inr ⟨by rfl,rfl⟩) ?_ ?_
         rotate_left
         ·simp only [Act.put,sA,sO,sS,i64_w,i32_w]
          rfl
         refine pure_ (i:=13) (N:=some 72) (v:=undef) (a':=?_) impl_Wave_read.m21 rfl rfl (any_of HT_.out (by kernel_rfl)) (fun _ _ _ h=>h) (Or.inr ⟨by rfl,rfl⟩) ?_ ?_
         rotate_left
         ·simp only [Act.put,sA,sO,sS,i64_w,i32_w]
          rfl
         refine pure_ (i:=14) (N:=some 73) (v:=undef) (a':=?_) impl_Wave_read.m22 rfl rfl (any_of HT_.out (by kernel_rfl)) (fun _ _ _ h=>h) (Or.inr ⟨by rfl,rfl⟩) ?_ ?_
         rotate_left
         ·simp only [Act.put,sA,sO,sS,i64_w,i32_w]
          rfl
         refine pure_ (i:=15) (N:=some 74) (v:=undef) (a':=?_) impl_Wave_read.m23 rfl rfl (any_of HT_.out (by kernel_rfl)) (fun _ _ _ h=>h) (Or.inr ⟨by rfl,rfl⟩) ?_ ?_
         rotate_left
         ·simp only [Act.put,sA,sO,sS,i64_w,i32_w]
          rfl
         refine pure_ (i:=16) (N:=some 75) (v:=undef) (a':=?_) impl_Wave_read.m24 rfl rfl (any_of HT_.out (by kernel_rfl)) (fun _ _ _ h=>h) (Or.inr ⟨by rfl,rfl⟩) ?_ ?_
         rotate_left
         ·simp only [Act.put,sA,sO,sS,i64_w,i32_w]
          rfl
         refine pure_ (i:=17) (N:=some 76) (v:=undef) (a':=?_) impl_Wave_read.m25 rfl rfl (any_of HT_.out (by kernel_rfl)) (fun _ _ _ h=>h) (Or.inr ⟨by rfl,rfl⟩) ?_ ?_
         rotate_left
         ·simp only [Act.put,sA,sO,sS,i64_w,i32_w]
          rfl
         refine pure_ (i:=18) (N:=some 77) (v:=undef) (a':=?_) impl_Wave_read.m26 rfl rfl (any_of HT_.out (by kernel_rfl)) (fun _ _ _ h=>h) (Or.inr ⟨by rfl,rfl⟩) ?_ ?_
         rotate_left
         ·simp only [Act.put,sA,sO,sS,i64_w,i32_w]
          rfl
         refine pure_ (i:=19) (N:=some 78) (v:=?_) (a':=?_) impl_Wave_read.m27 rfl rfl (any_of HT_.out (by kernel_rfl)) (fun _ _ _ h=>h) (Or.inl ⟨by rfl,?_⟩) ?_ ?_
         rotate_left
         ·intro w'
          go_simp
          with_reducible rfl
         rotate_left
         ·simp only [Act.put,sA,sO,sS,i64_w,i32_w]
          rfl
         refine done_ (done_of HT_.out (by kernel_rfl)) ?_
         try go_wp2
         go_meet
         case rel=>exact⟨_,(true),(by first|rfl|(simp;done)|(simp [*];done)),H',⟨by have:=HJ1.out;have:=HK2.out;have:=HK3.out;first|omega|exact Nat.le_refl _⟩,⟨by (try simp only [hl38_2]);(try simp only [hl38_3]);(with_reducible repeat (first|apply aR|apply nR|apply dR));exact HO_35.out⟩,⟨by (try simp only [hl38_2]);(try simp only [hl38_3]);(with_reducible repeat (first|apply aR|apply nR|apply dR));exact HO_38.out⟩,⟨by (try simp only [hl38_2]);(try simp only [hl38_3]);(with_reducible repeat (first|apply aR|apply nR|apply dR));exact Kd.R_mono HO185.out (by first|exact fun _ hk=>⟨hk.1.2,hk.2⟩|(intro k_ hk;simp only [hk,ne_eq,and_self,not_false_eq_true]))⟩,⟨by (try simp only [hl38_2]);(try simp only [hl38_3]);(with_reducible repeat (first|apply nB|apply dB|apply aB));exact BK172.out⟩,⟨by (try simp only [hl38_2]);(try simp only [hl38_3]);(with_reducible repeat (first|apply nB|apply dB|apply aB));exact BK182.out⟩,⟨by repeat (first|(with_reducible first|exact HB.out|apply aZ|apply nZ|apply dZ|refine sZ ?_ GE172.out|refine sZ ?_ GE182.out)|exact HB.out)⟩⟩
        rw [if_pos c38] at H
        have c38b0:(((rd_T64 l0_2 x52_3).f0) == a0_0) = true:=beq_iff_eq.mpr c38
        have c38b1:(((rd_T64 l0_2 x52_3).f0) != a0_0) = false:=bne_eq_false_iff_eq.mpr c38
        clear c38
        (first|rw [c38b0]|(simp only [i64_w,i32_w];rw [c38b0])|skip)
        replace H:=Option.bind_eq_some_iff.mp H
        obtain⟨t187,A390,H⟩:=H
        replace H:(if x52_3 < (l0_1.length:Int) then (impl_Wave_read.j3 k3 x35_3 x38_3 x52_3 t183 l0_2 (l0_2.length:Int) x52_3 (t187 != (rd l0_1 x52_3)) a0_0 l0_1 l0_2) else (none)) = some (r1,r2):=H
        have A39:=mk0 A390
        clear A390
        by_cases c40:x52_3 < (l0_1.length:Int)
        rotate_left
        ·rw [if_neg c40] at H
         exact absurd H (by simp)
        rw [if_pos c40] at H
        have c40b0:decide (x52_3 < (l0_1.length:Int)) = true:=decide_eq_true c40
        (try simp only [hl181_1] at c40b0)
        (try simp only [hl38_2] at c40b0)
        (try simp only [hl38_3] at c40b0)
        (try simp only [hl5_6] at c40b0)
        clear c40
        have H':=mk0 H
        clear H
        try go_wp2
        have n0_:=mk0 (dR HO_35.out)
        have n1_:=mk0 (dR HO_38.out)
        have n2_:=mk0 (dR HO185.out)
        have n3_:=mk0 (dB BK172.out)
        have n4_:=mk0 (dB BK182.out)
        have n5_:=mk0 (dZ HB.out)
        clear HO_35
        clear HO_38
        clear HO185
        clear BK172
        clear BK182
        clear HB
        have HO_35:=n0_
        have HO_38:=n1_
        have HO185:=n2_
        have BK172:=n3_
        have BK182:=n4_
        have HB:=n5_
        clear n0_ n1_ n2_ n3_ n4_ n5_
        have p188:0 ≤ (x52_3:Int):=of_decide_eq_true (by first|(with_reducible assumption)|assumption)
        have q188:x52_3 < (l0_1.length:Int):=of_decide_eq_true (by first|(with_reducible assumption)|assumption)
        obtain⟨ad188,e188,hx188_0⟩:=Kd.at_int HR0_1.out x52_3 p188 q188
        have hw188_0:=hx188_0
        cases e188
        replace hx188_0:=(HB.out.cell (World.block_lt_of_cell? w _ hx188_0)).trans hx188_0
        replace p188:=eq_true p188
        replace q188:=eq_true q188
        refine start_ (n:=20) (S:=fun w'=>w'.cell? ⟨gb182,0,none⟩ = some (.int .i64 ((rd_T64 l0_2 x52_3).f0)) ∧ w'.cell? ⟨gb182,1,none⟩ = some (.slice A181_1 ((rd_T64 l0_2 x52_3).f1).length c181_1) ∧ w'.cell? ⟨gb172,0,none⟩ = some (.int .i64 a0_0) ∧ w'.cell? ⟨gb172,1,none⟩ = some (.slice (some ad188) l0_1.length c0_1) ∧ w'.cell? ⟨gb172,2,none⟩ = some (.slice (some ad181) l0_2.length c0_2) ∧ w'.cell? (ad188.add (x52_3).toNat) = some (.int .i64 (rd l0_1 x52_3))) (ds:=[]) impl_Wave_read.m7 (by kernel_rfl) rfl rfl ⟨(blk_cell BK182.out 0).trans rfl,(blk_cell BK182.out 1).trans rfl,(blk_cell BK172.out 0).trans rfl,(blk_cell BK172.out 1).trans rfl,(blk_cell BK172.out 2).trans rfl,((HB.out.cell (World.block_lt_of_cell? w _ hw188_0)).trans hw188_0)⟩ (fun hHeld=>?_);refine with_tabW impl_Wave_read.tab13 impl_Wave_read.bits13 (fun HT_ HW_=>?_)
        generalize w35.drew = w41 at HO_35 HO_38 HO185 BK172 BK182 HB hx188_0 hHeld ⊢
        refine take_ (i:=0) (N:=some 59) (v:=?_) (a':=?_) impl_Wave_read.m8 rfl rfl (take_ofW HT_.out HW_.out (by kernel_rfl)) (fun _ _ _ h=>h) (Or.inl ⟨by rfl,?_⟩) hHeld ?_ ?_
        rotate_left
        ·rintro w' ⟨s0,s1,s2,s3,s4,s5⟩
         go_simp
         with_reducible rfl
        rotate_left
        ·simp only [Act.put,sA,sO,sS,i64_w,i32_w]
         rfl
        refine one_ (i:=1) (N:=some 60) impl_Wave_read.m9 rfl rfl (one_of HT_.out (by kernel_rfl)) (by decide) (fun K hK=>?_)
        refine goes_ Try.func65 (by kernel_rfl) rfl #[.agg #[.int .i64 ((rd_T64 l0_2 x52_3).f0),.slice A181_1 ((rd_T64 l0_2 x52_3).f1).length c181_1]] (by rfl) rfl rfl (by (try simp only [mA,mC,mN]);first|done|rfl|(simp only [List.length_drop,List.length_take];done)|(simp only [List.length_drop,List.length_take];rfl)) ?_
        with_reducible refine (impl_BitsOk.calls ((rd_T64 l0_2 x52_3).f0) _ _ ((rd_T64 l0_2 x52_3).f1) true _ ?side1 ?side2 A36.out).mono ?_
        (case side1=>repeat (first|exact (Kd.C_below HR181_1.out HB.out)|(with_reducible first|apply aC|apply nC|apply dC)))
        (case side2=>exact HC181_1.out)
        rintro e w42 ⟨rfl,hb⟩
        refine⟨_,rfl,?_⟩
        have n0_:=mk0 (Kd.R_below (by (with_reducible repeat (first|apply aR|apply nR|apply dR));exact HO_35.out) hb)
        have n1_:=mk0 (Kd.R_below (by (with_reducible repeat (first|apply aR|apply nR|apply dR));exact HO_38.out) hb)
        have n2_:=mk0 (Kd.R_below (by (with_reducible repeat (first|apply aR|apply nR|apply dR));exact HO185.out) hb)
        have n3_:=mk0 (blk_below (g:=gb172) (o:=.cells #[.int .i64 a0_0,.slice (some ad188) l0_1.length c0_1,.slice (some ad181) l0_2.length c0_2] 30 (0,0)) (by (with_reducible repeat (first|apply nB|apply dB|apply aB));exact BK172.out) hb)
        have n4_:=mk0 (blk_below (g:=gb182) (o:=.cells #[.int .i64 ((rd_T64 l0_2 x52_3).f0),.slice A181_1 ((rd_T64 l0_2 x52_3).f1).length c181_1] 64 (0,0)) (by (with_reducible repeat (first|apply nB|apply dB|apply aB));exact BK182.out) hb)
        have n5_:=mk0 (below_step (by repeat (first|(with_reducible first|exact HB.out|apply aZ|apply nZ|apply dZ|refine sZ ?_ GE172.out|refine sZ ?_ GE182.out)|exact HB.out)) hb)
        clear HO_35
        clear HO_38
        clear HO185
        clear BK172
        clear BK182
        clear HB
        have HO_35:=n0_
        have HO_38:=n1_
        have HO185:=n2_
        have BK172:=n3_
        have BK182:=n4_
        have HB:=n5_
        clear n0_ n1_ n2_ n3_ n4_ n5_
        (try clear hb)
        (try clear hb2)
        (try clear hk)
        (try clear hi)
        obtain⟨Ao43,co43,eo43⟩:=Kd.R_slice HO185.out
        (first|subst eo43|(injection eo43 with f1_ f2_ f3_;have f4_:=f1_.symm;have f5_:=f3_.symm;clear f1_ f2_ f3_;subst f4_;subst f5_))
        refine hK.out _ _ ⟨(blk_cell BK182.out 0).trans rfl,(blk_cell BK182.out 1).trans rfl,(blk_cell BK172.out 0).trans rfl,(blk_cell BK172.out 1).trans rfl,(blk_cell BK172.out 2).trans rfl,((HB.out.cell (World.block_lt_of_cell? w _ hw188_0)).trans hw188_0)⟩ (fun hHeld=>?_)
        clear hK K
        refine norm_ (a':=?_) ?_ ?_
        rotate_left
        ·show Act.put _ (some 60) _ = _
         simp only [Act.put,sA,sO,sS,i64_w,i32_w]
         rfl
        refine pure_ (i:=2) (N:=some 61) (v:=?_) (a':=?_) impl_Wave_read.m10 rfl rfl (any_of HT_.out (by kernel_rfl)) (fun _ _ _ h=>h) (Or.inl ⟨by rfl,?_⟩) ?_ ?_
        rotate_left
        ·intro w'
         go_simp
         with_reducible rfl
        rotate_left
        ·simp only [Act.put,sA,sO,sS,i64_w,i32_w]
         rfl
        refine pure_ (i:=3) (N:=some 62) (v:=?_) (a':=?_) impl_Wave_read.m11 rfl rfl (any_of HT_.out (by kernel_rfl)) (fun _ _ _ h=>h) (Or.inl ⟨by rfl,?_⟩) ?_ ?_
        rotate_left
        ·intro w'
         go_simp
         with_reducible rfl
        rotate_left
        ·simp only [Act.put,sA,sO,sS,i64_w,i32_w]
         rfl
        refine pure_ (i:=4) (N:=some 63) (v:=?_) (a':=?_) impl_Wave_read.m12 rfl rfl (any_of HT_.out (by kernel_rfl)) (fun _ _ _ h=>h) (Or.inl ⟨by rfl,?_⟩) ?_ ?_
        rotate_left
        ·intro w'
         go_simp
         with_reducible rfl
        rotate_left
        ·simp only [Act.put,sA,sO,sS,i64_w,i32_w]
         rfl
        refine pure_ (i:=6) (N:=some 65) (v:=?_) (a':=?_) impl_Wave_read.m28 rfl rfl (any_of HT_.out (by kernel_rfl)) (fun _ _ _ h=>h) (Or.inl ⟨by rfl,?_⟩) ?_ ?_
        rotate_left
        ·intro w'
         go_simp
         with_reducible rfl
        rotate_left
        ·simp only [Act.put,sA,sO,sS,i64_w,i32_w]
         rfl
        refine take_ (i:=5) (N:=some 64) (v:=?_) (a':=?_) impl_Wave_read.m14 rfl rfl (take_ofW HT_.out HW_.out (by kernel_rfl)) (fun _ _ _ h=>h) (Or.inl ⟨by rfl,?_⟩) hHeld ?_ ?_
        rotate_left
        ·rintro w' ⟨s0,s1,s2,s3,s4,s5⟩
         go_simp
         with_reducible rfl
        rotate_left
        ·simp only [Act.put,sA,sO,sS,i64_w,i32_w]
         rfl
        refine take_ (i:=7) (N:=some 66) (v:=?_) (a':=?_) impl_Wave_read.m15 rfl rfl (take_ofW HT_.out HW_.out (by kernel_rfl)) (fun _ _ _ h=>h) (Or.inl ⟨by rfl,?_⟩) hHeld ?_ ?_
        rotate_left
        ·rintro w' ⟨s0,s1,s2,s3,s4,s5⟩
         go_simp
         with_reducible rfl
        rotate_left
        ·simp only [Act.put,sA,sO,sS,i64_w,i32_w]
         rfl
        refine pure_ (i:=8) (N:=some 67) (v:=?_) (a':=?_) impl_Wave_read.m16 rfl rfl (any_of HT_.out (by kernel_rfl)) (fun _ _ _ h=>h) (Or.inl ⟨by rfl,?_⟩) ?_ ?_
        rotate_left
        ·intro w'
         go_simp
         with_reducible rfl
        rotate_left
        ·simp only [Act.put,sA,sO,sS,i64_w,i32_w]
         rfl
        refine pure_ (i:=9) (N:=some 68) (v:=?_) (a':=?_) impl_Wave_read.m17 rfl rfl (any_of HT_.out (by kernel_rfl)) (fun _ _ _ h=>h) (Or.inl ⟨by rfl,?_⟩) ?_ ?_
        rotate_left
        ·intro w'
         go_simp
         with_reducible rfl
        rotate_left
        ·simp only [Act.put,sA,sO,sS,i64_w,i32_w]
         rfl
        refine pure_ (i:=10) (N:=some 69) (v:=?_) (a':=?_) impl_Wave_read.m18 rfl rfl (any_of HT_.out (by kernel_rfl)) (fun _ _ _ h=>h) (Or.inl ⟨by rfl,?_⟩) ?_ ?_
        rotate_left
        ·intro w'
         go_simp
         with_reducible rfl
        rotate_left
        ·simp only [Act.put,sA,sO,sS,i64_w,i32_w]
         rfl
        refine pure_ (i:=11) (N:=some 70) (v:=?_) (a':=?_) impl_Wave_read.m19 rfl rfl (any_of HT_.out (by kernel_rfl)) (fun _ _ _ h=>h) (Or.inl ⟨by rfl,?_⟩) ?_ ?_
        rotate_left
        ·intro w'
         go_simp
         with_reducible rfl
        rotate_left
        ·simp only [Act.put,sA,sO,sS,i64_w,i32_w]
         rfl
        refine pure_ (i:=13) (N:=some 72) (v:=?_) (a':=?_) impl_Wave_read.m29 rfl rfl (any_of HT_.out (by kernel_rfl)) (fun _ _ _ h=>h) (Or.inl ⟨by rfl,?_⟩) ?_ ?_
        rotate_left
        ·intro w'
         go_simp
         with_reducible rfl
        rotate_left
        ·simp only [Act.put,sA,sO,sS,i64_w,i32_w]
         rfl
        refine pure_ (i:=15) (N:=some 74) (v:=?_) (a':=?_) impl_Wave_read.m30 rfl rfl (any_of HT_.out (by kernel_rfl)) (fun _ _ _ h=>h) (Or.inl ⟨by rfl,?_⟩) ?_ ?_
        rotate_left
        ·intro w'
         go_simp
         with_reducible rfl
        rotate_left
        ·simp only [Act.put,sA,sO,sS,i64_w,i32_w]
         rfl
        refine take_ (i:=14) (N:=some 73) (v:=?_) (a':=?_) impl_Wave_read.m31 rfl rfl (take_ofW HT_.out HW_.out (by kernel_rfl)) (fun _ _ _ h=>h) (Or.inl ⟨by rfl,?_⟩) hHeld ?_ ?_
        rotate_left
        ·rintro w' ⟨s0,s1,s2,s3,s4,s5⟩
         go_simp
         with_reducible rfl
        rotate_left
        ·simp only [Act.put,sA,sO,sS,i64_w,i32_w]
         rfl
        refine pure_ (i:=16) (N:=some 75) (v:=?_) (a':=?_) impl_Wave_read.m32 rfl rfl (any_of HT_.out (by kernel_rfl)) (fun _ _ _ h=>h) (Or.inl ⟨by rfl,?_⟩) ?_ ?_
        rotate_left
        ·intro w'
         go_simp
         with_reducible rfl
        rotate_left
        ·simp only [Act.put,sA,sO,sS,i64_w,i32_w]
         rfl
        refine take_ (i:=17) (N:=some 76) (v:=?_) (a':=?_) impl_Wave_read.m33 rfl rfl (take_ofW HT_.out HW_.out (by kernel_rfl)) (fun _ _ _ h=>h) (Or.inl ⟨by rfl,?_⟩) hHeld ?_ ?_
        rotate_left
        ·rintro w' ⟨s0,s1,s2,s3,s4,s5⟩
         go_simp
         with_reducible rfl
        rotate_left
        ·simp only [Act.put,sA,sO,sS,i64_w,i32_w]
         rfl
        refine one_ (i:=12) (N:=some 71) impl_Wave_read.m25 rfl rfl (one_of HT_.out (by kernel_rfl)) (by decide) (fun K hK=>?_)
        refine goes_ Try.func54 (by kernel_rfl) rfl #[.slice Ao43 t183.length co43,.int .i64 0] (by rfl) rfl rfl (by (try simp only [mA,mC,mN]);first|done|rfl|(simp only [List.length_drop,List.length_take];done)|(simp only [List.length_drop,List.length_take];rfl)) ?_
        with_reducible refine (impl_count.calls k3 _ _ t183 0 t187 _ ?side1 ?side2 A39.out).mono ?_
        (case side1=>repeat (first|exact (Kd.R_reads' HO185.out).2.2|(with_reducible first|apply aC|apply nC|apply dC)))
        (case side2=>exact (Kd.R_reads' HO185.out).2.1)
        rintro e w' ⟨rfl,⟨nd,rfl⟩⟩
        refine⟨_,rfl,?_⟩
        refine hK.out _ _ ⟨(blk_cell BK182.out 0).trans rfl,(blk_cell BK182.out 1).trans rfl,(blk_cell BK172.out 0).trans rfl,(blk_cell BK172.out 1).trans rfl,(blk_cell BK172.out 2).trans rfl,((HB.out.cell (World.block_lt_of_cell? w _ hw188_0)).trans hw188_0)⟩ (fun hHeld=>?_)
        clear hK K
        refine norm_ (a':=?_) ?_ ?_
        rotate_left
        ·show Act.put _ (some 71) _ = _
         simp only [Act.put,sA,sO,sS,i64_w,i32_w]
         rfl
        refine pure_ (i:=18) (N:=some 77) (v:=?_) (a':=?_) impl_Wave_read.m26 rfl rfl (any_of HT_.out (by kernel_rfl)) (fun _ _ _ h=>h) (Or.inl ⟨by rfl,?_⟩) ?_ ?_
        rotate_left
        ·intro w'
         go_simp
         with_reducible rfl
        rotate_left
        ·simp only [Act.put,sA,sO,sS,i64_w,i32_w]
         rfl
        refine pure_ (i:=19) (N:=some 78) (v:=?_) (a':=?_) impl_Wave_read.m27 rfl rfl (any_of HT_.out (by kernel_rfl)) (fun _ _ _ h=>h) (Or.inl ⟨by rfl,?_⟩) ?_ ?_
        rotate_left
        ·intro w'
         go_simp
         with_reducible rfl
        rotate_left
        ·simp only [Act.put,sA,sO,sS,i64_w,i32_w]
         rfl
        refine done_ (done_of HT_.out (by kernel_rfl)) ?_
        try go_wp2
        go_meet
        case rel=>exact⟨_,((t187 != (rd l0_1 x52_3))),(by first|rfl|(simp;done)|(simp [*];done)),H',⟨by have:=HJ1.out;have:=HK2.out;have:=HK3.out;first|omega|exact Nat.le_refl _⟩,⟨by (try simp only [hl38_2]);(try simp only [hl38_3]);(with_reducible repeat (first|apply aR|apply nR|apply dR));exact HO_35.out⟩,⟨by (try simp only [hl38_2]);(try simp only [hl38_3]);(with_reducible repeat (first|apply aR|apply nR|apply dR));exact HO_38.out⟩,⟨by (try simp only [hl38_2]);(try simp only [hl38_3]);(with_reducible repeat (first|apply aR|apply nR|apply dR));exact Kd.R_mono HO185.out (by first|exact fun _ hk=>⟨hk.1.2,hk.2⟩|(intro k_ hk;simp only [hk,ne_eq,and_self,not_false_eq_true]))⟩,⟨by (try simp only [hl38_2]);(try simp only [hl38_3]);(with_reducible repeat (first|apply nB|apply dB|apply aB));exact BK172.out⟩,⟨by (try simp only [hl38_2]);(try simp only [hl38_3]);(with_reducible repeat (first|apply nB|apply dB|apply aB));exact BK182.out⟩,⟨by repeat (first|(with_reducible first|exact HB.out|apply aZ|apply nZ|apply dZ|refine sZ ?_ GE172.out|refine sZ ?_ GE182.out)|exact HB.out)⟩⟩
       case rest =>
        clear HC31
        try clear c1
        try clear p1
        try clear q1
        try clear hx1
        try clear p2
        try clear c3
        try clear c4
        try clear c5
        try clear c6
        try clear c18
        try clear p18
        try clear q18
        try clear hx18
        try clear c37
        try clear c38
        try clear c38b0
        try clear c38b1
        try clear c40
        try clear c40b0
        try clear hx188_0
        try clear p188
        try clear q188
        obtain⟨kq,x78_30,rfl,HA,HJ30,HO_4,HO_5,HO_9,BK172,BK182,HB⟩:=hcut
        cases kq with
        | zero=>exact absurd HA.out (by simp [impl_Wave_read.j3])
        | succ kj30 =>
         have H:=HA.out
         clear HA
         simp only [impl_Wave_read.j3] at H
         by_cases c48:x78_30 = true
         ·subst c48
          have H1:(some (([]:List Int),false)) = some (r1,r2):=by rw [if_pos rfl] at H;exact H
          clear H
          have H:=H1
          clear H1
          simp only [Option.some.injEq,Prod.mk.injEq] at H
          obtain⟨rfl,rfl⟩:=H
          go_wp2
          go_ret2
          exact⟨_,by first|rfl|(simp [errW_none,errW_some] <;> rfl)|(simp [*,errW_none,errW_some] <;> rfl),by first|exact Kd.R_nil _ _ _ _ _|exact Kd.N_nil _ _ _ _ _|exact Kd.V_nil _ _ _ _ _|exact Kd.Q_nil _ _ _ _ _|exact Kd.S_nil _ _ _ _ _,by repeat (first|(with_reducible first|exact HB.out|apply aZ|apply nZ|apply dZ|refine sZ ?_ GE172.out|refine sZ ?_ GE182.out)|exact HB.out)⟩
         replace c48:=Bool.eq_false_iff.mpr c48
         subst c48
         have H1:(if 0 ≤ a0_0 then (if (a0_0:Int).toNat ≤ 35184372088832 then (if 0 ≤ x52_3 then (if x52_3 < (l0_1.length:Int) then (impl_Wave_read.l2 kj30 x35_3 x38_3 t183 0 (rd l0_1 x52_3) l0_2 (l0_2.length:Int) x52_3 (List.replicate (a0_0:Int).toNat 0) (t183.length:Int) 0 a0_0 l0_1 l0_2) else (none)) else (none)) else (none)) else (none)) = some (r1,r2):=by rw [if_neg (show ¬ (false = true) by decide)] at H;exact H
         clear H
         have H:=H1
         clear H1
         by_cases c49:0 ≤ a0_0
         rotate_left
         ·rw [if_neg c49] at H
          exact absurd H (by simp)
         rw [if_pos c49] at H
         have c49b0:=eq_true c49
         have c49b1:decide (0 ≤ a0_0) = true:=decide_eq_true c49
         clear c49
         by_cases c50:(a0_0:Int).toNat ≤ 35184372088832
         rotate_left
         ·rw [if_neg c50] at H
          exact absurd H (by simp)
         rw [if_pos c50] at H
         have c50b0:=eq_true c50
         have c50b1:decide ((a0_0:Int).toNat ≤ 35184372088832) = true:=decide_eq_true c50
         clear c50
         obtain⟨y189,hy189⟩:∃ y_:List Int,y_ = (List.replicate (a0_0:Int).toNat 0):=⟨_,rfl⟩
         replace H:(if 0 ≤ x52_3 then (if x52_3 < (l0_1.length:Int) then (impl_Wave_read.l2 kj30 x35_3 x38_3 t183 0 (rd l0_1 x52_3) l0_2 (l0_2.length:Int) x52_3 y189 (t183.length:Int) 0 a0_0 l0_1 l0_2) else (none)) else (none)) = some (r1,r2):=by first|(rw [hy189];with_reducible exact H)|(have H2_:=(Option.bind_some _ _).symm.trans H;rw [hy189];with_reducible exact H2_)|(have H2_:=(Option.bind_some _ _).symm.trans H;with_reducible exact H2_)|with_reducible exact H|(rw [hy189];exact H)|exact H
         have Ny189:=mk0 hy189
         clear hy189
         by_cases c51:0 ≤ x52_3
         rotate_left
         ·rw [if_neg c51] at H
          exact absurd H (by simp)
         rw [if_pos c51] at H
         have c51b0:decide (0 ≤ x52_3) = true:=decide_eq_true c51
         clear c51
         by_cases c52:x52_3 < (l0_1.length:Int)
         rotate_left
         ·rw [if_neg c52] at H
          exact absurd H (by simp)
         rw [if_pos c52] at H
         have c52b0:decide (x52_3 < (l0_1.length:Int)) = true:=decide_eq_true c52
         (try simp only [hl181_1] at c52b0)
         (try simp only [hl38_2] at c52b0)
         (try simp only [hl38_3] at c52b0)
         (try simp only [hl5_6] at c52b0)
         clear c52
         have H':=mk0 H
         clear H
         try go_wp2
         have n0_:=mk0 (dR HO_4.out)
         have n1_:=mk0 (dR HO_5.out)
         have n2_:=mk0 (dR HO_9.out)
         have n3_:=mk0 (dB BK172.out)
         have n4_:=mk0 (dB BK182.out)
         have n5_:=mk0 (dZ HB.out)
         clear HO_4
         clear HO_5
         clear HO_9
         clear BK172
         clear BK182
         clear HB
         have HO_4:=n0_
         have HO_5:=n1_
         have HO_9:=n2_
         have BK172:=n3_
         have BK182:=n4_
         have HB:=n5_
         clear n0_ n1_ n2_ n3_ n4_ n5_
         have p192:0 ≤ (x52_3:Int):=of_decide_eq_true (by first|(with_reducible assumption)|assumption)
         have q192:x52_3 < (l0_1.length:Int):=of_decide_eq_true (by first|(with_reducible assumption)|assumption)
         obtain⟨ad192,e192,hx192_0⟩:=Kd.at_int HR0_1.out x52_3 p192 q192
         have hw192_0:=hx192_0
         cases e192
         replace hx192_0:=(HB.out.cell (World.block_lt_of_cell? w _ hx192_0)).trans hx192_0
         replace p192:=eq_true p192
         replace q192:=eq_true q192
         refine start_ (n:=11) (S:=fun w'=>w'.cell? ⟨gb172,0,none⟩ = some (.int .i64 a0_0) ∧ w'.cell? ⟨gb172,1,none⟩ = some (.slice (some ad192) l0_1.length c0_1) ∧ w'.cell? ⟨gb172,2,none⟩ = some (.slice (some ad181) l0_2.length c0_2) ∧ w'.cell? (ad192.add (x52_3).toNat) = some (.int .i64 (rd l0_1 x52_3))) (ds:=[]) impl_Wave_read.m34 (by kernel_rfl) rfl rfl ⟨(blk_cell BK172.out 0).trans rfl,(blk_cell BK172.out 1).trans rfl,(blk_cell BK172.out 2).trans rfl,((HB.out.cell (World.block_lt_of_cell? w _ hw192_0)).trans hw192_0)⟩ (fun hHeld=>?_);refine with_tabW impl_Wave_read.tab15 impl_Wave_read.bits15 (fun HT_ HW_=>?_)
         generalize wc.drew = w53 at HO_4 HO_5 HO_9 BK172 BK182 HB hx192_0 hHeld ⊢
         refine pure_ (i:=0) (N:=some 79) (v:=?_) (a':=?_) impl_Wave_read.m35 rfl rfl (any_of HT_.out (by kernel_rfl)) (fun _ _ _ h=>h) (Or.inl ⟨by rfl,?_⟩) ?_ ?_
         rotate_left
         ·intro w'
          go_simp
          with_reducible rfl
         rotate_left
         ·simp only [Act.put,sA,sO,sS,i64_w,i32_w]
          rfl
         refine pure_ (i:=3) (N:=some 82) (v:=?_) (a':=?_) impl_Wave_read.m36 rfl rfl (any_of HT_.out (by kernel_rfl)) (fun _ _ _ h=>h) (Or.inl ⟨by rfl,?_⟩) ?_ ?_
         rotate_left
         ·intro w'
          go_simp
          with_reducible rfl
         rotate_left
         ·simp only [Act.put,sA,sO,sS,i64_w,i32_w]
          rfl
         refine pure_ (i:=5) (N:=some 84) (v:=?_) (a':=?_) impl_Wave_read.m37 rfl rfl (any_of HT_.out (by kernel_rfl)) (fun _ _ _ h=>h) (Or.inl ⟨by rfl,?_⟩) ?_ ?_
         rotate_left
         ·intro w'
          go_simp
          with_reducible rfl
         rotate_left
         ·simp only [Act.put,sA,sO,sS,i64_w,i32_w]
          rfl
         refine take_ (i:=1) (N:=some 80) (v:=?_) (a':=?_) impl_Wave_read.m38 rfl rfl (take_ofW HT_.out HW_.out (by kernel_rfl)) (fun _ _ _ h=>h) (Or.inl ⟨by rfl,?_⟩) hHeld ?_ ?_
         rotate_left
         ·rintro w' ⟨s0,s1,s2,s3⟩
          go_simp
          with_reducible rfl
         rotate_left
         ·simp only [Act.put,sA,sO,sS,i64_w,i32_w]
          rfl
         refine take_ (i:=4) (N:=some 83) (v:=?_) (a':=?_) impl_Wave_read.m39 rfl rfl (take_ofW HT_.out HW_.out (by kernel_rfl)) (fun _ _ _ h=>h) (Or.inl ⟨by rfl,?_⟩) hHeld ?_ ?_
         rotate_left
         ·rintro w' ⟨s0,s1,s2,s3⟩
          go_simp
          with_reducible rfl
         rotate_left
         ·simp only [Act.put,sA,sO,sS,i64_w,i32_w]
          rfl
         refine pure_ (i:=6) (N:=some 85) (v:=?_) (a':=?_) impl_Wave_read.m40 rfl rfl (any_of HT_.out (by kernel_rfl)) (fun _ _ _ h=>h) (Or.inl ⟨by rfl,?_⟩) ?_ ?_
         rotate_left
         ·intro w'
          go_simp
          with_reducible rfl
         rotate_left
         ·simp only [Act.put,sA,sO,sS,i64_w,i32_w]
          rfl
         refine take_ (i:=7) (N:=some 86) (v:=?_) (a':=?_) impl_Wave_read.m41 rfl rfl (take_ofW HT_.out HW_.out (by kernel_rfl)) (fun _ _ _ h=>h) (Or.inl ⟨by rfl,?_⟩) hHeld ?_ ?_
         rotate_left
         ·rintro w' ⟨s0,s1,s2,s3⟩
          go_simp
          with_reducible rfl
         rotate_left
         ·simp only [Act.put,sA,sO,sS,i64_w,i32_w]
          rfl
         refine one_ (i:=2) (N:=some 81) impl_Wave_read.m42 rfl rfl (one_of HT_.out (by kernel_rfl)) (by decide) (fun K hK=>?_)
         refine Kd.R_make_step (Kd.int .i64) _ 3 (by rfl) (N:=81) rfl 22 _ _ rfl a0_0 rfl rfl Try.underlying22 (.int .i64 0) 8 info3 rfl (by decide) (by omega) 0 (ok:=fun _=>True) (okp:=fun _=>True) rfl (fun _ hk=>hk) trivial (of_decide_eq_true (by first|(with_reducible assumption)|assumption)) (Nat.le_trans (Nat.mul_le_mul_right _ (of_decide_eq_true (by first|(with_reducible assumption)|assumption):a0_0.toNat ≤ 35184372088832)) (by omega)) (Below.refl _ _) (Nat.le_refl _) ?_
         intro v190 w54 ho55 hb hg_ hnew_
         clear hg_ hnew_
         (first|rw [← Ny189.out] at ho55|(simp only [Int.reduceToNat] at ho55;rw [← Ny189.out] at ho55))
         have n0_:=mk0 (Kd.R_elder' (by (with_reducible repeat (first|apply aR|apply nR|apply dR));exact HO_4.out) (Kd.R_base ho55) hb)
         have n1_:=mk0 (Kd.R_elder' (by (with_reducible repeat (first|apply aR|apply nR|apply dR));exact HO_5.out) (Kd.R_base ho55) hb)
         have n2_:=mk0 (Kd.R_elder' (by (with_reducible repeat (first|apply aR|apply nR|apply dR));exact HO_9.out) (Kd.R_base ho55) hb)
         have n3_:=mk0 (Kd.R_lower (Kd.R_new' (Kd.R_new' (Kd.R_new' ho55 (Kd.R_lt (by (with_reducible repeat (first|apply aR|apply nR|apply dR));exact HO_4.out))) (Kd.R_lt (by (with_reducible repeat (first|apply aR|apply nR|apply dR));exact HO_5.out))) (Kd.R_lt (by (with_reducible repeat (first|apply aR|apply nR|apply dR));exact HO_9.out))) (below_size (by repeat (first|(with_reducible first|exact HB.out|apply aZ|apply nZ|apply dZ|refine sZ ?_ GE172.out|refine sZ ?_ GE182.out)|exact HB.out))))
         have n4_:=mk0 (blk_below (g:=gb172) (o:=.cells #[.int .i64 a0_0,.slice (some ad192) l0_1.length c0_1,.slice (some ad181) l0_2.length c0_2] 30 (0,0)) (by (with_reducible repeat (first|apply nB|apply dB|apply aB));exact BK172.out) hb)
         have n5_:=mk0 (blk_below (g:=gb182) (o:=.cells #[.int .i64 ((rd_T64 l0_2 x52_3).f0),.slice A181_1 ((rd_T64 l0_2 x52_3).f1).length c181_1] 64 (0,0)) (by (with_reducible repeat (first|apply nB|apply dB|apply aB));exact BK182.out) hb)
         have n6_:=mk0 (below_step (by repeat (first|(with_reducible first|exact HB.out|apply aZ|apply nZ|apply dZ|refine sZ ?_ GE172.out|refine sZ ?_ GE182.out)|exact HB.out)) hb)
         clear HO_4
         clear HO_5
         clear HO_9
         clear BK172
         clear BK182
         clear HB
         have HO_4:=n0_
         have HO_5:=n1_
         have HO_9:=n2_
         have HO191:=n3_
         have BK172:=n4_
         have BK182:=n5_
         have HB:=n6_
         clear n0_ n1_ n2_ n3_ n4_ n5_ n6_
         clear hb ho55
         refine hK.out _ _ ⟨(blk_cell BK172.out 0).trans rfl,(blk_cell BK172.out 1).trans rfl,(blk_cell BK172.out 2).trans rfl,((HB.out.cell (World.block_lt_of_cell? w _ hw192_0)).trans hw192_0)⟩ (fun hHeld=>?_)
         clear hK K
         refine norm_ (a':=?_) ?_ ?_
         rotate_left
         ·show Act.put _ (some 81) _ = _
          simp only [Act.put,sA,sO,sS,i64_w,i32_w]
          rfl
         refine pure_ (i:=8) (N:=some 10) (v:=?_) (a':=?_) impl_Wave_read.m43 rfl rfl (any_of HT_.out (by kernel_rfl)) (fun _ _ _ h=>h) (Or.inl ⟨by rfl,?_⟩) ?_ ?_
         rotate_left
         ·intro w'
          go_simp
          with_reducible rfl
         rotate_left
         ·simp only [Act.put,sA,sO,sS,i64_w,i32_w]
          rfl
         refine pure_ (i:=9) (N:=some 11) (v:=?_) (a':=?_) impl_Wave_read.m44 rfl rfl (any_of HT_.out (by kernel_rfl)) (fun _ _ _ h=>h) (Or.inl ⟨by rfl,?_⟩) ?_ ?_
         rotate_left
         ·intro w'
          go_simp
          with_reducible rfl
         rotate_left
         ·simp only [Act.put,sA,sO,sS,i64_w,i32_w]
          rfl
         refine pure_ (i:=10) (N:=some 12) (v:=?_) (a':=?_) impl_Wave_read.m45 rfl rfl (any_of HT_.out (by kernel_rfl)) (fun _ _ _ h=>h) (Or.inl ⟨by rfl,?_⟩) ?_ ?_
         rotate_left
         ·intro w'
          go_simp
          with_reducible rfl
         rotate_left
         ·simp only [Act.put,sA,sO,sS,i64_w,i32_w]
          rfl
         refine done_ (done_of HT_.out (by kernel_rfl)) ?_
         obtain⟨Ao56,co56,eo56⟩:=Kd.R_slice HO_9.out
         subst eo56
         try go_wp2
         go_loopg [11,12,89] kj30 (fun kq v11 v12 v89 w'=>∃ (x11_5:Int) (x12_5:Int) (x81_5:List Int) (x89_5:Int),v11 = .int .i64 x11_5 ∧ v12 = .int .i64 x12_5 ∧ v89 = .int .i64 x89_5 ∧ Aside0 (impl_Wave_read.l2 kq x35_3 x38_3 t183 x11_5 x12_5 l0_2 (l0_2.length:Int) x52_3 x81_5 (t183.length:Int) x89_5 a0_0 l0_1 l0_2 = some (r1,r2)) ∧ Aside0 (kq ≤ kj30) ∧ Aside0 (Kd.R (Kd.int .i64) 3 w' w.heap.size (fun k_=>some k_ ≠ ((.slice Ao19 x38_3.length co19):Value).ownBlock ∧ some k_ ≠ ((.slice Ao56 t183.length co56):Value).ownBlock ∧ some k_ ≠ (v190:Value).ownBlock) v175 x35_3) ∧ Aside0 (Kd.R (Kd.int .i64) 3 w' w.heap.size (fun k_=>some k_ ≠ (v175:Value).ownBlock ∧ some k_ ≠ ((.slice Ao56 t183.length co56):Value).ownBlock ∧ some k_ ≠ (v190:Value).ownBlock) (.slice Ao19 x38_3.length co19) x38_3) ∧ Aside0 (Kd.R (Kd.int .i64) 3 w' w.heap.size (fun k_=>some k_ ≠ (v175:Value).ownBlock ∧ some k_ ≠ ((.slice Ao19 x38_3.length co19):Value).ownBlock ∧ some k_ ≠ (v190:Value).ownBlock) (.slice Ao56 t183.length co56) t183) ∧ Aside0 (Kd.R (Kd.int .i64) 3 w' w.heap.size (fun k_=>some k_ ≠ (v175:Value).ownBlock ∧ some k_ ≠ ((.slice Ao19 x38_3.length co19):Value).ownBlock ∧ some k_ ≠ ((.slice Ao56 t183.length co56):Value).ownBlock) v190 x81_5) ∧ Aside0 (w'.heap[gb172]? = some (.cells #[.int .i64 a0_0,(.slice (some ad192) l0_1.length c0_1),(.slice (some ad181) l0_2.length c0_2)] 30 (0,0))) ∧ Aside0 (w'.heap[gb182]? = some (.cells #[.int .i64 ((rd_T64 l0_2 x52_3).f0),(.slice A181_1 ((rd_T64 l0_2 x52_3).f1).length c181_1)] 64 (0,0))) ∧ Aside0 (Below w.heap.size w w'))
         case atStart=>exact⟨(0),(rd l0_1 x52_3),(y189),(0),(by first|rfl|(simp;done)|(simp [*];done)),(by first|rfl|(simp;done)|(simp [*];done)),(by first|rfl|(simp;done)|(simp [*];done)),H',⟨Nat.le_refl _⟩,⟨by (try simp only [hl38_2]);(try simp only [hl38_3]);(with_reducible repeat (first|apply aR|apply nR|apply dR));exact Kd.R_mono HO_4.out (by first|exact fun _ hk=>⟨hk.1.1,⟨hk.1.2,hk.2⟩⟩|(intro k_ hk;simp only [hk,ne_eq,and_self,not_false_eq_true]))⟩,⟨by (try simp only [hl38_2]);(try simp only [hl38_3]);(with_reducible repeat (first|apply aR|apply nR|apply dR));exact Kd.R_mono HO_5.out (by first|exact fun _ hk=>⟨hk.1.1,⟨hk.1.2,hk.2⟩⟩|(intro k_ hk;simp only [hk,ne_eq,and_self,not_false_eq_true]))⟩,⟨by (try simp only [hl38_2]);(try simp only [hl38_3]);(with_reducible repeat (first|apply aR|apply nR|apply dR));exact Kd.R_mono HO_9.out (by first|exact fun _ hk=>⟨hk.1.1,⟨hk.1.2,hk.2⟩⟩|(intro k_ hk;simp only [hk,ne_eq,and_self,not_false_eq_true]))⟩,⟨by (try simp only [hl38_2]);(try simp only [hl38_3]);(with_reducible repeat (first|apply aR|apply nR|apply dR));exact Kd.R_mono HO191.out (by first|exact fun _ hk=>⟨hk.1.1.2,⟨hk.1.2,hk.2⟩⟩|(intro k_ hk;simp only [hk,ne_eq,and_self,not_false_eq_true]))⟩,⟨by (try simp only [hl38_2]);(try simp only [hl38_3]);(with_reducible repeat (first|apply nB|apply dB|apply aB));exact BK172.out⟩,⟨by (try simp only [hl38_2]);(try simp only [hl38_3]);(with_reducible repeat (first|apply nB|apply dB|apply aB));exact BK182.out⟩,⟨by repeat (first|(with_reducible first|exact HB.out|apply aZ|apply nZ|apply dZ|refine sZ ?_ GE172.out|refine sZ ?_ GE182.out)|exact HB.out)⟩⟩
         case round =>
          clear H'
          try clear c1
          try clear p1
          try clear q1
          try clear hx1
          try clear p2
          try clear c3
          try clear c4
          try clear c5
          try clear c6
          try clear c18
          try clear p18
          try clear q18
          try clear hx18
          try clear p19
          try clear q19
          try clear hx19
          try clear c37
          try clear c38
          try clear c38b0
          try clear c38b1
          try clear c40
          try clear c40b0
          try clear c48
          try clear c49
          try clear c49b0
          try clear c49b1
          try clear c50
          try clear c50b0
          try clear c50b1
          try clear c51
          try clear c51b0
          try clear c52
          try clear c52b0
          try clear hx188_0
          try clear hx192_0
          try clear p1
          try clear p18
          try clear p188
          try clear p192
          try clear p2
          try clear q1
          try clear q18
          try clear q188
          try clear q192
          obtain⟨x11_5,x12_5,x81_5,x89_5,rfl,rfl,rfl,HA,HK5,HO_4,HO_5,HO_9,HO_81,BK172,BK182,HB⟩:=hrel
          cases gk with
          | zero=>exact absurd HA.out (by simp [impl_Wave_read.l2])
          | succ k5 =>
           have H:=HA.out
           clear HA
           simp only [impl_Wave_read.l2] at H
           by_cases c57:x89_5 < (t183.length:Int)
           ·rw [if_pos c57] at H
            have c57b0:decide (x89_5 < (t183.length:Int)) = true:=decide_eq_true c57
            (try simp only [hl181_1] at c57b0)
            (try simp only [hl38_2] at c57b0)
            (try simp only [hl38_3] at c57b0)
            (try simp only [hl5_6] at c57b0)
            clear c57
            by_cases c58:0 ≤ x89_5
            rotate_left
            ·rw [if_neg c58] at H
             exact absurd H (by simp)
            rw [if_pos c58] at H
            have c58b0:decide (0 ≤ x89_5) = true:=decide_eq_true c58
            clear c58
            by_cases c59:x89_5 < (t183.length:Int)
            rotate_left
            ·rw [if_neg c59] at H
             exact absurd H (by simp)
            rw [if_pos c59] at H
            have c59b0:decide (x89_5 < (t183.length:Int)) = true:=decide_eq_true c59
            (try simp only [hl181_1] at c59b0)
            (try simp only [hl38_2] at c59b0)
            (try simp only [hl38_3] at c59b0)
            (try simp only [hl5_6] at c59b0)
            clear c59
            by_cases c60:(rd t183 x89_5) = 0
            rotate_left
            ·rw [if_neg c60] at H
             have c60b0:((rd t183 x89_5) == 0) = false:=beq_eq_false_iff_ne.mpr c60
             have c60b1:((rd t183 x89_5) != 0) = true:=bne_iff_ne.mpr c60
             by_cases c65:x89_5 < (x81_5.length:Int)
             rotate_left
             ·rw [if_neg c65] at H
              exact absurd H (by simp)
             rw [if_pos c65] at H
             have c65b0:decide (x89_5 < (x81_5.length:Int)) = true:=decide_eq_true c65
             (try simp only [hl181_1] at c65b0)
             (try simp only [hl38_2] at c65b0)
             (try simp only [hl38_3] at c65b0)
             (try simp only [hl5_6] at c65b0)
             clear c65
             obtain⟨y195,hy195⟩:∃ y_:List Int,y_ = (x81_5.set (x89_5:Int).toNat x12_5):=⟨_,rfl⟩
             replace H:(impl_Wave_read.l2 k5 x35_3 x38_3 t183 x11_5 (wrap64 (x12_5 + 1)) l0_2 (l0_2.length:Int) x52_3 y195 (t183.length:Int) (wrap64 (x89_5 + 1)) a0_0 l0_1 l0_2) = some (r1,r2):=by first|(rw [hy195];with_reducible exact H)|(have H2_:=(Option.bind_some _ _).symm.trans H;rw [hy195];with_reducible exact H2_)|(have H2_:=(Option.bind_some _ _).symm.trans H;with_reducible exact H2_)|with_reducible exact H|(rw [hy195];exact H)|exact H
             have Ny195:=mk0 hy195
             clear hy195
             have H':=mk0 H
             clear H
             have p193:0 ≤ (x89_5:Int):=of_decide_eq_true (by first|(with_reducible assumption)|assumption)
             have q193:x89_5 < (t183.length:Int):=of_decide_eq_true (by first|(with_reducible assumption)|assumption)
             obtain⟨ad193,e193,hx193_0⟩:=Kd.at_int (Kd.R_reads' HO_9.out).2.2 x89_5 p193 q193
             cases e193
             replace p193:=eq_true p193
             replace q193:=eq_true q193
             have p66:0 ≤ (x89_5:Int):=of_decide_eq_true (by first|(with_reducible assumption)|assumption)
             have q66:(x89_5:Int) < ((x81_5.length:Int):Int):=of_decide_eq_true (by first|(with_reducible assumption)|assumption)
             obtain⟨go66,co66,eo66,gb66,gl66,cl66,HG66⟩:=Kd.R_form HO_81.out (by omega)
             (first|cases eo66|(injection eo66 with ea_ en_ ec_;(first|subst ea_|(injection ea_ with ea_;subst ea_));subst ec_;clear en_))
             have GB66:=mk0 gb66
             have GG66:=mk0 HG66
             clear gb66 gl66 HG66
             obtain⟨hx66_0,hf66_0⟩:=Kd.R_celln 0 HO_81.out (x89_5:Int) p66 q66
             replace p66:=eq_true p66
             replace q66:=eq_true q66
             have HP67:=Kd.R_putg HO_81.out (x89_5:Int) x12_5
             go_wp2_with (first|((with_reducible refine gate_store (t:=3) (p:=107) rfl ?_);refine store_event (t:=3) (p:=107) (v:=?vo_w68) (w1:=(wr.setCell ⟨go66,(x89_5:Int).toNat,none⟩ (.int .i64 x12_5))) ?hg ?ho ?hn ?hr ?_;(case ho=>rfl);(case hg=>rfl);(case hn=>rfl);(case hr=>first|(go_simp;done)|(go_simp;rfl));intro w68 hw;have hg:wr.grownBy w68 (some go66):=(by rw [hw];exact HP67.2);have hp_:Kd.R (Kd.int .i64) 3 w68 w.heap.size (fun k_=>some k_ ≠ (v175:Value).ownBlock ∧ some k_ ≠ (.slice Ao19 x38_3.length co19:Value).ownBlock ∧ some k_ ≠ (.slice (some ad193) t183.length co56:Value).ownBlock) (.slice (some ⟨go66,0,none⟩) x81_5.length co66) y195:=(by rw [hw,Ny195.out];exact HP67.1);clear HP67;have n0_:=mk0 (Kd.R_after (v:=(.slice (some ⟨go66,0,none⟩) x81_5.length co66)) (v1:=(.slice (some ⟨go66,0,none⟩) x81_5.length co66)) (ok:=(fun k_=>some k_ ≠ (.slice Ao19 x38_3.length co19:Value).ownBlock ∧ some k_ ≠ (.slice (some ad193) t183.length co56:Value).ownBlock)) (by (with_reducible repeat (first|apply aR|apply nR|apply dR));exact Kd.R_mono HO_4.out (by first|exact fun _ hk=>⟨⟨hk.1,hk.2.1⟩,hk.2.2⟩|(intro k_ hk;simp only [hk,ne_eq,and_self,not_false_eq_true]))) hg (.inl rfl));have n1_:=mk0 (Kd.R_after (v:=(.slice (some ⟨go66,0,none⟩) x81_5.length co66)) (v1:=(.slice (some ⟨go66,0,none⟩) x81_5.length co66)) (ok:=(fun k_=>some k_ ≠ (v175:Value).ownBlock ∧ some k_ ≠ (.slice (some ad193) t183.length co56:Value).ownBlock)) (by (with_reducible repeat (first|apply aR|apply nR|apply dR));exact Kd.R_mono HO_5.out (by first|exact fun _ hk=>⟨⟨hk.1,hk.2.1⟩,hk.2.2⟩|(intro k_ hk;simp only [hk,ne_eq,and_self,not_false_eq_true]))) hg (.inl rfl));have n2_:=mk0 (Kd.R_after (v:=(.slice (some ⟨go66,0,none⟩) x81_5.length co66)) (v1:=(.slice (some ⟨go66,0,none⟩) x81_5.length co66)) (ok:=(fun k_=>some k_ ≠ (v175:Value).ownBlock ∧ some k_ ≠ (.slice Ao19 x38_3.length co19:Value).ownBlock)) (by (with_reducible repeat (first|apply aR|apply nR|apply dR));exact Kd.R_mono HO_9.out (by first|exact fun _ hk=>⟨⟨hk.1,hk.2.1⟩,hk.2.2⟩|(intro k_ hk;simp only [hk,ne_eq,and_self,not_false_eq_true]))) hg (.inl rfl));have n3_:=mk0 (hp_);have n4_:=mk0 (blk_grown (g:=gb172) (o:=.cells #[.int .i64 a0_0,.slice (some ad192) l0_1.length c0_1,.slice (some ad181) l0_2.length c0_2] 30 (0,0)) (by (with_reducible repeat (first|apply nB|apply dB|apply aB));exact BK172.out) hg (Kd.R_ne HO_81.out BK172.out (by decide)));have n5_:=mk0 (blk_grown (g:=gb182) (o:=.cells #[.int .i64 ((rd_T64 l0_2 x52_3).f0),.slice A181_1 ((rd_T64 l0_2 x52_3).f1).length c181_1] 64 (0,0)) (by (with_reducible repeat (first|apply nB|apply dB|apply aB));exact BK182.out) hg (Kd.R_ne HO_81.out BK182.out (by decide)));have n6_:=mk0 ((by rw [hw];exact sZ (HB.out) GB66.out:Below w.heap.size w w68));clear HO_4 HO_5 HO_9 HO_81 BK172 BK182 HB;have HO_4:=n0_;have HO_5:=n1_;have HO_9:=n2_;have HO_81:=n3_;have BK172:=n4_;have BK182:=n5_;have HB:=n6_;clear n0_ n1_ n2_ n3_ n4_ n5_ n6_ hg hw hp_))
             go_roundg k5
             case measure=>have:=HJ1.out;have:=HK2.out;have:=HK3.out;have:=HJ30.out;have:=HK5.out;omega
             case rel=>exact⟨(x11_5),(wrap64 (x12_5 + 1)),(y195),(wrap64 (x89_5 + 1)),(by first|rfl|(simp;done)|(simp [*];done)),(by first|rfl|(simp;done)|(simp [*];done)),(by first|rfl|(simp;done)|(simp [*];done)),H',⟨by have:=HJ1.out;have:=HK2.out;have:=HK3.out;have:=HJ30.out;have:=HK5.out;omega⟩,⟨by (try simp only [hl38_2]);(try simp only [hl38_3]);(with_reducible repeat (first|apply aR|apply nR|apply dR));exact Kd.R_mono HO_4.out (by first|exact fun _ hk=>⟨hk.1.1,⟨hk.1.2,hk.2⟩⟩|(intro k_ hk;simp only [hk,ne_eq,and_self,not_false_eq_true]))⟩,⟨by (try simp only [hl38_2]);(try simp only [hl38_3]);(with_reducible repeat (first|apply aR|apply nR|apply dR));exact Kd.R_mono HO_5.out (by first|exact fun _ hk=>⟨hk.1.1,⟨hk.1.2,hk.2⟩⟩|(intro k_ hk;simp only [hk,ne_eq,and_self,not_false_eq_true]))⟩,⟨by (try simp only [hl38_2]);(try simp only [hl38_3]);(with_reducible repeat (first|apply aR|apply nR|apply dR));exact Kd.R_mono HO_9.out (by first|exact fun _ hk=>⟨hk.1.1,⟨hk.1.2,hk.2⟩⟩|(intro k_ hk;simp only [hk,ne_eq,and_self,not_false_eq_true]))⟩,⟨by (try simp only [hl38_2]);(try simp only [hl38_3]);(with_reducible repeat (first|apply aR|apply nR|apply dR));exact HO_81.out⟩,⟨by (try simp only [hl38_2]);(try simp only [hl38_3]);(with_reducible repeat (first|apply nB|apply dB|apply aB));exact BK172.out⟩,⟨by (try simp only [hl38_2]);(try simp only [hl38_3]);(with_reducible repeat (first|apply nB|apply dB|apply aB));exact BK182.out⟩,⟨by repeat (first|(with_reducible first|exact HB.out|apply aZ|apply nZ|apply dZ|refine sZ ?_ GE172.out|refine sZ ?_ GE182.out)|exact HB.out)⟩⟩
            rw [if_pos c60] at H
            have c60b0:((rd t183 x89_5) == 0) = true:=beq_iff_eq.mpr c60
            have c60b1:((rd t183 x89_5) != 0) = false:=bne_eq_false_iff_eq.mpr c60
            clear c60
            by_cases c61:x89_5 < (x81_5.length:Int)
            rotate_left
            ·rw [if_neg c61] at H
             exact absurd H (by simp)
            rw [if_pos c61] at H
            have c61b0:decide (x89_5 < (x81_5.length:Int)) = true:=decide_eq_true c61
            (try simp only [hl181_1] at c61b0)
            (try simp only [hl38_2] at c61b0)
            (try simp only [hl38_3] at c61b0)
            (try simp only [hl5_6] at c61b0)
            clear c61
            obtain⟨y194,hy194⟩:∃ y_:List Int,y_ = (x81_5.set (x89_5:Int).toNat x11_5):=⟨_,rfl⟩
            replace H:(impl_Wave_read.l2 k5 x35_3 x38_3 t183 (wrap64 (x11_5 + 1)) x12_5 l0_2 (l0_2.length:Int) x52_3 y194 (t183.length:Int) (wrap64 (x89_5 + 1)) a0_0 l0_1 l0_2) = some (r1,r2):=by first|(rw [hy194];with_reducible exact H)|(have H2_:=(Option.bind_some _ _).symm.trans H;rw [hy194];with_reducible exact H2_)|(have H2_:=(Option.bind_some _ _).symm.trans H;with_reducible exact H2_)|with_reducible exact H|(rw [hy194];exact H)|exact H
            have Ny194:=mk0 hy194
            clear hy194
            have H':=mk0 H
            clear H
            have p193:0 ≤ (x89_5:Int):=of_decide_eq_true (by first|(with_reducible assumption)|assumption)
            have q193:x89_5 < (t183.length:Int):=of_decide_eq_true (by first|(with_reducible assumption)|assumption)
            obtain⟨ad193,e193,hx193_0⟩:=Kd.at_int (Kd.R_reads' HO_9.out).2.2 x89_5 p193 q193
            cases e193
            replace p193:=eq_true p193
            replace q193:=eq_true q193
            have p62:0 ≤ (x89_5:Int):=of_decide_eq_true (by first|(with_reducible assumption)|assumption)
            have q62:(x89_5:Int) < ((x81_5.length:Int):Int):=of_decide_eq_true (by first|(with_reducible assumption)|assumption)
            obtain⟨go62,co62,eo62,gb62,gl62,cl62,HG62⟩:=Kd.R_form HO_81.out (by omega)
            (first|cases eo62|(injection eo62 with ea_ en_ ec_;(first|subst ea_|(injection ea_ with ea_;subst ea_));subst ec_;clear en_))
            have GB62:=mk0 gb62
            have GG62:=mk0 HG62
            clear gb62 gl62 HG62
            obtain⟨hx62_0,hf62_0⟩:=Kd.R_celln 0 HO_81.out (x89_5:Int) p62 q62
            replace p62:=eq_true p62
            replace q62:=eq_true q62
            have HP63:=Kd.R_putg HO_81.out (x89_5:Int) x11_5
            go_wp2_with (first|((with_reducible refine gate_store (t:=3) (p:=101) rfl ?_);refine store_event (t:=3) (p:=101) (v:=?vo_w64) (w1:=(wr.setCell ⟨go62,(x89_5:Int).toNat,none⟩ (.int .i64 x11_5))) ?hg ?ho ?hn ?hr ?_;(case ho=>rfl);(case hg=>rfl);(case hn=>rfl);(case hr=>first|(go_simp;done)|(go_simp;rfl));intro w64 hw;have hg:wr.grownBy w64 (some go62):=(by rw [hw];exact HP63.2);have hp_:Kd.R (Kd.int .i64) 3 w64 w.heap.size (fun k_=>some k_ ≠ (v175:Value).ownBlock ∧ some k_ ≠ (.slice Ao19 x38_3.length co19:Value).ownBlock ∧ some k_ ≠ (.slice (some ad193) t183.length co56:Value).ownBlock) (.slice (some ⟨go62,0,none⟩) x81_5.length co62) y194:=(by rw [hw,Ny194.out];exact HP63.1);clear HP63;have n0_:=mk0 (Kd.R_after (v:=(.slice (some ⟨go62,0,none⟩) x81_5.length co62)) (v1:=(.slice (some ⟨go62,0,none⟩) x81_5.length co62)) (ok:=(fun k_=>some k_ ≠ (.slice Ao19 x38_3.length co19:Value).ownBlock ∧ some k_ ≠ (.slice (some ad193) t183.length co56:Value).ownBlock)) (by (with_reducible repeat (first|apply aR|apply nR|apply dR));exact Kd.R_mono HO_4.out (by first|exact fun _ hk=>⟨⟨hk.1,hk.2.1⟩,hk.2.2⟩|(intro k_ hk;simp only [hk,ne_eq,and_self,not_false_eq_true]))) hg (.inl rfl));have n1_:=mk0 (Kd.R_after (v:=(.slice (some ⟨go62,0,none⟩) x81_5.length co62)) (v1:=(.slice (some ⟨go62,0,none⟩) x81_5.length co62)) (ok:=(fun k_=>some k_ ≠ (v175:Value).ownBlock ∧ some k_ ≠ (.slice (some ad193) t183.length co56:Value).ownBlock)) (by (with_reducible repeat (first|apply aR|apply nR|apply dR));exact Kd.R_mono HO_5.out (by first|exact fun _ hk=>⟨⟨hk.1,hk.2.1⟩,hk.2.2⟩|(intro k_ hk;simp only [hk,ne_eq,and_self,not_false_eq_true]))) hg (.inl rfl));have n2_:=mk0 (Kd.R_after (v:=(.slice (some ⟨go62,0,none⟩) x81_5.length co62)) (v1:=(.slice (some ⟨go62,0,none⟩) x81_5.length co62)) (ok:=(fun k_=>some k_ ≠ (v175:Value).ownBlock ∧ some k_ ≠ (.slice Ao19 x38_3.length co19:Value).ownBlock)) (by (with_reducible repeat (first|apply aR|apply nR|apply dR));exact Kd.R_mono HO_9.out (by first|exact fun _ hk=>⟨⟨hk.1,hk.2.1⟩,hk.2.2⟩|(intro k_ hk;simp only [hk,ne_eq,and_self,not_false_eq_true]))) hg (.inl rfl));have n3_:=mk0 (hp_);have n4_:=mk0 (blk_grown (g:=gb172) (o:=.cells #[.int .i64 a0_0,.slice (some ad192) l0_1.length c0_1,.slice (some ad181) l0_2.length c0_2] 30 (0,0)) (by (with_reducible repeat (first|apply nB|apply dB|apply aB));exact BK172.out) hg (Kd.R_ne HO_81.out BK172.out (by decide)));have n5_:=mk0 (blk_grown (g:=gb182) (o:=.cells #[.int .i64 ((rd_T64 l0_2 x52_3).f0),.slice A181_1 ((rd_T64 l0_2 x52_3).f1).length c181_1] 64 (0,0)) (by (with_reducible repeat (first|apply nB|apply dB|apply aB));exact BK182.out) hg (Kd.R_ne HO_81.out BK182.out (by decide)));have n6_:=mk0 ((by rw [hw];exact sZ (HB.out) GB62.out:Below w.heap.size w w64));clear HO_4 HO_5 HO_9 HO_81 BK172 BK182 HB;have HO_4:=n0_;have HO_5:=n1_;have HO_9:=n2_;have HO_81:=n3_;have BK172:=n4_;have BK182:=n5_;have HB:=n6_;clear n0_ n1_ n2_ n3_ n4_ n5_ n6_ hg hw hp_))
            go_roundg k5
            case measure=>have:=HJ1.out;have:=HK2.out;have:=HK3.out;have:=HJ30.out;have:=HK5.out;omega
            case rel=>exact⟨(wrap64 (x11_5 + 1)),(x12_5),(y194),(wrap64 (x89_5 + 1)),(by first|rfl|(simp;done)|(simp [*];done)),(by first|rfl|(simp;done)|(simp [*];done)),(by first|rfl|(simp;done)|(simp [*];done)),H',⟨by have:=HJ1.out;have:=HK2.out;have:=HK3.out;have:=HJ30.out;have:=HK5.out;omega⟩,⟨by (try simp only [hl38_2]);(try simp only [hl38_3]);(with_reducible repeat (first|apply aR|apply nR|apply dR));exact Kd.R_mono HO_4.out (by first|exact fun _ hk=>⟨hk.1.1,⟨hk.1.2,hk.2⟩⟩|(intro k_ hk;simp only [hk,ne_eq,and_self,not_false_eq_true]))⟩,⟨by (try simp only [hl38_2]);(try simp only [hl38_3]);(with_reducible repeat (first|apply aR|apply nR|apply dR));exact Kd.R_mono HO_5.out (by first|exact fun _ hk=>⟨hk.1.1,⟨hk.1.2,hk.2⟩⟩|(intro k_ hk;simp only [hk,ne_eq,and_self,not_false_eq_true]))⟩,⟨by (try simp only [hl38_2]);(try simp only [hl38_3]);(with_reducible repeat (first|apply aR|apply nR|apply dR));exact Kd.R_mono HO_9.out (by first|exact fun _ hk=>⟨hk.1.1,⟨hk.1.2,hk.2⟩⟩|(intro k_ hk;simp only [hk,ne_eq,and_self,not_false_eq_true]))⟩,⟨by (try simp only [hl38_2]);(try simp only [hl38_3]);(with_reducible repeat (first|apply aR|apply nR|apply dR));exact HO_81.out⟩,⟨by (try simp only [hl38_2]);(try simp only [hl38_3]);(with_reducible repeat (first|apply nB|apply dB|apply aB));exact BK172.out⟩,⟨by (try simp only [hl38_2]);(try simp only [hl38_3]);(with_reducible repeat (first|apply nB|apply dB|apply aB));exact BK182.out⟩,⟨by repeat (first|(with_reducible first|exact HB.out|apply aZ|apply nZ|apply dZ|refine sZ ?_ GE172.out|refine sZ ?_ GE182.out)|exact HB.out)⟩⟩
           rw [if_neg c57] at H
           have c57b0:decide (x89_5 < (t183.length:Int)) = false:=decide_eq_false c57
           (try simp only [hl181_1] at c57b0)
           (try simp only [hl38_2] at c57b0)
           (try simp only [hl38_3] at c57b0)
           (try simp only [hl5_6] at c57b0)
           clear c57
           have H':=mk0 H
           clear H
           go_wp2
           go_loopg [111] k5 (fun kq v111 w'=>∃ (x4_6:List Int) (x5_6:List Int) (x111_6:Int),v111 = .int .i64 x111_6 ∧ Aside0 (impl_Wave_read.l3 kq x4_6 x5_6 t183 l0_2 (l0_2.length:Int) x52_3 x81_5 (x38_3.length:Int) x111_6 a0_0 l0_1 l0_2 = some (r1,r2)) ∧ Aside0 (kq ≤ k5) ∧ Aside0 (Kd.R (Kd.int .i64) 3 w' w.heap.size (fun k_=>some k_ ≠ ((.slice Ao19 x38_3.length co19):Value).ownBlock ∧ some k_ ≠ ((.slice Ao56 t183.length co56):Value).ownBlock ∧ some k_ ≠ (v190:Value).ownBlock) v175 x4_6) ∧ Aside0 (Kd.R (Kd.int .i64) 3 w' w.heap.size (fun k_=>some k_ ≠ (v175:Value).ownBlock ∧ some k_ ≠ ((.slice Ao56 t183.length co56):Value).ownBlock ∧ some k_ ≠ (v190:Value).ownBlock) (.slice Ao19 x38_3.length co19) x5_6) ∧ Aside0 (Kd.R (Kd.int .i64) 3 w' w.heap.size (fun k_=>some k_ ≠ (v175:Value).ownBlock ∧ some k_ ≠ ((.slice Ao19 x38_3.length co19):Value).ownBlock ∧ some k_ ≠ (v190:Value).ownBlock) (.slice Ao56 t183.length co56) t183) ∧ Aside0 (Kd.R (Kd.int .i64) 3 w' w.heap.size (fun k_=>some k_ ≠ (v175:Value).ownBlock ∧ some k_ ≠ ((.slice Ao19 x38_3.length co19):Value).ownBlock ∧ some k_ ≠ ((.slice Ao56 t183.length co56):Value).ownBlock) v190 x81_5) ∧ Aside0 (w'.heap[gb172]? = some (.cells #[.int .i64 a0_0,(.slice (some ad192) l0_1.length c0_1),(.slice (some ad181) l0_2.length c0_2)] 30 (0,0))) ∧ Aside0 (w'.heap[gb182]? = some (.cells #[.int .i64 ((rd_T64 l0_2 x52_3).f0),(.slice A181_1 ((rd_T64 l0_2 x52_3).f1).length c181_1)] 64 (0,0))) ∧ Aside0 (Below w.heap.size w w'))
           case atStart=>exact⟨(x35_3),(x38_3),(0),(by first|rfl|(simp;done)|(simp [*];done)),H',⟨Nat.le_refl _⟩,⟨by (try simp only [hl38_2]);(try simp only [hl38_3]);(with_reducible repeat (first|apply aR|apply nR|apply dR));exact HO_4.out⟩,⟨by (try simp only [hl38_2]);(try simp only [hl38_3]);(with_reducible repeat (first|apply aR|apply nR|apply dR));exact HO_5.out⟩,⟨by (try simp only [hl38_2]);(try simp only [hl38_3]);(with_reducible repeat (first|apply aR|apply nR|apply dR));exact HO_9.out⟩,⟨by (try simp only [hl38_2]);(try simp only [hl38_3]);(with_reducible repeat (first|apply aR|apply nR|apply dR));exact HO_81.out⟩,⟨by (try simp only [hl38_2]);(try simp only [hl38_3]);(with_reducible repeat (first|apply nB|apply dB|apply aB));exact BK172.out⟩,⟨by (try simp only [hl38_2]);(try simp only [hl38_3]);(with_reducible repeat (first|apply nB|apply dB|apply aB));exact BK182.out⟩,⟨by repeat (first|(with_reducible first|exact HB.out|apply aZ|apply nZ|apply dZ|refine sZ ?_ GE172.out|refine sZ ?_ GE182.out)|exact HB.out)⟩⟩
           case round =>
            clear H'
            try clear c1
            try clear p1
            try clear q1
            try clear hx1
            try clear p2
            try clear c3
            try clear c4
            try clear c5
            try clear c6
            try clear p6
            try clear q6
            try clear hx6
            try clear hf6
            try clear c18
            try clear p18
            try clear q18
            try clear hx18
            try clear p19
            try clear q19
            try clear hx19
            try clear c37
            try clear c38
            try clear c38b0
            try clear c38b1
            try clear c40
            try clear c40b0
            try clear c48
            try clear c49
            try clear c49b0
            try clear c49b1
            try clear c50
            try clear c50b0
            try clear c50b1
            try clear c51
            try clear c51b0
            try clear c52
            try clear c52b0
            try clear c57
            try clear c57b0
            try clear c58
            try clear c58b0
            try clear c59
            try clear c59b0
            try clear c60
            try clear c60b0
            try clear c60b1
            try clear c61
            try clear c61b0
            try clear p62
            try clear q62
            try clear hx62
            try clear hf62
            try clear p64
            try clear c65
            try clear c65b0
            try clear p66
            try clear q66
            try clear hx66
            try clear hf66
            try clear hx188_0
            try clear hx192_0
            try clear hx193_0
            try clear hx62_0
            try clear hx66_0
            try clear p1
            try clear p18
            try clear p188
            try clear p19
            try clear p192
            try clear p193
            try clear p2
            try clear p62
            try clear p66
            try clear q1
            try clear q18
            try clear q188
            try clear q19
            try clear q192
            try clear q193
            try clear q62
            try clear q66
            obtain⟨x4_6,x5_6,x111_6,rfl,HA,HK6,HO_4,HO_5,HO_9,HO_81,BK172,BK182,HB⟩:=hrel
            have hl5_6:=(Kd.R_reads' HO_5.out).1
            rw [hl5_6] at HO_5
            (try simp only [hl5_6])
            (try simp only [hl5_6] at BK172)
            (try simp only [hl5_6] at BK182)
            (try simp only [hl5_6] at HO_4)
            (try simp only [hl5_6] at HO_9)
            (try simp only [hl5_6] at HO_81)
            cases gk with
            | zero=>exact absurd HA.out (by simp [impl_Wave_read.l3])
            | succ k6 =>
             have H:=HA.out
             clear HA
             simp only [impl_Wave_read.l3] at H
             by_cases c69:x111_6 < (x38_3.length:Int)
             rotate_left
             ·rw [if_neg c69] at H
              have c69b0:decide (x111_6 < (x38_3.length:Int)) = false:=decide_eq_false c69
              (try simp only [hl181_1] at c69b0)
              (try simp only [hl38_2] at c69b0)
              (try simp only [hl38_3] at c69b0)
              (try simp only [hl5_6] at c69b0)
              clear c69
              have H':=mk0 H
              clear H
              go_wp2
              (try simp only [← hl38_3, ← hl5_6])
              go_roundg k6
              case measure=>have:=HJ1.out;have:=HK2.out;have:=HK3.out;have:=HJ30.out;have:=HK5.out;have:=HK6.out;omega
              case rel=>exact⟨(x4_6),(x5_6),(wrap64 (x52_3 + 1)),(by first|rfl|(simp;done)|(simp [*];done)),H',⟨by have:=HJ1.out;have:=HK2.out;have:=HK3.out;have:=HJ30.out;have:=HK5.out;have:=HK6.out;omega⟩,⟨by (try simp only [hl38_2]);(try simp only [hl38_3]);(try simp only [hl5_6]);(with_reducible repeat (first|apply aR|apply nR|apply dR));exact Kd.R_mono HO_4.out (by first|exact fun _ hk=>hk.1|(intro k_ hk;simp only [hk,ne_eq,and_self,not_false_eq_true]))⟩,⟨by (try simp only [hl38_2]);(try simp only [hl38_3]);(try simp only [hl5_6]);(with_reducible repeat (first|apply aR|apply nR|apply dR));exact Kd.R_mono HO_5.out (by first|exact fun _ hk=>hk.1|(intro k_ hk;simp only [hk,ne_eq,and_self,not_false_eq_true]))⟩,⟨by (try simp only [hl38_2]);(try simp only [hl38_3]);(try simp only [hl5_6]);(with_reducible repeat (first|apply nB|apply dB|apply aB));exact BK172.out⟩,⟨by repeat (first|(with_reducible first|exact HB.out|apply aZ|apply nZ|apply dZ|refine sZ ?_ GE172.out|refine sZ ?_ GE182.out)|exact HB.out)⟩⟩
             rw [if_pos c69] at H
             have c69b0:decide (x111_6 < (x38_3.length:Int)) = true:=decide_eq_true c69
             (try simp only [hl181_1] at c69b0)
             (try simp only [hl38_2] at c69b0)
             (try simp only [hl38_3] at c69b0)
             (try simp only [hl5_6] at c69b0)
             clear c69
             by_cases c70:0 ≤ x111_6
             rotate_left
             ·rw [if_neg c70] at H
              exact absurd H (by simp)
             rw [if_pos c70] at H
             have c70b0:decide (0 ≤ x111_6) = true:=decide_eq_true c70
             clear c70
             by_cases c71:x111_6 < (x5_6.length:Int)
             rotate_left
             ·rw [if_neg c71] at H
              exact absurd H (by simp)
             rw [if_pos c71] at H
             have c71b0:decide (x111_6 < (x5_6.length:Int)) = true:=decide_eq_true c71
             (try simp only [hl181_1] at c71b0)
             (try simp only [hl38_2] at c71b0)
             (try simp only [hl38_3] at c71b0)
             (try simp only [hl5_6] at c71b0)
             clear c71
             by_cases c72:x111_6 < (x4_6.length:Int)
             rotate_left
             ·rw [if_neg c72] at H
              exact absurd H (by simp)
             rw [if_pos c72] at H
             have c72b0:decide (x111_6 < (x4_6.length:Int)) = true:=decide_eq_true c72
             (try simp only [hl181_1] at c72b0)
             (try simp only [hl38_2] at c72b0)
             (try simp only [hl38_3] at c72b0)
             (try simp only [hl5_6] at c72b0)
             clear c72
             by_cases c73:0 ≤ (rd x5_6 x111_6)
             rotate_left
             ·rw [if_neg c73] at H
              exact absurd H (by simp)
             rw [if_pos c73] at H
             have c73b0:decide (0 ≤ (rd x5_6 x111_6)) = true:=decide_eq_true c73
             clear c73
             by_cases c74:(rd x5_6 x111_6) < (t183.length:Int)
             rotate_left
             ·rw [if_neg c74] at H
              exact absurd H (by simp)
             rw [if_pos c74] at H
             have c74b0:decide ((rd x5_6 x111_6) < (t183.length:Int)) = true:=decide_eq_true c74
             (try simp only [hl181_1] at c74b0)
             (try simp only [hl38_2] at c74b0)
             (try simp only [hl38_3] at c74b0)
             (try simp only [hl5_6] at c74b0)
             clear c74
             obtain⟨y199,hy199⟩:∃ y_:List Int,y_ = (x4_6.set (x111_6:Int).toNat (Go.bits .or .i64 (wrap64 ((rd x4_6 x111_6) * 2)) (rd t183 (rd x5_6 x111_6)))):=⟨_,rfl⟩
             replace H:(if (rd x5_6 x111_6) < (x81_5.length:Int) then (impl_Wave_read.l3 k6 y199 (x5_6.set (x111_6:Int).toNat (rd x81_5 (rd x5_6 x111_6))) t183 l0_2 (l0_2.length:Int) x52_3 x81_5 (x38_3.length:Int) (wrap64 (x111_6 + 1)) a0_0 l0_1 l0_2) else (none)) = some (r1,r2):=by first|(rw [hy199];with_reducible exact H)|(have H2_:=(Option.bind_some _ _).symm.trans H;rw [hy199];with_reducible exact H2_)|(have H2_:=(Option.bind_some _ _).symm.trans H;with_reducible exact H2_)|with_reducible exact H|(rw [hy199];exact H)|exact H
             have Ny199:=mk0 hy199
             clear hy199
             by_cases c76:(rd x5_6 x111_6) < (x81_5.length:Int)
             rotate_left
             ·rw [if_neg c76] at H
              exact absurd H (by simp)
             rw [if_pos c76] at H
             have c76b0:decide ((rd x5_6 x111_6) < (x81_5.length:Int)) = true:=decide_eq_true c76
             (try simp only [hl181_1] at c76b0)
             (try simp only [hl38_2] at c76b0)
             (try simp only [hl38_3] at c76b0)
             (try simp only [hl5_6] at c76b0)
             clear c76
             obtain⟨y201,hy201⟩:∃ y_:List Int,y_ = (x5_6.set (x111_6:Int).toNat (rd x81_5 (rd x5_6 x111_6))):=⟨_,rfl⟩
             replace H:(impl_Wave_read.l3 k6 y199 y201 t183 l0_2 (l0_2.length:Int) x52_3 x81_5 (x38_3.length:Int) (wrap64 (x111_6 + 1)) a0_0 l0_1 l0_2) = some (r1,r2):=by first|(rw [hy201];with_reducible exact H)|(have H2_:=(Option.bind_some _ _).symm.trans H;rw [hy201];with_reducible exact H2_)|(have H2_:=(Option.bind_some _ _).symm.trans H;with_reducible exact H2_)|with_reducible exact H|(rw [hy201];exact H)|exact H
             have Ny201:=mk0 hy201
             clear hy201
             have H':=mk0 H
             clear H
             have p196:0 ≤ (x111_6:Int):=of_decide_eq_true (by first|(with_reducible assumption)|assumption)
             have q196:x111_6 < (x5_6.length:Int):=of_decide_eq_true (by first|(with_reducible assumption)|assumption)
             obtain⟨ad196,e196,hx196_0⟩:=Kd.at_int (Kd.R_reads' HO_5.out).2.2 x111_6 p196 q196
             cases e196
             replace p196:=eq_true p196
             replace q196:=eq_true q196
             try go_wp2
             have n0_:=mk0 (dR HO_4.out)
             have n1_:=mk0 (dR HO_5.out)
             have n2_:=mk0 (dR HO_9.out)
             have n3_:=mk0 (dR HO_81.out)
             have n4_:=mk0 (dB BK172.out)
             have n5_:=mk0 (dB BK182.out)
             have n6_:=mk0 (dZ HB.out)
             clear HO_4
             clear HO_5
             clear HO_9
             clear HO_81
             clear BK172
             clear BK182
             clear HB
             have HO_4:=n0_
             have HO_5:=n1_
             have HO_9:=n2_
             have HO_81:=n3_
             have BK172:=n4_
             have BK182:=n5_
             have HB:=n6_
             clear n0_ n1_ n2_ n3_ n4_ n5_ n6_
             obtain⟨Ao79,co79,eo79⟩:=Kd.R_slice HO_4.out
             (first|subst eo79|(injection eo79 with f1_ f2_ f3_;have f4_:=f1_.symm;have f5_:=f3_.symm;clear f1_ f2_ f3_;subst f4_;subst f5_))
             have p197:0 ≤ (x111_6:Int):=of_decide_eq_true (by first|(with_reducible assumption)|assumption)
             have q197:x111_6 < (x4_6.length:Int):=of_decide_eq_true (by first|(with_reducible assumption)|assumption)
             obtain⟨ad197,e197,hx197_0⟩:=Kd.at_int (Kd.R_reads' HO_4.out).2.2 x111_6 p197 q197
             cases e197
             replace p197:=eq_true p197
             replace q197:=eq_true q197
             have p198:0 ≤ ((rd x5_6 x111_6):Int):=of_decide_eq_true (by first|(with_reducible assumption)|assumption)
             have q198:(rd x5_6 x111_6) < (t183.length:Int):=of_decide_eq_true (by first|(with_reducible assumption)|assumption)
             obtain⟨ad198,e198,hx198_0⟩:=Kd.at_int (Kd.R_reads' HO_9.out).2.2 (rd x5_6 x111_6) p198 q198
             cases e198
             replace p198:=eq_true p198
             replace q198:=eq_true q198
             have p75:0 ≤ (x111_6:Int):=of_decide_eq_true (by first|(with_reducible assumption)|assumption)
             have q75:(x111_6:Int) < ((x4_6.length:Int):Int):=of_decide_eq_true (by first|(with_reducible assumption)|assumption)
             obtain⟨go75,co75,eo75,gb75,gl75,cl75,HG75⟩:=Kd.R_form HO_4.out (by omega)
             (first|cases eo75|(injection eo75 with ea_ en_ ec_;(first|subst ea_|(injection ea_ with ea_;subst ea_));subst ec_;clear en_))
             have GB75:=mk0 gb75
             have GG75:=mk0 HG75
             clear gb75 gl75 HG75
             (first|simp only [add_plain] at hx197_0|skip)
             obtain⟨hx75_0,hf75_0⟩:=Kd.R_celln 0 HO_4.out (x111_6:Int) p75 q75
             replace p75:=eq_true p75
             replace q75:=eq_true q75
             have HP80:=Kd.R_putn HO_4.out (x111_6:Int) (Go.bits .or .i64 (wrap64 ((rd x4_6 x111_6) * 2)) (rd t183 (rd x5_6 x111_6)))
             rw [← Ny199.out] at HP80
             have HQ80:=mk0 HP80
             clear HP80
             refine start_ (n:=14) (S:=fun w'=>w'.cell? ⟨go75,(x111_6).toNat,none⟩ = some (.int .i64 (rd x4_6 x111_6)) ∧ w'.cell? (ad198.add ((rd x5_6 x111_6)).toNat) = some (.int .i64 (rd t183 (rd x5_6 x111_6)))) (ds:=[13]) impl_Wave_read.m46 (by kernel_rfl) rfl rfl ⟨hx197_0,hx198_0⟩ (fun hHeld=>?_);refine with_tabW impl_Wave_read.tab26 impl_Wave_read.bits26 (fun HT_ HW_=>?_)
             generalize wr.drew = w78 at HO_4 HO_5 HO_9 HO_81 BK172 BK182 HB GG75 HQ80 hf75_0 hx197_0 hx198_0 hx75_0 hHeld ⊢
             refine pure_ (i:=0) (N:=some 116) (v:=?_) (a':=?_) impl_Wave_read.m47 rfl rfl (any_of HT_.out (by kernel_rfl)) (fun _ _ _ h=>h) (Or.inl ⟨by rfl,?_⟩) ?_ ?_
             rotate_left
             ·intro w'
              go_simp
              with_reducible rfl
             rotate_left
             ·simp only [Act.put,sA,sO,sS,i64_w,i32_w]
              rfl
             refine pure_ (i:=1) (N:=some 117) (v:=?_) (a':=?_) impl_Wave_read.m48 rfl rfl (any_of HT_.out (by kernel_rfl)) (fun _ _ _ h=>h) (Or.inl ⟨by rfl,?_⟩) ?_ ?_
             rotate_left
             ·intro w'
              go_simp
              with_reducible rfl
             rotate_left
             ·simp only [Act.put,sA,sO,sS,i64_w,i32_w]
              rfl
             refine pure_ (i:=2) (N:=some 118) (v:=?_) (a':=?_) impl_Wave_read.m49 rfl rfl (any_of HT_.out (by kernel_rfl)) (fun _ _ _ h=>h) (Or.inl ⟨by rfl,?_⟩) ?_ ?_
             rotate_left
             ·intro w'
              go_simp
              with_reducible rfl
             rotate_left
             ·simp only [Act.put,sA,sO,sS,i64_w,i32_w]
              rfl
             refine pure_ (i:=3) (N:=some 119) (v:=?_) (a':=?_) impl_Wave_read.m50 rfl rfl (any_of HT_.out (by kernel_rfl)) (fun _ _ _ h=>h) (Or.inl ⟨by rfl,?_⟩) ?_ ?_
             rotate_left
             ·intro w'
              go_simp
              with_reducible rfl
             rotate_left
             ·simp only [Act.put,sA,sO,sS,i64_w,i32_w]
              rfl
             refine pure_ (i:=4) (N:=some 120) (v:=?_) (a':=?_) impl_Wave_read.m51 rfl rfl (any_of HT_.out (by kernel_rfl)) (fun _ _ _ h=>h) (Or.inl ⟨by rfl,?_⟩) ?_ ?_
             rotate_left
             ·intro w'
              go_simp
              with_reducible rfl
             rotate_left
             ·simp only [Act.put,sA,sO,sS,i64_w,i32_w]
              rfl
             refine pure_ (i:=7) (N:=some 123) (v:=?_) (a':=?_) impl_Wave_read.m52 rfl rfl (any_of HT_.out (by kernel_rfl)) (fun _ _ _ h=>h) (Or.inl ⟨by rfl,?_⟩) ?_ ?_
             rotate_left
             ·intro w'
              go_simp
              with_reducible rfl
             rotate_left
             ·simp only [Act.put,sA,sO,sS,i64_w,i32_w]
              rfl
             refine pure_ (i:=8) (N:=some 124) (v:=?_) (a':=?_) impl_Wave_read.m53 rfl rfl (any_of HT_.out (by kernel_rfl)) (fun _ _ _ h=>h) (Or.inl ⟨by rfl,?_⟩) ?_ ?_
             rotate_left
             ·intro w'
              go_simp
              with_reducible rfl
             rotate_left
             ·simp only [Act.put,sA,sO,sS,i64_w,i32_w]
              rfl
             refine pure_ (i:=9) (N:=some 125) (v:=?_) (a':=?_) impl_Wave_read.m54 rfl rfl (any_of HT_.out (by kernel_rfl)) (fun _ _ _ h=>h) (Or.inl ⟨by rfl,?_⟩) ?_ ?_
             rotate_left
             ·intro w'
              go_simp
              with_reducible rfl
             rotate_left
             ·simp only [Act.put,sA,sO,sS,i64_w,i32_w]
              rfl
             refine take_ (i:=5) (N:=some 121) (v:=?_) (a':=?_) impl_Wave_read.m55 rfl rfl (take_ofW HT_.out HW_.out (by kernel_rfl)) (fun _ _ _ h=>h) (Or.inl ⟨by rfl,?_⟩) hHeld ?_ ?_
             rotate_left
             ·rintro w' ⟨s0,s1⟩
              go_simp
              with_reducible rfl
             rotate_left
             ·simp only [Act.put,sA,sO,sS,i64_w,i32_w]
              rfl
             refine pure_ (i:=6) (N:=some 122) (v:=?_) (a':=?_) impl_Wave_read.m56 rfl rfl (any_of HT_.out (by kernel_rfl)) (fun _ _ _ h=>h) (Or.inl ⟨by rfl,?_⟩) ?_ ?_
             rotate_left
             ·intro w'
              go_simp
              with_reducible rfl
             rotate_left
             ·simp only [Act.put,sA,sO,sS,i64_w,i32_w]
              rfl
             refine take_ (i:=10) (N:=some 126) (v:=?_) (a':=?_) impl_Wave_read.m57 rfl rfl (take_ofW HT_.out HW_.out (by kernel_rfl)) (fun _ _ _ h=>h) (Or.inl ⟨by rfl,?_⟩) hHeld ?_ ?_
             rotate_left
             ·rintro w' ⟨s0,s1⟩
              go_simp
              with_reducible rfl
             rotate_left
             ·simp only [Act.put,sA,sO,sS,i64_w,i32_w]
              rfl
             refine pure_ (i:=11) (N:=some 127) (v:=?_) (a':=?_) impl_Wave_read.m58 rfl rfl (any_of HT_.out (by kernel_rfl)) (fun _ _ _ h=>h) (Or.inl ⟨by rfl,?_⟩) ?_ ?_
             rotate_left
             ·intro w'
              go_simp
              with_reducible rfl
             rotate_left
             ·simp only [Act.put,sA,sO,sS,i64_w,i32_w]
              rfl
             refine pure_ (i:=12) (N:=some 128) (v:=?_) (a':=?_) impl_Wave_read.m59 rfl rfl (any_of HT_.out (by kernel_rfl)) (fun _ _ _ h=>h) (Or.inl ⟨by rfl,?_⟩) ?_ ?_
             rotate_left
             ·intro w'
              go_simp
              with_reducible rfl
             rotate_left
             ·simp only [Act.put,sA,sO,sS,i64_w,i32_w]
              rfl
             refine last_ (i:=13) (N:=none) impl_Wave_read.m60 rfl rfl (one_of HT_.out (by kernel_rfl)) (by decide) (fun K hK=>?_)
             refine skip_ (w1:=?_) (by rfl) rfl ?_ ?_
             rotate_left
             ·go_simp
              rfl
             refine hK.out _ _ ?_
             clear hK K
             refine done_ (done_of HT_.out (by kernel_rfl)) ?_
             have n0_:Aside0 (Kd.R (Kd.int .i64) 3 (w78.setCell ⟨go75,(x111_6:Int).toNat,none⟩ (.int .i64 (Go.bits .or .i64 (wrap64 ((rd x4_6 x111_6) * 2)) (rd t183 (rd x5_6 x111_6))))) w.heap.size (fun k_=>some k_ ≠ (.slice (some ad196) x5_6.length co19:Value).ownBlock ∧ some k_ ≠ (.slice (some ad198) t183.length co56:Value).ownBlock ∧ some k_ ≠ (v190:Value).ownBlock) (.slice (some ⟨go75,0,none⟩) x4_6.length co79) y199):=⟨by (with_reducible repeat (first|apply aR|apply nR|apply dR));exact HQ80.out⟩
             have n1_:Aside0 (Kd.R (Kd.int .i64) 3 (w78.setCell ⟨go75,(x111_6:Int).toNat,none⟩ (.int .i64 (Go.bits .or .i64 (wrap64 ((rd x4_6 x111_6) * 2)) (rd t183 (rd x5_6 x111_6))))) w.heap.size (fun k_=>some k_ ≠ (.slice (some ⟨go75,0,none⟩) x4_6.length co79:Value).ownBlock ∧ some k_ ≠ (.slice (some ad198) t183.length co56:Value).ownBlock ∧ some k_ ≠ (v190:Value).ownBlock) (.slice (some ad196) x5_6.length co19) x5_6):=⟨by (with_reducible repeat (first|apply aR|apply nR|apply dR));exact Kd.R_mono (Kd.R_far (p:=⟨go75,(x111_6:Int).toNat,none⟩) (Kd.R_mono HO_5.out (fun k_ hk=>(⟨hk,fun e_=>hk.1 (by rw [e_];rfl)⟩:_ ∧ k_ ≠ go75))) (by first|exact fun _ hk=>hk.2|(intro k_ hk;simp only [hk,ne_eq,and_self,not_false_eq_true])) (.int .i64 (Go.bits .or .i64 (wrap64 ((rd x4_6 x111_6) * 2)) (rd t183 (rd x5_6 x111_6))))) (by first|exact fun _ hk=>⟨hk.1.1,⟨hk.1.2.1,hk.1.2.2⟩⟩|(intro k_ hk;simp only [hk,ne_eq,and_self,not_false_eq_true]))⟩
             have n2_:Aside0 (Kd.R (Kd.int .i64) 3 (w78.setCell ⟨go75,(x111_6:Int).toNat,none⟩ (.int .i64 (Go.bits .or .i64 (wrap64 ((rd x4_6 x111_6) * 2)) (rd t183 (rd x5_6 x111_6))))) w.heap.size (fun k_=>some k_ ≠ (.slice (some ⟨go75,0,none⟩) x4_6.length co79:Value).ownBlock ∧ some k_ ≠ (.slice (some ad196) x5_6.length co19:Value).ownBlock ∧ some k_ ≠ (v190:Value).ownBlock) (.slice (some ad198) t183.length co56) t183):=⟨by (with_reducible repeat (first|apply aR|apply nR|apply dR));exact Kd.R_mono (Kd.R_far (p:=⟨go75,(x111_6:Int).toNat,none⟩) (Kd.R_mono HO_9.out (fun k_ hk=>(⟨hk,fun e_=>hk.1 (by rw [e_];rfl)⟩:_ ∧ k_ ≠ go75))) (by first|exact fun _ hk=>hk.2|(intro k_ hk;simp only [hk,ne_eq,and_self,not_false_eq_true])) (.int .i64 (Go.bits .or .i64 (wrap64 ((rd x4_6 x111_6) * 2)) (rd t183 (rd x5_6 x111_6))))) (by first|exact fun _ hk=>⟨hk.1.1,⟨hk.1.2.1,hk.1.2.2⟩⟩|(intro k_ hk;simp only [hk,ne_eq,and_self,not_false_eq_true]))⟩
             have n3_:Aside0 (Kd.R (Kd.int .i64) 3 (w78.setCell ⟨go75,(x111_6:Int).toNat,none⟩ (.int .i64 (Go.bits .or .i64 (wrap64 ((rd x4_6 x111_6) * 2)) (rd t183 (rd x5_6 x111_6))))) w.heap.size (fun k_=>some k_ ≠ (.slice (some ⟨go75,0,none⟩) x4_6.length co79:Value).ownBlock ∧ some k_ ≠ (.slice (some ad196) x5_6.length co19:Value).ownBlock ∧ some k_ ≠ (.slice (some ad198) t183.length co56:Value).ownBlock) v190 x81_5):=⟨by (with_reducible repeat (first|apply aR|apply nR|apply dR));exact Kd.R_mono (Kd.R_far (p:=⟨go75,(x111_6:Int).toNat,none⟩) (Kd.R_mono HO_81.out (fun k_ hk=>(⟨hk,fun e_=>hk.1 (by rw [e_];rfl)⟩:_ ∧ k_ ≠ go75))) (by first|exact fun _ hk=>hk.2|(intro k_ hk;simp only [hk,ne_eq,and_self,not_false_eq_true])) (.int .i64 (Go.bits .or .i64 (wrap64 ((rd x4_6 x111_6) * 2)) (rd t183 (rd x5_6 x111_6))))) (by first|exact fun _ hk=>⟨hk.1.1,⟨hk.1.2.1,hk.1.2.2⟩⟩|(intro k_ hk;simp only [hk,ne_eq,and_self,not_false_eq_true]))⟩
             have n4_:Aside0 ((w78.setCell ⟨go75,(x111_6:Int).toNat,none⟩ (.int .i64 (Go.bits .or .i64 (wrap64 ((rd x4_6 x111_6) * 2)) (rd t183 (rd x5_6 x111_6))))).heap[gb172]? = some (.cells #[.int .i64 a0_0,.slice (some ad192) l0_1.length c0_1,.slice (some ad181) l0_2.length c0_2] 30 (0,0))):=⟨by (with_reducible repeat (first|apply nB|apply dB|apply aB));refine blk_far ?_ (by have h_:=Kd.R_ne HO_4.out BK172.out (by decide);intro e_;exact h_ (by rw [e_];rfl)) _;(with_reducible repeat (first|apply nB|apply dB|apply aB));exact BK172.out⟩
             have n5_:Aside0 ((w78.setCell ⟨go75,(x111_6:Int).toNat,none⟩ (.int .i64 (Go.bits .or .i64 (wrap64 ((rd x4_6 x111_6) * 2)) (rd t183 (rd x5_6 x111_6))))).heap[gb182]? = some (.cells #[.int .i64 ((rd_T64 l0_2 x52_3).f0),.slice A181_1 ((rd_T64 l0_2 x52_3).f1).length c181_1] 64 (0,0))):=⟨by (with_reducible repeat (first|apply nB|apply dB|apply aB));refine blk_far ?_ (by have h_:=Kd.R_ne HO_4.out BK182.out (by decide);intro e_;exact h_ (by rw [e_];rfl)) _;(with_reducible repeat (first|apply nB|apply dB|apply aB));exact BK182.out⟩
             have n6_:Aside0 (Below w.heap.size w (w78.setCell ⟨go75,(x111_6:Int).toNat,none⟩ (.int .i64 (Go.bits .or .i64 (wrap64 ((rd x4_6 x111_6) * 2)) (rd t183 (rd x5_6 x111_6)))))):=⟨by repeat (first|(with_reducible first|exact HB.out|apply aZ|apply nZ|apply dZ|refine sZ ?_ GB75.out|refine sZ ?_ GE172.out|refine sZ ?_ GE182.out)|exact HB.out)⟩
             (try clear HO_4)
             (try clear HO_5)
             (try clear HO_9)
             (try clear HO_81)
             (try clear BK172)
             (try clear BK182)
             (try clear HB)
             generalize (w78.setCell ⟨go75,(x111_6:Int).toNat,none⟩ (.int .i64 (Go.bits .or .i64 (wrap64 ((rd x4_6 x111_6) * 2)) (rd t183 (rd x5_6 x111_6))))) = w81 at n0_ n1_ n2_ n3_ n4_ n5_ n6_ ⊢
             have HO_4:=n0_
             have HO_5:=n1_
             have HO_9:=n2_
             have HO_81:=n3_
             have BK172:=n4_
             have BK182:=n5_
             have HB:=n6_
             clear n0_ n1_ n2_ n3_ n4_ n5_ n6_
             obtain⟨Ao82,co82,eo82⟩:=Kd.R_slice HO_81.out
             subst eo82
             have p200:0 ≤ ((rd x5_6 x111_6):Int):=of_decide_eq_true (by first|(with_reducible assumption)|assumption)
             have q200:(rd x5_6 x111_6) < (x81_5.length:Int):=of_decide_eq_true (by first|(with_reducible assumption)|assumption)
             obtain⟨ad200,e200,hx200_0⟩:=Kd.at_int (Kd.R_reads' HO_81.out).2.2 (rd x5_6 x111_6) p200 q200
             cases e200
             replace p200:=eq_true p200
             replace q200:=eq_true q200
             have p77:0 ≤ (x111_6:Int):=of_decide_eq_true (by first|(with_reducible assumption)|assumption)
             have q77:(x111_6:Int) < ((x5_6.length:Int):Int):=of_decide_eq_true (by first|(with_reducible assumption)|assumption)
             obtain⟨go77,co77,eo77,gb77,gl77,cl77,HG77⟩:=Kd.R_form HO_5.out (by omega)
             (first|cases eo77|(injection eo77 with ea_ en_ ec_;(first|subst ea_|(injection ea_ with ea_;subst ea_));subst ec_;clear en_))
             have GB77:=mk0 gb77
             have GG77:=mk0 HG77
             clear gb77 gl77 HG77
             (first|simp only [add_plain] at hx196_0|skip)
             obtain⟨hx77_0,hf77_0⟩:=Kd.R_celln 0 HO_5.out (x111_6:Int) p77 q77
             replace p77:=eq_true p77
             replace q77:=eq_true q77
             obtain⟨hy83_,hz83_⟩:=Kd.R_celln 0 HO_5.out (x111_6:Int) (of_decide_eq_true (by first|(with_reducible assumption)|assumption)) (of_decide_eq_true (by first|(with_reducible assumption)|assumption))
             have HP83:=Kd.R_putg HO_5.out (x111_6:Int) (rd x81_5 (rd x5_6 x111_6))
             try go_wp2_with (first|((with_reducible refine gate_store (t:=3) (p:=135) rfl ?_);refine store_event (t:=3) (p:=135) (v:=?vo_w84) (w1:=(w81.setCell ⟨go77,(x111_6:Int).toNat,none⟩ (.int .i64 (rd x81_5 (rd x5_6 x111_6))))) ?hg ?ho ?hn ?hr ?_;(case ho=>rfl);(case hg=>rfl);(case hn=>rfl);(case hr=>first|(go_simp;done)|(go_simp;rfl));intro w84 hw;have hg:w81.grownBy w84 (some go77):=(by rw [hw];exact HP83.2);have hp_:Kd.R (Kd.int .i64) 3 w84 w.heap.size (fun k_=>some k_ ≠ (.slice (some ⟨go75,0,none⟩) x4_6.length co79:Value).ownBlock ∧ some k_ ≠ (.slice (some ad198) t183.length co56:Value).ownBlock ∧ some k_ ≠ (.slice (some ad200) x81_5.length co82:Value).ownBlock) (.slice (some ⟨go77,0,none⟩) x5_6.length co19) y201:=(by rw [hw,Ny201.out];exact HP83.1);clear HP83;have n0_:=mk0 (Kd.R_after (v:=(.slice (some ⟨go77,0,none⟩) x5_6.length co19)) (v1:=(.slice (some ⟨go77,0,none⟩) x5_6.length co19)) (ok:=(fun k_=>some k_ ≠ (.slice (some ad198) t183.length co56:Value).ownBlock ∧ some k_ ≠ (.slice (some ad200) x81_5.length co82:Value).ownBlock)) (by (with_reducible repeat (first|apply aR|apply nR|apply dR));exact Kd.R_mono HO_4.out (by first|exact fun _ hk=>⟨⟨hk.2.1,hk.2.2⟩,hk.1⟩|(intro k_ hk;simp only [hk,ne_eq,and_self,not_false_eq_true]))) hg (.inl rfl));have n1_:=mk0 (hp_);have n2_:=mk0 (Kd.R_after (v:=(.slice (some ⟨go77,0,none⟩) x5_6.length co19)) (v1:=(.slice (some ⟨go77,0,none⟩) x5_6.length co19)) (ok:=(fun k_=>some k_ ≠ (.slice (some ⟨go75,0,none⟩) x4_6.length co79:Value).ownBlock ∧ some k_ ≠ (.slice (some ad200) x81_5.length co82:Value).ownBlock)) (by (with_reducible repeat (first|apply aR|apply nR|apply dR));exact Kd.R_mono HO_9.out (by first|exact fun _ hk=>⟨⟨hk.1,hk.2.2⟩,hk.2.1⟩|(intro k_ hk;simp only [hk,ne_eq,and_self,not_false_eq_true]))) hg (.inl rfl));have n3_:=mk0 (Kd.R_after (v:=(.slice (some ⟨go77,0,none⟩) x5_6.length co19)) (v1:=(.slice (some ⟨go77,0,none⟩) x5_6.length co19)) (ok:=(fun k_=>some k_ ≠ (.slice (some ⟨go75,0,none⟩) x4_6.length co79:Value).ownBlock ∧ some k_ ≠ (.slice (some ad198) t183.length co56:Value).ownBlock)) (by (with_reducible repeat (first|apply aR|apply nR|apply dR));exact Kd.R_mono HO_81.out (by first|exact fun _ hk=>⟨⟨hk.1,hk.2.2⟩,hk.2.1⟩|(intro k_ hk;simp only [hk,ne_eq,and_self,not_false_eq_true]))) hg (.inl rfl));have n4_:=mk0 (blk_grown (g:=gb172) (o:=.cells #[.int .i64 a0_0,.slice (some ad192) l0_1.length c0_1,.slice (some ad181) l0_2.length c0_2] 30 (0,0)) (by (with_reducible repeat (first|apply nB|apply dB|apply aB));exact BK172.out) hg (Kd.R_ne HO_5.out BK172.out (by decide)));have n5_:=mk0 (blk_grown (g:=gb182) (o:=.cells #[.int .i64 ((rd_T64 l0_2 x52_3).f0),.slice A181_1 ((rd_T64 l0_2 x52_3).f1).length c181_1] 64 (0,0)) (by (with_reducible repeat (first|apply nB|apply dB|apply aB));exact BK182.out) hg (Kd.R_ne HO_5.out BK182.out (by decide)));have n6_:=mk0 ((by rw [hw];exact sZ (HB.out) GB77.out:Below w.heap.size w w84));clear HO_4 HO_5 HO_9 HO_81 BK172 BK182 HB;have HO_4:=n0_;have HO_5:=n1_;have HO_9:=n2_;have HO_81:=n3_;have BK172:=n4_;have BK182:=n5_;have HB:=n6_;clear n0_ n1_ n2_ n3_ n4_ n5_ n6_ hg hw hp_))
             (try simp only [← hl5_6])
             go_roundg k6
             case measure=>have:=HJ1.out;have:=HK2.out;have:=HK3.out;have:=HJ30.out;have:=HK5.out;have:=HK6.out;omega
             case rel=>exact⟨(y199),(y201),(wrap64 (x111_6 + 1)),(by first|rfl|(simp;done)|(simp [*];done)),H',⟨by have:=HJ1.out;have:=HK2.out;have:=HK3.out;have:=HJ30.out;have:=HK5.out;have:=HK6.out;omega⟩,⟨by (try simp only [hl38_2]);(try simp only [hl38_3]);(try simp only [hl5_6]);(with_reducible repeat (first|apply aR|apply nR|apply dR));exact Kd.R_mono HO_4.out (by first|exact fun _ hk=>⟨hk.2,⟨hk.1.1,hk.1.2⟩⟩|(intro k_ hk;simp only [hk,ne_eq,and_self,not_false_eq_true]))⟩,⟨by (try simp only [hl38_2]);(try simp only [hl38_3]);(try simp only [hl5_6]);(with_reducible repeat (first|apply aR|apply nR|apply dR));exact HO_5.out⟩,⟨by (try simp only [hl38_2]);(try simp only [hl38_3]);(try simp only [hl5_6]);(with_reducible repeat (first|apply aR|apply nR|apply dR));exact Kd.R_mono HO_9.out (by first|exact fun _ hk=>⟨hk.1.1,⟨hk.2,hk.1.2⟩⟩|(intro k_ hk;simp only [hk,ne_eq,and_self,not_false_eq_true]))⟩,⟨by (try simp only [hl38_2]);(try simp only [hl38_3]);(try simp only [hl5_6]);(with_reducible repeat (first|apply aR|apply nR|apply dR));exact Kd.R_mono HO_81.out (by first|exact fun _ hk=>⟨hk.1.1,⟨hk.2,hk.1.2⟩⟩|(intro k_ hk;simp only [hk,ne_eq,and_self,not_false_eq_true]))⟩,⟨by (try simp only [hl38_2]);(try simp only [hl38_3]);(try simp only [hl5_6]);(with_reducible repeat (first|apply nB|apply dB|apply aB));exact BK172.out⟩,⟨by (try simp only [hl38_2]);(try simp only [hl38_3]);(try simp only [hl5_6]);(with_reducible repeat (first|apply nB|apply dB|apply aB));exact BK182.out⟩,⟨by repeat (first|(with_reducible first|exact HB.out|apply aZ|apply nZ|apply dZ|refine sZ ?_ GE172.out|refine sZ ?_ GE182.out)|exact HB.out)⟩⟩
end Go.Proofs.Ytamdhfjnalglfaa.QFnExactWaveList
