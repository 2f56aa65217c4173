-- A walk, made by walk.py, a program of this session's.
import Derived.Test.YtgjmmegmkdklbaaQFnExactHuffReadx0
import Derived.Test.YtgjmmegmkdklbaaQFnExactHuffReadx2
import Derived.Test.YtgjmmegmkdklbaaQFnExactHuffReadx3
import Derived.Test.YtgjmmegmkdklbaaQFnExactHuffReadx4
namespace Go.Proofs.Ytgjmmegmkdklbaa.QFnExactHuffRead
open Go.RowKit Go.Proofs.YtgjmmegmkdklbaaW.PrintWords Go.Proofs.YtgjmmegmkdklbaaW.PrintLast Go.Proofs.YtgjmmegmkdklbaaW.PrintMore
attribute [local go_sem] max2_int min2_int max_two min_two max_three min_three max_four min_four   -- for this text's walks alone
set_option linter.unusedVariables false
set_option linter.unusedSimpArgs false

/-! ### spec_HuffRead: function 28 -/
mutual
def spec_HuffRead.j0 : Nat → List Int → Int → Bool → Int → List Int → Option (List Int × Bool)
 | 0, _, _, _, _, _ => none
 | k + 1, x1, x2, x25, x178000, x178001 => if x25 = true then (some (([] : List Int), false)) else ((spec_l01List.f k x178000 x178001).bind fun t180 => ((spec_HuffCodes.f k x1).bind fun t183 => (spec_HuffRead.l0 k x1 x2 (([] : List Int)) 0 t180 t183)))
def spec_HuffRead.l0 : Nat → List Int → Int → List Int → Int → List Int → List Int → Option (List Int × Bool)
 | 0, _, _, _, _, _, _ => none
 | k + 1, x1, x2, x10, x11, x27, x29 => if x11 < (x27.length : Int) then (spec_HuffRead.l1 k x1 x2 x10 x11 (-1) 0 x27 x29) else (if (x10.length : Int) = x2 then (some (x10, true)) else (some (([] : List Int), false)))
def spec_HuffRead.l1 : Nat → List Int → Int → List Int → Int → Int → Int → List Int → List Int → Option (List Int × Bool)
 | 0, _, _, _, _, _, _, _, _ => none
 | k + 1, x1, x2, x10, x11, x12, x13, x27, x29 => if x13 < (x1.length : Int) then (if 0 ≤ x13 then (if (rd x1 x13) > 0 then (if (wrap64 (x11 + (rd x1 x13))) ≤ (x27.length : Int) then (if x13 < (x29.length : Int) then ((spec_l08Code.f k (rd x29 x13) (rd x1 x13)).bind fun t193 => (if 0 ≤ x11 then (if x11 ≤ (wrap64 (x11 + (rd x1 x13))) then ((spec_l01Same.f k t193 ((x27.take ((wrap64 (x11 + (rd x1 x13))) : Int).toNat).drop (x11 : Int).toNat)).bind fun t201 => (spec_HuffRead.j3 k x1 x2 x27 x29 x10 x11 x12 x13 t201)) else (none)) else (none))) else (none)) else (spec_HuffRead.j3 k x1 x2 x27 x29 x10 x11 x12 x13 false)) else (spec_HuffRead.j3 k x1 x2 x27 x29 x10 x11 x12 x13 false)) else (none)) else (if x12 < 0 then (some (([] : List Int), false)) else (if x10.length < 17592186044416 then (if 0 ≤ x12 then (if x12 < (x1.length : Int) then (spec_HuffRead.l0 k x1 x2 (x10 ++ [x12]) (wrap64 (x11 + (rd x1 x12))) x27 x29) else (none)) else (none)) else (none)))
def spec_HuffRead.j3 : Nat → List Int → Int → List Int → List Int → List Int → Int → Int → Int → Bool → Option (List Int × Bool)
 | 0, _, _, _, _, _, _, _, _, _ => none
 | k + 1, x1, x2, x8, x9, x10, x11, x12, x13, x77 => if x77 = true then (spec_HuffRead.l1 k x1 x2 x10 x11 x13 (wrap64 (x13 + 1)) x8 x9) else (spec_HuffRead.l1 k x1 x2 x10 x11 x12 (wrap64 (x13 + 1)) x8 x9)
end
def spec_HuffRead.f (k : Nat) (a0_0 : Int) (l0_1 : List Int) (l1 : List Int) (a2 : Int) : Option (List Int × Bool) := (spec_BitsOk.f k a0_0 l0_1).bind fun t178 => (if t178 = true then ((spec_HuffOk.f k l1).bind fun t179 => (if t179 = true then (spec_HuffRead.j0 k l1 a2 (decide (a2 < 0)) a0_0 l0_1) else (spec_HuffRead.j0 k l1 a2 true a0_0 l0_1))) else (spec_HuffRead.j0 k l1 a2 true a0_0 l0_1))
theorem spec_HuffRead.mono_l : ∀ k, (∀ y0 y1 y2 y3 y4, LeO (spec_HuffRead.j0 k y0 y1 y2 y3 y4) (spec_HuffRead.j0 (k + 1) y0 y1 y2 y3 y4)) ∧ (∀ y0 y1 y2 y3 y4 y5, LeO (spec_HuffRead.l0 k y0 y1 y2 y3 y4 y5) (spec_HuffRead.l0 (k + 1) y0 y1 y2 y3 y4 y5)) ∧ (∀ y0 y1 y2 y3 y4 y5 y6 y7, LeO (spec_HuffRead.l1 k y0 y1 y2 y3 y4 y5 y6 y7) (spec_HuffRead.l1 (k + 1) y0 y1 y2 y3 y4 y5 y6 y7)) ∧ (∀ y0 y1 y2 y3 y4 y5 y6 y7 y8, LeO (spec_HuffRead.j3 k y0 y1 y2 y3 y4 y5 y6 y7 y8) (spec_HuffRead.j3 (k + 1) y0 y1 y2 y3 y4 y5 y6 y7 y8))
 | 0 => ⟨fun _ _ _ _ _ r h => by simp [spec_HuffRead.j0] at h, fun _ _ _ _ _ _ r h => by simp [spec_HuffRead.l0] at h, fun _ _ _ _ _ _ _ _ r h => by simp [spec_HuffRead.l1] at h, fun _ _ _ _ _ _ _ _ _ r h => by simp [spec_HuffRead.j3] at h⟩
 | k + 1 => by
  obtain ⟨ih0, ih1, ih2, ih3⟩ := spec_HuffRead.mono_l k
  refine ⟨?_, ?_, ?_, ?_⟩
  ·intro y0 y1 y2 y3 y4
   unfold spec_HuffRead.j0
   repeat' first|(with_reducible first|exact ih0 _ _ _ _ _|exact ih1 _ _ _ _ _ _|exact ih2 _ _ _ _ _ _ _ _|exact ih3 _ _ _ _ _ _ _ _ _|exact spec_BitsOk.mono _ _ _|exact spec_HuffCodes.mono _ _|exact spec_HuffOk.mono _ _|exact spec_l01List.mono _ _ _|exact spec_l01Same.mono _ _ _|exact spec_l08Code.mono _ _ _|exact LeO.refl _|exact LeO.none _|refine LeO.ite ?_ ?_|refine LeO.bind ?_ (fun _ => ?_))|exact LeO.none _|refine LeO.ite ?_ ?_|refine LeO.bind ?_ (fun _ => ?_)
  ·intro y0 y1 y2 y3 y4 y5
   unfold spec_HuffRead.l0
   repeat' first|(with_reducible first|exact ih0 _ _ _ _ _|exact ih1 _ _ _ _ _ _|exact ih2 _ _ _ _ _ _ _ _|exact ih3 _ _ _ _ _ _ _ _ _|exact spec_BitsOk.mono _ _ _|exact spec_HuffCodes.mono _ _|exact spec_HuffOk.mono _ _|exact spec_l01List.mono _ _ _|exact spec_l01Same.mono _ _ _|exact spec_l08Code.mono _ _ _|exact LeO.refl _|exact LeO.none _|refine LeO.ite ?_ ?_|refine LeO.bind ?_ (fun _ => ?_))|exact LeO.none _|refine LeO.ite ?_ ?_|refine LeO.bind ?_ (fun _ => ?_)
  ·intro y0 y1 y2 y3 y4 y5 y6 y7
   unfold spec_HuffRead.l1
   repeat' first|(with_reducible first|exact ih0 _ _ _ _ _|exact ih1 _ _ _ _ _ _|exact ih2 _ _ _ _ _ _ _ _|exact ih3 _ _ _ _ _ _ _ _ _|exact spec_BitsOk.mono _ _ _|exact spec_HuffCodes.mono _ _|exact spec_HuffOk.mono _ _|exact spec_l01List.mono _ _ _|exact spec_l01Same.mono _ _ _|exact spec_l08Code.mono _ _ _|exact LeO.refl _|exact LeO.none _|refine LeO.ite ?_ ?_|refine LeO.bind ?_ (fun _ => ?_))|exact LeO.none _|refine LeO.ite ?_ ?_|refine LeO.bind ?_ (fun _ => ?_)
  ·intro y0 y1 y2 y3 y4 y5 y6 y7 y8
   unfold spec_HuffRead.j3
   repeat' first|(with_reducible first|exact ih0 _ _ _ _ _|exact ih1 _ _ _ _ _ _|exact ih2 _ _ _ _ _ _ _ _|exact ih3 _ _ _ _ _ _ _ _ _|exact spec_BitsOk.mono _ _ _|exact spec_HuffCodes.mono _ _|exact spec_HuffOk.mono _ _|exact spec_l01List.mono _ _ _|exact spec_l01Same.mono _ _ _|exact spec_l08Code.mono _ _ _|exact LeO.refl _|exact LeO.none _|refine LeO.ite ?_ ?_|refine LeO.bind ?_ (fun _ => ?_))|exact LeO.none _|refine LeO.ite ?_ ?_|refine LeO.bind ?_ (fun _ => ?_)
theorem spec_HuffRead.mono : ∀ a0 a1 a2 a3 k, LeO (spec_HuffRead.f k a0 a1 a2 a3) (spec_HuffRead.f (k + 1) a0 a1 a2 a3) := by
 intro a0 a1 a2 a3 k
 obtain ⟨ih0, ih1, ih2, ih3⟩ := spec_HuffRead.mono_l k
 unfold spec_HuffRead.f
 repeat' first|(with_reducible first|exact ih0 _ _ _ _ _|exact ih1 _ _ _ _ _ _|exact ih2 _ _ _ _ _ _ _ _|exact ih3 _ _ _ _ _ _ _ _ _|exact spec_BitsOk.mono _ _ _|exact spec_HuffCodes.mono _ _|exact spec_HuffOk.mono _ _|exact spec_l01List.mono _ _ _|exact spec_l01Same.mono _ _ _|exact spec_l08Code.mono _ _ _|exact LeO.refl _|exact LeO.none _|refine LeO.ite ?_ ?_|refine LeO.bind ?_ (fun _ => ?_))|exact LeO.none _|refine LeO.ite ?_ ?_|refine LeO.bind ?_ (fun _ => ?_)
def spec_HuffRead.T12 : Bool × List (List Nat × List Nat) := (true, [([], []), ([], []), ([0, 1], [0, 1]), ([2], [2]), ([3], [3]), ([4], [4]), ([5], [5]), ([5], [5]), ([5], [5]), ([7, 8, 5], [5, 7, 8]), ([9, 5], [5, 9]), ([6, 10, 5], [5, 6, 10]), ([5], [5]), ([12, 5], [5, 12]), ([11, 13, 5], [5, 11, 13]), ([5, 14], [5, 14]), ([15, 5], [15]), ([16], [16]), ([16], [16]), ([17, 18, 16], [16, 17, 18]), ([19, 16], [16, 19]), ([16], [16]), ([16], [16]), ([21, 22, 16], [16, 21, 22]), ([23, 16], [16, 23]), ([20, 24, 16, 16], [16, 20, 24]), ([16], [16]), ([16], [16]), ([16], [16]), ([16], [16]), ([16], [16]), ([29, 30, 16], [16, 29, 30]), ([31, 16], [16, 31]), ([28, 32, 16], [16, 28, 32]), ([26, 27, 33, 16], [16, 26, 27, 33]), ([25, 34, 25, 16], [16, 25, 34]), ([16, 35], [16, 35])])
def spec_HuffRead.B12 : List Nat := [0, 0, 3, 7, 15, 31, 63, 63, 63, 447, 959, 2047, 63, 4159, 16383, 32767, 65535, 131071, 131071, 524287, 1048575, 131071, 131071, 6422527, 14811135, 33554431, 131071, 131071, 131071, 131071, 131071, 1610743807, 3758227455, 8321630207, 17112891391, 34359738367, 68719476735]
theorem spec_HuffRead.tab12 : rtab .any (opsOf Try.f28 12) = spec_HuffRead.T12 := by kernel_rfl
theorem spec_HuffRead.bits12 : waitsOk spec_HuffRead.T12.2 spec_HuffRead.B12 = true := by kernel_rfl
abbrev spec_HuffRead.m0 : Array Bool := #[F,F,F,F,F,F,F,F,F,F,F,F,F,F,F,F,F,F,F,F,F,F,F,F,F,F,F,F,F,F,F,F,F,F,F,F,F]
abbrev spec_HuffRead.m1 : Array Bool := #[T,F,F,F,F,F,F,F,F,F,F,F,F,F,F,F,F,F,F,F,F,F,F,F,F,F,F,F,F,F,F,F,F,F,F,F,F]
abbrev spec_HuffRead.m2 : Array Bool := #[T,T,F,F,F,F,F,F,F,F,F,F,F,F,F,F,F,F,F,F,F,F,F,F,F,F,F,F,F,F,F,F,F,F,F,F,F]
abbrev spec_HuffRead.m3 : Array Bool := #[T,T,T,F,F,F,F,F,F,F,F,F,F,F,F,F,F,F,F,F,F,F,F,F,F,F,F,F,F,F,F,F,F,F,F,F,F]
abbrev spec_HuffRead.m4 : Array Bool := #[T,T,T,T,F,F,F,F,F,F,F,F,F,F,F,F,F,F,F,F,F,F,F,F,F,F,F,F,F,F,F,F,F,F,F,F,F]
abbrev spec_HuffRead.m5 : Array Bool := #[T,T,T,T,T,F,F,F,F,F,F,F,F,F,F,F,F,F,F,F,F,F,F,F,F,F,F,F,F,F,F,F,F,F,F,F,F]
abbrev spec_HuffRead.m6 : Array Bool := #[T,T,T,T,T,T,F,F,F,F,F,F,F,F,F,F,F,F,F,F,F,F,F,F,F,F,F,F,F,F,F,F,F,F,F,F,F]
abbrev spec_HuffRead.m7 : Array Bool := #[T,T,T,T,T,T,T,F,F,F,F,F,F,F,F,F,F,F,F,F,F,F,F,F,F,F,F,F,F,F,F,F,F,F,F,F,F]
abbrev spec_HuffRead.m8 : Array Bool := #[T,T,T,T,T,T,T,T,F,F,F,F,F,F,F,F,F,F,F,F,F,F,F,F,F,F,F,F,F,F,F,F,F,F,F,F,F]
abbrev spec_HuffRead.m9 : Array Bool := #[T,T,T,T,T,T,T,T,T,F,F,F,F,F,F,F,F,F,F,F,F,F,F,F,F,F,F,F,F,F,F,F,F,F,F,F,F]
abbrev spec_HuffRead.m10 : Array Bool := #[T,T,T,T,T,T,T,T,T,T,F,F,F,F,F,F,F,F,F,F,F,F,F,F,F,F,F,F,F,F,F,F,F,F,F,F,F]
abbrev spec_HuffRead.m11 : Array Bool := #[T,T,T,T,T,T,T,T,T,T,T,F,F,F,F,F,F,F,F,F,F,F,F,F,F,F,F,F,F,F,F,F,F,F,F,F,F]
abbrev spec_HuffRead.m12 : Array Bool := #[T,T,T,T,T,T,T,T,T,T,T,T,F,F,F,F,F,F,F,F,F,F,F,F,F,F,F,F,F,F,F,F,F,F,F,F,F]
abbrev spec_HuffRead.m13 : Array Bool := #[T,T,T,T,T,T,T,T,T,T,T,T,T,F,F,F,F,F,F,F,F,F,F,F,F,F,F,F,F,F,F,F,F,F,F,F,F]
abbrev spec_HuffRead.m14 : Array Bool := #[T,T,T,T,T,T,T,T,T,T,T,T,T,T,F,F,F,F,F,F,F,F,F,F,F,F,F,F,F,F,F,F,F,F,F,F,F]
abbrev spec_HuffRead.m15 : Array Bool := #[T,T,T,T,T,T,T,T,T,T,T,T,T,T,T,F,F,F,F,F,F,F,F,F,F,F,F,F,F,F,F,F,F,F,F,F,F]
abbrev spec_HuffRead.m16 : Array Bool := #[T,T,T,T,T,T,T,T,T,T,T,T,T,T,T,T,F,F,F,F,F,F,F,F,F,F,F,F,F,F,F,F,F,F,F,F,F]
abbrev spec_HuffRead.m17 : Array Bool := #[T,T,T,T,T,T,T,T,T,T,T,T,T,T,T,T,T,F,F,F,F,F,F,F,F,F,F,F,F,F,F,F,F,F,F,F,F]
abbrev spec_HuffRead.m18 : Array Bool := #[T,T,T,T,T,T,T,T,T,T,T,T,T,T,T,T,T,T,F,F,F,F,F,F,F,F,F,F,F,F,F,F,F,F,F,F,F]
abbrev spec_HuffRead.m19 : Array Bool := #[T,T,T,T,T,T,T,T,T,T,T,T,T,T,T,T,T,T,T,F,F,F,F,F,F,F,F,F,F,F,F,F,F,F,F,F,F]
abbrev spec_HuffRead.m20 : Array Bool := #[T,T,T,T,T,T,T,T,T,T,T,T,T,T,T,T,T,T,T,T,F,F,F,F,F,F,F,F,F,F,F,F,F,F,F,F,F]
abbrev spec_HuffRead.m21 : Array Bool := #[T,T,T,T,T,T,T,T,T,T,T,T,T,T,T,T,T,T,T,T,T,F,F,F,F,F,F,F,F,F,F,F,F,F,F,F,F]
abbrev spec_HuffRead.m22 : Array Bool := #[T,T,T,T,T,T,T,T,T,T,T,T,T,T,T,T,T,T,T,T,T,T,F,F,F,F,F,F,F,F,F,F,F,F,F,F,F]
abbrev spec_HuffRead.m23 : Array Bool := #[T,T,T,T,T,T,T,T,T,T,T,T,T,T,T,T,T,T,T,T,T,T,T,F,F,F,F,F,F,F,F,F,F,F,F,F,F]
abbrev spec_HuffRead.m24 : Array Bool := #[T,T,T,T,T,T,T,T,T,T,T,T,T,T,T,T,T,T,T,T,T,T,T,T,F,F,F,F,F,F,F,F,F,F,F,F,F]
abbrev spec_HuffRead.m25 : Array Bool := #[T,T,T,T,T,T,T,T,T,T,T,T,T,T,T,T,T,T,T,T,T,T,T,T,T,F,F,F,F,F,F,F,F,F,F,F,F]
abbrev spec_HuffRead.m26 : Array Bool := #[T,T,T,T,T,T,T,T,T,T,T,T,T,T,T,T,T,T,T,T,T,T,T,T,T,T,F,F,F,F,F,F,F,F,F,F,F]
abbrev spec_HuffRead.m27 : Array Bool := #[T,T,T,T,T,T,T,T,T,T,T,T,T,T,T,T,T,T,T,T,T,T,T,T,T,T,T,F,F,F,F,F,F,F,F,F,F]
abbrev spec_HuffRead.m28 : Array Bool := #[T,T,T,T,T,T,T,T,T,T,T,T,T,T,T,T,T,T,T,T,T,T,T,T,T,T,T,T,F,F,F,F,F,F,F,F,F]
abbrev spec_HuffRead.m29 : Array Bool := #[T,T,T,T,T,T,T,T,T,T,T,T,T,T,T,T,T,T,T,T,T,T,T,T,T,T,T,T,T,F,F,F,F,F,F,F,F]
abbrev spec_HuffRead.m30 : Array Bool := #[T,T,T,T,T,T,T,T,T,T,T,T,T,T,T,T,T,T,T,T,T,T,T,T,T,T,T,T,T,T,F,F,F,F,F,F,F]
abbrev spec_HuffRead.m31 : Array Bool := #[T,T,T,T,T,T,T,T,T,T,T,T,T,T,T,T,T,T,T,T,T,T,T,T,T,T,T,T,T,T,T,F,F,F,F,F,F]
abbrev spec_HuffRead.m32 : Array Bool := #[T,T,T,T,T,T,T,T,T,T,T,T,T,T,T,T,T,T,T,T,T,T,T,T,T,T,T,T,T,T,T,T,F,F,F,F,F]
abbrev spec_HuffRead.m33 : Array Bool := #[T,T,T,T,T,T,T,T,T,T,T,T,T,T,T,T,T,T,T,T,T,T,T,T,T,T,T,T,T,T,T,T,T,F,F,F,F]
abbrev spec_HuffRead.m34 : Array Bool := #[T,T,T,T,T,T,T,T,T,T,T,T,T,T,T,T,T,T,T,T,T,T,T,T,T,T,T,T,T,T,T,T,T,T,F,F,F]
abbrev spec_HuffRead.m35 : Array Bool := #[T,T,T,T,T,T,T,T,T,T,T,T,T,T,T,T,T,T,T,T,T,T,T,T,T,T,T,T,T,T,T,T,T,T,T,F,F]
abbrev spec_HuffRead.m36 : Array Bool := #[T,T,T,T,T,T,T,T,T,T,T,T,T,T,T,T,T,T,T,T,T,T,T,T,T,T,T,T,T,T,T,T,T,T,T,T,F]
abbrev spec_HuffRead.m37 : Array Bool := #[T,T,T,T,T,T,T,T,T,T,T,T,T,T,T,T,T,T,T,T,T,T,T,T,T,T,T,T,T,T,T,T,T,T,T,T,T]
abbrev spec_HuffRead.m38 : Array Bool := #[T,T,T,T,T,T,T,T,T,T,F,F,T,F,F,F,F,F,F,F,F,F,F,F,F,F,F,F,F,F,F,F,F,F,F,F,F]
abbrev spec_HuffRead.m39 : Array Bool := #[T,T,T,T,T,T,T,T,T,T,F,F,T,T,F,F,F,F,F,F,F,F,F,F,F,F,F,F,F,F,F,F,F,F,F,F,F]
abbrev spec_HuffRead.m40 : Array Bool := #[T,T,T,T,T,T,T,T,T,T,T,F,T,T,F,F,F,F,F,F,F,F,F,F,F,F,F,F,F,F,F,F,F,F,F,F,F]
abbrev spec_HuffRead.m41 : Array Bool := #[T,T,T,T,T,T,T,T,T,T,T,T,T,T,T,T,T,T,T,T,F,T,F,F,F,F,F,F,F,F,F,F,F,F,F,F,F]
abbrev spec_HuffRead.m42 : Array Bool := #[T,T,T,T,T,T,T,T,T,T,T,T,T,T,T,T,T,T,T,T,F,T,T,F,F,F,F,F,F,F,F,F,F,F,F,F,F]
abbrev spec_HuffRead.m43 : Array Bool := #[T,T,T,T,T,T,T,T,T,T,T,T,T,T,T,T,T,T,T,T,F,T,T,T,F,F,F,F,F,F,F,F,F,F,F,F,F]
abbrev spec_HuffRead.m44 : Array Bool := #[T,T,T,T,T,T,T,T,T,T,T,T,T,T,T,T,T,T,T,T,F,T,T,T,F,F,T,F,F,F,F,F,F,F,F,F,F]
abbrev spec_HuffRead.m45 : Array Bool := #[T,T,T,T,T,T,T,T,T,T,T,T,T,T,T,T,T,T,T,T,F,T,T,T,F,F,T,T,F,F,F,F,F,F,F,F,F]
abbrev spec_HuffRead.m46 : Array Bool := #[T,T,T,T,T,T,T,T,T,T,T,T,T,T,T,T,T,T,T,T,F,T,T,T,F,F,T,T,T,F,F,F,F,F,F,F,F]
abbrev spec_HuffRead.m47 : Array Bool := #[T,T,T,T,T,T,T,T,T,T,T,T,T,T,T,T,T,T,T,T,F,T,T,T,F,F,T,T,T,T,F,F,F,F,F,F,F]
abbrev spec_HuffRead.m48 : Array Bool := #[T,T,T,T,T,T,T,T,T,T,T,T,T,T,T,T,T,T,T,T,F,T,T,T,F,F,T,T,T,T,T,F,F,F,F,F,F]
abbrev spec_HuffRead.m49 : Array Bool := #[T,T,T,T,T,T,T,T,T,T,T,T,T,T,T,T,T,T,T,T,F,T,T,T,F,F,T,T,T,T,T,T,F,F,F,F,F]
abbrev spec_HuffRead.m50 : Array Bool := #[T,T,T,T,T,T,T,T,T,T,T,T,T,T,T,T,T,T,T,T,T,T,T,T,F,F,T,T,T,T,T,T,F,F,F,F,F]
abbrev spec_HuffRead.m51 : Array Bool := #[T,T,T,T,T,T,T,T,T,T,T,T,T,T,T,T,T,T,T,T,T,T,T,T,T,F,T,T,T,T,T,T,F,F,F,F,F]
abbrev spec_HuffRead.m52 : Array Bool := #[T,T,T,T,T,T,T,T,T,T,T,T,T,T,T,T,T,T,T,T,T,T,T,T,T,F,T,T,T,T,T,T,T,F,F,F,F]
abbrev spec_HuffRead.m53 : Array Bool := #[T,T,T,T,T,T,T,T,T,T,T,T,T,T,T,T,T,T,T,T,T,T,T,T,T,F,T,T,T,T,T,T,T,T,F,F,F]
abbrev spec_HuffRead.m54 : Array Bool := #[T,T,T,T,T,T,T,T,T,T,T,T,T,T,T,T,T,T,T,T,T,T,T,T,T,F,T,T,T,T,T,T,T,T,T,F,F]
set_option maxHeartbeats 8000000 in
set_option maxRecDepth 100000 in
theorem spec_HuffRead.calls (k : Nat) (a0_0 : Int) (A0_1 : Option Addr) (c0_1 : Nat) (l0_1 : List Int) (A1 : Option Addr) (c1 : Nat) (l1 : List Int) (a2 : Int) (r1 : List Int) (r2 : Bool) (w : World) (hr0_1 : Kd.C (Kd.int .u64) w A0_1 l0_1.length l0_1) (hc0_1 : l0_1.length ≤ c0_1) (hr1 : Kd.C (Kd.int .i64) w A1 l1.length l1) (hc1 : l1.length ≤ c1) (h : spec_HuffRead.f k a0_0 l0_1 l1 a2 = some (r1, r2)) :
  Calls Try.prog 28 #[.agg #[.int .i64 a0_0, .slice A0_1 l0_1.length c0_1], .slice A1 l1.length c1, .int .i64 a2] w fun e w' => ∃ v0_ : Value, e = .returned (.tuple #[v0_, .bool r2]) ∧ Kd.R (Kd.int .i64) 3 w' w.heap.size (fun _ => True) v0_ r1 ∧ Below w.heap.size w w' := by
 have hu30:=Try.underlying30
 have HR0_1:=mk0 hr0_1
 have HC0_1:=mk0 hc0_1
 clear hr0_1 hc0_1
 have HR1:=mk0 hr1
 have HC1:=mk0 hc1
 clear hr1 hc1
 have HB:=mk0 (Below.refl w.heap.size w)
 have H:((spec_BitsOk.f k a0_0 l0_1).bind fun t178=>(if t178 = true then ((spec_HuffOk.f k l1).bind fun t179=>(if t179 = true then (spec_HuffRead.j0 k l1 a2 (decide (a2 < 0)) a0_0 l0_1) else (spec_HuffRead.j0 k l1 a2 true a0_0 l0_1))) else (spec_HuffRead.j0 k l1 a2 true a0_0 l0_1))) = some (r1,r2):=h
 clear h
 have HC4:=mk0 H
 clear H
 go_enter Try.func28,Try.ntmps28
 go_upto_region 1 with (first|((with_reducible refine gate_dst (N:=3) rfl ?_);(try (refine gate_guard (by rfl) ?_;dsimp only));refine box_event ?hg (N:=3) ?hd (cs:=#[.int .i64 a0_0,.slice A0_1 l0_1.length c0_1]) (t:=30) ?hr ?_;(case hd=>rfl);(case hg=>rfl);(case hr=>first|(go_simp;done)|(go_simp;rfl));intro gb177 hg w5 hbox hb;have BK177:=mk0 (hbox);have GW177:=mk0 ((by rw [hg];exact (kZ HB.out):w.heap.size ≤ gb177));have GE177:=mk0 ((by rw [hg];exact (kZ HB.out):w.heap.size ≤ gb177));replace HB:=mk0 (kS HB.out hb);clear hb hbox hg))
 (try simp only [Act.put,sA,sO,sS])
 go_cut [25] (fun v25 wc=>∃ (kq:Nat) (x25_3:Bool),v25 = .bool x25_3 ∧ Aside0 (spec_HuffRead.j0 kq l1 a2 x25_3 a0_0 l0_1 = some (r1,r2)) ∧ Aside0 (kq ≤ k) ∧ Aside0 (wc.heap[gb177]? = some (.cells #[.int .i64 a0_0,(.slice A0_1 l0_1.length c0_1)] 30 (0,0))) ∧ Aside0 (Below w.heap.size w wc))
 case first =>
  have H:=HC4.out
  clear HC4
  replace H:=Option.bind_eq_some_iff.mp H
  obtain⟨t178,A60,H⟩:=H
  replace H:(if t178 = true then ((spec_HuffOk.f k l1).bind fun t179=>(if t179 = true then (spec_HuffRead.j0 k l1 a2 (decide (a2 < 0)) a0_0 l0_1) else (spec_HuffRead.j0 k l1 a2 true a0_0 l0_1))) else (spec_HuffRead.j0 k l1 a2 true a0_0 l0_1)) = some (r1,r2):=H
  have A6:=mk0 A60
  clear A60
  by_cases c7:t178 = true
  rotate_left
  ·replace c7:=Bool.eq_false_iff.mpr c7
   subst c7
   have H1:(spec_HuffRead.j0 k l1 a2 true a0_0 l0_1) = some (r1,r2):=by rw [if_neg (show ¬ (false = true) by decide)] at H;exact H
   clear H
   have H:=H1
   clear H1
   have H':=mk0 H
   clear H
   obtain⟨hcz14_0,hcz14_1,hfz14_0,hfz14_1⟩:=cz2 BK177.out
   go_wp2_with (first|((with_reducible refine gate_callee (f:=58) rfl ?_);refine goesL_ (some 15) rfl rfl Try.func58 (by kernel_rfl) rfl #[.agg #[.int .i64 a0_0,.slice A0_1 l0_1.length c0_1]] rfl (by (try simp only [mA,mC,mN]);first|done|rfl|(simp only [List.length_drop,List.length_take];done)|(simp only [List.length_drop,List.length_take];rfl)) ?_;(with_reducible refine (spec_BitsOk.calls k a0_0 _ _ l0_1 false _ ?side1 ?side2 A6.out).mono ?_);(case side1=>exact kC (Kd.C_below HR0_1.out HB.out));(case side2=>exact HC0_1.out);rintro e w15 ⟨rfl,hb⟩;refine⟨_,rfl,?_⟩;replace BK177:=mk0 (kK BK177.out hb);replace HB:=mk0 (kS HB.out hb);(try clear hb)))
   go_meet
   case rel=>exact⟨_,(true),(by first|rfl|(simp;done)|(simp [*];done)),H',⟨by first|omega|exact Nat.le_refl _⟩,⟨kN BK177.out⟩,⟨kB HB.out⟩⟩
  subst c7
  have H1:((spec_HuffOk.f k l1).bind fun t179=>(if t179 = true then (spec_HuffRead.j0 k l1 a2 (decide (a2 < 0)) a0_0 l0_1) else (spec_HuffRead.j0 k l1 a2 true a0_0 l0_1))) = some (r1,r2):=by rw [if_pos rfl] at H;exact H
  clear H
  have H:=H1
  clear H1
  replace H:=Option.bind_eq_some_iff.mp H
  obtain⟨t179,A80,H⟩:=H
  replace H:(if t179 = true then (spec_HuffRead.j0 k l1 a2 (decide (a2 < 0)) a0_0 l0_1) else (spec_HuffRead.j0 k l1 a2 true a0_0 l0_1)) = some (r1,r2):=H
  have A8:=mk0 A80
  clear A80
  by_cases c9:t179 = true
  ·subst c9
   have H1:(spec_HuffRead.j0 k l1 a2 (decide (a2 < 0)) a0_0 l0_1) = some (r1,r2):=by rw [if_pos rfl] at H;exact H
   clear H
   have H:=H1
   clear H1
   have H':=mk0 H
   clear H
   obtain⟨hcz10_0,hcz10_1,hfz10_0,hfz10_1⟩:=cz2 BK177.out
   go_wp2_with (first|((with_reducible refine gate_callee (f:=58) rfl ?_);refine goesL_ (some 15) rfl rfl Try.func58 (by kernel_rfl) rfl #[.agg #[.int .i64 a0_0,.slice A0_1 l0_1.length c0_1]] rfl (by (try simp only [mA,mC,mN]);first|done|rfl|(simp only [List.length_drop,List.length_take];done)|(simp only [List.length_drop,List.length_take];rfl)) ?_;(with_reducible refine (spec_BitsOk.calls k a0_0 _ _ l0_1 true _ ?side1 ?side2 A6.out).mono ?_);(case side1=>exact kC (Kd.C_below HR0_1.out HB.out));(case side2=>exact HC0_1.out);rintro e w11 ⟨rfl,hb⟩;refine⟨_,rfl,?_⟩;replace BK177:=mk0 (kK BK177.out hb);replace HB:=mk0 (kS HB.out hb);(try clear hb))|(go_at_call 11;(with_reducible refine (spec_HuffOk.calls k _ _ l1 true _ ?side1 ?side2 A8.out).mono ?_);(case side1=>exact kC (Kd.C_below HR1.out HB.out));(case side2=>exact HC1.out);rintro e w' ⟨rfl,⟨nd,rfl⟩⟩))
   go_meet
   case rel=>exact⟨_,(decide (a2 < 0)),(by first|rfl|(simp;done)|(simp [*];done)),H',⟨by first|omega|exact Nat.le_refl _⟩,⟨kN BK177.out⟩,⟨kB HB.out⟩⟩
  replace c9:=Bool.eq_false_iff.mpr c9
  subst c9
  have H1:(spec_HuffRead.j0 k l1 a2 true a0_0 l0_1) = some (r1,r2):=by rw [if_neg (show ¬ (false = true) by decide)] at H;exact H
  clear H
  have H:=H1
  clear H1
  have H':=mk0 H
  clear H
  obtain⟨hcz12_0,hcz12_1,hfz12_0,hfz12_1⟩:=cz2 BK177.out
  go_wp2_with (first|((with_reducible refine gate_callee (f:=58) rfl ?_);refine goesL_ (some 15) rfl rfl Try.func58 (by kernel_rfl) rfl #[.agg #[.int .i64 a0_0,.slice A0_1 l0_1.length c0_1]] rfl (by (try simp only [mA,mC,mN]);first|done|rfl|(simp only [List.length_drop,List.length_take];done)|(simp only [List.length_drop,List.length_take];rfl)) ?_;(with_reducible refine (spec_BitsOk.calls k a0_0 _ _ l0_1 true _ ?side1 ?side2 A6.out).mono ?_);(case side1=>exact kC (Kd.C_below HR0_1.out HB.out));(case side2=>exact HC0_1.out);rintro e w13 ⟨rfl,hb⟩;refine⟨_,rfl,?_⟩;replace BK177:=mk0 (kK BK177.out hb);replace HB:=mk0 (kS HB.out hb);(try clear hb))|(go_at_call 11;(with_reducible refine (spec_HuffOk.calls k _ _ l1 false _ ?side1 ?side2 A8.out).mono ?_);(case side1=>exact kC (Kd.C_below HR1.out HB.out));(case side2=>exact HC1.out);rintro e w' ⟨rfl,⟨nd,rfl⟩⟩))
  go_meet
  case rel=>exact⟨_,(true),(by first|rfl|(simp;done)|(simp [*];done)),H',⟨by first|omega|exact Nat.le_refl _⟩,⟨kN BK177.out⟩,⟨kB HB.out⟩⟩
 case rest =>
  clear HC4
  try clear c1
  try clear c2
  try clear p2
  try clear c5
  try clear c7
  try clear c9
  try clear hcz10_0
  try clear hcz10_1
  try clear hcz12_0
  try clear hcz12_1
  try clear hcz14_0
  try clear hcz14_1
  try clear hfz10_0
  try clear hfz10_1
  try clear hfz12_0
  try clear hfz12_1
  try clear hfz14_0
  try clear hfz14_1
  obtain⟨kq,x25_3,rfl,HA,HJ3,BK177,HB⟩:=hcut
  cases kq with
  | zero=>exact absurd HA.out (by simp [spec_HuffRead.j0])
  | succ kj3 =>
   have H:=HA.out
   clear HA
   simp only [spec_HuffRead.j0] at H
   by_cases c16:x25_3 = true
   ·subst c16
    have H1:(some (([]:List Int),false)) = some (r1,r2):=by rw [if_pos rfl] at H;exact H
    clear H
    have H:=H1
    clear H1
    simp only [Option.some.injEq,Prod.mk.injEq] at H
    obtain⟨rfl,rfl⟩:=H
    go_wp2
    go_ret2
    exact⟨_,by first|rfl|(simp [errW_none,errW_some] <;> rfl)|(simp [*,errW_none,errW_some] <;> rfl),by first|exact Kd.R_nil _ _ _ _ _|exact Kd.N_nil _ _ _ _ _|exact Kd.V_nil _ _ _ _ _|exact Kd.Q_nil _ _ _ _ _|exact Kd.S_nil _ _ _ _ _,kB HB.out⟩
   replace c16:=Bool.eq_false_iff.mpr c16
   subst c16
   have H1:((spec_l01List.f kj3 a0_0 l0_1).bind fun t180=>((spec_HuffCodes.f kj3 l1).bind fun t183=>(spec_HuffRead.l0 kj3 l1 a2 (([]:List Int)) 0 t180 t183))) = some (r1,r2):=by rw [if_neg (show ¬ (false = true) by decide)] at H;exact H
   clear H
   have H:=H1
   clear H1
   replace H:=Option.bind_eq_some_iff.mp H
   obtain⟨t180,A170,H⟩:=H
   replace H:((spec_HuffCodes.f kj3 l1).bind fun t183=>(spec_HuffRead.l0 kj3 l1 a2 (([]:List Int)) 0 t180 t183)) = some (r1,r2):=H
   have A17:=mk0 A170
   clear A170
   replace H:=Option.bind_eq_some_iff.mp H
   obtain⟨t183,A180,H⟩:=H
   replace H:(spec_HuffRead.l0 kj3 l1 a2 (([]:List Int)) 0 t180 t183) = some (r1,r2):=H
   have A18:=mk0 A180
   clear A180
   obtain⟨y186,hy186⟩:∃ y_:List Int,y_ = (([]:List Int)):=⟨_,rfl⟩
   replace H:(spec_HuffRead.l0 kj3 l1 a2 y186 0 t180 t183) = some (r1,r2):=by first|(rw [hy186];with_reducible exact H)|(have H2_:=(Option.bind_some _ _).symm.trans H;rw [hy186];with_reducible exact H2_)|(have H2_:=(Option.bind_some _ _).symm.trans H;with_reducible exact H2_)|with_reducible exact H|(rw [hy186];exact H)|exact H
   have Ny186:=mk0 hy186
   clear hy186
   have H':=mk0 H
   clear H
   obtain⟨hcz19_0,hcz19_1,hfz19_0,hfz19_1⟩:=cz2 BK177.out
   go_wp2_with (first|((with_reducible refine gate_callee (f:=59) rfl ?_);refine goesL_ (some 27) rfl rfl Try.func59 (by kernel_rfl) rfl #[.agg #[.int .i64 a0_0,.slice A0_1 l0_1.length c0_1]] rfl (by (try simp only [mA,mC,mN]);first|done|rfl|(simp only [List.length_drop,List.length_take];done)|(simp only [List.length_drop,List.length_take];rfl)) ?_;(with_reducible refine (spec_l01List.calls kj3 a0_0 _ _ l0_1 t180 _ ?side1 ?side2 A17.out).mono ?_);(case side1=>exact kC (Kd.C_below HR0_1.out HB.out));(case side2=>exact HC0_1.out);rintro e w20 ⟨v181,rfl,ho0,hb⟩;refine⟨_,rfl,?_⟩;have HO182:=mk0 (Kd.R_lower ho0 (kZ HB.out));replace BK177:=mk0 (kK BK177.out hb);replace HB:=mk0 (kS HB.out hb);(try clear hb);(try clear ho0))|((with_reducible refine gate_callee (f:=38) rfl ?_);refine goesL_ (some 29) rfl rfl Try.func38 (by kernel_rfl) rfl #[.slice A1 l1.length c1] rfl (by (try simp only [mA,mC,mN]);first|done|rfl|(simp only [List.length_drop,List.length_take];done)|(simp only [List.length_drop,List.length_take];rfl)) ?_;(with_reducible refine (spec_HuffCodes.calls kj3 _ _ l1 t183 _ ?side1 ?side2 A18.out).mono ?_);(case side1=>exact kC (Kd.C_below HR1.out HB.out));(case side2=>exact HC1.out);rintro e w21 ⟨v184,rfl,ho0,hb⟩;refine⟨_,rfl,?_⟩;have HO185:=mk0 (Kd.R_lower (Kd.R_new' ho0 (Kd.R_lt (rR HO182.out))) (kZ HB.out));replace HO182:=mk0 (Kd.R_elder' (rR HO182.out) (Kd.R_base ho0) hb);replace BK177:=mk0 (kK BK177.out hb);replace HB:=mk0 (kS HB.out hb);(try clear hb);(try clear ho0))|((with_reducible refine gate_dst (N:=30) rfl ?_);(try (refine gate_guard (by rfl) ?_;dsimp only));refine Kd.R_lit (Kd.int .i64) _ 3 ?hg (N:=30) ?hd (xs:=([]:List Int)) (inner:=[]) (ok:=fun _=>True) (okp:=fun _=>True) ?hr ?hp (fun _ hk=>hk) trivial (Below.refl _ _) (Nat.le_refl _) (by simp) ?_;(case hd=>rfl);(case hg=>rfl);(case hr=>first|(go_simp;done)|(go_simp;rfl));(case hp=>exact (Reps.none _ _));intro v187 w22 ho23 hb hg_ hnew_;clear hg_ hnew_;(first|rw [← Ny186.out] at ho23|(simp only [Int.reduceToNat] at ho23;rw [← Ny186.out] at ho23));have HO188:=mk0 (Kd.R_lower (Kd.R_new' (Kd.R_new' ho23 (Kd.R_lt (rR HO182.out))) (Kd.R_lt (rR HO185.out))) (kZ HB.out));replace HO182:=mk0 (Kd.R_elder' (rR HO182.out) (Kd.R_base ho23) hb);replace HO185:=mk0 (Kd.R_elder' (rR HO185.out) (Kd.R_base ho23) hb);replace BK177:=mk0 (kK BK177.out hb);replace HB:=mk0 (kS HB.out hb);clear hb ho23))
   go_loopg [10,11] kj3 (fun kq v10 v11 w'=>∃ (x10_2:List Int) (x11_2:Int),v11 = .int .i64 x11_2 ∧ Aside0 (spec_HuffRead.l0 kq l1 a2 x10_2 x11_2 t180 t183 = some (r1,r2)) ∧ Aside0 (kq ≤ kj3) ∧ Aside0 (Kd.R (Kd.int .i64) 3 w' w.heap.size (fun k_=>some k_ ≠ (v181:Value).ownBlock ∧ some k_ ≠ (v184:Value).ownBlock) v10 x10_2) ∧ Aside0 (Kd.R (Kd.int .i64) 3 w' w.heap.size (fun k_=>some k_ ≠ (v10:Value).ownBlock ∧ some k_ ≠ (v184:Value).ownBlock) v181 t180) ∧ Aside0 (Kd.R (Kd.int .i64) 3 w' w.heap.size (fun k_=>some k_ ≠ (v10:Value).ownBlock ∧ some k_ ≠ (v181:Value).ownBlock) v184 t183) ∧ Aside0 (w'.heap[gb177]? = some (.cells #[.int .i64 a0_0,(.slice A0_1 l0_1.length c0_1)] 30 (0,0))) ∧ Aside0 (Below w.heap.size w w'))
   case atStart=>exact⟨(y186),(0),(by first|rfl|(simp;done)|(simp [*];done)),H',⟨Nat.le_refl _⟩,⟨by (with_reducible repeat (first|apply aR|apply nR|apply dR));exact Kd.R_mono HO188.out (by first|exact fun _ hk=>⟨hk.1.2,hk.2⟩|(intro k_ hk;simp only [hk,ne_eq,and_self,not_false_eq_true]))⟩,⟨by (with_reducible repeat (first|apply aR|apply nR|apply dR));exact Kd.R_mono HO182.out (by first|exact fun _ hk=>⟨hk.2,hk.1.2⟩|(intro k_ hk;simp only [hk,ne_eq,and_self,not_false_eq_true]))⟩,⟨by (with_reducible repeat (first|apply aR|apply nR|apply dR));exact Kd.R_mono HO185.out (by first|exact fun _ hk=>⟨hk.2,hk.1.2⟩|(intro k_ hk;simp only [hk,ne_eq,and_self,not_false_eq_true]))⟩,⟨kN BK177.out⟩,⟨kB HB.out⟩⟩
   case round =>
    clear H'
    try clear c1
    try clear c2
    try clear p2
    try clear c3
    try clear c5
    try clear c7
    try clear c9
    try clear c16
    try clear hcz10_0
    try clear hcz10_1
    try clear hcz12_0
    try clear hcz12_1
    try clear hcz14_0
    try clear hcz14_1
    try clear hcz19_0
    try clear hcz19_1
    try clear hfz10_0
    try clear hfz10_1
    try clear hfz12_0
    try clear hfz12_1
    try clear hfz14_0
    try clear hfz14_1
    try clear hfz19_0
    try clear hfz19_1
    try clear p2
    obtain⟨x10_2,x11_2,rfl,HA,HK2,HO_10,HO_27,HO_29,BK177,HB⟩:=hrel
    cases gk with
    | zero=>exact absurd HA.out (by simp [spec_HuffRead.l0])
    | succ k2 =>
     have H:=HA.out
     clear HA
     simp only [spec_HuffRead.l0] at H
     by_cases c24:x11_2 < (t180.length:Int)
     rotate_left
     ·rw [if_neg c24] at H
      have c24b0:decide (x11_2 < (t180.length:Int)) = false:=decide_eq_false c24
      clear c24
      by_cases c50:(x10_2.length:Int) = a2
      rotate_left
      ·rw [if_neg c50] at H
       have c50b0:((x10_2.length:Int) == a2) = false:=beq_eq_false_iff_ne.mpr c50
       have c50b1:((x10_2.length:Int) != a2) = true:=bne_iff_ne.mpr c50
       simp only [Option.some.injEq,Prod.mk.injEq] at H
       obtain⟨rfl,rfl⟩:=H
       obtain⟨Ao53,co53,eo53⟩:=Kd.R_slice HO_27.out
       subst eo53
       obtain⟨Ao54,co54,eo54⟩:=Kd.R_slice HO_10.out
       subst eo54
       go_wp2
       go_ret2
       exact⟨_,by first|rfl|(simp [errW_none,errW_some] <;> rfl)|(simp [*,errW_none,errW_some] <;> rfl),by first|exact Kd.R_nil _ _ _ _ _|exact Kd.N_nil _ _ _ _ _|exact Kd.V_nil _ _ _ _ _|exact Kd.Q_nil _ _ _ _ _|exact Kd.S_nil _ _ _ _ _,kB HB.out⟩

      rw [if_pos c50] at H
      have c50b0:((x10_2.length:Int) == a2) = true:=beq_iff_eq.mpr c50
      have c50b1:((x10_2.length:Int) != a2) = false:=bne_eq_false_iff_eq.mpr c50
      clear c50
      simp only [Option.some.injEq,Prod.mk.injEq] at H
      obtain⟨rfl,rfl⟩:=H
      obtain⟨Ao51,co51,eo51⟩:=Kd.R_slice HO_27.out
      subst eo51
      obtain⟨Ao52,co52,eo52⟩:=Kd.R_slice HO_10.out
      subst eo52
      go_wp2
      go_ret2
      exact⟨_,by first|rfl|(simp [errW_none,errW_some] <;> rfl)|(simp [*,errW_none,errW_some] <;> rfl),rR (Kd.R_mono HO_10.out (fun _ hk=>trivial)),kB HB.out⟩
     rw [if_pos c24] at H
     have c24b0:decide (x11_2 < (t180.length:Int)) = true:=decide_eq_true c24
     clear c24
     have H':=mk0 H
     clear H
     obtain⟨Ao25,co25,eo25⟩:=Kd.R_slice HO_27.out
     subst eo25
     go_wp2
     go_loopg [12,13] k2 (fun kq v12 v13 w'=>∃ (x12_3:Int) (x13_3:Int),v12 = .int .i64 x12_3 ∧ v13 = .int .i64 x13_3 ∧ Aside0 (spec_HuffRead.l1 kq l1 a2 x10_2 x11_2 x12_3 x13_3 t180 t183 = some (r1,r2)) ∧ Aside0 (kq ≤ k2) ∧ Aside0 (Kd.R (Kd.int .i64) 3 w' w.heap.size (fun k_=>some k_ ≠ ((.slice Ao25 t180.length co25):Value).ownBlock ∧ some k_ ≠ (v184:Value).ownBlock) u10 x10_2) ∧ Aside0 (Kd.R (Kd.int .i64) 3 w' w.heap.size (fun k_=>some k_ ≠ (u10:Value).ownBlock ∧ some k_ ≠ (v184:Value).ownBlock) (.slice Ao25 t180.length co25) t180) ∧ Aside0 (Kd.R (Kd.int .i64) 3 w' w.heap.size (fun k_=>some k_ ≠ (u10:Value).ownBlock ∧ some k_ ≠ ((.slice Ao25 t180.length co25):Value).ownBlock) v184 t183) ∧ Aside0 (w'.heap[gb177]? = some (.cells #[.int .i64 a0_0,(.slice A0_1 l0_1.length c0_1)] 30 (0,0))) ∧ Aside0 (Below w.heap.size w w'))
     case atStart=>exact⟨((-1)),(0),(by first|rfl|(simp;done)|(simp [*];done)),(by first|rfl|(simp;done)|(simp [*];done)),H',⟨Nat.le_refl _⟩,⟨rR HO_10.out⟩,⟨rR HO_27.out⟩,⟨rR HO_29.out⟩,⟨kN BK177.out⟩,⟨kB HB.out⟩⟩
     case round =>
      clear H'
      try clear c1
      try clear c2
      try clear p2
      try clear c3
      try clear c5
      try clear c7
      try clear c9
      try clear c16
      try clear c24
      try clear c24b0
      try clear hcz10_0
      try clear hcz10_1
      try clear hcz12_0
      try clear hcz12_1
      try clear hcz14_0
      try clear hcz14_1
      try clear hcz19_0
      try clear hcz19_1
      try clear hfz10_0
      try clear hfz10_1
      try clear hfz12_0
      try clear hfz12_1
      try clear hfz14_0
      try clear hfz14_1
      try clear hfz19_0
      try clear hfz19_1
      try clear p2
      obtain⟨x12_3,x13_3,rfl,rfl,HA,HK3,HO_10,HO_27,HO_29,BK177,HB⟩:=hrel
      cases gk with
      | zero=>exact absurd HA.out (by simp [spec_HuffRead.l1])
      | succ k3 =>
       have H:=HA.out
       clear HA
       simp only [spec_HuffRead.l1] at H
       by_cases c26:x13_3 < (l1.length:Int)
       rotate_left
       ·rw [if_neg c26] at H
        have c26b0:decide (x13_3 < (l1.length:Int)) = false:=decide_eq_false c26
        clear c26
        by_cases c45:x12_3 < 0
        ·rw [if_pos c45] at H
         have c45b0:decide (x12_3 < 0) = true:=decide_eq_true c45
         clear c45
         simp only [Option.some.injEq,Prod.mk.injEq] at H
         obtain⟨rfl,rfl⟩:=H
         go_wp2
         go_ret2
         exact⟨_,by first|rfl|(simp [errW_none,errW_some] <;> rfl)|(simp [*,errW_none,errW_some] <;> rfl),by first|exact Kd.R_nil _ _ _ _ _|exact Kd.N_nil _ _ _ _ _|exact Kd.V_nil _ _ _ _ _|exact Kd.Q_nil _ _ _ _ _|exact Kd.S_nil _ _ _ _ _,kB HB.out⟩
        rw [if_neg c45] at H
        have c45b0:decide (x12_3 < 0) = false:=decide_eq_false c45
        clear c45
        by_cases c46:x10_2.length < 17592186044416
        rotate_left
        ·rw [if_neg c46] at H
         exact absurd H (by simp)
        rw [if_pos c46] at H
        have LMc46:=mk0 c46
        clear c46
        obtain⟨y202,hy202⟩:∃ y_:List Int,y_ = (x10_2 ++ [x12_3]):=⟨_,rfl⟩
        replace H:(if 0 ≤ x12_3 then (if x12_3 < (l1.length:Int) then (spec_HuffRead.l0 k3 l1 a2 y202 (wrap64 (x11_2 + (rd l1 x12_3))) t180 t183) else (none)) else (none)) = some (r1,r2):=by first|(rw [hy202];with_reducible exact H)|(have H2_:=(Option.bind_some _ _).symm.trans H;rw [hy202];with_reducible exact H2_)|(have H2_:=(Option.bind_some _ _).symm.trans H;with_reducible exact H2_)|with_reducible exact H|(rw [hy202];exact H)|exact H
        have Ny202:=mk0 hy202
        clear hy202
        by_cases c47:0 ≤ x12_3
        rotate_left
        ·rw [if_neg c47] at H
         exact absurd H (by simp)
        rw [if_pos c47] at H
        have c47b0:decide (0 ≤ x12_3) = true:=decide_eq_true c47
        clear c47
        by_cases c48:x12_3 < (l1.length:Int)
        rotate_left
        ·rw [if_neg c48] at H
         exact absurd H (by simp)
        rw [if_pos c48] at H
        have c48b0:decide (x12_3 < (l1.length:Int)) = true:=decide_eq_true c48
        clear c48
        have H':=mk0 H
        clear H
        go_wp2_with (first|((with_reducible refine gate_builtin (b:=.append) (xs:=#[.tmp 81,.tmp 83]) rfl ?_);(try (refine gate_guard (by rfl) ?_;dsimp only));at_builtin;refine Kd.R_append (Kd.int .i64) (w0:=w) w.heap.size rfl (.tmp 81) (.tmp 83) 24 3 (.int .i64 0) 8 rfl Try.underlying24 info3 rfl (by decide) (by omega) u10 x10_2 x12_3 [.int .i64 x12_3] (fun k_=>some k_ ≠ (.slice Ao25 t180.length co25:Value).ownBlock ∧ some k_ ≠ (v184:Value).ownBlock) (fun _=>False) rfl rfl ?aP (fun _ hk=>hk.elim) ?aF ?aO ?aB ?aS ?aL ?_;(case aP=>exact rfl);(case aB=>exact (kB HB.out));(case aF=>exact (fun k_ hk=>⟨Kd.fresh' (Kd.R_lt (rR HO_27.out)) k_ hk,Kd.fresh' (Kd.R_lt (rR HO_29.out)) k_ hk⟩));(case aO=>exact (rR HO_10.out));(case aS=>exact (kZ HB.out));(case aL=>have:=LMc46.out;omega);intro v203 w49 ho hb hg hat;rw [← Ny202.out] at ho;replace HO_27:=mk0 (Kd.R_after (ok:=(fun k_=>some k_ ≠ (v184:Value).ownBlock)) (by (with_reducible repeat (first|apply aR|apply nR|apply dR));exact Kd.R_mono HO_27.out (by first|exact fun _ hk=>⟨hk.2,hk.1⟩|(intro k_ hk;simp only [hk,ne_eq,and_self,not_false_eq_true]))) hg hat);replace HO_29:=mk0 (Kd.R_after (ok:=(fun k_=>some k_ ≠ (.slice Ao25 t180.length co25:Value).ownBlock)) (by (with_reducible repeat (first|apply aR|apply nR|apply dR));exact Kd.R_mono HO_29.out (by first|exact fun _ hk=>⟨hk.2,hk.1⟩|(intro k_ hk;simp only [hk,ne_eq,and_self,not_false_eq_true]))) hg hat);replace BK177:=mk0 (blk_grown (kN BK177.out) hg (Kd.R_ne HO_10.out BK177.out (by decide)));replace HB:=mk0 (hb);have HO204:=mk0 (ho);clear HO_10 ho hb hg hat;have p205:0 ≤ (x12_3:Int):=of_decide_eq_true (by first|(with_reducible assumption)|assumption);have q205:x12_3 < (l1.length:Int):=of_decide_eq_true (by first|(with_reducible assumption)|assumption);obtain⟨ad205,e205,hx205_0⟩:=Kd.at_int HR1.out x12_3 p205 q205;cases e205;replace hx205_0:=(HB.out.cell (World.block_lt_of_cell? w _ hx205_0)).trans hx205_0;replace p205:=eq_true p205;replace q205:=eq_true q205))
        go_roundg k3
        case measure=>have:=HJ3.out;have:=HK2.out;have:=HK3.out;omega
        case rel=>exact⟨(y202),(wrap64 (x11_2 + (rd l1 x12_3))),(by first|rfl|(simp;done)|(simp [*];done)),H',⟨by have:=HJ3.out;have:=HK2.out;have:=HK3.out;omega⟩,⟨rR HO204.out⟩,⟨by (with_reducible repeat (first|apply aR|apply nR|apply dR));exact Kd.R_mono HO_27.out (by first|exact fun _ hk=>⟨hk.2,hk.1⟩|(intro k_ hk;simp only [hk,ne_eq,and_self,not_false_eq_true]))⟩,⟨by (with_reducible repeat (first|apply aR|apply nR|apply dR));exact Kd.R_mono HO_29.out (by first|exact fun _ hk=>⟨hk.2,hk.1⟩|(intro k_ hk;simp only [hk,ne_eq,and_self,not_false_eq_true]))⟩,⟨kN BK177.out⟩,⟨kB HB.out⟩⟩
       rw [if_pos c26] at H
       have c26b0:decide (x13_3 < (l1.length:Int)) = true:=decide_eq_true c26
       clear c26
       have HC27:=mk0 H
       clear H
       go_upto_region 12 with (fail)
       go_cut [77] (fun v77 wc=>∃ (kq:Nat) (x77_26:Bool),v77 = .bool x77_26 ∧ Aside0 (spec_HuffRead.j3 kq l1 a2 t180 t183 x10_2 x11_2 x12_3 x13_3 x77_26 = some (r1,r2)) ∧ Aside0 (kq ≤ k3) ∧ Aside0 (Kd.R (Kd.int .i64) 3 wc w.heap.size (fun k_=>some k_ ≠ (v184:Value).ownBlock ∧ some k_ ≠ (u10:Value).ownBlock) (.slice Ao25 t180.length co25) t180) ∧ Aside0 (Kd.R (Kd.int .i64) 3 wc w.heap.size (fun k_=>some k_ ≠ ((.slice Ao25 t180.length co25):Value).ownBlock ∧ some k_ ≠ (u10:Value).ownBlock) v184 t183) ∧ Aside0 (Kd.R (Kd.int .i64) 3 wc w.heap.size (fun k_=>some k_ ≠ ((.slice Ao25 t180.length co25):Value).ownBlock ∧ some k_ ≠ (v184:Value).ownBlock) u10 x10_2) ∧ Aside0 (wc.heap[gb177]? = some (.cells #[.int .i64 a0_0,(.slice A0_1 l0_1.length c0_1)] 30 (0,0))) ∧ Aside0 (Below w.heap.size w wc))
       case first =>
        have H:=HC27.out
        clear HC27
        by_cases c28:0 ≤ x13_3
        rotate_left
        ·rw [if_neg c28] at H
         exact absurd H (by simp)
        rw [if_pos c28] at H
        have c28b0:decide (0 ≤ x13_3) = true:=decide_eq_true c28
        clear c28
        (first|rw [c28b0]|(simp only [i64_w,i32_w];rw [c28b0])|skip)
        by_cases c29:(rd l1 x13_3) > 0
        rotate_left
        ·rw [if_neg c29] at H
         have c29b0:decide (0 < (rd l1 x13_3)) = false:=decide_eq_false c29
         clear c29
         have H':=mk0 H
         clear H
         try go_wp2
         replace HO_10:=mk0 (dR HO_10.out)
         replace HO_27:=mk0 (dR HO_27.out)
         replace HO_29:=mk0 (dR HO_29.out)
         replace BK177:=mk0 (dB BK177.out)
         replace HB:=mk0 (dZ HB.out)
         have p189:0 ≤ (x13_3:Int):=of_decide_eq_true (by first|(with_reducible assumption)|assumption)
         have q189:x13_3 < (l1.length:Int):=of_decide_eq_true (by first|(with_reducible assumption)|assumption)
         obtain⟨ad189,e189,hx189_0⟩:=Kd.at_int HR1.out x13_3 p189 q189
         have hw189_0:=hx189_0
         cases e189
         replace hx189_0:=(HB.out.cell (World.block_lt_of_cell? w _ hx189_0)).trans hx189_0
         replace p189:=eq_true p189
         replace q189:=eq_true q189
         refine start_ (n:=37) (S:=fun w'=>w'.cell? (ad189.add (x13_3).toNat) = some (.int .i64 (rd l1 x13_3))) (ds:=[]) spec_HuffRead.m0 (by kernel_rfl) rfl rfl (((HB.out.cell (World.block_lt_of_cell? w _ hw189_0)).trans hw189_0)) (fun hHeld=>?_);refine with_tabW spec_HuffRead.tab12 spec_HuffRead.bits12 (fun HT_ HW_=>?_)
         generalize wr.drew = w43 at HO_10 HO_27 HO_29 BK177 HB hx189_0 hHeld ⊢
         refine pure_ (i:=0) (N:=some 41) (v:=?_) (a':=?_) spec_HuffRead.m1 rfl rfl (any_of HT_.out (by kernel_rfl)) (fun _ _ _ h=>h) (Or.inl ⟨by rfl,?_⟩) ?_ ?_
         rotate_left
         ·intro w'
          go_simp
          with_reducible rfl
         rotate_left
         ·simp only [Act.put,sA,sO,sS,i64_w,i32_w]
          rfl
         refine pure_ (i:=1) (N:=some 42) (v:=?_) (a':=?_) spec_HuffRead.m2 rfl rfl (any_of HT_.out (by kernel_rfl)) (fun _ _ _ h=>h) (Or.inl ⟨by rfl,?_⟩) ?_ ?_
         rotate_left
         ·intro w'
          go_simp
          with_reducible rfl
         rotate_left
         ·simp only [Act.put,sA,sO,sS,i64_w,i32_w]
          rfl
         refine pure_ (i:=2) (N:=some 43) (v:=?_) (a':=?_) spec_HuffRead.m3 rfl rfl (any_of HT_.out (by kernel_rfl)) (fun _ _ _ h=>h) (Or.inl ⟨by rfl,?_⟩) ?_ ?_
         rotate_left
         ·intro w'
          go_simp
          with_reducible rfl
         rotate_left
         ·simp only [Act.put,sA,sO,sS,i64_w,i32_w]
          rfl
         refine take_ (i:=3) (N:=some 44) (v:=?_) (a':=?_) spec_HuffRead.m4 rfl rfl (take_ofW HT_.out HW_.out (by kernel_rfl)) (fun _ _ _ h=>h) (Or.inl ⟨by rfl,?_⟩) hHeld ?_ ?_
         rotate_left
         ·intro w' s0
          go_simp
          with_reducible rfl
         rotate_left
         ·simp only [Act.put,sA,sO,sS,i64_w,i32_w]
          rfl
         refine pure_ (i:=4) (N:=some 45) (v:=?_) (a':=?_) spec_HuffRead.m5 rfl rfl (any_of HT_.out (by kernel_rfl)) (fun _ _ _ h=>h) (Or.inl ⟨by rfl,?_⟩) ?_ ?_
         rotate_left
         ·intro w'
          go_simp
          with_reducible rfl
         rotate_left
         ·simp only [Act.put,sA,sO,sS,i64_w,i32_w]
          rfl
         refine pure_ (i:=5) (N:=some 46) (v:=?_) (a':=?_) spec_HuffRead.m6 rfl rfl (any_of HT_.out (by kernel_rfl)) (fun _ _ _ h=>h) (Or.inl ⟨by rfl,?_⟩) ?_ ?_
         rotate_left
         ·intro w'
          go_simp
          with_reducible rfl
         rotate_left
         ·simp only [Act.put,sA,sO,sS,i64_w,i32_w]
          rfl
         refine pure_ (i:=6) (N:=some 47) (v:=undef) (a':=?_) spec_HuffRead.m7 rfl rfl (any_of HT_.out (by kernel_rfl)) (fun _ _ _ h=>h) (Or.inr ⟨by rfl,rfl⟩) ?_ ?_
         rotate_left
         ·simp only [Act.put,sA,sO,sS,i64_w,i32_w]
          rfl
         refine pure_ (i:=7) (N:=some 48) (v:=undef) (a':=?_) spec_HuffRead.m8 rfl rfl (any_of HT_.out (by kernel_rfl)) (fun _ _ _ h=>h) (Or.inr ⟨by rfl,rfl⟩) ?_ ?_
         rotate_left
         ·simp only [Act.put,sA,sO,sS,i64_w,i32_w]
          rfl
         refine pure_ (i:=8) (N:=some 49) (v:=undef) (a':=?_) spec_HuffRead.m9 rfl rfl (any_of HT_.out (by kernel_rfl)) (fun _ _ _ h=>h) (Or.inr ⟨by rfl,rfl⟩) ?_ ?_
         rotate_left
         ·simp only [Act.put,sA,sO,sS,i64_w,i32_w]
          rfl
         refine pure_ (i:=9) (N:=some 50) (v:=undef) (a':=?_) spec_HuffRead.m10 rfl rfl (any_of HT_.out (by kernel_rfl)) (fun _ _ _ h=>h) (Or.inr ⟨by rfl,rfl⟩) ?_ ?_
         rotate_left
         ·simp only [Act.put,sA,sO,sS,i64_w,i32_w]
          rfl
         refine pure_ (i:=10) (N:=some 51) (v:=undef) (a':=?_) spec_HuffRead.m11 rfl rfl (any_of HT_.out (by kernel_rfl)) (fun _ _ _ h=>h) (Or.inr ⟨by rfl,rfl⟩) ?_ ?_
         rotate_left
         ·simp only [Act.put,sA,sO,sS,i64_w,i32_w]
          rfl
         refine pure_ (i:=11) (N:=some 52) (v:=undef) (a':=?_) spec_HuffRead.m12 rfl rfl (any_of HT_.out (by kernel_rfl)) (fun _ _ _ h=>h) (Or.inr ⟨by rfl,rfl⟩) ?_ ?_
         rotate_left
         ·simp only [Act.put,sA,sO,sS,i64_w,i32_w]
          rfl
         refine pure_ (i:=12) (N:=some 53) (v:=undef) (a':=?_) spec_HuffRead.m13 rfl rfl (any_of HT_.out (by kernel_rfl)) (fun _ _ _ h=>h) (Or.inr ⟨by rfl,rfl⟩) ?_ ?_
         rotate_left
         ·simp only [Act.put,sA,sO,sS,i64_w,i32_w]
          rfl
         refine pure_ (i:=13) (N:=some 54) (v:=undef) (a':=?_) spec_HuffRead.m14 rfl rfl (any_of HT_.out (by kernel_rfl)) (fun _ _ _ h=>h) (Or.inr ⟨by rfl,rfl⟩) ?_ ?_
         rotate_left
         ·simp only [Act.put,sA,sO,sS,i64_w,i32_w]
          rfl
         refine pure_ (i:=14) (N:=some 55) (v:=undef) (a':=?_) spec_HuffRead.m15 rfl rfl (any_of HT_.out (by kernel_rfl)) (fun _ _ _ h=>h) (Or.inr ⟨by rfl,rfl⟩) ?_ ?_
         rotate_left
         ·simp only [Act.put,sA,sO,sS,i64_w,i32_w]
          rfl
         refine pure_ (i:=15) (N:=some 56) (v:=?_) (a':=?_) spec_HuffRead.m16 rfl rfl (any_of HT_.out (by kernel_rfl)) (fun _ _ _ h=>h) (Or.inl ⟨by rfl,?_⟩) ?_ ?_
         rotate_left
         ·intro w'
          go_simp
          with_reducible rfl
         rotate_left
         ·simp only [Act.put,sA,sO,sS,i64_w,i32_w]
          rfl
         refine pure_ (i:=16) (N:=some 57) (v:=?_) (a':=?_) spec_HuffRead.m17 rfl rfl (any_of HT_.out (by kernel_rfl)) (fun _ _ _ h=>h) (Or.inl ⟨by rfl,?_⟩) ?_ ?_
         rotate_left
         ·intro w'
          go_simp
          with_reducible rfl
         rotate_left
         ·simp only [Act.put,sA,sO,sS,i64_w,i32_w]
          rfl
         refine pure_ (i:=17) (N:=some 58) (v:=undef) (a':=?_) spec_HuffRead.m18 rfl rfl (any_of HT_.out (by kernel_rfl)) (fun _ _ _ h=>h) (Or.inr ⟨by rfl,rfl⟩) ?_ ?_
         rotate_left
         ·simp only [Act.put,sA,sO,sS,i64_w,i32_w]
          rfl
         refine pure_ (i:=18) (N:=some 59) (v:=undef) (a':=?_) spec_HuffRead.m19 rfl rfl (any_of HT_.out (by kernel_rfl)) (fun _ _ _ h=>h) (Or.inr ⟨by rfl,rfl⟩) ?_ ?_
         rotate_left
         ·simp only [Act.put,sA,sO,sS,i64_w,i32_w]
          rfl
         refine pure_ (i:=19) (N:=some 60) (v:=undef) (a':=?_) spec_HuffRead.m20 rfl rfl (any_of HT_.out (by kernel_rfl)) (fun _ _ _ h=>h) (Or.inr ⟨by rfl,rfl⟩) ?_ ?_
         rotate_left
         ·simp only [Act.put,sA,sO,sS,i64_w,i32_w]
          rfl
         refine pure_ (i:=20) (N:=some 61) (v:=undef) (a':=?_) spec_HuffRead.m21 rfl rfl (any_of HT_.out (by kernel_rfl)) (fun _ _ _ h=>h) (Or.inr ⟨by rfl,rfl⟩) ?_ ?_
         rotate_left
         ·simp only [Act.put,sA,sO,sS,i64_w,i32_w]
          rfl
         refine pure_ (i:=21) (N:=some 62) (v:=undef) (a':=?_) spec_HuffRead.m22 rfl rfl (any_of HT_.out (by kernel_rfl)) (fun _ _ _ h=>h) (Or.inr ⟨by rfl,rfl⟩) ?_ ?_
         rotate_left
         ·simp only [Act.put,sA,sO,sS,i64_w,i32_w]
          rfl
         refine pure_ (i:=22) (N:=some 63) (v:=undef) (a':=?_) spec_HuffRead.m23 rfl rfl (any_of HT_.out (by kernel_rfl)) (fun _ _ _ h=>h) (Or.inr ⟨by rfl,rfl⟩) ?_ ?_
         rotate_left
         ·simp only [Act.put,sA,sO,sS,i64_w,i32_w]
          rfl
         refine pure_ (i:=23) (N:=some 64) (v:=undef) (a':=?_) spec_HuffRead.m24 rfl rfl (any_of HT_.out (by kernel_rfl)) (fun _ _ _ h=>h) (Or.inr ⟨by rfl,rfl⟩) ?_ ?_
         rotate_left
         ·simp only [Act.put,sA,sO,sS,i64_w,i32_w]
          rfl
         refine pure_ (i:=24) (N:=some 65) (v:=undef) (a':=?_) spec_HuffRead.m25 rfl rfl (any_of HT_.out (by kernel_rfl)) (fun _ _ _ h=>h) (Or.inr ⟨by rfl,rfl⟩) ?_ ?_
         rotate_left
         ·simp only [Act.put,sA,sO,sS,i64_w,i32_w]
          rfl
         refine pure_ (i:=25) (N:=some 66) (v:=undef) (a':=?_) spec_HuffRead.m26 rfl rfl (any_of HT_.out (by kernel_rfl)) (fun _ _ _ h=>h) (Or.inr ⟨by rfl,rfl⟩) ?_ ?_
         rotate_left
         ·simp only [Act.put,sA,sO,sS,i64_w,i32_w]
          rfl
         refine pure_ (i:=26) (N:=some 67) (v:=undef) (a':=?_) spec_HuffRead.m27 rfl rfl (any_of HT_.out (by kernel_rfl)) (fun _ _ _ h=>h) (Or.inr ⟨by rfl,rfl⟩) ?_ ?_
         rotate_left
         ·simp only [Act.put,sA,sO,sS,i64_w,i32_w]
          rfl
         refine pure_ (i:=27) (N:=some 68) (v:=undef) (a':=?_) spec_HuffRead.m28 rfl rfl (any_of HT_.out (by kernel_rfl)) (fun _ _ _ h=>h) (Or.inr ⟨by rfl,rfl⟩) ?_ ?_
         rotate_left
         ·simp only [Act.put,sA,sO,sS,i64_w,i32_w]
          rfl
         refine pure_ (i:=28) (N:=some 69) (v:=undef) (a':=?_) spec_HuffRead.m29 rfl rfl (any_of HT_.out (by kernel_rfl)) (fun _ _ _ h=>h) (Or.inr ⟨by rfl,rfl⟩) ?_ ?_
         rotate_left
         ·simp only [Act.put,sA,sO,sS,i64_w,i32_w]
          rfl
         refine pure_ (i:=29) (N:=some 70) (v:=undef) (a':=?_) spec_HuffRead.m30 rfl rfl (any_of HT_.out (by kernel_rfl)) (fun _ _ _ h=>h) (Or.inr ⟨by rfl,rfl⟩) ?_ ?_
         rotate_left
         ·simp only [Act.put,sA,sO,sS,i64_w,i32_w]
          rfl
         refine pure_ (i:=30) (N:=some 71) (v:=undef) (a':=?_) spec_HuffRead.m31 rfl rfl (any_of HT_.out (by kernel_rfl)) (fun _ _ _ h=>h) (Or.inr ⟨by rfl,rfl⟩) ?_ ?_
         rotate_left
         ·simp only [Act.put,sA,sO,sS,i64_w,i32_w]
          rfl
         refine pure_ (i:=31) (N:=some 72) (v:=undef) (a':=?_) spec_HuffRead.m32 rfl rfl (any_of HT_.out (by kernel_rfl)) (fun _ _ _ h=>h) (Or.inr ⟨by rfl,rfl⟩) ?_ ?_
         rotate_left
         ·simp only [Act.put,sA,sO,sS,i64_w,i32_w]
          rfl
         refine pure_ (i:=32) (N:=some 73) (v:=undef) (a':=?_) spec_HuffRead.m33 rfl rfl (any_of HT_.out (by kernel_rfl)) (fun _ _ _ h=>h) (Or.inr ⟨by rfl,rfl⟩) ?_ ?_
         rotate_left
         ·simp only [Act.put,sA,sO,sS,i64_w,i32_w]
          rfl
         refine pure_ (i:=33) (N:=some 74) (v:=undef) (a':=?_) spec_HuffRead.m34 rfl rfl (any_of HT_.out (by kernel_rfl)) (fun _ _ _ h=>h) (Or.inr ⟨by rfl,rfl⟩) ?_ ?_
         rotate_left
         ·simp only [Act.put,sA,sO,sS,i64_w,i32_w]
          rfl
         refine pure_ (i:=34) (N:=some 75) (v:=undef) (a':=?_) spec_HuffRead.m35 rfl rfl (any_of HT_.out (by kernel_rfl)) (fun _ _ _ h=>h) (Or.inr ⟨by rfl,rfl⟩) ?_ ?_
         rotate_left
         ·simp only [Act.put,sA,sO,sS,i64_w,i32_w]
          rfl
         refine pure_ (i:=35) (N:=some 76) (v:=undef) (a':=?_) spec_HuffRead.m36 rfl rfl (any_of HT_.out (by kernel_rfl)) (fun _ _ _ h=>h) (Or.inr ⟨by rfl,rfl⟩) ?_ ?_
         rotate_left
         ·simp only [Act.put,sA,sO,sS,i64_w,i32_w]
          rfl
         refine pure_ (i:=36) (N:=some 77) (v:=?_) (a':=?_) spec_HuffRead.m37 rfl rfl (any_of HT_.out (by kernel_rfl)) (fun _ _ _ h=>h) (Or.inl ⟨by rfl,?_⟩) ?_ ?_
         rotate_left
         ·intro w'
          go_simp
          with_reducible rfl
         rotate_left
         ·simp only [Act.put,sA,sO,sS,i64_w,i32_w]
          rfl
         refine done_ (done_of HT_.out (by kernel_rfl)) ?_
         try go_wp2
         go_meet
         case rel=>exact⟨_,(false),(by first|rfl|(simp;done)|(simp [*];done)),H',⟨by have:=HJ3.out;have:=HK2.out;have:=HK3.out;first|omega|exact Nat.le_refl _⟩,⟨by (with_reducible repeat (first|apply aR|apply nR|apply dR));exact Kd.R_mono HO_27.out (by first|exact fun _ hk=>⟨hk.2,hk.1⟩|(intro k_ hk;simp only [hk,ne_eq,and_self,not_false_eq_true]))⟩,⟨by (with_reducible repeat (first|apply aR|apply nR|apply dR));exact Kd.R_mono HO_29.out (by first|exact fun _ hk=>⟨hk.2,hk.1⟩|(intro k_ hk;simp only [hk,ne_eq,and_self,not_false_eq_true]))⟩,⟨rR HO_10.out⟩,⟨kN BK177.out⟩,⟨kB HB.out⟩⟩
        rw [if_pos c29] at H
        have c29b0:decide (0 < (rd l1 x13_3)) = true:=decide_eq_true c29
        clear c29
        by_cases c30:(wrap64 (x11_2 + (rd l1 x13_3))) ≤ (t180.length:Int)
        rotate_left
        ·rw [if_neg c30] at H
         have c30b0:decide ((wrap64 (x11_2 + (rd l1 x13_3))) ≤ (t180.length:Int)) = false:=decide_eq_false c30
         clear c30
         have H':=mk0 H
         clear H
         try go_wp2
         replace HO_10:=mk0 (dR HO_10.out)
         replace HO_27:=mk0 (dR HO_27.out)
         replace HO_29:=mk0 (dR HO_29.out)
         replace BK177:=mk0 (dB BK177.out)
         replace HB:=mk0 (dZ HB.out)
         have p189:0 ≤ (x13_3:Int):=of_decide_eq_true (by first|(with_reducible assumption)|assumption)
         have q189:x13_3 < (l1.length:Int):=of_decide_eq_true (by first|(with_reducible assumption)|assumption)
         obtain⟨ad189,e189,hx189_0⟩:=Kd.at_int HR1.out x13_3 p189 q189
         have hw189_0:=hx189_0
         cases e189
         replace hx189_0:=(HB.out.cell (World.block_lt_of_cell? w _ hx189_0)).trans hx189_0
         replace p189:=eq_true p189
         replace q189:=eq_true q189
         have p190:0 ≤ (x13_3:Int):=of_decide_eq_true (by first|(with_reducible assumption)|assumption)
         have q190:x13_3 < (l1.length:Int):=of_decide_eq_true (by first|(with_reducible assumption)|assumption)
         obtain⟨ad190,e190,hx190_0⟩:=Kd.at_int HR1.out x13_3 p190 q190
         have hw190_0:=hx190_0
         obtain rfl:ad189 = ad190:=(by injection e190)
         replace hx190_0:=(HB.out.cell (World.block_lt_of_cell? w _ hx190_0)).trans hx190_0
         replace p190:=eq_true p190
         replace q190:=eq_true q190
         refine start_ (n:=37) (S:=fun w'=>w'.cell? (ad189.add (x13_3).toNat) = some (.int .i64 (rd l1 x13_3)) ∧ w'.cell? (ad189.add (x13_3).toNat) = some (.int .i64 (rd l1 x13_3))) (ds:=[]) spec_HuffRead.m0 (by kernel_rfl) rfl rfl ⟨((HB.out.cell (World.block_lt_of_cell? w _ hw189_0)).trans hw189_0),((HB.out.cell (World.block_lt_of_cell? w _ hw190_0)).trans hw190_0)⟩ (fun hHeld=>?_);refine with_tabW spec_HuffRead.tab12 spec_HuffRead.bits12 (fun HT_ HW_=>?_)
         generalize wr.drew = w42 at HO_10 HO_27 HO_29 BK177 HB hx189_0 hx190_0 hHeld ⊢
         refine pure_ (i:=0) (N:=some 41) (v:=?_) (a':=?_) spec_HuffRead.m1 rfl rfl (any_of HT_.out (by kernel_rfl)) (fun _ _ _ h=>h) (Or.inl ⟨by rfl,?_⟩) ?_ ?_
         rotate_left
         ·intro w'
          go_simp
          with_reducible rfl
         rotate_left
         ·simp only [Act.put,sA,sO,sS,i64_w,i32_w]
          rfl
         refine pure_ (i:=1) (N:=some 42) (v:=?_) (a':=?_) spec_HuffRead.m2 rfl rfl (any_of HT_.out (by kernel_rfl)) (fun _ _ _ h=>h) (Or.inl ⟨by rfl,?_⟩) ?_ ?_
         rotate_left
         ·intro w'
          go_simp
          with_reducible rfl
         rotate_left
         ·simp only [Act.put,sA,sO,sS,i64_w,i32_w]
          rfl
         refine pure_ (i:=2) (N:=some 43) (v:=?_) (a':=?_) spec_HuffRead.m3 rfl rfl (any_of HT_.out (by kernel_rfl)) (fun _ _ _ h=>h) (Or.inl ⟨by rfl,?_⟩) ?_ ?_
         rotate_left
         ·intro w'
          go_simp
          with_reducible rfl
         rotate_left
         ·simp only [Act.put,sA,sO,sS,i64_w,i32_w]
          rfl
         refine take_ (i:=3) (N:=some 44) (v:=?_) (a':=?_) spec_HuffRead.m4 rfl rfl (take_ofW HT_.out HW_.out (by kernel_rfl)) (fun _ _ _ h=>h) (Or.inl ⟨by rfl,?_⟩) hHeld ?_ ?_
         rotate_left
         ·rintro w' ⟨s0,s1⟩
          go_simp
          with_reducible rfl
         rotate_left
         ·simp only [Act.put,sA,sO,sS,i64_w,i32_w]
          rfl
         refine pure_ (i:=4) (N:=some 45) (v:=?_) (a':=?_) spec_HuffRead.m5 rfl rfl (any_of HT_.out (by kernel_rfl)) (fun _ _ _ h=>h) (Or.inl ⟨by rfl,?_⟩) ?_ ?_
         rotate_left
         ·intro w'
          go_simp
          with_reducible rfl
         rotate_left
         ·simp only [Act.put,sA,sO,sS,i64_w,i32_w]
          rfl
         refine pure_ (i:=5) (N:=some 46) (v:=?_) (a':=?_) spec_HuffRead.m6 rfl rfl (any_of HT_.out (by kernel_rfl)) (fun _ _ _ h=>h) (Or.inl ⟨by rfl,?_⟩) ?_ ?_
         rotate_left
         ·intro w'
          go_simp
          with_reducible rfl
         rotate_left
         ·simp only [Act.put,sA,sO,sS,i64_w,i32_w]
          rfl
         refine pure_ (i:=6) (N:=some 47) (v:=?_) (a':=?_) spec_HuffRead.m7 rfl rfl (any_of HT_.out (by kernel_rfl)) (fun _ _ _ h=>h) (Or.inl ⟨by rfl,?_⟩) ?_ ?_
         rotate_left
         ·intro w'
          go_simp
          with_reducible rfl
         rotate_left
         ·simp only [Act.put,sA,sO,sS,i64_w,i32_w]
          rfl
         refine pure_ (i:=7) (N:=some 48) (v:=?_) (a':=?_) spec_HuffRead.m8 rfl rfl (any_of HT_.out (by kernel_rfl)) (fun _ _ _ h=>h) (Or.inl ⟨by rfl,?_⟩) ?_ ?_
         rotate_left
         ·intro w'
          go_simp
          with_reducible rfl
         rotate_left
         ·simp only [Act.put,sA,sO,sS,i64_w,i32_w]
          rfl
         refine pure_ (i:=8) (N:=some 49) (v:=?_) (a':=?_) spec_HuffRead.m9 rfl rfl (any_of HT_.out (by kernel_rfl)) (fun _ _ _ h=>h) (Or.inl ⟨by rfl,?_⟩) ?_ ?_
         rotate_left
         ·intro w'
          go_simp
          with_reducible rfl
         rotate_left
         ·simp only [Act.put,sA,sO,sS,i64_w,i32_w]
          rfl
         refine pure_ (i:=9) (N:=some 50) (v:=?_) (a':=?_) spec_HuffRead.m10 rfl rfl (any_of HT_.out (by kernel_rfl)) (fun _ _ _ h=>h) (Or.inl ⟨by rfl,?_⟩) ?_ ?_
         rotate_left
         ·intro w'
          go_simp
          with_reducible rfl
         rotate_left
         ·simp only [Act.put,sA,sO,sS,i64_w,i32_w]
          rfl
         refine pure_ (i:=12) (N:=some 53) (v:=?_) (a':=?_) spec_HuffRead.m38 rfl rfl (any_of HT_.out (by kernel_rfl)) (fun _ _ _ h=>h) (Or.inl ⟨by rfl,?_⟩) ?_ ?_
         rotate_left
         ·intro w'
          go_simp
          with_reducible rfl
         rotate_left
         ·simp only [Act.put,sA,sO,sS,i64_w,i32_w]
          rfl
         refine pure_ (i:=13) (N:=some 54) (v:=?_) (a':=?_) spec_HuffRead.m39 rfl rfl (any_of HT_.out (by kernel_rfl)) (fun _ _ _ h=>h) (Or.inl ⟨by rfl,?_⟩) ?_ ?_
         rotate_left
         ·intro w'
          go_simp
          with_reducible rfl
         rotate_left
         ·simp only [Act.put,sA,sO,sS,i64_w,i32_w]
          rfl
         refine take_ (i:=10) (N:=some 51) (v:=?_) (a':=?_) spec_HuffRead.m40 rfl rfl (take_ofW HT_.out HW_.out (by kernel_rfl)) (fun _ _ _ h=>h) (Or.inl ⟨by rfl,?_⟩) hHeld ?_ ?_
         rotate_left
         ·rintro w' ⟨s0,s1⟩
          go_simp
          with_reducible rfl
         rotate_left
         ·simp only [Act.put,sA,sO,sS,i64_w,i32_w]
          rfl
         refine pure_ (i:=11) (N:=some 52) (v:=?_) (a':=?_) spec_HuffRead.m14 rfl rfl (any_of HT_.out (by kernel_rfl)) (fun _ _ _ h=>h) (Or.inl ⟨by rfl,?_⟩) ?_ ?_
         rotate_left
         ·intro w'
          go_simp
          with_reducible rfl
         rotate_left
         ·simp only [Act.put,sA,sO,sS,i64_w,i32_w]
          rfl
         refine pure_ (i:=14) (N:=some 55) (v:=?_) (a':=?_) spec_HuffRead.m15 rfl rfl (any_of HT_.out (by kernel_rfl)) (fun _ _ _ h=>h) (Or.inl ⟨by rfl,?_⟩) ?_ ?_
         rotate_left
         ·intro w'
          go_simp
          with_reducible rfl
         rotate_left
         ·simp only [Act.put,sA,sO,sS,i64_w,i32_w]
          rfl
         refine pure_ (i:=15) (N:=some 56) (v:=?_) (a':=?_) spec_HuffRead.m16 rfl rfl (any_of HT_.out (by kernel_rfl)) (fun _ _ _ h=>h) (Or.inl ⟨by rfl,?_⟩) ?_ ?_
         rotate_left
         ·intro w'
          go_simp
          with_reducible rfl
         rotate_left
         ·simp only [Act.put,sA,sO,sS,i64_w,i32_w]
          rfl
         refine pure_ (i:=16) (N:=some 57) (v:=?_) (a':=?_) spec_HuffRead.m17 rfl rfl (any_of HT_.out (by kernel_rfl)) (fun _ _ _ h=>h) (Or.inl ⟨by rfl,?_⟩) ?_ ?_
         rotate_left
         ·intro w'
          go_simp
          with_reducible rfl
         rotate_left
         ·simp only [Act.put,sA,sO,sS,i64_w,i32_w]
          rfl
         refine pure_ (i:=17) (N:=some 58) (v:=undef) (a':=?_) spec_HuffRead.m18 rfl rfl (any_of HT_.out (by kernel_rfl)) (fun _ _ _ h=>h) (Or.inr ⟨by rfl,rfl⟩) ?_ ?_
         rotate_left
         ·simp only [Act.put,sA,sO,sS,i64_w,i32_w]
          rfl
         refine pure_ (i:=18) (N:=some 59) (v:=undef) (a':=?_) spec_HuffRead.m19 rfl rfl (any_of HT_.out (by kernel_rfl)) (fun _ _ _ h=>h) (Or.inr ⟨by rfl,rfl⟩) ?_ ?_
         rotate_left
         ·simp only [Act.put,sA,sO,sS,i64_w,i32_w]
          rfl
         refine pure_ (i:=19) (N:=some 60) (v:=undef) (a':=?_) spec_HuffRead.m20 rfl rfl (any_of HT_.out (by kernel_rfl)) (fun _ _ _ h=>h) (Or.inr ⟨by rfl,rfl⟩) ?_ ?_
         rotate_left
         ·simp only [Act.put,sA,sO,sS,i64_w,i32_w]
          rfl
         refine pure_ (i:=20) (N:=some 61) (v:=undef) (a':=?_) spec_HuffRead.m21 rfl rfl (any_of HT_.out (by kernel_rfl)) (fun _ _ _ h=>h) (Or.inr ⟨by rfl,rfl⟩) ?_ ?_
         rotate_left
         ·simp only [Act.put,sA,sO,sS,i64_w,i32_w]
          rfl
         refine pure_ (i:=21) (N:=some 62) (v:=undef) (a':=?_) spec_HuffRead.m22 rfl rfl (any_of HT_.out (by kernel_rfl)) (fun _ _ _ h=>h) (Or.inr ⟨by rfl,rfl⟩) ?_ ?_
         rotate_left
         ·simp only [Act.put,sA,sO,sS,i64_w,i32_w]
          rfl
         refine pure_ (i:=22) (N:=some 63) (v:=undef) (a':=?_) spec_HuffRead.m23 rfl rfl (any_of HT_.out (by kernel_rfl)) (fun _ _ _ h=>h) (Or.inr ⟨by rfl,rfl⟩) ?_ ?_
         rotate_left
         ·simp only [Act.put,sA,sO,sS,i64_w,i32_w]
          rfl
         refine pure_ (i:=23) (N:=some 64) (v:=undef) (a':=?_) spec_HuffRead.m24 rfl rfl (any_of HT_.out (by kernel_rfl)) (fun _ _ _ h=>h) (Or.inr ⟨by rfl,rfl⟩) ?_ ?_
         rotate_left
         ·simp only [Act.put,sA,sO,sS,i64_w,i32_w]
          rfl
         refine pure_ (i:=24) (N:=some 65) (v:=undef) (a':=?_) spec_HuffRead.m25 rfl rfl (any_of HT_.out (by kernel_rfl)) (fun _ _ _ h=>h) (Or.inr ⟨by rfl,rfl⟩) ?_ ?_
         rotate_left
         ·simp only [Act.put,sA,sO,sS,i64_w,i32_w]
          rfl
         refine pure_ (i:=25) (N:=some 66) (v:=undef) (a':=?_) spec_HuffRead.m26 rfl rfl (any_of HT_.out (by kernel_rfl)) (fun _ _ _ h=>h) (Or.inr ⟨by rfl,rfl⟩) ?_ ?_
         rotate_left
         ·simp only [Act.put,sA,sO,sS,i64_w,i32_w]
          rfl
         refine pure_ (i:=26) (N:=some 67) (v:=undef) (a':=?_) spec_HuffRead.m27 rfl rfl (any_of HT_.out (by kernel_rfl)) (fun _ _ _ h=>h) (Or.inr ⟨by rfl,rfl⟩) ?_ ?_
         rotate_left
         ·simp only [Act.put,sA,sO,sS,i64_w,i32_w]
          rfl
         refine pure_ (i:=27) (N:=some 68) (v:=undef) (a':=?_) spec_HuffRead.m28 rfl rfl (any_of HT_.out (by kernel_rfl)) (fun _ _ _ h=>h) (Or.inr ⟨by rfl,rfl⟩) ?_ ?_
         rotate_left
         ·simp only [Act.put,sA,sO,sS,i64_w,i32_w]
          rfl
         refine pure_ (i:=28) (N:=some 69) (v:=undef) (a':=?_) spec_HuffRead.m29 rfl rfl (any_of HT_.out (by kernel_rfl)) (fun _ _ _ h=>h) (Or.inr ⟨by rfl,rfl⟩) ?_ ?_
         rotate_left
         ·simp only [Act.put,sA,sO,sS,i64_w,i32_w]
          rfl
         refine pure_ (i:=29) (N:=some 70) (v:=undef) (a':=?_) spec_HuffRead.m30 rfl rfl (any_of HT_.out (by kernel_rfl)) (fun _ _ _ h=>h) (Or.inr ⟨by rfl,rfl⟩) ?_ ?_
         rotate_left
         ·simp only [Act.put,sA,sO,sS,i64_w,i32_w]
          rfl
         refine pure_ (i:=30) (N:=some 71) (v:=undef) (a':=?_) spec_HuffRead.m31 rfl rfl (any_of HT_.out (by kernel_rfl)) (fun _ _ _ h=>h) (Or.inr ⟨by rfl,rfl⟩) ?_ ?_
         rotate_left
         ·simp only [Act.put,sA,sO,sS,i64_w,i32_w]
          rfl
         refine pure_ (i:=31) (N:=some 72) (v:=undef) (a':=?_) spec_HuffRead.m32 rfl rfl (any_of HT_.out (by kernel_rfl)) (fun _ _ _ h=>h) (Or.inr ⟨by rfl,rfl⟩) ?_ ?_
         rotate_left
         ·simp only [Act.put,sA,sO,sS,i64_w,i32_w]
          rfl
         refine pure_ (i:=32) (N:=some 73) (v:=undef) (a':=?_) spec_HuffRead.m33 rfl rfl (any_of HT_.out (by kernel_rfl)) (fun _ _ _ h=>h) (Or.inr ⟨by rfl,rfl⟩) ?_ ?_
         rotate_left
         ·simp only [Act.put,sA,sO,sS,i64_w,i32_w]
          rfl
         refine pure_ (i:=33) (N:=some 74) (v:=undef) (a':=?_) spec_HuffRead.m34 rfl rfl (any_of HT_.out (by kernel_rfl)) (fun _ _ _ h=>h) (Or.inr ⟨by rfl,rfl⟩) ?_ ?_
         rotate_left
         ·simp only [Act.put,sA,sO,sS,i64_w,i32_w]
          rfl
         refine pure_ (i:=34) (N:=some 75) (v:=undef) (a':=?_) spec_HuffRead.m35 rfl rfl (any_of HT_.out (by kernel_rfl)) (fun _ _ _ h=>h) (Or.inr ⟨by rfl,rfl⟩) ?_ ?_
         rotate_left
         ·simp only [Act.put,sA,sO,sS,i64_w,i32_w]
          rfl
         refine pure_ (i:=35) (N:=some 76) (v:=undef) (a':=?_) spec_HuffRead.m36 rfl rfl (any_of HT_.out (by kernel_rfl)) (fun _ _ _ h=>h) (Or.inr ⟨by rfl,rfl⟩) ?_ ?_
         rotate_left
         ·simp only [Act.put,sA,sO,sS,i64_w,i32_w]
          rfl
         refine pure_ (i:=36) (N:=some 77) (v:=?_) (a':=?_) spec_HuffRead.m37 rfl rfl (any_of HT_.out (by kernel_rfl)) (fun _ _ _ h=>h) (Or.inl ⟨by rfl,?_⟩) ?_ ?_
         rotate_left
         ·intro w'
          go_simp
          with_reducible rfl
         rotate_left
         ·simp only [Act.put,sA,sO,sS,i64_w,i32_w]
          rfl
         refine done_ (done_of HT_.out (by kernel_rfl)) ?_
         try go_wp2
         go_meet
         case rel=>exact⟨_,(false),(by first|rfl|(simp;done)|(simp [*];done)),H',⟨by have:=HJ3.out;have:=HK2.out;have:=HK3.out;first|omega|exact Nat.le_refl _⟩,⟨by (with_reducible repeat (first|apply aR|apply nR|apply dR));exact Kd.R_mono HO_27.out (by first|exact fun _ hk=>⟨hk.2,hk.1⟩|(intro k_ hk;simp only [hk,ne_eq,and_self,not_false_eq_true]))⟩,⟨by (with_reducible repeat (first|apply aR|apply nR|apply dR));exact Kd.R_mono HO_29.out (by first|exact fun _ hk=>⟨hk.2,hk.1⟩|(intro k_ hk;simp only [hk,ne_eq,and_self,not_false_eq_true]))⟩,⟨rR HO_10.out⟩,⟨kN BK177.out⟩,⟨kB HB.out⟩⟩
        rw [if_pos c30] at H
        have c30b0:decide ((wrap64 (x11_2 + (rd l1 x13_3))) ≤ (t180.length:Int)) = true:=decide_eq_true c30
        clear c30
        by_cases c31:x13_3 < (t183.length:Int)
        rotate_left
        ·rw [if_neg c31] at H
         exact absurd H (by simp)
        rw [if_pos c31] at H
        have c31b0:decide (x13_3 < (t183.length:Int)) = true:=decide_eq_true c31
        clear c31
        replace H:=Option.bind_eq_some_iff.mp H
        obtain⟨t193,A320,H⟩:=H
        replace H:(if 0 ≤ x11_2 then (if x11_2 ≤ (wrap64 (x11_2 + (rd l1 x13_3))) then ((spec_l01Same.f k3 t193 ((t180.take ((wrap64 (x11_2 + (rd l1 x13_3))):Int).toNat).drop (x11_2:Int).toNat)).bind fun t201=>(spec_HuffRead.j3 k3 l1 a2 t180 t183 x10_2 x11_2 x12_3 x13_3 t201)) else (none)) else (none)) = some (r1,r2):=H
        have A32:=mk0 A320
        clear A320
        by_cases c33:0 ≤ x11_2
        rotate_left
        ·rw [if_neg c33] at H
         exact absurd H (by simp)
        rw [if_pos c33] at H
        have c33b0:=eq_true c33
        have c33b1:decide (0 ≤ x11_2) = true:=decide_eq_true c33
        clear c33
        by_cases c34:x11_2 ≤ (wrap64 (x11_2 + (rd l1 x13_3)))
        rotate_left
        ·rw [if_neg c34] at H
         exact absurd H (by simp)
        rw [if_pos c34] at H
        have c34b0:=eq_true c34
        have c34b1:decide (x11_2 ≤ (wrap64 (x11_2 + (rd l1 x13_3)))) = true:=decide_eq_true c34
        have c35b0:=eq_true (of_decide_eq_true (by first|(with_reducible assumption)|assumption):(wrap64 (x11_2 + (rd l1 x13_3))) ≤ (t180.length:Int))
        obtain⟨y197,hy197⟩:∃ y_:List Int,y_ = ((t180.take ((wrap64 (x11_2 + (rd l1 x13_3))):Int).toNat).drop (x11_2:Int).toNat):=⟨_,rfl⟩
        replace H:((spec_l01Same.f k3 t193 y197).bind fun t201=>(spec_HuffRead.j3 k3 l1 a2 t180 t183 x10_2 x11_2 x12_3 x13_3 t201)) = some (r1,r2):=by first|(rw [hy197];with_reducible exact H)|(have H2_:=(Option.bind_some _ _).symm.trans H;rw [hy197];with_reducible exact H2_)|(have H2_:=(Option.bind_some _ _).symm.trans H;with_reducible exact H2_)|with_reducible exact H|(rw [hy197];exact H)|exact H
        have Ny197:=mk0 hy197
        clear hy197
        replace H:=Option.bind_eq_some_iff.mp H
        obtain⟨t201,A360,H⟩:=H
        replace H:(spec_HuffRead.j3 k3 l1 a2 t180 t183 x10_2 x11_2 x12_3 x13_3 t201) = some (r1,r2):=H
        have A36:=mk0 A360
        clear A360
        have H':=mk0 H
        clear H
        try go_wp2
        replace HO_10:=mk0 (dR HO_10.out)
        replace HO_27:=mk0 (dR HO_27.out)
        replace HO_29:=mk0 (dR HO_29.out)
        replace BK177:=mk0 (dB BK177.out)
        replace HB:=mk0 (dZ HB.out)
        have p189:0 ≤ (x13_3:Int):=of_decide_eq_true (by first|(with_reducible assumption)|assumption)
        have q189:x13_3 < (l1.length:Int):=of_decide_eq_true (by first|(with_reducible assumption)|assumption)
        obtain⟨ad189,e189,hx189_0⟩:=Kd.at_int HR1.out x13_3 p189 q189
        have hw189_0:=hx189_0
        cases e189
        replace hx189_0:=(HB.out.cell (World.block_lt_of_cell? w _ hx189_0)).trans hx189_0
        replace p189:=eq_true p189
        replace q189:=eq_true q189
        have p190:0 ≤ (x13_3:Int):=of_decide_eq_true (by first|(with_reducible assumption)|assumption)
        have q190:x13_3 < (l1.length:Int):=of_decide_eq_true (by first|(with_reducible assumption)|assumption)
        obtain⟨ad190,e190,hx190_0⟩:=Kd.at_int HR1.out x13_3 p190 q190
        have hw190_0:=hx190_0
        obtain rfl:ad189 = ad190:=(by injection e190)
        replace hx190_0:=(HB.out.cell (World.block_lt_of_cell? w _ hx190_0)).trans hx190_0
        replace p190:=eq_true p190
        replace q190:=eq_true q190
        obtain⟨Ao38,co38,eo38⟩:=Kd.R_slice HO_29.out
        (first|subst eo38|(injection eo38 with f1_ f2_ f3_;have f4_:=f1_.symm;have f5_:=f3_.symm;clear f1_ f2_ f3_;subst f4_;subst f5_))
        have p191:0 ≤ (x13_3:Int):=of_decide_eq_true (by first|(with_reducible assumption)|assumption)
        have q191:x13_3 < (t183.length:Int):=of_decide_eq_true (by first|(with_reducible assumption)|assumption)
        obtain⟨ad191,e191,hx191_0⟩:=Kd.at_int (Kd.R_reads' HO_29.out).2.2 x13_3 p191 q191
        cases e191
        replace p191:=eq_true p191
        replace q191:=eq_true q191
        have p192:0 ≤ (x13_3:Int):=of_decide_eq_true (by first|(with_reducible assumption)|assumption)
        have q192:x13_3 < (l1.length:Int):=of_decide_eq_true (by first|(with_reducible assumption)|assumption)
        obtain⟨ad192,e192,hx192_0⟩:=Kd.at_int HR1.out x13_3 p192 q192
        have hw192_0:=hx192_0
        obtain rfl:ad189 = ad192:=(by injection e192)
        replace hx192_0:=(HB.out.cell (World.block_lt_of_cell? w _ hx192_0)).trans hx192_0
        replace p192:=eq_true p192
        replace q192:=eq_true q192
        have p196:0 ≤ (x13_3:Int):=of_decide_eq_true (by first|(with_reducible assumption)|assumption)
        have q196:x13_3 < (l1.length:Int):=of_decide_eq_true (by first|(with_reducible assumption)|assumption)
        obtain⟨ad196,e196,hx196_0⟩:=Kd.at_int HR1.out x13_3 p196 q196
        have hw196_0:=hx196_0
        obtain rfl:ad189 = ad196:=(by injection e196)
        replace hx196_0:=(HB.out.cell (World.block_lt_of_cell? w _ hx196_0)).trans hx196_0
        replace p196:=eq_true p196
        replace q196:=eq_true q196
        have q39:((wrap64 (x11_2 + (rd l1 x13_3))):Int) ≤ ((t180.length:Int):Int):=of_decide_eq_true (by first|(with_reducible assumption)|assumption)
        obtain⟨i039,hi039,_,hsz39,_⟩:=info_parts info3
        have hroom39:t180.length ≤ co25:=(Kd.R_reads' HO_27.out).2.1
        have hC39:Kd.C (Kd.int .i64) _ Ao25 t180.length t180:=(Kd.R_reads' HO_27.out).2.2
        have ql39:(x11_2:Int) ≤ ((wrap64 (x11_2 + (rd l1 x13_3))):Int):=of_decide_eq_true (by first|(with_reducible assumption)|assumption)
        have q039:(0:Int) ≤ (x11_2:Int):=of_decide_eq_true (by first|(with_reducible assumption)|assumption)
        have hcut39:=cut_mid (P:=Try.prog) 24 3 .i64 .i64 Try.underlying24 hi039 1 hsz39 Ao25 t180.length co25 x11_2 (wrap64 (x11_2 + (rd l1 x13_3))) q039 ql39 q39 hroom39
        have hr39:=Kd.C_mid (lo:=(x11_2:Int).toNat) (hi:=((wrap64 (x11_2 + (rd l1 x13_3))):Int).toNat) (c:=co25) hC39 (by omega) (by omega) hroom39
        obtain⟨A39,hA39⟩:∃ A1,A1 = (if co25 = (x11_2:Int).toNat then Ao25 else (Ao25:Option Addr).map (·.add ((x11_2:Int).toNat * 1))):=⟨_,rfl⟩
        obtain⟨c39,hc39⟩:∃ c1,c1 = co25 - (x11_2:Int).toNat:=⟨_,rfl⟩
        have hy39:y197.length = ((wrap64 (x11_2 + (rd l1 x13_3))):Int).toNat - (x11_2:Int).toNat:=(by rw [Ny197.out,List.length_drop,List.length_take] <;> omega)
        rw [show ((t180).take ((wrap64 (x11_2 + (rd l1 x13_3))):Int).toNat).drop (x11_2:Int).toNat = y197 from Ny197.out.symm] at hr39
        replace hr39:Kd.C (Kd.int .i64) _ A39 y197.length y197:=(by rw [hA39];exact hr39)
        rw [← hy39, ← hA39, ← hc39] at hcut39
        have HR200:=mk0 hr39
        have HC200:=mk0 (show y197.length ≤ c39 from by rw [hy39,hc39];exact Nat.sub_le_sub_right (Nat.le_trans (by omega) hroom39) _)
        clear hr39 hC39 hroom39 hi039 hsz39 hc39
        have KY39:=mk0 hy39
        have KA39:=mk0 hA39
        clear hy39 hA39
        have KL39:=mk0 (show ((wrap64 (x11_2 + (rd l1 x13_3))):Int).toNat ≤ t180.length from by omega)
        have KM39:=mk0 (show (x11_2:Int).toNat ≤ ((wrap64 (x11_2 + (rd l1 x13_3))):Int).toNat from by omega)
        replace q39:=eq_true q39
        refine start_ (n:=37) (S:=fun w'=>w'.cell? (ad189.add (x13_3).toNat) = some (.int .i64 (rd l1 x13_3)) ∧ w'.cell? (ad189.add (x13_3).toNat) = some (.int .i64 (rd l1 x13_3)) ∧ w'.cell? (ad191.add (x13_3).toNat) = some (.int .i64 (rd t183 x13_3)) ∧ w'.cell? (ad189.add (x13_3).toNat) = some (.int .i64 (rd l1 x13_3)) ∧ w'.cell? (ad189.add (x13_3).toNat) = some (.int .i64 (rd l1 x13_3))) (ds:=[]) spec_HuffRead.m0 (by kernel_rfl) rfl rfl ⟨((HB.out.cell (World.block_lt_of_cell? w _ hw189_0)).trans hw189_0),((HB.out.cell (World.block_lt_of_cell? w _ hw190_0)).trans hw190_0),hx191_0,((HB.out.cell (World.block_lt_of_cell? w _ hw192_0)).trans hw192_0),((HB.out.cell (World.block_lt_of_cell? w _ hw196_0)).trans hw196_0)⟩ (fun hHeld=>?_);refine with_tabW spec_HuffRead.tab12 spec_HuffRead.bits12 (fun HT_ HW_=>?_)
        generalize wr.drew = w37 at HO_10 HO_27 HO_29 BK177 HB HR200 hx189_0 hx190_0 hx191_0 hx192_0 hx196_0 hHeld ⊢
        refine pure_ (i:=0) (N:=some 41) (v:=?_) (a':=?_) spec_HuffRead.m1 rfl rfl (any_of HT_.out (by kernel_rfl)) (fun _ _ _ h=>h) (Or.inl ⟨by rfl,?_⟩) ?_ ?_
        rotate_left
        ·intro w'
         go_simp
         with_reducible rfl
        rotate_left
        ·simp only [Act.put,sA,sO,sS,i64_w,i32_w]
         rfl
        refine pure_ (i:=1) (N:=some 42) (v:=?_) (a':=?_) spec_HuffRead.m2 rfl rfl (any_of HT_.out (by kernel_rfl)) (fun _ _ _ h=>h) (Or.inl ⟨by rfl,?_⟩) ?_ ?_
        rotate_left
        ·intro w'
         go_simp
         with_reducible rfl
        rotate_left
        ·simp only [Act.put,sA,sO,sS,i64_w,i32_w]
         rfl
        refine pure_ (i:=2) (N:=some 43) (v:=?_) (a':=?_) spec_HuffRead.m3 rfl rfl (any_of HT_.out (by kernel_rfl)) (fun _ _ _ h=>h) (Or.inl ⟨by rfl,?_⟩) ?_ ?_
        rotate_left
        ·intro w'
         go_simp
         with_reducible rfl
        rotate_left
        ·simp only [Act.put,sA,sO,sS,i64_w,i32_w]
         rfl
        refine take_ (i:=3) (N:=some 44) (v:=?_) (a':=?_) spec_HuffRead.m4 rfl rfl (take_ofW HT_.out HW_.out (by kernel_rfl)) (fun _ _ _ h=>h) (Or.inl ⟨by rfl,?_⟩) hHeld ?_ ?_
        rotate_left
        ·rintro w' ⟨s0,s1,s2,s3,s4⟩
         go_simp
         with_reducible rfl
        rotate_left
        ·simp only [Act.put,sA,sO,sS,i64_w,i32_w]
         rfl
        refine pure_ (i:=4) (N:=some 45) (v:=?_) (a':=?_) spec_HuffRead.m5 rfl rfl (any_of HT_.out (by kernel_rfl)) (fun _ _ _ h=>h) (Or.inl ⟨by rfl,?_⟩) ?_ ?_
        rotate_left
        ·intro w'
         go_simp
         with_reducible rfl
        rotate_left
        ·simp only [Act.put,sA,sO,sS,i64_w,i32_w]
         rfl
        refine pure_ (i:=5) (N:=some 46) (v:=?_) (a':=?_) spec_HuffRead.m6 rfl rfl (any_of HT_.out (by kernel_rfl)) (fun _ _ _ h=>h) (Or.inl ⟨by rfl,?_⟩) ?_ ?_
        rotate_left
        ·intro w'
         go_simp
         with_reducible rfl
        rotate_left
        ·simp only [Act.put,sA,sO,sS,i64_w,i32_w]
         rfl
        refine pure_ (i:=6) (N:=some 47) (v:=?_) (a':=?_) spec_HuffRead.m7 rfl rfl (any_of HT_.out (by kernel_rfl)) (fun _ _ _ h=>h) (Or.inl ⟨by rfl,?_⟩) ?_ ?_
        rotate_left
        ·intro w'
         go_simp
         with_reducible rfl
        rotate_left
        ·simp only [Act.put,sA,sO,sS,i64_w,i32_w]
         rfl
        refine pure_ (i:=7) (N:=some 48) (v:=?_) (a':=?_) spec_HuffRead.m8 rfl rfl (any_of HT_.out (by kernel_rfl)) (fun _ _ _ h=>h) (Or.inl ⟨by rfl,?_⟩) ?_ ?_
        rotate_left
        ·intro w'
         go_simp
         with_reducible rfl
        rotate_left
        ·simp only [Act.put,sA,sO,sS,i64_w,i32_w]
         rfl
        refine pure_ (i:=8) (N:=some 49) (v:=?_) (a':=?_) spec_HuffRead.m9 rfl rfl (any_of HT_.out (by kernel_rfl)) (fun _ _ _ h=>h) (Or.inl ⟨by rfl,?_⟩) ?_ ?_
        rotate_left
        ·intro w'
         go_simp
         with_reducible rfl
        rotate_left
        ·simp only [Act.put,sA,sO,sS,i64_w,i32_w]
         rfl
        refine pure_ (i:=9) (N:=some 50) (v:=?_) (a':=?_) spec_HuffRead.m10 rfl rfl (any_of HT_.out (by kernel_rfl)) (fun _ _ _ h=>h) (Or.inl ⟨by rfl,?_⟩) ?_ ?_
        rotate_left
        ·intro w'
         go_simp
         with_reducible rfl
        rotate_left
        ·simp only [Act.put,sA,sO,sS,i64_w,i32_w]
         rfl
        refine pure_ (i:=12) (N:=some 53) (v:=?_) (a':=?_) spec_HuffRead.m38 rfl rfl (any_of HT_.out (by kernel_rfl)) (fun _ _ _ h=>h) (Or.inl ⟨by rfl,?_⟩) ?_ ?_
        rotate_left
        ·intro w'
         go_simp
         with_reducible rfl
        rotate_left
        ·simp only [Act.put,sA,sO,sS,i64_w,i32_w]
         rfl
        refine pure_ (i:=13) (N:=some 54) (v:=?_) (a':=?_) spec_HuffRead.m39 rfl rfl (any_of HT_.out (by kernel_rfl)) (fun _ _ _ h=>h) (Or.inl ⟨by rfl,?_⟩) ?_ ?_
        rotate_left
        ·intro w'
         go_simp
         with_reducible rfl
        rotate_left
        ·simp only [Act.put,sA,sO,sS,i64_w,i32_w]
         rfl
        refine take_ (i:=10) (N:=some 51) (v:=?_) (a':=?_) spec_HuffRead.m40 rfl rfl (take_ofW HT_.out HW_.out (by kernel_rfl)) (fun _ _ _ h=>h) (Or.inl ⟨by rfl,?_⟩) hHeld ?_ ?_
        rotate_left
        ·rintro w' ⟨s0,s1,s2,s3,s4⟩
         go_simp
         with_reducible rfl
        rotate_left
        ·simp only [Act.put,sA,sO,sS,i64_w,i32_w]
         rfl
        refine pure_ (i:=11) (N:=some 52) (v:=?_) (a':=?_) spec_HuffRead.m14 rfl rfl (any_of HT_.out (by kernel_rfl)) (fun _ _ _ h=>h) (Or.inl ⟨by rfl,?_⟩) ?_ ?_
        rotate_left
        ·intro w'
         go_simp
         with_reducible rfl
        rotate_left
        ·simp only [Act.put,sA,sO,sS,i64_w,i32_w]
         rfl
        refine pure_ (i:=14) (N:=some 55) (v:=?_) (a':=?_) spec_HuffRead.m15 rfl rfl (any_of HT_.out (by kernel_rfl)) (fun _ _ _ h=>h) (Or.inl ⟨by rfl,?_⟩) ?_ ?_
        rotate_left
        ·intro w'
         go_simp
         with_reducible rfl
        rotate_left
        ·simp only [Act.put,sA,sO,sS,i64_w,i32_w]
         rfl
        refine pure_ (i:=15) (N:=some 56) (v:=?_) (a':=?_) spec_HuffRead.m16 rfl rfl (any_of HT_.out (by kernel_rfl)) (fun _ _ _ h=>h) (Or.inl ⟨by rfl,?_⟩) ?_ ?_
        rotate_left
        ·intro w'
         go_simp
         with_reducible rfl
        rotate_left
        ·simp only [Act.put,sA,sO,sS,i64_w,i32_w]
         rfl
        refine pure_ (i:=16) (N:=some 57) (v:=?_) (a':=?_) spec_HuffRead.m17 rfl rfl (any_of HT_.out (by kernel_rfl)) (fun _ _ _ h=>h) (Or.inl ⟨by rfl,?_⟩) ?_ ?_
        rotate_left
        ·intro w'
         go_simp
         with_reducible rfl
        rotate_left
        ·simp only [Act.put,sA,sO,sS,i64_w,i32_w]
         rfl
        refine pure_ (i:=17) (N:=some 58) (v:=?_) (a':=?_) spec_HuffRead.m18 rfl rfl (any_of HT_.out (by kernel_rfl)) (fun _ _ _ h=>h) (Or.inl ⟨by rfl,?_⟩) ?_ ?_
        rotate_left
        ·intro w'
         go_simp
         with_reducible rfl
        rotate_left
        ·simp only [Act.put,sA,sO,sS,i64_w,i32_w]
         rfl
        refine pure_ (i:=18) (N:=some 59) (v:=?_) (a':=?_) spec_HuffRead.m19 rfl rfl (any_of HT_.out (by kernel_rfl)) (fun _ _ _ h=>h) (Or.inl ⟨by rfl,?_⟩) ?_ ?_
        rotate_left
        ·intro w'
         go_simp
         with_reducible rfl
        rotate_left
        ·simp only [Act.put,sA,sO,sS,i64_w,i32_w]
         rfl
        refine pure_ (i:=19) (N:=some 60) (v:=?_) (a':=?_) spec_HuffRead.m20 rfl rfl (any_of HT_.out (by kernel_rfl)) (fun _ _ _ h=>h) (Or.inl ⟨by rfl,?_⟩) ?_ ?_
        rotate_left
        ·intro w'
         go_simp
         with_reducible rfl
        rotate_left
        ·simp only [Act.put,sA,sO,sS,i64_w,i32_w]
         rfl
        refine pure_ (i:=21) (N:=some 62) (v:=?_) (a':=?_) spec_HuffRead.m41 rfl rfl (any_of HT_.out (by kernel_rfl)) (fun _ _ _ h=>h) (Or.inl ⟨by rfl,?_⟩) ?_ ?_
        rotate_left
        ·intro w'
         go_simp
         with_reducible rfl
        rotate_left
        ·simp only [Act.put,sA,sO,sS,i64_w,i32_w]
         rfl
        refine pure_ (i:=22) (N:=some 63) (v:=?_) (a':=?_) spec_HuffRead.m42 rfl rfl (any_of HT_.out (by kernel_rfl)) (fun _ _ _ h=>h) (Or.inl ⟨by rfl,?_⟩) ?_ ?_
        rotate_left
        ·intro w'
         go_simp
         with_reducible rfl
        rotate_left
        ·simp only [Act.put,sA,sO,sS,i64_w,i32_w]
         rfl
        refine pure_ (i:=23) (N:=some 64) (v:=?_) (a':=?_) spec_HuffRead.m43 rfl rfl (any_of HT_.out (by kernel_rfl)) (fun _ _ _ h=>h) (Or.inl ⟨by rfl,?_⟩) ?_ ?_
        rotate_left
        ·intro w'
         go_simp
         with_reducible rfl
        rotate_left
        ·simp only [Act.put,sA,sO,sS,i64_w,i32_w]
         rfl
        refine pure_ (i:=26) (N:=some 67) (v:=?_) (a':=?_) spec_HuffRead.m44 rfl rfl (any_of HT_.out (by kernel_rfl)) (fun _ _ _ h=>h) (Or.inl ⟨by rfl,?_⟩) ?_ ?_
        rotate_left
        ·intro w'
         go_simp
         with_reducible rfl
        rotate_left
        ·simp only [Act.put,sA,sO,sS,i64_w,i32_w]
         rfl
        refine pure_ (i:=27) (N:=some 68) (v:=?_) (a':=?_) spec_HuffRead.m45 rfl rfl (any_of HT_.out (by kernel_rfl)) (fun _ _ _ h=>h) (Or.inl ⟨by rfl,?_⟩) ?_ ?_
        rotate_left
        ·intro w'
         go_simp
         with_reducible rfl
        rotate_left
        ·simp only [Act.put,sA,sO,sS,i64_w,i32_w]
         rfl
        refine pure_ (i:=28) (N:=some 69) (v:=?_) (a':=?_) spec_HuffRead.m46 rfl rfl (any_of HT_.out (by kernel_rfl)) (fun _ _ _ h=>h) (Or.inl ⟨by rfl,?_⟩) ?_ ?_
        rotate_left
        ·intro w'
         go_simp
         with_reducible rfl
        rotate_left
        ·simp only [Act.put,sA,sO,sS,i64_w,i32_w]
         rfl
        refine pure_ (i:=29) (N:=some 70) (v:=?_) (a':=?_) spec_HuffRead.m47 rfl rfl (any_of HT_.out (by kernel_rfl)) (fun _ _ _ h=>h) (Or.inl ⟨by rfl,?_⟩) ?_ ?_
        rotate_left
        ·intro w'
         go_simp
         with_reducible rfl
        rotate_left
        ·simp only [Act.put,sA,sO,sS,i64_w,i32_w]
         rfl
        refine pure_ (i:=30) (N:=some 71) (v:=?_) (a':=?_) spec_HuffRead.m48 rfl rfl (any_of HT_.out (by kernel_rfl)) (fun _ _ _ h=>h) (Or.inl ⟨by rfl,?_⟩) ?_ ?_
        rotate_left
        ·intro w'
         go_simp
         with_reducible rfl
        rotate_left
        ·simp only [Act.put,sA,sO,sS,i64_w,i32_w]
         rfl
        refine pure_ (i:=31) (N:=some 72) (v:=?_) (a':=?_) spec_HuffRead.m49 rfl rfl (any_of HT_.out (by kernel_rfl)) (fun _ _ _ h=>h) (Or.inl ⟨by rfl,?_⟩) ?_ ?_
        rotate_left
        ·intro w'
         go_simp
         with_reducible rfl
        rotate_left
        ·simp only [Act.put,sA,sO,sS,i64_w,i32_w]
         rfl
        refine take_ (i:=20) (N:=some 61) (v:=?_) (a':=?_) spec_HuffRead.m50 rfl rfl (take_ofW HT_.out HW_.out (by kernel_rfl)) (fun _ _ _ h=>h) (Or.inl ⟨by rfl,?_⟩) hHeld ?_ ?_
        rotate_left
        ·rintro w' ⟨s0,s1,s2,s3,s4⟩
         go_simp
         with_reducible rfl
        rotate_left
        ·simp only [Act.put,sA,sO,sS,i64_w,i32_w]
         rfl
        refine take_ (i:=24) (N:=some 65) (v:=?_) (a':=?_) spec_HuffRead.m51 rfl rfl (take_ofW HT_.out HW_.out (by kernel_rfl)) (fun _ _ _ h=>h) (Or.inl ⟨by rfl,?_⟩) hHeld ?_ ?_
        rotate_left
        ·rintro w' ⟨s0,s1,s2,s3,s4⟩
         go_simp
         with_reducible rfl
        rotate_left
        ·simp only [Act.put,sA,sO,sS,i64_w,i32_w]
         rfl
        refine take_ (i:=32) (N:=some 73) (v:=?_) (a':=?_) spec_HuffRead.m52 rfl rfl (take_ofW HT_.out HW_.out (by kernel_rfl)) (fun _ _ _ h=>h) (Or.inl ⟨by rfl,?_⟩) hHeld ?_ ?_
        rotate_left
        ·rintro w' ⟨s0,s1,s2,s3,s4⟩
         go_simp
         with_reducible rfl
        rotate_left
        ·simp only [Act.put,sA,sO,sS,i64_w,i32_w]
         rfl
        refine pure_ (i:=33) (N:=some 74) (v:=?_) (a':=?_) spec_HuffRead.m53 rfl rfl (any_of HT_.out (by kernel_rfl)) (fun _ _ _ h=>h) (Or.inl ⟨by rfl,?_⟩) ?_ ?_
        rotate_left
        ·intro w'
         go_simp
         with_reducible rfl
        rotate_left
        ·simp only [Act.put,sA,sO,sS,i64_w,i32_w]
         rfl
        refine pure_ (i:=34) (N:=some 75) (v:=?_) (a':=?_) spec_HuffRead.m54 rfl rfl (any_of HT_.out (by kernel_rfl)) (fun _ _ _ h=>h) (Or.inl ⟨by rfl,?_⟩) ?_ ?_
        rotate_left
        ·intro w'
         go_simp
         with_reducible rfl
        rotate_left
        ·simp only [Act.put,sA,sO,sS,i64_w,i32_w]
         rfl
        refine one_ (i:=25) (N:=some 66) spec_HuffRead.m35 rfl rfl (one_of HT_.out (by kernel_rfl)) (by decide) (fun K hK=>?_)
        refine goes_ Try.func39 (by kernel_rfl) rfl #[.int .i64 (rd t183 x13_3),.int .i64 (rd l1 x13_3)] (by rfl) rfl rfl (by (try simp only [mA,mC,mN]);first|done|rfl|(simp only [List.length_drop,List.length_take];done)|(simp only [List.length_drop,List.length_take];rfl)) ?_
        with_reducible refine (spec_l08Code.calls k3 (rd t183 x13_3) (rd l1 x13_3) t193 _ A32.out).mono ?_
        rintro e w40 ⟨v194,rfl,ho0,hb⟩
        have HS2_:=(hb.cell (World.block_lt_of_cell? _ _ (hHeld.2.2.1))).trans (hHeld.2.2.1)
        refine⟨_,rfl,?_⟩
        have HO195:=mk0 (Kd.R_lower (Kd.R_new' (Kd.R_new' (Kd.R_new' ho0 (Kd.R_lt (rR HO_10.out))) (Kd.R_lt (rR HO_27.out))) (Kd.R_lt (rR HO_29.out))) (kZ HB.out))
        replace HO_10:=mk0 (Kd.R_elder' (rR HO_10.out) (Kd.R_base ho0) hb)
        replace HO_27:=mk0 (Kd.R_elder' (rR HO_27.out) (Kd.R_base ho0) hb)
        replace HO_29:=mk0 (Kd.R_elder' (rR HO_29.out) (Kd.R_base ho0) hb)
        replace BK177:=mk0 (kK BK177.out hb)
        replace HR200:=mk0 (Kd.C_below (by repeat (first|(with_reducible exact HR200.out)|(with_reducible first|apply aC|apply nC|apply dC)|exact HR200.out)) hb)
        replace HB:=mk0 (kS HB.out hb)
        (try clear hb)
        (try clear ho0)
        obtain⟨Ao41,co41,eo41⟩:=Kd.R_slice HO195.out
        (first|subst eo41|(injection eo41 with f1_ f2_ f3_;have f4_:=f1_.symm;have f5_:=f3_.symm;clear f1_ f2_ f3_;subst f4_;subst f5_))
        refine hK.out _ _ ⟨((HB.out.cell (World.block_lt_of_cell? w _ hw189_0)).trans hw189_0),((HB.out.cell (World.block_lt_of_cell? w _ hw190_0)).trans hw190_0),HS2_,((HB.out.cell (World.block_lt_of_cell? w _ hw192_0)).trans hw192_0),((HB.out.cell (World.block_lt_of_cell? w _ hw196_0)).trans hw196_0)⟩ (fun hHeld=>?_)
        clear hK K
        refine norm_ (a':=?_) ?_ ?_
        rotate_left
        ·show Act.put _ (some 66) _ = _
         simp only [Act.put,sA,sO,sS,i64_w,i32_w]
         rfl
        refine one_ (i:=35) (N:=some 76) spec_HuffRead.m36 rfl rfl (one_of HT_.out (by kernel_rfl)) (by decide) (fun K hK=>?_)
        refine goes_ Try.func60 (by kernel_rfl) rfl #[.slice Ao41 t193.length co41,.slice A39 y197.length c39] (by rfl) rfl rfl (by (try simp only [mA,mC,mN]);first|done|rfl|(simp only [List.length_drop,List.length_take];done)|(simp only [List.length_drop,List.length_take];rfl)) ?_
        with_reducible refine (spec_l01Same.calls k3 _ _ t193 _ _ y197 t201 _ ?side1 ?side2 ?side3 ?side4 A36.out).mono ?_
        (case side1=>exact kC (Kd.R_reads' HO195.out).2.2)
        (case side2=>exact (Kd.R_reads' HO195.out).2.1)
        (case side3=>repeat (first|exact (by repeat (first|(with_reducible exact HR200.out)|(with_reducible first|apply aC|apply nC|apply dC)|exact HR200.out))|(with_reducible first|apply aC|apply nC|apply dC)))
        (case side4=>exact HC200.out)
        rintro e w' ⟨rfl,⟨nd,rfl⟩⟩
        refine⟨_,rfl,?_⟩
        refine hK.out _ _ ⟨((HB.out.cell (World.block_lt_of_cell? w _ hw189_0)).trans hw189_0),((HB.out.cell (World.block_lt_of_cell? w _ hw190_0)).trans hw190_0),hHeld.2.2.1,((HB.out.cell (World.block_lt_of_cell? w _ hw192_0)).trans hw192_0),((HB.out.cell (World.block_lt_of_cell? w _ hw196_0)).trans hw196_0)⟩ (fun hHeld=>?_)
        clear hK K
        refine norm_ (a':=?_) ?_ ?_
        rotate_left
        ·show Act.put _ (some 76) _ = _
         simp only [Act.put,sA,sO,sS,i64_w,i32_w]
         rfl
        refine pure_ (i:=36) (N:=some 77) (v:=?_) (a':=?_) spec_HuffRead.m37 rfl rfl (any_of HT_.out (by kernel_rfl)) (fun _ _ _ h=>h) (Or.inl ⟨by rfl,?_⟩) ?_ ?_
        rotate_left
        ·intro w'
         go_simp
         with_reducible rfl
        rotate_left
        ·simp only [Act.put,sA,sO,sS,i64_w,i32_w]
         rfl
        refine done_ (done_of HT_.out (by kernel_rfl)) ?_
        try go_wp2
        go_meet
        case rel=>exact⟨_,(t201),(by first|rfl|(simp;done)|(simp [*];done)),H',⟨by have:=HJ3.out;have:=HK2.out;have:=HK3.out;first|omega|exact Nat.le_refl _⟩,⟨by (with_reducible repeat (first|apply aR|apply nR|apply dR));exact Kd.R_mono HO_27.out (by first|exact fun _ hk=>⟨hk.1.2,hk.1.1⟩|(intro k_ hk;simp only [hk,ne_eq,and_self,not_false_eq_true]))⟩,⟨by (with_reducible repeat (first|apply aR|apply nR|apply dR));exact Kd.R_mono HO_29.out (by first|exact fun _ hk=>⟨hk.1.2,hk.1.1⟩|(intro k_ hk;simp only [hk,ne_eq,and_self,not_false_eq_true]))⟩,⟨by (with_reducible repeat (first|apply aR|apply nR|apply dR));exact Kd.R_mono HO_10.out (by first|exact fun _ hk=>⟨hk.1.1,hk.1.2⟩|(intro k_ hk;simp only [hk,ne_eq,and_self,not_false_eq_true]))⟩,⟨kN BK177.out⟩,⟨kB HB.out⟩⟩
       case rest =>
        clear HC27
        try clear p1
        try clear q1
        try clear hx1
        try clear c2
        try clear p2
        try clear c3
        try clear c6
        try clear p6
        try clear p18
        try clear q18
        try clear hx18
        try clear p19
        try clear q19
        try clear hx19
        try clear c28
        try clear c29
        try clear c29b0
        try clear c30
        try clear c30b0
        try clear c31
        try clear c33
        try clear c34
        try clear c39
        try clear hx189_0
        try clear hx190_0
        try clear p189
        try clear p190
        try clear q189
        try clear q190
        obtain⟨kq,x77_26,rfl,HA,HJ26,HO_8,HO_9,HO_10,BK177,HB⟩:=hcut
        cases kq with
        | zero=>exact absurd HA.out (by simp [spec_HuffRead.j3])
        | succ kj26 =>
         have H:=HA.out
         clear HA
         simp only [spec_HuffRead.j3] at H
         by_cases c44:x77_26 = true
         ·subst c44
          have H1:(spec_HuffRead.l1 kj26 l1 a2 x10_2 x11_2 x13_3 (wrap64 (x13_3 + 1)) t180 t183) = some (r1,r2):=by rw [if_pos rfl] at H;exact H
          clear H
          have H:=H1
          clear H1
          have H':=mk0 H
          clear H
          go_wp2
          go_roundg kj26
          case measure=>have:=HJ3.out;have:=HK2.out;have:=HK3.out;have:=HJ26.out;omega
          case rel=>exact⟨(x13_3),(wrap64 (x13_3 + 1)),(by first|rfl|(simp;done)|(simp [*];done)),(by first|rfl|(simp;done)|(simp [*];done)),H',⟨by have:=HJ3.out;have:=HK2.out;have:=HK3.out;have:=HJ26.out;omega⟩,⟨rR HO_10.out⟩,⟨by (with_reducible repeat (first|apply aR|apply nR|apply dR));exact Kd.R_mono HO_8.out (by first|exact fun _ hk=>⟨hk.2,hk.1⟩|(intro k_ hk;simp only [hk,ne_eq,and_self,not_false_eq_true]))⟩,⟨by (with_reducible repeat (first|apply aR|apply nR|apply dR));exact Kd.R_mono HO_9.out (by first|exact fun _ hk=>⟨hk.2,hk.1⟩|(intro k_ hk;simp only [hk,ne_eq,and_self,not_false_eq_true]))⟩,⟨kN BK177.out⟩,⟨kB HB.out⟩⟩
         replace c44:=Bool.eq_false_iff.mpr c44
         subst c44
         have H1:(spec_HuffRead.l1 kj26 l1 a2 x10_2 x11_2 x12_3 (wrap64 (x13_3 + 1)) t180 t183) = some (r1,r2):=by rw [if_neg (show ¬ (false = true) by decide)] at H;exact H
         clear H
         have H:=H1
         clear H1
         have H':=mk0 H
         clear H
         go_wp2
         go_roundg kj26
         case measure=>have:=HJ3.out;have:=HK2.out;have:=HK3.out;have:=HJ26.out;omega
         case rel=>exact⟨(x12_3),(wrap64 (x13_3 + 1)),(by first|rfl|(simp;done)|(simp [*];done)),(by first|rfl|(simp;done)|(simp [*];done)),H',⟨by have:=HJ3.out;have:=HK2.out;have:=HK3.out;have:=HJ26.out;omega⟩,⟨rR HO_10.out⟩,⟨by (with_reducible repeat (first|apply aR|apply nR|apply dR));exact Kd.R_mono HO_8.out (by first|exact fun _ hk=>⟨hk.2,hk.1⟩|(intro k_ hk;simp only [hk,ne_eq,and_self,not_false_eq_true]))⟩,⟨by (with_reducible repeat (first|apply aR|apply nR|apply dR));exact Kd.R_mono HO_9.out (by first|exact fun _ hk=>⟨hk.2,hk.1⟩|(intro k_ hk;simp only [hk,ne_eq,and_self,not_false_eq_true]))⟩,⟨kN BK177.out⟩,⟨kB HB.out⟩⟩
end Go.Proofs.Ytgjmmegmkdklbaa.QFnExactHuffRead
