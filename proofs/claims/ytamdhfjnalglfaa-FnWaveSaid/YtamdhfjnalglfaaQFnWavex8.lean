-- A walk, made by walk.py, a program of this session's.
import Derived.Test.YtamdhfjnalglfaaQFnWavex0
import Derived.Test.YtamdhfjnalglfaaQFnWavex3
import Derived.Test.YtamdhfjnalglfaaQFnWavex5
import Derived.Test.YtamdhfjnalglfaaQFnWavex6
import Derived.Test.YtamdhfjnalglfaaQFnWavex7
namespace Go.Proofs.Ytamdhfjnalglfaa.QFnWave
open Go.RowKit Go.Proofs.YtamdhfjnalglfaaW.PrintWords Go.Proofs.YtamdhfjnalglfaaW.PrintLast Go.Proofs.YtamdhfjnalglfaaW.PrintMore
attribute [local go_sem] max2_int min2_int max_two min_two max_three min_three max_four min_four   -- for this text's walks alone
set_option linter.unusedVariables false
set_option linter.unusedSimpArgs false

/-! ### laws_FnWave: function 4 -/
mutual
def laws_FnWave.j0 : Nat → List Int → List Int → Bool → Bool → Bool → Int → List Int → List (S64) → Option (Bool)
 | 0, _, _, _, _, _, _, _, _ => none
 | k + 1, x0, x3, x5, x7, x30, x391000, x391001, x391002 => if x30 = true then (some (x7 == x5)) else ((impl_WaveList.f k x391000 x391001 x391002).bind fun t391 => ((laws_same.f k t391 x3).bind fun t394 => (if t394 = true then ((impl_WaveOk.f k x391000 x391001 x391002).bind fun t395 => (laws_FnWave.j1 k x0 x3 (!t395) x391000 x391001 x391002)) else (laws_FnWave.j1 k x0 x3 true x391000 x391001 x391002))))
def laws_FnWave.j1 : Nat → List Int → List Int → Bool → Int → List Int → List (S64) → Option (Bool)
 | 0, _, _, _, _, _, _ => none
 | k + 1, x0, x3, x43, x391000, x391001, x391002 => if x43 = true then (some false) else (if (x3.length : Int) = 0 then ((impl_WaveAt.f k x391000 x391001 x391002 0).bind fun t396 => (some (t396 == (-1)))) else ((laws_pick.f k x0 3 (x3.length : Int)).bind fun t397 => (if 0 ≤ t397 then (if t397 < (x3.length : Int) then ((impl_WaveRank.f k x391000 x391001 x391002 (rd x3 t397) t397).bind fun t399 => ((impl_WaveAt.f k x391000 x391001 x391002 t397).bind fun t400 => (if t400 = (rd x3 t397) then (if t397 ≤ (x3.length : Int) then ((laws_count.f k (x3.take (t397 : Int).toNat) (rd x3 t397)).bind fun t408 => (if t399 = t408 then ((impl_WaveSelect.f k x391000 x391001 x391002 (rd x3 t397) t399).bind fun t410 => (if t410 = t397 then ((impl_WaveRank.f k x391000 x391001 x391002 (rd x3 t397) (wrap64 (t397 + 1))).bind fun t412 => (some (t412 == (wrap64 (t399 + 1))))) else (some false))) else (some false))) else (none)) else (some false)))) else (none)) else (none))))
end
def laws_FnWave.f (k : Nat) (l0 : List Int) : Option (Bool) := (laws_big.f l0).bind fun t369 => (if t369 = true then (some true) else ((spec_DrawWaveOf.f k l0).bind fun t370 => ((spec_WaveOf.f k t370).bind fun bt373 => ((impl_WaveOf.f k t370).bind fun bt382 => (if (bt382.2.2.2 != bt373.2.2.2) = true then (laws_FnWave.j0 k l0 t370 bt373.2.2.2 bt382.2.2.2 true bt382.1 bt382.2.1 bt382.2.2.1) else (laws_FnWave.j0 k l0 t370 bt373.2.2.2 bt382.2.2.2 (!bt382.2.2.2) bt382.1 bt382.2.1 bt382.2.2.1))))))
theorem laws_FnWave.mono_l : ∀ k, (∀ y0 y1 y2 y3 y4 y5 y6 y7, LeO (laws_FnWave.j0 k y0 y1 y2 y3 y4 y5 y6 y7) (laws_FnWave.j0 (k + 1) y0 y1 y2 y3 y4 y5 y6 y7)) ∧ (∀ y0 y1 y2 y3 y4 y5, LeO (laws_FnWave.j1 k y0 y1 y2 y3 y4 y5) (laws_FnWave.j1 (k + 1) y0 y1 y2 y3 y4 y5))
 | 0 => ⟨fun _ _ _ _ _ _ _ _ r h => by simp [laws_FnWave.j0] at h, fun _ _ _ _ _ _ r h => by simp [laws_FnWave.j1] at h⟩
 | k + 1 => by
  obtain ⟨ih0, ih1⟩ := laws_FnWave.mono_l k
  refine ⟨?_, ?_⟩
  ·intro y0 y1 y2 y3 y4 y5 y6 y7
   unfold laws_FnWave.j0
   repeat' first|(with_reducible first|exact ih0 _ _ _ _ _ _ _ _|exact ih1 _ _ _ _ _ _|exact impl_WaveAt.mono _ _ _ _ _|exact impl_WaveList.mono _ _ _ _|exact impl_WaveOf.mono _ _|exact impl_WaveOk.mono _ _ _ _|exact impl_WaveRank.mono _ _ _ _ _ _|exact impl_WaveSelect.mono _ _ _ _ _ _|exact laws_count.mono _ _ _|exact laws_pick.mono _ _ _ _|exact laws_same.mono _ _ _|exact spec_DrawWaveOf.mono _ _|exact spec_WaveOf.mono _ _|exact LeO.refl _|exact LeO.none _|refine LeO.ite ?_ ?_|refine LeO.bind ?_ (fun _ => ?_))|exact LeO.none _|refine LeO.ite ?_ ?_|refine LeO.bind ?_ (fun _ => ?_)
  ·intro y0 y1 y2 y3 y4 y5
   unfold laws_FnWave.j1
   repeat' first|(with_reducible first|exact ih0 _ _ _ _ _ _ _ _|exact ih1 _ _ _ _ _ _|exact impl_WaveAt.mono _ _ _ _ _|exact impl_WaveList.mono _ _ _ _|exact impl_WaveOf.mono _ _|exact impl_WaveOk.mono _ _ _ _|exact impl_WaveRank.mono _ _ _ _ _ _|exact impl_WaveSelect.mono _ _ _ _ _ _|exact laws_count.mono _ _ _|exact laws_pick.mono _ _ _ _|exact laws_same.mono _ _ _|exact spec_DrawWaveOf.mono _ _|exact spec_WaveOf.mono _ _|exact LeO.refl _|exact LeO.none _|refine LeO.ite ?_ ?_|refine LeO.bind ?_ (fun _ => ?_))|exact LeO.none _|refine LeO.ite ?_ ?_|refine LeO.bind ?_ (fun _ => ?_)
theorem laws_FnWave.mono : ∀ a0 k, LeO (laws_FnWave.f k a0) (laws_FnWave.f (k + 1) a0) := by
 intro a0 k
 obtain ⟨ih0, ih1⟩ := laws_FnWave.mono_l k
 unfold laws_FnWave.f
 repeat' first|(with_reducible first|exact ih0 _ _ _ _ _ _ _ _|exact ih1 _ _ _ _ _ _|exact impl_WaveAt.mono _ _ _ _ _|exact impl_WaveList.mono _ _ _ _|exact impl_WaveOf.mono _ _|exact impl_WaveOk.mono _ _ _ _|exact impl_WaveRank.mono _ _ _ _ _ _|exact impl_WaveSelect.mono _ _ _ _ _ _|exact laws_count.mono _ _ _|exact laws_pick.mono _ _ _ _|exact laws_same.mono _ _ _|exact spec_DrawWaveOf.mono _ _|exact spec_WaveOf.mono _ _|exact LeO.refl _|exact LeO.none _|refine LeO.ite ?_ ?_|refine LeO.bind ?_ (fun _ => ?_))|exact LeO.none _|refine LeO.ite ?_ ?_|refine LeO.bind ?_ (fun _ => ?_)
def laws_FnWave.T13 : Bool × List (List Nat × List Nat) := (true, [([], []), ([], []), ([], []), ([1, 2], [1, 2]), ([3], [3]), ([], []), ([0, 4, 5], [0, 4, 5]), ([6, 6, 0, 1, 2, 3, 4, 5, 6], [6])])
def laws_FnWave.B13 : List Nat := [0, 0, 0, 6, 14, 0, 63, 127]
theorem laws_FnWave.tab13 : rtab .any (opsOf Try.f4 13) = laws_FnWave.T13 := by kernel_rfl
theorem laws_FnWave.bits13 : waitsOk laws_FnWave.T13.2 laws_FnWave.B13 = true := by kernel_rfl
def laws_FnWave.T14 : Bool × List (List Nat × List Nat) := (true, [([], []), ([], []), ([0, 1], [0, 1]), ([], []), ([], []), ([3, 4], [3, 4]), ([5], [5]), ([2, 6], [2, 6]), ([7, 2], [7]), ([8], [8]), ([8], [8]), ([8], [8]), ([10, 11, 8], [8, 10, 11]), ([8], [8]), ([8], [8]), ([13, 14, 8], [8, 13, 14]), ([15, 8], [8, 15]), ([12, 16, 8, 8], [8, 12, 16]), ([9, 17, 8], [8, 9, 17]), ([8, 18], [8, 18]), ([19, 17], [19]), ([20], [20]), ([20], [20]), ([20], [20]), ([22, 23, 20], [20, 22, 23]), ([24, 20], [20, 24]), ([20], [20]), ([21, 25, 26, 20, 20], [20, 21, 25, 26]), ([20], [20]), ([27, 28, 20], [20, 27, 28]), ([20, 29], [20, 29]), ([30, 27], [30]), ([31], [31]), ([31], [31]), ([31], [31]), ([33, 34, 31], [31, 33, 34]), ([35, 31], [31, 35]), ([31], [31]), ([37, 31], [31, 37]), ([32, 36, 38, 31, 31], [31, 32, 36, 38]), ([31], [31]), ([40, 31], [31, 40]), ([39, 41, 31], [31, 39, 41]), ([31, 42], [31, 42]), ([43, 39, 0, 1, 2, 3, 4, 5, 6, 7, 8, 9, 10, 11, 12, 13, 14, 15, 16, 17, 18, 19, 20, 21, 22, 23, 24, 25, 26, 27, 28, 29, 30, 31, 32, 33, 34, 35, 36, 37, 38, 39, 40, 41, 42, 43], [43])])
def laws_FnWave.B14 : List Nat := [0, 0, 3, 0, 0, 24, 56, 127, 255, 511, 511, 511, 3583, 511, 511, 25087, 57855, 130559, 262143, 524287, 1048575, 2097151, 2097151, 2097151, 14680063, 31457279, 2097151, 134217727, 2097151, 536870911, 1073741823, 2147483647, 4294967295, 4294967295, 4294967295, 30064771071, 64424509439, 4294967295, 141733920767, 549755813887, 4294967295, 1103806595071, 4398046511103, 8796093022207, 17592186044415]
theorem laws_FnWave.tab14 : rtab .any (opsOf Try.f4 14) = laws_FnWave.T14 := by kernel_rfl
theorem laws_FnWave.bits14 : waitsOk laws_FnWave.T14.2 laws_FnWave.B14 = true := by kernel_rfl
abbrev laws_FnWave.m0 : Array Bool := #[F,F,F,F,F,F,F,F]
abbrev laws_FnWave.m1 : Array Bool := #[F,T,F,F,F,F,F,F]
abbrev laws_FnWave.m2 : Array Bool := #[F,T,T,F,F,F,F,F]
abbrev laws_FnWave.m3 : Array Bool := #[F,T,T,T,F,F,F,F]
abbrev laws_FnWave.m4 : Array Bool := #[F,T,T,T,F,T,F,F]
abbrev laws_FnWave.m5 : Array Bool := #[T,T,T,T,F,T,F,F]
abbrev laws_FnWave.m6 : Array Bool := #[F,F,F,F,F,F,F,F,F,F,F,F,F,F,F,F,F,F,F,F,F,F,F,F,F,F,F,F,F,F,F,F,F,F,F,F,F,F,F,F,F,F,F,F,F]
abbrev laws_FnWave.m7 : Array Bool := #[F,T,F,F,F,F,F,F,F,F,F,F,F,F,F,F,F,F,F,F,F,F,F,F,F,F,F,F,F,F,F,F,F,F,F,F,F,F,F,F,F,F,F,F,F]
abbrev laws_FnWave.m8 : Array Bool := #[F,T,F,T,F,F,F,F,F,F,F,F,F,F,F,F,F,F,F,F,F,F,F,F,F,F,F,F,F,F,F,F,F,F,F,F,F,F,F,F,F,F,F,F,F]
abbrev laws_FnWave.m9 : Array Bool := #[F,T,F,T,T,F,F,F,F,F,F,F,F,F,F,F,F,F,F,F,F,F,F,F,F,F,F,F,F,F,F,F,F,F,F,F,F,F,F,F,F,F,F,F,F]
abbrev laws_FnWave.m10 : Array Bool := #[F,T,F,T,T,T,F,F,F,F,F,F,F,F,F,F,F,F,F,F,F,F,F,F,F,F,F,F,F,F,F,F,F,F,F,F,F,F,F,F,F,F,F,F,F]
abbrev laws_FnWave.m11 : Array Bool := #[T,T,F,T,T,T,F,F,F,F,F,F,F,F,F,F,F,F,F,F,F,F,F,F,F,F,F,F,F,F,F,F,F,F,F,F,F,F,F,F,F,F,F,F,F]
abbrev laws_FnWave.m12 : Array Bool := #[T,T,F,T,T,T,T,F,F,F,F,F,F,F,F,F,F,F,F,F,F,F,F,F,F,F,F,F,F,F,F,F,F,F,F,F,F,F,F,F,F,F,F,F,F]
abbrev laws_FnWave.m13 : Array Bool := #[T,T,T,T,T,T,T,F,F,F,F,F,F,F,F,F,F,F,F,F,F,F,F,F,F,F,F,F,F,F,F,F,F,F,F,F,F,F,F,F,F,F,F,F,F]
abbrev laws_FnWave.m14 : Array Bool := #[T,T,T,T,T,T,T,T,F,F,F,F,F,F,F,F,F,F,F,F,F,F,F,F,F,F,F,F,F,F,F,F,F,F,F,F,F,F,F,F,F,F,F,F,F]
abbrev laws_FnWave.m15 : Array Bool := #[T,T,T,T,T,T,T,T,T,F,F,F,F,F,F,F,F,F,F,F,F,F,F,F,F,F,F,F,F,F,F,F,F,F,F,F,F,F,F,F,F,F,F,F,F]
abbrev laws_FnWave.m16 : Array Bool := #[T,T,T,T,T,T,T,T,T,T,F,F,F,F,F,F,F,F,F,F,F,F,F,F,F,F,F,F,F,F,F,F,F,F,F,F,F,F,F,F,F,F,F,F,F]
abbrev laws_FnWave.m17 : Array Bool := #[T,T,T,T,T,T,T,T,T,T,T,F,F,F,F,F,F,F,F,F,F,F,F,F,F,F,F,F,F,F,F,F,F,F,F,F,F,F,F,F,F,F,F,F,F]
abbrev laws_FnWave.m18 : Array Bool := #[T,T,T,T,T,T,T,T,T,T,T,T,F,F,F,F,F,F,F,F,F,F,F,F,F,F,F,F,F,F,F,F,F,F,F,F,F,F,F,F,F,F,F,F,F]
abbrev laws_FnWave.m19 : Array Bool := #[T,T,T,T,T,T,T,T,T,T,T,T,T,F,F,F,F,F,F,F,F,F,F,F,F,F,F,F,F,F,F,F,F,F,F,F,F,F,F,F,F,F,F,F,F]
abbrev laws_FnWave.m20 : Array Bool := #[T,T,T,T,T,T,T,T,T,T,T,T,T,T,F,F,F,F,F,F,F,F,F,F,F,F,F,F,F,F,F,F,F,F,F,F,F,F,F,F,F,F,F,F,F]
abbrev laws_FnWave.m21 : Array Bool := #[T,T,T,T,T,T,T,T,T,T,T,T,T,T,T,F,F,F,F,F,F,F,F,F,F,F,F,F,F,F,F,F,F,F,F,F,F,F,F,F,F,F,F,F,F]
abbrev laws_FnWave.m22 : Array Bool := #[T,T,T,T,T,T,T,T,T,T,T,T,T,T,T,T,F,F,F,F,F,F,F,F,F,F,F,F,F,F,F,F,F,F,F,F,F,F,F,F,F,F,F,F,F]
abbrev laws_FnWave.m23 : Array Bool := #[T,T,T,T,T,T,T,T,T,T,T,T,T,T,T,T,T,F,F,F,F,F,F,F,F,F,F,F,F,F,F,F,F,F,F,F,F,F,F,F,F,F,F,F,F]
abbrev laws_FnWave.m24 : Array Bool := #[T,T,T,T,T,T,T,T,T,T,T,T,T,T,T,T,T,T,F,F,F,F,F,F,F,F,F,F,F,F,F,F,F,F,F,F,F,F,F,F,F,F,F,F,F]
abbrev laws_FnWave.m25 : Array Bool := #[T,T,T,T,T,T,T,T,T,T,T,T,T,T,T,T,T,T,T,F,F,F,F,F,F,F,F,F,F,F,F,F,F,F,F,F,F,F,F,F,F,F,F,F,F]
abbrev laws_FnWave.m26 : Array Bool := #[T,T,T,T,T,T,T,T,T,T,T,T,T,T,T,T,T,T,T,T,F,F,F,F,F,F,F,F,F,F,F,F,F,F,F,F,F,F,F,F,F,F,F,F,F]
abbrev laws_FnWave.m27 : Array Bool := #[T,T,T,T,T,T,T,T,T,T,T,T,T,T,T,T,T,T,T,T,T,F,F,F,F,F,F,F,F,F,F,F,F,F,F,F,F,F,F,F,F,F,F,F,F]
abbrev laws_FnWave.m28 : Array Bool := #[T,T,T,T,T,T,T,T,T,T,T,T,T,T,T,T,T,T,T,T,T,T,F,F,F,F,F,F,F,F,F,F,F,F,F,F,F,F,F,F,F,F,F,F,F]
abbrev laws_FnWave.m29 : Array Bool := #[T,T,T,T,T,T,T,T,T,T,T,T,T,T,T,T,T,T,T,T,T,T,T,F,F,F,F,F,F,F,F,F,F,F,F,F,F,F,F,F,F,F,F,F,F]
abbrev laws_FnWave.m30 : Array Bool := #[T,T,T,T,T,T,T,T,T,T,T,T,T,T,T,T,T,T,T,T,T,T,T,T,F,F,F,F,F,F,F,F,F,F,F,F,F,F,F,F,F,F,F,F,F]
abbrev laws_FnWave.m31 : Array Bool := #[T,T,T,T,T,T,T,T,T,T,T,T,T,T,T,T,T,T,T,T,T,T,T,T,T,F,F,F,F,F,F,F,F,F,F,F,F,F,F,F,F,F,F,F,F]
abbrev laws_FnWave.m32 : Array Bool := #[T,T,T,T,T,T,T,T,T,T,T,T,T,T,T,T,T,T,T,T,T,T,T,T,T,T,F,F,F,F,F,F,F,F,F,F,F,F,F,F,F,F,F,F,F]
abbrev laws_FnWave.m33 : Array Bool := #[T,T,T,T,T,T,T,T,T,T,T,T,T,T,T,T,T,T,T,T,T,T,T,T,T,T,T,F,F,F,F,F,F,F,F,F,F,F,F,F,F,F,F,F,F]
abbrev laws_FnWave.m34 : Array Bool := #[T,T,T,T,T,T,T,T,T,T,T,T,T,T,T,T,T,T,T,T,T,T,T,T,T,T,T,T,F,F,F,F,F,F,F,F,F,F,F,F,F,F,F,F,F]
abbrev laws_FnWave.m35 : Array Bool := #[T,T,T,T,T,T,T,T,T,T,T,T,T,T,T,T,T,T,T,T,T,T,T,T,T,T,T,T,T,F,F,F,F,F,F,F,F,F,F,F,F,F,F,F,F]
abbrev laws_FnWave.m36 : Array Bool := #[T,T,T,T,T,T,T,T,T,T,T,T,T,T,T,T,T,T,T,T,T,T,T,T,T,T,T,T,T,T,F,F,F,F,F,F,F,F,F,F,F,F,F,F,F]
abbrev laws_FnWave.m37 : Array Bool := #[T,T,T,T,T,T,T,T,T,T,T,T,T,T,T,T,T,T,T,T,T,T,T,T,T,T,T,T,T,T,T,F,F,F,F,F,F,F,F,F,F,F,F,F,F]
abbrev laws_FnWave.m38 : Array Bool := #[T,T,T,T,T,T,T,T,T,T,T,T,T,T,T,T,T,T,T,T,T,T,T,T,T,T,T,T,T,T,T,T,F,F,F,F,F,F,F,F,F,F,F,F,F]
abbrev laws_FnWave.m39 : Array Bool := #[T,T,T,T,T,T,T,T,T,T,T,T,T,T,T,T,T,T,T,T,T,T,T,T,T,T,T,T,T,T,T,T,T,F,F,F,F,F,F,F,F,F,F,F,F]
abbrev laws_FnWave.m40 : Array Bool := #[T,T,T,T,T,T,T,T,T,T,T,T,T,T,T,T,T,T,T,T,T,T,T,T,T,T,T,T,T,T,T,T,T,T,F,F,F,F,F,F,F,F,F,F,F]
abbrev laws_FnWave.m41 : Array Bool := #[T,T,T,T,T,T,T,T,T,T,T,T,T,T,T,T,T,T,T,T,T,T,T,T,T,T,T,T,T,T,T,T,T,T,T,F,F,F,F,F,F,F,F,F,F]
abbrev laws_FnWave.m42 : Array Bool := #[T,T,T,T,T,T,T,T,T,T,T,T,T,T,T,T,T,T,T,T,T,T,T,T,T,T,T,T,T,T,T,T,T,T,T,T,F,F,F,F,F,F,F,F,F]
abbrev laws_FnWave.m43 : Array Bool := #[T,T,T,T,T,T,T,T,T,T,T,T,T,T,T,T,T,T,T,T,T,T,T,T,T,T,T,T,T,T,T,T,T,T,T,T,T,F,F,F,F,F,F,F,F]
abbrev laws_FnWave.m44 : Array Bool := #[T,T,T,T,T,T,T,T,T,T,T,T,T,T,T,T,T,T,T,T,T,T,T,T,T,T,T,T,T,T,T,T,T,T,T,T,T,T,F,F,F,F,F,F,F]
abbrev laws_FnWave.m45 : Array Bool := #[T,T,T,T,T,T,T,T,T,T,T,T,T,T,T,T,T,T,T,T,T,T,T,T,T,T,T,T,T,T,T,T,T,T,T,T,T,T,T,F,F,F,F,F,F]
abbrev laws_FnWave.m46 : Array Bool := #[T,T,T,T,T,T,T,T,T,T,T,T,T,T,T,T,T,T,T,T,T,T,T,T,T,T,T,T,T,T,T,T,T,T,T,T,T,T,T,T,F,F,F,F,F]
abbrev laws_FnWave.m47 : Array Bool := #[T,T,T,T,T,T,T,T,T,T,T,T,T,T,T,T,T,T,T,T,T,T,T,T,T,T,T,T,T,T,T,T,T,T,T,T,T,T,T,T,T,F,F,F,F]
abbrev laws_FnWave.m48 : Array Bool := #[T,T,T,T,T,T,T,T,T,T,T,T,T,T,T,T,T,T,T,T,T,T,T,T,T,T,T,T,T,T,T,T,T,T,T,T,T,T,T,T,T,T,F,F,F]
abbrev laws_FnWave.m49 : Array Bool := #[T,T,T,T,T,T,T,T,T,T,T,T,T,T,T,T,T,T,T,T,T,T,T,T,T,T,T,T,T,T,T,T,T,T,T,T,T,T,T,T,T,T,T,F,F]
abbrev laws_FnWave.m50 : Array Bool := #[T,T,T,T,T,T,T,T,T,T,T,T,T,T,T,T,T,T,T,T,T,T,T,T,T,T,T,T,T,T,T,T,T,T,T,T,T,T,T,T,T,T,T,T,F]
abbrev laws_FnWave.m51 : Array Bool := #[T,T,T,T,T,T,T,T,T,T,T,T,T,T,T,T,T,T,T,T,T,T,T,T,T,T,T,T,T,T,T,T,T,T,T,T,T,T,T,T,T,T,T,T,T]
abbrev laws_FnWave.m52 : Array Bool := #[T,T,T,T,T,T,T,T,T,T,T,T,T,T,T,T,T,T,T,T,T,F,T,F,F,F,F,F,F,F,F,F,F,F,F,F,F,F,F,F,F,F,F,F,F]
abbrev laws_FnWave.m53 : Array Bool := #[T,T,T,T,T,T,T,T,T,T,T,T,T,T,T,T,T,T,T,T,T,F,T,T,F,F,F,F,F,F,F,F,F,F,F,F,F,F,F,F,F,F,F,F,F]
abbrev laws_FnWave.m54 : Array Bool := #[T,T,T,T,T,T,T,T,T,T,T,T,T,T,T,T,T,T,T,T,T,F,T,T,T,F,F,F,F,F,F,F,F,F,F,F,F,F,F,F,F,F,F,F,F]
abbrev laws_FnWave.m55 : Array Bool := #[T,T,T,T,T,T,T,T,T,T,T,T,T,T,T,T,T,T,T,T,T,F,T,T,T,F,T,F,F,F,F,F,F,F,F,F,F,F,F,F,F,F,F,F,F]
abbrev laws_FnWave.m56 : Array Bool := #[T,T,T,T,T,T,T,T,T,T,T,T,T,T,T,T,T,T,T,T,T,F,T,T,T,F,T,F,T,F,F,F,F,F,F,F,F,F,F,F,F,F,F,F,F]
abbrev laws_FnWave.m57 : Array Bool := #[T,T,T,T,T,T,T,T,T,T,T,T,T,T,T,T,T,T,T,T,T,T,T,T,T,F,T,F,T,F,F,F,F,F,F,F,F,F,F,F,F,F,F,F,F]
abbrev laws_FnWave.m58 : Array Bool := #[T,T,T,T,T,T,T,T,T,T,T,T,T,T,T,T,T,T,T,T,T,T,T,T,T,T,T,F,T,F,F,F,F,F,F,F,F,F,F,F,F,F,F,F,F]
abbrev laws_FnWave.m59 : Array Bool := #[T,T,T,T,T,T,T,T,T,T,T,T,T,T,T,T,T,T,T,T,T,T,T,T,T,T,T,T,T,T,T,T,F,T,F,F,F,F,F,F,F,F,F,F,F]
abbrev laws_FnWave.m60 : Array Bool := #[T,T,T,T,T,T,T,T,T,T,T,T,T,T,T,T,T,T,T,T,T,T,T,T,T,T,T,T,T,T,T,T,F,T,T,F,F,F,F,F,F,F,F,F,F]
abbrev laws_FnWave.m61 : Array Bool := #[T,T,T,T,T,T,T,T,T,T,T,T,T,T,T,T,T,T,T,T,T,T,T,T,T,T,T,T,T,T,T,T,F,T,T,T,F,F,F,F,F,F,F,F,F]
abbrev laws_FnWave.m62 : Array Bool := #[T,T,T,T,T,T,T,T,T,T,T,T,T,T,T,T,T,T,T,T,T,T,T,T,T,T,T,T,T,T,T,T,F,T,T,T,F,T,F,F,F,F,F,F,F]
abbrev laws_FnWave.m63 : Array Bool := #[T,T,T,T,T,T,T,T,T,T,T,T,T,T,T,T,T,T,T,T,T,T,T,T,T,T,T,T,T,T,T,T,F,T,T,T,F,T,T,F,F,F,F,F,F]
abbrev laws_FnWave.m64 : Array Bool := #[T,T,T,T,T,T,T,T,T,T,T,T,T,T,T,T,T,T,T,T,T,T,T,T,T,T,T,T,T,T,T,T,F,T,T,T,F,T,T,F,T,F,F,F,F]
abbrev laws_FnWave.m65 : Array Bool := #[T,T,T,T,T,T,T,T,T,T,T,T,T,T,T,T,T,T,T,T,T,T,T,T,T,T,T,T,T,T,T,T,F,T,T,T,F,T,T,F,T,T,F,F,F]
abbrev laws_FnWave.m66 : Array Bool := #[T,T,T,T,T,T,T,T,T,T,T,T,T,T,T,T,T,T,T,T,T,T,T,T,T,T,T,T,T,T,T,T,T,T,T,T,F,T,T,F,T,T,F,F,F]
abbrev laws_FnWave.m67 : Array Bool := #[T,T,T,T,T,T,T,T,T,T,T,T,T,T,T,T,T,T,T,T,T,T,T,T,T,T,T,T,T,T,T,T,T,T,T,T,T,T,T,F,T,T,F,F,F]
set_option maxHeartbeats 8000000 in
set_option maxRecDepth 100000 in
theorem laws_FnWave.calls (k : Nat) (A0 : Option Addr) (c0 : Nat) (l0 : List Int) (r : Bool) (w : World) (hr0 : Kd.C (Kd.int .u8) w A0 l0.length l0) (hc0 : l0.length ≤ c0) (h : laws_FnWave.f k l0 = some r) :
  Calls Try.prog 4 #[.slice A0 l0.length c0] w fun e w' => e = .returned (.bool r) ∧ Below w.heap.size w w' := by
 have hu30:=Try.underlying30
 have HR0:=mk0 hr0
 have HC0:=mk0 hc0
 clear hr0 hc0
 have HB:=mk0 (Below.refl w.heap.size w)
 have H:((laws_big.f l0).bind fun t369=>(if t369 = true then (some true) else ((spec_DrawWaveOf.f k l0).bind fun t370=>((spec_WaveOf.f k t370).bind fun bt373=>((impl_WaveOf.f k t370).bind fun bt382=>(if (bt382.2.2.2 != bt373.2.2.2) = true then (laws_FnWave.j0 k l0 t370 bt373.2.2.2 bt382.2.2.2 true bt382.1 bt382.2.1 bt382.2.2.1) else (laws_FnWave.j0 k l0 t370 bt373.2.2.2 bt382.2.2.2 (!bt382.2.2.2) bt382.1 bt382.2.1 bt382.2.2.1))))))) = some r:=h
 clear h
 replace H:=Option.bind_eq_some_iff.mp H
 obtain⟨t369,A20,H⟩:=H
 replace H:(if t369 = true then (some true) else ((spec_DrawWaveOf.f k l0).bind fun t370=>((spec_WaveOf.f k t370).bind fun bt373=>((impl_WaveOf.f k t370).bind fun bt382=>(if (bt382.2.2.2 != bt373.2.2.2) = true then (laws_FnWave.j0 k l0 t370 bt373.2.2.2 bt382.2.2.2 true bt382.1 bt382.2.1 bt382.2.2.1) else (laws_FnWave.j0 k l0 t370 bt373.2.2.2 bt382.2.2.2 (!bt382.2.2.2) bt382.1 bt382.2.1 bt382.2.2.1)))))) = some r:=H
 have A2:=mk0 A20
 clear A20
 by_cases c3:t369 = true
 ·subst c3
  have H1:(some true) = some r:=by rw [if_pos rfl] at H;exact H
  clear H
  have H:=H1
  clear H1
  obtain rfl:=Option.some.inj H
  go_enter Try.func4,Try.ntmps4
  go_wp2_with (first|((with_reducible refine gate_callee (f:=14) rfl ?_);refine goesL_ (some 11) rfl rfl Try.func14 (by kernel_rfl) rfl #[.slice A0 l0.length c0] rfl (by (try simp only [mA,mC,mN]);first|done|rfl|(simp only [List.length_drop,List.length_take];rfl)) ?_;(with_reducible refine (laws_big.calls _ _ l0 true _ ?side1 ?side2 A2.out).mono ?_);(case side1=>repeat (first|exact HR0.out|(with_reducible first|apply aC|apply nC|apply dC)));(case side2=>exact HC0.out);rintro e w' ⟨rfl,⟨nd,rfl⟩⟩;refine⟨_,rfl,?_⟩))
  go_ret
  exact⟨by first|rfl|(simp [errW_none,errW_some] <;> rfl)|(simp [*,errW_none,errW_some] <;> rfl),by repeat (first|(with_reducible first|exact HB.out|apply aZ|apply nZ|apply dZ)|exact HB.out)⟩
 replace c3:=Bool.eq_false_iff.mpr c3
 subst c3
 have H1:((spec_DrawWaveOf.f k l0).bind fun t370=>((spec_WaveOf.f k t370).bind fun bt373=>((impl_WaveOf.f k t370).bind fun bt382=>(if (bt382.2.2.2 != bt373.2.2.2) = true then (laws_FnWave.j0 k l0 t370 bt373.2.2.2 bt382.2.2.2 true bt382.1 bt382.2.1 bt382.2.2.1) else (laws_FnWave.j0 k l0 t370 bt373.2.2.2 bt382.2.2.2 (!bt382.2.2.2) bt382.1 bt382.2.1 bt382.2.2.1))))) = some r:=by rw [if_neg (show ¬ (false = true) by decide)] at H;exact H
 clear H
 have H:=H1
 clear H1
 replace H:=Option.bind_eq_some_iff.mp H
 obtain⟨t370,A40,H⟩:=H
 replace H:((spec_WaveOf.f k t370).bind fun bt373=>((impl_WaveOf.f k t370).bind fun bt382=>(if (bt382.2.2.2 != bt373.2.2.2) = true then (laws_FnWave.j0 k l0 t370 bt373.2.2.2 bt382.2.2.2 true bt382.1 bt382.2.1 bt382.2.2.1) else (laws_FnWave.j0 k l0 t370 bt373.2.2.2 bt382.2.2.2 (!bt382.2.2.2) bt382.1 bt382.2.1 bt382.2.2.1)))) = some r:=H
 have A4:=mk0 A40
 clear A40
 replace H:=Option.bind_eq_some_iff.mp H
 obtain⟨⟨t373,t374,t377,t380⟩,A50,H⟩:=H
 replace H:((impl_WaveOf.f k t370).bind fun bt382=>(if (bt382.2.2.2 != t380) = true then (laws_FnWave.j0 k l0 t370 t380 bt382.2.2.2 true bt382.1 bt382.2.1 bt382.2.2.1) else (laws_FnWave.j0 k l0 t370 t380 bt382.2.2.2 (!bt382.2.2.2) bt382.1 bt382.2.1 bt382.2.2.1))) = some r:=H
 have A5:=mk0 A50
 clear A50
 replace H:=Option.bind_eq_some_iff.mp H
 obtain⟨⟨t382,t383,t386,t389⟩,A60,H⟩:=H
 replace H:(if (t389 != t380) = true then (laws_FnWave.j0 k l0 t370 t380 t389 true t382 t383 t386) else (laws_FnWave.j0 k l0 t370 t380 t389 (!t389) t382 t383 t386)) = some r:=H
 have A6:=mk0 A60
 clear A60
 have HC7:=mk0 H
 clear H
 go_enter Try.func4,Try.ntmps4
 go_upto_region 6 with (first|((with_reducible refine gate_callee (f:=14) rfl ?_);refine goesL_ (some 11) rfl rfl Try.func14 (by kernel_rfl) rfl #[.slice A0 l0.length c0] rfl (by (try simp only [mA,mC,mN]);first|done|rfl|(simp only [List.length_drop,List.length_take];rfl)) ?_;(with_reducible refine (laws_big.calls _ _ l0 false _ ?side1 ?side2 A2.out).mono ?_);(case side1=>repeat (first|exact HR0.out|(with_reducible first|apply aC|apply nC|apply dC)));(case side2=>exact HC0.out);rintro e w' ⟨rfl,⟨nd,rfl⟩⟩;refine⟨_,rfl,?_⟩)|((with_reducible refine gate_callee (f:=15) rfl ?_);refine goesL_ (some 13) rfl rfl Try.func15 (by kernel_rfl) rfl #[.slice A0 l0.length c0] rfl (by (try simp only [mA,mC,mN]);first|done|rfl|(simp only [List.length_drop,List.length_take];rfl)) ?_;(with_reducible refine (spec_DrawWaveOf.calls k _ _ l0 t370 _ ?side1 ?side2 A4.out).mono ?_);(case side1=>repeat (first|exact HR0.out|(with_reducible first|apply aC|apply nC|apply dC)));(case side2=>exact HC0.out);rintro e w8 ⟨v371,rfl,ho0,hb⟩;refine⟨_,rfl,?_⟩;have n0_:=mk0 (Kd.R_lower ho0 (below_size (by repeat (first|(with_reducible first|exact HB.out|apply aZ|apply nZ|apply dZ)|exact HB.out))));have n1_:=mk0 (below_step (by repeat (first|(with_reducible first|exact HB.out|apply aZ|apply nZ|apply dZ)|exact HB.out)) hb);clear HB;have HO372:=n0_;have HB:=n1_;clear n0_ n1_;(try clear hb);(try clear hb2);(try clear hk);(try clear hi);(try clear ho0);obtain⟨Ao9,co9,eo9⟩:=Kd.R_slice HO372.out;subst eo9)|((with_reducible refine gate_callee (f:=16) rfl ?_);refine goesL_ (some 16) rfl rfl Try.func16 (by kernel_rfl) rfl #[.slice Ao9 t370.length co9] rfl (by (try simp only [mA,mC,mN]);first|done|rfl|(simp only [List.length_drop,List.length_take];rfl)) ?_;(with_reducible refine (spec_WaveOf.calls k _ _ t370 t373 t374 t377 t380 _ ?side1 ?side2 A5.out).mono ?_);(case side1=>repeat (first|exact (Kd.R_reads' HO372.out).2.2|(with_reducible first|apply aC|apply nC|apply dC)));(case side2=>exact (Kd.R_reads' HO372.out).2.1);rintro e w10 ⟨v375,v378,rfl,ho0,ho1,hb⟩;refine⟨_,rfl,?_⟩;have n0_:=mk0 (Kd.R_elder' (by (with_reducible repeat (first|apply aR|apply nR|apply dR));exact HO372.out) (Kd.R_base ho0) hb);have n1_:=mk0 (Kd.R_lower (Kd.R_new' ho0 (Kd.R_lt (by (with_reducible repeat (first|apply aR|apply nR|apply dR));exact HO372.out))) (below_size (by repeat (first|(with_reducible first|exact HB.out|apply aZ|apply nZ|apply dZ)|exact HB.out))));have n2_:=mk0 (Kd.N_lower (Kd.N_mono (ok':=fun k_=>some k_ ≠ (v375:Value).ownBlock ∧ some k_ ≠ (.slice Ao9 t370.length co9:Value).ownBlock) (Kd.S_N (Kd.S_bound (Kd.S_apart' ho1 (Kd.R_typed ho0) (by decide)))) (fun k_ hk_=>⟨hk_.1.2,(Kd.fresh' (Kd.R_lt (by (with_reducible repeat (first|apply aR|apply nR|apply dR));exact HO372.out)) k_ hk_.2.1)⟩)) (below_size (by repeat (first|(with_reducible first|exact HB.out|apply aZ|apply nZ|apply dZ)|exact HB.out))));have n3_:=mk0 (below_step (by repeat (first|(with_reducible first|exact HB.out|apply aZ|apply nZ|apply dZ)|exact HB.out)) hb);clear HO372 HB;have HO372:=n0_;have HO376:=n1_;have HO379:=n2_;have HB:=n3_;clear n0_ n1_ n2_ n3_;(try clear hb);(try clear hb2);(try clear hk);(try clear hi);(try clear ho0);(try clear ho1))|((with_reducible refine gate_dst (N:=4) rfl ?_);refine box_event ?hg (N:=4) ?hd (cs:=#[.int .i64 0,.slice none 0 0,.slice none 0 0]) (t:=30) ?hr ?_;(case hd=>rfl);(case hg=>rfl);(case hr=>first|(go_simp;done)|(go_simp;rfl));intro gb381 hg w11 hbox hb;have n0_:=mk0 (Kd.R_below (by (with_reducible repeat (first|apply aR|apply nR|apply dR));exact HO372.out) hb);have n1_:=mk0 (Kd.R_below (by (with_reducible repeat (first|apply aR|apply nR|apply dR));exact HO376.out) hb);have n2_:=mk0 (Kd.N_below (Kd.N_elderB (by (with_reducible repeat (first|apply aN|apply nN|apply dN));exact HO379.out) gb381 (Nat.le_of_eq hg.symm)) hb);have n3_:=mk0 (below_step (by repeat (first|(with_reducible first|exact HB.out|apply aZ|apply nZ|apply dZ)|exact HB.out)) hb);have n4_:=mk0 (hbox);have n5_:=mk0 ((by rw [hg];exact (below_size (by repeat (first|(with_reducible first|exact HB.out|apply aZ|apply nZ|apply dZ)|exact HB.out))):w.heap.size ≤ gb381));have n6_:=mk0 ((by rw [hg];exact (below_size (by repeat (first|(with_reducible first|exact HB.out|apply aZ|apply nZ|apply dZ)|exact HB.out))):w.heap.size ≤ gb381));clear HO372 HO376 HO379 HB;have HO372:=n0_;have HO376:=n1_;have HO379:=n2_;have HB:=n3_;have BK381:=n4_;have GW381:=n5_;have GE381:=n6_;clear n0_ n1_ n2_ n3_ n4_ n5_ n6_ hb hbox hg;have hcz12_0:w11.cell? ⟨gb381,0,none⟩ = some (.int .i64 0):=(blk_cell BK381.out 0).trans rfl;have hcz12_1:w11.cell? ⟨gb381,1,none⟩ = some (.slice none 0 0):=(blk_cell BK381.out 1).trans rfl;have hcz12_2:w11.cell? ⟨gb381,2,none⟩ = some (.slice none 0 0):=(blk_cell BK381.out 2).trans rfl;have hfz12_0:=blk_frozen BK381.out 0;have hfz12_1:=blk_frozen BK381.out 1;have hfz12_2:=blk_frozen BK381.out 2;obtain⟨Ao13,co13,eo13⟩:=Kd.R_slice HO376.out;subst eo13;obtain⟨Ao14,co14,eo14⟩:=Kd.N_slice HO379.out;subst eo14)|((with_reducible refine gate_store (t:=30) (p:=4) rfl ?_);refine store_event (t:=30) (p:=4) (v:=?vo_w15) (w1:=(((w11.setCell ⟨gb381,0,none⟩ (.int .i64 t373)).setCell ⟨gb381,1,none⟩ (.slice Ao13 t374.length co13)).setCell ⟨gb381,2,none⟩ (.slice Ao14 t377.length co14))) ?hg ?ho ?hn ?hr ?_;(case ho=>rfl);(case hg=>rfl);(case hn=>rfl);(case hr=>first|(go_simp;done)|(go_simp;rfl));intro w15 hw;have n0_:Aside0 (Kd.R (Kd.int .i64) 3 w15 w.heap.size (fun k_=>some k_ ≠ (.slice Ao13 t374.length co13:Value).ownBlock) (.slice Ao9 t370.length co9) t370):=⟨(by rw [hw];exact (by (with_reducible repeat (first|apply aR|apply nR|apply dR));exact Kd.R_mono (Kd.R_far (p:=⟨gb381,2,none⟩) (Kd.R_far (p:=⟨gb381,1,none⟩) (Kd.R_far (p:=⟨gb381,0,none⟩) (Kd.R_types HO372.out BK381.out (by decide)) (fun _ hk=>hk.2) (.int .i64 t373)) (fun _ hk=>hk.2) (.slice Ao13 t374.length co13)) (fun _ hk=>hk.2) (.slice Ao14 t377.length co14)) (fun _ hk=>hk.1.2)))⟩;have n1_:Aside0 (Kd.R (Kd.int .i64) 3 w15 w.heap.size (fun k_=>some k_ ≠ (.slice Ao9 t370.length co9:Value).ownBlock) (.slice Ao13 t374.length co13) t374):=⟨(by rw [hw];exact (by (with_reducible repeat (first|apply aR|apply nR|apply dR));exact Kd.R_mono (Kd.R_far (p:=⟨gb381,2,none⟩) (Kd.R_far (p:=⟨gb381,1,none⟩) (Kd.R_far (p:=⟨gb381,0,none⟩) (Kd.R_types HO376.out BK381.out (by decide)) (fun _ hk=>hk.2) (.int .i64 t373)) (fun _ hk=>hk.2) (.slice Ao13 t374.length co13)) (fun _ hk=>hk.2) (.slice Ao14 t377.length co14)) (fun _ hk=>hk.1.2)))⟩;have n2_:Aside0 (Kd.N k64 64 w15 w.heap.size (fun k_=>some k_ ≠ (.slice Ao9 t370.length co9:Value).ownBlock ∧ some k_ ≠ (.slice Ao13 t374.length co13:Value).ownBlock ∧ k_ ≠ gb381) (.slice Ao14 t377.length co14) t377):=⟨(by rw [hw];exact (by (with_reducible repeat (first|apply aN|apply nN|apply dN));exact Kd.N_mono (Kd.N_far (p:=⟨gb381,2,none⟩) (Kd.N_far (p:=⟨gb381,1,none⟩) (Kd.N_far (p:=⟨gb381,0,none⟩) (Kd.N_mono HO379.out (fun k_ hk=>(⟨hk,hk.2⟩:_ ∧ k_ ≠ gb381))) (fun _ hk=>hk.2) (.int .i64 t373)) (fun _ hk=>hk.2) (.slice Ao13 t374.length co13)) (fun _ hk=>hk.2) (.slice Ao14 t377.length co14)) (fun _ hk=>⟨hk.1.1.2,⟨hk.1.1.1,hk.1.2⟩⟩)))⟩;have n3_:Aside0 (w15.heap[gb381]? = some (.cells #[.int .i64 t373,.slice Ao13 t374.length co13,.slice Ao14 t377.length co14] 30 (0,0))):=⟨(by rw [hw];exact (by (with_reducible repeat (first|apply nB|apply dB|apply aB));refine blk_put (cs:=#[.int .i64 t373,.slice Ao13 t374.length co13,.slice none 0 0]) ?_ 2 _ rfl;(with_reducible repeat (first|apply nB|apply dB|apply aB));refine blk_put (cs:=#[.int .i64 t373,.slice none 0 0,.slice none 0 0]) ?_ 1 _ rfl;(with_reducible repeat (first|apply nB|apply dB|apply aB));refine blk_put (cs:=#[.int .i64 0,.slice none 0 0,.slice none 0 0]) ?_ 0 _ rfl;(with_reducible repeat (first|apply nB|apply dB|apply aB));exact BK381.out))⟩;have n4_:Aside0 (Below w.heap.size w w15):=⟨(by rw [hw];exact (by repeat (first|(with_reducible first|exact HB.out|apply aZ|apply nZ|apply dZ|refine sZ ?_ GE381.out)|exact HB.out)))⟩;clear hw HO372 HO376 HO379 BK381 HB;have HO372:=n0_;have HO376:=n1_;have HO379:=n2_;have BK381:=n3_;have HB:=n4_;clear n0_ n1_ n2_ n3_ n4_)|((with_reducible refine gate_callee (f:=17) rfl ?_);refine goesL_ (some 21) rfl rfl Try.func17 (by kernel_rfl) rfl #[.slice Ao9 t370.length co9] rfl (by (try simp only [mA,mC,mN]);first|done|rfl|(simp only [List.length_drop,List.length_take];rfl)) ?_;(with_reducible refine (impl_WaveOf.calls k (fun k_=>some k_ = (.slice Ao9 t370.length co9:Value).ownBlock) _ _ t370 t382 t383 t386 t389 _ ?side1 A6.out).mono ?_);(case side1=>exact Kd.R_V (Kd.R_tight rfl (Kd.R_types (Kd.R_apart' (HO372.out) (Kd.N_typed HO379.out) (by decide)) BK381.out (by decide))));rintro e w16 ⟨v384,v387,rfl,ho0,ho1,hb⟩;refine⟨_,rfl,?_⟩;have n0_:=mk0 (Kd.R_elder' (by (with_reducible repeat (first|apply aR|apply nR|apply dR));exact HO372.out) (Kd.R_base ho0) hb);have n1_:=mk0 (Kd.R_elder' (by (with_reducible repeat (first|apply aR|apply nR|apply dR));exact HO376.out) (Kd.R_base ho0) hb);have n2_:=mk0 (Kd.N_mono (Kd.N_told (Kd.N_told (Kd.N_old (by (with_reducible repeat (first|apply aN|apply nN|apply dN));exact HO379.out) hb) (Kd.R_base ho0)) (Kd.N_base ho1)) (fun _ h_=>h_.1));have n3_:=mk0 (Kd.R_lower (Kd.R_new' (Kd.R_new' (Kd.R_mono (ok':=fun k_=>True) ho0 (fun _ hk_=>trivial)) (Kd.R_lt (by (with_reducible repeat (first|apply aR|apply nR|apply dR));exact HO372.out))) (Kd.R_lt (by (with_reducible repeat (first|apply aR|apply nR|apply dR));exact HO376.out))) (below_size (by repeat (first|(with_reducible first|exact HB.out|apply aZ|apply nZ|apply dZ|refine sZ ?_ GE381.out)|exact HB.out))));have n4_:=mk0 (Kd.N_lower (Kd.N_mono (ok':=fun k_=>some k_ ≠ (v384:Value).ownBlock ∧ some k_ ≠ (.slice Ao13 t374.length co13:Value).ownBlock ∧ some k_ ≠ (.slice Ao14 t377.length co14:Value).ownBlock ∧ k_ ≠ gb381) ho1 (fun k_ hk_=>⟨hk_.2,Or.elim hk_.1 (fun hs_=>((Kd.R_types (Kd.R_apart' (HO372.out) (Kd.N_typed HO379.out) (by decide)) BK381.out (by decide)).1 k_ hs_.symm).1.1) (fun hn_=>(Kd.fresh' (Kd.R_lt (by (with_reducible repeat (first|apply aR|apply nR|apply dR));exact HO376.out)) k_ hn_)),Or.elim hk_.1 (fun hs_=>((Kd.R_types (Kd.R_apart' (HO372.out) (Kd.N_typed HO379.out) (by decide)) BK381.out (by decide)).1 k_ hs_.symm).1.2) (fun hn_=>(Kd.fresh' (Kd.N_lt (by (with_reducible repeat (first|apply aN|apply nN|apply dN));exact HO379.out)) k_ hn_)),Or.elim hk_.1 (fun hs_=>((Kd.R_types (Kd.R_apart' (HO372.out) (Kd.N_typed HO379.out) (by decide)) BK381.out (by decide)).1 k_ hs_.symm).2) (fun hn_=>(Kd.freshB (g:=gb381) (o:=.cells #[.int .i64 t373,.slice Ao13 t374.length co13,.slice Ao14 t377.length co14] 30 (0,0)) (by (with_reducible repeat (first|apply nB|apply dB|apply aB));exact BK381.out) k_ hn_))⟩)) (below_size (by repeat (first|(with_reducible first|exact HB.out|apply aZ|apply nZ|apply dZ|refine sZ ?_ GE381.out)|exact HB.out))));have n5_:=mk0 (blk_below (g:=gb381) (o:=.cells #[.int .i64 t373,.slice Ao13 t374.length co13,.slice Ao14 t377.length co14] 30 (0,0)) (by (with_reducible repeat (first|apply nB|apply dB|apply aB));exact BK381.out) hb);have n6_:=mk0 (below_step (by repeat (first|(with_reducible first|exact HB.out|apply aZ|apply nZ|apply dZ|refine sZ ?_ GE381.out)|exact HB.out)) hb);clear HO372 HO376 HO379 BK381 HB;have HO372:=n0_;have HO376:=n1_;have HO379:=n2_;have HO385:=n3_;have HO388:=n4_;have BK381:=n5_;have HB:=n6_;clear n0_ n1_ n2_ n3_ n4_ n5_ n6_;(try clear hb);(try clear hb2);(try clear hk);(try clear hi);(try clear ho0);(try clear ho1))|((with_reducible refine gate_dst (N:=6) rfl ?_);refine box_event ?hg (N:=6) ?hd (cs:=#[.int .i64 0,.slice none 0 0,.slice none 0 0]) (t:=30) ?hr ?_;(case hd=>rfl);(case hg=>rfl);(case hr=>first|(go_simp;done)|(go_simp;rfl));intro gb390 hg w17 hbox hb;have n0_:=mk0 (Kd.R_below (by (with_reducible repeat (first|apply aR|apply nR|apply dR));exact HO372.out) hb);have n1_:=mk0 (Kd.R_below (by (with_reducible repeat (first|apply aR|apply nR|apply dR));exact HO376.out) hb);have n2_:=mk0 (Kd.N_below (Kd.N_elderB (by (with_reducible repeat (first|apply aN|apply nN|apply dN));exact HO379.out) gb390 (Nat.le_of_eq hg.symm)) hb);have n3_:=mk0 (Kd.R_below (by (with_reducible repeat (first|apply aR|apply nR|apply dR));exact HO385.out) hb);have n4_:=mk0 (Kd.N_below (Kd.N_elderB (by (with_reducible repeat (first|apply aN|apply nN|apply dN));exact HO388.out) gb390 (Nat.le_of_eq hg.symm)) hb);have n5_:=mk0 (blk_below (g:=gb381) (o:=.cells #[.int .i64 t373,.slice Ao13 t374.length co13,.slice Ao14 t377.length co14] 30 (0,0)) (by (with_reducible repeat (first|apply nB|apply dB|apply aB));exact BK381.out) hb);have n6_:=mk0 (below_step (by repeat (first|(with_reducible first|exact HB.out|apply aZ|apply nZ|apply dZ|refine sZ ?_ GE381.out)|exact HB.out)) hb);have n7_:=mk0 (hbox);have n8_:=mk0 ((by rw [hg];exact (below_size (by repeat (first|(with_reducible first|exact HB.out|apply aZ|apply nZ|apply dZ|refine sZ ?_ GE381.out)|exact HB.out))):w.heap.size ≤ gb390));have n9_:=mk0 ((by rw [hg];exact (below_size (by repeat (first|(with_reducible first|exact HB.out|apply aZ|apply nZ|apply dZ|refine sZ ?_ GE381.out)|exact HB.out))):w.heap.size ≤ gb390));have n10_:=mk0 ((by rw [hg];exact Nat.ne_of_lt (blk_lt (g:=gb381) (o:=.cells #[.int .i64 t373,.slice Ao13 t374.length co13,.slice Ao14 t377.length co14] 30 (0,0)) (by (with_reducible repeat (first|apply nB|apply dB|apply aB));exact BK381.out)):gb381 ≠ gb390));have n11_:=mk0 ((by rw [hg];exact Nat.ne_of_gt (blk_lt (g:=gb381) (o:=.cells #[.int .i64 t373,.slice Ao13 t374.length co13,.slice Ao14 t377.length co14] 30 (0,0)) (by (with_reducible repeat (first|apply nB|apply dB|apply aB));exact BK381.out)):gb390 ≠ gb381));clear HO372 HO376 HO379 HO385 HO388 BK381 HB;have HO372:=n0_;have HO376:=n1_;have HO379:=n2_;have HO385:=n3_;have HO388:=n4_;have BK381:=n5_;have HB:=n6_;have BK390:=n7_;have GW390:=n8_;have GE390:=n9_;have NB381_390:=n10_;have NB390_381:=n11_;clear n0_ n1_ n2_ n3_ n4_ n5_ n6_ n7_ n8_ n9_ n10_ n11_ hb hbox hg;have hnb18:=NB390_381.out;have hnc18:=NB381_390.out;have hcz19_0:w17.cell? ⟨gb390,0,none⟩ = some (.int .i64 0):=(blk_cell BK390.out 0).trans rfl;have hcz19_1:w17.cell? ⟨gb390,1,none⟩ = some (.slice none 0 0):=(blk_cell BK390.out 1).trans rfl;have hcz19_2:w17.cell? ⟨gb390,2,none⟩ = some (.slice none 0 0):=(blk_cell BK390.out 2).trans rfl;have hfz19_0:=blk_frozen BK390.out 0;have hfz19_1:=blk_frozen BK390.out 1;have hfz19_2:=blk_frozen BK390.out 2;obtain⟨Ao20,co20,eo20⟩:=Kd.R_slice HO385.out;subst eo20;obtain⟨Ao21,co21,eo21⟩:=Kd.N_slice HO388.out;subst eo21))
 (try simp only [Act.put,sA,sO,sS])
 go_cut [30] (fun v30 wc=>∃ (kq:Nat) (x30_6:Bool),v30 = .bool x30_6 ∧ Aside0 (laws_FnWave.j0 kq l0 t370 t380 t389 x30_6 t382 t383 t386 = some r) ∧ Aside0 (kq ≤ k) ∧ Aside0 (Kd.R (Kd.int .i64) 3 wc w.heap.size (fun k_=>some k_ ≠ ((.slice Ao13 t374.length co13):Value).ownBlock ∧ some k_ ≠ ((.slice Ao20 t383.length co20):Value).ownBlock) (.slice Ao9 t370.length co9) t370) ∧ Aside0 (Kd.R (Kd.int .i64) 3 wc w.heap.size (fun k_=>some k_ ≠ ((.slice Ao9 t370.length co9):Value).ownBlock ∧ some k_ ≠ ((.slice Ao20 t383.length co20):Value).ownBlock) (.slice Ao13 t374.length co13) t374) ∧ Aside0 (Kd.N k64 64 wc w.heap.size (fun k_=>some k_ ≠ ((.slice Ao9 t370.length co9):Value).ownBlock ∧ some k_ ≠ ((.slice Ao13 t374.length co13):Value).ownBlock ∧ some k_ ≠ ((.slice Ao20 t383.length co20):Value).ownBlock ∧ some k_ ≠ ((.slice Ao21 t386.length co21):Value).ownBlock ∧ k_ ≠ gb381 ∧ k_ ≠ gb390) (.slice Ao14 t377.length co14) t377) ∧ Aside0 (Kd.R (Kd.int .i64) 3 wc w.heap.size (fun k_=>some k_ ≠ ((.slice Ao9 t370.length co9):Value).ownBlock ∧ some k_ ≠ ((.slice Ao13 t374.length co13):Value).ownBlock) (.slice Ao20 t383.length co20) t383) ∧ Aside0 (Kd.N k64 64 wc w.heap.size (fun k_=>some k_ ≠ ((.slice Ao13 t374.length co13):Value).ownBlock ∧ some k_ ≠ ((.slice Ao14 t377.length co14):Value).ownBlock ∧ some k_ ≠ ((.slice Ao20 t383.length co20):Value).ownBlock ∧ k_ ≠ gb381 ∧ k_ ≠ gb390) (.slice Ao21 t386.length co21) t386) ∧ Aside0 (wc.heap[gb381]? = some (.cells #[.int .i64 t373,(.slice Ao13 t374.length co13),(.slice Ao14 t377.length co14)] 30 (0,0))) ∧ Aside0 (wc.heap[gb390]? = some (.cells #[.int .i64 t382,(.slice Ao20 t383.length co20),(.slice Ao21 t386.length co21)] 30 (0,0))) ∧ Aside0 (Below w.heap.size w wc))
 case first =>
  have H:=HC7.out
  clear HC7
  by_cases c22:(t389 != t380) = true
  rotate_left
  ·rw [if_neg c22] at H
   have c22b0:(t389 != t380) = false:=by simpa using c22
   (try (have c22b1:decide (t389 = t380) = true:=by simpa using c22))
   (try (have c22b2:(t389 == t380) = true:=by simpa using c22))
   clear c22
   (first|rw [c22b0]|(simp only [i64_w,i32_w];rw [c22b0])|skip)
   have H':=mk0 H
   clear H
   go_wp2
   go_meet
   case rel=>exact⟨_,(!t389),(by first|rfl|(simp;done)|(simp [*];done)),H',⟨by first|omega|exact Nat.le_refl _⟩,⟨by (with_reducible repeat (first|apply aR|apply nR|apply dR));exact Kd.R_mono (Kd.R_far (p:=⟨gb390,2,none⟩) (Kd.R_far (p:=⟨gb390,1,none⟩) (Kd.R_far (p:=⟨gb390,0,none⟩) (Kd.R_types HO372.out BK390.out (by decide)) (fun _ hk=>hk.2) (.int .i64 t382)) (fun _ hk=>hk.2) (.slice Ao20 t383.length co20)) (fun _ hk=>hk.2) (.slice Ao21 t386.length co21)) (fun _ hk=>⟨hk.1.1,hk.1.2⟩)⟩,⟨by (with_reducible repeat (first|apply aR|apply nR|apply dR));exact Kd.R_mono (Kd.R_far (p:=⟨gb390,2,none⟩) (Kd.R_far (p:=⟨gb390,1,none⟩) (Kd.R_far (p:=⟨gb390,0,none⟩) (Kd.R_types HO376.out BK390.out (by decide)) (fun _ hk=>hk.2) (.int .i64 t382)) (fun _ hk=>hk.2) (.slice Ao20 t383.length co20)) (fun _ hk=>hk.2) (.slice Ao21 t386.length co21)) (fun _ hk=>⟨hk.1.1,hk.1.2⟩)⟩,⟨by (with_reducible repeat (first|apply aN|apply nN|apply dN));exact Kd.N_mono (Kd.N_far (p:=⟨gb390,2,none⟩) (Kd.N_far (p:=⟨gb390,1,none⟩) (Kd.N_far (p:=⟨gb390,0,none⟩) (Kd.N_mono HO379.out (fun k_ hk=>(⟨hk,hk.2⟩:_ ∧ k_ ≠ gb390))) (fun _ hk=>hk.2) (.int .i64 t382)) (fun _ hk=>hk.2) (.slice Ao20 t383.length co20)) (fun _ hk=>hk.2) (.slice Ao21 t386.length co21)) (fun _ hk=>⟨hk.1.1.1.1.1,⟨hk.1.1.1.1.2.1,⟨hk.1.1.1.2,⟨hk.1.1.2,⟨hk.1.1.1.1.2.2,hk.1.2⟩⟩⟩⟩⟩)⟩,⟨by (with_reducible repeat (first|apply aR|apply nR|apply dR));exact Kd.R_mono (Kd.R_far (p:=⟨gb390,2,none⟩) (Kd.R_far (p:=⟨gb390,1,none⟩) (Kd.R_far (p:=⟨gb390,0,none⟩) (Kd.R_types HO385.out BK390.out (by decide)) (fun _ hk=>hk.2) (.int .i64 t382)) (fun _ hk=>hk.2) (.slice Ao20 t383.length co20)) (fun _ hk=>hk.2) (.slice Ao21 t386.length co21)) (fun _ hk=>⟨hk.1.1.2,hk.1.2⟩)⟩,⟨by (with_reducible repeat (first|apply aN|apply nN|apply dN));exact Kd.N_mono (Kd.N_far (p:=⟨gb390,2,none⟩) (Kd.N_far (p:=⟨gb390,1,none⟩) (Kd.N_far (p:=⟨gb390,0,none⟩) (Kd.N_mono HO388.out (fun k_ hk=>(⟨hk,hk.2⟩:_ ∧ k_ ≠ gb390))) (fun _ hk=>hk.2) (.int .i64 t382)) (fun _ hk=>hk.2) (.slice Ao20 t383.length co20)) (fun _ hk=>hk.2) (.slice Ao21 t386.length co21)) (fun _ hk=>⟨hk.1.1.2.1,⟨hk.1.1.2.2.1,⟨hk.1.1.1,⟨hk.1.1.2.2.2,hk.1.2⟩⟩⟩⟩)⟩,⟨by (with_reducible repeat (first|apply nB|apply dB|apply aB));refine blk_far ?_ NB381_390.out _;(with_reducible repeat (first|apply nB|apply dB|apply aB));refine blk_far ?_ NB381_390.out _;(with_reducible repeat (first|apply nB|apply dB|apply aB));refine blk_far ?_ NB381_390.out _;(with_reducible repeat (first|apply nB|apply dB|apply aB));exact BK381.out⟩,⟨by (with_reducible repeat (first|apply nB|apply dB|apply aB));refine blk_put (cs:=#[.int .i64 t382,.slice Ao20 t383.length co20,.slice none 0 0]) ?_ 2 _ rfl;(with_reducible repeat (first|apply nB|apply dB|apply aB));refine blk_put (cs:=#[.int .i64 t382,.slice none 0 0,.slice none 0 0]) ?_ 1 _ rfl;(with_reducible repeat (first|apply nB|apply dB|apply aB));refine blk_put (cs:=#[.int .i64 0,.slice none 0 0,.slice none 0 0]) ?_ 0 _ rfl;(with_reducible repeat (first|apply nB|apply dB|apply aB));exact BK390.out⟩,⟨by repeat (first|(with_reducible first|exact HB.out|apply aZ|apply nZ|apply dZ|refine sZ ?_ GE381.out|refine sZ ?_ GE390.out)|exact HB.out)⟩⟩
  rw [if_pos c22] at H
  have c22b0:(t389 != t380) = true:=c22
  (try (have c22b1:decide (t389 = t380) = false:=by simpa using c22))
  (try (have c22b2:(t389 == t380) = false:=by simpa using c22))
  (try (have c22b3:¬ (t389 = t380):=by simpa using c22))
  clear c22
  (first|rw [c22b0]|(simp only [i64_w,i32_w];rw [c22b0])|skip)
  have H':=mk0 H
  clear H
  go_wp2
  go_meet
  case rel=>exact⟨_,(true),(by first|rfl|(simp;done)|(simp [*];done)),H',⟨by first|omega|exact Nat.le_refl _⟩,⟨by (with_reducible repeat (first|apply aR|apply nR|apply dR));exact Kd.R_mono (Kd.R_far (p:=⟨gb390,2,none⟩) (Kd.R_far (p:=⟨gb390,1,none⟩) (Kd.R_far (p:=⟨gb390,0,none⟩) (Kd.R_types HO372.out BK390.out (by decide)) (fun _ hk=>hk.2) (.int .i64 t382)) (fun _ hk=>hk.2) (.slice Ao20 t383.length co20)) (fun _ hk=>hk.2) (.slice Ao21 t386.length co21)) (fun _ hk=>⟨hk.1.1,hk.1.2⟩)⟩,⟨by (with_reducible repeat (first|apply aR|apply nR|apply dR));exact Kd.R_mono (Kd.R_far (p:=⟨gb390,2,none⟩) (Kd.R_far (p:=⟨gb390,1,none⟩) (Kd.R_far (p:=⟨gb390,0,none⟩) (Kd.R_types HO376.out BK390.out (by decide)) (fun _ hk=>hk.2) (.int .i64 t382)) (fun _ hk=>hk.2) (.slice Ao20 t383.length co20)) (fun _ hk=>hk.2) (.slice Ao21 t386.length co21)) (fun _ hk=>⟨hk.1.1,hk.1.2⟩)⟩,⟨by (with_reducible repeat (first|apply aN|apply nN|apply dN));exact Kd.N_mono (Kd.N_far (p:=⟨gb390,2,none⟩) (Kd.N_far (p:=⟨gb390,1,none⟩) (Kd.N_far (p:=⟨gb390,0,none⟩) (Kd.N_mono HO379.out (fun k_ hk=>(⟨hk,hk.2⟩:_ ∧ k_ ≠ gb390))) (fun _ hk=>hk.2) (.int .i64 t382)) (fun _ hk=>hk.2) (.slice Ao20 t383.length co20)) (fun _ hk=>hk.2) (.slice Ao21 t386.length co21)) (fun _ hk=>⟨hk.1.1.1.1.1,⟨hk.1.1.1.1.2.1,⟨hk.1.1.1.2,⟨hk.1.1.2,⟨hk.1.1.1.1.2.2,hk.1.2⟩⟩⟩⟩⟩)⟩,⟨by (with_reducible repeat (first|apply aR|apply nR|apply dR));exact Kd.R_mono (Kd.R_far (p:=⟨gb390,2,none⟩) (Kd.R_far (p:=⟨gb390,1,none⟩) (Kd.R_far (p:=⟨gb390,0,none⟩) (Kd.R_types HO385.out BK390.out (by decide)) (fun _ hk=>hk.2) (.int .i64 t382)) (fun _ hk=>hk.2) (.slice Ao20 t383.length co20)) (fun _ hk=>hk.2) (.slice Ao21 t386.length co21)) (fun _ hk=>⟨hk.1.1.2,hk.1.2⟩)⟩,⟨by (with_reducible repeat (first|apply aN|apply nN|apply dN));exact Kd.N_mono (Kd.N_far (p:=⟨gb390,2,none⟩) (Kd.N_far (p:=⟨gb390,1,none⟩) (Kd.N_far (p:=⟨gb390,0,none⟩) (Kd.N_mono HO388.out (fun k_ hk=>(⟨hk,hk.2⟩:_ ∧ k_ ≠ gb390))) (fun _ hk=>hk.2) (.int .i64 t382)) (fun _ hk=>hk.2) (.slice Ao20 t383.length co20)) (fun _ hk=>hk.2) (.slice Ao21 t386.length co21)) (fun _ hk=>⟨hk.1.1.2.1,⟨hk.1.1.2.2.1,⟨hk.1.1.1,⟨hk.1.1.2.2.2,hk.1.2⟩⟩⟩⟩)⟩,⟨by (with_reducible repeat (first|apply nB|apply dB|apply aB));refine blk_far ?_ NB381_390.out _;(with_reducible repeat (first|apply nB|apply dB|apply aB));refine blk_far ?_ NB381_390.out _;(with_reducible repeat (first|apply nB|apply dB|apply aB));refine blk_far ?_ NB381_390.out _;(with_reducible repeat (first|apply nB|apply dB|apply aB));exact BK381.out⟩,⟨by (with_reducible repeat (first|apply nB|apply dB|apply aB));refine blk_put (cs:=#[.int .i64 t382,.slice Ao20 t383.length co20,.slice none 0 0]) ?_ 2 _ rfl;(with_reducible repeat (first|apply nB|apply dB|apply aB));refine blk_put (cs:=#[.int .i64 t382,.slice none 0 0,.slice none 0 0]) ?_ 1 _ rfl;(with_reducible repeat (first|apply nB|apply dB|apply aB));refine blk_put (cs:=#[.int .i64 0,.slice none 0 0,.slice none 0 0]) ?_ 0 _ rfl;(with_reducible repeat (first|apply nB|apply dB|apply aB));exact BK390.out⟩,⟨by repeat (first|(with_reducible first|exact HB.out|apply aZ|apply nZ|apply dZ|refine sZ ?_ GE381.out|refine sZ ?_ GE390.out)|exact HB.out)⟩⟩
 case rest =>
  clear HC7
  try clear c1
  try clear c2
  try clear p2
  try clear c3
  try clear c4
  try clear c14
  try clear c15
  try clear c16
  try clear c17
  try clear c18
  try clear c22
  try clear c22b0
  try clear c22b1
  try clear c22b2
  try clear hcz12_0
  try clear hcz12_1
  try clear hcz12_2
  try clear hcz19_0
  try clear hcz19_1
  try clear hcz19_2
  try clear hfz12_0
  try clear hfz12_1
  try clear hfz12_2
  try clear hfz19_0
  try clear hfz19_1
  try clear hfz19_2
  obtain⟨kq,x30_6,rfl,HA,HJ6,HO_3,HO_382001,HO_382002,HO_391001,HO_391002,BK381,BK390,HB⟩:=hcut
  cases kq with
  | zero=>exact absurd HA.out (by simp [laws_FnWave.j0])
  | succ kj6 =>
   have H:=HA.out
   clear HA
   simp only [laws_FnWave.j0] at H
   by_cases c23:x30_6 = true
   ·subst c23
    have H1:(some (t389 == t380)) = some r:=by rw [if_pos rfl] at H;exact H
    clear H
    have H:=H1
    clear H1
    obtain rfl:=Option.some.inj H
    go_wp2
    go_ret
    exact⟨by first|rfl|(simp [errW_none,errW_some] <;> rfl)|(simp [*,errW_none,errW_some] <;> rfl),by repeat (first|(with_reducible first|exact HB.out|apply aZ|apply nZ|apply dZ|refine sZ ?_ GE381.out|refine sZ ?_ GE390.out)|exact HB.out)⟩
   replace c23:=Bool.eq_false_iff.mpr c23
   subst c23
   have H1:((impl_WaveList.f kj6 t382 t383 t386).bind fun t391=>((laws_same.f kj6 t391 t370).bind fun t394=>(if t394 = true then ((impl_WaveOk.f kj6 t382 t383 t386).bind fun t395=>(laws_FnWave.j1 kj6 l0 t370 (!t395) t382 t383 t386)) else (laws_FnWave.j1 kj6 l0 t370 true t382 t383 t386)))) = some r:=by rw [if_neg (show ¬ (false = true) by decide)] at H;exact H
   clear H
   have H:=H1
   clear H1
   have HC24:=mk0 H
   clear H
   go_upto_region 8 with (fail)
   go_cut [43] (fun v43 wc=>∃ (kq:Nat) (x43_23:Bool),v43 = .bool x43_23 ∧ Aside0 (laws_FnWave.j1 kq l0 t370 x43_23 t382 t383 t386 = some r) ∧ Aside0 (kq ≤ kj6) ∧ Aside0 (Kd.R (Kd.int .i64) 3 wc w.heap.size (fun k_=>some k_ ≠ ((.slice Ao13 t374.length co13):Value).ownBlock ∧ some k_ ≠ ((.slice Ao20 t383.length co20):Value).ownBlock) (.slice Ao9 t370.length co9) t370) ∧ Aside0 (Kd.R (Kd.int .i64) 3 wc w.heap.size (fun k_=>some k_ ≠ ((.slice Ao9 t370.length co9):Value).ownBlock ∧ some k_ ≠ ((.slice Ao20 t383.length co20):Value).ownBlock) (.slice Ao13 t374.length co13) t374) ∧ Aside0 (Kd.N k64 64 wc w.heap.size (fun k_=>some k_ ≠ ((.slice Ao9 t370.length co9):Value).ownBlock ∧ some k_ ≠ ((.slice Ao13 t374.length co13):Value).ownBlock ∧ some k_ ≠ ((.slice Ao20 t383.length co20):Value).ownBlock ∧ some k_ ≠ ((.slice Ao21 t386.length co21):Value).ownBlock ∧ k_ ≠ gb381 ∧ k_ ≠ gb390) (.slice Ao14 t377.length co14) t377) ∧ Aside0 (Kd.R (Kd.int .i64) 3 wc w.heap.size (fun k_=>some k_ ≠ ((.slice Ao9 t370.length co9):Value).ownBlock ∧ some k_ ≠ ((.slice Ao13 t374.length co13):Value).ownBlock) (.slice Ao20 t383.length co20) t383) ∧ Aside0 (Kd.N k64 64 wc w.heap.size (fun k_=>some k_ ≠ ((.slice Ao13 t374.length co13):Value).ownBlock ∧ some k_ ≠ ((.slice Ao14 t377.length co14):Value).ownBlock ∧ some k_ ≠ ((.slice Ao20 t383.length co20):Value).ownBlock ∧ k_ ≠ gb381 ∧ k_ ≠ gb390) (.slice Ao21 t386.length co21) t386) ∧ Aside0 (wc.heap[gb381]? = some (.cells #[.int .i64 t373,(.slice Ao13 t374.length co13),(.slice Ao14 t377.length co14)] 30 (0,0))) ∧ Aside0 (wc.heap[gb390]? = some (.cells #[.int .i64 t382,(.slice Ao20 t383.length co20),(.slice Ao21 t386.length co21)] 30 (0,0))) ∧ Aside0 (Below w.heap.size w wc))
   case first =>
    have H:=HC24.out
    clear HC24
    replace H:=Option.bind_eq_some_iff.mp H
    obtain⟨t391,A250,H⟩:=H
    replace H:((laws_same.f kj6 t391 t370).bind fun t394=>(if t394 = true then ((impl_WaveOk.f kj6 t382 t383 t386).bind fun t395=>(laws_FnWave.j1 kj6 l0 t370 (!t395) t382 t383 t386)) else (laws_FnWave.j1 kj6 l0 t370 true t382 t383 t386))) = some r:=H
    have A25:=mk0 A250
    clear A250
    replace H:=Option.bind_eq_some_iff.mp H
    obtain⟨t394,A260,H⟩:=H
    replace H:(if t394 = true then ((impl_WaveOk.f kj6 t382 t383 t386).bind fun t395=>(laws_FnWave.j1 kj6 l0 t370 (!t395) t382 t383 t386)) else (laws_FnWave.j1 kj6 l0 t370 true t382 t383 t386)) = some r:=H
    have A26:=mk0 A260
    clear A260
    by_cases c27:t394 = true
    rotate_left
    ·replace c27:=Bool.eq_false_iff.mpr c27
     subst c27
     have H1:(laws_FnWave.j1 kj6 l0 t370 true t382 t383 t386) = some r:=by rw [if_neg (show ¬ (false = true) by decide)] at H;exact H
     clear H
     have H:=H1
     clear H1
     have H':=mk0 H
     clear H
     have hnb35:=NB390_381.out
     have hnc35:=NB381_390.out
     have hcz36_0:wc.cell? ⟨gb390,0,none⟩ = some (.int .i64 t382):=(blk_cell BK390.out 0).trans rfl
     have hcz36_1:wc.cell? ⟨gb390,1,none⟩ = some (.slice Ao20 t383.length co20):=(blk_cell BK390.out 1).trans rfl
     have hcz36_2:wc.cell? ⟨gb390,2,none⟩ = some (.slice Ao21 t386.length co21):=(blk_cell BK390.out 2).trans rfl
     have hfz36_0:=blk_frozen BK390.out 0
     have hfz36_1:=blk_frozen BK390.out 1
     have hfz36_2:=blk_frozen BK390.out 2
     go_wp2_with (first|((with_reducible refine gate_callee (f:=19) rfl ?_);refine goesL_ (some 35) rfl rfl Try.func19 (by kernel_rfl) rfl #[.agg #[.int .i64 t382,.slice Ao20 t383.length co20,.slice Ao21 t386.length co21]] rfl (by (try simp only [mA,mC,mN]);first|done|rfl|(simp only [List.length_drop,List.length_take];rfl)) ?_;(with_reducible refine (impl_WaveList.calls kj6 t382 _ _ t383 _ _ t386 t391 _ ?side1 ?side2 ?side3 ?side4 A25.out).mono ?_);(case side1=>repeat (first|exact (Kd.R_reads' HO_391001.out).2.2|(with_reducible first|apply aC|apply nC|apply dC)));(case side2=>exact (Kd.R_reads' HO_391001.out).2.1);(case side3=>repeat (first|exact (Kd.N_reads' HO_391002.out).2.2|(with_reducible first|apply aC|apply nC|apply dC)));(case side4=>exact (Kd.N_reads' HO_391002.out).2.1);rintro e w37 ⟨v392,rfl,ho0,hb⟩;refine⟨_,rfl,?_⟩;have n0_:=mk0 (Kd.R_elder' (by (with_reducible repeat (first|apply aR|apply nR|apply dR));exact HO_3.out) (Kd.R_base ho0) hb);have n1_:=mk0 (Kd.R_elder' (by (with_reducible repeat (first|apply aR|apply nR|apply dR));exact HO_382001.out) (Kd.R_base ho0) hb);have n2_:=mk0 (Kd.N_elder' (by (with_reducible repeat (first|apply aN|apply nN|apply dN));exact HO_382002.out) (Kd.R_base ho0) hb);have n3_:=mk0 (Kd.R_elder' (by (with_reducible repeat (first|apply aR|apply nR|apply dR));exact HO_391001.out) (Kd.R_base ho0) hb);have n4_:=mk0 (Kd.N_elder' (by (with_reducible repeat (first|apply aN|apply nN|apply dN));exact HO_391002.out) (Kd.R_base ho0) hb);have n5_:=mk0 (Kd.R_lower (Kd.R_new' (Kd.R_new' (Kd.R_new' ho0 (Kd.R_lt (by (with_reducible repeat (first|apply aR|apply nR|apply dR));exact HO_3.out))) (Kd.R_lt (by (with_reducible repeat (first|apply aR|apply nR|apply dR));exact HO_382001.out))) (Kd.R_lt (by (with_reducible repeat (first|apply aR|apply nR|apply dR));exact HO_391001.out))) (below_size (by repeat (first|(with_reducible first|exact HB.out|apply aZ|apply nZ|apply dZ|refine sZ ?_ GE381.out|refine sZ ?_ GE390.out)|exact HB.out))));have n6_:=mk0 (blk_below (g:=gb381) (o:=.cells #[.int .i64 t373,.slice Ao13 t374.length co13,.slice Ao14 t377.length co14] 30 (0,0)) (by (with_reducible repeat (first|apply nB|apply dB|apply aB));exact BK381.out) hb);have n7_:=mk0 (blk_below (g:=gb390) (o:=.cells #[.int .i64 t382,.slice Ao20 t383.length co20,.slice Ao21 t386.length co21] 30 (0,0)) (by (with_reducible repeat (first|apply nB|apply dB|apply aB));exact BK390.out) hb);have n8_:=mk0 (below_step (by repeat (first|(with_reducible first|exact HB.out|apply aZ|apply nZ|apply dZ|refine sZ ?_ GE381.out|refine sZ ?_ GE390.out)|exact HB.out)) hb);clear HO_3 HO_382001 HO_382002 HO_391001 HO_391002 BK381 BK390 HB;have HO_3:=n0_;have HO_382001:=n1_;have HO_382002:=n2_;have HO_391001:=n3_;have HO_391002:=n4_;have HO393:=n5_;have BK381:=n6_;have BK390:=n7_;have HB:=n8_;clear n0_ n1_ n2_ n3_ n4_ n5_ n6_ n7_ n8_;(try clear hb);(try clear hb2);(try clear hk);(try clear hi);(try clear ho0);obtain⟨Ao38,co38,eo38⟩:=Kd.R_slice HO393.out;subst eo38)|((with_reducible refine gate_callee (f:=18) rfl ?_);refine goesL_ (some 37) rfl rfl Try.func18 (by kernel_rfl) rfl #[.slice Ao38 t391.length co38,.slice Ao9 t370.length co9] rfl (by (try simp only [mA,mC,mN]);first|done|rfl|(simp only [List.length_drop,List.length_take];rfl)) ?_;(with_reducible refine (laws_same.calls kj6 _ _ t391 _ _ t370 false _ ?side1 ?side2 ?side3 ?side4 A26.out).mono ?_);(case side1=>repeat (first|exact (Kd.R_reads' HO393.out).2.2|(with_reducible first|apply aC|apply nC|apply dC)));(case side2=>exact (Kd.R_reads' HO393.out).2.1);(case side3=>repeat (first|exact (Kd.R_reads' HO_3.out).2.2|(with_reducible first|apply aC|apply nC|apply dC)));(case side4=>exact (Kd.R_reads' HO_3.out).2.1);rintro e w' ⟨rfl,⟨nd,rfl⟩⟩;refine⟨_,rfl,?_⟩))
     go_meet
     case rel=>exact⟨_,(true),(by first|rfl|(simp;done)|(simp [*];done)),H',⟨by have:=HJ6.out;first|omega|exact Nat.le_refl _⟩,⟨by (with_reducible repeat (first|apply aR|apply nR|apply dR));exact Kd.R_mono HO_3.out (fun _ hk=>⟨hk.1.1,hk.1.2⟩)⟩,⟨by (with_reducible repeat (first|apply aR|apply nR|apply dR));exact Kd.R_mono HO_382001.out (fun _ hk=>⟨hk.1.1,hk.1.2⟩)⟩,⟨by (with_reducible repeat (first|apply aN|apply nN|apply dN));exact Kd.N_mono HO_382002.out (fun _ hk=>⟨hk.1.1,⟨hk.1.2.1,⟨hk.1.2.2.1,⟨hk.1.2.2.2.1,⟨hk.1.2.2.2.2.1,hk.1.2.2.2.2.2⟩⟩⟩⟩⟩)⟩,⟨by (with_reducible repeat (first|apply aR|apply nR|apply dR));exact Kd.R_mono HO_391001.out (fun _ hk=>⟨hk.1.1,hk.1.2⟩)⟩,⟨by (with_reducible repeat (first|apply aN|apply nN|apply dN));exact Kd.N_mono HO_391002.out (fun _ hk=>⟨hk.1.1,⟨hk.1.2.1,⟨hk.1.2.2.1,⟨hk.1.2.2.2.1,hk.1.2.2.2.2⟩⟩⟩⟩)⟩,⟨by (with_reducible repeat (first|apply nB|apply dB|apply aB));exact BK381.out⟩,⟨by (with_reducible repeat (first|apply nB|apply dB|apply aB));exact BK390.out⟩,⟨by repeat (first|(with_reducible first|exact HB.out|apply aZ|apply nZ|apply dZ|refine sZ ?_ GE381.out|refine sZ ?_ GE390.out)|exact HB.out)⟩⟩
    subst c27
    have H1:((impl_WaveOk.f kj6 t382 t383 t386).bind fun t395=>(laws_FnWave.j1 kj6 l0 t370 (!t395) t382 t383 t386)) = some r:=by rw [if_pos rfl] at H;exact H
    clear H
    have H:=H1
    clear H1
    replace H:=Option.bind_eq_some_iff.mp H
    obtain⟨t395,A280,H⟩:=H
    replace H:(laws_FnWave.j1 kj6 l0 t370 (!t395) t382 t383 t386) = some r:=H
    have A28:=mk0 A280
    clear A280
    have H':=mk0 H
    clear H
    have hnb29:=NB390_381.out
    have hnc29:=NB381_390.out
    have hcz30_0:wc.cell? ⟨gb390,0,none⟩ = some (.int .i64 t382):=(blk_cell BK390.out 0).trans rfl
    have hcz30_1:wc.cell? ⟨gb390,1,none⟩ = some (.slice Ao20 t383.length co20):=(blk_cell BK390.out 1).trans rfl
    have hcz30_2:wc.cell? ⟨gb390,2,none⟩ = some (.slice Ao21 t386.length co21):=(blk_cell BK390.out 2).trans rfl
    have hfz30_0:=blk_frozen BK390.out 0
    have hfz30_1:=blk_frozen BK390.out 1
    have hfz30_2:=blk_frozen BK390.out 2
    go_wp2_with (first|((with_reducible refine gate_callee (f:=19) rfl ?_);refine goesL_ (some 35) rfl rfl Try.func19 (by kernel_rfl) rfl #[.agg #[.int .i64 t382,.slice Ao20 t383.length co20,.slice Ao21 t386.length co21]] rfl (by (try simp only [mA,mC,mN]);first|done|rfl|(simp only [List.length_drop,List.length_take];rfl)) ?_;(with_reducible refine (impl_WaveList.calls kj6 t382 _ _ t383 _ _ t386 t391 _ ?side1 ?side2 ?side3 ?side4 A25.out).mono ?_);(case side1=>repeat (first|exact (Kd.R_reads' HO_391001.out).2.2|(with_reducible first|apply aC|apply nC|apply dC)));(case side2=>exact (Kd.R_reads' HO_391001.out).2.1);(case side3=>repeat (first|exact (Kd.N_reads' HO_391002.out).2.2|(with_reducible first|apply aC|apply nC|apply dC)));(case side4=>exact (Kd.N_reads' HO_391002.out).2.1);rintro e w31 ⟨v392,rfl,ho0,hb⟩;refine⟨_,rfl,?_⟩;have n0_:=mk0 (Kd.R_elder' (by (with_reducible repeat (first|apply aR|apply nR|apply dR));exact HO_3.out) (Kd.R_base ho0) hb);have n1_:=mk0 (Kd.R_elder' (by (with_reducible repeat (first|apply aR|apply nR|apply dR));exact HO_382001.out) (Kd.R_base ho0) hb);have n2_:=mk0 (Kd.N_elder' (by (with_reducible repeat (first|apply aN|apply nN|apply dN));exact HO_382002.out) (Kd.R_base ho0) hb);have n3_:=mk0 (Kd.R_elder' (by (with_reducible repeat (first|apply aR|apply nR|apply dR));exact HO_391001.out) (Kd.R_base ho0) hb);have n4_:=mk0 (Kd.N_elder' (by (with_reducible repeat (first|apply aN|apply nN|apply dN));exact HO_391002.out) (Kd.R_base ho0) hb);have n5_:=mk0 (Kd.R_lower (Kd.R_new' (Kd.R_new' (Kd.R_new' ho0 (Kd.R_lt (by (with_reducible repeat (first|apply aR|apply nR|apply dR));exact HO_3.out))) (Kd.R_lt (by (with_reducible repeat (first|apply aR|apply nR|apply dR));exact HO_382001.out))) (Kd.R_lt (by (with_reducible repeat (first|apply aR|apply nR|apply dR));exact HO_391001.out))) (below_size (by repeat (first|(with_reducible first|exact HB.out|apply aZ|apply nZ|apply dZ|refine sZ ?_ GE381.out|refine sZ ?_ GE390.out)|exact HB.out))));have n6_:=mk0 (blk_below (g:=gb381) (o:=.cells #[.int .i64 t373,.slice Ao13 t374.length co13,.slice Ao14 t377.length co14] 30 (0,0)) (by (with_reducible repeat (first|apply nB|apply dB|apply aB));exact BK381.out) hb);have n7_:=mk0 (blk_below (g:=gb390) (o:=.cells #[.int .i64 t382,.slice Ao20 t383.length co20,.slice Ao21 t386.length co21] 30 (0,0)) (by (with_reducible repeat (first|apply nB|apply dB|apply aB));exact BK390.out) hb);have n8_:=mk0 (below_step (by repeat (first|(with_reducible first|exact HB.out|apply aZ|apply nZ|apply dZ|refine sZ ?_ GE381.out|refine sZ ?_ GE390.out)|exact HB.out)) hb);clear HO_3 HO_382001 HO_382002 HO_391001 HO_391002 BK381 BK390 HB;have HO_3:=n0_;have HO_382001:=n1_;have HO_382002:=n2_;have HO_391001:=n3_;have HO_391002:=n4_;have HO393:=n5_;have BK381:=n6_;have BK390:=n7_;have HB:=n8_;clear n0_ n1_ n2_ n3_ n4_ n5_ n6_ n7_ n8_;(try clear hb);(try clear hb2);(try clear hk);(try clear hi);(try clear ho0);obtain⟨Ao32,co32,eo32⟩:=Kd.R_slice HO393.out;subst eo32)|((with_reducible refine gate_callee (f:=18) rfl ?_);refine goesL_ (some 37) rfl rfl Try.func18 (by kernel_rfl) rfl #[.slice Ao32 t391.length co32,.slice Ao9 t370.length co9] rfl (by (try simp only [mA,mC,mN]);first|done|rfl|(simp only [List.length_drop,List.length_take];rfl)) ?_;(with_reducible refine (laws_same.calls kj6 _ _ t391 _ _ t370 true _ ?side1 ?side2 ?side3 ?side4 A26.out).mono ?_);(case side1=>repeat (first|exact (Kd.R_reads' HO393.out).2.2|(with_reducible first|apply aC|apply nC|apply dC)));(case side2=>exact (Kd.R_reads' HO393.out).2.1);(case side3=>repeat (first|exact (Kd.R_reads' HO_3.out).2.2|(with_reducible first|apply aC|apply nC|apply dC)));(case side4=>exact (Kd.R_reads' HO_3.out).2.1);rintro e w' ⟨rfl,⟨nd,rfl⟩⟩;refine⟨_,rfl,?_⟩;have hcz33_0:w31.cell? ⟨gb390,0,none⟩ = some (.int .i64 t382):=(blk_cell BK390.out 0).trans rfl;have hcz33_1:w31.cell? ⟨gb390,1,none⟩ = some (.slice Ao20 t383.length co20):=(blk_cell BK390.out 1).trans rfl;have hcz33_2:w31.cell? ⟨gb390,2,none⟩ = some (.slice Ao21 t386.length co21):=(blk_cell BK390.out 2).trans rfl;have hfz33_0:=blk_frozen BK390.out 0;have hfz33_1:=blk_frozen BK390.out 1;have hfz33_2:=blk_frozen BK390.out 2)|(go_at_call 20;(with_reducible refine (impl_WaveOk.calls kj6 t382 _ _ t383 _ _ t386 t395 _ ?side1 ?side2 ?side3 ?side4 A28.out).mono ?_);(case side1=>repeat (first|exact (Kd.R_reads' HO_391001.out).2.2|(with_reducible first|apply aC|apply nC|apply dC)));(case side2=>exact (Kd.R_reads' HO_391001.out).2.1);(case side3=>repeat (first|exact (Kd.N_reads' HO_391002.out).2.2|(with_reducible first|apply aC|apply nC|apply dC)));(case side4=>exact (Kd.N_reads' HO_391002.out).2.1);rintro e w34 ⟨rfl,hb⟩;have n0_:=mk0 (Kd.R_below (by (with_reducible repeat (first|apply aR|apply nR|apply dR));exact HO_3.out) hb);have n1_:=mk0 (Kd.R_below (by (with_reducible repeat (first|apply aR|apply nR|apply dR));exact HO_382001.out) hb);have n2_:=mk0 (Kd.N_below (by (with_reducible repeat (first|apply aN|apply nN|apply dN));exact HO_382002.out) hb);have n3_:=mk0 (Kd.R_below (by (with_reducible repeat (first|apply aR|apply nR|apply dR));exact HO_391001.out) hb);have n4_:=mk0 (Kd.N_below (by (with_reducible repeat (first|apply aN|apply nN|apply dN));exact HO_391002.out) hb);have n5_:=mk0 (Kd.R_below (by (with_reducible repeat (first|apply aR|apply nR|apply dR));exact HO393.out) hb);have n6_:=mk0 (blk_below (g:=gb381) (o:=.cells #[.int .i64 t373,.slice Ao13 t374.length co13,.slice Ao14 t377.length co14] 30 (0,0)) (by (with_reducible repeat (first|apply nB|apply dB|apply aB));exact BK381.out) hb);have n7_:=mk0 (blk_below (g:=gb390) (o:=.cells #[.int .i64 t382,.slice Ao20 t383.length co20,.slice Ao21 t386.length co21] 30 (0,0)) (by (with_reducible repeat (first|apply nB|apply dB|apply aB));exact BK390.out) hb);have n8_:=mk0 (below_step (by repeat (first|(with_reducible first|exact HB.out|apply aZ|apply nZ|apply dZ|refine sZ ?_ GE381.out|refine sZ ?_ GE390.out)|exact HB.out)) hb);clear HO_3 HO_382001 HO_382002 HO_391001 HO_391002 HO393 BK381 BK390 HB;have HO_3:=n0_;have HO_382001:=n1_;have HO_382002:=n2_;have HO_391001:=n3_;have HO_391002:=n4_;have HO393:=n5_;have BK381:=n6_;have BK390:=n7_;have HB:=n8_;clear n0_ n1_ n2_ n3_ n4_ n5_ n6_ n7_ n8_;(try clear hb);(try clear hb2);(try clear hk);(try clear hi)))
    go_meet
    case rel=>exact⟨_,(!t395),(by first|rfl|(simp;done)|(simp [*];done)),H',⟨by have:=HJ6.out;first|omega|exact Nat.le_refl _⟩,⟨by (with_reducible repeat (first|apply aR|apply nR|apply dR));exact Kd.R_mono HO_3.out (fun _ hk=>⟨hk.1.1,hk.1.2⟩)⟩,⟨by (with_reducible repeat (first|apply aR|apply nR|apply dR));exact Kd.R_mono HO_382001.out (fun _ hk=>⟨hk.1.1,hk.1.2⟩)⟩,⟨by (with_reducible repeat (first|apply aN|apply nN|apply dN));exact Kd.N_mono HO_382002.out (fun _ hk=>⟨hk.1.1,⟨hk.1.2.1,⟨hk.1.2.2.1,⟨hk.1.2.2.2.1,⟨hk.1.2.2.2.2.1,hk.1.2.2.2.2.2⟩⟩⟩⟩⟩)⟩,⟨by (with_reducible repeat (first|apply aR|apply nR|apply dR));exact Kd.R_mono HO_391001.out (fun _ hk=>⟨hk.1.1,hk.1.2⟩)⟩,⟨by (with_reducible repeat (first|apply aN|apply nN|apply dN));exact Kd.N_mono HO_391002.out (fun _ hk=>⟨hk.1.1,⟨hk.1.2.1,⟨hk.1.2.2.1,⟨hk.1.2.2.2.1,hk.1.2.2.2.2⟩⟩⟩⟩)⟩,⟨by (with_reducible repeat (first|apply nB|apply dB|apply aB));exact BK381.out⟩,⟨by (with_reducible repeat (first|apply nB|apply dB|apply aB));exact BK390.out⟩,⟨by repeat (first|(with_reducible first|exact HB.out|apply aZ|apply nZ|apply dZ|refine sZ ?_ GE381.out|refine sZ ?_ GE390.out)|exact HB.out)⟩⟩
   case rest =>
    clear HC24
    try clear c1
    try clear c2
    try clear p2
    try clear c3
    try clear c4
    try clear c14
    try clear c15
    try clear c16
    try clear c17
    try clear c18
    try clear c19
    try clear c22
    try clear c22b0
    try clear c22b1
    try clear c22b2
    try clear c23
    try clear c27
    try clear c29
    try clear c35
    try clear hcz12_0
    try clear hcz12_1
    try clear hcz12_2
    try clear hcz19_0
    try clear hcz19_1
    try clear hcz19_2
    try clear hcz30_0
    try clear hcz30_1
    try clear hcz30_2
    try clear hcz33_0
    try clear hcz33_1
    try clear hcz33_2
    try clear hcz36_0
    try clear hcz36_1
    try clear hcz36_2
    try clear hfz12_0
    try clear hfz12_1
    try clear hfz12_2
    try clear hfz19_0
    try clear hfz19_1
    try clear hfz19_2
    try clear hfz30_0
    try clear hfz30_1
    try clear hfz30_2
    try clear hfz33_0
    try clear hfz33_1
    try clear hfz33_2
    try clear hfz36_0
    try clear hfz36_1
    try clear hfz36_2
    try clear p2
    obtain⟨kq,x43_23,rfl,HA,HJ23,HO_3,HO_382001,HO_382002,HO_391001,HO_391002,BK381,BK390,HB⟩:=hcut
    cases kq with
    | zero=>exact absurd HA.out (by simp [laws_FnWave.j1])
    | succ kj23 =>
     have H:=HA.out
     clear HA
     simp only [laws_FnWave.j1] at H
     by_cases c39:x43_23 = true
     ·subst c39
      have H1:(some false) = some r:=by rw [if_pos rfl] at H;exact H
      clear H
      have H:=H1
      clear H1
      obtain rfl:=Option.some.inj H
      go_wp2
      go_ret
      exact⟨by first|rfl|(simp [errW_none,errW_some] <;> rfl)|(simp [*,errW_none,errW_some] <;> rfl),by repeat (first|(with_reducible first|exact HB.out|apply aZ|apply nZ|apply dZ|refine sZ ?_ GE381.out|refine sZ ?_ GE390.out)|exact HB.out)⟩
     replace c39:=Bool.eq_false_iff.mpr c39
     subst c39
     have H1:(if (t370.length:Int) = 0 then ((impl_WaveAt.f kj23 t382 t383 t386 0).bind fun t396=>(some (t396 == (-1)))) else ((laws_pick.f kj23 l0 3 (t370.length:Int)).bind fun t397=>(if 0 ≤ t397 then (if t397 < (t370.length:Int) then ((impl_WaveRank.f kj23 t382 t383 t386 (rd t370 t397) t397).bind fun t399=>((impl_WaveAt.f kj23 t382 t383 t386 t397).bind fun t400=>(if t400 = (rd t370 t397) then (if t397 ≤ (t370.length:Int) then ((laws_count.f kj23 (t370.take (t397:Int).toNat) (rd t370 t397)).bind fun t408=>(if t399 = t408 then ((impl_WaveSelect.f kj23 t382 t383 t386 (rd t370 t397) t399).bind fun t410=>(if t410 = t397 then ((impl_WaveRank.f kj23 t382 t383 t386 (rd t370 t397) (wrap64 (t397 + 1))).bind fun t412=>(some (t412 == (wrap64 (t399 + 1))))) else (some false))) else (some false))) else (none)) else (some false)))) else (none)) else (none)))) = some r:=by rw [if_neg (show ¬ (false = true) by decide)] at H;exact H
     clear H
     have H:=H1
     clear H1
     by_cases c40:(t370.length:Int) = 0
     ·rw [if_pos c40] at H
      have c40b0:((t370.length:Int) == 0) = true:=beq_iff_eq.mpr c40
      have c40b1:((t370.length:Int) != 0) = false:=bne_eq_false_iff_eq.mpr c40
      clear c40
      replace H:=Option.bind_eq_some_iff.mp H
      obtain⟨t396,A410,H⟩:=H
      replace H:(some (t396 == (-1))) = some r:=H
      have A41:=mk0 A410
      clear A410
      obtain rfl:=Option.some.inj H
      have hnb42:=NB390_381.out
      have hnc42:=NB381_390.out
      have hcz43_0:wc.cell? ⟨gb390,0,none⟩ = some (.int .i64 t382):=(blk_cell BK390.out 0).trans rfl
      have hcz43_1:wc.cell? ⟨gb390,1,none⟩ = some (.slice Ao20 t383.length co20):=(blk_cell BK390.out 1).trans rfl
      have hcz43_2:wc.cell? ⟨gb390,2,none⟩ = some (.slice Ao21 t386.length co21):=(blk_cell BK390.out 2).trans rfl
      have hfz43_0:=blk_frozen BK390.out 0
      have hfz43_1:=blk_frozen BK390.out 1
      have hfz43_2:=blk_frozen BK390.out 2
      go_wp2_with (first|((with_reducible refine gate_callee (f:=12) rfl ?_);refine goesL_ (some 48) rfl rfl Try.func12 (by kernel_rfl) rfl #[.agg #[.int .i64 t382,.slice Ao20 t383.length co20,.slice Ao21 t386.length co21],.int .i64 0] rfl (by (try simp only [mA,mC,mN]);first|done|rfl|(simp only [List.length_drop,List.length_take];rfl)) ?_;(with_reducible refine (impl_WaveAt.calls kj23 t382 _ _ t383 _ _ t386 0 t396 _ ?side1 ?side2 ?side3 ?side4 A41.out).mono ?_);(case side1=>repeat (first|exact (Kd.R_reads' HO_391001.out).2.2|(with_reducible first|apply aC|apply nC|apply dC)));(case side2=>exact (Kd.R_reads' HO_391001.out).2.1);(case side3=>repeat (first|exact (Kd.N_reads' HO_391002.out).2.2|(with_reducible first|apply aC|apply nC|apply dC)));(case side4=>exact (Kd.N_reads' HO_391002.out).2.1);rintro e w44 ⟨rfl,hb⟩;refine⟨_,rfl,?_⟩;have n0_:=mk0 (Kd.R_below (by (with_reducible repeat (first|apply aR|apply nR|apply dR));exact HO_3.out) hb);have n1_:=mk0 (Kd.R_below (by (with_reducible repeat (first|apply aR|apply nR|apply dR));exact HO_382001.out) hb);have n2_:=mk0 (Kd.N_below (by (with_reducible repeat (first|apply aN|apply nN|apply dN));exact HO_382002.out) hb);have n3_:=mk0 (Kd.R_below (by (with_reducible repeat (first|apply aR|apply nR|apply dR));exact HO_391001.out) hb);have n4_:=mk0 (Kd.N_below (by (with_reducible repeat (first|apply aN|apply nN|apply dN));exact HO_391002.out) hb);have n5_:=mk0 (blk_below (g:=gb381) (o:=.cells #[.int .i64 t373,.slice Ao13 t374.length co13,.slice Ao14 t377.length co14] 30 (0,0)) (by (with_reducible repeat (first|apply nB|apply dB|apply aB));exact BK381.out) hb);have n6_:=mk0 (blk_below (g:=gb390) (o:=.cells #[.int .i64 t382,.slice Ao20 t383.length co20,.slice Ao21 t386.length co21] 30 (0,0)) (by (with_reducible repeat (first|apply nB|apply dB|apply aB));exact BK390.out) hb);have n7_:=mk0 (below_step (by repeat (first|(with_reducible first|exact HB.out|apply aZ|apply nZ|apply dZ|refine sZ ?_ GE381.out|refine sZ ?_ GE390.out)|exact HB.out)) hb);clear HO_3 HO_382001 HO_382002 HO_391001 HO_391002 BK381 BK390 HB;have HO_3:=n0_;have HO_382001:=n1_;have HO_382002:=n2_;have HO_391001:=n3_;have HO_391002:=n4_;have BK381:=n5_;have BK390:=n6_;have HB:=n7_;clear n0_ n1_ n2_ n3_ n4_ n5_ n6_ n7_;(try clear hb);(try clear hb2);(try clear hk);(try clear hi)))
      go_ret
      exact⟨by first|rfl|(simp [errW_none,errW_some] <;> rfl)|(simp [*,errW_none,errW_some] <;> rfl),by repeat (first|(with_reducible first|exact HB.out|apply aZ|apply nZ|apply dZ|refine sZ ?_ GE381.out|refine sZ ?_ GE390.out)|exact HB.out)⟩
     rw [if_neg c40] at H
     have c40b0:((t370.length:Int) == 0) = false:=beq_eq_false_iff_ne.mpr c40
     have c40b1:((t370.length:Int) != 0) = true:=bne_iff_ne.mpr c40
     have c40b2:¬ (t370 = []):=fun h_=>c40 (by rw [h_];rfl)
     replace H:=Option.bind_eq_some_iff.mp H
     obtain⟨t397,A450,H⟩:=H
     replace H:(if 0 ≤ t397 then (if t397 < (t370.length:Int) then ((impl_WaveRank.f kj23 t382 t383 t386 (rd t370 t397) t397).bind fun t399=>((impl_WaveAt.f kj23 t382 t383 t386 t397).bind fun t400=>(if t400 = (rd t370 t397) then (if t397 ≤ (t370.length:Int) then ((laws_count.f kj23 (t370.take (t397:Int).toNat) (rd t370 t397)).bind fun t408=>(if t399 = t408 then ((impl_WaveSelect.f kj23 t382 t383 t386 (rd t370 t397) t399).bind fun t410=>(if t410 = t397 then ((impl_WaveRank.f kj23 t382 t383 t386 (rd t370 t397) (wrap64 (t397 + 1))).bind fun t412=>(some (t412 == (wrap64 (t399 + 1))))) else (some false))) else (some false))) else (none)) else (some false)))) else (none)) else (none)) = some r:=H
     have A45:=mk0 A450
     clear A450
     by_cases c46:0 ≤ t397
     rotate_left
     ·rw [if_neg c46] at H
      exact absurd H (by simp)

     rw [if_pos c46] at H
     have c46b0:decide (0 ≤ t397) = true:=decide_eq_true c46
     clear c46
     by_cases c47:t397 < (t370.length:Int)
     rotate_left
     ·rw [if_neg c47] at H
      exact absurd H (by simp)
     rw [if_pos c47] at H
     have c47b0:decide (t397 < (t370.length:Int)) = true:=decide_eq_true c47
     clear c47
     replace H:=Option.bind_eq_some_iff.mp H
     obtain⟨t399,A480,H⟩:=H
     replace H:((impl_WaveAt.f kj23 t382 t383 t386 t397).bind fun t400=>(if t400 = (rd t370 t397) then (if t397 ≤ (t370.length:Int) then ((laws_count.f kj23 (t370.take (t397:Int).toNat) (rd t370 t397)).bind fun t408=>(if t399 = t408 then ((impl_WaveSelect.f kj23 t382 t383 t386 (rd t370 t397) t399).bind fun t410=>(if t410 = t397 then ((impl_WaveRank.f kj23 t382 t383 t386 (rd t370 t397) (wrap64 (t397 + 1))).bind fun t412=>(some (t412 == (wrap64 (t399 + 1))))) else (some false))) else (some false))) else (none)) else (some false))) = some r:=H
     have A48:=mk0 A480
     clear A480
     replace H:=Option.bind_eq_some_iff.mp H
     obtain⟨t400,A490,H⟩:=H
     replace H:(if t400 = (rd t370 t397) then (if t397 ≤ (t370.length:Int) then ((laws_count.f kj23 (t370.take (t397:Int).toNat) (rd t370 t397)).bind fun t408=>(if t399 = t408 then ((impl_WaveSelect.f kj23 t382 t383 t386 (rd t370 t397) t399).bind fun t410=>(if t410 = t397 then ((impl_WaveRank.f kj23 t382 t383 t386 (rd t370 t397) (wrap64 (t397 + 1))).bind fun t412=>(some (t412 == (wrap64 (t399 + 1))))) else (some false))) else (some false))) else (none)) else (some false)) = some r:=H
     have A49:=mk0 A490
     clear A490
     by_cases c50:t400 = (rd t370 t397)
     rotate_left
     ·rw [if_neg c50] at H
      have c50b0:(t400 == (rd t370 t397)) = false:=beq_eq_false_iff_ne.mpr c50
      have c50b1:(t400 != (rd t370 t397)) = true:=bne_iff_ne.mpr c50
      obtain rfl:=Option.some.inj H
      try go_wp2_with (first|((with_reducible refine gate_callee (f:=21) rfl ?_);refine goesL_ (some 53) rfl rfl Try.func21 (by kernel_rfl) rfl #[.slice A0 l0.length c0,.int .i64 3,.int .i64 (t370.length:Int)] rfl (by (try simp only [mA,mC,mN]);first|done|rfl|(simp only [List.length_drop,List.length_take];rfl)) ?_;(with_reducible refine (laws_pick.calls kj23 _ _ l0 3 (t370.length:Int) t397 _ ?side1 ?side2 A45.out).mono ?_);(case side1=>repeat (first|exact (Kd.C_below HR0.out HB.out)|(with_reducible first|apply aC|apply nC|apply dC)));(case side2=>exact HC0.out);rintro e w' ⟨rfl,⟨nd,rfl⟩⟩;refine⟨_,rfl,?_⟩))
      (try (rw [drewN_self wc];generalize hq_:World.drewN wc _ = wc;have n0_:Aside0 (Kd.R (Kd.int .i64) 3 wc w.heap.size (fun k_=>some k_ ≠ (.slice Ao13 t374.length co13:Value).ownBlock ∧ some k_ ≠ (.slice Ao20 t383.length co20:Value).ownBlock) (.slice Ao9 t370.length co9) t370):=⟨by rw [← hq_];exact (by (with_reducible repeat (first|apply aR|apply nR|apply dR));exact HO_3.out)⟩;have n1_:Aside0 (Kd.R (Kd.int .i64) 3 wc w.heap.size (fun k_=>some k_ ≠ (.slice Ao9 t370.length co9:Value).ownBlock ∧ some k_ ≠ (.slice Ao20 t383.length co20:Value).ownBlock) (.slice Ao13 t374.length co13) t374):=⟨by rw [← hq_];exact (by (with_reducible repeat (first|apply aR|apply nR|apply dR));exact HO_382001.out)⟩;have n2_:Aside0 (Kd.N k64 64 wc w.heap.size (fun k_=>some k_ ≠ (.slice Ao9 t370.length co9:Value).ownBlock ∧ some k_ ≠ (.slice Ao13 t374.length co13:Value).ownBlock ∧ some k_ ≠ (.slice Ao20 t383.length co20:Value).ownBlock ∧ some k_ ≠ (.slice Ao21 t386.length co21:Value).ownBlock ∧ k_ ≠ gb381 ∧ k_ ≠ gb390) (.slice Ao14 t377.length co14) t377):=⟨by rw [← hq_];exact (by (with_reducible repeat (first|apply aN|apply nN|apply dN));exact HO_382002.out)⟩;have n3_:Aside0 (Kd.R (Kd.int .i64) 3 wc w.heap.size (fun k_=>some k_ ≠ (.slice Ao9 t370.length co9:Value).ownBlock ∧ some k_ ≠ (.slice Ao13 t374.length co13:Value).ownBlock) (.slice Ao20 t383.length co20) t383):=⟨by rw [← hq_];exact (by (with_reducible repeat (first|apply aR|apply nR|apply dR));exact HO_391001.out)⟩;have n4_:Aside0 (Kd.N k64 64 wc w.heap.size (fun k_=>some k_ ≠ (.slice Ao13 t374.length co13:Value).ownBlock ∧ some k_ ≠ (.slice Ao14 t377.length co14:Value).ownBlock ∧ some k_ ≠ (.slice Ao20 t383.length co20:Value).ownBlock ∧ k_ ≠ gb381 ∧ k_ ≠ gb390) (.slice Ao21 t386.length co21) t386):=⟨by rw [← hq_];exact (by (with_reducible repeat (first|apply aN|apply nN|apply dN));exact HO_391002.out)⟩;have n5_:Aside0 (wc.heap[gb381]? = some (.cells #[.int .i64 t373,.slice Ao13 t374.length co13,.slice Ao14 t377.length co14] 30 (0,0))):=⟨by rw [← hq_];exact (by (with_reducible repeat (first|apply nB|apply dB|apply aB));exact BK381.out)⟩;have n6_:Aside0 (wc.heap[gb390]? = some (.cells #[.int .i64 t382,.slice Ao20 t383.length co20,.slice Ao21 t386.length co21] 30 (0,0))):=⟨by rw [← hq_];exact (by (with_reducible repeat (first|apply nB|apply dB|apply aB));exact BK390.out)⟩;have n7_:Aside0 (Below w.heap.size w wc):=⟨by rw [← hq_];exact (by repeat (first|(with_reducible first|exact HB.out|apply aZ|apply nZ|apply dZ|refine sZ ?_ GE381.out|refine sZ ?_ GE390.out)|exact HB.out))⟩;clear HO_3 HO_382001 HO_382002 HO_391001 HO_391002 BK381 BK390 HB hq_;have HO_3:=n0_;have HO_382001:=n1_;have HO_382002:=n2_;have HO_391001:=n3_;have HO_391002:=n4_;have BK381:=n5_;have BK390:=n6_;have HB:=n7_;clear n0_ n1_ n2_ n3_ n4_ n5_ n6_ n7_))
      have n0_:=mk0 (dR HO_3.out)
      have n1_:=mk0 (dR HO_382001.out)
      have n2_:=mk0 (dN HO_382002.out)
      have n3_:=mk0 (dR HO_391001.out)
      have n4_:=mk0 (dN HO_391002.out)
      have n5_:=mk0 (dB BK381.out)
      have n6_:=mk0 (dB BK390.out)
      have n7_:=mk0 (dZ HB.out)
      clear HO_3
      clear HO_382001
      clear HO_382002
      clear HO_391001
      clear HO_391002
      clear BK381
      clear BK390
      clear HB
      have HO_3:=n0_
      have HO_382001:=n1_
      have HO_382002:=n2_
      have HO_391001:=n3_
      have HO_391002:=n4_
      have BK381:=n5_
      have BK390:=n6_
      have HB:=n7_
      clear n0_ n1_ n2_ n3_ n4_ n5_ n6_ n7_
      have p398:0 ≤ (t397:Int):=of_decide_eq_true (by first|(with_reducible assumption)|assumption)
      have q398:t397 < (t370.length:Int):=of_decide_eq_true (by first|(with_reducible assumption)|assumption)
      obtain⟨ad398,e398,hx398_0⟩:=Kd.at_int (Kd.R_reads' HO_3.out).2.2 t397 p398 q398
      cases e398
      replace p398:=eq_true p398
      replace q398:=eq_true q398
      refine start_ (n:=8) (S:=fun w'=>w'.cell? ⟨gb390,0,none⟩ = some (.int .i64 t382) ∧ w'.cell? ⟨gb390,1,none⟩ = some (.slice Ao20 t383.length co20) ∧ w'.cell? ⟨gb390,2,none⟩ = some (.slice Ao21 t386.length co21) ∧ w'.cell? (ad398.add (t397).toNat) = some (.int .i64 (rd t370 t397))) (ds:=[]) laws_FnWave.m0 (by kernel_rfl) rfl rfl ⟨(blk_cell BK390.out 0).trans rfl,(blk_cell BK390.out 1).trans rfl,(blk_cell BK390.out 2).trans rfl,hx398_0⟩ (fun hHeld=>?_);refine with_tabW laws_FnWave.tab13 laws_FnWave.bits13 (fun HT_ HW_=>?_)
      generalize wc.drew = w76 at HO_3 HO_382001 HO_382002 HO_391001 HO_391002 BK381 BK390 HB hx398_0 hHeld ⊢
      refine pure_ (i:=1) (N:=some 55) (v:=?_) (a':=?_) laws_FnWave.m1 rfl rfl (any_of HT_.out (by kernel_rfl)) (fun _ _ _ h=>h) (Or.inl ⟨by rfl,?_⟩) ?_ ?_
      rotate_left
      ·intro w'
       go_simp
       with_reducible rfl
      rotate_left
      ·simp only [Act.put,sA,sO,sS,i64_w,i32_w]
       rfl
      refine pure_ (i:=2) (N:=some 56) (v:=?_) (a':=?_) laws_FnWave.m2 rfl rfl (any_of HT_.out (by kernel_rfl)) (fun _ _ _ h=>h) (Or.inl ⟨by rfl,?_⟩) ?_ ?_
      rotate_left
      ·intro w'
       go_simp
       with_reducible rfl
      rotate_left
      ·simp only [Act.put,sA,sO,sS,i64_w,i32_w]
       rfl
      refine pure_ (i:=3) (N:=some 57) (v:=?_) (a':=?_) laws_FnWave.m3 rfl rfl (any_of HT_.out (by kernel_rfl)) (fun _ _ _ h=>h) (Or.inl ⟨by rfl,?_⟩) ?_ ?_
      rotate_left
      ·intro w'
       go_simp
       with_reducible rfl
      rotate_left
      ·simp only [Act.put,sA,sO,sS,i64_w,i32_w]
       rfl
      refine pure_ (i:=5) (N:=some 59) (v:=?_) (a':=?_) laws_FnWave.m4 rfl rfl (any_of HT_.out (by kernel_rfl)) (fun _ _ _ h=>h) (Or.inl ⟨by rfl,?_⟩) ?_ ?_
      rotate_left
      ·intro w'
       go_simp
       with_reducible rfl
      rotate_left
      ·simp only [Act.put,sA,sO,sS,i64_w,i32_w]
       rfl
      refine take_ (i:=0) (N:=some 54) (v:=?_) (a':=?_) laws_FnWave.m5 rfl rfl (take_ofW HT_.out HW_.out (by kernel_rfl)) (fun _ _ _ h=>h) (Or.inl ⟨by rfl,?_⟩) hHeld ?_ ?_
      rotate_left
      ·rintro w' ⟨s0,s1,s2,s3⟩
       go_simp
       with_reducible rfl
      rotate_left
      ·simp only [Act.put,sA,sO,sS,i64_w,i32_w]
       rfl
      refine take_ (i:=4) (N:=some 58) (v:=?_) (a':=?_) #[true,true,true,true,true,true,false,false] rfl rfl (take_ofW HT_.out HW_.out (by kernel_rfl)) (fun _ _ _ h=>h) (Or.inl ⟨by rfl,?_⟩) hHeld ?_ ?_
      rotate_left
      ·rintro w' ⟨s0,s1,s2,s3⟩
       go_simp
       with_reducible rfl
      rotate_left
      ·simp only [Act.put,sA,sO,sS,i64_w,i32_w]
       rfl
      refine one_ (i:=6) (N:=some 60) #[true,true,true,true,true,true,true,false] rfl rfl (one_of HT_.out (by kernel_rfl)) (by decide) (fun K hK=>?_)
      refine goes_ Try.func22 (by kernel_rfl) rfl #[.agg #[.int .i64 t382,.slice Ao20 t383.length co20,.slice Ao21 t386.length co21],.int .i64 (rd t370 t397),.int .i64 t397] (by rfl) rfl rfl (by (try simp only [mA,mC,mN]);first|done|rfl|(simp only [List.length_drop,List.length_take];rfl)) ?_
      with_reducible refine (impl_WaveRank.calls kj23 t382 _ _ t383 _ _ t386 (rd t370 t397) t397 t399 _ ?side1 ?side2 ?side3 ?side4 A48.out).mono ?_
      (case side1=>repeat (first|exact (Kd.R_reads' HO_391001.out).2.2|(with_reducible first|apply aC|apply nC|apply dC)))
      (case side2=>exact (Kd.R_reads' HO_391001.out).2.1)
      (case side3=>repeat (first|exact (Kd.N_reads' HO_391002.out).2.2|(with_reducible first|apply aC|apply nC|apply dC)))
      (case side4=>exact (Kd.N_reads' HO_391002.out).2.1)
      rintro e w77 ⟨rfl,hb⟩
      have HS3_:=(hb.cell (World.block_lt_of_cell? _ _ (hHeld.2.2.2))).trans (hHeld.2.2.2)
      refine⟨_,rfl,?_⟩
      have n0_:=mk0 (Kd.R_below (by (with_reducible repeat (first|apply aR|apply nR|apply dR));exact HO_3.out) hb)
      have n1_:=mk0 (Kd.R_below (by (with_reducible repeat (first|apply aR|apply nR|apply dR));exact HO_382001.out) hb)
      have n2_:=mk0 (Kd.N_below (by (with_reducible repeat (first|apply aN|apply nN|apply dN));exact HO_382002.out) hb)
      have n3_:=mk0 (Kd.R_below (by (with_reducible repeat (first|apply aR|apply nR|apply dR));exact HO_391001.out) hb)
      have n4_:=mk0 (Kd.N_below (by (with_reducible repeat (first|apply aN|apply nN|apply dN));exact HO_391002.out) hb)
      have n5_:=mk0 (blk_below (g:=gb381) (o:=.cells #[.int .i64 t373,.slice Ao13 t374.length co13,.slice Ao14 t377.length co14] 30 (0,0)) (by (with_reducible repeat (first|apply nB|apply dB|apply aB));exact BK381.out) hb)
      have n6_:=mk0 (blk_below (g:=gb390) (o:=.cells #[.int .i64 t382,.slice Ao20 t383.length co20,.slice Ao21 t386.length co21] 30 (0,0)) (by (with_reducible repeat (first|apply nB|apply dB|apply aB));exact BK390.out) hb)
      have n7_:=mk0 (below_step (by repeat (first|(with_reducible first|exact HB.out|apply aZ|apply nZ|apply dZ|refine sZ ?_ GE381.out|refine sZ ?_ GE390.out)|exact HB.out)) hb)
      clear HO_3
      clear HO_382001
      clear HO_382002
      clear HO_391001
      clear HO_391002
      clear BK381
      clear BK390
      clear HB
      have HO_3:=n0_
      have HO_382001:=n1_
      have HO_382002:=n2_
      have HO_391001:=n3_
      have HO_391002:=n4_
      have BK381:=n5_
      have BK390:=n6_
      have HB:=n7_
      clear n0_ n1_ n2_ n3_ n4_ n5_ n6_ n7_
      (try clear hb)
      (try clear hb2)
      (try clear hk)
      (try clear hi)
      refine hK.out _ _ ⟨(blk_cell BK390.out 0).trans rfl,(blk_cell BK390.out 1).trans rfl,(blk_cell BK390.out 2).trans rfl,HS3_⟩ (fun hHeld=>?_)
      clear hK K
      refine norm_ (a':=?_) ?_ ?_
      rotate_left
      ·show Act.put _ (some 60) _ = _
       simp only [Act.put,sA,sO,sS,i64_w,i32_w]
       rfl
      refine pure_ (i:=7) (N:=some 9) (v:=?_) (a':=?_) #[true,true,true,true,true,true,true,true] rfl rfl (any_of HT_.out (by kernel_rfl)) (fun _ _ _ h=>h) (Or.inl ⟨by rfl,?_⟩) ?_ ?_
      rotate_left
      ·intro w'
       go_simp
       with_reducible rfl
      rotate_left
      ·simp only [Act.put,sA,sO,sS,i64_w,i32_w]
       rfl
      refine done_ (done_of HT_.out (by kernel_rfl)) ?_
      try go_wp2
      have n0_:=mk0 (dR HO_3.out)
      have n1_:=mk0 (dR HO_382001.out)
      have n2_:=mk0 (dN HO_382002.out)
      have n3_:=mk0 (dR HO_391001.out)
      have n4_:=mk0 (dN HO_391002.out)
      have n5_:=mk0 (dB BK381.out)
      have n6_:=mk0 (dB BK390.out)
      have n7_:=mk0 (dZ HB.out)
      clear HO_3
      clear HO_382001
      clear HO_382002
      clear HO_391001
      clear HO_391002
      clear BK381
      clear BK390
      clear HB
      have HO_3:=n0_
      have HO_382001:=n1_
      have HO_382002:=n2_
      have HO_391001:=n3_
      have HO_391002:=n4_
      have BK381:=n5_
      have BK390:=n6_
      have HB:=n7_
      clear n0_ n1_ n2_ n3_ n4_ n5_ n6_ n7_
      have p401:0 ≤ (t397:Int):=of_decide_eq_true (by first|(with_reducible assumption)|assumption)
      have q401:t397 < (t370.length:Int):=of_decide_eq_true (by first|(with_reducible assumption)|assumption)
      obtain⟨ad401,e401,hx401_0⟩:=Kd.at_int (Kd.R_reads' HO_3.out).2.2 t397 p401 q401
      obtain rfl:ad398 = ad401:=(by injection e401)
      replace p401:=eq_true p401
      replace q401:=eq_true q401
      refine start_ (n:=45) (S:=fun w'=>w'.cell? ⟨gb390,0,none⟩ = some (.int .i64 t382) ∧ w'.cell? ⟨gb390,1,none⟩ = some (.slice Ao20 t383.length co20) ∧ w'.cell? ⟨gb390,2,none⟩ = some (.slice Ao21 t386.length co21) ∧ w'.cell? (ad398.add (t397).toNat) = some (.int .i64 (rd t370 t397))) (ds:=[]) laws_FnWave.m6 (by kernel_rfl) rfl rfl ⟨(blk_cell BK390.out 0).trans rfl,(blk_cell BK390.out 1).trans rfl,(blk_cell BK390.out 2).trans rfl,hx401_0⟩ (fun hHeld=>?_);refine with_tabW laws_FnWave.tab14 laws_FnWave.bits14 (fun HT_ HW_=>?_)
      generalize w77.drew = w78 at HO_3 HO_382001 HO_382002 HO_391001 HO_391002 BK381 BK390 HB hx401_0 hHeld ⊢
      refine pure_ (i:=1) (N:=some 62) (v:=?_) (a':=?_) laws_FnWave.m7 rfl rfl (any_of HT_.out (by kernel_rfl)) (fun _ _ _ h=>h) (Or.inl ⟨by rfl,?_⟩) ?_ ?_
      rotate_left
      ·intro w'
       go_simp
       with_reducible rfl
      rotate_left
      ·simp only [Act.put,sA,sO,sS,i64_w,i32_w]
       rfl
      refine pure_ (i:=3) (N:=some 64) (v:=?_) (a':=?_) laws_FnWave.m8 rfl rfl (any_of HT_.out (by kernel_rfl)) (fun _ _ _ h=>h) (Or.inl ⟨by rfl,?_⟩) ?_ ?_
      rotate_left
      ·intro w'
       go_simp
       with_reducible rfl
      rotate_left
      ·simp only [Act.put,sA,sO,sS,i64_w,i32_w]
       rfl
      refine pure_ (i:=4) (N:=some 65) (v:=?_) (a':=?_) laws_FnWave.m9 rfl rfl (any_of HT_.out (by kernel_rfl)) (fun _ _ _ h=>h) (Or.inl ⟨by rfl,?_⟩) ?_ ?_
      rotate_left
      ·intro w'
       go_simp
       with_reducible rfl
      rotate_left
      ·simp only [Act.put,sA,sO,sS,i64_w,i32_w]
       rfl
      refine pure_ (i:=5) (N:=some 66) (v:=?_) (a':=?_) laws_FnWave.m10 rfl rfl (any_of HT_.out (by kernel_rfl)) (fun _ _ _ h=>h) (Or.inl ⟨by rfl,?_⟩) ?_ ?_
      rotate_left
      ·intro w'
       go_simp
       with_reducible rfl
      rotate_left
      ·simp only [Act.put,sA,sO,sS,i64_w,i32_w]
       rfl
      refine take_ (i:=0) (N:=some 61) (v:=?_) (a':=?_) laws_FnWave.m11 rfl rfl (take_ofW HT_.out HW_.out (by kernel_rfl)) (fun _ _ _ h=>h) (Or.inl ⟨by rfl,?_⟩) hHeld ?_ ?_
      rotate_left
      ·rintro w' ⟨s0,s1,s2,s3⟩
       go_simp
       with_reducible rfl
      rotate_left
      ·simp only [Act.put,sA,sO,sS,i64_w,i32_w]
       rfl
      refine take_ (i:=6) (N:=some 67) (v:=?_) (a':=?_) laws_FnWave.m12 rfl rfl (take_ofW HT_.out HW_.out (by kernel_rfl)) (fun _ _ _ h=>h) (Or.inl ⟨by rfl,?_⟩) hHeld ?_ ?_
      rotate_left
      ·rintro w' ⟨s0,s1,s2,s3⟩
       go_simp
       with_reducible rfl
      rotate_left
      ·simp only [Act.put,sA,sO,sS,i64_w,i32_w]
       rfl
      refine one_ (i:=2) (N:=some 63) laws_FnWave.m13 rfl rfl (one_of HT_.out (by kernel_rfl)) (by decide) (fun K hK=>?_)
      refine goes_ Try.func12 (by kernel_rfl) rfl #[.agg #[.int .i64 t382,.slice Ao20 t383.length co20,.slice Ao21 t386.length co21],.int .i64 t397] (by rfl) rfl rfl (by (try simp only [mA,mC,mN]);first|done|rfl|(simp only [List.length_drop,List.length_take];rfl)) ?_
      with_reducible refine (impl_WaveAt.calls kj23 t382 _ _ t383 _ _ t386 t397 t400 _ ?side1 ?side2 ?side3 ?side4 A49.out).mono ?_
      (case side1=>repeat (first|exact (Kd.R_reads' HO_391001.out).2.2|(with_reducible first|apply aC|apply nC|apply dC)))
      (case side2=>exact (Kd.R_reads' HO_391001.out).2.1)
      (case side3=>repeat (first|exact (Kd.N_reads' HO_391002.out).2.2|(with_reducible first|apply aC|apply nC|apply dC)))
      (case side4=>exact (Kd.N_reads' HO_391002.out).2.1)
      rintro e w79 ⟨rfl,hb⟩
      have HS3_:=(hb.cell (World.block_lt_of_cell? _ _ (hHeld.2.2.2))).trans (hHeld.2.2.2)
      refine⟨_,rfl,?_⟩
      have n0_:=mk0 (Kd.R_below (by (with_reducible repeat (first|apply aR|apply nR|apply dR));exact HO_3.out) hb)
      have n1_:=mk0 (Kd.R_below (by (with_reducible repeat (first|apply aR|apply nR|apply dR));exact HO_382001.out) hb)
      have n2_:=mk0 (Kd.N_below (by (with_reducible repeat (first|apply aN|apply nN|apply dN));exact HO_382002.out) hb)
      have n3_:=mk0 (Kd.R_below (by (with_reducible repeat (first|apply aR|apply nR|apply dR));exact HO_391001.out) hb)
      have n4_:=mk0 (Kd.N_below (by (with_reducible repeat (first|apply aN|apply nN|apply dN));exact HO_391002.out) hb)
      have n5_:=mk0 (blk_below (g:=gb381) (o:=.cells #[.int .i64 t373,.slice Ao13 t374.length co13,.slice Ao14 t377.length co14] 30 (0,0)) (by (with_reducible repeat (first|apply nB|apply dB|apply aB));exact BK381.out) hb)
      have n6_:=mk0 (blk_below (g:=gb390) (o:=.cells #[.int .i64 t382,.slice Ao20 t383.length co20,.slice Ao21 t386.length co21] 30 (0,0)) (by (with_reducible repeat (first|apply nB|apply dB|apply aB));exact BK390.out) hb)
      have n7_:=mk0 (below_step (by repeat (first|(with_reducible first|exact HB.out|apply aZ|apply nZ|apply dZ|refine sZ ?_ GE381.out|refine sZ ?_ GE390.out)|exact HB.out)) hb)
      clear HO_3
      clear HO_382001
      clear HO_382002
      clear HO_391001
      clear HO_391002
      clear BK381
      clear BK390
      clear HB
      have HO_3:=n0_
      have HO_382001:=n1_
      have HO_382002:=n2_
      have HO_391001:=n3_
      have HO_391002:=n4_
      have BK381:=n5_
      have BK390:=n6_
      have HB:=n7_
      clear n0_ n1_ n2_ n3_ n4_ n5_ n6_ n7_
      (try clear hb)
      (try clear hb2)
      (try clear hk)
      (try clear hi)
      refine hK.out _ _ ⟨(blk_cell BK390.out 0).trans rfl,(blk_cell BK390.out 1).trans rfl,(blk_cell BK390.out 2).trans rfl,HS3_⟩ (fun hHeld=>?_)
      clear hK K
      refine norm_ (a':=?_) ?_ ?_
      rotate_left
      ·show Act.put _ (some 63) _ = _
       simp only [Act.put,sA,sO,sS,i64_w,i32_w]
       rfl
      refine pure_ (i:=7) (N:=some 68) (v:=?_) (a':=?_) laws_FnWave.m14 rfl rfl (any_of HT_.out (by kernel_rfl)) (fun _ _ _ h=>h) (Or.inl ⟨by rfl,?_⟩) ?_ ?_
      rotate_left
      ·intro w'
       go_simp
       with_reducible rfl
      rotate_left
      ·simp only [Act.put,sA,sO,sS,i64_w,i32_w]
       rfl
      refine pure_ (i:=8) (N:=some 69) (v:=?_) (a':=?_) laws_FnWave.m15 rfl rfl (any_of HT_.out (by kernel_rfl)) (fun _ _ _ h=>h) (Or.inl ⟨by rfl,?_⟩) ?_ ?_
      rotate_left
      ·intro w'
       go_simp
       with_reducible rfl
      rotate_left
      ·simp only [Act.put,sA,sO,sS,i64_w,i32_w]
       rfl
      refine pure_ (i:=9) (N:=some 70) (v:=undef) (a':=?_) laws_FnWave.m16 rfl rfl (any_of HT_.out (by kernel_rfl)) (fun _ _ _ h=>h) (Or.inr ⟨by rfl,rfl⟩) ?_ ?_
      rotate_left
      ·simp only [Act.put,sA,sO,sS,i64_w,i32_w]
       rfl
      refine pure_ (i:=10) (N:=some 71) (v:=undef) (a':=?_) laws_FnWave.m17 rfl rfl (any_of HT_.out (by kernel_rfl)) (fun _ _ _ h=>h) (Or.inr ⟨by rfl,rfl⟩) ?_ ?_
      rotate_left
      ·simp only [Act.put,sA,sO,sS,i64_w,i32_w]
       rfl
      refine pure_ (i:=11) (N:=some 72) (v:=undef) (a':=?_) laws_FnWave.m18 rfl rfl (any_of HT_.out (by kernel_rfl)) (fun _ _ _ h=>h) (Or.inr ⟨by rfl,rfl⟩) ?_ ?_
      rotate_left
      ·simp only [Act.put,sA,sO,sS,i64_w,i32_w]
       rfl
      refine pure_ (i:=12) (N:=some 73) (v:=undef) (a':=?_) laws_FnWave.m19 rfl rfl (any_of HT_.out (by kernel_rfl)) (fun _ _ _ h=>h) (Or.inr ⟨by rfl,rfl⟩) ?_ ?_
      rotate_left
      ·simp only [Act.put,sA,sO,sS,i64_w,i32_w]
       rfl
      refine pure_ (i:=13) (N:=some 74) (v:=undef) (a':=?_) laws_FnWave.m20 rfl rfl (any_of HT_.out (by kernel_rfl)) (fun _ _ _ h=>h) (Or.inr ⟨by rfl,rfl⟩) ?_ ?_
      rotate_left
      ·simp only [Act.put,sA,sO,sS,i64_w,i32_w]
       rfl
      refine pure_ (i:=14) (N:=some 75) (v:=undef) (a':=?_) laws_FnWave.m21 rfl rfl (any_of HT_.out (by kernel_rfl)) (fun _ _ _ h=>h) (Or.inr ⟨by rfl,rfl⟩) ?_ ?_
      rotate_left
      ·simp only [Act.put,sA,sO,sS,i64_w,i32_w]
       rfl
      refine pure_ (i:=15) (N:=some 76) (v:=undef) (a':=?_) laws_FnWave.m22 rfl rfl (any_of HT_.out (by kernel_rfl)) (fun _ _ _ h=>h) (Or.inr ⟨by rfl,rfl⟩) ?_ ?_
      rotate_left
      ·simp only [Act.put,sA,sO,sS,i64_w,i32_w]
       rfl
      refine pure_ (i:=16) (N:=some 77) (v:=undef) (a':=?_) laws_FnWave.m23 rfl rfl (any_of HT_.out (by kernel_rfl)) (fun _ _ _ h=>h) (Or.inr ⟨by rfl,rfl⟩) ?_ ?_
      rotate_left
      ·simp only [Act.put,sA,sO,sS,i64_w,i32_w]
       rfl
      refine pure_ (i:=17) (N:=some 78) (v:=undef) (a':=?_) laws_FnWave.m24 rfl rfl (any_of HT_.out (by kernel_rfl)) (fun _ _ _ h=>h) (Or.inr ⟨by rfl,rfl⟩) ?_ ?_
      rotate_left
      ·simp only [Act.put,sA,sO,sS,i64_w,i32_w]
       rfl
      refine pure_ (i:=18) (N:=some 79) (v:=undef) (a':=?_) laws_FnWave.m25 rfl rfl (any_of HT_.out (by kernel_rfl)) (fun _ _ _ h=>h) (Or.inr ⟨by rfl,rfl⟩) ?_ ?_
      rotate_left
      ·simp only [Act.put,sA,sO,sS,i64_w,i32_w]
       rfl
      refine pure_ (i:=19) (N:=some 80) (v:=?_) (a':=?_) laws_FnWave.m26 rfl rfl (any_of HT_.out (by kernel_rfl)) (fun _ _ _ h=>h) (Or.inl ⟨by rfl,?_⟩) ?_ ?_
      rotate_left
      ·intro w'
       go_simp
       with_reducible rfl
      rotate_left
      ·simp only [Act.put,sA,sO,sS,i64_w,i32_w]
       rfl
      refine pure_ (i:=20) (N:=some 81) (v:=?_) (a':=?_) laws_FnWave.m27 rfl rfl (any_of HT_.out (by kernel_rfl)) (fun _ _ _ h=>h) (Or.inl ⟨by rfl,?_⟩) ?_ ?_
      rotate_left
      ·intro w'
       go_simp
       with_reducible rfl
      rotate_left
      ·simp only [Act.put,sA,sO,sS,i64_w,i32_w]
       rfl
      refine pure_ (i:=21) (N:=some 82) (v:=undef) (a':=?_) laws_FnWave.m28 rfl rfl (any_of HT_.out (by kernel_rfl)) (fun _ _ _ h=>h) (Or.inr ⟨by rfl,rfl⟩) ?_ ?_
      rotate_left
      ·simp only [Act.put,sA,sO,sS,i64_w,i32_w]
       rfl
      refine pure_ (i:=22) (N:=some 83) (v:=undef) (a':=?_) laws_FnWave.m29 rfl rfl (any_of HT_.out (by kernel_rfl)) (fun _ _ _ h=>h) (Or.inr ⟨by rfl,rfl⟩) ?_ ?_
      rotate_left
      ·simp only [Act.put,sA,sO,sS,i64_w,i32_w]
       rfl
      refine pure_ (i:=23) (N:=some 84) (v:=undef) (a':=?_) laws_FnWave.m30 rfl rfl (any_of HT_.out (by kernel_rfl)) (fun _ _ _ h=>h) (Or.inr ⟨by rfl,rfl⟩) ?_ ?_
      rotate_left
      ·simp only [Act.put,sA,sO,sS,i64_w,i32_w]
       rfl
      refine pure_ (i:=24) (N:=some 85) (v:=undef) (a':=?_) laws_FnWave.m31 rfl rfl (any_of HT_.out (by kernel_rfl)) (fun _ _ _ h=>h) (Or.inr ⟨by rfl,rfl⟩) ?_ ?_
      rotate_left
      ·simp only [Act.put,sA,sO,sS,i64_w,i32_w]
       rfl
      refine pure_ (i:=25) (N:=some 86) (v:=undef) (a':=?_) laws_FnWave.m32 rfl rfl (any_of HT_.out (by kernel_rfl)) (fun _ _ _ h=>h) (Or.inr ⟨by rfl,rfl⟩) ?_ ?_
      rotate_left
      ·simp only [Act.put,sA,sO,sS,i64_w,i32_w]
       rfl
      refine pure_ (i:=26) (N:=some 87) (v:=undef) (a':=?_) laws_FnWave.m33 rfl rfl (any_of HT_.out (by kernel_rfl)) (fun _ _ _ h=>h) (Or.inr ⟨by rfl,rfl⟩) ?_ ?_
      rotate_left
      ·simp only [Act.put,sA,sO,sS,i64_w,i32_w]
       rfl
      refine pure_ (i:=27) (N:=some 88) (v:=undef) (a':=?_) laws_FnWave.m34 rfl rfl (any_of HT_.out (by kernel_rfl)) (fun _ _ _ h=>h) (Or.inr ⟨by rfl,rfl⟩) ?_ ?_
      rotate_left
      ·simp only [Act.put,sA,sO,sS,i64_w,i32_w]
       rfl
      refine pure_ (i:=28) (N:=some 89) (v:=undef) (a':=?_) laws_FnWave.m35 rfl rfl (any_of HT_.out (by kernel_rfl)) (fun _ _ _ h=>h) (Or.inr ⟨by rfl,rfl⟩) ?_ ?_
      rotate_left
      ·simp only [Act.put,sA,sO,sS,i64_w,i32_w]
       rfl
      refine pure_ (i:=29) (N:=some 90) (v:=undef) (a':=?_) laws_FnWave.m36 rfl rfl (any_of HT_.out (by kernel_rfl)) (fun _ _ _ h=>h) (Or.inr ⟨by rfl,rfl⟩) ?_ ?_
      rotate_left
      ·simp only [Act.put,sA,sO,sS,i64_w,i32_w]
       rfl
      refine pure_ (i:=30) (N:=some 91) (v:=?_) (a':=?_) laws_FnWave.m37 rfl rfl (any_of HT_.out (by kernel_rfl)) (fun _ _ _ h=>h) (Or.inl ⟨by rfl,?_⟩) ?_ ?_
      rotate_left
      ·intro w'
       go_simp
       with_reducible rfl
      rotate_left
      ·simp only [Act.put,sA,sO,sS,i64_w,i32_w]
       rfl
      refine pure_ (i:=31) (N:=some 92) (v:=?_) (a':=?_) laws_FnWave.m38 rfl rfl (any_of HT_.out (by kernel_rfl)) (fun _ _ _ h=>h) (Or.inl ⟨by rfl,?_⟩) ?_ ?_
      rotate_left
      ·intro w'
       go_simp
       with_reducible rfl
      rotate_left
      ·simp only [Act.put,sA,sO,sS,i64_w,i32_w]
       rfl
      refine pure_ (i:=32) (N:=some 93) (v:=undef) (a':=?_) laws_FnWave.m39 rfl rfl (any_of HT_.out (by kernel_rfl)) (fun _ _ _ h=>h) (Or.inr ⟨by rfl,rfl⟩) ?_ ?_
      rotate_left
      ·simp only [Act.put,sA,sO,sS,i64_w,i32_w]
       rfl
      refine pure_ (i:=33) (N:=some 94) (v:=undef) (a':=?_) laws_FnWave.m40 rfl rfl (any_of HT_.out (by kernel_rfl)) (fun _ _ _ h=>h) (Or.inr ⟨by rfl,rfl⟩) ?_ ?_
      rotate_left
      ·simp only [Act.put,sA,sO,sS,i64_w,i32_w]
       rfl
      refine pure_ (i:=34) (N:=some 95) (v:=undef) (a':=?_) laws_FnWave.m41 rfl rfl (any_of HT_.out (by kernel_rfl)) (fun _ _ _ h=>h) (Or.inr ⟨by rfl,rfl⟩) ?_ ?_
      rotate_left
      ·simp only [Act.put,sA,sO,sS,i64_w,i32_w]
       rfl
      refine pure_ (i:=35) (N:=some 96) (v:=undef) (a':=?_) laws_FnWave.m42 rfl rfl (any_of HT_.out (by kernel_rfl)) (fun _ _ _ h=>h) (Or.inr ⟨by rfl,rfl⟩) ?_ ?_
      rotate_left
      ·simp only [Act.put,sA,sO,sS,i64_w,i32_w]
       rfl
      refine pure_ (i:=36) (N:=some 97) (v:=undef) (a':=?_) laws_FnWave.m43 rfl rfl (any_of HT_.out (by kernel_rfl)) (fun _ _ _ h=>h) (Or.inr ⟨by rfl,rfl⟩) ?_ ?_
      rotate_left
      ·simp only [Act.put,sA,sO,sS,i64_w,i32_w]
       rfl
      refine pure_ (i:=37) (N:=some 98) (v:=undef) (a':=?_) laws_FnWave.m44 rfl rfl (any_of HT_.out (by kernel_rfl)) (fun _ _ _ h=>h) (Or.inr ⟨by rfl,rfl⟩) ?_ ?_
      rotate_left
      ·simp only [Act.put,sA,sO,sS,i64_w,i32_w]
       rfl
      refine pure_ (i:=38) (N:=some 99) (v:=undef) (a':=?_) laws_FnWave.m45 rfl rfl (any_of HT_.out (by kernel_rfl)) (fun _ _ _ h=>h) (Or.inr ⟨by rfl,rfl⟩) ?_ ?_
      rotate_left
      ·simp only [Act.put,sA,sO,sS,i64_w,i32_w]
       rfl
      refine pure_ (i:=39) (N:=some 100) (v:=undef) (a':=?_) laws_FnWave.m46 rfl rfl (any_of HT_.out (by kernel_rfl)) (fun _ _ _ h=>h) (Or.inr ⟨by rfl,rfl⟩) ?_ ?_
      rotate_left
      ·simp only [Act.put,sA,sO,sS,i64_w,i32_w]
       rfl
      refine pure_ (i:=40) (N:=some 101) (v:=undef) (a':=?_) laws_FnWave.m47 rfl rfl (any_of HT_.out (by kernel_rfl)) (fun _ _ _ h=>h) (Or.inr ⟨by rfl,rfl⟩) ?_ ?_
      rotate_left
      ·simp only [Act.put,sA,sO,sS,i64_w,i32_w]
       rfl
      refine pure_ (i:=41) (N:=some 102) (v:=undef) (a':=?_) laws_FnWave.m48 rfl rfl (any_of HT_.out (by kernel_rfl)) (fun _ _ _ h=>h) (Or.inr ⟨by rfl,rfl⟩) ?_ ?_
      rotate_left
      ·simp only [Act.put,sA,sO,sS,i64_w,i32_w]
       rfl
      refine pure_ (i:=42) (N:=some 103) (v:=undef) (a':=?_) laws_FnWave.m49 rfl rfl (any_of HT_.out (by kernel_rfl)) (fun _ _ _ h=>h) (Or.inr ⟨by rfl,rfl⟩) ?_ ?_
      rotate_left
      ·simp only [Act.put,sA,sO,sS,i64_w,i32_w]
       rfl
      refine pure_ (i:=43) (N:=some 104) (v:=?_) (a':=?_) laws_FnWave.m50 rfl rfl (any_of HT_.out (by kernel_rfl)) (fun _ _ _ h=>h) (Or.inl ⟨by rfl,?_⟩) ?_ ?_
      rotate_left
      ·intro w'
       go_simp
       with_reducible rfl
      rotate_left
      ·simp only [Act.put,sA,sO,sS,i64_w,i32_w]
       rfl
      refine pure_ (i:=44) (N:=some 2) (v:=?_) (a':=?_) laws_FnWave.m51 rfl rfl (any_of HT_.out (by kernel_rfl)) (fun _ _ _ h=>h) (Or.inl ⟨by rfl,?_⟩) ?_ ?_
      rotate_left
      ·intro w'
       go_simp
       with_reducible rfl
      rotate_left
      ·simp only [Act.put,sA,sO,sS,i64_w,i32_w]
       rfl
      refine done_ (done_of HT_.out (by kernel_rfl)) ?_
      try go_wp2
      go_ret
      exact⟨by first|rfl|(simp [errW_none,errW_some] <;> rfl)|(simp [*,errW_none,errW_some] <;> rfl),by repeat (first|(with_reducible first|exact HB.out|apply aZ|apply nZ|apply dZ|refine sZ ?_ GE381.out|refine sZ ?_ GE390.out)|exact HB.out)⟩
     rw [if_pos c50] at H
     have c50b0:(t400 == (rd t370 t397)) = true:=beq_iff_eq.mpr c50
     have c50b1:(t400 != (rd t370 t397)) = false:=bne_eq_false_iff_eq.mpr c50
     clear c50
     have c51b0:=eq_true (of_decide_eq_true (by first|(with_reducible assumption)|assumption):0 ≤ t397)
     by_cases c52:t397 ≤ (t370.length:Int)
     rotate_left
     ·rw [if_neg c52] at H
      exact absurd H (by simp)
     rw [if_pos c52] at H
     have c52b0:=eq_true c52
     have c52b1:decide (t397 ≤ (t370.length:Int)) = true:=decide_eq_true c52
     clear c52
     obtain⟨y402,hy402⟩:∃ y_:List Int,y_ = (t370.take (t397:Int).toNat):=⟨_,rfl⟩
     replace H:((laws_count.f kj23 y402 (rd t370 t397)).bind fun t408=>(if t399 = t408 then ((impl_WaveSelect.f kj23 t382 t383 t386 (rd t370 t397) t399).bind fun t410=>(if t410 = t397 then ((impl_WaveRank.f kj23 t382 t383 t386 (rd t370 t397) (wrap64 (t397 + 1))).bind fun t412=>(some (t412 == (wrap64 (t399 + 1))))) else (some false))) else (some false))) = some r:=by first|(rw [hy402];with_reducible exact H)|(have H2_:=(Option.bind_some _ _).symm.trans H;rw [hy402];with_reducible exact H2_)|(have H2_:=(Option.bind_some _ _).symm.trans H;with_reducible exact H2_)|with_reducible exact H|(rw [hy402];exact H)|exact H
     have Ny402:=mk0 hy402
     clear hy402
     replace H:=Option.bind_eq_some_iff.mp H
     obtain⟨t408,A530,H⟩:=H
     replace H:(if t399 = t408 then ((impl_WaveSelect.f kj23 t382 t383 t386 (rd t370 t397) t399).bind fun t410=>(if t410 = t397 then ((impl_WaveRank.f kj23 t382 t383 t386 (rd t370 t397) (wrap64 (t397 + 1))).bind fun t412=>(some (t412 == (wrap64 (t399 + 1))))) else (some false))) else (some false)) = some r:=H
     have A53:=mk0 A530
     clear A530
     by_cases c54:t399 = t408
     rotate_left
     ·rw [if_neg c54] at H
      have c54b0:(t399 == t408) = false:=beq_eq_false_iff_ne.mpr c54
      have c54b1:(t399 != t408) = true:=bne_iff_ne.mpr c54
      obtain rfl:=Option.some.inj H
      try go_wp2_with (first|((with_reducible refine gate_callee (f:=21) rfl ?_);refine goesL_ (some 53) rfl rfl Try.func21 (by kernel_rfl) rfl #[.slice A0 l0.length c0,.int .i64 3,.int .i64 (t370.length:Int)] rfl (by (try simp only [mA,mC,mN]);first|done|rfl|(simp only [List.length_drop,List.length_take];rfl)) ?_;(with_reducible refine (laws_pick.calls kj23 _ _ l0 3 (t370.length:Int) t397 _ ?side1 ?side2 A45.out).mono ?_);(case side1=>repeat (first|exact (Kd.C_below HR0.out HB.out)|(with_reducible first|apply aC|apply nC|apply dC)));(case side2=>exact HC0.out);rintro e w' ⟨rfl,⟨nd,rfl⟩⟩;refine⟨_,rfl,?_⟩))
      (try (rw [drewN_self wc];generalize hq_:World.drewN wc _ = wc;have n0_:Aside0 (Kd.R (Kd.int .i64) 3 wc w.heap.size (fun k_=>some k_ ≠ (.slice Ao13 t374.length co13:Value).ownBlock ∧ some k_ ≠ (.slice Ao20 t383.length co20:Value).ownBlock) (.slice Ao9 t370.length co9) t370):=⟨by rw [← hq_];exact (by (with_reducible repeat (first|apply aR|apply nR|apply dR));exact HO_3.out)⟩;have n1_:Aside0 (Kd.R (Kd.int .i64) 3 wc w.heap.size (fun k_=>some k_ ≠ (.slice Ao9 t370.length co9:Value).ownBlock ∧ some k_ ≠ (.slice Ao20 t383.length co20:Value).ownBlock) (.slice Ao13 t374.length co13) t374):=⟨by rw [← hq_];exact (by (with_reducible repeat (first|apply aR|apply nR|apply dR));exact HO_382001.out)⟩;have n2_:Aside0 (Kd.N k64 64 wc w.heap.size (fun k_=>some k_ ≠ (.slice Ao9 t370.length co9:Value).ownBlock ∧ some k_ ≠ (.slice Ao13 t374.length co13:Value).ownBlock ∧ some k_ ≠ (.slice Ao20 t383.length co20:Value).ownBlock ∧ some k_ ≠ (.slice Ao21 t386.length co21:Value).ownBlock ∧ k_ ≠ gb381 ∧ k_ ≠ gb390) (.slice Ao14 t377.length co14) t377):=⟨by rw [← hq_];exact (by (with_reducible repeat (first|apply aN|apply nN|apply dN));exact HO_382002.out)⟩;have n3_:Aside0 (Kd.R (Kd.int .i64) 3 wc w.heap.size (fun k_=>some k_ ≠ (.slice Ao9 t370.length co9:Value).ownBlock ∧ some k_ ≠ (.slice Ao13 t374.length co13:Value).ownBlock) (.slice Ao20 t383.length co20) t383):=⟨by rw [← hq_];exact (by (with_reducible repeat (first|apply aR|apply nR|apply dR));exact HO_391001.out)⟩;have n4_:Aside0 (Kd.N k64 64 wc w.heap.size (fun k_=>some k_ ≠ (.slice Ao13 t374.length co13:Value).ownBlock ∧ some k_ ≠ (.slice Ao14 t377.length co14:Value).ownBlock ∧ some k_ ≠ (.slice Ao20 t383.length co20:Value).ownBlock ∧ k_ ≠ gb381 ∧ k_ ≠ gb390) (.slice Ao21 t386.length co21) t386):=⟨by rw [← hq_];exact (by (with_reducible repeat (first|apply aN|apply nN|apply dN));exact HO_391002.out)⟩;have n5_:Aside0 (wc.heap[gb381]? = some (.cells #[.int .i64 t373,.slice Ao13 t374.length co13,.slice Ao14 t377.length co14] 30 (0,0))):=⟨by rw [← hq_];exact (by (with_reducible repeat (first|apply nB|apply dB|apply aB));exact BK381.out)⟩;have n6_:Aside0 (wc.heap[gb390]? = some (.cells #[.int .i64 t382,.slice Ao20 t383.length co20,.slice Ao21 t386.length co21] 30 (0,0))):=⟨by rw [← hq_];exact (by (with_reducible repeat (first|apply nB|apply dB|apply aB));exact BK390.out)⟩;have n7_:Aside0 (Below w.heap.size w wc):=⟨by rw [← hq_];exact (by repeat (first|(with_reducible first|exact HB.out|apply aZ|apply nZ|apply dZ|refine sZ ?_ GE381.out|refine sZ ?_ GE390.out)|exact HB.out))⟩;clear HO_3 HO_382001 HO_382002 HO_391001 HO_391002 BK381 BK390 HB hq_;have HO_3:=n0_;have HO_382001:=n1_;have HO_382002:=n2_;have HO_391001:=n3_;have HO_391002:=n4_;have BK381:=n5_;have BK390:=n6_;have HB:=n7_;clear n0_ n1_ n2_ n3_ n4_ n5_ n6_ n7_))
      have n0_:=mk0 (dR HO_3.out)
      have n1_:=mk0 (dR HO_382001.out)
      have n2_:=mk0 (dN HO_382002.out)
      have n3_:=mk0 (dR HO_391001.out)
      have n4_:=mk0 (dN HO_391002.out)
      have n5_:=mk0 (dB BK381.out)
      have n6_:=mk0 (dB BK390.out)
      have n7_:=mk0 (dZ HB.out)
      clear HO_3
      clear HO_382001
      clear HO_382002
      clear HO_391001
      clear HO_391002
      clear BK381
      clear BK390
      clear HB
      have HO_3:=n0_
      have HO_382001:=n1_
      have HO_382002:=n2_
      have HO_391001:=n3_
      have HO_391002:=n4_
      have BK381:=n5_
      have BK390:=n6_
      have HB:=n7_
      clear n0_ n1_ n2_ n3_ n4_ n5_ n6_ n7_
      have p398:0 ≤ (t397:Int):=of_decide_eq_true (by first|(with_reducible assumption)|assumption)
      have q398:t397 < (t370.length:Int):=of_decide_eq_true (by first|(with_reducible assumption)|assumption)
      obtain⟨ad398,e398,hx398_0⟩:=Kd.at_int (Kd.R_reads' HO_3.out).2.2 t397 p398 q398
      cases e398
      replace p398:=eq_true p398
      replace q398:=eq_true q398
      refine start_ (n:=8) (S:=fun w'=>w'.cell? ⟨gb390,0,none⟩ = some (.int .i64 t382) ∧ w'.cell? ⟨gb390,1,none⟩ = some (.slice Ao20 t383.length co20) ∧ w'.cell? ⟨gb390,2,none⟩ = some (.slice Ao21 t386.length co21) ∧ w'.cell? (ad398.add (t397).toNat) = some (.int .i64 (rd t370 t397))) (ds:=[]) laws_FnWave.m0 (by kernel_rfl) rfl rfl ⟨(blk_cell BK390.out 0).trans rfl,(blk_cell BK390.out 1).trans rfl,(blk_cell BK390.out 2).trans rfl,hx398_0⟩ (fun hHeld=>?_);refine with_tabW laws_FnWave.tab13 laws_FnWave.bits13 (fun HT_ HW_=>?_)
      generalize wc.drew = w71 at HO_3 HO_382001 HO_382002 HO_391001 HO_391002 BK381 BK390 HB hx398_0 hHeld ⊢
      refine pure_ (i:=1) (N:=some 55) (v:=?_) (a':=?_) laws_FnWave.m1 rfl rfl (any_of HT_.out (by kernel_rfl)) (fun _ _ _ h=>h) (Or.inl ⟨by rfl,?_⟩) ?_ ?_
      rotate_left
      ·intro w'
       go_simp
       with_reducible rfl
      rotate_left
      ·simp only [Act.put,sA,sO,sS,i64_w,i32_w]
       rfl
      refine pure_ (i:=2) (N:=some 56) (v:=?_) (a':=?_) laws_FnWave.m2 rfl rfl (any_of HT_.out (by kernel_rfl)) (fun _ _ _ h=>h) (Or.inl ⟨by rfl,?_⟩) ?_ ?_
      rotate_left
      ·intro w'
       go_simp
       with_reducible rfl
      rotate_left
      ·simp only [Act.put,sA,sO,sS,i64_w,i32_w]
       rfl
      refine pure_ (i:=3) (N:=some 57) (v:=?_) (a':=?_) laws_FnWave.m3 rfl rfl (any_of HT_.out (by kernel_rfl)) (fun _ _ _ h=>h) (Or.inl ⟨by rfl,?_⟩) ?_ ?_
      rotate_left
      ·intro w'
       go_simp
       with_reducible rfl
      rotate_left
      ·simp only [Act.put,sA,sO,sS,i64_w,i32_w]
       rfl
      refine pure_ (i:=5) (N:=some 59) (v:=?_) (a':=?_) laws_FnWave.m4 rfl rfl (any_of HT_.out (by kernel_rfl)) (fun _ _ _ h=>h) (Or.inl ⟨by rfl,?_⟩) ?_ ?_
      rotate_left
      ·intro w'
       go_simp
       with_reducible rfl
      rotate_left
      ·simp only [Act.put,sA,sO,sS,i64_w,i32_w]
       rfl
      refine take_ (i:=0) (N:=some 54) (v:=?_) (a':=?_) laws_FnWave.m5 rfl rfl (take_ofW HT_.out HW_.out (by kernel_rfl)) (fun _ _ _ h=>h) (Or.inl ⟨by rfl,?_⟩) hHeld ?_ ?_
      rotate_left
      ·rintro w' ⟨s0,s1,s2,s3⟩
       go_simp
       with_reducible rfl
      rotate_left
      ·simp only [Act.put,sA,sO,sS,i64_w,i32_w]
       rfl
      refine take_ (i:=4) (N:=some 58) (v:=?_) (a':=?_) #[true,true,true,true,true,true,false,false] rfl rfl (take_ofW HT_.out HW_.out (by kernel_rfl)) (fun _ _ _ h=>h) (Or.inl ⟨by rfl,?_⟩) hHeld ?_ ?_
      rotate_left
      ·rintro w' ⟨s0,s1,s2,s3⟩
       go_simp
       with_reducible rfl
      rotate_left
      ·simp only [Act.put,sA,sO,sS,i64_w,i32_w]
       rfl
      refine one_ (i:=6) (N:=some 60) #[true,true,true,true,true,true,true,false] rfl rfl (one_of HT_.out (by kernel_rfl)) (by decide) (fun K hK=>?_)
      refine goes_ Try.func22 (by kernel_rfl) rfl #[.agg #[.int .i64 t382,.slice Ao20 t383.length co20,.slice Ao21 t386.length co21],.int .i64 (rd t370 t397),.int .i64 t397] (by rfl) rfl rfl (by (try simp only [mA,mC,mN]);first|done|rfl|(simp only [List.length_drop,List.length_take];rfl)) ?_
      with_reducible refine (impl_WaveRank.calls kj23 t382 _ _ t383 _ _ t386 (rd t370 t397) t397 t399 _ ?side1 ?side2 ?side3 ?side4 A48.out).mono ?_
      (case side1=>repeat (first|exact (Kd.R_reads' HO_391001.out).2.2|(with_reducible first|apply aC|apply nC|apply dC)))
      (case side2=>exact (Kd.R_reads' HO_391001.out).2.1)
      (case side3=>repeat (first|exact (Kd.N_reads' HO_391002.out).2.2|(with_reducible first|apply aC|apply nC|apply dC)))
      (case side4=>exact (Kd.N_reads' HO_391002.out).2.1)
      rintro e w72 ⟨rfl,hb⟩
      have HS3_:=(hb.cell (World.block_lt_of_cell? _ _ (hHeld.2.2.2))).trans (hHeld.2.2.2)
      refine⟨_,rfl,?_⟩
      have n0_:=mk0 (Kd.R_below (by (with_reducible repeat (first|apply aR|apply nR|apply dR));exact HO_3.out) hb)
      have n1_:=mk0 (Kd.R_below (by (with_reducible repeat (first|apply aR|apply nR|apply dR));exact HO_382001.out) hb)
      have n2_:=mk0 (Kd.N_below (by (with_reducible repeat (first|apply aN|apply nN|apply dN));exact HO_382002.out) hb)
      have n3_:=mk0 (Kd.R_below (by (with_reducible repeat (first|apply aR|apply nR|apply dR));exact HO_391001.out) hb)
      have n4_:=mk0 (Kd.N_below (by (with_reducible repeat (first|apply aN|apply nN|apply dN));exact HO_391002.out) hb)
      have n5_:=mk0 (blk_below (g:=gb381) (o:=.cells #[.int .i64 t373,.slice Ao13 t374.length co13,.slice Ao14 t377.length co14] 30 (0,0)) (by (with_reducible repeat (first|apply nB|apply dB|apply aB));exact BK381.out) hb)
      have n6_:=mk0 (blk_below (g:=gb390) (o:=.cells #[.int .i64 t382,.slice Ao20 t383.length co20,.slice Ao21 t386.length co21] 30 (0,0)) (by (with_reducible repeat (first|apply nB|apply dB|apply aB));exact BK390.out) hb)
      have n7_:=mk0 (below_step (by repeat (first|(with_reducible first|exact HB.out|apply aZ|apply nZ|apply dZ|refine sZ ?_ GE381.out|refine sZ ?_ GE390.out)|exact HB.out)) hb)
      clear HO_3
      clear HO_382001
      clear HO_382002
      clear HO_391001
      clear HO_391002
      clear BK381
      clear BK390
      clear HB
      have HO_3:=n0_
      have HO_382001:=n1_
      have HO_382002:=n2_
      have HO_391001:=n3_
      have HO_391002:=n4_
      have BK381:=n5_
      have BK390:=n6_
      have HB:=n7_
      clear n0_ n1_ n2_ n3_ n4_ n5_ n6_ n7_
      (try clear hb)
      (try clear hb2)
      (try clear hk)
      (try clear hi)
      refine hK.out _ _ ⟨(blk_cell BK390.out 0).trans rfl,(blk_cell BK390.out 1).trans rfl,(blk_cell BK390.out 2).trans rfl,HS3_⟩ (fun hHeld=>?_)
      clear hK K
      refine norm_ (a':=?_) ?_ ?_
      rotate_left
      ·show Act.put _ (some 60) _ = _
       simp only [Act.put,sA,sO,sS,i64_w,i32_w]
       rfl
      refine pure_ (i:=7) (N:=some 9) (v:=?_) (a':=?_) #[true,true,true,true,true,true,true,true] rfl rfl (any_of HT_.out (by kernel_rfl)) (fun _ _ _ h=>h) (Or.inl ⟨by rfl,?_⟩) ?_ ?_
      rotate_left
      ·intro w'
       go_simp
       with_reducible rfl
      rotate_left
      ·simp only [Act.put,sA,sO,sS,i64_w,i32_w]
       rfl
      refine done_ (done_of HT_.out (by kernel_rfl)) ?_
      try go_wp2
      have n0_:=mk0 (dR HO_3.out)
      have n1_:=mk0 (dR HO_382001.out)
      have n2_:=mk0 (dN HO_382002.out)
      have n3_:=mk0 (dR HO_391001.out)
      have n4_:=mk0 (dN HO_391002.out)
      have n5_:=mk0 (dB BK381.out)
      have n6_:=mk0 (dB BK390.out)
      have n7_:=mk0 (dZ HB.out)
      clear HO_3
      clear HO_382001
      clear HO_382002
      clear HO_391001
      clear HO_391002
      clear BK381
      clear BK390
      clear HB
      have HO_3:=n0_
      have HO_382001:=n1_
      have HO_382002:=n2_
      have HO_391001:=n3_
      have HO_391002:=n4_
      have BK381:=n5_
      have BK390:=n6_
      have HB:=n7_
      clear n0_ n1_ n2_ n3_ n4_ n5_ n6_ n7_
      have p401:0 ≤ (t397:Int):=of_decide_eq_true (by first|(with_reducible assumption)|assumption)
      have q401:t397 < (t370.length:Int):=of_decide_eq_true (by first|(with_reducible assumption)|assumption)
      obtain⟨ad401,e401,hx401_0⟩:=Kd.at_int (Kd.R_reads' HO_3.out).2.2 t397 p401 q401
      obtain rfl:ad398 = ad401:=(by injection e401)
      replace p401:=eq_true p401
      replace q401:=eq_true q401
      have p407:0 ≤ (t397:Int):=of_decide_eq_true (by first|(with_reducible assumption)|assumption)
      have q407:t397 < (t370.length:Int):=of_decide_eq_true (by first|(with_reducible assumption)|assumption)
      obtain⟨ad407,e407,hx407_0⟩:=Kd.at_int (Kd.R_reads' HO_3.out).2.2 t397 p407 q407
      obtain rfl:ad398 = ad407:=(by injection e407)
      replace p407:=eq_true p407
      replace q407:=eq_true q407
      refine start_ (n:=45) (S:=fun w'=>w'.cell? ⟨gb390,0,none⟩ = some (.int .i64 t382) ∧ w'.cell? ⟨gb390,1,none⟩ = some (.slice Ao20 t383.length co20) ∧ w'.cell? ⟨gb390,2,none⟩ = some (.slice Ao21 t386.length co21) ∧ w'.cell? (ad398.add (t397).toNat) = some (.int .i64 (rd t370 t397)) ∧ w'.cell? (ad398.add (t397).toNat) = some (.int .i64 (rd t370 t397))) (ds:=[]) laws_FnWave.m6 (by kernel_rfl) rfl rfl ⟨(blk_cell BK390.out 0).trans rfl,(blk_cell BK390.out 1).trans rfl,(blk_cell BK390.out 2).trans rfl,hx401_0,hx407_0⟩ (fun hHeld=>?_);refine with_tabW laws_FnWave.tab14 laws_FnWave.bits14 (fun HT_ HW_=>?_)
      generalize w72.drew = w73 at HO_3 HO_382001 HO_382002 HO_391001 HO_391002 BK381 BK390 HB hx401_0 hx407_0 hHeld ⊢
      refine pure_ (i:=1) (N:=some 62) (v:=?_) (a':=?_) laws_FnWave.m7 rfl rfl (any_of HT_.out (by kernel_rfl)) (fun _ _ _ h=>h) (Or.inl ⟨by rfl,?_⟩) ?_ ?_
      rotate_left
      ·intro w'
       go_simp
       with_reducible rfl
      rotate_left
      ·simp only [Act.put,sA,sO,sS,i64_w,i32_w]
       rfl
      refine pure_ (i:=3) (N:=some 64) (v:=?_) (a':=?_) laws_FnWave.m8 rfl rfl (any_of HT_.out (by kernel_rfl)) (fun _ _ _ h=>h) (Or.inl ⟨by rfl,?_⟩) ?_ ?_
      rotate_left
      ·intro w'
       go_simp
       with_reducible rfl
      rotate_left
      ·simp only [Act.put,sA,sO,sS,i64_w,i32_w]
       rfl
      refine pure_ (i:=4) (N:=some 65) (v:=?_) (a':=?_) laws_FnWave.m9 rfl rfl (any_of HT_.out (by kernel_rfl)) (fun _ _ _ h=>h) (Or.inl ⟨by rfl,?_⟩) ?_ ?_
      rotate_left
      ·intro w'
       go_simp
       with_reducible rfl
      rotate_left
      ·simp only [Act.put,sA,sO,sS,i64_w,i32_w]
       rfl
      refine pure_ (i:=5) (N:=some 66) (v:=?_) (a':=?_) laws_FnWave.m10 rfl rfl (any_of HT_.out (by kernel_rfl)) (fun _ _ _ h=>h) (Or.inl ⟨by rfl,?_⟩) ?_ ?_
      rotate_left
      ·intro w'
       go_simp
       with_reducible rfl
      rotate_left
      ·simp only [Act.put,sA,sO,sS,i64_w,i32_w]
       rfl
      refine take_ (i:=0) (N:=some 61) (v:=?_) (a':=?_) laws_FnWave.m11 rfl rfl (take_ofW HT_.out HW_.out (by kernel_rfl)) (fun _ _ _ h=>h) (Or.inl ⟨by rfl,?_⟩) hHeld ?_ ?_
      rotate_left
      ·rintro w' ⟨s0,s1,s2,s3,s4⟩
       go_simp
       with_reducible rfl
      rotate_left
      ·simp only [Act.put,sA,sO,sS,i64_w,i32_w]
       rfl
      refine take_ (i:=6) (N:=some 67) (v:=?_) (a':=?_) laws_FnWave.m12 rfl rfl (take_ofW HT_.out HW_.out (by kernel_rfl)) (fun _ _ _ h=>h) (Or.inl ⟨by rfl,?_⟩) hHeld ?_ ?_
      rotate_left
      ·rintro w' ⟨s0,s1,s2,s3,s4⟩
       go_simp
       with_reducible rfl
      rotate_left
      ·simp only [Act.put,sA,sO,sS,i64_w,i32_w]
       rfl
      refine one_ (i:=2) (N:=some 63) laws_FnWave.m13 rfl rfl (one_of HT_.out (by kernel_rfl)) (by decide) (fun K hK=>?_)
      refine goes_ Try.func12 (by kernel_rfl) rfl #[.agg #[.int .i64 t382,.slice Ao20 t383.length co20,.slice Ao21 t386.length co21],.int .i64 t397] (by rfl) rfl rfl (by (try simp only [mA,mC,mN]);first|done|rfl|(simp only [List.length_drop,List.length_take];rfl)) ?_
      with_reducible refine (impl_WaveAt.calls kj23 t382 _ _ t383 _ _ t386 t397 t400 _ ?side1 ?side2 ?side3 ?side4 A49.out).mono ?_
      (case side1=>repeat (first|exact (Kd.R_reads' HO_391001.out).2.2|(with_reducible first|apply aC|apply nC|apply dC)))
      (case side2=>exact (Kd.R_reads' HO_391001.out).2.1)
      (case side3=>repeat (first|exact (Kd.N_reads' HO_391002.out).2.2|(with_reducible first|apply aC|apply nC|apply dC)))
      (case side4=>exact (Kd.N_reads' HO_391002.out).2.1)
      rintro e w74 ⟨rfl,hb⟩
      have HS3_:=(hb.cell (World.block_lt_of_cell? _ _ (hHeld.2.2.2.1))).trans (hHeld.2.2.2.1)
      have HS4_:=(hb.cell (World.block_lt_of_cell? _ _ (hHeld.2.2.2.2))).trans (hHeld.2.2.2.2)
      refine⟨_,rfl,?_⟩
      have n0_:=mk0 (Kd.R_below (by (with_reducible repeat (first|apply aR|apply nR|apply dR));exact HO_3.out) hb)
      have n1_:=mk0 (Kd.R_below (by (with_reducible repeat (first|apply aR|apply nR|apply dR));exact HO_382001.out) hb)
      have n2_:=mk0 (Kd.N_below (by (with_reducible repeat (first|apply aN|apply nN|apply dN));exact HO_382002.out) hb)
      have n3_:=mk0 (Kd.R_below (by (with_reducible repeat (first|apply aR|apply nR|apply dR));exact HO_391001.out) hb)
      have n4_:=mk0 (Kd.N_below (by (with_reducible repeat (first|apply aN|apply nN|apply dN));exact HO_391002.out) hb)
      have n5_:=mk0 (blk_below (g:=gb381) (o:=.cells #[.int .i64 t373,.slice Ao13 t374.length co13,.slice Ao14 t377.length co14] 30 (0,0)) (by (with_reducible repeat (first|apply nB|apply dB|apply aB));exact BK381.out) hb)
      have n6_:=mk0 (blk_below (g:=gb390) (o:=.cells #[.int .i64 t382,.slice Ao20 t383.length co20,.slice Ao21 t386.length co21] 30 (0,0)) (by (with_reducible repeat (first|apply nB|apply dB|apply aB));exact BK390.out) hb)
      have n7_:=mk0 (below_step (by repeat (first|(with_reducible first|exact HB.out|apply aZ|apply nZ|apply dZ|refine sZ ?_ GE381.out|refine sZ ?_ GE390.out)|exact HB.out)) hb)
      clear HO_3
      clear HO_382001
      clear HO_382002
      clear HO_391001
      clear HO_391002
      clear BK381
      clear BK390
      clear HB
      have HO_3:=n0_
      have HO_382001:=n1_
      have HO_382002:=n2_
      have HO_391001:=n3_
      have HO_391002:=n4_
      have BK381:=n5_
      have BK390:=n6_
      have HB:=n7_
      clear n0_ n1_ n2_ n3_ n4_ n5_ n6_ n7_
      (try clear hb)
      (try clear hb2)
      (try clear hk)
      (try clear hi)
      have q75:(t397:Int) ≤ ((t370.length:Int):Int):=of_decide_eq_true (by first|(with_reducible assumption)|assumption)
      obtain⟨i075,hi075,_,hsz75,_⟩:=info_parts info3
      have hroom75:t370.length ≤ co9:=(Kd.R_reads' HO_3.out).2.1
      have hC75:Kd.F (Kd.int .i64) _ _ (some ad398) t370.length t370:=(Kd.V_at (base:=w.heap.size) (Kd.R_V (Kd.R_types (Kd.R_types (Kd.R_apart' (Kd.R_apart' (HO_3.out) (Kd.N_typed HO_382002.out) (by decide)) (Kd.N_typed HO_391002.out) (by decide)) BK381.out (by decide)) BK390.out (by decide)))).2.2
      have hcut75:=cut_to (P:=Try.prog) 22 3 .i64 Try.underlying22 hi075 (some ad398) t370.length co9 t397 (of_decide_eq_true (by first|(with_reducible assumption)|assumption)) q75 hroom75
      have hr75:=Kd.F_take (m:=(t397:Int).toNat) hC75 (by omega)
      have hy75:y402.length = (t397:Int).toNat:=(by rw [Ny402.out,List.length_take];omega)
      rw [← Ny402.out] at hr75
      rw [← hy75] at hcut75
      have HO406:=mk0 (show Kd.V (Kd.int .i64) 3 _ w.heap.size _ (.slice (some ad398) y402.length co9) y402 from Kd.V_mk (by omega) hr75)
      have HC406:=mk0 (show y402.length ≤ co9 from by omega)
      clear hr75 hC75 hroom75 hi075 hsz75
      have KY75:=mk0 hy75
      clear hy75
      replace q75:=eq_true q75
      refine hK.out _ _ ⟨(blk_cell BK390.out 0).trans rfl,(blk_cell BK390.out 1).trans rfl,(blk_cell BK390.out 2).trans rfl,HS3_,HS4_⟩ (fun hHeld=>?_)
      clear hK K
      refine norm_ (a':=?_) ?_ ?_
      rotate_left
      ·show Act.put _ (some 63) _ = _
       simp only [Act.put,sA,sO,sS,i64_w,i32_w]
       rfl
      refine pure_ (i:=7) (N:=some 68) (v:=?_) (a':=?_) laws_FnWave.m14 rfl rfl (any_of HT_.out (by kernel_rfl)) (fun _ _ _ h=>h) (Or.inl ⟨by rfl,?_⟩) ?_ ?_
      rotate_left
      ·intro w'
       go_simp
       with_reducible rfl
      rotate_left
      ·simp only [Act.put,sA,sO,sS,i64_w,i32_w]
       rfl
      refine pure_ (i:=8) (N:=some 69) (v:=?_) (a':=?_) laws_FnWave.m15 rfl rfl (any_of HT_.out (by kernel_rfl)) (fun _ _ _ h=>h) (Or.inl ⟨by rfl,?_⟩) ?_ ?_
      rotate_left
      ·intro w'
       go_simp
       with_reducible rfl
      rotate_left
      ·simp only [Act.put,sA,sO,sS,i64_w,i32_w]
       rfl
      refine pure_ (i:=9) (N:=some 70) (v:=?_) (a':=?_) laws_FnWave.m16 rfl rfl (any_of HT_.out (by kernel_rfl)) (fun _ _ _ h=>h) (Or.inl ⟨by rfl,?_⟩) ?_ ?_
      rotate_left
      ·intro w'
       go_simp
       with_reducible rfl
      rotate_left
      ·simp only [Act.put,sA,sO,sS,i64_w,i32_w]
       rfl
      refine pure_ (i:=10) (N:=some 71) (v:=?_) (a':=?_) laws_FnWave.m17 rfl rfl (any_of HT_.out (by kernel_rfl)) (fun _ _ _ h=>h) (Or.inl ⟨by rfl,?_⟩) ?_ ?_
      rotate_left
      ·intro w'
       go_simp
       with_reducible rfl
      rotate_left
      ·simp only [Act.put,sA,sO,sS,i64_w,i32_w]
       rfl
      refine pure_ (i:=11) (N:=some 72) (v:=?_) (a':=?_) laws_FnWave.m18 rfl rfl (any_of HT_.out (by kernel_rfl)) (fun _ _ _ h=>h) (Or.inl ⟨by rfl,?_⟩) ?_ ?_
      rotate_left
      ·intro w'
       go_simp
       with_reducible rfl
      rotate_left
      ·simp only [Act.put,sA,sO,sS,i64_w,i32_w]
       rfl
      refine pure_ (i:=12) (N:=some 73) (v:=?_) (a':=?_) laws_FnWave.m19 rfl rfl (any_of HT_.out (by kernel_rfl)) (fun _ _ _ h=>h) (Or.inl ⟨by rfl,?_⟩) ?_ ?_
      rotate_left
      ·intro w'
       go_simp
       with_reducible rfl
      rotate_left
      ·simp only [Act.put,sA,sO,sS,i64_w,i32_w]
       rfl
      refine pure_ (i:=13) (N:=some 74) (v:=?_) (a':=?_) laws_FnWave.m20 rfl rfl (any_of HT_.out (by kernel_rfl)) (fun _ _ _ h=>h) (Or.inl ⟨by rfl,?_⟩) ?_ ?_
      rotate_left
      ·intro w'
       go_simp
       with_reducible rfl
      rotate_left
      ·simp only [Act.put,sA,sO,sS,i64_w,i32_w]
       rfl
      refine pure_ (i:=14) (N:=some 75) (v:=?_) (a':=?_) laws_FnWave.m21 rfl rfl (any_of HT_.out (by kernel_rfl)) (fun _ _ _ h=>h) (Or.inl ⟨by rfl,?_⟩) ?_ ?_
      rotate_left
      ·intro w'
       go_simp
       with_reducible rfl
      rotate_left
      ·simp only [Act.put,sA,sO,sS,i64_w,i32_w]
       rfl
      refine pure_ (i:=15) (N:=some 76) (v:=?_) (a':=?_) laws_FnWave.m22 rfl rfl (any_of HT_.out (by kernel_rfl)) (fun _ _ _ h=>h) (Or.inl ⟨by rfl,?_⟩) ?_ ?_
      rotate_left
      ·intro w'
       go_simp
       with_reducible rfl
      rotate_left
      ·simp only [Act.put,sA,sO,sS,i64_w,i32_w]
       rfl
      refine take_ (i:=16) (N:=some 77) (v:=?_) (a':=?_) laws_FnWave.m23 rfl rfl (take_ofW HT_.out HW_.out (by kernel_rfl)) (fun _ _ _ h=>h) (Or.inl ⟨by rfl,?_⟩) hHeld ?_ ?_
      rotate_left
      ·rintro w' ⟨s0,s1,s2,s3,s4⟩
       go_simp
       with_reducible rfl
      rotate_left
      ·simp only [Act.put,sA,sO,sS,i64_w,i32_w]
       rfl
      refine one_ (i:=17) (N:=some 78) laws_FnWave.m24 rfl rfl (one_of HT_.out (by kernel_rfl)) (by decide) (fun K hK=>?_)
      refine goes_ Try.func23 (by kernel_rfl) rfl #[.slice (some ad398) y402.length co9,.int .i64 (rd t370 t397)] (by rfl) rfl rfl (by (try simp only [mA,mC,mN]);first|done|rfl|(simp only [List.length_drop,List.length_take];rfl)) ?_
      with_reducible refine (laws_count.calls kj23 _ _ y402 (rd t370 t397) t408 _ ?side1 ?side2 A53.out).mono ?_
      (case side1=>repeat (first|exact (Kd.V_reads' HO406.out).2.2|(with_reducible first|apply aC|apply nC|apply dC)))
      (case side2=>exact (Kd.V_reads' HO406.out).2.1)
      rintro e w' ⟨rfl,⟨nd,rfl⟩⟩
      refine⟨_,rfl,?_⟩
      refine hK.out _ _ ⟨(blk_cell BK390.out 0).trans rfl,(blk_cell BK390.out 1).trans rfl,(blk_cell BK390.out 2).trans rfl,hHeld.2.2.2.1,hHeld.2.2.2.2⟩ (fun hHeld=>?_)
      clear hK K
      refine norm_ (a':=?_) ?_ ?_
      rotate_left
      ·show Act.put _ (some 78) _ = _
       simp only [Act.put,sA,sO,sS,i64_w,i32_w]
       rfl
      refine pure_ (i:=18) (N:=some 79) (v:=?_) (a':=?_) laws_FnWave.m25 rfl rfl (any_of HT_.out (by kernel_rfl)) (fun _ _ _ h=>h) (Or.inl ⟨by rfl,?_⟩) ?_ ?_
      rotate_left
      ·intro w'
       go_simp
       with_reducible rfl
      rotate_left
      ·simp only [Act.put,sA,sO,sS,i64_w,i32_w]
       rfl
      refine pure_ (i:=19) (N:=some 80) (v:=?_) (a':=?_) laws_FnWave.m26 rfl rfl (any_of HT_.out (by kernel_rfl)) (fun _ _ _ h=>h) (Or.inl ⟨by rfl,?_⟩) ?_ ?_
      rotate_left
      ·intro w'
       go_simp
       with_reducible rfl
      rotate_left
      ·simp only [Act.put,sA,sO,sS,i64_w,i32_w]
       rfl
      refine pure_ (i:=20) (N:=some 81) (v:=?_) (a':=?_) laws_FnWave.m27 rfl rfl (any_of HT_.out (by kernel_rfl)) (fun _ _ _ h=>h) (Or.inl ⟨by rfl,?_⟩) ?_ ?_
      rotate_left
      ·intro w'
       go_simp
       with_reducible rfl
      rotate_left
      ·simp only [Act.put,sA,sO,sS,i64_w,i32_w]
       rfl
      refine pure_ (i:=21) (N:=some 82) (v:=undef) (a':=?_) laws_FnWave.m28 rfl rfl (any_of HT_.out (by kernel_rfl)) (fun _ _ _ h=>h) (Or.inr ⟨by rfl,rfl⟩) ?_ ?_
      rotate_left
      ·simp only [Act.put,sA,sO,sS,i64_w,i32_w]
       rfl
      refine pure_ (i:=22) (N:=some 83) (v:=undef) (a':=?_) laws_FnWave.m29 rfl rfl (any_of HT_.out (by kernel_rfl)) (fun _ _ _ h=>h) (Or.inr ⟨by rfl,rfl⟩) ?_ ?_
      rotate_left
      ·simp only [Act.put,sA,sO,sS,i64_w,i32_w]
       rfl
      refine pure_ (i:=23) (N:=some 84) (v:=undef) (a':=?_) laws_FnWave.m30 rfl rfl (any_of HT_.out (by kernel_rfl)) (fun _ _ _ h=>h) (Or.inr ⟨by rfl,rfl⟩) ?_ ?_
      rotate_left
      ·simp only [Act.put,sA,sO,sS,i64_w,i32_w]
       rfl
      refine pure_ (i:=24) (N:=some 85) (v:=undef) (a':=?_) laws_FnWave.m31 rfl rfl (any_of HT_.out (by kernel_rfl)) (fun _ _ _ h=>h) (Or.inr ⟨by rfl,rfl⟩) ?_ ?_
      rotate_left
      ·simp only [Act.put,sA,sO,sS,i64_w,i32_w]
       rfl
      refine pure_ (i:=25) (N:=some 86) (v:=undef) (a':=?_) laws_FnWave.m32 rfl rfl (any_of HT_.out (by kernel_rfl)) (fun _ _ _ h=>h) (Or.inr ⟨by rfl,rfl⟩) ?_ ?_
      rotate_left
      ·simp only [Act.put,sA,sO,sS,i64_w,i32_w]
       rfl
      refine pure_ (i:=26) (N:=some 87) (v:=undef) (a':=?_) laws_FnWave.m33 rfl rfl (any_of HT_.out (by kernel_rfl)) (fun _ _ _ h=>h) (Or.inr ⟨by rfl,rfl⟩) ?_ ?_
      rotate_left
      ·simp only [Act.put,sA,sO,sS,i64_w,i32_w]
       rfl
      refine pure_ (i:=27) (N:=some 88) (v:=undef) (a':=?_) laws_FnWave.m34 rfl rfl (any_of HT_.out (by kernel_rfl)) (fun _ _ _ h=>h) (Or.inr ⟨by rfl,rfl⟩) ?_ ?_
      rotate_left
      ·simp only [Act.put,sA,sO,sS,i64_w,i32_w]
       rfl
      refine pure_ (i:=28) (N:=some 89) (v:=undef) (a':=?_) laws_FnWave.m35 rfl rfl (any_of HT_.out (by kernel_rfl)) (fun _ _ _ h=>h) (Or.inr ⟨by rfl,rfl⟩) ?_ ?_
      rotate_left
      ·simp only [Act.put,sA,sO,sS,i64_w,i32_w]
       rfl
      refine pure_ (i:=29) (N:=some 90) (v:=undef) (a':=?_) laws_FnWave.m36 rfl rfl (any_of HT_.out (by kernel_rfl)) (fun _ _ _ h=>h) (Or.inr ⟨by rfl,rfl⟩) ?_ ?_
      rotate_left
      ·simp only [Act.put,sA,sO,sS,i64_w,i32_w]
       rfl
      refine pure_ (i:=30) (N:=some 91) (v:=?_) (a':=?_) laws_FnWave.m37 rfl rfl (any_of HT_.out (by kernel_rfl)) (fun _ _ _ h=>h) (Or.inl ⟨by rfl,?_⟩) ?_ ?_
      rotate_left
      ·intro w'
       go_simp
       with_reducible rfl
      rotate_left
      ·simp only [Act.put,sA,sO,sS,i64_w,i32_w]
       rfl
      refine pure_ (i:=31) (N:=some 92) (v:=?_) (a':=?_) laws_FnWave.m38 rfl rfl (any_of HT_.out (by kernel_rfl)) (fun _ _ _ h=>h) (Or.inl ⟨by rfl,?_⟩) ?_ ?_
      rotate_left
      ·intro w'
       go_simp
       with_reducible rfl
      rotate_left
      ·simp only [Act.put,sA,sO,sS,i64_w,i32_w]
       rfl
      refine pure_ (i:=32) (N:=some 93) (v:=undef) (a':=?_) laws_FnWave.m39 rfl rfl (any_of HT_.out (by kernel_rfl)) (fun _ _ _ h=>h) (Or.inr ⟨by rfl,rfl⟩) ?_ ?_
      rotate_left
      ·simp only [Act.put,sA,sO,sS,i64_w,i32_w]
       rfl
      refine pure_ (i:=33) (N:=some 94) (v:=undef) (a':=?_) laws_FnWave.m40 rfl rfl (any_of HT_.out (by kernel_rfl)) (fun _ _ _ h=>h) (Or.inr ⟨by rfl,rfl⟩) ?_ ?_
      rotate_left
      ·simp only [Act.put,sA,sO,sS,i64_w,i32_w]
       rfl
      refine pure_ (i:=34) (N:=some 95) (v:=undef) (a':=?_) laws_FnWave.m41 rfl rfl (any_of HT_.out (by kernel_rfl)) (fun _ _ _ h=>h) (Or.inr ⟨by rfl,rfl⟩) ?_ ?_
      rotate_left
      ·simp only [Act.put,sA,sO,sS,i64_w,i32_w]
       rfl
      refine pure_ (i:=35) (N:=some 96) (v:=undef) (a':=?_) laws_FnWave.m42 rfl rfl (any_of HT_.out (by kernel_rfl)) (fun _ _ _ h=>h) (Or.inr ⟨by rfl,rfl⟩) ?_ ?_
      rotate_left
      ·simp only [Act.put,sA,sO,sS,i64_w,i32_w]
       rfl
      refine pure_ (i:=36) (N:=some 97) (v:=undef) (a':=?_) laws_FnWave.m43 rfl rfl (any_of HT_.out (by kernel_rfl)) (fun _ _ _ h=>h) (Or.inr ⟨by rfl,rfl⟩) ?_ ?_
      rotate_left
      ·simp only [Act.put,sA,sO,sS,i64_w,i32_w]
       rfl
      refine pure_ (i:=37) (N:=some 98) (v:=undef) (a':=?_) laws_FnWave.m44 rfl rfl (any_of HT_.out (by kernel_rfl)) (fun _ _ _ h=>h) (Or.inr ⟨by rfl,rfl⟩) ?_ ?_
      rotate_left
      ·simp only [Act.put,sA,sO,sS,i64_w,i32_w]
       rfl
      refine pure_ (i:=38) (N:=some 99) (v:=undef) (a':=?_) laws_FnWave.m45 rfl rfl (any_of HT_.out (by kernel_rfl)) (fun _ _ _ h=>h) (Or.inr ⟨by rfl,rfl⟩) ?_ ?_
      rotate_left
      ·simp only [Act.put,sA,sO,sS,i64_w,i32_w]
       rfl
      refine pure_ (i:=39) (N:=some 100) (v:=undef) (a':=?_) laws_FnWave.m46 rfl rfl (any_of HT_.out (by kernel_rfl)) (fun _ _ _ h=>h) (Or.inr ⟨by rfl,rfl⟩) ?_ ?_
      rotate_left
      ·simp only [Act.put,sA,sO,sS,i64_w,i32_w]
       rfl
      refine pure_ (i:=40) (N:=some 101) (v:=undef) (a':=?_) laws_FnWave.m47 rfl rfl (any_of HT_.out (by kernel_rfl)) (fun _ _ _ h=>h) (Or.inr ⟨by rfl,rfl⟩) ?_ ?_
      rotate_left
      ·simp only [Act.put,sA,sO,sS,i64_w,i32_w]
       rfl
      refine pure_ (i:=41) (N:=some 102) (v:=undef) (a':=?_) laws_FnWave.m48 rfl rfl (any_of HT_.out (by kernel_rfl)) (fun _ _ _ h=>h) (Or.inr ⟨by rfl,rfl⟩) ?_ ?_
      rotate_left
      ·simp only [Act.put,sA,sO,sS,i64_w,i32_w]
       rfl
      refine pure_ (i:=42) (N:=some 103) (v:=undef) (a':=?_) laws_FnWave.m49 rfl rfl (any_of HT_.out (by kernel_rfl)) (fun _ _ _ h=>h) (Or.inr ⟨by rfl,rfl⟩) ?_ ?_
      rotate_left
      ·simp only [Act.put,sA,sO,sS,i64_w,i32_w]
       rfl
      refine pure_ (i:=43) (N:=some 104) (v:=?_) (a':=?_) laws_FnWave.m50 rfl rfl (any_of HT_.out (by kernel_rfl)) (fun _ _ _ h=>h) (Or.inl ⟨by rfl,?_⟩) ?_ ?_
      rotate_left
      ·intro w'
       go_simp
       with_reducible rfl
      rotate_left
      ·simp only [Act.put,sA,sO,sS,i64_w,i32_w]
       rfl
      refine pure_ (i:=44) (N:=some 2) (v:=?_) (a':=?_) laws_FnWave.m51 rfl rfl (any_of HT_.out (by kernel_rfl)) (fun _ _ _ h=>h) (Or.inl ⟨by rfl,?_⟩) ?_ ?_
      rotate_left
      ·intro w'
       go_simp
       with_reducible rfl
      rotate_left
      ·simp only [Act.put,sA,sO,sS,i64_w,i32_w]
       rfl
      refine done_ (done_of HT_.out (by kernel_rfl)) ?_
      try go_wp2
      go_ret
      exact⟨by first|rfl|(simp [errW_none,errW_some] <;> rfl)|(simp [*,errW_none,errW_some] <;> rfl),by repeat (first|(with_reducible first|exact HB.out|apply aZ|apply nZ|apply dZ|refine sZ ?_ GE381.out|refine sZ ?_ GE390.out)|exact HB.out)⟩
     rw [if_pos c54] at H
     have c54b0:(t399 == t408) = true:=beq_iff_eq.mpr c54
     have c54b1:(t399 != t408) = false:=bne_eq_false_iff_eq.mpr c54
     clear c54
     replace H:=Option.bind_eq_some_iff.mp H
     obtain⟨t410,A550,H⟩:=H
     replace H:(if t410 = t397 then ((impl_WaveRank.f kj23 t382 t383 t386 (rd t370 t397) (wrap64 (t397 + 1))).bind fun t412=>(some (t412 == (wrap64 (t399 + 1))))) else (some false)) = some r:=H
     have A55:=mk0 A550
     clear A550
     by_cases c56:t410 = t397
     rotate_left
     ·rw [if_neg c56] at H
      have c56b0:(t410 == t397) = false:=beq_eq_false_iff_ne.mpr c56
      have c56b1:(t410 != t397) = true:=bne_iff_ne.mpr c56
      obtain rfl:=Option.some.inj H
      try go_wp2_with (first|((with_reducible refine gate_callee (f:=21) rfl ?_);refine goesL_ (some 53) rfl rfl Try.func21 (by kernel_rfl) rfl #[.slice A0 l0.length c0,.int .i64 3,.int .i64 (t370.length:Int)] rfl (by (try simp only [mA,mC,mN]);first|done|rfl|(simp only [List.length_drop,List.length_take];rfl)) ?_;(with_reducible refine (laws_pick.calls kj23 _ _ l0 3 (t370.length:Int) t397 _ ?side1 ?side2 A45.out).mono ?_);(case side1=>repeat (first|exact (Kd.C_below HR0.out HB.out)|(with_reducible first|apply aC|apply nC|apply dC)));(case side2=>exact HC0.out);rintro e w' ⟨rfl,⟨nd,rfl⟩⟩;refine⟨_,rfl,?_⟩))
      (try (rw [drewN_self wc];generalize hq_:World.drewN wc _ = wc;have n0_:Aside0 (Kd.R (Kd.int .i64) 3 wc w.heap.size (fun k_=>some k_ ≠ (.slice Ao13 t374.length co13:Value).ownBlock ∧ some k_ ≠ (.slice Ao20 t383.length co20:Value).ownBlock) (.slice Ao9 t370.length co9) t370):=⟨by rw [← hq_];exact (by (with_reducible repeat (first|apply aR|apply nR|apply dR));exact HO_3.out)⟩;have n1_:Aside0 (Kd.R (Kd.int .i64) 3 wc w.heap.size (fun k_=>some k_ ≠ (.slice Ao9 t370.length co9:Value).ownBlock ∧ some k_ ≠ (.slice Ao20 t383.length co20:Value).ownBlock) (.slice Ao13 t374.length co13) t374):=⟨by rw [← hq_];exact (by (with_reducible repeat (first|apply aR|apply nR|apply dR));exact HO_382001.out)⟩;have n2_:Aside0 (Kd.N k64 64 wc w.heap.size (fun k_=>some k_ ≠ (.slice Ao9 t370.length co9:Value).ownBlock ∧ some k_ ≠ (.slice Ao13 t374.length co13:Value).ownBlock ∧ some k_ ≠ (.slice Ao20 t383.length co20:Value).ownBlock ∧ some k_ ≠ (.slice Ao21 t386.length co21:Value).ownBlock ∧ k_ ≠ gb381 ∧ k_ ≠ gb390) (.slice Ao14 t377.length co14) t377):=⟨by rw [← hq_];exact (by (with_reducible repeat (first|apply aN|apply nN|apply dN));exact HO_382002.out)⟩;have n3_:Aside0 (Kd.R (Kd.int .i64) 3 wc w.heap.size (fun k_=>some k_ ≠ (.slice Ao9 t370.length co9:Value).ownBlock ∧ some k_ ≠ (.slice Ao13 t374.length co13:Value).ownBlock) (.slice Ao20 t383.length co20) t383):=⟨by rw [← hq_];exact (by (with_reducible repeat (first|apply aR|apply nR|apply dR));exact HO_391001.out)⟩;have n4_:Aside0 (Kd.N k64 64 wc w.heap.size (fun k_=>some k_ ≠ (.slice Ao13 t374.length co13:Value).ownBlock ∧ some k_ ≠ (.slice Ao14 t377.length co14:Value).ownBlock ∧ some k_ ≠ (.slice Ao20 t383.length co20:Value).ownBlock ∧ k_ ≠ gb381 ∧ k_ ≠ gb390) (.slice Ao21 t386.length co21) t386):=⟨by rw [← hq_];exact (by (with_reducible repeat (first|apply aN|apply nN|apply dN));exact HO_391002.out)⟩;have n5_:Aside0 (wc.heap[gb381]? = some (.cells #[.int .i64 t373,.slice Ao13 t374.length co13,.slice Ao14 t377.length co14] 30 (0,0))):=⟨by rw [← hq_];exact (by (with_reducible repeat (first|apply nB|apply dB|apply aB));exact BK381.out)⟩;have n6_:Aside0 (wc.heap[gb390]? = some (.cells #[.int .i64 t382,.slice Ao20 t383.length co20,.slice Ao21 t386.length co21] 30 (0,0))):=⟨by rw [← hq_];exact (by (with_reducible repeat (first|apply nB|apply dB|apply aB));exact BK390.out)⟩;have n7_:Aside0 (Below w.heap.size w wc):=⟨by rw [← hq_];exact (by repeat (first|(with_reducible first|exact HB.out|apply aZ|apply nZ|apply dZ|refine sZ ?_ GE381.out|refine sZ ?_ GE390.out)|exact HB.out))⟩;clear HO_3 HO_382001 HO_382002 HO_391001 HO_391002 BK381 BK390 HB hq_;have HO_3:=n0_;have HO_382001:=n1_;have HO_382002:=n2_;have HO_391001:=n3_;have HO_391002:=n4_;have BK381:=n5_;have BK390:=n6_;have HB:=n7_;clear n0_ n1_ n2_ n3_ n4_ n5_ n6_ n7_))
      have n0_:=mk0 (dR HO_3.out)
      have n1_:=mk0 (dR HO_382001.out)
      have n2_:=mk0 (dN HO_382002.out)
      have n3_:=mk0 (dR HO_391001.out)
      have n4_:=mk0 (dN HO_391002.out)
      have n5_:=mk0 (dB BK381.out)
      have n6_:=mk0 (dB BK390.out)
      have n7_:=mk0 (dZ HB.out)
      clear HO_3
      clear HO_382001
      clear HO_382002
      clear HO_391001
      clear HO_391002
      clear BK381
      clear BK390
      clear HB
      have HO_3:=n0_
      have HO_382001:=n1_
      have HO_382002:=n2_
      have HO_391001:=n3_
      have HO_391002:=n4_
      have BK381:=n5_
      have BK390:=n6_
      have HB:=n7_
      clear n0_ n1_ n2_ n3_ n4_ n5_ n6_ n7_
      have p398:0 ≤ (t397:Int):=of_decide_eq_true (by first|(with_reducible assumption)|assumption)
      have q398:t397 < (t370.length:Int):=of_decide_eq_true (by first|(with_reducible assumption)|assumption)
      obtain⟨ad398,e398,hx398_0⟩:=Kd.at_int (Kd.R_reads' HO_3.out).2.2 t397 p398 q398
      cases e398
      replace p398:=eq_true p398
      replace q398:=eq_true q398
      refine start_ (n:=8) (S:=fun w'=>w'.cell? ⟨gb390,0,none⟩ = some (.int .i64 t382) ∧ w'.cell? ⟨gb390,1,none⟩ = some (.slice Ao20 t383.length co20) ∧ w'.cell? ⟨gb390,2,none⟩ = some (.slice Ao21 t386.length co21) ∧ w'.cell? (ad398.add (t397).toNat) = some (.int .i64 (rd t370 t397))) (ds:=[]) laws_FnWave.m0 (by kernel_rfl) rfl rfl ⟨(blk_cell BK390.out 0).trans rfl,(blk_cell BK390.out 1).trans rfl,(blk_cell BK390.out 2).trans rfl,hx398_0⟩ (fun hHeld=>?_);refine with_tabW laws_FnWave.tab13 laws_FnWave.bits13 (fun HT_ HW_=>?_)
      generalize wc.drew = w65 at HO_3 HO_382001 HO_382002 HO_391001 HO_391002 BK381 BK390 HB hx398_0 hHeld ⊢
      refine pure_ (i:=1) (N:=some 55) (v:=?_) (a':=?_) laws_FnWave.m1 rfl rfl (any_of HT_.out (by kernel_rfl)) (fun _ _ _ h=>h) (Or.inl ⟨by rfl,?_⟩) ?_ ?_
      rotate_left
      ·intro w'
       go_simp
       with_reducible rfl
      rotate_left
      ·simp only [Act.put,sA,sO,sS,i64_w,i32_w]
       rfl
      refine pure_ (i:=2) (N:=some 56) (v:=?_) (a':=?_) laws_FnWave.m2 rfl rfl (any_of HT_.out (by kernel_rfl)) (fun _ _ _ h=>h) (Or.inl ⟨by rfl,?_⟩) ?_ ?_
      rotate_left
      ·intro w'
       go_simp
       with_reducible rfl
      rotate_left
      ·simp only [Act.put,sA,sO,sS,i64_w,i32_w]
       rfl
      refine pure_ (i:=3) (N:=some 57) (v:=?_) (a':=?_) laws_FnWave.m3 rfl rfl (any_of HT_.out (by kernel_rfl)) (fun _ _ _ h=>h) (Or.inl ⟨by rfl,?_⟩) ?_ ?_
      rotate_left
      ·intro w'
       go_simp
       with_reducible rfl
      rotate_left
      ·simp only [Act.put,sA,sO,sS,i64_w,i32_w]
       rfl
      refine pure_ (i:=5) (N:=some 59) (v:=?_) (a':=?_) laws_FnWave.m4 rfl rfl (any_of HT_.out (by kernel_rfl)) (fun _ _ _ h=>h) (Or.inl ⟨by rfl,?_⟩) ?_ ?_
      rotate_left
      ·intro w'
       go_simp
       with_reducible rfl
      rotate_left
      ·simp only [Act.put,sA,sO,sS,i64_w,i32_w]
       rfl
      refine take_ (i:=0) (N:=some 54) (v:=?_) (a':=?_) laws_FnWave.m5 rfl rfl (take_ofW HT_.out HW_.out (by kernel_rfl)) (fun _ _ _ h=>h) (Or.inl ⟨by rfl,?_⟩) hHeld ?_ ?_
      rotate_left
      ·rintro w' ⟨s0,s1,s2,s3⟩
       go_simp
       with_reducible rfl
      rotate_left
      ·simp only [Act.put,sA,sO,sS,i64_w,i32_w]
       rfl
      refine take_ (i:=4) (N:=some 58) (v:=?_) (a':=?_) #[true,true,true,true,true,true,false,false] rfl rfl (take_ofW HT_.out HW_.out (by kernel_rfl)) (fun _ _ _ h=>h) (Or.inl ⟨by rfl,?_⟩) hHeld ?_ ?_
      rotate_left
      ·rintro w' ⟨s0,s1,s2,s3⟩
       go_simp
       with_reducible rfl
      rotate_left
      ·simp only [Act.put,sA,sO,sS,i64_w,i32_w]
       rfl
      refine one_ (i:=6) (N:=some 60) #[true,true,true,true,true,true,true,false] rfl rfl (one_of HT_.out (by kernel_rfl)) (by decide) (fun K hK=>?_)
      refine goes_ Try.func22 (by kernel_rfl) rfl #[.agg #[.int .i64 t382,.slice Ao20 t383.length co20,.slice Ao21 t386.length co21],.int .i64 (rd t370 t397),.int .i64 t397] (by rfl) rfl rfl (by (try simp only [mA,mC,mN]);first|done|rfl|(simp only [List.length_drop,List.length_take];rfl)) ?_
      with_reducible refine (impl_WaveRank.calls kj23 t382 _ _ t383 _ _ t386 (rd t370 t397) t397 t399 _ ?side1 ?side2 ?side3 ?side4 A48.out).mono ?_
      (case side1=>repeat (first|exact (Kd.R_reads' HO_391001.out).2.2|(with_reducible first|apply aC|apply nC|apply dC)))
      (case side2=>exact (Kd.R_reads' HO_391001.out).2.1)
      (case side3=>repeat (first|exact (Kd.N_reads' HO_391002.out).2.2|(with_reducible first|apply aC|apply nC|apply dC)))
      (case side4=>exact (Kd.N_reads' HO_391002.out).2.1)
      rintro e w66 ⟨rfl,hb⟩
      have HS3_:=(hb.cell (World.block_lt_of_cell? _ _ (hHeld.2.2.2))).trans (hHeld.2.2.2)
      refine⟨_,rfl,?_⟩
      have n0_:=mk0 (Kd.R_below (by (with_reducible repeat (first|apply aR|apply nR|apply dR));exact HO_3.out) hb)
      have n1_:=mk0 (Kd.R_below (by (with_reducible repeat (first|apply aR|apply nR|apply dR));exact HO_382001.out) hb)
      have n2_:=mk0 (Kd.N_below (by (with_reducible repeat (first|apply aN|apply nN|apply dN));exact HO_382002.out) hb)
      have n3_:=mk0 (Kd.R_below (by (with_reducible repeat (first|apply aR|apply nR|apply dR));exact HO_391001.out) hb)
      have n4_:=mk0 (Kd.N_below (by (with_reducible repeat (first|apply aN|apply nN|apply dN));exact HO_391002.out) hb)
      have n5_:=mk0 (blk_below (g:=gb381) (o:=.cells #[.int .i64 t373,.slice Ao13 t374.length co13,.slice Ao14 t377.length co14] 30 (0,0)) (by (with_reducible repeat (first|apply nB|apply dB|apply aB));exact BK381.out) hb)
      have n6_:=mk0 (blk_below (g:=gb390) (o:=.cells #[.int .i64 t382,.slice Ao20 t383.length co20,.slice Ao21 t386.length co21] 30 (0,0)) (by (with_reducible repeat (first|apply nB|apply dB|apply aB));exact BK390.out) hb)
      have n7_:=mk0 (below_step (by repeat (first|(with_reducible first|exact HB.out|apply aZ|apply nZ|apply dZ|refine sZ ?_ GE381.out|refine sZ ?_ GE390.out)|exact HB.out)) hb)
      clear HO_3
      clear HO_382001
      clear HO_382002
      clear HO_391001
      clear HO_391002
      clear BK381
      clear BK390
      clear HB
      have HO_3:=n0_
      have HO_382001:=n1_
      have HO_382002:=n2_
      have HO_391001:=n3_
      have HO_391002:=n4_
      have BK381:=n5_
      have BK390:=n6_
      have HB:=n7_
      clear n0_ n1_ n2_ n3_ n4_ n5_ n6_ n7_
      (try clear hb)
      (try clear hb2)
      (try clear hk)
      (try clear hi)
      refine hK.out _ _ ⟨(blk_cell BK390.out 0).trans rfl,(blk_cell BK390.out 1).trans rfl,(blk_cell BK390.out 2).trans rfl,HS3_⟩ (fun hHeld=>?_)
      clear hK K
      refine norm_ (a':=?_) ?_ ?_
      rotate_left
      ·show Act.put _ (some 60) _ = _
       simp only [Act.put,sA,sO,sS,i64_w,i32_w]
       rfl
      refine pure_ (i:=7) (N:=some 9) (v:=?_) (a':=?_) #[true,true,true,true,true,true,true,true] rfl rfl (any_of HT_.out (by kernel_rfl)) (fun _ _ _ h=>h) (Or.inl ⟨by rfl,?_⟩) ?_ ?_
      rotate_left
      ·intro w'
       go_simp
       with_reducible rfl
      rotate_left
      ·simp only [Act.put,sA,sO,sS,i64_w,i32_w]
       rfl
      refine done_ (done_of HT_.out (by kernel_rfl)) ?_
      try go_wp2
      have n0_:=mk0 (dR HO_3.out)
      have n1_:=mk0 (dR HO_382001.out)
      have n2_:=mk0 (dN HO_382002.out)
      have n3_:=mk0 (dR HO_391001.out)
      have n4_:=mk0 (dN HO_391002.out)
      have n5_:=mk0 (dB BK381.out)
      have n6_:=mk0 (dB BK390.out)
      have n7_:=mk0 (dZ HB.out)
      clear HO_3
      clear HO_382001
      clear HO_382002
      clear HO_391001
      clear HO_391002
      clear BK381
      clear BK390
      clear HB
      have HO_3:=n0_
      have HO_382001:=n1_
      have HO_382002:=n2_
      have HO_391001:=n3_
      have HO_391002:=n4_
      have BK381:=n5_
      have BK390:=n6_
      have HB:=n7_
      clear n0_ n1_ n2_ n3_ n4_ n5_ n6_ n7_
      have p401:0 ≤ (t397:Int):=of_decide_eq_true (by first|(with_reducible assumption)|assumption)
      have q401:t397 < (t370.length:Int):=of_decide_eq_true (by first|(with_reducible assumption)|assumption)
      obtain⟨ad401,e401,hx401_0⟩:=Kd.at_int (Kd.R_reads' HO_3.out).2.2 t397 p401 q401
      obtain rfl:ad398 = ad401:=(by injection e401)
      replace p401:=eq_true p401
      replace q401:=eq_true q401
      have p407:0 ≤ (t397:Int):=of_decide_eq_true (by first|(with_reducible assumption)|assumption)
      have q407:t397 < (t370.length:Int):=of_decide_eq_true (by first|(with_reducible assumption)|assumption)
      obtain⟨ad407,e407,hx407_0⟩:=Kd.at_int (Kd.R_reads' HO_3.out).2.2 t397 p407 q407
      obtain rfl:ad398 = ad407:=(by injection e407)
      replace p407:=eq_true p407
      replace q407:=eq_true q407
      have p409:0 ≤ (t397:Int):=of_decide_eq_true (by first|(with_reducible assumption)|assumption)
      have q409:t397 < (t370.length:Int):=of_decide_eq_true (by first|(with_reducible assumption)|assumption)
      obtain⟨ad409,e409,hx409_0⟩:=Kd.at_int (Kd.R_reads' HO_3.out).2.2 t397 p409 q409
      obtain rfl:ad398 = ad409:=(by injection e409)
      replace p409:=eq_true p409
      replace q409:=eq_true q409
      refine start_ (n:=45) (S:=fun w'=>w'.cell? ⟨gb390,0,none⟩ = some (.int .i64 t382) ∧ w'.cell? ⟨gb390,1,none⟩ = some (.slice Ao20 t383.length co20) ∧ w'.cell? ⟨gb390,2,none⟩ = some (.slice Ao21 t386.length co21) ∧ w'.cell? (ad398.add (t397).toNat) = some (.int .i64 (rd t370 t397)) ∧ w'.cell? (ad398.add (t397).toNat) = some (.int .i64 (rd t370 t397)) ∧ w'.cell? (ad398.add (t397).toNat) = some (.int .i64 (rd t370 t397))) (ds:=[]) laws_FnWave.m6 (by kernel_rfl) rfl rfl ⟨(blk_cell BK390.out 0).trans rfl,(blk_cell BK390.out 1).trans rfl,(blk_cell BK390.out 2).trans rfl,hx401_0,hx407_0,hx409_0⟩ (fun hHeld=>?_);refine with_tabW laws_FnWave.tab14 laws_FnWave.bits14 (fun HT_ HW_=>?_)
      generalize w66.drew = w67 at HO_3 HO_382001 HO_382002 HO_391001 HO_391002 BK381 BK390 HB hx401_0 hx407_0 hx409_0 hHeld ⊢
      refine pure_ (i:=1) (N:=some 62) (v:=?_) (a':=?_) laws_FnWave.m7 rfl rfl (any_of HT_.out (by kernel_rfl)) (fun _ _ _ h=>h) (Or.inl ⟨by rfl,?_⟩) ?_ ?_
      rotate_left
      ·intro w'
       go_simp
       with_reducible rfl
      rotate_left
      ·simp only [Act.put,sA,sO,sS,i64_w,i32_w]
       rfl
      refine pure_ (i:=3) (N:=some 64) (v:=?_) (a':=?_) laws_FnWave.m8 rfl rfl (any_of HT_.out (by kernel_rfl)) (fun _ _ _ h=>h) (Or.inl ⟨by rfl,?_⟩) ?_ ?_
      rotate_left
      ·intro w'
       go_simp
       with_reducible rfl
      rotate_left
      ·simp only [Act.put,sA,sO,sS,i64_w,i32_w]
       rfl
      refine pure_ (i:=4) (N:=some 65) (v:=?_) (a':=?_) laws_FnWave.m9 rfl rfl (any_of HT_.out (by kernel_rfl)) (fun _ _ _ h=>h) (Or.inl ⟨by rfl,?_⟩) ?_ ?_
      rotate_left
      ·intro w'
       go_simp
       with_reducible rfl
      rotate_left
      ·simp only [Act.put,sA,sO,sS,i64_w,i32_w]
       rfl
      refine pure_ (i:=5) (N:=some 66) (v:=?_) (a':=?_) laws_FnWave.m10 rfl rfl (any_of HT_.out (by kernel_rfl)) (fun _ _ _ h=>h) (Or.inl ⟨by rfl,?_⟩) ?_ ?_
      rotate_left
      ·intro w'
       go_simp
       with_reducible rfl
      rotate_left
      ·simp only [Act.put,sA,sO,sS,i64_w,i32_w]
       rfl
      refine take_ (i:=0) (N:=some 61) (v:=?_) (a':=?_) laws_FnWave.m11 rfl rfl (take_ofW HT_.out HW_.out (by kernel_rfl)) (fun _ _ _ h=>h) (Or.inl ⟨by rfl,?_⟩) hHeld ?_ ?_
      rotate_left
      ·rintro w' ⟨s0,s1,s2,s3,s4,s5⟩
       go_simp
       with_reducible rfl
      rotate_left
      ·simp only [Act.put,sA,sO,sS,i64_w,i32_w]
       rfl
      refine take_ (i:=6) (N:=some 67) (v:=?_) (a':=?_) laws_FnWave.m12 rfl rfl (take_ofW HT_.out HW_.out (by kernel_rfl)) (fun _ _ _ h=>h) (Or.inl ⟨by rfl,?_⟩) hHeld ?_ ?_
      rotate_left
      ·rintro w' ⟨s0,s1,s2,s3,s4,s5⟩
       go_simp
       with_reducible rfl
      rotate_left
      ·simp only [Act.put,sA,sO,sS,i64_w,i32_w]
       rfl
      refine one_ (i:=2) (N:=some 63) laws_FnWave.m13 rfl rfl (one_of HT_.out (by kernel_rfl)) (by decide) (fun K hK=>?_)
      refine goes_ Try.func12 (by kernel_rfl) rfl #[.agg #[.int .i64 t382,.slice Ao20 t383.length co20,.slice Ao21 t386.length co21],.int .i64 t397] (by rfl) rfl rfl (by (try simp only [mA,mC,mN]);first|done|rfl|(simp only [List.length_drop,List.length_take];rfl)) ?_
      with_reducible refine (impl_WaveAt.calls kj23 t382 _ _ t383 _ _ t386 t397 t400 _ ?side1 ?side2 ?side3 ?side4 A49.out).mono ?_
      (case side1=>repeat (first|exact (Kd.R_reads' HO_391001.out).2.2|(with_reducible first|apply aC|apply nC|apply dC)))
      (case side2=>exact (Kd.R_reads' HO_391001.out).2.1)
      (case side3=>repeat (first|exact (Kd.N_reads' HO_391002.out).2.2|(with_reducible first|apply aC|apply nC|apply dC)))
      (case side4=>exact (Kd.N_reads' HO_391002.out).2.1)
      rintro e w68 ⟨rfl,hb⟩
      have HS3_:=(hb.cell (World.block_lt_of_cell? _ _ (hHeld.2.2.2.1))).trans (hHeld.2.2.2.1)
      have HS4_:=(hb.cell (World.block_lt_of_cell? _ _ (hHeld.2.2.2.2.1))).trans (hHeld.2.2.2.2.1)
      have HS5_:=(hb.cell (World.block_lt_of_cell? _ _ (hHeld.2.2.2.2.2))).trans (hHeld.2.2.2.2.2)
      refine⟨_,rfl,?_⟩
      have n0_:=mk0 (Kd.R_below (by (with_reducible repeat (first|apply aR|apply nR|apply dR));exact HO_3.out) hb)
      have n1_:=mk0 (Kd.R_below (by (with_reducible repeat (first|apply aR|apply nR|apply dR));exact HO_382001.out) hb)
      have n2_:=mk0 (Kd.N_below (by (with_reducible repeat (first|apply aN|apply nN|apply dN));exact HO_382002.out) hb)
      have n3_:=mk0 (Kd.R_below (by (with_reducible repeat (first|apply aR|apply nR|apply dR));exact HO_391001.out) hb)
      have n4_:=mk0 (Kd.N_below (by (with_reducible repeat (first|apply aN|apply nN|apply dN));exact HO_391002.out) hb)
      have n5_:=mk0 (blk_below (g:=gb381) (o:=.cells #[.int .i64 t373,.slice Ao13 t374.length co13,.slice Ao14 t377.length co14] 30 (0,0)) (by (with_reducible repeat (first|apply nB|apply dB|apply aB));exact BK381.out) hb)
      have n6_:=mk0 (blk_below (g:=gb390) (o:=.cells #[.int .i64 t382,.slice Ao20 t383.length co20,.slice Ao21 t386.length co21] 30 (0,0)) (by (with_reducible repeat (first|apply nB|apply dB|apply aB));exact BK390.out) hb)
      have n7_:=mk0 (below_step (by repeat (first|(with_reducible first|exact HB.out|apply aZ|apply nZ|apply dZ|refine sZ ?_ GE381.out|refine sZ ?_ GE390.out)|exact HB.out)) hb)
      clear HO_3
      clear HO_382001
      clear HO_382002
      clear HO_391001
      clear HO_391002
      clear BK381
      clear BK390
      clear HB
      have HO_3:=n0_
      have HO_382001:=n1_
      have HO_382002:=n2_
      have HO_391001:=n3_
      have HO_391002:=n4_
      have BK381:=n5_
      have BK390:=n6_
      have HB:=n7_
      clear n0_ n1_ n2_ n3_ n4_ n5_ n6_ n7_
      (try clear hb)
      (try clear hb2)
      (try clear hk)
      (try clear hi)
      have q69:(t397:Int) ≤ ((t370.length:Int):Int):=of_decide_eq_true (by first|(with_reducible assumption)|assumption)
      obtain⟨i069,hi069,_,hsz69,_⟩:=info_parts info3
      have hroom69:t370.length ≤ co9:=(Kd.R_reads' HO_3.out).2.1
      have hC69:Kd.F (Kd.int .i64) _ _ (some ad398) t370.length t370:=(Kd.V_at (base:=w.heap.size) (Kd.R_V (Kd.R_types (Kd.R_types (Kd.R_apart' (Kd.R_apart' (HO_3.out) (Kd.N_typed HO_382002.out) (by decide)) (Kd.N_typed HO_391002.out) (by decide)) BK381.out (by decide)) BK390.out (by decide)))).2.2
      have hcut69:=cut_to (P:=Try.prog) 22 3 .i64 Try.underlying22 hi069 (some ad398) t370.length co9 t397 (of_decide_eq_true (by first|(with_reducible assumption)|assumption)) q69 hroom69
      have hr69:=Kd.F_take (m:=(t397:Int).toNat) hC69 (by omega)
      have hy69:y402.length = (t397:Int).toNat:=(by rw [Ny402.out,List.length_take];omega)
      rw [← Ny402.out] at hr69
      rw [← hy69] at hcut69
      have HO406:=mk0 (show Kd.V (Kd.int .i64) 3 _ w.heap.size _ (.slice (some ad398) y402.length co9) y402 from Kd.V_mk (by omega) hr69)
      have HC406:=mk0 (show y402.length ≤ co9 from by omega)
      clear hr69 hC69 hroom69 hi069 hsz69
      have KY69:=mk0 hy69
      clear hy69
      replace q69:=eq_true q69
      refine hK.out _ _ ⟨(blk_cell BK390.out 0).trans rfl,(blk_cell BK390.out 1).trans rfl,(blk_cell BK390.out 2).trans rfl,HS3_,HS4_,HS5_⟩ (fun hHeld=>?_)
      clear hK K
      refine norm_ (a':=?_) ?_ ?_
      rotate_left
      ·show Act.put _ (some 63) _ = _
       simp only [Act.put,sA,sO,sS,i64_w,i32_w]
       rfl
      refine pure_ (i:=7) (N:=some 68) (v:=?_) (a':=?_) laws_FnWave.m14 rfl rfl (any_of HT_.out (by kernel_rfl)) (fun _ _ _ h=>h) (Or.inl ⟨by rfl,?_⟩) ?_ ?_
      rotate_left
      ·intro w'
       go_simp
       with_reducible rfl
      rotate_left
      ·simp only [Act.put,sA,sO,sS,i64_w,i32_w]
       rfl
      refine pure_ (i:=8) (N:=some 69) (v:=?_) (a':=?_) laws_FnWave.m15 rfl rfl (any_of HT_.out (by kernel_rfl)) (fun _ _ _ h=>h) (Or.inl ⟨by rfl,?_⟩) ?_ ?_
      rotate_left
      ·intro w'
       go_simp
       with_reducible rfl
      rotate_left
      ·simp only [Act.put,sA,sO,sS,i64_w,i32_w]
       rfl
      refine pure_ (i:=9) (N:=some 70) (v:=?_) (a':=?_) laws_FnWave.m16 rfl rfl (any_of HT_.out (by kernel_rfl)) (fun _ _ _ h=>h) (Or.inl ⟨by rfl,?_⟩) ?_ ?_
      rotate_left
      ·intro w'
       go_simp
       with_reducible rfl
      rotate_left
      ·simp only [Act.put,sA,sO,sS,i64_w,i32_w]
       rfl
      refine pure_ (i:=10) (N:=some 71) (v:=?_) (a':=?_) laws_FnWave.m17 rfl rfl (any_of HT_.out (by kernel_rfl)) (fun _ _ _ h=>h) (Or.inl ⟨by rfl,?_⟩) ?_ ?_
      rotate_left
      ·intro w'
       go_simp
       with_reducible rfl
      rotate_left
      ·simp only [Act.put,sA,sO,sS,i64_w,i32_w]
       rfl
      refine pure_ (i:=11) (N:=some 72) (v:=?_) (a':=?_) laws_FnWave.m18 rfl rfl (any_of HT_.out (by kernel_rfl)) (fun _ _ _ h=>h) (Or.inl ⟨by rfl,?_⟩) ?_ ?_
      rotate_left
      ·intro w'
       go_simp
       with_reducible rfl
      rotate_left
      ·simp only [Act.put,sA,sO,sS,i64_w,i32_w]
       rfl
      refine pure_ (i:=12) (N:=some 73) (v:=?_) (a':=?_) laws_FnWave.m19 rfl rfl (any_of HT_.out (by kernel_rfl)) (fun _ _ _ h=>h) (Or.inl ⟨by rfl,?_⟩) ?_ ?_
      rotate_left
      ·intro w'
       go_simp
       with_reducible rfl
      rotate_left
      ·simp only [Act.put,sA,sO,sS,i64_w,i32_w]
       rfl
      refine pure_ (i:=13) (N:=some 74) (v:=?_) (a':=?_) laws_FnWave.m20 rfl rfl (any_of HT_.out (by kernel_rfl)) (fun _ _ _ h=>h) (Or.inl ⟨by rfl,?_⟩) ?_ ?_
      rotate_left
      ·intro w'
       go_simp
       with_reducible rfl
      rotate_left
      ·simp only [Act.put,sA,sO,sS,i64_w,i32_w]
       rfl
      refine pure_ (i:=14) (N:=some 75) (v:=?_) (a':=?_) laws_FnWave.m21 rfl rfl (any_of HT_.out (by kernel_rfl)) (fun _ _ _ h=>h) (Or.inl ⟨by rfl,?_⟩) ?_ ?_
      rotate_left
      ·intro w'
       go_simp
       with_reducible rfl
      rotate_left
      ·simp only [Act.put,sA,sO,sS,i64_w,i32_w]
       rfl
      refine pure_ (i:=15) (N:=some 76) (v:=?_) (a':=?_) laws_FnWave.m22 rfl rfl (any_of HT_.out (by kernel_rfl)) (fun _ _ _ h=>h) (Or.inl ⟨by rfl,?_⟩) ?_ ?_
      rotate_left
      ·intro w'
       go_simp
       with_reducible rfl
      rotate_left
      ·simp only [Act.put,sA,sO,sS,i64_w,i32_w]
       rfl
      refine take_ (i:=16) (N:=some 77) (v:=?_) (a':=?_) laws_FnWave.m23 rfl rfl (take_ofW HT_.out HW_.out (by kernel_rfl)) (fun _ _ _ h=>h) (Or.inl ⟨by rfl,?_⟩) hHeld ?_ ?_
      rotate_left
      ·rintro w' ⟨s0,s1,s2,s3,s4,s5⟩
       go_simp
       with_reducible rfl
      rotate_left
      ·simp only [Act.put,sA,sO,sS,i64_w,i32_w]
       rfl
      refine one_ (i:=17) (N:=some 78) laws_FnWave.m24 rfl rfl (one_of HT_.out (by kernel_rfl)) (by decide) (fun K hK=>?_)
      refine goes_ Try.func23 (by kernel_rfl) rfl #[.slice (some ad398) y402.length co9,.int .i64 (rd t370 t397)] (by rfl) rfl rfl (by (try simp only [mA,mC,mN]);first|done|rfl|(simp only [List.length_drop,List.length_take];rfl)) ?_
      with_reducible refine (laws_count.calls kj23 _ _ y402 (rd t370 t397) t408 _ ?side1 ?side2 A53.out).mono ?_
      (case side1=>repeat (first|exact (Kd.V_reads' HO406.out).2.2|(with_reducible first|apply aC|apply nC|apply dC)))
      (case side2=>exact (Kd.V_reads' HO406.out).2.1)
      rintro e w' ⟨rfl,⟨nd,rfl⟩⟩
      refine⟨_,rfl,?_⟩
      refine hK.out _ _ ⟨(blk_cell BK390.out 0).trans rfl,(blk_cell BK390.out 1).trans rfl,(blk_cell BK390.out 2).trans rfl,hHeld.2.2.2.1,hHeld.2.2.2.2.1,hHeld.2.2.2.2.2⟩ (fun hHeld=>?_)
      clear hK K
      refine norm_ (a':=?_) ?_ ?_
      rotate_left
      ·show Act.put _ (some 78) _ = _
       simp only [Act.put,sA,sO,sS,i64_w,i32_w]
       rfl
      refine pure_ (i:=18) (N:=some 79) (v:=?_) (a':=?_) laws_FnWave.m25 rfl rfl (any_of HT_.out (by kernel_rfl)) (fun _ _ _ h=>h) (Or.inl ⟨by rfl,?_⟩) ?_ ?_
      rotate_left
      ·intro w'
       go_simp
       with_reducible rfl
      rotate_left
      ·simp only [Act.put,sA,sO,sS,i64_w,i32_w]
       rfl
      refine pure_ (i:=19) (N:=some 80) (v:=?_) (a':=?_) laws_FnWave.m26 rfl rfl (any_of HT_.out (by kernel_rfl)) (fun _ _ _ h=>h) (Or.inl ⟨by rfl,?_⟩) ?_ ?_
      rotate_left
      ·intro w'
       go_simp
       with_reducible rfl
      rotate_left
      ·simp only [Act.put,sA,sO,sS,i64_w,i32_w]
       rfl
      refine pure_ (i:=20) (N:=some 81) (v:=?_) (a':=?_) laws_FnWave.m27 rfl rfl (any_of HT_.out (by kernel_rfl)) (fun _ _ _ h=>h) (Or.inl ⟨by rfl,?_⟩) ?_ ?_
      rotate_left
      ·intro w'
       go_simp
       with_reducible rfl
      rotate_left
      ·simp only [Act.put,sA,sO,sS,i64_w,i32_w]
       rfl
      refine pure_ (i:=22) (N:=some 83) (v:=?_) (a':=?_) laws_FnWave.m52 rfl rfl (any_of HT_.out (by kernel_rfl)) (fun _ _ _ h=>h) (Or.inl ⟨by rfl,?_⟩) ?_ ?_
      rotate_left
      ·intro w'
       go_simp
       with_reducible rfl
      rotate_left
      ·simp only [Act.put,sA,sO,sS,i64_w,i32_w]
       rfl
      refine pure_ (i:=23) (N:=some 84) (v:=?_) (a':=?_) laws_FnWave.m53 rfl rfl (any_of HT_.out (by kernel_rfl)) (fun _ _ _ h=>h) (Or.inl ⟨by rfl,?_⟩) ?_ ?_
      rotate_left
      ·intro w'
       go_simp
       with_reducible rfl
      rotate_left
      ·simp only [Act.put,sA,sO,sS,i64_w,i32_w]
       rfl
      refine pure_ (i:=24) (N:=some 85) (v:=?_) (a':=?_) laws_FnWave.m54 rfl rfl (any_of HT_.out (by kernel_rfl)) (fun _ _ _ h=>h) (Or.inl ⟨by rfl,?_⟩) ?_ ?_
      rotate_left
      ·intro w'
       go_simp
       with_reducible rfl
      rotate_left
      ·simp only [Act.put,sA,sO,sS,i64_w,i32_w]
       rfl
      refine pure_ (i:=26) (N:=some 87) (v:=?_) (a':=?_) laws_FnWave.m55 rfl rfl (any_of HT_.out (by kernel_rfl)) (fun _ _ _ h=>h) (Or.inl ⟨by rfl,?_⟩) ?_ ?_
      rotate_left
      ·intro w'
       go_simp
       with_reducible rfl
      rotate_left
      ·simp only [Act.put,sA,sO,sS,i64_w,i32_w]
       rfl
      refine pure_ (i:=28) (N:=some 89) (v:=?_) (a':=?_) laws_FnWave.m56 rfl rfl (any_of HT_.out (by kernel_rfl)) (fun _ _ _ h=>h) (Or.inl ⟨by rfl,?_⟩) ?_ ?_
      rotate_left
      ·intro w'
       go_simp
       with_reducible rfl
      rotate_left
      ·simp only [Act.put,sA,sO,sS,i64_w,i32_w]
       rfl
      refine take_ (i:=21) (N:=some 82) (v:=?_) (a':=?_) laws_FnWave.m57 rfl rfl (take_ofW HT_.out HW_.out (by kernel_rfl)) (fun _ _ _ h=>h) (Or.inl ⟨by rfl,?_⟩) hHeld ?_ ?_
      rotate_left
      ·rintro w' ⟨s0,s1,s2,s3,s4,s5⟩
       go_simp
       with_reducible rfl
      rotate_left
      ·simp only [Act.put,sA,sO,sS,i64_w,i32_w]
       rfl
      refine take_ (i:=25) (N:=some 86) (v:=?_) (a':=?_) laws_FnWave.m58 rfl rfl (take_ofW HT_.out HW_.out (by kernel_rfl)) (fun _ _ _ h=>h) (Or.inl ⟨by rfl,?_⟩) hHeld ?_ ?_
      rotate_left
      ·rintro w' ⟨s0,s1,s2,s3,s4,s5⟩
       go_simp
       with_reducible rfl
      rotate_left
      ·simp only [Act.put,sA,sO,sS,i64_w,i32_w]
       rfl
      refine one_ (i:=27) (N:=some 88) laws_FnWave.m35 rfl rfl (one_of HT_.out (by kernel_rfl)) (by decide) (fun K hK=>?_)
      refine goes_ Try.func24 (by kernel_rfl) rfl #[.agg #[.int .i64 t382,.slice Ao20 t383.length co20,.slice Ao21 t386.length co21],.int .i64 (rd t370 t397),.int .i64 t399] (by rfl) rfl rfl (by (try simp only [mA,mC,mN]);first|done|rfl|(simp only [List.length_drop,List.length_take];rfl)) ?_
      with_reducible refine (impl_WaveSelect.calls kj23 t382 _ _ t383 _ _ t386 (rd t370 t397) t399 t410 _ ?side1 ?side2 ?side3 ?side4 A55.out).mono ?_
      (case side1=>repeat (first|exact (Kd.R_reads' HO_391001.out).2.2|(with_reducible first|apply aC|apply nC|apply dC)))
      (case side2=>exact (Kd.R_reads' HO_391001.out).2.1)
      (case side3=>repeat (first|exact (Kd.N_reads' HO_391002.out).2.2|(with_reducible first|apply aC|apply nC|apply dC)))
      (case side4=>exact (Kd.N_reads' HO_391002.out).2.1)
      rintro e w70 ⟨rfl,hb⟩
      have HS3_:=(hb.cell (World.block_lt_of_cell? _ _ (hHeld.2.2.2.1))).trans (hHeld.2.2.2.1)
      have HS4_:=(hb.cell (World.block_lt_of_cell? _ _ (hHeld.2.2.2.2.1))).trans (hHeld.2.2.2.2.1)
      have HS5_:=(hb.cell (World.block_lt_of_cell? _ _ (hHeld.2.2.2.2.2))).trans (hHeld.2.2.2.2.2)
      refine⟨_,rfl,?_⟩
      have n0_:=mk0 (Kd.R_below (by (with_reducible repeat (first|apply aR|apply nR|apply dR));exact HO_3.out) hb)
      have n1_:=mk0 (Kd.R_below (by (with_reducible repeat (first|apply aR|apply nR|apply dR));exact HO_382001.out) hb)
      have n2_:=mk0 (Kd.N_below (by (with_reducible repeat (first|apply aN|apply nN|apply dN));exact HO_382002.out) hb)
      have n3_:=mk0 (Kd.R_below (by (with_reducible repeat (first|apply aR|apply nR|apply dR));exact HO_391001.out) hb)
      have n4_:=mk0 (Kd.N_below (by (with_reducible repeat (first|apply aN|apply nN|apply dN));exact HO_391002.out) hb)
      have n5_:=mk0 (Kd.V_below (by (with_reducible repeat (first|apply aV|apply nV|apply dV));exact HO406.out) hb)
      have n6_:=mk0 (blk_below (g:=gb381) (o:=.cells #[.int .i64 t373,.slice Ao13 t374.length co13,.slice Ao14 t377.length co14] 30 (0,0)) (by (with_reducible repeat (first|apply nB|apply dB|apply aB));exact BK381.out) hb)
      have n7_:=mk0 (blk_below (g:=gb390) (o:=.cells #[.int .i64 t382,.slice Ao20 t383.length co20,.slice Ao21 t386.length co21] 30 (0,0)) (by (with_reducible repeat (first|apply nB|apply dB|apply aB));exact BK390.out) hb)
      have n8_:=mk0 (below_step (by repeat (first|(with_reducible first|exact HB.out|apply aZ|apply nZ|apply dZ|refine sZ ?_ GE381.out|refine sZ ?_ GE390.out)|exact HB.out)) hb)
      clear HO_3
      clear HO_382001
      clear HO_382002
      clear HO_391001
      clear HO_391002
      clear HO406
      clear BK381
      clear BK390
      clear HB
      have HO_3:=n0_
      have HO_382001:=n1_
      have HO_382002:=n2_
      have HO_391001:=n3_
      have HO_391002:=n4_
      have HO406:=n5_
      have BK381:=n6_
      have BK390:=n7_
      have HB:=n8_
      clear n0_ n1_ n2_ n3_ n4_ n5_ n6_ n7_ n8_
      (try clear hb)
      (try clear hb2)
      (try clear hk)
      (try clear hi)
      refine hK.out _ _ ⟨(blk_cell BK390.out 0).trans rfl,(blk_cell BK390.out 1).trans rfl,(blk_cell BK390.out 2).trans rfl,HS3_,HS4_,HS5_⟩ (fun hHeld=>?_)
      clear hK K
      refine norm_ (a':=?_) ?_ ?_
      rotate_left
      ·show Act.put _ (some 88) _ = _
       simp only [Act.put,sA,sO,sS,i64_w,i32_w]
       rfl
      refine pure_ (i:=29) (N:=some 90) (v:=?_) (a':=?_) laws_FnWave.m36 rfl rfl (any_of HT_.out (by kernel_rfl)) (fun _ _ _ h=>h) (Or.inl ⟨by rfl,?_⟩) ?_ ?_
      rotate_left
      ·intro w'
       go_simp
       with_reducible rfl
      rotate_left
      ·simp only [Act.put,sA,sO,sS,i64_w,i32_w]
       rfl
      refine pure_ (i:=30) (N:=some 91) (v:=?_) (a':=?_) laws_FnWave.m37 rfl rfl (any_of HT_.out (by kernel_rfl)) (fun _ _ _ h=>h) (Or.inl ⟨by rfl,?_⟩) ?_ ?_
      rotate_left
      ·intro w'
       go_simp
       with_reducible rfl
      rotate_left
      ·simp only [Act.put,sA,sO,sS,i64_w,i32_w]
       rfl
      refine pure_ (i:=31) (N:=some 92) (v:=?_) (a':=?_) laws_FnWave.m38 rfl rfl (any_of HT_.out (by kernel_rfl)) (fun _ _ _ h=>h) (Or.inl ⟨by rfl,?_⟩) ?_ ?_
      rotate_left
      ·intro w'
       go_simp
       with_reducible rfl
      rotate_left
      ·simp only [Act.put,sA,sO,sS,i64_w,i32_w]
       rfl
      refine pure_ (i:=32) (N:=some 93) (v:=undef) (a':=?_) laws_FnWave.m39 rfl rfl (any_of HT_.out (by kernel_rfl)) (fun _ _ _ h=>h) (Or.inr ⟨by rfl,rfl⟩) ?_ ?_
      rotate_left
      ·simp only [Act.put,sA,sO,sS,i64_w,i32_w]
       rfl
      refine pure_ (i:=33) (N:=some 94) (v:=undef) (a':=?_) laws_FnWave.m40 rfl rfl (any_of HT_.out (by kernel_rfl)) (fun _ _ _ h=>h) (Or.inr ⟨by rfl,rfl⟩) ?_ ?_
      rotate_left
      ·simp only [Act.put,sA,sO,sS,i64_w,i32_w]
       rfl
      refine pure_ (i:=34) (N:=some 95) (v:=undef) (a':=?_) laws_FnWave.m41 rfl rfl (any_of HT_.out (by kernel_rfl)) (fun _ _ _ h=>h) (Or.inr ⟨by rfl,rfl⟩) ?_ ?_
      rotate_left
      ·simp only [Act.put,sA,sO,sS,i64_w,i32_w]
       rfl
      refine pure_ (i:=35) (N:=some 96) (v:=undef) (a':=?_) laws_FnWave.m42 rfl rfl (any_of HT_.out (by kernel_rfl)) (fun _ _ _ h=>h) (Or.inr ⟨by rfl,rfl⟩) ?_ ?_
      rotate_left
      ·simp only [Act.put,sA,sO,sS,i64_w,i32_w]
       rfl
      refine pure_ (i:=36) (N:=some 97) (v:=undef) (a':=?_) laws_FnWave.m43 rfl rfl (any_of HT_.out (by kernel_rfl)) (fun _ _ _ h=>h) (Or.inr ⟨by rfl,rfl⟩) ?_ ?_
      rotate_left
      ·simp only [Act.put,sA,sO,sS,i64_w,i32_w]
       rfl
      refine pure_ (i:=37) (N:=some 98) (v:=undef) (a':=?_) laws_FnWave.m44 rfl rfl (any_of HT_.out (by kernel_rfl)) (fun _ _ _ h=>h) (Or.inr ⟨by rfl,rfl⟩) ?_ ?_
      rotate_left
      ·simp only [Act.put,sA,sO,sS,i64_w,i32_w]
       rfl
      refine pure_ (i:=38) (N:=some 99) (v:=undef) (a':=?_) laws_FnWave.m45 rfl rfl (any_of HT_.out (by kernel_rfl)) (fun _ _ _ h=>h) (Or.inr ⟨by rfl,rfl⟩) ?_ ?_
      rotate_left
      ·simp only [Act.put,sA,sO,sS,i64_w,i32_w]
       rfl
      refine pure_ (i:=39) (N:=some 100) (v:=undef) (a':=?_) laws_FnWave.m46 rfl rfl (any_of HT_.out (by kernel_rfl)) (fun _ _ _ h=>h) (Or.inr ⟨by rfl,rfl⟩) ?_ ?_
      rotate_left
      ·simp only [Act.put,sA,sO,sS,i64_w,i32_w]
       rfl
      refine pure_ (i:=40) (N:=some 101) (v:=undef) (a':=?_) laws_FnWave.m47 rfl rfl (any_of HT_.out (by kernel_rfl)) (fun _ _ _ h=>h) (Or.inr ⟨by rfl,rfl⟩) ?_ ?_
      rotate_left
      ·simp only [Act.put,sA,sO,sS,i64_w,i32_w]
       rfl
      refine pure_ (i:=41) (N:=some 102) (v:=undef) (a':=?_) laws_FnWave.m48 rfl rfl (any_of HT_.out (by kernel_rfl)) (fun _ _ _ h=>h) (Or.inr ⟨by rfl,rfl⟩) ?_ ?_
      rotate_left
      ·simp only [Act.put,sA,sO,sS,i64_w,i32_w]
       rfl
      refine pure_ (i:=42) (N:=some 103) (v:=undef) (a':=?_) laws_FnWave.m49 rfl rfl (any_of HT_.out (by kernel_rfl)) (fun _ _ _ h=>h) (Or.inr ⟨by rfl,rfl⟩) ?_ ?_
      rotate_left
      ·simp only [Act.put,sA,sO,sS,i64_w,i32_w]
       rfl
      refine pure_ (i:=43) (N:=some 104) (v:=?_) (a':=?_) laws_FnWave.m50 rfl rfl (any_of HT_.out (by kernel_rfl)) (fun _ _ _ h=>h) (Or.inl ⟨by rfl,?_⟩) ?_ ?_
      rotate_left
      ·intro w'
       go_simp
       with_reducible rfl
      rotate_left
      ·simp only [Act.put,sA,sO,sS,i64_w,i32_w]
       rfl
      refine pure_ (i:=44) (N:=some 2) (v:=?_) (a':=?_) laws_FnWave.m51 rfl rfl (any_of HT_.out (by kernel_rfl)) (fun _ _ _ h=>h) (Or.inl ⟨by rfl,?_⟩) ?_ ?_
      rotate_left
      ·intro w'
       go_simp
       with_reducible rfl
      rotate_left
      ·simp only [Act.put,sA,sO,sS,i64_w,i32_w]
       rfl
      refine done_ (done_of HT_.out (by kernel_rfl)) ?_
      try go_wp2
      go_ret
      exact⟨by first|rfl|(simp [errW_none,errW_some] <;> rfl)|(simp [*,errW_none,errW_some] <;> rfl),by repeat (first|(with_reducible first|exact HB.out|apply aZ|apply nZ|apply dZ|refine sZ ?_ GE381.out|refine sZ ?_ GE390.out)|exact HB.out)⟩
     rw [if_pos c56] at H
     have c56b0:(t410 == t397) = true:=beq_iff_eq.mpr c56
     have c56b1:(t410 != t397) = false:=bne_eq_false_iff_eq.mpr c56
     clear c56
     replace H:=Option.bind_eq_some_iff.mp H
     obtain⟨t412,A570,H⟩:=H
     replace H:(some (t412 == (wrap64 (t399 + 1)))) = some r:=H
     have A57:=mk0 A570
     clear A570
     obtain rfl:=Option.some.inj H
     try go_wp2_with (first|((with_reducible refine gate_callee (f:=21) rfl ?_);refine goesL_ (some 53) rfl rfl Try.func21 (by kernel_rfl) rfl #[.slice A0 l0.length c0,.int .i64 3,.int .i64 (t370.length:Int)] rfl (by (try simp only [mA,mC,mN]);first|done|rfl|(simp only [List.length_drop,List.length_take];rfl)) ?_;(with_reducible refine (laws_pick.calls kj23 _ _ l0 3 (t370.length:Int) t397 _ ?side1 ?side2 A45.out).mono ?_);(case side1=>repeat (first|exact (Kd.C_below HR0.out HB.out)|(with_reducible first|apply aC|apply nC|apply dC)));(case side2=>exact HC0.out);rintro e w' ⟨rfl,⟨nd,rfl⟩⟩;refine⟨_,rfl,?_⟩))
     (try (rw [drewN_self wc];generalize hq_:World.drewN wc _ = wc;have n0_:Aside0 (Kd.R (Kd.int .i64) 3 wc w.heap.size (fun k_=>some k_ ≠ (.slice Ao13 t374.length co13:Value).ownBlock ∧ some k_ ≠ (.slice Ao20 t383.length co20:Value).ownBlock) (.slice Ao9 t370.length co9) t370):=⟨by rw [← hq_];exact (by (with_reducible repeat (first|apply aR|apply nR|apply dR));exact HO_3.out)⟩;have n1_:Aside0 (Kd.R (Kd.int .i64) 3 wc w.heap.size (fun k_=>some k_ ≠ (.slice Ao9 t370.length co9:Value).ownBlock ∧ some k_ ≠ (.slice Ao20 t383.length co20:Value).ownBlock) (.slice Ao13 t374.length co13) t374):=⟨by rw [← hq_];exact (by (with_reducible repeat (first|apply aR|apply nR|apply dR));exact HO_382001.out)⟩;have n2_:Aside0 (Kd.N k64 64 wc w.heap.size (fun k_=>some k_ ≠ (.slice Ao9 t370.length co9:Value).ownBlock ∧ some k_ ≠ (.slice Ao13 t374.length co13:Value).ownBlock ∧ some k_ ≠ (.slice Ao20 t383.length co20:Value).ownBlock ∧ some k_ ≠ (.slice Ao21 t386.length co21:Value).ownBlock ∧ k_ ≠ gb381 ∧ k_ ≠ gb390) (.slice Ao14 t377.length co14) t377):=⟨by rw [← hq_];exact (by (with_reducible repeat (first|apply aN|apply nN|apply dN));exact HO_382002.out)⟩;have n3_:Aside0 (Kd.R (Kd.int .i64) 3 wc w.heap.size (fun k_=>some k_ ≠ (.slice Ao9 t370.length co9:Value).ownBlock ∧ some k_ ≠ (.slice Ao13 t374.length co13:Value).ownBlock) (.slice Ao20 t383.length co20) t383):=⟨by rw [← hq_];exact (by (with_reducible repeat (first|apply aR|apply nR|apply dR));exact HO_391001.out)⟩;have n4_:Aside0 (Kd.N k64 64 wc w.heap.size (fun k_=>some k_ ≠ (.slice Ao13 t374.length co13:Value).ownBlock ∧ some k_ ≠ (.slice Ao14 t377.length co14:Value).ownBlock ∧ some k_ ≠ (.slice Ao20 t383.length co20:Value).ownBlock ∧ k_ ≠ gb381 ∧ k_ ≠ gb390) (.slice Ao21 t386.length co21) t386):=⟨by rw [← hq_];exact (by (with_reducible repeat (first|apply aN|apply nN|apply dN));exact HO_391002.out)⟩;have n5_:Aside0 (wc.heap[gb381]? = some (.cells #[.int .i64 t373,.slice Ao13 t374.length co13,.slice Ao14 t377.length co14] 30 (0,0))):=⟨by rw [← hq_];exact (by (with_reducible repeat (first|apply nB|apply dB|apply aB));exact BK381.out)⟩;have n6_:Aside0 (wc.heap[gb390]? = some (.cells #[.int .i64 t382,.slice Ao20 t383.length co20,.slice Ao21 t386.length co21] 30 (0,0))):=⟨by rw [← hq_];exact (by (with_reducible repeat (first|apply nB|apply dB|apply aB));exact BK390.out)⟩;have n7_:Aside0 (Below w.heap.size w wc):=⟨by rw [← hq_];exact (by repeat (first|(with_reducible first|exact HB.out|apply aZ|apply nZ|apply dZ|refine sZ ?_ GE381.out|refine sZ ?_ GE390.out)|exact HB.out))⟩;clear HO_3 HO_382001 HO_382002 HO_391001 HO_391002 BK381 BK390 HB hq_;have HO_3:=n0_;have HO_382001:=n1_;have HO_382002:=n2_;have HO_391001:=n3_;have HO_391002:=n4_;have BK381:=n5_;have BK390:=n6_;have HB:=n7_;clear n0_ n1_ n2_ n3_ n4_ n5_ n6_ n7_))
     have n0_:=mk0 (dR HO_3.out)
     have n1_:=mk0 (dR HO_382001.out)
     have n2_:=mk0 (dN HO_382002.out)
     have n3_:=mk0 (dR HO_391001.out)
     have n4_:=mk0 (dN HO_391002.out)
     have n5_:=mk0 (dB BK381.out)
     have n6_:=mk0 (dB BK390.out)
     have n7_:=mk0 (dZ HB.out)
     clear HO_3
     clear HO_382001
     clear HO_382002
     clear HO_391001
     clear HO_391002
     clear BK381
     clear BK390
     clear HB
     have HO_3:=n0_
     have HO_382001:=n1_
     have HO_382002:=n2_
     have HO_391001:=n3_
     have HO_391002:=n4_
     have BK381:=n5_
     have BK390:=n6_
     have HB:=n7_
     clear n0_ n1_ n2_ n3_ n4_ n5_ n6_ n7_
     have p398:0 ≤ (t397:Int):=of_decide_eq_true (by first|(with_reducible assumption)|assumption)
     have q398:t397 < (t370.length:Int):=of_decide_eq_true (by first|(with_reducible assumption)|assumption)
     obtain⟨ad398,e398,hx398_0⟩:=Kd.at_int (Kd.R_reads' HO_3.out).2.2 t397 p398 q398
     cases e398
     replace p398:=eq_true p398
     replace q398:=eq_true q398
     refine start_ (n:=8) (S:=fun w'=>w'.cell? ⟨gb390,0,none⟩ = some (.int .i64 t382) ∧ w'.cell? ⟨gb390,1,none⟩ = some (.slice Ao20 t383.length co20) ∧ w'.cell? ⟨gb390,2,none⟩ = some (.slice Ao21 t386.length co21) ∧ w'.cell? (ad398.add (t397).toNat) = some (.int .i64 (rd t370 t397))) (ds:=[]) laws_FnWave.m0 (by kernel_rfl) rfl rfl ⟨(blk_cell BK390.out 0).trans rfl,(blk_cell BK390.out 1).trans rfl,(blk_cell BK390.out 2).trans rfl,hx398_0⟩ (fun hHeld=>?_);refine with_tabW laws_FnWave.tab13 laws_FnWave.bits13 (fun HT_ HW_=>?_)
     generalize wc.drew = w58 at HO_3 HO_382001 HO_382002 HO_391001 HO_391002 BK381 BK390 HB hx398_0 hHeld ⊢
     refine pure_ (i:=1) (N:=some 55) (v:=?_) (a':=?_) laws_FnWave.m1 rfl rfl (any_of HT_.out (by kernel_rfl)) (fun _ _ _ h=>h) (Or.inl ⟨by rfl,?_⟩) ?_ ?_
     rotate_left
     ·intro w'
      go_simp
      with_reducible rfl
     rotate_left
     ·simp only [Act.put,sA,sO,sS,i64_w,i32_w]
      rfl
     refine pure_ (i:=2) (N:=some 56) (v:=?_) (a':=?_) laws_FnWave.m2 rfl rfl (any_of HT_.out (by kernel_rfl)) (fun _ _ _ h=>h) (Or.inl ⟨by rfl,?_⟩) ?_ ?_
     rotate_left
     ·intro w'
      go_simp
      with_reducible rfl
     rotate_left
     ·simp only [Act.put,sA,sO,sS,i64_w,i32_w]
      rfl
     refine pure_ (i:=3) (N:=some 57) (v:=?_) (a':=?_) laws_FnWave.m3 rfl rfl (any_of HT_.out (by kernel_rfl)) (fun _ _ _ h=>h) (Or.inl ⟨by rfl,?_⟩) ?_ ?_
     rotate_left
     ·intro w'
      go_simp
      with_reducible rfl
     rotate_left
     ·simp only [Act.put,sA,sO,sS,i64_w,i32_w]
      rfl
     refine pure_ (i:=5) (N:=some 59) (v:=?_) (a':=?_) laws_FnWave.m4 rfl rfl (any_of HT_.out (by kernel_rfl)) (fun _ _ _ h=>h) (Or.inl ⟨by rfl,?_⟩) ?_ ?_
     rotate_left
     ·intro w'
      go_simp
      with_reducible rfl
     rotate_left
     ·simp only [Act.put,sA,sO,sS,i64_w,i32_w]
      rfl
     refine take_ (i:=0) (N:=some 54) (v:=?_) (a':=?_) laws_FnWave.m5 rfl rfl (take_ofW HT_.out HW_.out (by kernel_rfl)) (fun _ _ _ h=>h) (Or.inl ⟨by rfl,?_⟩) hHeld ?_ ?_
     rotate_left
     ·rintro w' ⟨s0,s1,s2,s3⟩
      go_simp
      with_reducible rfl
     rotate_left
     ·simp only [Act.put,sA,sO,sS,i64_w,i32_w]
      rfl
     refine take_ (i:=4) (N:=some 58) (v:=?_) (a':=?_) #[true,true,true,true,true,true,false,false] rfl rfl (take_ofW HT_.out HW_.out (by kernel_rfl)) (fun _ _ _ h=>h) (Or.inl ⟨by rfl,?_⟩) hHeld ?_ ?_
     rotate_left
     ·rintro w' ⟨s0,s1,s2,s3⟩
      go_simp
      with_reducible rfl
     rotate_left
     ·simp only [Act.put,sA,sO,sS,i64_w,i32_w]
      rfl
     refine one_ (i:=6) (N:=some 60) #[true,true,true,true,true,true,true,false] rfl rfl (one_of HT_.out (by kernel_rfl)) (by decide) (fun K hK=>?_)
     refine goes_ Try.func22 (by kernel_rfl) rfl #[.agg #[.int .i64 t382,.slice Ao20 t383.length co20,.slice Ao21 t386.length co21],.int .i64 (rd t370 t397),.int .i64 t397] (by rfl) rfl rfl (by (try simp only [mA,mC,mN]);first|done|rfl|(simp only [List.length_drop,List.length_take];rfl)) ?_
     with_reducible refine (impl_WaveRank.calls kj23 t382 _ _ t383 _ _ t386 (rd t370 t397) t397 t399 _ ?side1 ?side2 ?side3 ?side4 A48.out).mono ?_
     (case side1=>repeat (first|exact (Kd.R_reads' HO_391001.out).2.2|(with_reducible first|apply aC|apply nC|apply dC)))
     (case side2=>exact (Kd.R_reads' HO_391001.out).2.1)
     (case side3=>repeat (first|exact (Kd.N_reads' HO_391002.out).2.2|(with_reducible first|apply aC|apply nC|apply dC)))
     (case side4=>exact (Kd.N_reads' HO_391002.out).2.1)
     rintro e w59 ⟨rfl,hb⟩
     have HS3_:=(hb.cell (World.block_lt_of_cell? _ _ (hHeld.2.2.2))).trans (hHeld.2.2.2)
     refine⟨_,rfl,?_⟩
     have n0_:=mk0 (Kd.R_below (by (with_reducible repeat (first|apply aR|apply nR|apply dR));exact HO_3.out) hb)
     have n1_:=mk0 (Kd.R_below (by (with_reducible repeat (first|apply aR|apply nR|apply dR));exact HO_382001.out) hb)
     have n2_:=mk0 (Kd.N_below (by (with_reducible repeat (first|apply aN|apply nN|apply dN));exact HO_382002.out) hb)
     have n3_:=mk0 (Kd.R_below (by (with_reducible repeat (first|apply aR|apply nR|apply dR));exact HO_391001.out) hb)
     have n4_:=mk0 (Kd.N_below (by (with_reducible repeat (first|apply aN|apply nN|apply dN));exact HO_391002.out) hb)
     have n5_:=mk0 (blk_below (g:=gb381) (o:=.cells #[.int .i64 t373,.slice Ao13 t374.length co13,.slice Ao14 t377.length co14] 30 (0,0)) (by (with_reducible repeat (first|apply nB|apply dB|apply aB));exact BK381.out) hb)
     have n6_:=mk0 (blk_below (g:=gb390) (o:=.cells #[.int .i64 t382,.slice Ao20 t383.length co20,.slice Ao21 t386.length co21] 30 (0,0)) (by (with_reducible repeat (first|apply nB|apply dB|apply aB));exact BK390.out) hb)
     have n7_:=mk0 (below_step (by repeat (first|(with_reducible first|exact HB.out|apply aZ|apply nZ|apply dZ|refine sZ ?_ GE381.out|refine sZ ?_ GE390.out)|exact HB.out)) hb)
     clear HO_3
     clear HO_382001
     clear HO_382002
     clear HO_391001
     clear HO_391002
     clear BK381
     clear BK390
     clear HB
     have HO_3:=n0_
     have HO_382001:=n1_
     have HO_382002:=n2_
     have HO_391001:=n3_
     have HO_391002:=n4_
     have BK381:=n5_
     have BK390:=n6_
     have HB:=n7_
     clear n0_ n1_ n2_ n3_ n4_ n5_ n6_ n7_
     (try clear hb)
     (try clear hb2)
     (try clear hk)
     (try clear hi)
     refine hK.out _ _ ⟨(blk_cell BK390.out 0).trans rfl,(blk_cell BK390.out 1).trans rfl,(blk_cell BK390.out 2).trans rfl,HS3_⟩ (fun hHeld=>?_)
     clear hK K
     refine norm_ (a':=?_) ?_ ?_
     rotate_left
     ·show Act.put _ (some 60) _ = _
      simp only [Act.put,sA,sO,sS,i64_w,i32_w]
      rfl
     refine pure_ (i:=7) (N:=some 9) (v:=?_) (a':=?_) #[true,true,true,true,true,true,true,true] rfl rfl (any_of HT_.out (by kernel_rfl)) (fun _ _ _ h=>h) (Or.inl ⟨by rfl,?_⟩) ?_ ?_
     rotate_left
     ·intro w'
      go_simp
      with_reducible rfl
     rotate_left
     ·simp only [Act.put,sA,sO,sS,i64_w,i32_w]
      rfl
     refine done_ (done_of HT_.out (by kernel_rfl)) ?_
     try go_wp2
     have n0_:=mk0 (dR HO_3.out)
     have n1_:=mk0 (dR HO_382001.out)
     have n2_:=mk0 (dN HO_382002.out)
     have n3_:=mk0 (dR HO_391001.out)
     have n4_:=mk0 (dN HO_391002.out)
     have n5_:=mk0 (dB BK381.out)
     have n6_:=mk0 (dB BK390.out)
     have n7_:=mk0 (dZ HB.out)
     clear HO_3
     clear HO_382001
     clear HO_382002
     clear HO_391001
     clear HO_391002
     clear BK381
     clear BK390
     clear HB
     have HO_3:=n0_
     have HO_382001:=n1_
     have HO_382002:=n2_
     have HO_391001:=n3_
     have HO_391002:=n4_
     have BK381:=n5_
     have BK390:=n6_
     have HB:=n7_
     clear n0_ n1_ n2_ n3_ n4_ n5_ n6_ n7_
     have p401:0 ≤ (t397:Int):=of_decide_eq_true (by first|(with_reducible assumption)|assumption)
     have q401:t397 < (t370.length:Int):=of_decide_eq_true (by first|(with_reducible assumption)|assumption)
     obtain⟨ad401,e401,hx401_0⟩:=Kd.at_int (Kd.R_reads' HO_3.out).2.2 t397 p401 q401
     obtain rfl:ad398 = ad401:=(by injection e401)
     replace p401:=eq_true p401
     replace q401:=eq_true q401
     have p407:0 ≤ (t397:Int):=of_decide_eq_true (by first|(with_reducible assumption)|assumption)
     have q407:t397 < (t370.length:Int):=of_decide_eq_true (by first|(with_reducible assumption)|assumption)
     obtain⟨ad407,e407,hx407_0⟩:=Kd.at_int (Kd.R_reads' HO_3.out).2.2 t397 p407 q407
     obtain rfl:ad398 = ad407:=(by injection e407)
     replace p407:=eq_true p407
     replace q407:=eq_true q407
     have p409:0 ≤ (t397:Int):=of_decide_eq_true (by first|(with_reducible assumption)|assumption)
     have q409:t397 < (t370.length:Int):=of_decide_eq_true (by first|(with_reducible assumption)|assumption)
     obtain⟨ad409,e409,hx409_0⟩:=Kd.at_int (Kd.R_reads' HO_3.out).2.2 t397 p409 q409
     obtain rfl:ad398 = ad409:=(by injection e409)
     replace p409:=eq_true p409
     replace q409:=eq_true q409
     have p411:0 ≤ (t397:Int):=of_decide_eq_true (by first|(with_reducible assumption)|assumption)
     have q411:t397 < (t370.length:Int):=of_decide_eq_true (by first|(with_reducible assumption)|assumption)
     obtain⟨ad411,e411,hx411_0⟩:=Kd.at_int (Kd.R_reads' HO_3.out).2.2 t397 p411 q411
     obtain rfl:ad398 = ad411:=(by injection e411)
     replace p411:=eq_true p411
     replace q411:=eq_true q411
     refine start_ (n:=45) (S:=fun w'=>w'.cell? ⟨gb390,0,none⟩ = some (.int .i64 t382) ∧ w'.cell? ⟨gb390,1,none⟩ = some (.slice Ao20 t383.length co20) ∧ w'.cell? ⟨gb390,2,none⟩ = some (.slice Ao21 t386.length co21) ∧ w'.cell? (ad398.add (t397).toNat) = some (.int .i64 (rd t370 t397)) ∧ w'.cell? (ad398.add (t397).toNat) = some (.int .i64 (rd t370 t397)) ∧ w'.cell? (ad398.add (t397).toNat) = some (.int .i64 (rd t370 t397)) ∧ w'.cell? (ad398.add (t397).toNat) = some (.int .i64 (rd t370 t397))) (ds:=[]) laws_FnWave.m6 (by kernel_rfl) rfl rfl ⟨(blk_cell BK390.out 0).trans rfl,(blk_cell BK390.out 1).trans rfl,(blk_cell BK390.out 2).trans rfl,hx401_0,hx407_0,hx409_0,hx411_0⟩ (fun hHeld=>?_);refine with_tabW laws_FnWave.tab14 laws_FnWave.bits14 (fun HT_ HW_=>?_)
     generalize w59.drew = w60 at HO_3 HO_382001 HO_382002 HO_391001 HO_391002 BK381 BK390 HB hx401_0 hx407_0 hx409_0 hx411_0 hHeld ⊢
     refine pure_ (i:=1) (N:=some 62) (v:=?_) (a':=?_) laws_FnWave.m7 rfl rfl (any_of HT_.out (by kernel_rfl)) (fun _ _ _ h=>h) (Or.inl ⟨by rfl,?_⟩) ?_ ?_
     rotate_left
     ·intro w'
      go_simp
      with_reducible rfl
     rotate_left
     ·simp only [Act.put,sA,sO,sS,i64_w,i32_w]
      rfl
     refine pure_ (i:=3) (N:=some 64) (v:=?_) (a':=?_) laws_FnWave.m8 rfl rfl (any_of HT_.out (by kernel_rfl)) (fun _ _ _ h=>h) (Or.inl ⟨by rfl,?_⟩) ?_ ?_
     rotate_left
     ·intro w'
      go_simp
      with_reducible rfl
     rotate_left
     ·simp only [Act.put,sA,sO,sS,i64_w,i32_w]
      rfl
     refine pure_ (i:=4) (N:=some 65) (v:=?_) (a':=?_) laws_FnWave.m9 rfl rfl (any_of HT_.out (by kernel_rfl)) (fun _ _ _ h=>h) (Or.inl ⟨by rfl,?_⟩) ?_ ?_
     rotate_left
     ·intro w'
      go_simp
      with_reducible rfl
     rotate_left
     ·simp only [Act.put,sA,sO,sS,i64_w,i32_w]
      rfl
     refine pure_ (i:=5) (N:=some 66) (v:=?_) (a':=?_) laws_FnWave.m10 rfl rfl (any_of HT_.out (by kernel_rfl)) (fun _ _ _ h=>h) (Or.inl ⟨by rfl,?_⟩) ?_ ?_
     rotate_left
     ·intro w'
      go_simp
      with_reducible rfl
     rotate_left
     ·simp only [Act.put,sA,sO,sS,i64_w,i32_w]
      rfl
     refine take_ (i:=0) (N:=some 61) (v:=?_) (a':=?_) laws_FnWave.m11 rfl rfl (take_ofW HT_.out HW_.out (by kernel_rfl)) (fun _ _ _ h=>h) (Or.inl ⟨by rfl,?_⟩) hHeld ?_ ?_
     rotate_left
     ·rintro w' ⟨s0,s1,s2,s3,s4,s5,s6⟩
      go_simp
      with_reducible rfl
     rotate_left
     ·simp only [Act.put,sA,sO,sS,i64_w,i32_w]
      rfl
     refine take_ (i:=6) (N:=some 67) (v:=?_) (a':=?_) laws_FnWave.m12 rfl rfl (take_ofW HT_.out HW_.out (by kernel_rfl)) (fun _ _ _ h=>h) (Or.inl ⟨by rfl,?_⟩) hHeld ?_ ?_
     rotate_left
     ·rintro w' ⟨s0,s1,s2,s3,s4,s5,s6⟩
      go_simp
      with_reducible rfl
     rotate_left
     ·simp only [Act.put,sA,sO,sS,i64_w,i32_w]
      rfl
     refine one_ (i:=2) (N:=some 63) laws_FnWave.m13 rfl rfl (one_of HT_.out (by kernel_rfl)) (by decide) (fun K hK=>?_)
     refine goes_ Try.func12 (by kernel_rfl) rfl #[.agg #[.int .i64 t382,.slice Ao20 t383.length co20,.slice Ao21 t386.length co21],.int .i64 t397] (by rfl) rfl rfl (by (try simp only [mA,mC,mN]);first|done|rfl|(simp only [List.length_drop,List.length_take];rfl)) ?_
     with_reducible refine (impl_WaveAt.calls kj23 t382 _ _ t383 _ _ t386 t397 t400 _ ?side1 ?side2 ?side3 ?side4 A49.out).mono ?_
     (case side1=>repeat (first|exact (Kd.R_reads' HO_391001.out).2.2|(with_reducible first|apply aC|apply nC|apply dC)))
     (case side2=>exact (Kd.R_reads' HO_391001.out).2.1)
     (case side3=>repeat (first|exact (Kd.N_reads' HO_391002.out).2.2|(with_reducible first|apply aC|apply nC|apply dC)))
     (case side4=>exact (Kd.N_reads' HO_391002.out).2.1)
     rintro e w61 ⟨rfl,hb⟩
     have HS3_:=(hb.cell (World.block_lt_of_cell? _ _ (hHeld.2.2.2.1))).trans (hHeld.2.2.2.1)
     have HS4_:=(hb.cell (World.block_lt_of_cell? _ _ (hHeld.2.2.2.2.1))).trans (hHeld.2.2.2.2.1)
     have HS5_:=(hb.cell (World.block_lt_of_cell? _ _ (hHeld.2.2.2.2.2.1))).trans (hHeld.2.2.2.2.2.1)
     have HS6_:=(hb.cell (World.block_lt_of_cell? _ _ (hHeld.2.2.2.2.2.2))).trans (hHeld.2.2.2.2.2.2)
     refine⟨_,rfl,?_⟩
     have n0_:=mk0 (Kd.R_below (by (with_reducible repeat (first|apply aR|apply nR|apply dR));exact HO_3.out) hb)
     have n1_:=mk0 (Kd.R_below (by (with_reducible repeat (first|apply aR|apply nR|apply dR));exact HO_382001.out) hb)
     have n2_:=mk0 (Kd.N_below (by (with_reducible repeat (first|apply aN|apply nN|apply dN));exact HO_382002.out) hb)
     have n3_:=mk0 (Kd.R_below (by (with_reducible repeat (first|apply aR|apply nR|apply dR));exact HO_391001.out) hb)
     have n4_:=mk0 (Kd.N_below (by (with_reducible repeat (first|apply aN|apply nN|apply dN));exact HO_391002.out) hb)
     have n5_:=mk0 (blk_below (g:=gb381) (o:=.cells #[.int .i64 t373,.slice Ao13 t374.length co13,.slice Ao14 t377.length co14] 30 (0,0)) (by (with_reducible repeat (first|apply nB|apply dB|apply aB));exact BK381.out) hb)
     have n6_:=mk0 (blk_below (g:=gb390) (o:=.cells #[.int .i64 t382,.slice Ao20 t383.length co20,.slice Ao21 t386.length co21] 30 (0,0)) (by (with_reducible repeat (first|apply nB|apply dB|apply aB));exact BK390.out) hb)
     have n7_:=mk0 (below_step (by repeat (first|(with_reducible first|exact HB.out|apply aZ|apply nZ|apply dZ|refine sZ ?_ GE381.out|refine sZ ?_ GE390.out)|exact HB.out)) hb)
     clear HO_3
     clear HO_382001
     clear HO_382002
     clear HO_391001
     clear HO_391002
     clear BK381
     clear BK390
     clear HB
     have HO_3:=n0_
     have HO_382001:=n1_
     have HO_382002:=n2_
     have HO_391001:=n3_
     have HO_391002:=n4_
     have BK381:=n5_
     have BK390:=n6_
     have HB:=n7_
     clear n0_ n1_ n2_ n3_ n4_ n5_ n6_ n7_
     (try clear hb)
     (try clear hb2)
     (try clear hk)
     (try clear hi)
     have q62:(t397:Int) ≤ ((t370.length:Int):Int):=of_decide_eq_true (by first|(with_reducible assumption)|assumption)
     obtain⟨i062,hi062,_,hsz62,_⟩:=info_parts info3
     have hroom62:t370.length ≤ co9:=(Kd.R_reads' HO_3.out).2.1
     have hC62:Kd.F (Kd.int .i64) _ _ (some ad398) t370.length t370:=(Kd.V_at (base:=w.heap.size) (Kd.R_V (Kd.R_types (Kd.R_types (Kd.R_apart' (Kd.R_apart' (HO_3.out) (Kd.N_typed HO_382002.out) (by decide)) (Kd.N_typed HO_391002.out) (by decide)) BK381.out (by decide)) BK390.out (by decide)))).2.2
     have hcut62:=cut_to (P:=Try.prog) 22 3 .i64 Try.underlying22 hi062 (some ad398) t370.length co9 t397 (of_decide_eq_true (by first|(with_reducible assumption)|assumption)) q62 hroom62
     have hr62:=Kd.F_take (m:=(t397:Int).toNat) hC62 (by omega)
     have hy62:y402.length = (t397:Int).toNat:=(by rw [Ny402.out,List.length_take];omega)
     rw [← Ny402.out] at hr62
     rw [← hy62] at hcut62
     have HO406:=mk0 (show Kd.V (Kd.int .i64) 3 _ w.heap.size _ (.slice (some ad398) y402.length co9) y402 from Kd.V_mk (by omega) hr62)
     have HC406:=mk0 (show y402.length ≤ co9 from by omega)
     clear hr62 hC62 hroom62 hi062 hsz62
     have KY62:=mk0 hy62
     clear hy62
     replace q62:=eq_true q62
     refine hK.out _ _ ⟨(blk_cell BK390.out 0).trans rfl,(blk_cell BK390.out 1).trans rfl,(blk_cell BK390.out 2).trans rfl,HS3_,HS4_,HS5_,HS6_⟩ (fun hHeld=>?_)
     clear hK K
     refine norm_ (a':=?_) ?_ ?_
     rotate_left
     ·show Act.put _ (some 63) _ = _
      simp only [Act.put,sA,sO,sS,i64_w,i32_w]
      rfl
     refine pure_ (i:=7) (N:=some 68) (v:=?_) (a':=?_) laws_FnWave.m14 rfl rfl (any_of HT_.out (by kernel_rfl)) (fun _ _ _ h=>h) (Or.inl ⟨by rfl,?_⟩) ?_ ?_
     rotate_left
     ·intro w'
      go_simp
      with_reducible rfl
     rotate_left
     ·simp only [Act.put,sA,sO,sS,i64_w,i32_w]
      rfl
     refine pure_ (i:=8) (N:=some 69) (v:=?_) (a':=?_) laws_FnWave.m15 rfl rfl (any_of HT_.out (by kernel_rfl)) (fun _ _ _ h=>h) (Or.inl ⟨by rfl,?_⟩) ?_ ?_
     rotate_left
     ·intro w'
      go_simp
      with_reducible rfl
     rotate_left
     ·simp only [Act.put,sA,sO,sS,i64_w,i32_w]
      rfl
     refine pure_ (i:=9) (N:=some 70) (v:=?_) (a':=?_) laws_FnWave.m16 rfl rfl (any_of HT_.out (by kernel_rfl)) (fun _ _ _ h=>h) (Or.inl ⟨by rfl,?_⟩) ?_ ?_
     rotate_left
     ·intro w'
      go_simp
      with_reducible rfl
     rotate_left
     ·simp only [Act.put,sA,sO,sS,i64_w,i32_w]
      rfl
     refine pure_ (i:=10) (N:=some 71) (v:=?_) (a':=?_) laws_FnWave.m17 rfl rfl (any_of HT_.out (by kernel_rfl)) (fun _ _ _ h=>h) (Or.inl ⟨by rfl,?_⟩) ?_ ?_
     rotate_left
     ·intro w'
      go_simp
      with_reducible rfl
     rotate_left
     ·simp only [Act.put,sA,sO,sS,i64_w,i32_w]
      rfl
     refine pure_ (i:=11) (N:=some 72) (v:=?_) (a':=?_) laws_FnWave.m18 rfl rfl (any_of HT_.out (by kernel_rfl)) (fun _ _ _ h=>h) (Or.inl ⟨by rfl,?_⟩) ?_ ?_
     rotate_left
     ·intro w'
      go_simp
      with_reducible rfl
     rotate_left
     ·simp only [Act.put,sA,sO,sS,i64_w,i32_w]
      rfl
     refine pure_ (i:=12) (N:=some 73) (v:=?_) (a':=?_) laws_FnWave.m19 rfl rfl (any_of HT_.out (by kernel_rfl)) (fun _ _ _ h=>h) (Or.inl ⟨by rfl,?_⟩) ?_ ?_
     rotate_left
     ·intro w'
      go_simp
      with_reducible rfl
     rotate_left
     ·simp only [Act.put,sA,sO,sS,i64_w,i32_w]
      rfl
     refine pure_ (i:=13) (N:=some 74) (v:=?_) (a':=?_) laws_FnWave.m20 rfl rfl (any_of HT_.out (by kernel_rfl)) (fun _ _ _ h=>h) (Or.inl ⟨by rfl,?_⟩) ?_ ?_
     rotate_left
     ·intro w'
      go_simp
      with_reducible rfl
     rotate_left
     ·simp only [Act.put,sA,sO,sS,i64_w,i32_w]
      rfl
     refine pure_ (i:=14) (N:=some 75) (v:=?_) (a':=?_) laws_FnWave.m21 rfl rfl (any_of HT_.out (by kernel_rfl)) (fun _ _ _ h=>h) (Or.inl ⟨by rfl,?_⟩) ?_ ?_
     rotate_left
     ·intro w'
      go_simp
      with_reducible rfl
     rotate_left
     ·simp only [Act.put,sA,sO,sS,i64_w,i32_w]
      rfl
     refine pure_ (i:=15) (N:=some 76) (v:=?_) (a':=?_) laws_FnWave.m22 rfl rfl (any_of HT_.out (by kernel_rfl)) (fun _ _ _ h=>h) (Or.inl ⟨by rfl,?_⟩) ?_ ?_
     rotate_left
     ·intro w'
      go_simp
      with_reducible rfl
     rotate_left
     ·simp only [Act.put,sA,sO,sS,i64_w,i32_w]
      rfl
     refine take_ (i:=16) (N:=some 77) (v:=?_) (a':=?_) laws_FnWave.m23 rfl rfl (take_ofW HT_.out HW_.out (by kernel_rfl)) (fun _ _ _ h=>h) (Or.inl ⟨by rfl,?_⟩) hHeld ?_ ?_
     rotate_left
     ·rintro w' ⟨s0,s1,s2,s3,s4,s5,s6⟩
      go_simp
      with_reducible rfl
     rotate_left
     ·simp only [Act.put,sA,sO,sS,i64_w,i32_w]
      rfl
     refine one_ (i:=17) (N:=some 78) laws_FnWave.m24 rfl rfl (one_of HT_.out (by kernel_rfl)) (by decide) (fun K hK=>?_)
     refine goes_ Try.func23 (by kernel_rfl) rfl #[.slice (some ad398) y402.length co9,.int .i64 (rd t370 t397)] (by rfl) rfl rfl (by (try simp only [mA,mC,mN]);first|done|rfl|(simp only [List.length_drop,List.length_take];rfl)) ?_
     with_reducible refine (laws_count.calls kj23 _ _ y402 (rd t370 t397) t408 _ ?side1 ?side2 A53.out).mono ?_
     (case side1=>repeat (first|exact (Kd.V_reads' HO406.out).2.2|(with_reducible first|apply aC|apply nC|apply dC)))
     (case side2=>exact (Kd.V_reads' HO406.out).2.1)
     rintro e w' ⟨rfl,⟨nd,rfl⟩⟩
     refine⟨_,rfl,?_⟩
     refine hK.out _ _ ⟨(blk_cell BK390.out 0).trans rfl,(blk_cell BK390.out 1).trans rfl,(blk_cell BK390.out 2).trans rfl,hHeld.2.2.2.1,hHeld.2.2.2.2.1,hHeld.2.2.2.2.2.1,hHeld.2.2.2.2.2.2⟩ (fun hHeld=>?_)
     clear hK K
     refine norm_ (a':=?_) ?_ ?_
     rotate_left
     ·show Act.put _ (some 78) _ = _
      simp only [Act.put,sA,sO,sS,i64_w,i32_w]
      rfl
     refine pure_ (i:=18) (N:=some 79) (v:=?_) (a':=?_) laws_FnWave.m25 rfl rfl (any_of HT_.out (by kernel_rfl)) (fun _ _ _ h=>h) (Or.inl ⟨by rfl,?_⟩) ?_ ?_
     rotate_left
     ·intro w'
      go_simp
      with_reducible rfl
     rotate_left
     ·simp only [Act.put,sA,sO,sS,i64_w,i32_w]
      rfl
     refine pure_ (i:=19) (N:=some 80) (v:=?_) (a':=?_) laws_FnWave.m26 rfl rfl (any_of HT_.out (by kernel_rfl)) (fun _ _ _ h=>h) (Or.inl ⟨by rfl,?_⟩) ?_ ?_
     rotate_left
     ·intro w'
      go_simp
      with_reducible rfl
     rotate_left
     ·simp only [Act.put,sA,sO,sS,i64_w,i32_w]
      rfl
     refine pure_ (i:=20) (N:=some 81) (v:=?_) (a':=?_) laws_FnWave.m27 rfl rfl (any_of HT_.out (by kernel_rfl)) (fun _ _ _ h=>h) (Or.inl ⟨by rfl,?_⟩) ?_ ?_
     rotate_left
     ·intro w'
      go_simp
      with_reducible rfl
     rotate_left
     ·simp only [Act.put,sA,sO,sS,i64_w,i32_w]
      rfl
     refine pure_ (i:=22) (N:=some 83) (v:=?_) (a':=?_) laws_FnWave.m52 rfl rfl (any_of HT_.out (by kernel_rfl)) (fun _ _ _ h=>h) (Or.inl ⟨by rfl,?_⟩) ?_ ?_
     rotate_left
     ·intro w'
      go_simp
      with_reducible rfl
     rotate_left
     ·simp only [Act.put,sA,sO,sS,i64_w,i32_w]
      rfl
     refine pure_ (i:=23) (N:=some 84) (v:=?_) (a':=?_) laws_FnWave.m53 rfl rfl (any_of HT_.out (by kernel_rfl)) (fun _ _ _ h=>h) (Or.inl ⟨by rfl,?_⟩) ?_ ?_
     rotate_left
     ·intro w'
      go_simp
      with_reducible rfl
     rotate_left
     ·simp only [Act.put,sA,sO,sS,i64_w,i32_w]
      rfl
     refine pure_ (i:=24) (N:=some 85) (v:=?_) (a':=?_) laws_FnWave.m54 rfl rfl (any_of HT_.out (by kernel_rfl)) (fun _ _ _ h=>h) (Or.inl ⟨by rfl,?_⟩) ?_ ?_
     rotate_left
     ·intro w'
      go_simp
      with_reducible rfl
     rotate_left
     ·simp only [Act.put,sA,sO,sS,i64_w,i32_w]
      rfl
     refine pure_ (i:=26) (N:=some 87) (v:=?_) (a':=?_) laws_FnWave.m55 rfl rfl (any_of HT_.out (by kernel_rfl)) (fun _ _ _ h=>h) (Or.inl ⟨by rfl,?_⟩) ?_ ?_
     rotate_left
     ·intro w'
      go_simp
      with_reducible rfl
     rotate_left
     ·simp only [Act.put,sA,sO,sS,i64_w,i32_w]
      rfl
     refine pure_ (i:=28) (N:=some 89) (v:=?_) (a':=?_) laws_FnWave.m56 rfl rfl (any_of HT_.out (by kernel_rfl)) (fun _ _ _ h=>h) (Or.inl ⟨by rfl,?_⟩) ?_ ?_
     rotate_left
     ·intro w'
      go_simp
      with_reducible rfl
     rotate_left
     ·simp only [Act.put,sA,sO,sS,i64_w,i32_w]
      rfl
     refine take_ (i:=21) (N:=some 82) (v:=?_) (a':=?_) laws_FnWave.m57 rfl rfl (take_ofW HT_.out HW_.out (by kernel_rfl)) (fun _ _ _ h=>h) (Or.inl ⟨by rfl,?_⟩) hHeld ?_ ?_
     rotate_left
     ·rintro w' ⟨s0,s1,s2,s3,s4,s5,s6⟩
      go_simp
      with_reducible rfl
     rotate_left
     ·simp only [Act.put,sA,sO,sS,i64_w,i32_w]
      rfl
     refine take_ (i:=25) (N:=some 86) (v:=?_) (a':=?_) laws_FnWave.m58 rfl rfl (take_ofW HT_.out HW_.out (by kernel_rfl)) (fun _ _ _ h=>h) (Or.inl ⟨by rfl,?_⟩) hHeld ?_ ?_
     rotate_left
     ·rintro w' ⟨s0,s1,s2,s3,s4,s5,s6⟩
      go_simp
      with_reducible rfl
     rotate_left
     ·simp only [Act.put,sA,sO,sS,i64_w,i32_w]
      rfl
     refine one_ (i:=27) (N:=some 88) laws_FnWave.m35 rfl rfl (one_of HT_.out (by kernel_rfl)) (by decide) (fun K hK=>?_)
     refine goes_ Try.func24 (by kernel_rfl) rfl #[.agg #[.int .i64 t382,.slice Ao20 t383.length co20,.slice Ao21 t386.length co21],.int .i64 (rd t370 t397),.int .i64 t399] (by rfl) rfl rfl (by (try simp only [mA,mC,mN]);first|done|rfl|(simp only [List.length_drop,List.length_take];rfl)) ?_
     with_reducible refine (impl_WaveSelect.calls kj23 t382 _ _ t383 _ _ t386 (rd t370 t397) t399 t410 _ ?side1 ?side2 ?side3 ?side4 A55.out).mono ?_
     (case side1=>repeat (first|exact (Kd.R_reads' HO_391001.out).2.2|(with_reducible first|apply aC|apply nC|apply dC)))
     (case side2=>exact (Kd.R_reads' HO_391001.out).2.1)
     (case side3=>repeat (first|exact (Kd.N_reads' HO_391002.out).2.2|(with_reducible first|apply aC|apply nC|apply dC)))
     (case side4=>exact (Kd.N_reads' HO_391002.out).2.1)
     rintro e w63 ⟨rfl,hb⟩
     have HS3_:=(hb.cell (World.block_lt_of_cell? _ _ (hHeld.2.2.2.1))).trans (hHeld.2.2.2.1)
     have HS4_:=(hb.cell (World.block_lt_of_cell? _ _ (hHeld.2.2.2.2.1))).trans (hHeld.2.2.2.2.1)
     have HS5_:=(hb.cell (World.block_lt_of_cell? _ _ (hHeld.2.2.2.2.2.1))).trans (hHeld.2.2.2.2.2.1)
     have HS6_:=(hb.cell (World.block_lt_of_cell? _ _ (hHeld.2.2.2.2.2.2))).trans (hHeld.2.2.2.2.2.2)
     refine⟨_,rfl,?_⟩
     have n0_:=mk0 (Kd.R_below (by (with_reducible repeat (first|apply aR|apply nR|apply dR));exact HO_3.out) hb)
     have n1_:=mk0 (Kd.R_below (by (with_reducible repeat (first|apply aR|apply nR|apply dR));exact HO_382001.out) hb)
     have n2_:=mk0 (Kd.N_below (by (with_reducible repeat (first|apply aN|apply nN|apply dN));exact HO_382002.out) hb)
     have n3_:=mk0 (Kd.R_below (by (with_reducible repeat (first|apply aR|apply nR|apply dR));exact HO_391001.out) hb)
     have n4_:=mk0 (Kd.N_below (by (with_reducible repeat (first|apply aN|apply nN|apply dN));exact HO_391002.out) hb)
     have n5_:=mk0 (Kd.V_below (by (with_reducible repeat (first|apply aV|apply nV|apply dV));exact HO406.out) hb)
     have n6_:=mk0 (blk_below (g:=gb381) (o:=.cells #[.int .i64 t373,.slice Ao13 t374.length co13,.slice Ao14 t377.length co14] 30 (0,0)) (by (with_reducible repeat (first|apply nB|apply dB|apply aB));exact BK381.out) hb)
     have n7_:=mk0 (blk_below (g:=gb390) (o:=.cells #[.int .i64 t382,.slice Ao20 t383.length co20,.slice Ao21 t386.length co21] 30 (0,0)) (by (with_reducible repeat (first|apply nB|apply dB|apply aB));exact BK390.out) hb)
     have n8_:=mk0 (below_step (by repeat (first|(with_reducible first|exact HB.out|apply aZ|apply nZ|apply dZ|refine sZ ?_ GE381.out|refine sZ ?_ GE390.out)|exact HB.out)) hb)
     clear HO_3
     clear HO_382001
     clear HO_382002
     clear HO_391001
     clear HO_391002
     clear HO406
     clear BK381
     clear BK390
     clear HB
     have HO_3:=n0_
     have HO_382001:=n1_
     have HO_382002:=n2_
     have HO_391001:=n3_
     have HO_391002:=n4_
     have HO406:=n5_
     have BK381:=n6_
     have BK390:=n7_
     have HB:=n8_
     clear n0_ n1_ n2_ n3_ n4_ n5_ n6_ n7_ n8_
     (try clear hb)
     (try clear hb2)
     (try clear hk)
     (try clear hi)
     refine hK.out _ _ ⟨(blk_cell BK390.out 0).trans rfl,(blk_cell BK390.out 1).trans rfl,(blk_cell BK390.out 2).trans rfl,HS3_,HS4_,HS5_,HS6_⟩ (fun hHeld=>?_)
     clear hK K
     refine norm_ (a':=?_) ?_ ?_
     rotate_left
     ·show Act.put _ (some 88) _ = _
      simp only [Act.put,sA,sO,sS,i64_w,i32_w]
      rfl
     refine pure_ (i:=29) (N:=some 90) (v:=?_) (a':=?_) laws_FnWave.m36 rfl rfl (any_of HT_.out (by kernel_rfl)) (fun _ _ _ h=>h) (Or.inl ⟨by rfl,?_⟩) ?_ ?_
     rotate_left
     ·intro w'
      go_simp
      with_reducible rfl
     rotate_left
     ·simp only [Act.put,sA,sO,sS,i64_w,i32_w]
      rfl
     refine pure_ (i:=30) (N:=some 91) (v:=?_) (a':=?_) laws_FnWave.m37 rfl rfl (any_of HT_.out (by kernel_rfl)) (fun _ _ _ h=>h) (Or.inl ⟨by rfl,?_⟩) ?_ ?_
     rotate_left
     ·intro w'
      go_simp
      with_reducible rfl
     rotate_left
     ·simp only [Act.put,sA,sO,sS,i64_w,i32_w]
      rfl
     refine pure_ (i:=31) (N:=some 92) (v:=?_) (a':=?_) laws_FnWave.m38 rfl rfl (any_of HT_.out (by kernel_rfl)) (fun _ _ _ h=>h) (Or.inl ⟨by rfl,?_⟩) ?_ ?_
     rotate_left
     ·intro w'
      go_simp
      with_reducible rfl
     rotate_left
     ·simp only [Act.put,sA,sO,sS,i64_w,i32_w]
      rfl
     refine pure_ (i:=33) (N:=some 94) (v:=?_) (a':=?_) laws_FnWave.m59 rfl rfl (any_of HT_.out (by kernel_rfl)) (fun _ _ _ h=>h) (Or.inl ⟨by rfl,?_⟩) ?_ ?_
     rotate_left
     ·intro w'
      go_simp
      with_reducible rfl
     rotate_left
     ·simp only [Act.put,sA,sO,sS,i64_w,i32_w]
      rfl
     refine pure_ (i:=34) (N:=some 95) (v:=?_) (a':=?_) laws_FnWave.m60 rfl rfl (any_of HT_.out (by kernel_rfl)) (fun _ _ _ h=>h) (Or.inl ⟨by rfl,?_⟩) ?_ ?_
     rotate_left
     ·intro w'
      go_simp
      with_reducible rfl
     rotate_left
     ·simp only [Act.put,sA,sO,sS,i64_w,i32_w]
      rfl
     refine pure_ (i:=35) (N:=some 96) (v:=?_) (a':=?_) laws_FnWave.m61 rfl rfl (any_of HT_.out (by kernel_rfl)) (fun _ _ _ h=>h) (Or.inl ⟨by rfl,?_⟩) ?_ ?_
     rotate_left
     ·intro w'
      go_simp
      with_reducible rfl
     rotate_left
     ·simp only [Act.put,sA,sO,sS,i64_w,i32_w]
      rfl
     refine pure_ (i:=37) (N:=some 98) (v:=?_) (a':=?_) laws_FnWave.m62 rfl rfl (any_of HT_.out (by kernel_rfl)) (fun _ _ _ h=>h) (Or.inl ⟨by rfl,?_⟩) ?_ ?_
     rotate_left
     ·intro w'
      go_simp
      with_reducible rfl
     rotate_left
     ·simp only [Act.put,sA,sO,sS,i64_w,i32_w]
      rfl
     refine pure_ (i:=38) (N:=some 99) (v:=?_) (a':=?_) laws_FnWave.m63 rfl rfl (any_of HT_.out (by kernel_rfl)) (fun _ _ _ h=>h) (Or.inl ⟨by rfl,?_⟩) ?_ ?_
     rotate_left
     ·intro w'
      go_simp
      with_reducible rfl
     rotate_left
     ·simp only [Act.put,sA,sO,sS,i64_w,i32_w]
      rfl
     refine pure_ (i:=40) (N:=some 101) (v:=?_) (a':=?_) laws_FnWave.m64 rfl rfl (any_of HT_.out (by kernel_rfl)) (fun _ _ _ h=>h) (Or.inl ⟨by rfl,?_⟩) ?_ ?_
     rotate_left
     ·intro w'
      go_simp
      with_reducible rfl
     rotate_left
     ·simp only [Act.put,sA,sO,sS,i64_w,i32_w]
      rfl
     refine pure_ (i:=41) (N:=some 102) (v:=?_) (a':=?_) laws_FnWave.m65 rfl rfl (any_of HT_.out (by kernel_rfl)) (fun _ _ _ h=>h) (Or.inl ⟨by rfl,?_⟩) ?_ ?_
     rotate_left
     ·intro w'
      go_simp
      with_reducible rfl
     rotate_left
     ·simp only [Act.put,sA,sO,sS,i64_w,i32_w]
      rfl
     refine take_ (i:=32) (N:=some 93) (v:=?_) (a':=?_) laws_FnWave.m66 rfl rfl (take_ofW HT_.out HW_.out (by kernel_rfl)) (fun _ _ _ h=>h) (Or.inl ⟨by rfl,?_⟩) hHeld ?_ ?_
     rotate_left
     ·rintro w' ⟨s0,s1,s2,s3,s4,s5,s6⟩
      go_simp
      with_reducible rfl
     rotate_left
     ·simp only [Act.put,sA,sO,sS,i64_w,i32_w]
      rfl
     refine take_ (i:=36) (N:=some 97) (v:=?_) (a':=?_) laws_FnWave.m67 rfl rfl (take_ofW HT_.out HW_.out (by kernel_rfl)) (fun _ _ _ h=>h) (Or.inl ⟨by rfl,?_⟩) hHeld ?_ ?_
     rotate_left
     ·rintro w' ⟨s0,s1,s2,s3,s4,s5,s6⟩
      go_simp
      with_reducible rfl
     rotate_left
     ·simp only [Act.put,sA,sO,sS,i64_w,i32_w]
      rfl
     refine one_ (i:=39) (N:=some 100) laws_FnWave.m48 rfl rfl (one_of HT_.out (by kernel_rfl)) (by decide) (fun K hK=>?_)
     refine goes_ Try.func22 (by kernel_rfl) rfl #[.agg #[.int .i64 t382,.slice Ao20 t383.length co20,.slice Ao21 t386.length co21],.int .i64 (rd t370 t397),.int .i64 (wrap64 (t397 + 1))] (by rfl) rfl rfl (by (try simp only [mA,mC,mN]);first|done|rfl|(simp only [List.length_drop,List.length_take];rfl)) ?_
     with_reducible refine (impl_WaveRank.calls kj23 t382 _ _ t383 _ _ t386 (rd t370 t397) (wrap64 (t397 + 1)) t412 _ ?side1 ?side2 ?side3 ?side4 A57.out).mono ?_
     (case side1=>repeat (first|exact (Kd.R_reads' HO_391001.out).2.2|(with_reducible first|apply aC|apply nC|apply dC)))
     (case side2=>exact (Kd.R_reads' HO_391001.out).2.1)
     (case side3=>repeat (first|exact (Kd.N_reads' HO_391002.out).2.2|(with_reducible first|apply aC|apply nC|apply dC)))
     (case side4=>exact (Kd.N_reads' HO_391002.out).2.1)
     rintro e w64 ⟨rfl,hb⟩
     have HS3_:=(hb.cell (World.block_lt_of_cell? _ _ (hHeld.2.2.2.1))).trans (hHeld.2.2.2.1)
     have HS4_:=(hb.cell (World.block_lt_of_cell? _ _ (hHeld.2.2.2.2.1))).trans (hHeld.2.2.2.2.1)
     have HS5_:=(hb.cell (World.block_lt_of_cell? _ _ (hHeld.2.2.2.2.2.1))).trans (hHeld.2.2.2.2.2.1)
     have HS6_:=(hb.cell (World.block_lt_of_cell? _ _ (hHeld.2.2.2.2.2.2))).trans (hHeld.2.2.2.2.2.2)
     refine⟨_,rfl,?_⟩
     have n0_:=mk0 (Kd.R_below (by (with_reducible repeat (first|apply aR|apply nR|apply dR));exact HO_3.out) hb)
     have n1_:=mk0 (Kd.R_below (by (with_reducible repeat (first|apply aR|apply nR|apply dR));exact HO_382001.out) hb)
     have n2_:=mk0 (Kd.N_below (by (with_reducible repeat (first|apply aN|apply nN|apply dN));exact HO_382002.out) hb)
     have n3_:=mk0 (Kd.R_below (by (with_reducible repeat (first|apply aR|apply nR|apply dR));exact HO_391001.out) hb)
     have n4_:=mk0 (Kd.N_below (by (with_reducible repeat (first|apply aN|apply nN|apply dN));exact HO_391002.out) hb)
     have n5_:=mk0 (Kd.V_below (by (with_reducible repeat (first|apply aV|apply nV|apply dV));exact HO406.out) hb)
     have n6_:=mk0 (blk_below (g:=gb381) (o:=.cells #[.int .i64 t373,.slice Ao13 t374.length co13,.slice Ao14 t377.length co14] 30 (0,0)) (by (with_reducible repeat (first|apply nB|apply dB|apply aB));exact BK381.out) hb)
     have n7_:=mk0 (blk_below (g:=gb390) (o:=.cells #[.int .i64 t382,.slice Ao20 t383.length co20,.slice Ao21 t386.length co21] 30 (0,0)) (by (with_reducible repeat (first|apply nB|apply dB|apply aB));exact BK390.out) hb)
     have n8_:=mk0 (below_step (by repeat (first|(with_reducible first|exact HB.out|apply aZ|apply nZ|apply dZ|refine sZ ?_ GE381.out|refine sZ ?_ GE390.out)|exact HB.out)) hb)
     clear HO_3
     clear HO_382001
     clear HO_382002
     clear HO_391001
     clear HO_391002
     clear HO406
     clear BK381
     clear BK390
     clear HB
     have HO_3:=n0_
     have HO_382001:=n1_
     have HO_382002:=n2_
     have HO_391001:=n3_
     have HO_391002:=n4_
     have HO406:=n5_
     have BK381:=n6_
     have BK390:=n7_
     have HB:=n8_
     clear n0_ n1_ n2_ n3_ n4_ n5_ n6_ n7_ n8_
     (try clear hb)
     (try clear hb2)
     (try clear hk)
     (try clear hi)
     refine hK.out _ _ ⟨(blk_cell BK390.out 0).trans rfl,(blk_cell BK390.out 1).trans rfl,(blk_cell BK390.out 2).trans rfl,HS3_,HS4_,HS5_,HS6_⟩ (fun hHeld=>?_)
     clear hK K
     refine norm_ (a':=?_) ?_ ?_
     rotate_left
     ·show Act.put _ (some 100) _ = _
      simp only [Act.put,sA,sO,sS,i64_w,i32_w]
      rfl
     refine pure_ (i:=42) (N:=some 103) (v:=?_) (a':=?_) laws_FnWave.m49 rfl rfl (any_of HT_.out (by kernel_rfl)) (fun _ _ _ h=>h) (Or.inl ⟨by rfl,?_⟩) ?_ ?_
     rotate_left
     ·intro w'
      go_simp
      with_reducible rfl
     rotate_left
     ·simp only [Act.put,sA,sO,sS,i64_w,i32_w]
      rfl
     refine pure_ (i:=43) (N:=some 104) (v:=?_) (a':=?_) laws_FnWave.m50 rfl rfl (any_of HT_.out (by kernel_rfl)) (fun _ _ _ h=>h) (Or.inl ⟨by rfl,?_⟩) ?_ ?_
     rotate_left
     ·intro w'
      go_simp
      with_reducible rfl
     rotate_left
     ·simp only [Act.put,sA,sO,sS,i64_w,i32_w]
      rfl
     refine pure_ (i:=44) (N:=some 2) (v:=?_) (a':=?_) laws_FnWave.m51 rfl rfl (any_of HT_.out (by kernel_rfl)) (fun _ _ _ h=>h) (Or.inl ⟨by rfl,?_⟩) ?_ ?_
     rotate_left
     ·intro w'
      go_simp
      with_reducible rfl
     rotate_left
     ·simp only [Act.put,sA,sO,sS,i64_w,i32_w]
      rfl
     refine done_ (done_of HT_.out (by kernel_rfl)) ?_
     try go_wp2
     go_ret
     exact⟨by first|rfl|(simp [errW_none,errW_some] <;> rfl)|(simp [*,errW_none,errW_some] <;> rfl),by repeat (first|(with_reducible first|exact HB.out|apply aZ|apply nZ|apply dZ|refine sZ ?_ GE381.out|refine sZ ?_ GE390.out)|exact HB.out)⟩
/-- THE ONE PURE STATEMENT of laws_FnWave: yours. -/
def laws_FnWave.Pure : Prop := ∀ (l0 : List Int), l0.length ≤ maxLen → l0.length * 1 ≤ 140737488351232 → (∀ x ∈ l0, (Lit.int .u8 x).wf = true) → ∃ k, laws_FnWave.f k l0 = some true
theorem laws_FnWave.walk (P : laws_FnWave.Pure) (a0 : Option Addr) (len0 cap0 : Nat) (z0 : List Int) (w : World) (w0 : (a0 = none ∧ len0 = 0 ∧ cap0 = 0 ∧ z0 = []) ∨ ∃ x, a0 = some x ∧ len0 ≤ cap0 ∧ cap0 ≤ maxLen ∧ z0.length = cap0 ∧ (∀ i, i < z0.length → w.cell? (x.add i) = some (.int .u8 (z0.getD i 0))) ∧ ∀ n ∈ z0, (Lit.int .u8 n).wf = true) (y0 : len0 * 1 ≤ 140737488351232) :
    Calls Try.prog 4 #[.slice a0 len0 cap0] w fun e w' => e = .returned (.bool true) ∧ Below w.heap.size w w' := by
  obtain ⟨l0, rfl, hr0, hm0, hw0, hc0⟩ := ReadsInt.ofRowC w0
  obtain ⟨k, h⟩ := P l0 hm0 y0 hw0
  refine (laws_FnWave.calls k _ _ l0 true w (Kd.C_of_reads (d := (0 : Int)) (h1 := fun _ => rfl) hr0) hc0 h).mono ?_
  rintro e w' ⟨rfl, hd⟩
  exact ⟨rfl, hd⟩

end Go.Proofs.Ytamdhfjnalglfaa.QFnWave
