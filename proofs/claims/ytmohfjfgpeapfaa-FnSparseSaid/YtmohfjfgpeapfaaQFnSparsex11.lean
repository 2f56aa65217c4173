-- A walk, made by walk.py, a program of this session's.
import Derived.Test.YtmohfjfgpeapfaaQFnSparsex0
import Derived.Test.YtmohfjfgpeapfaaQFnSparsex1
import Derived.Test.YtmohfjfgpeapfaaQFnSparsex4
import Derived.Test.YtmohfjfgpeapfaaQFnSparsex7
import Derived.Test.YtmohfjfgpeapfaaQFnSparsex8
import Derived.Test.YtmohfjfgpeapfaaQFnSparsex9
import Derived.Test.YtmohfjfgpeapfaaQFnSparsex10
namespace Go.Proofs.Ytmohfjfgpeapfaa.QFnSparse
open Go.RowKit Go.Proofs.YtmohfjfgpeapfaaW.PrintWords Go.Proofs.YtmohfjfgpeapfaaW.PrintLast Go.Proofs.YtmohfjfgpeapfaaW.PrintMore
attribute [local go_sem] max2_int min2_int max_two min_two max_three min_three max_four min_four   -- for this text's walks alone
set_option linter.unusedVariables false
set_option linter.unusedSimpArgs false

/-! ### laws_FnSparse: function 3 -/
mutual
def laws_FnSparse.j0 : Nat → List Int → Int → Bool → Bool → Bool → Int → Int → Int → Int → Int → List Int → Int → List Int → Option (Bool)
 | 0, _, _, _, _, _, _, _, _, _, _, _, _, _ => none
 | k + 1, x3, x4, x6, x8, x36, x468000, x468001, x468002, x468003, x468004, x468005, x468006, x468007 => if x36 = true then (some (x8 == x6)) else ((impl_SparseList.f k x468000 x468001 x468002 x468003 x468004 x468005 x468006 x468007).bind fun t468 => ((laws_same.f k t468 x3).bind fun t471 => (if t471 = true then ((impl_SparseOk.f k x468000 x468001 x468002 x468003 x468004 x468005 x468006 x468007).bind fun t472 => (if t472 = true then ((impl_SparseRank.f k x468000 x468001 x468002 x468003 x468004 x468005 x468006 x468007 x4).bind fun t473 => (laws_FnSparse.j1 k x3 (t473 != (x3.length : Int)) x468000 x468001 x468002 x468003 x468004 x468005 x468006 x468007)) else (laws_FnSparse.j1 k x3 true x468000 x468001 x468002 x468003 x468004 x468005 x468006 x468007))) else (laws_FnSparse.j1 k x3 true x468000 x468001 x468002 x468003 x468004 x468005 x468006 x468007))))
def laws_FnSparse.j1 : Nat → List Int → Bool → Int → Int → Int → Int → Int → List Int → Int → List Int → Option (Bool)
 | 0, _, _, _, _, _, _, _, _, _, _ => none
 | k + 1, x3, x57, x468000, x468001, x468002, x468003, x468004, x468005, x468006, x468007 => if x57 = true then (some false) else (laws_FnSparse.l0 k x3 0 x468000 x468001 x468002 x468003 x468004 x468005 x468006 x468007)
def laws_FnSparse.l0 : Nat → List Int → Int → Int → Int → Int → Int → Int → List Int → Int → List Int → Option (Bool)
 | 0, _, _, _, _, _, _, _, _, _, _ => none
 | k + 1, x3, x9, x468000, x468001, x468002, x468003, x468004, x468005, x468006, x468007 => if x9 < (x3.length : Int) then (if 0 ≤ x9 then ((impl_SparseRank.f k x468000 x468001 x468002 x468003 x468004 x468005 x468006 x468007 (rd x3 x9)).bind fun t475 => ((impl_SparseAt.f k x468000 x468001 x468002 x468003 x468004 x468005 x468006 x468007 x9).bind fun t476 => (if t476 = (rd x3 x9) then (if t475 > x9 then (laws_FnSparse.j3 k x3 x9 true x468000 x468001 x468002 x468003 x468004 x468005 x468006 x468007) else (if t475 < 0 then (laws_FnSparse.j3 k x3 x9 true x468000 x468001 x468002 x468003 x468004 x468005 x468006 x468007) else (if 0 ≤ t475 then (if t475 < (x3.length : Int) then (if (rd x3 t475) = (rd x3 x9) then ((impl_SparseHas.f k x468000 x468001 x468002 x468003 x468004 x468005 x468006 x468007 (rd x3 x9)).bind fun t481 => (laws_FnSparse.j3 k x3 x9 (!t481) x468000 x468001 x468002 x468003 x468004 x468005 x468006 x468007)) else (laws_FnSparse.j3 k x3 x9 true x468000 x468001 x468002 x468003 x468004 x468005 x468006 x468007)) else (none)) else (none)))) else (laws_FnSparse.j3 k x3 x9 true x468000 x468001 x468002 x468003 x468004 x468005 x468006 x468007)))) else (none)) else (some true)
def laws_FnSparse.j3 : Nat → List Int → Int → Bool → Int → Int → Int → Int → Int → List Int → Int → List Int → Option (Bool)
 | 0, _, _, _, _, _, _, _, _, _, _, _ => none
 | k + 1, x3, x9, x106, x468000, x468001, x468002, x468003, x468004, x468005, x468006, x468007 => if x106 = true then (some false) else (laws_FnSparse.l0 k x3 (wrap64 (x9 + 1)) x468000 x468001 x468002 x468003 x468004 x468005 x468006 x468007)
end
def laws_FnSparse.f (k : Nat) (l0 : List Int) : Option (Bool) := (laws_big.f l0).bind fun t435 => (if t435 = true then (some true) else ((spec_DrawSparseOf.f k l0).bind fun bt436 => ((spec_SparseOf.f k bt436.1 bt436.2).bind fun bt440 => ((impl_SparseOf.f k bt436.1 bt436.2).bind fun bt454 => (if (bt454.2.2.2.2.2.2.2.2 != bt440.2.2.2.2.2.2.2.2) = true then (laws_FnSparse.j0 k bt436.1 bt436.2 bt440.2.2.2.2.2.2.2.2 bt454.2.2.2.2.2.2.2.2 true bt454.1 bt454.2.1 bt454.2.2.1 bt454.2.2.2.1 bt454.2.2.2.2.1 bt454.2.2.2.2.2.1 bt454.2.2.2.2.2.2.1 bt454.2.2.2.2.2.2.2.1) else (laws_FnSparse.j0 k bt436.1 bt436.2 bt440.2.2.2.2.2.2.2.2 bt454.2.2.2.2.2.2.2.2 (!bt454.2.2.2.2.2.2.2.2) bt454.1 bt454.2.1 bt454.2.2.1 bt454.2.2.2.1 bt454.2.2.2.2.1 bt454.2.2.2.2.2.1 bt454.2.2.2.2.2.2.1 bt454.2.2.2.2.2.2.2.1))))))
theorem laws_FnSparse.mono_l : ∀ k, (∀ y0 y1 y2 y3 y4 y5 y6 y7 y8 y9 y10 y11 y12, LeO (laws_FnSparse.j0 k y0 y1 y2 y3 y4 y5 y6 y7 y8 y9 y10 y11 y12) (laws_FnSparse.j0 (k + 1) y0 y1 y2 y3 y4 y5 y6 y7 y8 y9 y10 y11 y12)) ∧ (∀ y0 y1 y2 y3 y4 y5 y6 y7 y8 y9, LeO (laws_FnSparse.j1 k y0 y1 y2 y3 y4 y5 y6 y7 y8 y9) (laws_FnSparse.j1 (k + 1) y0 y1 y2 y3 y4 y5 y6 y7 y8 y9)) ∧ (∀ y0 y1 y2 y3 y4 y5 y6 y7 y8 y9, LeO (laws_FnSparse.l0 k y0 y1 y2 y3 y4 y5 y6 y7 y8 y9) (laws_FnSparse.l0 (k + 1) y0 y1 y2 y3 y4 y5 y6 y7 y8 y9)) ∧ (∀ y0 y1 y2 y3 y4 y5 y6 y7 y8 y9 y10, LeO (laws_FnSparse.j3 k y0 y1 y2 y3 y4 y5 y6 y7 y8 y9 y10) (laws_FnSparse.j3 (k + 1) y0 y1 y2 y3 y4 y5 y6 y7 y8 y9 y10))
 | 0 => ⟨fun _ _ _ _ _ _ _ _ _ _ _ _ _ r h => by simp [laws_FnSparse.j0] at h, fun _ _ _ _ _ _ _ _ _ _ r h => by simp [laws_FnSparse.j1] at h, fun _ _ _ _ _ _ _ _ _ _ r h => by simp [laws_FnSparse.l0] at h, fun _ _ _ _ _ _ _ _ _ _ _ r h => by simp [laws_FnSparse.j3] at h⟩
 | k + 1 => by
  obtain ⟨ih0, ih1, ih2, ih3⟩ := laws_FnSparse.mono_l k
  refine ⟨?_, ?_, ?_, ?_⟩
  ·intro y0 y1 y2 y3 y4 y5 y6 y7 y8 y9 y10 y11 y12
   unfold laws_FnSparse.j0
   repeat' first|(with_reducible first|exact ih0 _ _ _ _ _ _ _ _ _ _ _ _ _|exact ih1 _ _ _ _ _ _ _ _ _ _|exact ih2 _ _ _ _ _ _ _ _ _ _|exact ih3 _ _ _ _ _ _ _ _ _ _ _|exact impl_SparseAt.mono _ _ _ _ _ _ _ _ _ _|exact impl_SparseHas.mono _ _ _ _ _ _ _ _ _ _|exact impl_SparseList.mono _ _ _ _ _ _ _ _ _|exact impl_SparseOf.mono _ _ _|exact impl_SparseOk.mono _ _ _ _ _ _ _ _ _|exact impl_SparseRank.mono _ _ _ _ _ _ _ _ _ _|exact laws_same.mono _ _ _|exact spec_DrawSparseOf.mono _ _|exact spec_SparseOf.mono _ _ _|exact LeO.refl _|exact LeO.none _|refine LeO.ite ?_ ?_|refine LeO.bind ?_ (fun _ => ?_))|exact LeO.none _|refine LeO.ite ?_ ?_|refine LeO.bind ?_ (fun _ => ?_)
  ·intro y0 y1 y2 y3 y4 y5 y6 y7 y8 y9
   unfold laws_FnSparse.j1
   repeat' first|(with_reducible first|exact ih0 _ _ _ _ _ _ _ _ _ _ _ _ _|exact ih1 _ _ _ _ _ _ _ _ _ _|exact ih2 _ _ _ _ _ _ _ _ _ _|exact ih3 _ _ _ _ _ _ _ _ _ _ _|exact impl_SparseAt.mono _ _ _ _ _ _ _ _ _ _|exact impl_SparseHas.mono _ _ _ _ _ _ _ _ _ _|exact impl_SparseList.mono _ _ _ _ _ _ _ _ _|exact impl_SparseOf.mono _ _ _|exact impl_SparseOk.mono _ _ _ _ _ _ _ _ _|exact impl_SparseRank.mono _ _ _ _ _ _ _ _ _ _|exact laws_same.mono _ _ _|exact spec_DrawSparseOf.mono _ _|exact spec_SparseOf.mono _ _ _|exact LeO.refl _|exact LeO.none _|refine LeO.ite ?_ ?_|refine LeO.bind ?_ (fun _ => ?_))|exact LeO.none _|refine LeO.ite ?_ ?_|refine LeO.bind ?_ (fun _ => ?_)
  ·intro y0 y1 y2 y3 y4 y5 y6 y7 y8 y9
   unfold laws_FnSparse.l0
   repeat' first|(with_reducible first|exact ih0 _ _ _ _ _ _ _ _ _ _ _ _ _|exact ih1 _ _ _ _ _ _ _ _ _ _|exact ih2 _ _ _ _ _ _ _ _ _ _|exact ih3 _ _ _ _ _ _ _ _ _ _ _|exact impl_SparseAt.mono _ _ _ _ _ _ _ _ _ _|exact impl_SparseHas.mono _ _ _ _ _ _ _ _ _ _|exact impl_SparseList.mono _ _ _ _ _ _ _ _ _|exact impl_SparseOf.mono _ _ _|exact impl_SparseOk.mono _ _ _ _ _ _ _ _ _|exact impl_SparseRank.mono _ _ _ _ _ _ _ _ _ _|exact laws_same.mono _ _ _|exact spec_DrawSparseOf.mono _ _|exact spec_SparseOf.mono _ _ _|exact LeO.refl _|exact LeO.none _|refine LeO.ite ?_ ?_|refine LeO.bind ?_ (fun _ => ?_))|exact LeO.none _|refine LeO.ite ?_ ?_|refine LeO.bind ?_ (fun _ => ?_)
  ·intro y0 y1 y2 y3 y4 y5 y6 y7 y8 y9 y10
   unfold laws_FnSparse.j3
   repeat' first|(with_reducible first|exact ih0 _ _ _ _ _ _ _ _ _ _ _ _ _|exact ih1 _ _ _ _ _ _ _ _ _ _|exact ih2 _ _ _ _ _ _ _ _ _ _|exact ih3 _ _ _ _ _ _ _ _ _ _ _|exact impl_SparseAt.mono _ _ _ _ _ _ _ _ _ _|exact impl_SparseHas.mono _ _ _ _ _ _ _ _ _ _|exact impl_SparseList.mono _ _ _ _ _ _ _ _ _|exact impl_SparseOf.mono _ _ _|exact impl_SparseOk.mono _ _ _ _ _ _ _ _ _|exact impl_SparseRank.mono _ _ _ _ _ _ _ _ _ _|exact laws_same.mono _ _ _|exact spec_DrawSparseOf.mono _ _|exact spec_SparseOf.mono _ _ _|exact LeO.refl _|exact LeO.none _|refine LeO.ite ?_ ?_|refine LeO.bind ?_ (fun _ => ?_))|exact LeO.none _|refine LeO.ite ?_ ?_|refine LeO.bind ?_ (fun _ => ?_)
theorem laws_FnSparse.mono : ∀ a0 k, LeO (laws_FnSparse.f k a0) (laws_FnSparse.f (k + 1) a0) := by
 intro a0 k
 obtain ⟨ih0, ih1, ih2, ih3⟩ := laws_FnSparse.mono_l k
 unfold laws_FnSparse.f
 repeat' first|(with_reducible first|exact ih0 _ _ _ _ _ _ _ _ _ _ _ _ _|exact ih1 _ _ _ _ _ _ _ _ _ _|exact ih2 _ _ _ _ _ _ _ _ _ _|exact ih3 _ _ _ _ _ _ _ _ _ _ _|exact impl_SparseAt.mono _ _ _ _ _ _ _ _ _ _|exact impl_SparseHas.mono _ _ _ _ _ _ _ _ _ _|exact impl_SparseList.mono _ _ _ _ _ _ _ _ _|exact impl_SparseOf.mono _ _ _|exact impl_SparseOk.mono _ _ _ _ _ _ _ _ _|exact impl_SparseRank.mono _ _ _ _ _ _ _ _ _ _|exact laws_same.mono _ _ _|exact spec_DrawSparseOf.mono _ _|exact spec_SparseOf.mono _ _ _|exact LeO.refl _|exact LeO.none _|refine LeO.ite ?_ ?_|refine LeO.bind ?_ (fun _ => ?_))|exact LeO.none _|refine LeO.ite ?_ ?_|refine LeO.bind ?_ (fun _ => ?_)
def laws_FnSparse.T14 : Bool × List (List Nat × List Nat) := (true, [([], []), ([], []), ([0, 1], [0, 1]), ([], []), ([], []), ([3, 4], [3, 4]), ([5], [5]), ([2, 6], [2, 6]), ([7, 2], [7]), ([8], [8]), ([8], [8]), ([9, 10, 8], [8, 9, 10]), ([8, 11], [8, 11]), ([12, 8], [12]), ([13], [13]), ([14, 13], [13, 14]), ([13, 15], [13, 15]), ([16, 13], [16]), ([17], [17]), ([17], [17]), ([18, 19, 17], [17, 18, 19]), ([20, 17], [17, 20]), ([17], [17]), ([17], [17]), ([22, 23, 17], [17, 22, 23]), ([24, 17], [17, 24]), ([21, 25, 17], [17, 21, 25]), ([17, 26], [17, 26]), ([27, 17], [27]), ([28], [28]), ([28], [28]), ([28], [28]), ([30, 31, 28], [28, 30, 31]), ([32, 28], [28, 32]), ([29, 33, 28, 28], [28, 29, 33]), ([34, 28], [28, 34]), ([28, 35], [28, 35])])
def laws_FnSparse.B14 : List Nat := [0, 0, 3, 0, 0, 24, 56, 127, 255, 511, 511, 2047, 4095, 8191, 16383, 32767, 65535, 131071, 262143, 262143, 1048575, 2097151, 262143, 262143, 12845055, 29622271, 67108863, 134217727, 268435455, 536870911, 536870911, 536870911, 3758096383, 8053063679, 17179869183, 34359738367, 68719476735]
theorem laws_FnSparse.tab14 : rtab .any (opsOf Try.f3 14) = laws_FnSparse.T14 := by kernel_rfl
theorem laws_FnSparse.bits14 : waitsOk laws_FnSparse.T14.2 laws_FnSparse.B14 = true := by kernel_rfl
abbrev laws_FnSparse.m0 : Array Bool := #[F,F,F,F,F,F,F,F,F,F,F,F,F,F,F,F,F,F,F,F,F,F,F,F,F,F,F,F,F,F,F,F,F,F,F,F,F]
abbrev laws_FnSparse.m1 : Array Bool := #[F,T,F,F,F,F,F,F,F,F,F,F,F,F,F,F,F,F,F,F,F,F,F,F,F,F,F,F,F,F,F,F,F,F,F,F,F]
abbrev laws_FnSparse.m2 : Array Bool := #[F,T,F,T,F,F,F,F,F,F,F,F,F,F,F,F,F,F,F,F,F,F,F,F,F,F,F,F,F,F,F,F,F,F,F,F,F]
abbrev laws_FnSparse.m3 : Array Bool := #[F,T,F,T,T,F,F,F,F,F,F,F,F,F,F,F,F,F,F,F,F,F,F,F,F,F,F,F,F,F,F,F,F,F,F,F,F]
abbrev laws_FnSparse.m4 : Array Bool := #[F,T,F,T,T,T,F,F,F,F,F,F,F,F,F,F,F,F,F,F,F,F,F,F,F,F,F,F,F,F,F,F,F,F,F,F,F]
abbrev laws_FnSparse.m5 : Array Bool := #[T,T,F,T,T,T,F,F,F,F,F,F,F,F,F,F,F,F,F,F,F,F,F,F,F,F,F,F,F,F,F,F,F,F,F,F,F]
abbrev laws_FnSparse.m6 : Array Bool := #[T,T,F,T,T,T,T,F,F,F,F,F,F,F,F,F,F,F,F,F,F,F,F,F,F,F,F,F,F,F,F,F,F,F,F,F,F]
abbrev laws_FnSparse.m7 : Array Bool := #[T,T,T,T,T,T,T,F,F,F,F,F,F,F,F,F,F,F,F,F,F,F,F,F,F,F,F,F,F,F,F,F,F,F,F,F,F]
abbrev laws_FnSparse.m8 : Array Bool := #[T,T,T,T,T,T,T,T,F,F,F,F,F,F,F,F,F,F,F,F,F,F,F,F,F,F,F,F,F,F,F,F,F,F,F,F,F]
abbrev laws_FnSparse.m9 : Array Bool := #[T,T,T,T,T,T,T,T,T,F,F,F,F,F,F,F,F,F,F,F,F,F,F,F,F,F,F,F,F,F,F,F,F,F,F,F,F]
abbrev laws_FnSparse.m10 : Array Bool := #[T,T,T,T,T,T,T,T,T,T,F,F,F,F,F,F,F,F,F,F,F,F,F,F,F,F,F,F,F,F,F,F,F,F,F,F,F]
abbrev laws_FnSparse.m11 : Array Bool := #[T,T,T,T,T,T,T,T,T,T,T,F,F,F,F,F,F,F,F,F,F,F,F,F,F,F,F,F,F,F,F,F,F,F,F,F,F]
abbrev laws_FnSparse.m12 : Array Bool := #[T,T,T,T,T,T,T,T,T,T,T,T,F,F,F,F,F,F,F,F,F,F,F,F,F,F,F,F,F,F,F,F,F,F,F,F,F]
abbrev laws_FnSparse.m13 : Array Bool := #[T,T,T,T,T,T,T,T,T,T,T,T,T,F,F,F,F,F,F,F,F,F,F,F,F,F,F,F,F,F,F,F,F,F,F,F,F]
abbrev laws_FnSparse.m14 : Array Bool := #[T,T,T,T,T,T,T,T,T,T,T,T,T,T,F,F,F,F,F,F,F,F,F,F,F,F,F,F,F,F,F,F,F,F,F,F,F]
abbrev laws_FnSparse.m15 : Array Bool := #[T,T,T,T,T,T,T,T,T,T,T,T,T,T,T,F,F,F,F,F,F,F,F,F,F,F,F,F,F,F,F,F,F,F,F,F,F]
abbrev laws_FnSparse.m16 : Array Bool := #[T,T,T,T,T,T,T,T,T,T,T,T,T,T,T,T,F,F,F,F,F,F,F,F,F,F,F,F,F,F,F,F,F,F,F,F,F]
abbrev laws_FnSparse.m17 : Array Bool := #[T,T,T,T,T,T,T,T,T,T,T,T,T,T,T,T,T,F,F,F,F,F,F,F,F,F,F,F,F,F,F,F,F,F,F,F,F]
abbrev laws_FnSparse.m18 : Array Bool := #[T,T,T,T,T,T,T,T,T,T,T,T,T,T,T,T,T,T,F,F,F,F,F,F,F,F,F,F,F,F,F,F,F,F,F,F,F]
abbrev laws_FnSparse.m19 : Array Bool := #[T,T,T,T,T,T,T,T,T,T,T,T,T,T,T,T,T,T,T,F,F,F,F,F,F,F,F,F,F,F,F,F,F,F,F,F,F]
abbrev laws_FnSparse.m20 : Array Bool := #[T,T,T,T,T,T,T,T,T,T,T,T,T,T,T,T,T,T,T,T,F,F,F,F,F,F,F,F,F,F,F,F,F,F,F,F,F]
abbrev laws_FnSparse.m21 : Array Bool := #[T,T,T,T,T,T,T,T,T,T,T,T,T,T,T,T,T,T,T,T,T,F,F,F,F,F,F,F,F,F,F,F,F,F,F,F,F]
abbrev laws_FnSparse.m22 : Array Bool := #[T,T,T,T,T,T,T,T,T,T,T,T,T,T,T,T,T,T,T,T,T,T,F,F,F,F,F,F,F,F,F,F,F,F,F,F,F]
abbrev laws_FnSparse.m23 : Array Bool := #[T,T,T,T,T,T,T,T,T,T,T,T,T,T,T,T,T,T,T,T,T,T,T,F,F,F,F,F,F,F,F,F,F,F,F,F,F]
abbrev laws_FnSparse.m24 : Array Bool := #[T,T,T,T,T,T,T,T,T,T,T,T,T,T,T,T,T,T,T,T,T,T,T,T,F,F,F,F,F,F,F,F,F,F,F,F,F]
abbrev laws_FnSparse.m25 : Array Bool := #[T,T,T,T,T,T,T,T,T,T,T,T,T,T,T,T,T,T,T,T,T,T,T,T,T,F,F,F,F,F,F,F,F,F,F,F,F]
abbrev laws_FnSparse.m26 : Array Bool := #[T,T,T,T,T,T,T,T,T,T,T,T,T,T,T,T,T,T,T,T,T,T,T,T,T,T,F,F,F,F,F,F,F,F,F,F,F]
abbrev laws_FnSparse.m27 : Array Bool := #[T,T,T,T,T,T,T,T,T,T,T,T,T,T,T,T,T,T,T,T,T,T,T,T,T,T,T,F,F,F,F,F,F,F,F,F,F]
abbrev laws_FnSparse.m28 : Array Bool := #[T,T,T,T,T,T,T,T,T,T,T,T,T,T,T,T,T,T,T,T,T,T,T,T,T,T,T,T,F,F,F,F,F,F,F,F,F]
abbrev laws_FnSparse.m29 : Array Bool := #[T,T,T,T,T,T,T,T,T,T,T,T,T,T,T,T,T,T,T,T,T,T,T,T,T,T,T,T,T,F,F,F,F,F,F,F,F]
abbrev laws_FnSparse.m30 : Array Bool := #[T,T,T,T,T,T,T,T,T,T,T,T,T,T,T,T,T,T,T,T,T,T,T,T,T,T,T,T,T,T,F,F,F,F,F,F,F]
abbrev laws_FnSparse.m31 : Array Bool := #[T,T,T,T,T,T,T,T,T,T,T,T,T,T,T,T,T,T,T,T,T,T,T,T,T,T,T,T,T,T,T,F,F,F,F,F,F]
abbrev laws_FnSparse.m32 : Array Bool := #[T,T,T,T,T,T,T,T,T,T,T,T,T,T,T,T,T,T,T,T,T,T,T,T,T,T,T,T,T,T,T,T,F,F,F,F,F]
abbrev laws_FnSparse.m33 : Array Bool := #[T,T,T,T,T,T,T,T,T,T,T,T,T,T,T,T,T,T,T,T,T,T,T,T,T,T,T,T,T,T,T,T,T,F,F,F,F]
abbrev laws_FnSparse.m34 : Array Bool := #[T,T,T,T,T,T,T,T,T,T,T,T,T,T,T,T,T,T,T,T,T,T,T,T,T,T,T,T,T,T,T,T,T,T,F,F,F]
abbrev laws_FnSparse.m35 : Array Bool := #[T,T,T,T,T,T,T,T,T,T,T,T,T,T,T,T,T,T,T,T,T,T,T,T,T,T,T,T,T,T,T,T,T,T,T,F,F]
abbrev laws_FnSparse.m36 : Array Bool := #[T,T,T,T,T,T,T,T,T,T,T,T,T,T,T,T,T,T,T,T,T,T,T,T,T,T,T,T,T,T,T,T,T,T,T,T,F]
abbrev laws_FnSparse.m37 : Array Bool := #[T,T,T,T,T,T,T,T,T,T,T,T,T,T,T,T,T,T,T,T,T,T,T,T,T,T,T,T,T,T,T,T,T,T,T,T,T]
abbrev laws_FnSparse.m38 : Array Bool := #[T,T,T,T,T,T,T,T,T,T,T,T,T,T,T,T,T,T,T,T,T,F,T,F,F,F,F,F,F,F,F,F,F,F,F,F,F]
abbrev laws_FnSparse.m39 : Array Bool := #[T,T,T,T,T,T,T,T,T,T,T,T,T,T,T,T,T,T,T,T,T,F,T,T,F,F,F,F,F,F,F,F,F,F,F,F,F]
abbrev laws_FnSparse.m40 : Array Bool := #[T,T,T,T,T,T,T,T,T,T,T,T,T,T,T,T,T,T,T,T,T,F,T,T,T,F,F,F,F,F,F,F,F,F,F,F,F]
abbrev laws_FnSparse.m41 : Array Bool := #[T,T,T,T,T,T,T,T,T,T,T,T,T,T,T,T,T,T,T,T,T,T,T,T,T,T,T,T,T,F,T,F,F,F,F,F,F]
abbrev laws_FnSparse.m42 : Array Bool := #[T,T,T,T,T,T,T,T,T,T,T,T,T,T,T,T,T,T,T,T,T,T,T,T,T,T,T,T,T,F,T,T,F,F,F,F,F]
abbrev laws_FnSparse.m43 : Array Bool := #[T,T,T,T,T,T,T,T,T,T,T,T,T,T,T,T,T,T,T,T,T,T,T,T,T,T,T,T,T,F,T,T,T,F,F,F,F]
set_option maxHeartbeats 8000000 in
set_option maxRecDepth 100000 in
theorem laws_FnSparse.calls (k : Nat) (A0 : Option Addr) (c0 : Nat) (l0 : List Int) (r : Bool) (w : World) (hr0 : Kd.C (Kd.int .u8) w A0 l0.length l0) (hc0 : l0.length ≤ c0) (h : laws_FnSparse.f k l0 = some r) :
  Calls Try.prog 3 #[.slice A0 l0.length c0] w fun e w' => e = .returned (.bool r) ∧ Below w.heap.size w w' := by
 have hu33:=Try.underlying33
 have HR0:=mk0 hr0
 have HC0:=mk0 hc0
 clear hr0 hc0
 have HB:=mk0 (Below.refl w.heap.size w)
 have H:((laws_big.f l0).bind fun t435=>(if t435 = true then (some true) else ((spec_DrawSparseOf.f k l0).bind fun bt436=>((spec_SparseOf.f k bt436.1 bt436.2).bind fun bt440=>((impl_SparseOf.f k bt436.1 bt436.2).bind fun bt454=>(if (bt454.2.2.2.2.2.2.2.2 != bt440.2.2.2.2.2.2.2.2) = true then (laws_FnSparse.j0 k bt436.1 bt436.2 bt440.2.2.2.2.2.2.2.2 bt454.2.2.2.2.2.2.2.2 true bt454.1 bt454.2.1 bt454.2.2.1 bt454.2.2.2.1 bt454.2.2.2.2.1 bt454.2.2.2.2.2.1 bt454.2.2.2.2.2.2.1 bt454.2.2.2.2.2.2.2.1) else (laws_FnSparse.j0 k bt436.1 bt436.2 bt440.2.2.2.2.2.2.2.2 bt454.2.2.2.2.2.2.2.2 (!bt454.2.2.2.2.2.2.2.2) bt454.1 bt454.2.1 bt454.2.2.1 bt454.2.2.2.1 bt454.2.2.2.2.1 bt454.2.2.2.2.2.1 bt454.2.2.2.2.2.2.1 bt454.2.2.2.2.2.2.2.1))))))) = some r:=h
 clear h
 replace H:=Option.bind_eq_some_iff.mp H
 obtain⟨t435,A20,H⟩:=H
 replace H:(if t435 = true then (some true) else ((spec_DrawSparseOf.f k l0).bind fun bt436=>((spec_SparseOf.f k bt436.1 bt436.2).bind fun bt440=>((impl_SparseOf.f k bt436.1 bt436.2).bind fun bt454=>(if (bt454.2.2.2.2.2.2.2.2 != bt440.2.2.2.2.2.2.2.2) = true then (laws_FnSparse.j0 k bt436.1 bt436.2 bt440.2.2.2.2.2.2.2.2 bt454.2.2.2.2.2.2.2.2 true bt454.1 bt454.2.1 bt454.2.2.1 bt454.2.2.2.1 bt454.2.2.2.2.1 bt454.2.2.2.2.2.1 bt454.2.2.2.2.2.2.1 bt454.2.2.2.2.2.2.2.1) else (laws_FnSparse.j0 k bt436.1 bt436.2 bt440.2.2.2.2.2.2.2.2 bt454.2.2.2.2.2.2.2.2 (!bt454.2.2.2.2.2.2.2.2) bt454.1 bt454.2.1 bt454.2.2.1 bt454.2.2.2.1 bt454.2.2.2.2.1 bt454.2.2.2.2.2.1 bt454.2.2.2.2.2.2.1 bt454.2.2.2.2.2.2.2.1)))))) = some r:=H
 have A2:=mk0 A20
 clear A20
 by_cases c3:t435 = true
 ·subst c3
  have H1:(some true) = some r:=by rw [if_pos rfl] at H;exact H
  clear H
  have H:=H1
  clear H1
  obtain rfl:=Option.some.inj H
  go_enter Try.func3,Try.ntmps3
  go_wp2_with (first|((with_reducible refine gate_callee (f:=7) rfl ?_);refine goesL_ (some 12) rfl rfl Try.func7 (by kernel_rfl) rfl #[.slice A0 l0.length c0] rfl (by (try simp only [mA,mC,mN]);first|done|rfl|(simp only [List.length_drop,List.length_take];done)|(simp only [List.length_drop,List.length_take];rfl)) ?_;(with_reducible refine (laws_big.calls _ _ l0 true _ ?side1 ?side2 A2.out).mono ?_);(case side1=>repeat (first|exact HR0.out|(with_reducible first|apply aC|apply nC|apply dC)));(case side2=>exact HC0.out);rintro e w' ⟨rfl,⟨nd,rfl⟩⟩;refine⟨_,rfl,?_⟩))
  go_ret
  exact⟨by first|rfl|(simp [errW_none,errW_some] <;> rfl)|(simp [*,errW_none,errW_some] <;> rfl),kB HB.out⟩
 replace c3:=Bool.eq_false_iff.mpr c3
 subst c3
 have H1:((spec_DrawSparseOf.f k l0).bind fun bt436=>((spec_SparseOf.f k bt436.1 bt436.2).bind fun bt440=>((impl_SparseOf.f k bt436.1 bt436.2).bind fun bt454=>(if (bt454.2.2.2.2.2.2.2.2 != bt440.2.2.2.2.2.2.2.2) = true then (laws_FnSparse.j0 k bt436.1 bt436.2 bt440.2.2.2.2.2.2.2.2 bt454.2.2.2.2.2.2.2.2 true bt454.1 bt454.2.1 bt454.2.2.1 bt454.2.2.2.1 bt454.2.2.2.2.1 bt454.2.2.2.2.2.1 bt454.2.2.2.2.2.2.1 bt454.2.2.2.2.2.2.2.1) else (laws_FnSparse.j0 k bt436.1 bt436.2 bt440.2.2.2.2.2.2.2.2 bt454.2.2.2.2.2.2.2.2 (!bt454.2.2.2.2.2.2.2.2) bt454.1 bt454.2.1 bt454.2.2.1 bt454.2.2.2.1 bt454.2.2.2.2.1 bt454.2.2.2.2.2.1 bt454.2.2.2.2.2.2.1 bt454.2.2.2.2.2.2.2.1))))) = some r:=by rw [if_neg (show ¬ (false = true) by decide)] at H;exact H
 clear H
 have H:=H1
 clear H1
 replace H:=Option.bind_eq_some_iff.mp H
 obtain⟨⟨t436,t437⟩,A40,H⟩:=H
 replace H:((spec_SparseOf.f k t436 t437).bind fun bt440=>((impl_SparseOf.f k t436 t437).bind fun bt454=>(if (bt454.2.2.2.2.2.2.2.2 != bt440.2.2.2.2.2.2.2.2) = true then (laws_FnSparse.j0 k t436 t437 bt440.2.2.2.2.2.2.2.2 bt454.2.2.2.2.2.2.2.2 true bt454.1 bt454.2.1 bt454.2.2.1 bt454.2.2.2.1 bt454.2.2.2.2.1 bt454.2.2.2.2.2.1 bt454.2.2.2.2.2.2.1 bt454.2.2.2.2.2.2.2.1) else (laws_FnSparse.j0 k t436 t437 bt440.2.2.2.2.2.2.2.2 bt454.2.2.2.2.2.2.2.2 (!bt454.2.2.2.2.2.2.2.2) bt454.1 bt454.2.1 bt454.2.2.1 bt454.2.2.2.1 bt454.2.2.2.2.1 bt454.2.2.2.2.2.1 bt454.2.2.2.2.2.2.1 bt454.2.2.2.2.2.2.2.1)))) = some r:=H
 have A4:=mk0 A40
 clear A40
 replace H:=Option.bind_eq_some_iff.mp H
 obtain⟨⟨t440,t441,t442,t443,t444,t445,t448,t449,t452⟩,A50,H⟩:=H
 replace H:((impl_SparseOf.f k t436 t437).bind fun bt454=>(if (bt454.2.2.2.2.2.2.2.2 != t452) = true then (laws_FnSparse.j0 k t436 t437 t452 bt454.2.2.2.2.2.2.2.2 true bt454.1 bt454.2.1 bt454.2.2.1 bt454.2.2.2.1 bt454.2.2.2.2.1 bt454.2.2.2.2.2.1 bt454.2.2.2.2.2.2.1 bt454.2.2.2.2.2.2.2.1) else (laws_FnSparse.j0 k t436 t437 t452 bt454.2.2.2.2.2.2.2.2 (!bt454.2.2.2.2.2.2.2.2) bt454.1 bt454.2.1 bt454.2.2.1 bt454.2.2.2.1 bt454.2.2.2.2.1 bt454.2.2.2.2.2.1 bt454.2.2.2.2.2.2.1 bt454.2.2.2.2.2.2.2.1))) = some r:=H
 have A5:=mk0 A50
 clear A50
 replace H:=Option.bind_eq_some_iff.mp H
 obtain⟨⟨t454,t455,t456,t457,t458,t459,t462,t463,t466⟩,A60,H⟩:=H
 replace H:(if (t466 != t452) = true then (laws_FnSparse.j0 k t436 t437 t452 t466 true t454 t455 t456 t457 t458 t459 t462 t463) else (laws_FnSparse.j0 k t436 t437 t452 t466 (!t466) t454 t455 t456 t457 t458 t459 t462 t463)) = some r:=H
 have A6:=mk0 A60
 clear A60
 have HC7:=mk0 H
 clear H
 go_enter Try.func3,Try.ntmps3
 go_upto_region 6 with (first|((with_reducible refine gate_callee (f:=7) rfl ?_);refine goesL_ (some 12) rfl rfl Try.func7 (by kernel_rfl) rfl #[.slice A0 l0.length c0] rfl (by (try simp only [mA,mC,mN]);first|done|rfl|(simp only [List.length_drop,List.length_take];done)|(simp only [List.length_drop,List.length_take];rfl)) ?_;(with_reducible refine (laws_big.calls _ _ l0 false _ ?side1 ?side2 A2.out).mono ?_);(case side1=>repeat (first|exact HR0.out|(with_reducible first|apply aC|apply nC|apply dC)));(case side2=>exact HC0.out);rintro e w' ⟨rfl,⟨nd,rfl⟩⟩;refine⟨_,rfl,?_⟩)|((with_reducible refine gate_callee (f:=8) rfl ?_);refine goesL_ (some 15) rfl rfl Try.func8 (by kernel_rfl) rfl #[.slice A0 l0.length c0] rfl (by (try simp only [mA,mC,mN]);first|done|rfl|(simp only [List.length_drop,List.length_take];done)|(simp only [List.length_drop,List.length_take];rfl)) ?_;(with_reducible refine (spec_DrawSparseOf.calls k _ _ l0 t436 t437 _ ?side1 ?side2 A4.out).mono ?_);(case side1=>repeat (first|exact HR0.out|(with_reducible first|apply aC|apply nC|apply dC)));(case side2=>exact HC0.out);rintro e w8 ⟨v438,rfl,ho0,hb⟩;refine⟨_,rfl,?_⟩;have HO439:=mk0 (Kd.R_lower ho0 (kZ HB.out));replace HB:=mk0 (kS HB.out hb);(try clear hb);(try clear ho0);obtain⟨Ao9,co9,eo9⟩:=Kd.R_slice HO439.out;subst eo9)|((with_reducible refine gate_callee (f:=9) rfl ?_);refine goesL_ (some 21) rfl rfl Try.func9 (by kernel_rfl) rfl #[.slice Ao9 t436.length co9,.int .i64 t437] rfl (by (try simp only [mA,mC,mN]);first|done|rfl|(simp only [List.length_drop,List.length_take];done)|(simp only [List.length_drop,List.length_take];rfl)) ?_;(with_reducible refine (spec_SparseOf.calls k _ _ t436 t437 t440 t441 t442 t443 t444 t445 t448 t449 t452 _ ?side1 ?side2 A5.out).mono ?_);(case side1=>exact kC (Kd.R_reads' HO439.out).2.2);(case side2=>exact (Kd.R_reads' HO439.out).2.1);rintro e w10 ⟨v446,v450,rfl,ho0,ho1,hb⟩;refine⟨_,rfl,?_⟩;replace HO439:=mk0 (bR HO439.out hb);have HO447:=mk0 (Kd.R_lower ho0 (kZ HB.out));have HO451:=mk0 (Kd.R_lower ho1 (kZ HB.out));replace HB:=mk0 (kS HB.out hb);(try clear hb);(try clear ho0);(try clear ho1))|((with_reducible refine gate_dst (N:=5) rfl ?_);(try (refine gate_guard (by rfl) ?_;dsimp only));refine box_event ?hg (N:=5) ?hd (cs:=#[.int .i64 0,.int .i64 0,.int .i64 0,.int .i64 0,.int .i64 0,.slice none 0 0,.int .i64 0,.slice none 0 0]) (t:=33) ?hr ?_;(case hd=>rfl);(case hg=>rfl);(case hr=>first|(go_simp;done)|(go_simp;rfl));intro gb453 hg w11 hbox hb;replace HO439:=mk0 (bR HO439.out hb);replace HO447:=mk0 (bR HO447.out hb);replace HO451:=mk0 (bR HO451.out hb);have BK453:=mk0 (hbox);have GW453:=mk0 ((by rw [hg];exact (kZ HB.out):w.heap.size ≤ gb453));have GE453:=mk0 ((by rw [hg];exact (kZ HB.out):w.heap.size ≤ gb453));replace HB:=mk0 (kS HB.out hb);clear hb hbox hg;obtain⟨hcz12_0,hcz12_1,hcz12_2,hcz12_3,hcz12_4,hcz12_5,hcz12_6,hcz12_7,hfz12_0,hfz12_1,hfz12_2,hfz12_3,hfz12_4,hfz12_5,hfz12_6,hfz12_7⟩:=cz8 BK453.out;obtain⟨Ao13,co13,eo13⟩:=Kd.R_slice HO447.out;subst eo13;obtain⟨Ao14,co14,eo14⟩:=Kd.R_slice HO451.out;subst eo14)|((with_reducible refine gate_callee (f:=10) rfl ?_);refine goesL_ (some 27) rfl rfl Try.func10 (by kernel_rfl) rfl #[.slice Ao9 t436.length co9,.int .i64 t437] rfl (by (try simp only [mA,mC,mN]);first|done|rfl|(simp only [List.length_drop,List.length_take];done)|(simp only [List.length_drop,List.length_take];rfl)) ?_;(with_reducible refine (impl_SparseOf.calls k _ _ t436 t437 t454 t455 t456 t457 t458 t459 t462 t463 t466 _ ?side1 ?side2 A6.out).mono ?_);(case side1=>refine (Kd.R_reads' (e:=3) (base:=w.heap.size) (ok:=fun k_=>True) (n:=t436.length) (c:=co9) ?_).2.2;exact (by (with_reducible repeat (first|apply aR|apply nR|apply dR));exact (Kd.R_mono (Kd.R_far (p:=⟨gb453,7,none⟩) (Kd.R_far (p:=⟨gb453,6,none⟩) (Kd.R_far (p:=⟨gb453,5,none⟩) (Kd.R_far (p:=⟨gb453,4,none⟩) (Kd.R_far (p:=⟨gb453,3,none⟩) (Kd.R_far (p:=⟨gb453,2,none⟩) (Kd.R_far (p:=⟨gb453,1,none⟩) (Kd.R_far (p:=⟨gb453,0,none⟩) (Kd.R_types HO439.out BK453.out (by decide)) (fun _ hk=>hk.2) (.int .i64 t440)) (fun _ hk=>hk.2) (.int .i64 t441)) (fun _ hk=>hk.2) (.int .i64 t442)) (fun _ hk=>hk.2) (.int .i64 t443)) (fun _ hk=>hk.2) (.int .i64 t444)) (fun _ hk=>hk.2) (.slice Ao13 t445.length co13)) (fun _ hk=>hk.2) (.int .i64 t448)) (fun _ hk=>hk.2) (.slice Ao14 t449.length co14)) (fun _ h_=>h_.1))));(case side2=>exact (Kd.R_reads' HO439.out).2.1);rintro e w15 ⟨v460,v464,rfl,ho0,ho1,hb⟩;refine⟨_,rfl,?_⟩;replace HO439:=mk0 (Kd.R_below (by (with_reducible repeat (first|apply aR|apply nR|apply dR));exact (Kd.R_mono (Kd.R_far (p:=⟨gb453,7,none⟩) (Kd.R_far (p:=⟨gb453,6,none⟩) (Kd.R_far (p:=⟨gb453,5,none⟩) (Kd.R_far (p:=⟨gb453,4,none⟩) (Kd.R_far (p:=⟨gb453,3,none⟩) (Kd.R_far (p:=⟨gb453,2,none⟩) (Kd.R_far (p:=⟨gb453,1,none⟩) (Kd.R_far (p:=⟨gb453,0,none⟩) (Kd.R_types HO439.out BK453.out (by decide)) (fun _ hk=>hk.2) (.int .i64 t440)) (fun _ hk=>hk.2) (.int .i64 t441)) (fun _ hk=>hk.2) (.int .i64 t442)) (fun _ hk=>hk.2) (.int .i64 t443)) (fun _ hk=>hk.2) (.int .i64 t444)) (fun _ hk=>hk.2) (.slice Ao13 t445.length co13)) (fun _ hk=>hk.2) (.int .i64 t448)) (fun _ hk=>hk.2) (.slice Ao14 t449.length co14)) (fun _ h_=>h_.1))) hb);have HO461:=mk0 (Kd.R_lower (Kd.R_new' (Kd.R_new' ho0 (Kd.R_lt (by (with_reducible repeat (first|apply aR|apply nR|apply dR));exact (Kd.R_mono (Kd.R_far (p:=⟨gb453,7,none⟩) (Kd.R_far (p:=⟨gb453,6,none⟩) (Kd.R_far (p:=⟨gb453,5,none⟩) (Kd.R_far (p:=⟨gb453,4,none⟩) (Kd.R_far (p:=⟨gb453,3,none⟩) (Kd.R_far (p:=⟨gb453,2,none⟩) (Kd.R_far (p:=⟨gb453,1,none⟩) (Kd.R_far (p:=⟨gb453,0,none⟩) (Kd.R_types HO447.out BK453.out (by decide)) (fun _ hk=>hk.2) (.int .i64 t440)) (fun _ hk=>hk.2) (.int .i64 t441)) (fun _ hk=>hk.2) (.int .i64 t442)) (fun _ hk=>hk.2) (.int .i64 t443)) (fun _ hk=>hk.2) (.int .i64 t444)) (fun _ hk=>hk.2) (.slice Ao13 t445.length co13)) (fun _ hk=>hk.2) (.int .i64 t448)) (fun _ hk=>hk.2) (.slice Ao14 t449.length co14)) (fun _ h_=>h_.1))))) (Kd.R_lt (by (with_reducible repeat (first|apply aR|apply nR|apply dR));exact (Kd.R_mono (Kd.R_far (p:=⟨gb453,7,none⟩) (Kd.R_far (p:=⟨gb453,6,none⟩) (Kd.R_far (p:=⟨gb453,5,none⟩) (Kd.R_far (p:=⟨gb453,4,none⟩) (Kd.R_far (p:=⟨gb453,3,none⟩) (Kd.R_far (p:=⟨gb453,2,none⟩) (Kd.R_far (p:=⟨gb453,1,none⟩) (Kd.R_far (p:=⟨gb453,0,none⟩) (Kd.R_types HO451.out BK453.out (by decide)) (fun _ hk=>hk.2) (.int .i64 t440)) (fun _ hk=>hk.2) (.int .i64 t441)) (fun _ hk=>hk.2) (.int .i64 t442)) (fun _ hk=>hk.2) (.int .i64 t443)) (fun _ hk=>hk.2) (.int .i64 t444)) (fun _ hk=>hk.2) (.slice Ao13 t445.length co13)) (fun _ hk=>hk.2) (.int .i64 t448)) (fun _ hk=>hk.2) (.slice Ao14 t449.length co14)) (fun _ h_=>h_.1))))) (kZ HB.out));have HO465:=mk0 (Kd.R_lower (Kd.R_new' (Kd.R_new' ho1 (Kd.R_lt (by (with_reducible repeat (first|apply aR|apply nR|apply dR));exact (Kd.R_mono (Kd.R_far (p:=⟨gb453,7,none⟩) (Kd.R_far (p:=⟨gb453,6,none⟩) (Kd.R_far (p:=⟨gb453,5,none⟩) (Kd.R_far (p:=⟨gb453,4,none⟩) (Kd.R_far (p:=⟨gb453,3,none⟩) (Kd.R_far (p:=⟨gb453,2,none⟩) (Kd.R_far (p:=⟨gb453,1,none⟩) (Kd.R_far (p:=⟨gb453,0,none⟩) (Kd.R_types HO447.out BK453.out (by decide)) (fun _ hk=>hk.2) (.int .i64 t440)) (fun _ hk=>hk.2) (.int .i64 t441)) (fun _ hk=>hk.2) (.int .i64 t442)) (fun _ hk=>hk.2) (.int .i64 t443)) (fun _ hk=>hk.2) (.int .i64 t444)) (fun _ hk=>hk.2) (.slice Ao13 t445.length co13)) (fun _ hk=>hk.2) (.int .i64 t448)) (fun _ hk=>hk.2) (.slice Ao14 t449.length co14)) (fun _ h_=>h_.1))))) (Kd.R_lt (by (with_reducible repeat (first|apply aR|apply nR|apply dR));exact (Kd.R_mono (Kd.R_far (p:=⟨gb453,7,none⟩) (Kd.R_far (p:=⟨gb453,6,none⟩) (Kd.R_far (p:=⟨gb453,5,none⟩) (Kd.R_far (p:=⟨gb453,4,none⟩) (Kd.R_far (p:=⟨gb453,3,none⟩) (Kd.R_far (p:=⟨gb453,2,none⟩) (Kd.R_far (p:=⟨gb453,1,none⟩) (Kd.R_far (p:=⟨gb453,0,none⟩) (Kd.R_types HO451.out BK453.out (by decide)) (fun _ hk=>hk.2) (.int .i64 t440)) (fun _ hk=>hk.2) (.int .i64 t441)) (fun _ hk=>hk.2) (.int .i64 t442)) (fun _ hk=>hk.2) (.int .i64 t443)) (fun _ hk=>hk.2) (.int .i64 t444)) (fun _ hk=>hk.2) (.slice Ao13 t445.length co13)) (fun _ hk=>hk.2) (.int .i64 t448)) (fun _ hk=>hk.2) (.slice Ao14 t449.length co14)) (fun _ h_=>h_.1))))) (kZ HB.out));replace HO447:=mk0 (Kd.R_mono (Kd.R_told (Kd.R_told (Kd.R_old (by (with_reducible repeat (first|apply aR|apply nR|apply dR));exact (Kd.R_mono (Kd.R_far (p:=⟨gb453,7,none⟩) (Kd.R_far (p:=⟨gb453,6,none⟩) (Kd.R_far (p:=⟨gb453,5,none⟩) (Kd.R_far (p:=⟨gb453,4,none⟩) (Kd.R_far (p:=⟨gb453,3,none⟩) (Kd.R_far (p:=⟨gb453,2,none⟩) (Kd.R_far (p:=⟨gb453,1,none⟩) (Kd.R_far (p:=⟨gb453,0,none⟩) (Kd.R_types HO447.out BK453.out (by decide)) (fun _ hk=>hk.2) (.int .i64 t440)) (fun _ hk=>hk.2) (.int .i64 t441)) (fun _ hk=>hk.2) (.int .i64 t442)) (fun _ hk=>hk.2) (.int .i64 t443)) (fun _ hk=>hk.2) (.int .i64 t444)) (fun _ hk=>hk.2) (.slice Ao13 t445.length co13)) (fun _ hk=>hk.2) (.int .i64 t448)) (fun _ hk=>hk.2) (.slice Ao14 t449.length co14)) (fun _ h_=>h_.1))) hb) (Kd.R_base ho0)) (Kd.R_base ho1)) (fun _ h_=>h_.1));replace HO451:=mk0 (Kd.R_mono (Kd.R_told (Kd.R_told (Kd.R_old (by (with_reducible repeat (first|apply aR|apply nR|apply dR));exact (Kd.R_mono (Kd.R_far (p:=⟨gb453,7,none⟩) (Kd.R_far (p:=⟨gb453,6,none⟩) (Kd.R_far (p:=⟨gb453,5,none⟩) (Kd.R_far (p:=⟨gb453,4,none⟩) (Kd.R_far (p:=⟨gb453,3,none⟩) (Kd.R_far (p:=⟨gb453,2,none⟩) (Kd.R_far (p:=⟨gb453,1,none⟩) (Kd.R_far (p:=⟨gb453,0,none⟩) (Kd.R_types HO451.out BK453.out (by decide)) (fun _ hk=>hk.2) (.int .i64 t440)) (fun _ hk=>hk.2) (.int .i64 t441)) (fun _ hk=>hk.2) (.int .i64 t442)) (fun _ hk=>hk.2) (.int .i64 t443)) (fun _ hk=>hk.2) (.int .i64 t444)) (fun _ hk=>hk.2) (.slice Ao13 t445.length co13)) (fun _ hk=>hk.2) (.int .i64 t448)) (fun _ hk=>hk.2) (.slice Ao14 t449.length co14)) (fun _ h_=>h_.1))) hb) (Kd.R_base ho0)) (Kd.R_base ho1)) (fun _ h_=>h_.1));replace BK453:=mk0 (blk_below (g:=gb453) (o:=.cells #[.int .i64 t440,.int .i64 t441,.int .i64 t442,.int .i64 t443,.int .i64 t444,.slice Ao13 t445.length co13,.int .i64 t448,.slice Ao14 t449.length co14] 33 (0,0)) (by (with_reducible repeat (first|apply nB|apply dB|apply aB));refine blk_put (cs:=#[.int .i64 t440,.int .i64 t441,.int .i64 t442,.int .i64 t443,.int .i64 t444,.slice Ao13 t445.length co13,.int .i64 t448,.slice none 0 0]) ?_ 7 _ rfl;(with_reducible repeat (first|apply nB|apply dB|apply aB));refine blk_put (cs:=#[.int .i64 t440,.int .i64 t441,.int .i64 t442,.int .i64 t443,.int .i64 t444,.slice Ao13 t445.length co13,.int .i64 0,.slice none 0 0]) ?_ 6 _ rfl;(with_reducible repeat (first|apply nB|apply dB|apply aB));refine blk_put (cs:=#[.int .i64 t440,.int .i64 t441,.int .i64 t442,.int .i64 t443,.int .i64 t444,.slice none 0 0,.int .i64 0,.slice none 0 0]) ?_ 5 _ rfl;(with_reducible repeat (first|apply nB|apply dB|apply aB));refine blk_put (cs:=#[.int .i64 t440,.int .i64 t441,.int .i64 t442,.int .i64 t443,.int .i64 0,.slice none 0 0,.int .i64 0,.slice none 0 0]) ?_ 4 _ rfl;(with_reducible repeat (first|apply nB|apply dB|apply aB));refine blk_put (cs:=#[.int .i64 t440,.int .i64 t441,.int .i64 t442,.int .i64 0,.int .i64 0,.slice none 0 0,.int .i64 0,.slice none 0 0]) ?_ 3 _ rfl;(with_reducible repeat (first|apply nB|apply dB|apply aB));refine blk_put (cs:=#[.int .i64 t440,.int .i64 t441,.int .i64 0,.int .i64 0,.int .i64 0,.slice none 0 0,.int .i64 0,.slice none 0 0]) ?_ 2 _ rfl;(with_reducible repeat (first|apply nB|apply dB|apply aB));refine blk_put (cs:=#[.int .i64 t440,.int .i64 0,.int .i64 0,.int .i64 0,.int .i64 0,.slice none 0 0,.int .i64 0,.slice none 0 0]) ?_ 1 _ rfl;(with_reducible repeat (first|apply nB|apply dB|apply aB));refine blk_put (cs:=#[.int .i64 0,.int .i64 0,.int .i64 0,.int .i64 0,.int .i64 0,.slice none 0 0,.int .i64 0,.slice none 0 0]) ?_ 0 _ rfl;(with_reducible repeat (first|apply nB|apply dB|apply aB));exact BK453.out) hb);replace HB:=mk0 (kS HB.out hb);(try clear hb);(try clear hb2);(try clear hk);(try clear hi);(try clear ho0);(try clear ho1))|((with_reducible refine gate_dst (N:=7) rfl ?_);(try (refine gate_guard (by rfl) ?_;dsimp only));refine box_event ?hg (N:=7) ?hd (cs:=#[.int .i64 0,.int .i64 0,.int .i64 0,.int .i64 0,.int .i64 0,.slice none 0 0,.int .i64 0,.slice none 0 0]) (t:=33) ?hr ?_;(case hd=>rfl);(case hg=>rfl);(case hr=>first|(go_simp;done)|(go_simp;rfl));intro gb467 hg w16 hbox hb;replace HO439:=mk0 (bR HO439.out hb);replace HO447:=mk0 (bR HO447.out hb);replace HO451:=mk0 (bR HO451.out hb);replace HO461:=mk0 (bR HO461.out hb);replace HO465:=mk0 (bR HO465.out hb);have BK467:=mk0 (hbox);have GW467:=mk0 ((by rw [hg];exact (kZ HB.out):w.heap.size ≤ gb467));have GE467:=mk0 ((by rw [hg];exact (kZ HB.out):w.heap.size ≤ gb467));replace HB:=mk0 (kS HB.out hb);have NB453_467:=mk0 ((by rw [hg];exact Nat.ne_of_lt (kL BK453.out):gb453 ≠ gb467));have NB467_453:=mk0 ((by rw [hg];exact Nat.ne_of_gt (kL BK453.out):gb467 ≠ gb453));replace BK453:=mk0 (kK BK453.out hb);clear hb hbox hg;have hnb17:=NB467_453.out;have hnc17:=NB453_467.out;obtain⟨hcz18_0,hcz18_1,hcz18_2,hcz18_3,hcz18_4,hcz18_5,hcz18_6,hcz18_7,hfz18_0,hfz18_1,hfz18_2,hfz18_3,hfz18_4,hfz18_5,hfz18_6,hfz18_7⟩:=cz8 BK467.out;obtain⟨Ao19,co19,eo19⟩:=Kd.R_slice HO461.out;subst eo19;obtain⟨Ao20,co20,eo20⟩:=Kd.R_slice HO465.out;subst eo20))
 (try simp only [Act.put,sA,sO,sS])
 go_cut [36] (fun v36 wc=>∃ (kq:Nat) (x36_6:Bool),v36 = .bool x36_6 ∧ Aside0 (laws_FnSparse.j0 kq t436 t437 t452 t466 x36_6 t454 t455 t456 t457 t458 t459 t462 t463 = some r) ∧ Aside0 (kq ≤ k) ∧ Aside0 (Kd.R (Kd.int .i64) 3 wc w.heap.size (fun _=>True) (.slice Ao9 t436.length co9) t436) ∧ Aside0 (Kd.R (Kd.int .u64) 78 wc w.heap.size (fun k_=>some k_ ≠ ((.slice Ao14 t449.length co14):Value).ownBlock ∧ some k_ ≠ ((.slice Ao19 t459.length co19):Value).ownBlock ∧ some k_ ≠ ((.slice Ao20 t463.length co20):Value).ownBlock) (.slice Ao13 t445.length co13) t445) ∧ Aside0 (Kd.R (Kd.int .u64) 78 wc w.heap.size (fun k_=>some k_ ≠ ((.slice Ao13 t445.length co13):Value).ownBlock ∧ some k_ ≠ ((.slice Ao19 t459.length co19):Value).ownBlock ∧ some k_ ≠ ((.slice Ao20 t463.length co20):Value).ownBlock) (.slice Ao14 t449.length co14) t449) ∧ Aside0 (Kd.R (Kd.int .u64) 78 wc w.heap.size (fun k_=>some k_ ≠ ((.slice Ao13 t445.length co13):Value).ownBlock ∧ some k_ ≠ ((.slice Ao14 t449.length co14):Value).ownBlock ∧ some k_ ≠ ((.slice Ao20 t463.length co20):Value).ownBlock) (.slice Ao19 t459.length co19) t459) ∧ Aside0 (Kd.R (Kd.int .u64) 78 wc w.heap.size (fun k_=>some k_ ≠ ((.slice Ao13 t445.length co13):Value).ownBlock ∧ some k_ ≠ ((.slice Ao14 t449.length co14):Value).ownBlock ∧ some k_ ≠ ((.slice Ao19 t459.length co19):Value).ownBlock) (.slice Ao20 t463.length co20) t463) ∧ Aside0 (wc.heap[gb453]? = some (.cells #[.int .i64 t440,.int .i64 t441,.int .i64 t442,.int .i64 t443,.int .i64 t444,(.slice Ao13 t445.length co13),.int .i64 t448,(.slice Ao14 t449.length co14)] 33 (0,0))) ∧ Aside0 (wc.heap[gb467]? = some (.cells #[.int .i64 t454,.int .i64 t455,.int .i64 t456,.int .i64 t457,.int .i64 t458,(.slice Ao19 t459.length co19),.int .i64 t462,(.slice Ao20 t463.length co20)] 33 (0,0))) ∧ Aside0 (Below w.heap.size w wc))
 case first =>
  have H:=HC7.out
  clear HC7
  by_cases c21:(t466 != t452) = true
  rotate_left
  ·rw [if_neg c21] at H
   have c21b0:(t466 != t452) = false:=by simpa using c21
   (try (have c21b1:decide (t466 = t452) = true:=by simpa using c21))
   (try (have c21b2:(t466 == t452) = true:=by simpa using c21))
   clear c21
   (first|rw [c21b0]|(simp only [i64_w,i32_w];rw [c21b0])|skip)
   have H':=mk0 H
   clear H
   go_wp2
   go_meet
   case rel=>exact⟨_,(!t466),(by first|rfl|(simp;done)|(simp [*];done)),H',⟨by first|omega|exact Nat.le_refl _⟩,⟨by (with_reducible repeat (first|apply aR|apply nR|apply dR));exact Kd.R_mono (Kd.R_far (p:=⟨gb467,7,none⟩) (Kd.R_far (p:=⟨gb467,6,none⟩) (Kd.R_far (p:=⟨gb467,5,none⟩) (Kd.R_far (p:=⟨gb467,4,none⟩) (Kd.R_far (p:=⟨gb467,3,none⟩) (Kd.R_far (p:=⟨gb467,2,none⟩) (Kd.R_far (p:=⟨gb467,1,none⟩) (Kd.R_far (p:=⟨gb467,0,none⟩) (Kd.R_types HO439.out BK467.out (by decide)) (fun _ hk=>hk.2) (.int .i64 t454)) (fun _ hk=>hk.2) (.int .i64 t455)) (fun _ hk=>hk.2) (.int .i64 t456)) (fun _ hk=>hk.2) (.int .i64 t457)) (fun _ hk=>hk.2) (.int .i64 t458)) (fun _ hk=>hk.2) (.slice Ao19 t459.length co19)) (fun _ hk=>hk.2) (.int .i64 t462)) (fun _ hk=>hk.2) (.slice Ao20 t463.length co20)) (fun _ hk=>trivial)⟩,⟨by (with_reducible repeat (first|apply aR|apply nR|apply dR));exact Kd.R_mono (Kd.R_far (p:=⟨gb467,7,none⟩) (Kd.R_far (p:=⟨gb467,6,none⟩) (Kd.R_far (p:=⟨gb467,5,none⟩) (Kd.R_far (p:=⟨gb467,4,none⟩) (Kd.R_far (p:=⟨gb467,3,none⟩) (Kd.R_far (p:=⟨gb467,2,none⟩) (Kd.R_far (p:=⟨gb467,1,none⟩) (Kd.R_far (p:=⟨gb467,0,none⟩) (Kd.R_types HO447.out BK467.out (by decide)) (fun _ hk=>hk.2) (.int .i64 t454)) (fun _ hk=>hk.2) (.int .i64 t455)) (fun _ hk=>hk.2) (.int .i64 t456)) (fun _ hk=>hk.2) (.int .i64 t457)) (fun _ hk=>hk.2) (.int .i64 t458)) (fun _ hk=>hk.2) (.slice Ao19 t459.length co19)) (fun _ hk=>hk.2) (.int .i64 t462)) (fun _ hk=>hk.2) (.slice Ao20 t463.length co20)) (fun _ hk=>⟨hk.1.1.1,⟨hk.1.1.2,hk.1.2⟩⟩)⟩,⟨by (with_reducible repeat (first|apply aR|apply nR|apply dR));exact Kd.R_mono (Kd.R_far (p:=⟨gb467,7,none⟩) (Kd.R_far (p:=⟨gb467,6,none⟩) (Kd.R_far (p:=⟨gb467,5,none⟩) (Kd.R_far (p:=⟨gb467,4,none⟩) (Kd.R_far (p:=⟨gb467,3,none⟩) (Kd.R_far (p:=⟨gb467,2,none⟩) (Kd.R_far (p:=⟨gb467,1,none⟩) (Kd.R_far (p:=⟨gb467,0,none⟩) (Kd.R_types HO451.out BK467.out (by decide)) (fun _ hk=>hk.2) (.int .i64 t454)) (fun _ hk=>hk.2) (.int .i64 t455)) (fun _ hk=>hk.2) (.int .i64 t456)) (fun _ hk=>hk.2) (.int .i64 t457)) (fun _ hk=>hk.2) (.int .i64 t458)) (fun _ hk=>hk.2) (.slice Ao19 t459.length co19)) (fun _ hk=>hk.2) (.int .i64 t462)) (fun _ hk=>hk.2) (.slice Ao20 t463.length co20)) (fun _ hk=>⟨hk.1.1.1,⟨hk.1.1.2,hk.1.2⟩⟩)⟩,⟨by (with_reducible repeat (first|apply aR|apply nR|apply dR));exact Kd.R_mono (Kd.R_far (p:=⟨gb467,7,none⟩) (Kd.R_far (p:=⟨gb467,6,none⟩) (Kd.R_far (p:=⟨gb467,5,none⟩) (Kd.R_far (p:=⟨gb467,4,none⟩) (Kd.R_far (p:=⟨gb467,3,none⟩) (Kd.R_far (p:=⟨gb467,2,none⟩) (Kd.R_far (p:=⟨gb467,1,none⟩) (Kd.R_far (p:=⟨gb467,0,none⟩) (Kd.R_types HO461.out BK467.out (by decide)) (fun _ hk=>hk.2) (.int .i64 t454)) (fun _ hk=>hk.2) (.int .i64 t455)) (fun _ hk=>hk.2) (.int .i64 t456)) (fun _ hk=>hk.2) (.int .i64 t457)) (fun _ hk=>hk.2) (.int .i64 t458)) (fun _ hk=>hk.2) (.slice Ao19 t459.length co19)) (fun _ hk=>hk.2) (.int .i64 t462)) (fun _ hk=>hk.2) (.slice Ao20 t463.length co20)) (fun _ hk=>⟨hk.1.1.2,⟨hk.1.2,hk.1.1.1⟩⟩)⟩,⟨by (with_reducible repeat (first|apply aR|apply nR|apply dR));exact Kd.R_mono (Kd.R_far (p:=⟨gb467,7,none⟩) (Kd.R_far (p:=⟨gb467,6,none⟩) (Kd.R_far (p:=⟨gb467,5,none⟩) (Kd.R_far (p:=⟨gb467,4,none⟩) (Kd.R_far (p:=⟨gb467,3,none⟩) (Kd.R_far (p:=⟨gb467,2,none⟩) (Kd.R_far (p:=⟨gb467,1,none⟩) (Kd.R_far (p:=⟨gb467,0,none⟩) (Kd.R_types HO465.out BK467.out (by decide)) (fun _ hk=>hk.2) (.int .i64 t454)) (fun _ hk=>hk.2) (.int .i64 t455)) (fun _ hk=>hk.2) (.int .i64 t456)) (fun _ hk=>hk.2) (.int .i64 t457)) (fun _ hk=>hk.2) (.int .i64 t458)) (fun _ hk=>hk.2) (.slice Ao19 t459.length co19)) (fun _ hk=>hk.2) (.int .i64 t462)) (fun _ hk=>hk.2) (.slice Ao20 t463.length co20)) (fun _ hk=>⟨hk.1.1.2,⟨hk.1.2,hk.1.1.1⟩⟩)⟩,⟨by (with_reducible repeat (first|apply nB|apply dB|apply aB));refine blk_far ?_ NB453_467.out _;(with_reducible repeat (first|apply nB|apply dB|apply aB));refine blk_far ?_ NB453_467.out _;(with_reducible repeat (first|apply nB|apply dB|apply aB));refine blk_far ?_ NB453_467.out _;(with_reducible repeat (first|apply nB|apply dB|apply aB));refine blk_far ?_ NB453_467.out _;(with_reducible repeat (first|apply nB|apply dB|apply aB));refine blk_far ?_ NB453_467.out _;(with_reducible repeat (first|apply nB|apply dB|apply aB));refine blk_far ?_ NB453_467.out _;(with_reducible repeat (first|apply nB|apply dB|apply aB));refine blk_far ?_ NB453_467.out _;(with_reducible repeat (first|apply nB|apply dB|apply aB));refine blk_far ?_ NB453_467.out _;(with_reducible repeat (first|apply nB|apply dB|apply aB));exact BK453.out⟩,⟨by (with_reducible repeat (first|apply nB|apply dB|apply aB));refine blk_put (cs:=#[.int .i64 t454,.int .i64 t455,.int .i64 t456,.int .i64 t457,.int .i64 t458,.slice Ao19 t459.length co19,.int .i64 t462,.slice none 0 0]) ?_ 7 _ rfl;(with_reducible repeat (first|apply nB|apply dB|apply aB));refine blk_put (cs:=#[.int .i64 t454,.int .i64 t455,.int .i64 t456,.int .i64 t457,.int .i64 t458,.slice Ao19 t459.length co19,.int .i64 0,.slice none 0 0]) ?_ 6 _ rfl;(with_reducible repeat (first|apply nB|apply dB|apply aB));refine blk_put (cs:=#[.int .i64 t454,.int .i64 t455,.int .i64 t456,.int .i64 t457,.int .i64 t458,.slice none 0 0,.int .i64 0,.slice none 0 0]) ?_ 5 _ rfl;(with_reducible repeat (first|apply nB|apply dB|apply aB));refine blk_put (cs:=#[.int .i64 t454,.int .i64 t455,.int .i64 t456,.int .i64 t457,.int .i64 0,.slice none 0 0,.int .i64 0,.slice none 0 0]) ?_ 4 _ rfl;(with_reducible repeat (first|apply nB|apply dB|apply aB));refine blk_put (cs:=#[.int .i64 t454,.int .i64 t455,.int .i64 t456,.int .i64 0,.int .i64 0,.slice none 0 0,.int .i64 0,.slice none 0 0]) ?_ 3 _ rfl;(with_reducible repeat (first|apply nB|apply dB|apply aB));refine blk_put (cs:=#[.int .i64 t454,.int .i64 t455,.int .i64 0,.int .i64 0,.int .i64 0,.slice none 0 0,.int .i64 0,.slice none 0 0]) ?_ 2 _ rfl;(with_reducible repeat (first|apply nB|apply dB|apply aB));refine blk_put (cs:=#[.int .i64 t454,.int .i64 0,.int .i64 0,.int .i64 0,.int .i64 0,.slice none 0 0,.int .i64 0,.slice none 0 0]) ?_ 1 _ rfl;(with_reducible repeat (first|apply nB|apply dB|apply aB));refine blk_put (cs:=#[.int .i64 0,.int .i64 0,.int .i64 0,.int .i64 0,.int .i64 0,.slice none 0 0,.int .i64 0,.slice none 0 0]) ?_ 0 _ rfl;(with_reducible repeat (first|apply nB|apply dB|apply aB));exact BK467.out⟩,⟨kB HB.out⟩⟩
  rw [if_pos c21] at H
  have c21b0:(t466 != t452) = true:=c21
  (try (have c21b1:decide (t466 = t452) = false:=by simpa using c21))
  (try (have c21b2:(t466 == t452) = false:=by simpa using c21))
  (try (have c21b3:¬ (t466 = t452):=by simpa using c21))
  clear c21
  (first|rw [c21b0]|(simp only [i64_w,i32_w];rw [c21b0])|skip)
  have H':=mk0 H
  clear H
  go_wp2
  go_meet
  case rel=>exact⟨_,(true),(by first|rfl|(simp;done)|(simp [*];done)),H',⟨by first|omega|exact Nat.le_refl _⟩,⟨by (with_reducible repeat (first|apply aR|apply nR|apply dR));exact Kd.R_mono (Kd.R_far (p:=⟨gb467,7,none⟩) (Kd.R_far (p:=⟨gb467,6,none⟩) (Kd.R_far (p:=⟨gb467,5,none⟩) (Kd.R_far (p:=⟨gb467,4,none⟩) (Kd.R_far (p:=⟨gb467,3,none⟩) (Kd.R_far (p:=⟨gb467,2,none⟩) (Kd.R_far (p:=⟨gb467,1,none⟩) (Kd.R_far (p:=⟨gb467,0,none⟩) (Kd.R_types HO439.out BK467.out (by decide)) (fun _ hk=>hk.2) (.int .i64 t454)) (fun _ hk=>hk.2) (.int .i64 t455)) (fun _ hk=>hk.2) (.int .i64 t456)) (fun _ hk=>hk.2) (.int .i64 t457)) (fun _ hk=>hk.2) (.int .i64 t458)) (fun _ hk=>hk.2) (.slice Ao19 t459.length co19)) (fun _ hk=>hk.2) (.int .i64 t462)) (fun _ hk=>hk.2) (.slice Ao20 t463.length co20)) (fun _ hk=>trivial)⟩,⟨by (with_reducible repeat (first|apply aR|apply nR|apply dR));exact Kd.R_mono (Kd.R_far (p:=⟨gb467,7,none⟩) (Kd.R_far (p:=⟨gb467,6,none⟩) (Kd.R_far (p:=⟨gb467,5,none⟩) (Kd.R_far (p:=⟨gb467,4,none⟩) (Kd.R_far (p:=⟨gb467,3,none⟩) (Kd.R_far (p:=⟨gb467,2,none⟩) (Kd.R_far (p:=⟨gb467,1,none⟩) (Kd.R_far (p:=⟨gb467,0,none⟩) (Kd.R_types HO447.out BK467.out (by decide)) (fun _ hk=>hk.2) (.int .i64 t454)) (fun _ hk=>hk.2) (.int .i64 t455)) (fun _ hk=>hk.2) (.int .i64 t456)) (fun _ hk=>hk.2) (.int .i64 t457)) (fun _ hk=>hk.2) (.int .i64 t458)) (fun _ hk=>hk.2) (.slice Ao19 t459.length co19)) (fun _ hk=>hk.2) (.int .i64 t462)) (fun _ hk=>hk.2) (.slice Ao20 t463.length co20)) (fun _ hk=>⟨hk.1.1.1,⟨hk.1.1.2,hk.1.2⟩⟩)⟩,⟨by (with_reducible repeat (first|apply aR|apply nR|apply dR));exact Kd.R_mono (Kd.R_far (p:=⟨gb467,7,none⟩) (Kd.R_far (p:=⟨gb467,6,none⟩) (Kd.R_far (p:=⟨gb467,5,none⟩) (Kd.R_far (p:=⟨gb467,4,none⟩) (Kd.R_far (p:=⟨gb467,3,none⟩) (Kd.R_far (p:=⟨gb467,2,none⟩) (Kd.R_far (p:=⟨gb467,1,none⟩) (Kd.R_far (p:=⟨gb467,0,none⟩) (Kd.R_types HO451.out BK467.out (by decide)) (fun _ hk=>hk.2) (.int .i64 t454)) (fun _ hk=>hk.2) (.int .i64 t455)) (fun _ hk=>hk.2) (.int .i64 t456)) (fun _ hk=>hk.2) (.int .i64 t457)) (fun _ hk=>hk.2) (.int .i64 t458)) (fun _ hk=>hk.2) (.slice Ao19 t459.length co19)) (fun _ hk=>hk.2) (.int .i64 t462)) (fun _ hk=>hk.2) (.slice Ao20 t463.length co20)) (fun _ hk=>⟨hk.1.1.1,⟨hk.1.1.2,hk.1.2⟩⟩)⟩,⟨by (with_reducible repeat (first|apply aR|apply nR|apply dR));exact Kd.R_mono (Kd.R_far (p:=⟨gb467,7,none⟩) (Kd.R_far (p:=⟨gb467,6,none⟩) (Kd.R_far (p:=⟨gb467,5,none⟩) (Kd.R_far (p:=⟨gb467,4,none⟩) (Kd.R_far (p:=⟨gb467,3,none⟩) (Kd.R_far (p:=⟨gb467,2,none⟩) (Kd.R_far (p:=⟨gb467,1,none⟩) (Kd.R_far (p:=⟨gb467,0,none⟩) (Kd.R_types HO461.out BK467.out (by decide)) (fun _ hk=>hk.2) (.int .i64 t454)) (fun _ hk=>hk.2) (.int .i64 t455)) (fun _ hk=>hk.2) (.int .i64 t456)) (fun _ hk=>hk.2) (.int .i64 t457)) (fun _ hk=>hk.2) (.int .i64 t458)) (fun _ hk=>hk.2) (.slice Ao19 t459.length co19)) (fun _ hk=>hk.2) (.int .i64 t462)) (fun _ hk=>hk.2) (.slice Ao20 t463.length co20)) (fun _ hk=>⟨hk.1.1.2,⟨hk.1.2,hk.1.1.1⟩⟩)⟩,⟨by (with_reducible repeat (first|apply aR|apply nR|apply dR));exact Kd.R_mono (Kd.R_far (p:=⟨gb467,7,none⟩) (Kd.R_far (p:=⟨gb467,6,none⟩) (Kd.R_far (p:=⟨gb467,5,none⟩) (Kd.R_far (p:=⟨gb467,4,none⟩) (Kd.R_far (p:=⟨gb467,3,none⟩) (Kd.R_far (p:=⟨gb467,2,none⟩) (Kd.R_far (p:=⟨gb467,1,none⟩) (Kd.R_far (p:=⟨gb467,0,none⟩) (Kd.R_types HO465.out BK467.out (by decide)) (fun _ hk=>hk.2) (.int .i64 t454)) (fun _ hk=>hk.2) (.int .i64 t455)) (fun _ hk=>hk.2) (.int .i64 t456)) (fun _ hk=>hk.2) (.int .i64 t457)) (fun _ hk=>hk.2) (.int .i64 t458)) (fun _ hk=>hk.2) (.slice Ao19 t459.length co19)) (fun _ hk=>hk.2) (.int .i64 t462)) (fun _ hk=>hk.2) (.slice Ao20 t463.length co20)) (fun _ hk=>⟨hk.1.1.2,⟨hk.1.2,hk.1.1.1⟩⟩)⟩,⟨by (with_reducible repeat (first|apply nB|apply dB|apply aB));refine blk_far ?_ NB453_467.out _;(with_reducible repeat (first|apply nB|apply dB|apply aB));refine blk_far ?_ NB453_467.out _;(with_reducible repeat (first|apply nB|apply dB|apply aB));refine blk_far ?_ NB453_467.out _;(with_reducible repeat (first|apply nB|apply dB|apply aB));refine blk_far ?_ NB453_467.out _;(with_reducible repeat (first|apply nB|apply dB|apply aB));refine blk_far ?_ NB453_467.out _;(with_reducible repeat (first|apply nB|apply dB|apply aB));refine blk_far ?_ NB453_467.out _;(with_reducible repeat (first|apply nB|apply dB|apply aB));refine blk_far ?_ NB453_467.out _;(with_reducible repeat (first|apply nB|apply dB|apply aB));refine blk_far ?_ NB453_467.out _;(with_reducible repeat (first|apply nB|apply dB|apply aB));exact BK453.out⟩,⟨by (with_reducible repeat (first|apply nB|apply dB|apply aB));refine blk_put (cs:=#[.int .i64 t454,.int .i64 t455,.int .i64 t456,.int .i64 t457,.int .i64 t458,.slice Ao19 t459.length co19,.int .i64 t462,.slice none 0 0]) ?_ 7 _ rfl;(with_reducible repeat (first|apply nB|apply dB|apply aB));refine blk_put (cs:=#[.int .i64 t454,.int .i64 t455,.int .i64 t456,.int .i64 t457,.int .i64 t458,.slice Ao19 t459.length co19,.int .i64 0,.slice none 0 0]) ?_ 6 _ rfl;(with_reducible repeat (first|apply nB|apply dB|apply aB));refine blk_put (cs:=#[.int .i64 t454,.int .i64 t455,.int .i64 t456,.int .i64 t457,.int .i64 t458,.slice none 0 0,.int .i64 0,.slice none 0 0]) ?_ 5 _ rfl;(with_reducible repeat (first|apply nB|apply dB|apply aB));refine blk_put (cs:=#[.int .i64 t454,.int .i64 t455,.int .i64 t456,.int .i64 t457,.int .i64 0,.slice none 0 0,.int .i64 0,.slice none 0 0]) ?_ 4 _ rfl;(with_reducible repeat (first|apply nB|apply dB|apply aB));refine blk_put (cs:=#[.int .i64 t454,.int .i64 t455,.int .i64 t456,.int .i64 0,.int .i64 0,.slice none 0 0,.int .i64 0,.slice none 0 0]) ?_ 3 _ rfl;(with_reducible repeat (first|apply nB|apply dB|apply aB));refine blk_put (cs:=#[.int .i64 t454,.int .i64 t455,.int .i64 0,.int .i64 0,.int .i64 0,.slice none 0 0,.int .i64 0,.slice none 0 0]) ?_ 2 _ rfl;(with_reducible repeat (first|apply nB|apply dB|apply aB));refine blk_put (cs:=#[.int .i64 t454,.int .i64 0,.int .i64 0,.int .i64 0,.int .i64 0,.slice none 0 0,.int .i64 0,.slice none 0 0]) ?_ 1 _ rfl;(with_reducible repeat (first|apply nB|apply dB|apply aB));refine blk_put (cs:=#[.int .i64 0,.int .i64 0,.int .i64 0,.int .i64 0,.int .i64 0,.slice none 0 0,.int .i64 0,.slice none 0 0]) ?_ 0 _ rfl;(with_reducible repeat (first|apply nB|apply dB|apply aB));exact BK467.out⟩,⟨kB HB.out⟩⟩
 case rest =>
  clear HC7
  try clear c1
  try clear c2
  try clear p2
  try clear c3
  try clear c7
  try clear c8
  try clear c9
  try clear c10
  try clear c17
  try clear c21
  try clear c21b0
  try clear c21b1
  try clear c21b2
  try clear hcz12_0
  try clear hcz12_1
  try clear hcz12_2
  try clear hcz12_3
  try clear hcz12_4
  try clear hcz12_5
  try clear hcz12_6
  try clear hcz12_7
  try clear hcz18_0
  try clear hcz18_1
  try clear hcz18_2
  try clear hcz18_3
  try clear hcz18_4
  try clear hcz18_5
  try clear hcz18_6
  try clear hcz18_7
  try clear hfz12_0
  try clear hfz12_1
  try clear hfz12_2
  try clear hfz12_3
  try clear hfz12_4
  try clear hfz12_5
  try clear hfz12_6
  try clear hfz12_7
  try clear hfz18_0
  try clear hfz18_1
  try clear hfz18_2
  try clear hfz18_3
  try clear hfz18_4
  try clear hfz18_5
  try clear hfz18_6
  try clear hfz18_7
  obtain⟨kq,x36_6,rfl,HA,HJ6,HO_3,HO_454005,HO_454007,HO_468005,HO_468007,BK453,BK467,HB⟩:=hcut
  cases kq with
  | zero=>exact absurd HA.out (by simp [laws_FnSparse.j0])
  | succ kj6 =>
   have H:=HA.out
   clear HA
   simp only [laws_FnSparse.j0] at H
   by_cases c22:x36_6 = true
   ·subst c22
    have H1:(some (t466 == t452)) = some r:=by rw [if_pos rfl] at H;exact H
    clear H
    have H:=H1
    clear H1
    obtain rfl:=Option.some.inj H
    go_wp2
    go_ret
    exact⟨by first|rfl|(simp [errW_none,errW_some] <;> rfl)|(simp [*,errW_none,errW_some] <;> rfl),kB HB.out⟩
   replace c22:=Bool.eq_false_iff.mpr c22
   subst c22
   have H1:((impl_SparseList.f kj6 t454 t455 t456 t457 t458 t459 t462 t463).bind fun t468=>((laws_same.f kj6 t468 t436).bind fun t471=>(if t471 = true then ((impl_SparseOk.f kj6 t454 t455 t456 t457 t458 t459 t462 t463).bind fun t472=>(if t472 = true then ((impl_SparseRank.f kj6 t454 t455 t456 t457 t458 t459 t462 t463 t437).bind fun t473=>(laws_FnSparse.j1 kj6 t436 (t473 != (t436.length:Int)) t454 t455 t456 t457 t458 t459 t462 t463)) else (laws_FnSparse.j1 kj6 t436 true t454 t455 t456 t457 t458 t459 t462 t463))) else (laws_FnSparse.j1 kj6 t436 true t454 t455 t456 t457 t458 t459 t462 t463)))) = some r:=by rw [if_neg (show ¬ (false = true) by decide)] at H;exact H
   clear H
   have H:=H1
   clear H1
   have HC23:=mk0 H
   clear H
   go_upto_region 8 with (fail)
   go_cut [57] (fun v57 wc=>∃ (kq:Nat) (x57_22:Bool),v57 = .bool x57_22 ∧ Aside0 (laws_FnSparse.j1 kq t436 x57_22 t454 t455 t456 t457 t458 t459 t462 t463 = some r) ∧ Aside0 (kq ≤ kj6) ∧ Aside0 (Kd.R (Kd.int .i64) 3 wc w.heap.size (fun _=>True) (.slice Ao9 t436.length co9) t436) ∧ Aside0 (Kd.R (Kd.int .u64) 78 wc w.heap.size (fun k_=>some k_ ≠ ((.slice Ao14 t449.length co14):Value).ownBlock ∧ some k_ ≠ ((.slice Ao19 t459.length co19):Value).ownBlock ∧ some k_ ≠ ((.slice Ao20 t463.length co20):Value).ownBlock) (.slice Ao13 t445.length co13) t445) ∧ Aside0 (Kd.R (Kd.int .u64) 78 wc w.heap.size (fun k_=>some k_ ≠ ((.slice Ao13 t445.length co13):Value).ownBlock ∧ some k_ ≠ ((.slice Ao19 t459.length co19):Value).ownBlock ∧ some k_ ≠ ((.slice Ao20 t463.length co20):Value).ownBlock) (.slice Ao14 t449.length co14) t449) ∧ Aside0 (Kd.R (Kd.int .u64) 78 wc w.heap.size (fun k_=>some k_ ≠ ((.slice Ao13 t445.length co13):Value).ownBlock ∧ some k_ ≠ ((.slice Ao14 t449.length co14):Value).ownBlock ∧ some k_ ≠ ((.slice Ao20 t463.length co20):Value).ownBlock) (.slice Ao19 t459.length co19) t459) ∧ Aside0 (Kd.R (Kd.int .u64) 78 wc w.heap.size (fun k_=>some k_ ≠ ((.slice Ao13 t445.length co13):Value).ownBlock ∧ some k_ ≠ ((.slice Ao14 t449.length co14):Value).ownBlock ∧ some k_ ≠ ((.slice Ao19 t459.length co19):Value).ownBlock) (.slice Ao20 t463.length co20) t463) ∧ Aside0 (wc.heap[gb453]? = some (.cells #[.int .i64 t440,.int .i64 t441,.int .i64 t442,.int .i64 t443,.int .i64 t444,(.slice Ao13 t445.length co13),.int .i64 t448,(.slice Ao14 t449.length co14)] 33 (0,0))) ∧ Aside0 (wc.heap[gb467]? = some (.cells #[.int .i64 t454,.int .i64 t455,.int .i64 t456,.int .i64 t457,.int .i64 t458,(.slice Ao19 t459.length co19),.int .i64 t462,(.slice Ao20 t463.length co20)] 33 (0,0))) ∧ Aside0 (Below w.heap.size w wc))
   case first =>
    have H:=HC23.out
    clear HC23
    replace H:=Option.bind_eq_some_iff.mp H
    obtain⟨t468,A240,H⟩:=H
    replace H:((laws_same.f kj6 t468 t436).bind fun t471=>(if t471 = true then ((impl_SparseOk.f kj6 t454 t455 t456 t457 t458 t459 t462 t463).bind fun t472=>(if t472 = true then ((impl_SparseRank.f kj6 t454 t455 t456 t457 t458 t459 t462 t463 t437).bind fun t473=>(laws_FnSparse.j1 kj6 t436 (t473 != (t436.length:Int)) t454 t455 t456 t457 t458 t459 t462 t463)) else (laws_FnSparse.j1 kj6 t436 true t454 t455 t456 t457 t458 t459 t462 t463))) else (laws_FnSparse.j1 kj6 t436 true t454 t455 t456 t457 t458 t459 t462 t463))) = some r:=H
    have A24:=mk0 A240
    clear A240
    replace H:=Option.bind_eq_some_iff.mp H
    obtain⟨t471,A250,H⟩:=H
    replace H:(if t471 = true then ((impl_SparseOk.f kj6 t454 t455 t456 t457 t458 t459 t462 t463).bind fun t472=>(if t472 = true then ((impl_SparseRank.f kj6 t454 t455 t456 t457 t458 t459 t462 t463 t437).bind fun t473=>(laws_FnSparse.j1 kj6 t436 (t473 != (t436.length:Int)) t454 t455 t456 t457 t458 t459 t462 t463)) else (laws_FnSparse.j1 kj6 t436 true t454 t455 t456 t457 t458 t459 t462 t463))) else (laws_FnSparse.j1 kj6 t436 true t454 t455 t456 t457 t458 t459 t462 t463)) = some r:=H
    have A25:=mk0 A250
    clear A250
    by_cases c26:t471 = true
    rotate_left
    ·replace c26:=Bool.eq_false_iff.mpr c26
     subst c26
     have H1:(laws_FnSparse.j1 kj6 t436 true t454 t455 t456 t457 t458 t459 t462 t463) = some r:=by rw [if_neg (show ¬ (false = true) by decide)] at H;exact H
     clear H
     have H:=H1
     clear H1
     have H':=mk0 H
     clear H
     have hnb44:=NB467_453.out
     have hnc44:=NB453_467.out
     obtain⟨hcz45_0,hcz45_1,hcz45_2,hcz45_3,hcz45_4,hcz45_5,hcz45_6,hcz45_7,hfz45_0,hfz45_1,hfz45_2,hfz45_3,hfz45_4,hfz45_5,hfz45_6,hfz45_7⟩:=cz8 BK467.out
     go_wp2_with (first|((with_reducible refine gate_callee (f:=12) rfl ?_);refine goesL_ (some 41) rfl rfl Try.func12 (by kernel_rfl) rfl #[.agg #[.int .i64 t454,.int .i64 t455,.int .i64 t456,.int .i64 t457,.int .i64 t458,.slice Ao19 t459.length co19,.int .i64 t462,.slice Ao20 t463.length co20]] rfl (by (try simp only [mA,mC,mN]);first|done|rfl|(simp only [List.length_drop,List.length_take];done)|(simp only [List.length_drop,List.length_take];rfl)) ?_;(with_reducible refine (impl_SparseList.calls kj6 t454 t455 t456 t457 t458 _ _ t459 t462 _ _ t463 t468 _ ?side1 ?side2 ?side3 ?side4 A24.out).mono ?_);(case side1=>exact kC (Kd.R_reads' HO_468005.out).2.2);(case side2=>exact (Kd.R_reads' HO_468005.out).2.1);(case side3=>exact kC (Kd.R_reads' HO_468007.out).2.2);(case side4=>exact (Kd.R_reads' HO_468007.out).2.1);rintro e w46 ⟨v469,rfl,ho0,hb⟩;refine⟨_,rfl,?_⟩;replace HO_454005:=mk0 (bR HO_454005.out hb);replace HO_454007:=mk0 (bR HO_454007.out hb);replace HO_468005:=mk0 (bR HO_468005.out hb);replace HO_468007:=mk0 (bR HO_468007.out hb);have HO470:=mk0 (Kd.R_lower (Kd.R_new' ho0 (Kd.R_lt (rR HO_3.out))) (kZ HB.out));replace HO_3:=mk0 (Kd.R_elder' (rR HO_3.out) (Kd.R_base ho0) hb);replace BK453:=mk0 (kK BK453.out hb);replace BK467:=mk0 (kK BK467.out hb);replace HB:=mk0 (kS HB.out hb);(try clear hb);(try clear ho0);obtain⟨Ao47,co47,eo47⟩:=Kd.R_slice HO470.out;subst eo47)|((with_reducible refine gate_callee (f:=11) rfl ?_);refine goesL_ (some 43) rfl rfl Try.func11 (by kernel_rfl) rfl #[.slice Ao47 t468.length co47,.slice Ao9 t436.length co9] rfl (by (try simp only [mA,mC,mN]);first|done|rfl|(simp only [List.length_drop,List.length_take];done)|(simp only [List.length_drop,List.length_take];rfl)) ?_;(with_reducible refine (laws_same.calls kj6 _ _ t468 _ _ t436 false _ ?side1 ?side2 ?side3 ?side4 A25.out).mono ?_);(case side1=>exact kC (Kd.R_reads' HO470.out).2.2);(case side2=>exact (Kd.R_reads' HO470.out).2.1);(case side3=>exact kC (Kd.R_reads' HO_3.out).2.2);(case side4=>exact (Kd.R_reads' HO_3.out).2.1);rintro e w' ⟨rfl,⟨nd,rfl⟩⟩;refine⟨_,rfl,?_⟩))
     go_meet
     case rel=>exact⟨_,(true),(by first|rfl|(simp;done)|(simp [*];done)),H',⟨by have:=HJ6.out;first|omega|exact Nat.le_refl _⟩,⟨rR (Kd.R_mono HO_3.out (fun _ hk=>trivial))⟩,⟨rR HO_454005.out⟩,⟨rR HO_454007.out⟩,⟨rR HO_468005.out⟩,⟨rR HO_468007.out⟩,⟨kN BK453.out⟩,⟨kN BK467.out⟩,⟨kB HB.out⟩⟩
    subst c26
    have H1:((impl_SparseOk.f kj6 t454 t455 t456 t457 t458 t459 t462 t463).bind fun t472=>(if t472 = true then ((impl_SparseRank.f kj6 t454 t455 t456 t457 t458 t459 t462 t463 t437).bind fun t473=>(laws_FnSparse.j1 kj6 t436 (t473 != (t436.length:Int)) t454 t455 t456 t457 t458 t459 t462 t463)) else (laws_FnSparse.j1 kj6 t436 true t454 t455 t456 t457 t458 t459 t462 t463))) = some r:=by rw [if_pos rfl] at H;exact H
    clear H
    have H:=H1
    clear H1
    replace H:=Option.bind_eq_some_iff.mp H
    obtain⟨t472,A270,H⟩:=H
    replace H:(if t472 = true then ((impl_SparseRank.f kj6 t454 t455 t456 t457 t458 t459 t462 t463 t437).bind fun t473=>(laws_FnSparse.j1 kj6 t436 (t473 != (t436.length:Int)) t454 t455 t456 t457 t458 t459 t462 t463)) else (laws_FnSparse.j1 kj6 t436 true t454 t455 t456 t457 t458 t459 t462 t463)) = some r:=H
    have A27:=mk0 A270
    clear A270
    by_cases c28:t472 = true
    rotate_left
    ·replace c28:=Bool.eq_false_iff.mpr c28
     subst c28
     have H1:(laws_FnSparse.j1 kj6 t436 true t454 t455 t456 t457 t458 t459 t462 t463) = some r:=by rw [if_neg (show ¬ (false = true) by decide)] at H;exact H
     clear H
     have H:=H1
     clear H1
     have H':=mk0 H
     clear H
     have hnb38:=NB467_453.out
     have hnc38:=NB453_467.out
     obtain⟨hcz39_0,hcz39_1,hcz39_2,hcz39_3,hcz39_4,hcz39_5,hcz39_6,hcz39_7,hfz39_0,hfz39_1,hfz39_2,hfz39_3,hfz39_4,hfz39_5,hfz39_6,hfz39_7⟩:=cz8 BK467.out
     go_wp2_with (first|((with_reducible refine gate_callee (f:=12) rfl ?_);refine goesL_ (some 41) rfl rfl Try.func12 (by kernel_rfl) rfl #[.agg #[.int .i64 t454,.int .i64 t455,.int .i64 t456,.int .i64 t457,.int .i64 t458,.slice Ao19 t459.length co19,.int .i64 t462,.slice Ao20 t463.length co20]] rfl (by (try simp only [mA,mC,mN]);first|done|rfl|(simp only [List.length_drop,List.length_take];done)|(simp only [List.length_drop,List.length_take];rfl)) ?_;(with_reducible refine (impl_SparseList.calls kj6 t454 t455 t456 t457 t458 _ _ t459 t462 _ _ t463 t468 _ ?side1 ?side2 ?side3 ?side4 A24.out).mono ?_);(case side1=>exact kC (Kd.R_reads' HO_468005.out).2.2);(case side2=>exact (Kd.R_reads' HO_468005.out).2.1);(case side3=>exact kC (Kd.R_reads' HO_468007.out).2.2);(case side4=>exact (Kd.R_reads' HO_468007.out).2.1);rintro e w40 ⟨v469,rfl,ho0,hb⟩;refine⟨_,rfl,?_⟩;replace HO_454005:=mk0 (bR HO_454005.out hb);replace HO_454007:=mk0 (bR HO_454007.out hb);replace HO_468005:=mk0 (bR HO_468005.out hb);replace HO_468007:=mk0 (bR HO_468007.out hb);have HO470:=mk0 (Kd.R_lower (Kd.R_new' ho0 (Kd.R_lt (rR HO_3.out))) (kZ HB.out));replace HO_3:=mk0 (Kd.R_elder' (rR HO_3.out) (Kd.R_base ho0) hb);replace BK453:=mk0 (kK BK453.out hb);replace BK467:=mk0 (kK BK467.out hb);replace HB:=mk0 (kS HB.out hb);(try clear hb);(try clear ho0);obtain⟨Ao41,co41,eo41⟩:=Kd.R_slice HO470.out;subst eo41)|((with_reducible refine gate_callee (f:=11) rfl ?_);refine goesL_ (some 43) rfl rfl Try.func11 (by kernel_rfl) rfl #[.slice Ao41 t468.length co41,.slice Ao9 t436.length co9] rfl (by (try simp only [mA,mC,mN]);first|done|rfl|(simp only [List.length_drop,List.length_take];done)|(simp only [List.length_drop,List.length_take];rfl)) ?_;(with_reducible refine (laws_same.calls kj6 _ _ t468 _ _ t436 true _ ?side1 ?side2 ?side3 ?side4 A25.out).mono ?_);(case side1=>exact kC (Kd.R_reads' HO470.out).2.2);(case side2=>exact (Kd.R_reads' HO470.out).2.1);(case side3=>exact kC (Kd.R_reads' HO_3.out).2.2);(case side4=>exact (Kd.R_reads' HO_3.out).2.1);rintro e w' ⟨rfl,⟨nd,rfl⟩⟩;refine⟨_,rfl,?_⟩;obtain⟨hcz42_0,hcz42_1,hcz42_2,hcz42_3,hcz42_4,hcz42_5,hcz42_6,hcz42_7,hfz42_0,hfz42_1,hfz42_2,hfz42_3,hfz42_4,hfz42_5,hfz42_6,hfz42_7⟩:=cz8 BK467.out)|(go_at_call 13;(with_reducible refine (impl_SparseOk.calls kj6 t454 t455 t456 t457 t458 _ _ t459 t462 _ _ t463 false _ ?side1 ?side2 ?side3 ?side4 A27.out).mono ?_);(case side1=>exact kC (Kd.R_reads' HO_468005.out).2.2);(case side2=>exact (Kd.R_reads' HO_468005.out).2.1);(case side3=>exact kC (Kd.R_reads' HO_468007.out).2.2);(case side4=>exact (Kd.R_reads' HO_468007.out).2.1);rintro e w43 ⟨rfl,hb⟩;replace HO_3:=mk0 (bR HO_3.out hb);replace HO_454005:=mk0 (bR HO_454005.out hb);replace HO_454007:=mk0 (bR HO_454007.out hb);replace HO_468005:=mk0 (bR HO_468005.out hb);replace HO_468007:=mk0 (bR HO_468007.out hb);replace HO470:=mk0 (bR HO470.out hb);replace BK453:=mk0 (kK BK453.out hb);replace BK467:=mk0 (kK BK467.out hb);replace HB:=mk0 (kS HB.out hb);(try clear hb)))
     go_meet
     case rel=>exact⟨_,(true),(by first|rfl|(simp;done)|(simp [*];done)),H',⟨by have:=HJ6.out;first|omega|exact Nat.le_refl _⟩,⟨rR (Kd.R_mono HO_3.out (fun _ hk=>trivial))⟩,⟨rR HO_454005.out⟩,⟨rR HO_454007.out⟩,⟨rR HO_468005.out⟩,⟨rR HO_468007.out⟩,⟨kN BK453.out⟩,⟨kN BK467.out⟩,⟨kB HB.out⟩⟩
    subst c28
    have H1:((impl_SparseRank.f kj6 t454 t455 t456 t457 t458 t459 t462 t463 t437).bind fun t473=>(laws_FnSparse.j1 kj6 t436 (t473 != (t436.length:Int)) t454 t455 t456 t457 t458 t459 t462 t463)) = some r:=by rw [if_pos rfl] at H;exact H
    clear H
    have H:=H1
    clear H1
    replace H:=Option.bind_eq_some_iff.mp H
    obtain⟨t473,A290,H⟩:=H
    replace H:(laws_FnSparse.j1 kj6 t436 (t473 != (t436.length:Int)) t454 t455 t456 t457 t458 t459 t462 t463) = some r:=H
    have A29:=mk0 A290
    clear A290
    have H':=mk0 H
    clear H
    have hnb30:=NB467_453.out
    have hnc30:=NB453_467.out
    obtain⟨hcz31_0,hcz31_1,hcz31_2,hcz31_3,hcz31_4,hcz31_5,hcz31_6,hcz31_7,hfz31_0,hfz31_1,hfz31_2,hfz31_3,hfz31_4,hfz31_5,hfz31_6,hfz31_7⟩:=cz8 BK467.out
    go_wp2_with (first|((with_reducible refine gate_callee (f:=12) rfl ?_);refine goesL_ (some 41) rfl rfl Try.func12 (by kernel_rfl) rfl #[.agg #[.int .i64 t454,.int .i64 t455,.int .i64 t456,.int .i64 t457,.int .i64 t458,.slice Ao19 t459.length co19,.int .i64 t462,.slice Ao20 t463.length co20]] rfl (by (try simp only [mA,mC,mN]);first|done|rfl|(simp only [List.length_drop,List.length_take];done)|(simp only [List.length_drop,List.length_take];rfl)) ?_;(with_reducible refine (impl_SparseList.calls kj6 t454 t455 t456 t457 t458 _ _ t459 t462 _ _ t463 t468 _ ?side1 ?side2 ?side3 ?side4 A24.out).mono ?_);(case side1=>exact kC (Kd.R_reads' HO_468005.out).2.2);(case side2=>exact (Kd.R_reads' HO_468005.out).2.1);(case side3=>exact kC (Kd.R_reads' HO_468007.out).2.2);(case side4=>exact (Kd.R_reads' HO_468007.out).2.1);rintro e w32 ⟨v469,rfl,ho0,hb⟩;refine⟨_,rfl,?_⟩;replace HO_454005:=mk0 (bR HO_454005.out hb);replace HO_454007:=mk0 (bR HO_454007.out hb);replace HO_468005:=mk0 (bR HO_468005.out hb);replace HO_468007:=mk0 (bR HO_468007.out hb);have HO470:=mk0 (Kd.R_lower (Kd.R_new' ho0 (Kd.R_lt (rR HO_3.out))) (kZ HB.out));replace HO_3:=mk0 (Kd.R_elder' (rR HO_3.out) (Kd.R_base ho0) hb);replace BK453:=mk0 (kK BK453.out hb);replace BK467:=mk0 (kK BK467.out hb);replace HB:=mk0 (kS HB.out hb);(try clear hb);(try clear ho0);obtain⟨Ao33,co33,eo33⟩:=Kd.R_slice HO470.out;subst eo33)|((with_reducible refine gate_callee (f:=11) rfl ?_);refine goesL_ (some 43) rfl rfl Try.func11 (by kernel_rfl) rfl #[.slice Ao33 t468.length co33,.slice Ao9 t436.length co9] rfl (by (try simp only [mA,mC,mN]);first|done|rfl|(simp only [List.length_drop,List.length_take];done)|(simp only [List.length_drop,List.length_take];rfl)) ?_;(with_reducible refine (laws_same.calls kj6 _ _ t468 _ _ t436 true _ ?side1 ?side2 ?side3 ?side4 A25.out).mono ?_);(case side1=>exact kC (Kd.R_reads' HO470.out).2.2);(case side2=>exact (Kd.R_reads' HO470.out).2.1);(case side3=>exact kC (Kd.R_reads' HO_3.out).2.2);(case side4=>exact (Kd.R_reads' HO_3.out).2.1);rintro e w' ⟨rfl,⟨nd,rfl⟩⟩;refine⟨_,rfl,?_⟩;obtain⟨hcz34_0,hcz34_1,hcz34_2,hcz34_3,hcz34_4,hcz34_5,hcz34_6,hcz34_7,hfz34_0,hfz34_1,hfz34_2,hfz34_3,hfz34_4,hfz34_5,hfz34_6,hfz34_7⟩:=cz8 BK467.out)|(go_at_call 13;(with_reducible refine (impl_SparseOk.calls kj6 t454 t455 t456 t457 t458 _ _ t459 t462 _ _ t463 true _ ?side1 ?side2 ?side3 ?side4 A27.out).mono ?_);(case side1=>exact kC (Kd.R_reads' HO_468005.out).2.2);(case side2=>exact (Kd.R_reads' HO_468005.out).2.1);(case side3=>exact kC (Kd.R_reads' HO_468007.out).2.2);(case side4=>exact (Kd.R_reads' HO_468007.out).2.1);rintro e w35 ⟨rfl,hb⟩;replace HO_3:=mk0 (bR HO_3.out hb);replace HO_454005:=mk0 (bR HO_454005.out hb);replace HO_454007:=mk0 (bR HO_454007.out hb);replace HO_468005:=mk0 (bR HO_468005.out hb);replace HO_468007:=mk0 (bR HO_468007.out hb);replace HO470:=mk0 (bR HO470.out hb);replace BK453:=mk0 (kK BK453.out hb);replace BK467:=mk0 (kK BK467.out hb);replace HB:=mk0 (kS HB.out hb);(try clear hb);obtain⟨hcz36_0,hcz36_1,hcz36_2,hcz36_3,hcz36_4,hcz36_5,hcz36_6,hcz36_7,hfz36_0,hfz36_1,hfz36_2,hfz36_3,hfz36_4,hfz36_5,hfz36_6,hfz36_7⟩:=cz8 BK467.out)|(go_at_call 14;(with_reducible refine (impl_SparseRank.calls kj6 t454 t455 t456 t457 t458 _ _ t459 t462 _ _ t463 t437 t473 _ ?side1 ?side2 ?side3 ?side4 A29.out).mono ?_);(case side1=>exact kC (Kd.R_reads' HO_468005.out).2.2);(case side2=>exact (Kd.R_reads' HO_468005.out).2.1);(case side3=>exact kC (Kd.R_reads' HO_468007.out).2.2);(case side4=>exact (Kd.R_reads' HO_468007.out).2.1);rintro e w37 ⟨rfl,hb⟩;replace HO_3:=mk0 (bR HO_3.out hb);replace HO_454005:=mk0 (bR HO_454005.out hb);replace HO_454007:=mk0 (bR HO_454007.out hb);replace HO_468005:=mk0 (bR HO_468005.out hb);replace HO_468007:=mk0 (bR HO_468007.out hb);replace HO470:=mk0 (bR HO470.out hb);replace BK453:=mk0 (kK BK453.out hb);replace BK467:=mk0 (kK BK467.out hb);replace HB:=mk0 (kS HB.out hb);(try clear hb)))
    go_meet
    case rel=>exact⟨_,((t473 != (t436.length:Int))),(by first|rfl|(simp;done)|(simp [*];done)),H',⟨by have:=HJ6.out;first|omega|exact Nat.le_refl _⟩,⟨rR (Kd.R_mono HO_3.out (fun _ hk=>trivial))⟩,⟨rR HO_454005.out⟩,⟨rR HO_454007.out⟩,⟨rR HO_468005.out⟩,⟨rR HO_468007.out⟩,⟨kN BK453.out⟩,⟨kN BK467.out⟩,⟨kB HB.out⟩⟩
   case rest =>
    clear HC23
    try clear c1
    try clear c2
    try clear p2
    try clear c3
    try clear c4
    try clear c7
    try clear c8
    try clear c9
    try clear c10
    try clear c11
    try clear c12
    try clear c17
    try clear c21
    try clear c21b0
    try clear c21b1
    try clear c21b2
    try clear c22
    try clear c26
    try clear c28
    try clear c30
    try clear c38
    try clear c44
    try clear hcz12_0
    try clear hcz12_1
    try clear hcz12_2
    try clear hcz12_3
    try clear hcz12_4
    try clear hcz12_5
    try clear hcz12_6
    try clear hcz12_7
    try clear hcz18_0
    try clear hcz18_1
    try clear hcz18_2
    try clear hcz18_3
    try clear hcz18_4
    try clear hcz18_5
    try clear hcz18_6
    try clear hcz18_7
    try clear hcz31_0
    try clear hcz31_1
    try clear hcz31_2
    try clear hcz31_3
    try clear hcz31_4
    try clear hcz31_5
    try clear hcz31_6
    try clear hcz31_7
    try clear hcz34_0
    try clear hcz34_1
    try clear hcz34_2
    try clear hcz34_3
    try clear hcz34_4
    try clear hcz34_5
    try clear hcz34_6
    try clear hcz34_7
    try clear hcz36_0
    try clear hcz36_1
    try clear hcz36_2
    try clear hcz36_3
    try clear hcz36_4
    try clear hcz36_5
    try clear hcz36_6
    try clear hcz36_7
    try clear hcz39_0
    try clear hcz39_1
    try clear hcz39_2
    try clear hcz39_3
    try clear hcz39_4
    try clear hcz39_5
    try clear hcz39_6
    try clear hcz39_7
    try clear hcz42_0
    try clear hcz42_1
    try clear hcz42_2
    try clear hcz42_3
    try clear hcz42_4
    try clear hcz42_5
    try clear hcz42_6
    try clear hcz42_7
    try clear hcz45_0
    try clear hcz45_1
    try clear hcz45_2
    try clear hcz45_3
    try clear hcz45_4
    try clear hcz45_5
    try clear hcz45_6
    try clear hcz45_7
    try clear hfz12_0
    try clear hfz12_1
    try clear hfz12_2
    try clear hfz12_3
    try clear hfz12_4
    try clear hfz12_5
    try clear hfz12_6
    try clear hfz12_7
    try clear hfz18_0
    try clear hfz18_1
    try clear hfz18_2
    try clear hfz18_3
    try clear hfz18_4
    try clear hfz18_5
    try clear hfz18_6
    try clear hfz18_7
    try clear hfz31_0
    try clear hfz31_1
    try clear hfz31_2
    try clear hfz31_3
    try clear hfz31_4
    try clear hfz31_5
    try clear hfz31_6
    try clear hfz31_7
    try clear hfz34_0
    try clear hfz34_1
    try clear hfz34_2
    try clear hfz34_3
    try clear hfz34_4
    try clear hfz34_5
    try clear hfz34_6
    try clear hfz34_7
    try clear hfz36_0
    try clear hfz36_1
    try clear hfz36_2
    try clear hfz36_3
    try clear hfz36_4
    try clear hfz36_5
    try clear hfz36_6
    try clear hfz36_7
    try clear hfz39_0
    try clear hfz39_1
    try clear hfz39_2
    try clear hfz39_3
    try clear hfz39_4
    try clear hfz39_5
    try clear hfz39_6
    try clear hfz39_7
    try clear hfz42_0
    try clear hfz42_1
    try clear hfz42_2
    try clear hfz42_3
    try clear hfz42_4
    try clear hfz42_5
    try clear hfz42_6
    try clear hfz42_7
    try clear hfz45_0
    try clear hfz45_1
    try clear hfz45_2
    try clear hfz45_3
    try clear hfz45_4
    try clear hfz45_5
    try clear hfz45_6
    try clear hfz45_7
    try clear p2
    obtain⟨kq,x57_22,rfl,HA,HJ22,HO_3,HO_454005,HO_454007,HO_468005,HO_468007,BK453,BK467,HB⟩:=hcut
    cases kq with
    | zero=>exact absurd HA.out (by simp [laws_FnSparse.j1])
    | succ kj22 =>
     have H:=HA.out
     clear HA
     simp only [laws_FnSparse.j1] at H
     by_cases c48:x57_22 = true
     ·subst c48
      have H1:(some false) = some r:=by rw [if_pos rfl] at H;exact H
      clear H
      have H:=H1
      clear H1
      obtain rfl:=Option.some.inj H
      go_wp2
      go_ret
      exact⟨by first|rfl|(simp [errW_none,errW_some] <;> rfl)|(simp [*,errW_none,errW_some] <;> rfl),kB HB.out⟩
     replace c48:=Bool.eq_false_iff.mpr c48
     subst c48
     have H1:(laws_FnSparse.l0 kj22 t436 0 t454 t455 t456 t457 t458 t459 t462 t463) = some r:=by rw [if_neg (show ¬ (false = true) by decide)] at H;exact H
     clear H
     have H:=H1
     clear H1
     have H':=mk0 H
     clear H
     go_wp2
     go_loopg [9] kj22 (fun kq v9 w'=>∃ (x9_3:Int),v9 = .int .i64 x9_3 ∧ Aside0 (laws_FnSparse.l0 kq t436 x9_3 t454 t455 t456 t457 t458 t459 t462 t463 = some r) ∧ Aside0 (kq ≤ kj22) ∧ Aside0 (Kd.R (Kd.int .i64) 3 w' w.heap.size (fun _=>True) (.slice Ao9 t436.length co9) t436) ∧ Aside0 (Kd.R (Kd.int .u64) 78 w' w.heap.size (fun k_=>some k_ ≠ ((.slice Ao14 t449.length co14):Value).ownBlock ∧ some k_ ≠ ((.slice Ao19 t459.length co19):Value).ownBlock ∧ some k_ ≠ ((.slice Ao20 t463.length co20):Value).ownBlock) (.slice Ao13 t445.length co13) t445) ∧ Aside0 (Kd.R (Kd.int .u64) 78 w' w.heap.size (fun k_=>some k_ ≠ ((.slice Ao13 t445.length co13):Value).ownBlock ∧ some k_ ≠ ((.slice Ao19 t459.length co19):Value).ownBlock ∧ some k_ ≠ ((.slice Ao20 t463.length co20):Value).ownBlock) (.slice Ao14 t449.length co14) t449) ∧ Aside0 (Kd.R (Kd.int .u64) 78 w' w.heap.size (fun k_=>some k_ ≠ ((.slice Ao13 t445.length co13):Value).ownBlock ∧ some k_ ≠ ((.slice Ao14 t449.length co14):Value).ownBlock ∧ some k_ ≠ ((.slice Ao20 t463.length co20):Value).ownBlock) (.slice Ao19 t459.length co19) t459) ∧ Aside0 (Kd.R (Kd.int .u64) 78 w' w.heap.size (fun k_=>some k_ ≠ ((.slice Ao13 t445.length co13):Value).ownBlock ∧ some k_ ≠ ((.slice Ao14 t449.length co14):Value).ownBlock ∧ some k_ ≠ ((.slice Ao19 t459.length co19):Value).ownBlock) (.slice Ao20 t463.length co20) t463) ∧ Aside0 (w'.heap[gb453]? = some (.cells #[.int .i64 t440,.int .i64 t441,.int .i64 t442,.int .i64 t443,.int .i64 t444,(.slice Ao13 t445.length co13),.int .i64 t448,(.slice Ao14 t449.length co14)] 33 (0,0))) ∧ Aside0 (w'.heap[gb467]? = some (.cells #[.int .i64 t454,.int .i64 t455,.int .i64 t456,.int .i64 t457,.int .i64 t458,(.slice Ao19 t459.length co19),.int .i64 t462,(.slice Ao20 t463.length co20)] 33 (0,0))) ∧ Aside0 (Below w.heap.size w w'))
     case atStart=>exact⟨(0),(by first|rfl|(simp;done)|(simp [*];done)),H',⟨Nat.le_refl _⟩,⟨rR HO_3.out⟩,⟨rR HO_454005.out⟩,⟨rR HO_454007.out⟩,⟨rR HO_468005.out⟩,⟨rR HO_468007.out⟩,⟨kN BK453.out⟩,⟨kN BK467.out⟩,⟨kB HB.out⟩⟩
     case round =>
      clear H'
      try clear c1
      try clear c2
      try clear p2
      try clear c3
      try clear c4
      try clear c7
      try clear c8
      try clear c9
      try clear c10
      try clear c11
      try clear c12
      try clear c17
      try clear c21
      try clear c21b0
      try clear c21b1
      try clear c21b2
      try clear c22
      try clear c26
      try clear c28
      try clear c30
      try clear c38
      try clear c44
      try clear c48
      try clear hcz12_0
      try clear hcz12_1
      try clear hcz12_2
      try clear hcz12_3
      try clear hcz12_4
      try clear hcz12_5
      try clear hcz12_6
      try clear hcz12_7
      try clear hcz18_0
      try clear hcz18_1
      try clear hcz18_2
      try clear hcz18_3
      try clear hcz18_4
      try clear hcz18_5
      try clear hcz18_6
      try clear hcz18_7
      try clear hcz31_0
      try clear hcz31_1
      try clear hcz31_2
      try clear hcz31_3
      try clear hcz31_4
      try clear hcz31_5
      try clear hcz31_6
      try clear hcz31_7
      try clear hcz34_0
      try clear hcz34_1
      try clear hcz34_2
      try clear hcz34_3
      try clear hcz34_4
      try clear hcz34_5
      try clear hcz34_6
      try clear hcz34_7
      try clear hcz36_0
      try clear hcz36_1
      try clear hcz36_2
      try clear hcz36_3
      try clear hcz36_4
      try clear hcz36_5
      try clear hcz36_6
      try clear hcz36_7
      try clear hcz39_0
      try clear hcz39_1
      try clear hcz39_2
      try clear hcz39_3
      try clear hcz39_4
      try clear hcz39_5
      try clear hcz39_6
      try clear hcz39_7
      try clear hcz42_0
      try clear hcz42_1
      try clear hcz42_2
      try clear hcz42_3
      try clear hcz42_4
      try clear hcz42_5
      try clear hcz42_6
      try clear hcz42_7
      try clear hcz45_0
      try clear hcz45_1
      try clear hcz45_2
      try clear hcz45_3
      try clear hcz45_4
      try clear hcz45_5
      try clear hcz45_6
      try clear hcz45_7
      try clear hfz12_0
      try clear hfz12_1
      try clear hfz12_2
      try clear hfz12_3
      try clear hfz12_4
      try clear hfz12_5
      try clear hfz12_6
      try clear hfz12_7
      try clear hfz18_0
      try clear hfz18_1
      try clear hfz18_2
      try clear hfz18_3
      try clear hfz18_4
      try clear hfz18_5
      try clear hfz18_6
      try clear hfz18_7
      try clear hfz31_0
      try clear hfz31_1
      try clear hfz31_2
      try clear hfz31_3
      try clear hfz31_4
      try clear hfz31_5
      try clear hfz31_6
      try clear hfz31_7
      try clear hfz34_0
      try clear hfz34_1
      try clear hfz34_2
      try clear hfz34_3
      try clear hfz34_4
      try clear hfz34_5
      try clear hfz34_6
      try clear hfz34_7
      try clear hfz36_0
      try clear hfz36_1
      try clear hfz36_2
      try clear hfz36_3
      try clear hfz36_4
      try clear hfz36_5
      try clear hfz36_6
      try clear hfz36_7
      try clear hfz39_0
      try clear hfz39_1
      try clear hfz39_2
      try clear hfz39_3
      try clear hfz39_4
      try clear hfz39_5
      try clear hfz39_6
      try clear hfz39_7
      try clear hfz42_0
      try clear hfz42_1
      try clear hfz42_2
      try clear hfz42_3
      try clear hfz42_4
      try clear hfz42_5
      try clear hfz42_6
      try clear hfz42_7
      try clear hfz45_0
      try clear hfz45_1
      try clear hfz45_2
      try clear hfz45_3
      try clear hfz45_4
      try clear hfz45_5
      try clear hfz45_6
      try clear hfz45_7
      try clear p2
      obtain⟨x9_3,rfl,HA,HK3,HO_3,HO_454005,HO_454007,HO_468005,HO_468007,BK453,BK467,HB⟩:=hrel
      cases gk with
      | zero=>exact absurd HA.out (by simp [laws_FnSparse.l0])
      | succ k3 =>
       have H:=HA.out
       clear HA
       simp only [laws_FnSparse.l0] at H
       by_cases c49:x9_3 < (t436.length:Int)
       rotate_left
       ·rw [if_neg c49] at H
        have c49b0:decide (x9_3 < (t436.length:Int)) = false:=decide_eq_false c49
        clear c49
        obtain rfl:=Option.some.inj H
        go_wp2
        go_ret
        exact⟨by first|rfl|(simp [errW_none,errW_some] <;> rfl)|(simp [*,errW_none,errW_some] <;> rfl),kB HB.out⟩

       rw [if_pos c49] at H
       have c49b0:decide (x9_3 < (t436.length:Int)) = true:=decide_eq_true c49
       clear c49
       by_cases c50:0 ≤ x9_3
       rotate_left
       ·rw [if_neg c50] at H
        exact absurd H (by simp)
       rw [if_pos c50] at H
       have c50b0:decide (0 ≤ x9_3) = true:=decide_eq_true c50
       clear c50
       replace H:=Option.bind_eq_some_iff.mp H
       obtain⟨t475,A510,H⟩:=H
       replace H:((impl_SparseAt.f k3 t454 t455 t456 t457 t458 t459 t462 t463 x9_3).bind fun t476=>(if t476 = (rd t436 x9_3) then (if t475 > x9_3 then (laws_FnSparse.j3 k3 t436 x9_3 true t454 t455 t456 t457 t458 t459 t462 t463) else (if t475 < 0 then (laws_FnSparse.j3 k3 t436 x9_3 true t454 t455 t456 t457 t458 t459 t462 t463) else (if 0 ≤ t475 then (if t475 < (t436.length:Int) then (if (rd t436 t475) = (rd t436 x9_3) then ((impl_SparseHas.f k3 t454 t455 t456 t457 t458 t459 t462 t463 (rd t436 x9_3)).bind fun t481=>(laws_FnSparse.j3 k3 t436 x9_3 (!t481) t454 t455 t456 t457 t458 t459 t462 t463)) else (laws_FnSparse.j3 k3 t436 x9_3 true t454 t455 t456 t457 t458 t459 t462 t463)) else (none)) else (none)))) else (laws_FnSparse.j3 k3 t436 x9_3 true t454 t455 t456 t457 t458 t459 t462 t463))) = some r:=H
       have A51:=mk0 A510
       clear A510
       have HC52:=mk0 H
       clear H
       try go_wp2
       replace HO_3:=mk0 (dR HO_3.out)
       replace HO_454005:=mk0 (dR HO_454005.out)
       replace HO_454007:=mk0 (dR HO_454007.out)
       replace HO_468005:=mk0 (dR HO_468005.out)
       replace HO_468007:=mk0 (dR HO_468007.out)
       replace BK453:=mk0 (dB BK453.out)
       replace BK467:=mk0 (dB BK467.out)
       replace HB:=mk0 (dZ HB.out)
       have p474:0 ≤ (x9_3:Int):=of_decide_eq_true (by first|(with_reducible assumption)|assumption)
       have q474:x9_3 < (t436.length:Int):=of_decide_eq_true (by first|(with_reducible assumption)|assumption)
       obtain⟨ad474,e474,hx474_0⟩:=Kd.at_int (Kd.R_reads' HO_3.out).2.2 x9_3 p474 q474
       cases e474
       replace p474:=eq_true p474
       replace q474:=eq_true q474
       refine start_ (n:=7) (S:=fun w'=>w'.cell? ⟨gb467,0,none⟩ = some (.int .i64 t454) ∧ w'.cell? ⟨gb467,1,none⟩ = some (.int .i64 t455) ∧ w'.cell? ⟨gb467,2,none⟩ = some (.int .i64 t456) ∧ w'.cell? ⟨gb467,3,none⟩ = some (.int .i64 t457) ∧ w'.cell? ⟨gb467,4,none⟩ = some (.int .i64 t458) ∧ w'.cell? ⟨gb467,5,none⟩ = some (.slice Ao19 t459.length co19) ∧ w'.cell? ⟨gb467,6,none⟩ = some (.int .i64 t462) ∧ w'.cell? ⟨gb467,7,none⟩ = some (.slice Ao20 t463.length co20) ∧ w'.cell? (ad474.add (x9_3).toNat) = some (.int .i64 (rd t436 x9_3))) (ds:=[]) #[false,false,false,false,false,false,false] (by kernel_rfl) rfl rfl ⟨(blk_cell BK467.out 0).trans rfl,(blk_cell BK467.out 1).trans rfl,(blk_cell BK467.out 2).trans rfl,(blk_cell BK467.out 3).trans rfl,(blk_cell BK467.out 4).trans rfl,(blk_cell BK467.out 5).trans rfl,(blk_cell BK467.out 6).trans rfl,(blk_cell BK467.out 7).trans rfl,hx474_0⟩ (fun hHeld=>?_)
       generalize wr.drew = w53 at HO_3 HO_454005 HO_454007 HO_468005 HO_468007 BK453 BK467 HB hx474_0 hHeld ⊢
       refine pure_ (i:=1) (N:=some 65) (v:=?_) (a':=?_) #[false,true,false,false,false,false,false] rfl rfl (by kernel_rfl) (fun _ _ _ h=>h) (Or.inl ⟨by rfl,?_⟩) ?_ ?_
       rotate_left
       ·intro w'
        go_simp
        with_reducible rfl
       rotate_left
       ·simp only [Act.put,sA,sO,sS,i64_w,i32_w]
        rfl
       refine pure_ (i:=2) (N:=some 66) (v:=?_) (a':=?_) #[false,true,true,false,false,false,false] rfl rfl (by kernel_rfl) (fun _ _ _ h=>h) (Or.inl ⟨by rfl,?_⟩) ?_ ?_
       rotate_left
       ·intro w'
        go_simp
        with_reducible rfl
       rotate_left
       ·simp only [Act.put,sA,sO,sS,i64_w,i32_w]
        rfl
       refine pure_ (i:=3) (N:=some 67) (v:=?_) (a':=?_) #[false,true,true,true,false,false,false] rfl rfl (by kernel_rfl) (fun _ _ _ h=>h) (Or.inl ⟨by rfl,?_⟩) ?_ ?_
       rotate_left
       ·intro w'
        go_simp
        with_reducible rfl
       rotate_left
       ·simp only [Act.put,sA,sO,sS,i64_w,i32_w]
        rfl
       refine take_ (i:=0) (N:=some 64) (v:=?_) (a':=?_) #[true,true,true,true,false,false,false] rfl rfl (by kernel_rfl) (fun _ _ _ h=>h) (Or.inl ⟨by rfl,?_⟩) hHeld ?_ ?_
       rotate_left
       ·rintro w' ⟨s0,s1,s2,s3,s4,s5,s6,s7,s8⟩
        go_simp
        with_reducible rfl
       rotate_left
       ·simp only [Act.put,sA,sO,sS,i64_w,i32_w]
        rfl
       refine take_ (i:=4) (N:=some 68) (v:=?_) (a':=?_) #[true,true,true,true,true,false,false] rfl rfl (by kernel_rfl) (fun _ _ _ h=>h) (Or.inl ⟨by rfl,?_⟩) hHeld ?_ ?_
       rotate_left
       ·rintro w' ⟨s0,s1,s2,s3,s4,s5,s6,s7,s8⟩
        go_simp
        with_reducible rfl
       rotate_left
       ·simp only [Act.put,sA,sO,sS,i64_w,i32_w]
        rfl
       refine one_ (i:=5) (N:=some 69) #[true,true,true,true,true,true,false] rfl rfl (by kernel_rfl) (by decide) (fun K hK=>?_)
       refine goes_ Try.func14 (by kernel_rfl) rfl #[.agg #[.int .i64 t454,.int .i64 t455,.int .i64 t456,.int .i64 t457,.int .i64 t458,.slice Ao19 t459.length co19,.int .i64 t462,.slice Ao20 t463.length co20],.int .i64 (rd t436 x9_3)] (by rfl) rfl rfl (by (try simp only [mA,mC,mN]);first|done|rfl|(simp only [List.length_drop,List.length_take];done)|(simp only [List.length_drop,List.length_take];rfl)) ?_
       with_reducible refine (impl_SparseRank.calls k3 t454 t455 t456 t457 t458 _ _ t459 t462 _ _ t463 (rd t436 x9_3) t475 _ ?side1 ?side2 ?side3 ?side4 A51.out).mono ?_
       (case side1=>exact kC (Kd.R_reads' HO_468005.out).2.2)
       (case side2=>exact (Kd.R_reads' HO_468005.out).2.1)
       (case side3=>exact kC (Kd.R_reads' HO_468007.out).2.2)
       (case side4=>exact (Kd.R_reads' HO_468007.out).2.1)
       rintro e w54 ⟨rfl,hb⟩
       have HS8_:=(hb.cell (World.block_lt_of_cell? _ _ (hHeld.2.2.2.2.2.2.2.2))).trans (hHeld.2.2.2.2.2.2.2.2)
       refine⟨_,rfl,?_⟩
       replace HO_3:=mk0 (bR HO_3.out hb)
       replace HO_454005:=mk0 (bR HO_454005.out hb)
       replace HO_454007:=mk0 (bR HO_454007.out hb)
       replace HO_468005:=mk0 (bR HO_468005.out hb)
       replace HO_468007:=mk0 (bR HO_468007.out hb)
       replace BK453:=mk0 (kK BK453.out hb)
       replace BK467:=mk0 (kK BK467.out hb)
       replace HB:=mk0 (kS HB.out hb)
       (try clear hb)
       refine hK.out _ _ ⟨(blk_cell BK467.out 0).trans rfl,(blk_cell BK467.out 1).trans rfl,(blk_cell BK467.out 2).trans rfl,(blk_cell BK467.out 3).trans rfl,(blk_cell BK467.out 4).trans rfl,(blk_cell BK467.out 5).trans rfl,(blk_cell BK467.out 6).trans rfl,(blk_cell BK467.out 7).trans rfl,HS8_⟩ (fun hHeld=>?_)
       clear hK K
       refine norm_ (a':=?_) ?_ ?_
       rotate_left
       ·show Act.put _ (some 69) _ = _
        simp only [Act.put,sA,sO,sS,i64_w,i32_w]
        rfl
       refine pure_ (i:=6) (N:=some 10) (v:=?_) (a':=?_) #[true,true,true,true,true,true,true] rfl rfl (by kernel_rfl) (fun _ _ _ h=>h) (Or.inl ⟨by rfl,?_⟩) ?_ ?_
       rotate_left
       ·intro w'
        go_simp
        with_reducible rfl
       rotate_left
       ·simp only [Act.put,sA,sO,sS,i64_w,i32_w]
        rfl
       refine done_ (by kernel_rfl) ?_
       go_upto_region 14 with (fail)
       go_cut [106] (fun v106 wc=>∃ (kq:Nat) (x106_51:Bool),v106 = .bool x106_51 ∧ Aside0 (laws_FnSparse.j3 kq t436 x9_3 x106_51 t454 t455 t456 t457 t458 t459 t462 t463 = some r) ∧ Aside0 (kq ≤ k3) ∧ Aside0 (Kd.R (Kd.int .i64) 3 wc w.heap.size (fun _=>True) (.slice (some ad474) t436.length co9) t436) ∧ Aside0 (Kd.R (Kd.int .u64) 78 wc w.heap.size (fun k_=>some k_ ≠ ((.slice Ao14 t449.length co14):Value).ownBlock ∧ some k_ ≠ ((.slice Ao19 t459.length co19):Value).ownBlock ∧ some k_ ≠ ((.slice Ao20 t463.length co20):Value).ownBlock) (.slice Ao13 t445.length co13) t445) ∧ Aside0 (Kd.R (Kd.int .u64) 78 wc w.heap.size (fun k_=>some k_ ≠ ((.slice Ao13 t445.length co13):Value).ownBlock ∧ some k_ ≠ ((.slice Ao19 t459.length co19):Value).ownBlock ∧ some k_ ≠ ((.slice Ao20 t463.length co20):Value).ownBlock) (.slice Ao14 t449.length co14) t449) ∧ Aside0 (Kd.R (Kd.int .u64) 78 wc w.heap.size (fun k_=>some k_ ≠ ((.slice Ao13 t445.length co13):Value).ownBlock ∧ some k_ ≠ ((.slice Ao14 t449.length co14):Value).ownBlock ∧ some k_ ≠ ((.slice Ao20 t463.length co20):Value).ownBlock) (.slice Ao19 t459.length co19) t459) ∧ Aside0 (Kd.R (Kd.int .u64) 78 wc w.heap.size (fun k_=>some k_ ≠ ((.slice Ao13 t445.length co13):Value).ownBlock ∧ some k_ ≠ ((.slice Ao14 t449.length co14):Value).ownBlock ∧ some k_ ≠ ((.slice Ao19 t459.length co19):Value).ownBlock) (.slice Ao20 t463.length co20) t463) ∧ Aside0 (wc.heap[gb453]? = some (.cells #[.int .i64 t440,.int .i64 t441,.int .i64 t442,.int .i64 t443,.int .i64 t444,(.slice Ao13 t445.length co13),.int .i64 t448,(.slice Ao14 t449.length co14)] 33 (0,0))) ∧ Aside0 (wc.heap[gb467]? = some (.cells #[.int .i64 t454,.int .i64 t455,.int .i64 t456,.int .i64 t457,.int .i64 t458,(.slice Ao19 t459.length co19),.int .i64 t462,(.slice Ao20 t463.length co20)] 33 (0,0))) ∧ Aside0 (Below w.heap.size w wc))
       case first =>
        have H:=HC52.out
        clear HC52
        replace H:=Option.bind_eq_some_iff.mp H
        obtain⟨t476,A550,H⟩:=H
        replace H:(if t476 = (rd t436 x9_3) then (if t475 > x9_3 then (laws_FnSparse.j3 k3 t436 x9_3 true t454 t455 t456 t457 t458 t459 t462 t463) else (if t475 < 0 then (laws_FnSparse.j3 k3 t436 x9_3 true t454 t455 t456 t457 t458 t459 t462 t463) else (if 0 ≤ t475 then (if t475 < (t436.length:Int) then (if (rd t436 t475) = (rd t436 x9_3) then ((impl_SparseHas.f k3 t454 t455 t456 t457 t458 t459 t462 t463 (rd t436 x9_3)).bind fun t481=>(laws_FnSparse.j3 k3 t436 x9_3 (!t481) t454 t455 t456 t457 t458 t459 t462 t463)) else (laws_FnSparse.j3 k3 t436 x9_3 true t454 t455 t456 t457 t458 t459 t462 t463)) else (none)) else (none)))) else (laws_FnSparse.j3 k3 t436 x9_3 true t454 t455 t456 t457 t458 t459 t462 t463)) = some r:=H
        have A55:=mk0 A550
        clear A550
        by_cases c56:t476 = (rd t436 x9_3)
        rotate_left
        ·rw [if_neg c56] at H
         have c56b0:(t476 == (rd t436 x9_3)) = false:=beq_eq_false_iff_ne.mpr c56
         have c56b1:(t476 != (rd t436 x9_3)) = true:=bne_iff_ne.mpr c56
         (first|rw [c56b0]|(simp only [i64_w,i32_w];rw [c56b0])|skip)
         have H':=mk0 H
         clear H
         try go_wp2
         replace HO_3:=mk0 (dR HO_3.out)
         replace HO_454005:=mk0 (dR HO_454005.out)
         replace HO_454007:=mk0 (dR HO_454007.out)
         replace HO_468005:=mk0 (dR HO_468005.out)
         replace HO_468007:=mk0 (dR HO_468007.out)
         replace BK453:=mk0 (dB BK453.out)
         replace BK467:=mk0 (dB BK467.out)
         replace HB:=mk0 (dZ HB.out)
         have p477:0 ≤ (x9_3:Int):=of_decide_eq_true (by first|(with_reducible assumption)|assumption)
         have q477:x9_3 < (t436.length:Int):=of_decide_eq_true (by first|(with_reducible assumption)|assumption)
         obtain⟨ad477,e477,hx477_0⟩:=Kd.at_int (Kd.R_reads' HO_3.out).2.2 x9_3 p477 q477
         obtain rfl:ad474 = ad477:=(by injection e477)
         replace p477:=eq_true p477
         replace q477:=eq_true q477
         refine start_ (n:=37) (S:=fun w'=>w'.cell? ⟨gb467,0,none⟩ = some (.int .i64 t454) ∧ w'.cell? ⟨gb467,1,none⟩ = some (.int .i64 t455) ∧ w'.cell? ⟨gb467,2,none⟩ = some (.int .i64 t456) ∧ w'.cell? ⟨gb467,3,none⟩ = some (.int .i64 t457) ∧ w'.cell? ⟨gb467,4,none⟩ = some (.int .i64 t458) ∧ w'.cell? ⟨gb467,5,none⟩ = some (.slice Ao19 t459.length co19) ∧ w'.cell? ⟨gb467,6,none⟩ = some (.int .i64 t462) ∧ w'.cell? ⟨gb467,7,none⟩ = some (.slice Ao20 t463.length co20) ∧ w'.cell? (ad474.add (x9_3).toNat) = some (.int .i64 (rd t436 x9_3))) (ds:=[]) laws_FnSparse.m0 (by kernel_rfl) rfl rfl ⟨(blk_cell BK467.out 0).trans rfl,(blk_cell BK467.out 1).trans rfl,(blk_cell BK467.out 2).trans rfl,(blk_cell BK467.out 3).trans rfl,(blk_cell BK467.out 4).trans rfl,(blk_cell BK467.out 5).trans rfl,(blk_cell BK467.out 6).trans rfl,(blk_cell BK467.out 7).trans rfl,hx477_0⟩ (fun hHeld=>?_);refine with_tabW laws_FnSparse.tab14 laws_FnSparse.bits14 (fun HT_ HW_=>?_)
         generalize w54.drew = w72 at HO_3 HO_454005 HO_454007 HO_468005 HO_468007 BK453 BK467 HB hx477_0 hHeld ⊢
         refine pure_ (i:=1) (N:=some 71) (v:=?_) (a':=?_) laws_FnSparse.m1 rfl rfl (any_of HT_.out (by kernel_rfl)) (fun _ _ _ h=>h) (Or.inl ⟨by rfl,?_⟩) ?_ ?_
         rotate_left
         ·intro w'
          go_simp
          with_reducible rfl
         rotate_left
         ·simp only [Act.put,sA,sO,sS,i64_w,i32_w]
          rfl
         refine pure_ (i:=3) (N:=some 73) (v:=?_) (a':=?_) laws_FnSparse.m2 rfl rfl (any_of HT_.out (by kernel_rfl)) (fun _ _ _ h=>h) (Or.inl ⟨by rfl,?_⟩) ?_ ?_
         rotate_left
         ·intro w'
          go_simp
          with_reducible rfl
         rotate_left
         ·simp only [Act.put,sA,sO,sS,i64_w,i32_w]
          rfl
         refine pure_ (i:=4) (N:=some 74) (v:=?_) (a':=?_) laws_FnSparse.m3 rfl rfl (any_of HT_.out (by kernel_rfl)) (fun _ _ _ h=>h) (Or.inl ⟨by rfl,?_⟩) ?_ ?_
         rotate_left
         ·intro w'
          go_simp
          with_reducible rfl
         rotate_left
         ·simp only [Act.put,sA,sO,sS,i64_w,i32_w]
          rfl
         refine pure_ (i:=5) (N:=some 75) (v:=?_) (a':=?_) laws_FnSparse.m4 rfl rfl (any_of HT_.out (by kernel_rfl)) (fun _ _ _ h=>h) (Or.inl ⟨by rfl,?_⟩) ?_ ?_
         rotate_left
         ·intro w'
          go_simp
          with_reducible rfl
         rotate_left
         ·simp only [Act.put,sA,sO,sS,i64_w,i32_w]
          rfl
         refine take_ (i:=0) (N:=some 70) (v:=?_) (a':=?_) laws_FnSparse.m5 rfl rfl (take_ofW HT_.out HW_.out (by kernel_rfl)) (fun _ _ _ h=>h) (Or.inl ⟨by rfl,?_⟩) hHeld ?_ ?_
         rotate_left
         ·rintro w' ⟨s0,s1,s2,s3,s4,s5,s6,s7,s8⟩
          go_simp
          with_reducible rfl
         rotate_left
         ·simp only [Act.put,sA,sO,sS,i64_w,i32_w]
          rfl
         refine take_ (i:=6) (N:=some 76) (v:=?_) (a':=?_) laws_FnSparse.m6 rfl rfl (take_ofW HT_.out HW_.out (by kernel_rfl)) (fun _ _ _ h=>h) (Or.inl ⟨by rfl,?_⟩) hHeld ?_ ?_
         rotate_left
         ·rintro w' ⟨s0,s1,s2,s3,s4,s5,s6,s7,s8⟩
          go_simp
          with_reducible rfl
         rotate_left
         ·simp only [Act.put,sA,sO,sS,i64_w,i32_w]
          rfl
         refine one_ (i:=2) (N:=some 72) laws_FnSparse.m7 rfl rfl (one_of HT_.out (by kernel_rfl)) (by decide) (fun K hK=>?_)
         refine goes_ Try.func15 (by kernel_rfl) rfl #[.agg #[.int .i64 t454,.int .i64 t455,.int .i64 t456,.int .i64 t457,.int .i64 t458,.slice Ao19 t459.length co19,.int .i64 t462,.slice Ao20 t463.length co20],.int .i64 x9_3] (by rfl) rfl rfl (by (try simp only [mA,mC,mN]);first|done|rfl|(simp only [List.length_drop,List.length_take];done)|(simp only [List.length_drop,List.length_take];rfl)) ?_
         with_reducible refine (impl_SparseAt.calls k3 t454 t455 t456 t457 t458 _ _ t459 t462 _ _ t463 x9_3 t476 _ ?side1 ?side2 ?side3 ?side4 A55.out).mono ?_
         (case side1=>exact kC (Kd.R_reads' HO_468005.out).2.2)
         (case side2=>exact (Kd.R_reads' HO_468005.out).2.1)
         (case side3=>exact kC (Kd.R_reads' HO_468007.out).2.2)
         (case side4=>exact (Kd.R_reads' HO_468007.out).2.1)
         rintro e w73 ⟨rfl,hb⟩
         have HS8_:=(hb.cell (World.block_lt_of_cell? _ _ (hHeld.2.2.2.2.2.2.2.2))).trans (hHeld.2.2.2.2.2.2.2.2)
         refine⟨_,rfl,?_⟩
         replace HO_3:=mk0 (bR HO_3.out hb)
         replace HO_454005:=mk0 (bR HO_454005.out hb)
         replace HO_454007:=mk0 (bR HO_454007.out hb)
         replace HO_468005:=mk0 (bR HO_468005.out hb)
         replace HO_468007:=mk0 (bR HO_468007.out hb)
         replace BK453:=mk0 (kK BK453.out hb)
         replace BK467:=mk0 (kK BK467.out hb)
         replace HB:=mk0 (kS HB.out hb)
         (try clear hb)
         refine hK.out _ _ ⟨(blk_cell BK467.out 0).trans rfl,(blk_cell BK467.out 1).trans rfl,(blk_cell BK467.out 2).trans rfl,(blk_cell BK467.out 3).trans rfl,(blk_cell BK467.out 4).trans rfl,(blk_cell BK467.out 5).trans rfl,(blk_cell BK467.out 6).trans rfl,(blk_cell BK467.out 7).trans rfl,HS8_⟩ (fun hHeld=>?_)
         clear hK K
         refine norm_ (a':=?_) ?_ ?_
         rotate_left
         ·show Act.put _ (some 72) _ = _
          simp only [Act.put,sA,sO,sS,i64_w,i32_w]
          rfl
         refine pure_ (i:=7) (N:=some 77) (v:=?_) (a':=?_) laws_FnSparse.m8 rfl rfl (any_of HT_.out (by kernel_rfl)) (fun _ _ _ h=>h) (Or.inl ⟨by rfl,?_⟩) ?_ ?_
         rotate_left
         ·intro w'
          go_simp
          with_reducible rfl
         rotate_left
         ·simp only [Act.put,sA,sO,sS,i64_w,i32_w]
          rfl
         refine pure_ (i:=8) (N:=some 78) (v:=?_) (a':=?_) laws_FnSparse.m9 rfl rfl (any_of HT_.out (by kernel_rfl)) (fun _ _ _ h=>h) (Or.inl ⟨by rfl,?_⟩) ?_ ?_
         rotate_left
         ·intro w'
          go_simp
          with_reducible rfl
         rotate_left
         ·simp only [Act.put,sA,sO,sS,i64_w,i32_w]
          rfl
         refine pure_ (i:=9) (N:=some 79) (v:=undef) (a':=?_) laws_FnSparse.m10 rfl rfl (any_of HT_.out (by kernel_rfl)) (fun _ _ _ h=>h) (Or.inr ⟨by rfl,rfl⟩) ?_ ?_
         rotate_left
         ·simp only [Act.put,sA,sO,sS,i64_w,i32_w]
          rfl
         refine pure_ (i:=10) (N:=some 80) (v:=undef) (a':=?_) laws_FnSparse.m11 rfl rfl (any_of HT_.out (by kernel_rfl)) (fun _ _ _ h=>h) (Or.inr ⟨by rfl,rfl⟩) ?_ ?_
         rotate_left
         ·simp only [Act.put,sA,sO,sS,i64_w,i32_w]
          rfl
         refine pure_ (i:=11) (N:=some 81) (v:=undef) (a':=?_) laws_FnSparse.m12 rfl rfl (any_of HT_.out (by kernel_rfl)) (fun _ _ _ h=>h) (Or.inr ⟨by rfl,rfl⟩) ?_ ?_
         rotate_left
         ·simp only [Act.put,sA,sO,sS,i64_w,i32_w]
          rfl
         refine pure_ (i:=12) (N:=some 82) (v:=?_) (a':=?_) laws_FnSparse.m13 rfl rfl (any_of HT_.out (by kernel_rfl)) (fun _ _ _ h=>h) (Or.inl ⟨by rfl,?_⟩) ?_ ?_
         rotate_left
         ·intro w'
          go_simp
          with_reducible rfl
         rotate_left
         ·simp only [Act.put,sA,sO,sS,i64_w,i32_w]
          rfl
         refine pure_ (i:=13) (N:=some 83) (v:=?_) (a':=?_) laws_FnSparse.m14 rfl rfl (any_of HT_.out (by kernel_rfl)) (fun _ _ _ h=>h) (Or.inl ⟨by rfl,?_⟩) ?_ ?_
         rotate_left
         ·intro w'
          go_simp
          with_reducible rfl
         rotate_left
         ·simp only [Act.put,sA,sO,sS,i64_w,i32_w]
          rfl
         refine pure_ (i:=14) (N:=some 84) (v:=undef) (a':=?_) laws_FnSparse.m15 rfl rfl (any_of HT_.out (by kernel_rfl)) (fun _ _ _ h=>h) (Or.inr ⟨by rfl,rfl⟩) ?_ ?_
         rotate_left
         ·simp only [Act.put,sA,sO,sS,i64_w,i32_w]
          rfl
         refine pure_ (i:=15) (N:=some 85) (v:=undef) (a':=?_) laws_FnSparse.m16 rfl rfl (any_of HT_.out (by kernel_rfl)) (fun _ _ _ h=>h) (Or.inr ⟨by rfl,rfl⟩) ?_ ?_
         rotate_left
         ·simp only [Act.put,sA,sO,sS,i64_w,i32_w]
          rfl
         refine pure_ (i:=16) (N:=some 86) (v:=?_) (a':=?_) laws_FnSparse.m17 rfl rfl (any_of HT_.out (by kernel_rfl)) (fun _ _ _ h=>h) (Or.inl ⟨by rfl,?_⟩) ?_ ?_
         rotate_left
         ·intro w'
          go_simp
          with_reducible rfl
         rotate_left
         ·simp only [Act.put,sA,sO,sS,i64_w,i32_w]
          rfl
         refine pure_ (i:=17) (N:=some 87) (v:=?_) (a':=?_) laws_FnSparse.m18 rfl rfl (any_of HT_.out (by kernel_rfl)) (fun _ _ _ h=>h) (Or.inl ⟨by rfl,?_⟩) ?_ ?_
         rotate_left
         ·intro w'
          go_simp
          with_reducible rfl
         rotate_left
         ·simp only [Act.put,sA,sO,sS,i64_w,i32_w]
          rfl
         refine pure_ (i:=18) (N:=some 88) (v:=undef) (a':=?_) laws_FnSparse.m19 rfl rfl (any_of HT_.out (by kernel_rfl)) (fun _ _ _ h=>h) (Or.inr ⟨by rfl,rfl⟩) ?_ ?_
         rotate_left
         ·simp only [Act.put,sA,sO,sS,i64_w,i32_w]
          rfl
         refine pure_ (i:=19) (N:=some 89) (v:=undef) (a':=?_) laws_FnSparse.m20 rfl rfl (any_of HT_.out (by kernel_rfl)) (fun _ _ _ h=>h) (Or.inr ⟨by rfl,rfl⟩) ?_ ?_
         rotate_left
         ·simp only [Act.put,sA,sO,sS,i64_w,i32_w]
          rfl
         refine pure_ (i:=20) (N:=some 90) (v:=undef) (a':=?_) laws_FnSparse.m21 rfl rfl (any_of HT_.out (by kernel_rfl)) (fun _ _ _ h=>h) (Or.inr ⟨by rfl,rfl⟩) ?_ ?_
         rotate_left
         ·simp only [Act.put,sA,sO,sS,i64_w,i32_w]
          rfl
         refine pure_ (i:=21) (N:=some 91) (v:=undef) (a':=?_) laws_FnSparse.m22 rfl rfl (any_of HT_.out (by kernel_rfl)) (fun _ _ _ h=>h) (Or.inr ⟨by rfl,rfl⟩) ?_ ?_
         rotate_left
         ·simp only [Act.put,sA,sO,sS,i64_w,i32_w]
          rfl
         refine pure_ (i:=22) (N:=some 92) (v:=undef) (a':=?_) laws_FnSparse.m23 rfl rfl (any_of HT_.out (by kernel_rfl)) (fun _ _ _ h=>h) (Or.inr ⟨by rfl,rfl⟩) ?_ ?_
         rotate_left
         ·simp only [Act.put,sA,sO,sS,i64_w,i32_w]
          rfl
         refine pure_ (i:=23) (N:=some 93) (v:=undef) (a':=?_) laws_FnSparse.m24 rfl rfl (any_of HT_.out (by kernel_rfl)) (fun _ _ _ h=>h) (Or.inr ⟨by rfl,rfl⟩) ?_ ?_
         rotate_left
         ·simp only [Act.put,sA,sO,sS,i64_w,i32_w]
          rfl
         refine pure_ (i:=24) (N:=some 94) (v:=undef) (a':=?_) laws_FnSparse.m25 rfl rfl (any_of HT_.out (by kernel_rfl)) (fun _ _ _ h=>h) (Or.inr ⟨by rfl,rfl⟩) ?_ ?_
         rotate_left
         ·simp only [Act.put,sA,sO,sS,i64_w,i32_w]
          rfl
         refine pure_ (i:=25) (N:=some 95) (v:=undef) (a':=?_) laws_FnSparse.m26 rfl rfl (any_of HT_.out (by kernel_rfl)) (fun _ _ _ h=>h) (Or.inr ⟨by rfl,rfl⟩) ?_ ?_
         rotate_left
         ·simp only [Act.put,sA,sO,sS,i64_w,i32_w]
          rfl
         refine pure_ (i:=26) (N:=some 96) (v:=undef) (a':=?_) laws_FnSparse.m27 rfl rfl (any_of HT_.out (by kernel_rfl)) (fun _ _ _ h=>h) (Or.inr ⟨by rfl,rfl⟩) ?_ ?_
         rotate_left
         ·simp only [Act.put,sA,sO,sS,i64_w,i32_w]
          rfl
         refine pure_ (i:=27) (N:=some 97) (v:=?_) (a':=?_) laws_FnSparse.m28 rfl rfl (any_of HT_.out (by kernel_rfl)) (fun _ _ _ h=>h) (Or.inl ⟨by rfl,?_⟩) ?_ ?_
         rotate_left
         ·intro w'
          go_simp
          with_reducible rfl
         rotate_left
         ·simp only [Act.put,sA,sO,sS,i64_w,i32_w]
          rfl
         refine pure_ (i:=28) (N:=some 98) (v:=?_) (a':=?_) laws_FnSparse.m29 rfl rfl (any_of HT_.out (by kernel_rfl)) (fun _ _ _ h=>h) (Or.inl ⟨by rfl,?_⟩) ?_ ?_
         rotate_left
         ·intro w'
          go_simp
          with_reducible rfl
         rotate_left
         ·simp only [Act.put,sA,sO,sS,i64_w,i32_w]
          rfl
         refine pure_ (i:=29) (N:=some 99) (v:=undef) (a':=?_) laws_FnSparse.m30 rfl rfl (any_of HT_.out (by kernel_rfl)) (fun _ _ _ h=>h) (Or.inr ⟨by rfl,rfl⟩) ?_ ?_
         rotate_left
         ·simp only [Act.put,sA,sO,sS,i64_w,i32_w]
          rfl
         refine pure_ (i:=30) (N:=some 100) (v:=undef) (a':=?_) laws_FnSparse.m31 rfl rfl (any_of HT_.out (by kernel_rfl)) (fun _ _ _ h=>h) (Or.inr ⟨by rfl,rfl⟩) ?_ ?_
         rotate_left
         ·simp only [Act.put,sA,sO,sS,i64_w,i32_w]
          rfl
         refine pure_ (i:=31) (N:=some 101) (v:=undef) (a':=?_) laws_FnSparse.m32 rfl rfl (any_of HT_.out (by kernel_rfl)) (fun _ _ _ h=>h) (Or.inr ⟨by rfl,rfl⟩) ?_ ?_
         rotate_left
         ·simp only [Act.put,sA,sO,sS,i64_w,i32_w]
          rfl
         refine pure_ (i:=32) (N:=some 102) (v:=undef) (a':=?_) laws_FnSparse.m33 rfl rfl (any_of HT_.out (by kernel_rfl)) (fun _ _ _ h=>h) (Or.inr ⟨by rfl,rfl⟩) ?_ ?_
         rotate_left
         ·simp only [Act.put,sA,sO,sS,i64_w,i32_w]
          rfl
         refine pure_ (i:=33) (N:=some 103) (v:=undef) (a':=?_) laws_FnSparse.m34 rfl rfl (any_of HT_.out (by kernel_rfl)) (fun _ _ _ h=>h) (Or.inr ⟨by rfl,rfl⟩) ?_ ?_
         rotate_left
         ·simp only [Act.put,sA,sO,sS,i64_w,i32_w]
          rfl
         refine pure_ (i:=34) (N:=some 104) (v:=undef) (a':=?_) laws_FnSparse.m35 rfl rfl (any_of HT_.out (by kernel_rfl)) (fun _ _ _ h=>h) (Or.inr ⟨by rfl,rfl⟩) ?_ ?_
         rotate_left
         ·simp only [Act.put,sA,sO,sS,i64_w,i32_w]
          rfl
         refine pure_ (i:=35) (N:=some 105) (v:=undef) (a':=?_) laws_FnSparse.m36 rfl rfl (any_of HT_.out (by kernel_rfl)) (fun _ _ _ h=>h) (Or.inr ⟨by rfl,rfl⟩) ?_ ?_
         rotate_left
         ·simp only [Act.put,sA,sO,sS,i64_w,i32_w]
          rfl
         refine pure_ (i:=36) (N:=some 106) (v:=?_) (a':=?_) laws_FnSparse.m37 rfl rfl (any_of HT_.out (by kernel_rfl)) (fun _ _ _ h=>h) (Or.inl ⟨by rfl,?_⟩) ?_ ?_
         rotate_left
         ·intro w'
          go_simp
          with_reducible rfl
         rotate_left
         ·simp only [Act.put,sA,sO,sS,i64_w,i32_w]
          rfl
         refine done_ (done_of HT_.out (by kernel_rfl)) ?_
         try go_wp2
         go_meet
         case rel=>exact⟨_,(true),(by first|rfl|(simp;done)|(simp [*];done)),H',⟨by have:=HJ6.out;have:=HJ22.out;have:=HK3.out;first|omega|exact Nat.le_refl _⟩,⟨rR HO_3.out⟩,⟨rR HO_454005.out⟩,⟨rR HO_454007.out⟩,⟨rR HO_468005.out⟩,⟨rR HO_468007.out⟩,⟨kN BK453.out⟩,⟨kN BK467.out⟩,⟨kB HB.out⟩⟩
        rw [if_pos c56] at H
        have c56b0:(t476 == (rd t436 x9_3)) = true:=beq_iff_eq.mpr c56
        have c56b1:(t476 != (rd t436 x9_3)) = false:=bne_eq_false_iff_eq.mpr c56
        clear c56
        (first|rw [c56b0]|(simp only [i64_w,i32_w];rw [c56b0])|skip)
        by_cases c57:t475 > x9_3
        ·rw [if_pos c57] at H
         have c57b0:decide (x9_3 < t475) = true:=decide_eq_true c57
         clear c57
         have H':=mk0 H
         clear H
         try go_wp2
         replace HO_3:=mk0 (dR HO_3.out)
         replace HO_454005:=mk0 (dR HO_454005.out)
         replace HO_454007:=mk0 (dR HO_454007.out)
         replace HO_468005:=mk0 (dR HO_468005.out)
         replace HO_468007:=mk0 (dR HO_468007.out)
         replace BK453:=mk0 (dB BK453.out)
         replace BK467:=mk0 (dB BK467.out)
         replace HB:=mk0 (dZ HB.out)
         have p477:0 ≤ (x9_3:Int):=of_decide_eq_true (by first|(with_reducible assumption)|assumption)
         have q477:x9_3 < (t436.length:Int):=of_decide_eq_true (by first|(with_reducible assumption)|assumption)
         obtain⟨ad477,e477,hx477_0⟩:=Kd.at_int (Kd.R_reads' HO_3.out).2.2 x9_3 p477 q477
         obtain rfl:ad474 = ad477:=(by injection e477)
         replace p477:=eq_true p477
         replace q477:=eq_true q477
         refine start_ (n:=37) (S:=fun w'=>w'.cell? ⟨gb467,0,none⟩ = some (.int .i64 t454) ∧ w'.cell? ⟨gb467,1,none⟩ = some (.int .i64 t455) ∧ w'.cell? ⟨gb467,2,none⟩ = some (.int .i64 t456) ∧ w'.cell? ⟨gb467,3,none⟩ = some (.int .i64 t457) ∧ w'.cell? ⟨gb467,4,none⟩ = some (.int .i64 t458) ∧ w'.cell? ⟨gb467,5,none⟩ = some (.slice Ao19 t459.length co19) ∧ w'.cell? ⟨gb467,6,none⟩ = some (.int .i64 t462) ∧ w'.cell? ⟨gb467,7,none⟩ = some (.slice Ao20 t463.length co20) ∧ w'.cell? (ad474.add (x9_3).toNat) = some (.int .i64 (rd t436 x9_3))) (ds:=[]) laws_FnSparse.m0 (by kernel_rfl) rfl rfl ⟨(blk_cell BK467.out 0).trans rfl,(blk_cell BK467.out 1).trans rfl,(blk_cell BK467.out 2).trans rfl,(blk_cell BK467.out 3).trans rfl,(blk_cell BK467.out 4).trans rfl,(blk_cell BK467.out 5).trans rfl,(blk_cell BK467.out 6).trans rfl,(blk_cell BK467.out 7).trans rfl,hx477_0⟩ (fun hHeld=>?_);refine with_tabW laws_FnSparse.tab14 laws_FnSparse.bits14 (fun HT_ HW_=>?_)
         generalize w54.drew = w58 at HO_3 HO_454005 HO_454007 HO_468005 HO_468007 BK453 BK467 HB hx477_0 hHeld ⊢
         refine pure_ (i:=1) (N:=some 71) (v:=?_) (a':=?_) laws_FnSparse.m1 rfl rfl (any_of HT_.out (by kernel_rfl)) (fun _ _ _ h=>h) (Or.inl ⟨by rfl,?_⟩) ?_ ?_
         rotate_left
         ·intro w'
          go_simp
          with_reducible rfl
         rotate_left
         ·simp only [Act.put,sA,sO,sS,i64_w,i32_w]
          rfl
         refine pure_ (i:=3) (N:=some 73) (v:=?_) (a':=?_) laws_FnSparse.m2 rfl rfl (any_of HT_.out (by kernel_rfl)) (fun _ _ _ h=>h) (Or.inl ⟨by rfl,?_⟩) ?_ ?_
         rotate_left
         ·intro w'
          go_simp
          with_reducible rfl
         rotate_left
         ·simp only [Act.put,sA,sO,sS,i64_w,i32_w]
          rfl
         refine pure_ (i:=4) (N:=some 74) (v:=?_) (a':=?_) laws_FnSparse.m3 rfl rfl (any_of HT_.out (by kernel_rfl)) (fun _ _ _ h=>h) (Or.inl ⟨by rfl,?_⟩) ?_ ?_
         rotate_left
         ·intro w'
          go_simp
          with_reducible rfl
         rotate_left
         ·simp only [Act.put,sA,sO,sS,i64_w,i32_w]
          rfl
         refine pure_ (i:=5) (N:=some 75) (v:=?_) (a':=?_) laws_FnSparse.m4 rfl rfl (any_of HT_.out (by kernel_rfl)) (fun _ _ _ h=>h) (Or.inl ⟨by rfl,?_⟩) ?_ ?_
         rotate_left
         ·intro w'
          go_simp
          with_reducible rfl
         rotate_left
         ·simp only [Act.put,sA,sO,sS,i64_w,i32_w]
          rfl
         refine take_ (i:=0) (N:=some 70) (v:=?_) (a':=?_) laws_FnSparse.m5 rfl rfl (take_ofW HT_.out HW_.out (by kernel_rfl)) (fun _ _ _ h=>h) (Or.inl ⟨by rfl,?_⟩) hHeld ?_ ?_
         rotate_left
         ·rintro w' ⟨s0,s1,s2,s3,s4,s5,s6,s7,s8⟩
          go_simp
          with_reducible rfl
         rotate_left
         ·simp only [Act.put,sA,sO,sS,i64_w,i32_w]
          rfl
         refine take_ (i:=6) (N:=some 76) (v:=?_) (a':=?_) laws_FnSparse.m6 rfl rfl (take_ofW HT_.out HW_.out (by kernel_rfl)) (fun _ _ _ h=>h) (Or.inl ⟨by rfl,?_⟩) hHeld ?_ ?_
         rotate_left
         ·rintro w' ⟨s0,s1,s2,s3,s4,s5,s6,s7,s8⟩
          go_simp
          with_reducible rfl
         rotate_left
         ·simp only [Act.put,sA,sO,sS,i64_w,i32_w]
          rfl
         refine one_ (i:=2) (N:=some 72) laws_FnSparse.m7 rfl rfl (one_of HT_.out (by kernel_rfl)) (by decide) (fun K hK=>?_)
         refine goes_ Try.func15 (by kernel_rfl) rfl #[.agg #[.int .i64 t454,.int .i64 t455,.int .i64 t456,.int .i64 t457,.int .i64 t458,.slice Ao19 t459.length co19,.int .i64 t462,.slice Ao20 t463.length co20],.int .i64 x9_3] (by rfl) rfl rfl (by (try simp only [mA,mC,mN]);first|done|rfl|(simp only [List.length_drop,List.length_take];done)|(simp only [List.length_drop,List.length_take];rfl)) ?_
         with_reducible refine (impl_SparseAt.calls k3 t454 t455 t456 t457 t458 _ _ t459 t462 _ _ t463 x9_3 t476 _ ?side1 ?side2 ?side3 ?side4 A55.out).mono ?_
         (case side1=>exact kC (Kd.R_reads' HO_468005.out).2.2)
         (case side2=>exact (Kd.R_reads' HO_468005.out).2.1)
         (case side3=>exact kC (Kd.R_reads' HO_468007.out).2.2)
         (case side4=>exact (Kd.R_reads' HO_468007.out).2.1)
         rintro e w59 ⟨rfl,hb⟩
         have HS8_:=(hb.cell (World.block_lt_of_cell? _ _ (hHeld.2.2.2.2.2.2.2.2))).trans (hHeld.2.2.2.2.2.2.2.2)
         refine⟨_,rfl,?_⟩
         replace HO_3:=mk0 (bR HO_3.out hb)
         replace HO_454005:=mk0 (bR HO_454005.out hb)
         replace HO_454007:=mk0 (bR HO_454007.out hb)
         replace HO_468005:=mk0 (bR HO_468005.out hb)
         replace HO_468007:=mk0 (bR HO_468007.out hb)
         replace BK453:=mk0 (kK BK453.out hb)
         replace BK467:=mk0 (kK BK467.out hb)
         replace HB:=mk0 (kS HB.out hb)
         (try clear hb)
         refine hK.out _ _ ⟨(blk_cell BK467.out 0).trans rfl,(blk_cell BK467.out 1).trans rfl,(blk_cell BK467.out 2).trans rfl,(blk_cell BK467.out 3).trans rfl,(blk_cell BK467.out 4).trans rfl,(blk_cell BK467.out 5).trans rfl,(blk_cell BK467.out 6).trans rfl,(blk_cell BK467.out 7).trans rfl,HS8_⟩ (fun hHeld=>?_)
         clear hK K
         refine norm_ (a':=?_) ?_ ?_
         rotate_left
         ·show Act.put _ (some 72) _ = _
          simp only [Act.put,sA,sO,sS,i64_w,i32_w]
          rfl
         refine pure_ (i:=7) (N:=some 77) (v:=?_) (a':=?_) laws_FnSparse.m8 rfl rfl (any_of HT_.out (by kernel_rfl)) (fun _ _ _ h=>h) (Or.inl ⟨by rfl,?_⟩) ?_ ?_
         rotate_left
         ·intro w'
          go_simp
          with_reducible rfl
         rotate_left
         ·simp only [Act.put,sA,sO,sS,i64_w,i32_w]
          rfl
         refine pure_ (i:=8) (N:=some 78) (v:=?_) (a':=?_) laws_FnSparse.m9 rfl rfl (any_of HT_.out (by kernel_rfl)) (fun _ _ _ h=>h) (Or.inl ⟨by rfl,?_⟩) ?_ ?_
         rotate_left
         ·intro w'
          go_simp
          with_reducible rfl
         rotate_left
         ·simp only [Act.put,sA,sO,sS,i64_w,i32_w]
          rfl
         refine pure_ (i:=9) (N:=some 79) (v:=?_) (a':=?_) laws_FnSparse.m10 rfl rfl (any_of HT_.out (by kernel_rfl)) (fun _ _ _ h=>h) (Or.inl ⟨by rfl,?_⟩) ?_ ?_
         rotate_left
         ·intro w'
          go_simp
          with_reducible rfl
         rotate_left
         ·simp only [Act.put,sA,sO,sS,i64_w,i32_w]
          rfl
         refine pure_ (i:=10) (N:=some 80) (v:=?_) (a':=?_) laws_FnSparse.m11 rfl rfl (any_of HT_.out (by kernel_rfl)) (fun _ _ _ h=>h) (Or.inl ⟨by rfl,?_⟩) ?_ ?_
         rotate_left
         ·intro w'
          go_simp
          with_reducible rfl
         rotate_left
         ·simp only [Act.put,sA,sO,sS,i64_w,i32_w]
          rfl
         refine pure_ (i:=11) (N:=some 81) (v:=?_) (a':=?_) laws_FnSparse.m12 rfl rfl (any_of HT_.out (by kernel_rfl)) (fun _ _ _ h=>h) (Or.inl ⟨by rfl,?_⟩) ?_ ?_
         rotate_left
         ·intro w'
          go_simp
          with_reducible rfl
         rotate_left
         ·simp only [Act.put,sA,sO,sS,i64_w,i32_w]
          rfl
         refine pure_ (i:=12) (N:=some 82) (v:=?_) (a':=?_) laws_FnSparse.m13 rfl rfl (any_of HT_.out (by kernel_rfl)) (fun _ _ _ h=>h) (Or.inl ⟨by rfl,?_⟩) ?_ ?_
         rotate_left
         ·intro w'
          go_simp
          with_reducible rfl
         rotate_left
         ·simp only [Act.put,sA,sO,sS,i64_w,i32_w]
          rfl
         refine pure_ (i:=13) (N:=some 83) (v:=?_) (a':=?_) laws_FnSparse.m14 rfl rfl (any_of HT_.out (by kernel_rfl)) (fun _ _ _ h=>h) (Or.inl ⟨by rfl,?_⟩) ?_ ?_
         rotate_left
         ·intro w'
          go_simp
          with_reducible rfl
         rotate_left
         ·simp only [Act.put,sA,sO,sS,i64_w,i32_w]
          rfl
         refine pure_ (i:=14) (N:=some 84) (v:=undef) (a':=?_) laws_FnSparse.m15 rfl rfl (any_of HT_.out (by kernel_rfl)) (fun _ _ _ h=>h) (Or.inr ⟨by rfl,rfl⟩) ?_ ?_
         rotate_left
         ·simp only [Act.put,sA,sO,sS,i64_w,i32_w]
          rfl
         refine pure_ (i:=15) (N:=some 85) (v:=undef) (a':=?_) laws_FnSparse.m16 rfl rfl (any_of HT_.out (by kernel_rfl)) (fun _ _ _ h=>h) (Or.inr ⟨by rfl,rfl⟩) ?_ ?_
         rotate_left
         ·simp only [Act.put,sA,sO,sS,i64_w,i32_w]
          rfl
         refine pure_ (i:=16) (N:=some 86) (v:=?_) (a':=?_) laws_FnSparse.m17 rfl rfl (any_of HT_.out (by kernel_rfl)) (fun _ _ _ h=>h) (Or.inl ⟨by rfl,?_⟩) ?_ ?_
         rotate_left
         ·intro w'
          go_simp
          with_reducible rfl
         rotate_left
         ·simp only [Act.put,sA,sO,sS,i64_w,i32_w]
          rfl
         refine pure_ (i:=17) (N:=some 87) (v:=?_) (a':=?_) laws_FnSparse.m18 rfl rfl (any_of HT_.out (by kernel_rfl)) (fun _ _ _ h=>h) (Or.inl ⟨by rfl,?_⟩) ?_ ?_
         rotate_left
         ·intro w'
          go_simp
          with_reducible rfl
         rotate_left
         ·simp only [Act.put,sA,sO,sS,i64_w,i32_w]
          rfl
         refine pure_ (i:=18) (N:=some 88) (v:=undef) (a':=?_) laws_FnSparse.m19 rfl rfl (any_of HT_.out (by kernel_rfl)) (fun _ _ _ h=>h) (Or.inr ⟨by rfl,rfl⟩) ?_ ?_
         rotate_left
         ·simp only [Act.put,sA,sO,sS,i64_w,i32_w]
          rfl
         refine pure_ (i:=19) (N:=some 89) (v:=undef) (a':=?_) laws_FnSparse.m20 rfl rfl (any_of HT_.out (by kernel_rfl)) (fun _ _ _ h=>h) (Or.inr ⟨by rfl,rfl⟩) ?_ ?_
         rotate_left
         ·simp only [Act.put,sA,sO,sS,i64_w,i32_w]
          rfl
         refine pure_ (i:=20) (N:=some 90) (v:=undef) (a':=?_) laws_FnSparse.m21 rfl rfl (any_of HT_.out (by kernel_rfl)) (fun _ _ _ h=>h) (Or.inr ⟨by rfl,rfl⟩) ?_ ?_
         rotate_left
         ·simp only [Act.put,sA,sO,sS,i64_w,i32_w]
          rfl
         refine pure_ (i:=21) (N:=some 91) (v:=undef) (a':=?_) laws_FnSparse.m22 rfl rfl (any_of HT_.out (by kernel_rfl)) (fun _ _ _ h=>h) (Or.inr ⟨by rfl,rfl⟩) ?_ ?_
         rotate_left
         ·simp only [Act.put,sA,sO,sS,i64_w,i32_w]
          rfl
         refine pure_ (i:=22) (N:=some 92) (v:=undef) (a':=?_) laws_FnSparse.m23 rfl rfl (any_of HT_.out (by kernel_rfl)) (fun _ _ _ h=>h) (Or.inr ⟨by rfl,rfl⟩) ?_ ?_
         rotate_left
         ·simp only [Act.put,sA,sO,sS,i64_w,i32_w]
          rfl
         refine pure_ (i:=23) (N:=some 93) (v:=undef) (a':=?_) laws_FnSparse.m24 rfl rfl (any_of HT_.out (by kernel_rfl)) (fun _ _ _ h=>h) (Or.inr ⟨by rfl,rfl⟩) ?_ ?_
         rotate_left
         ·simp only [Act.put,sA,sO,sS,i64_w,i32_w]
          rfl
         refine pure_ (i:=24) (N:=some 94) (v:=undef) (a':=?_) laws_FnSparse.m25 rfl rfl (any_of HT_.out (by kernel_rfl)) (fun _ _ _ h=>h) (Or.inr ⟨by rfl,rfl⟩) ?_ ?_
         rotate_left
         ·simp only [Act.put,sA,sO,sS,i64_w,i32_w]
          rfl
         refine pure_ (i:=25) (N:=some 95) (v:=undef) (a':=?_) laws_FnSparse.m26 rfl rfl (any_of HT_.out (by kernel_rfl)) (fun _ _ _ h=>h) (Or.inr ⟨by rfl,rfl⟩) ?_ ?_
         rotate_left
         ·simp only [Act.put,sA,sO,sS,i64_w,i32_w]
          rfl
         refine pure_ (i:=26) (N:=some 96) (v:=undef) (a':=?_) laws_FnSparse.m27 rfl rfl (any_of HT_.out (by kernel_rfl)) (fun _ _ _ h=>h) (Or.inr ⟨by rfl,rfl⟩) ?_ ?_
         rotate_left
         ·simp only [Act.put,sA,sO,sS,i64_w,i32_w]
          rfl
         refine pure_ (i:=27) (N:=some 97) (v:=?_) (a':=?_) laws_FnSparse.m28 rfl rfl (any_of HT_.out (by kernel_rfl)) (fun _ _ _ h=>h) (Or.inl ⟨by rfl,?_⟩) ?_ ?_
         rotate_left
         ·intro w'
          go_simp
          with_reducible rfl
         rotate_left
         ·simp only [Act.put,sA,sO,sS,i64_w,i32_w]
          rfl
         refine pure_ (i:=28) (N:=some 98) (v:=?_) (a':=?_) laws_FnSparse.m29 rfl rfl (any_of HT_.out (by kernel_rfl)) (fun _ _ _ h=>h) (Or.inl ⟨by rfl,?_⟩) ?_ ?_
         rotate_left
         ·intro w'
          go_simp
          with_reducible rfl
         rotate_left
         ·simp only [Act.put,sA,sO,sS,i64_w,i32_w]
          rfl
         refine pure_ (i:=29) (N:=some 99) (v:=undef) (a':=?_) laws_FnSparse.m30 rfl rfl (any_of HT_.out (by kernel_rfl)) (fun _ _ _ h=>h) (Or.inr ⟨by rfl,rfl⟩) ?_ ?_
         rotate_left
         ·simp only [Act.put,sA,sO,sS,i64_w,i32_w]
          rfl
         refine pure_ (i:=30) (N:=some 100) (v:=undef) (a':=?_) laws_FnSparse.m31 rfl rfl (any_of HT_.out (by kernel_rfl)) (fun _ _ _ h=>h) (Or.inr ⟨by rfl,rfl⟩) ?_ ?_
         rotate_left
         ·simp only [Act.put,sA,sO,sS,i64_w,i32_w]
          rfl
         refine pure_ (i:=31) (N:=some 101) (v:=undef) (a':=?_) laws_FnSparse.m32 rfl rfl (any_of HT_.out (by kernel_rfl)) (fun _ _ _ h=>h) (Or.inr ⟨by rfl,rfl⟩) ?_ ?_
         rotate_left
         ·simp only [Act.put,sA,sO,sS,i64_w,i32_w]
          rfl
         refine pure_ (i:=32) (N:=some 102) (v:=undef) (a':=?_) laws_FnSparse.m33 rfl rfl (any_of HT_.out (by kernel_rfl)) (fun _ _ _ h=>h) (Or.inr ⟨by rfl,rfl⟩) ?_ ?_
         rotate_left
         ·simp only [Act.put,sA,sO,sS,i64_w,i32_w]
          rfl
         refine pure_ (i:=33) (N:=some 103) (v:=undef) (a':=?_) laws_FnSparse.m34 rfl rfl (any_of HT_.out (by kernel_rfl)) (fun _ _ _ h=>h) (Or.inr ⟨by rfl,rfl⟩) ?_ ?_
         rotate_left
         ·simp only [Act.put,sA,sO,sS,i64_w,i32_w]
          rfl
         refine pure_ (i:=34) (N:=some 104) (v:=undef) (a':=?_) laws_FnSparse.m35 rfl rfl (any_of HT_.out (by kernel_rfl)) (fun _ _ _ h=>h) (Or.inr ⟨by rfl,rfl⟩) ?_ ?_
         rotate_left
         ·simp only [Act.put,sA,sO,sS,i64_w,i32_w]
          rfl
         refine pure_ (i:=35) (N:=some 105) (v:=undef) (a':=?_) laws_FnSparse.m36 rfl rfl (any_of HT_.out (by kernel_rfl)) (fun _ _ _ h=>h) (Or.inr ⟨by rfl,rfl⟩) ?_ ?_
         rotate_left
         ·simp only [Act.put,sA,sO,sS,i64_w,i32_w]
          rfl
         refine pure_ (i:=36) (N:=some 106) (v:=?_) (a':=?_) laws_FnSparse.m37 rfl rfl (any_of HT_.out (by kernel_rfl)) (fun _ _ _ h=>h) (Or.inl ⟨by rfl,?_⟩) ?_ ?_
         rotate_left
         ·intro w'
          go_simp
          with_reducible rfl
         rotate_left
         ·simp only [Act.put,sA,sO,sS,i64_w,i32_w]
          rfl
         refine done_ (done_of HT_.out (by kernel_rfl)) ?_
         try go_wp2
         go_meet
         case rel=>exact⟨_,(true),(by first|rfl|(simp;done)|(simp [*];done)),H',⟨by have:=HJ6.out;have:=HJ22.out;have:=HK3.out;first|omega|exact Nat.le_refl _⟩,⟨rR HO_3.out⟩,⟨rR HO_454005.out⟩,⟨rR HO_454007.out⟩,⟨rR HO_468005.out⟩,⟨rR HO_468007.out⟩,⟨kN BK453.out⟩,⟨kN BK467.out⟩,⟨kB HB.out⟩⟩
        rw [if_neg c57] at H
        have c57b0:decide (x9_3 < t475) = false:=decide_eq_false c57
        clear c57
        by_cases c60:t475 < 0
        ·rw [if_pos c60] at H
         have c60b0:decide (t475 < 0) = true:=decide_eq_true c60
         clear c60
         have H':=mk0 H
         clear H
         try go_wp2
         replace HO_3:=mk0 (dR HO_3.out)
         replace HO_454005:=mk0 (dR HO_454005.out)
         replace HO_454007:=mk0 (dR HO_454007.out)
         replace HO_468005:=mk0 (dR HO_468005.out)
         replace HO_468007:=mk0 (dR HO_468007.out)
         replace BK453:=mk0 (dB BK453.out)
         replace BK467:=mk0 (dB BK467.out)
         replace HB:=mk0 (dZ HB.out)
         have p477:0 ≤ (x9_3:Int):=of_decide_eq_true (by first|(with_reducible assumption)|assumption)
         have q477:x9_3 < (t436.length:Int):=of_decide_eq_true (by first|(with_reducible assumption)|assumption)
         obtain⟨ad477,e477,hx477_0⟩:=Kd.at_int (Kd.R_reads' HO_3.out).2.2 x9_3 p477 q477
         obtain rfl:ad474 = ad477:=(by injection e477)
         replace p477:=eq_true p477
         replace q477:=eq_true q477
         refine start_ (n:=37) (S:=fun w'=>w'.cell? ⟨gb467,0,none⟩ = some (.int .i64 t454) ∧ w'.cell? ⟨gb467,1,none⟩ = some (.int .i64 t455) ∧ w'.cell? ⟨gb467,2,none⟩ = some (.int .i64 t456) ∧ w'.cell? ⟨gb467,3,none⟩ = some (.int .i64 t457) ∧ w'.cell? ⟨gb467,4,none⟩ = some (.int .i64 t458) ∧ w'.cell? ⟨gb467,5,none⟩ = some (.slice Ao19 t459.length co19) ∧ w'.cell? ⟨gb467,6,none⟩ = some (.int .i64 t462) ∧ w'.cell? ⟨gb467,7,none⟩ = some (.slice Ao20 t463.length co20) ∧ w'.cell? (ad474.add (x9_3).toNat) = some (.int .i64 (rd t436 x9_3))) (ds:=[]) laws_FnSparse.m0 (by kernel_rfl) rfl rfl ⟨(blk_cell BK467.out 0).trans rfl,(blk_cell BK467.out 1).trans rfl,(blk_cell BK467.out 2).trans rfl,(blk_cell BK467.out 3).trans rfl,(blk_cell BK467.out 4).trans rfl,(blk_cell BK467.out 5).trans rfl,(blk_cell BK467.out 6).trans rfl,(blk_cell BK467.out 7).trans rfl,hx477_0⟩ (fun hHeld=>?_);refine with_tabW laws_FnSparse.tab14 laws_FnSparse.bits14 (fun HT_ HW_=>?_)
         generalize w54.drew = w61 at HO_3 HO_454005 HO_454007 HO_468005 HO_468007 BK453 BK467 HB hx477_0 hHeld ⊢
         refine pure_ (i:=1) (N:=some 71) (v:=?_) (a':=?_) laws_FnSparse.m1 rfl rfl (any_of HT_.out (by kernel_rfl)) (fun _ _ _ h=>h) (Or.inl ⟨by rfl,?_⟩) ?_ ?_
         rotate_left
         ·intro w'
          go_simp
          with_reducible rfl
         rotate_left
         ·simp only [Act.put,sA,sO,sS,i64_w,i32_w]
          rfl
         refine pure_ (i:=3) (N:=some 73) (v:=?_) (a':=?_) laws_FnSparse.m2 rfl rfl (any_of HT_.out (by kernel_rfl)) (fun _ _ _ h=>h) (Or.inl ⟨by rfl,?_⟩) ?_ ?_
         rotate_left
         ·intro w'
          go_simp
          with_reducible rfl
         rotate_left
         ·simp only [Act.put,sA,sO,sS,i64_w,i32_w]
          rfl
         refine pure_ (i:=4) (N:=some 74) (v:=?_) (a':=?_) laws_FnSparse.m3 rfl rfl (any_of HT_.out (by kernel_rfl)) (fun _ _ _ h=>h) (Or.inl ⟨by rfl,?_⟩) ?_ ?_
         rotate_left
         ·intro w'
          go_simp
          with_reducible rfl
         rotate_left
         ·simp only [Act.put,sA,sO,sS,i64_w,i32_w]
          rfl
         refine pure_ (i:=5) (N:=some 75) (v:=?_) (a':=?_) laws_FnSparse.m4 rfl rfl (any_of HT_.out (by kernel_rfl)) (fun _ _ _ h=>h) (Or.inl ⟨by rfl,?_⟩) ?_ ?_
         rotate_left
         ·intro w'
          go_simp
          with_reducible rfl
         rotate_left
         ·simp only [Act.put,sA,sO,sS,i64_w,i32_w]
          rfl
         refine take_ (i:=0) (N:=some 70) (v:=?_) (a':=?_) laws_FnSparse.m5 rfl rfl (take_ofW HT_.out HW_.out (by kernel_rfl)) (fun _ _ _ h=>h) (Or.inl ⟨by rfl,?_⟩) hHeld ?_ ?_
         rotate_left
         ·rintro w' ⟨s0,s1,s2,s3,s4,s5,s6,s7,s8⟩
          go_simp
          with_reducible rfl
         rotate_left
         ·simp only [Act.put,sA,sO,sS,i64_w,i32_w]
          rfl
         refine take_ (i:=6) (N:=some 76) (v:=?_) (a':=?_) laws_FnSparse.m6 rfl rfl (take_ofW HT_.out HW_.out (by kernel_rfl)) (fun _ _ _ h=>h) (Or.inl ⟨by rfl,?_⟩) hHeld ?_ ?_
         rotate_left
         ·rintro w' ⟨s0,s1,s2,s3,s4,s5,s6,s7,s8⟩
          go_simp
          with_reducible rfl
         rotate_left
         ·simp only [Act.put,sA,sO,sS,i64_w,i32_w]
          rfl
         refine one_ (i:=2) (N:=some 72) laws_FnSparse.m7 rfl rfl (one_of HT_.out (by kernel_rfl)) (by decide) (fun K hK=>?_)
         refine goes_ Try.func15 (by kernel_rfl) rfl #[.agg #[.int .i64 t454,.int .i64 t455,.int .i64 t456,.int .i64 t457,.int .i64 t458,.slice Ao19 t459.length co19,.int .i64 t462,.slice Ao20 t463.length co20],.int .i64 x9_3] (by rfl) rfl rfl (by (try simp only [mA,mC,mN]);first|done|rfl|(simp only [List.length_drop,List.length_take];done)|(simp only [List.length_drop,List.length_take];rfl)) ?_
         with_reducible refine (impl_SparseAt.calls k3 t454 t455 t456 t457 t458 _ _ t459 t462 _ _ t463 x9_3 t476 _ ?side1 ?side2 ?side3 ?side4 A55.out).mono ?_
         (case side1=>exact kC (Kd.R_reads' HO_468005.out).2.2)
         (case side2=>exact (Kd.R_reads' HO_468005.out).2.1)
         (case side3=>exact kC (Kd.R_reads' HO_468007.out).2.2)
         (case side4=>exact (Kd.R_reads' HO_468007.out).2.1)
         rintro e w62 ⟨rfl,hb⟩
         have HS8_:=(hb.cell (World.block_lt_of_cell? _ _ (hHeld.2.2.2.2.2.2.2.2))).trans (hHeld.2.2.2.2.2.2.2.2)
         refine⟨_,rfl,?_⟩
         replace HO_3:=mk0 (bR HO_3.out hb)
         replace HO_454005:=mk0 (bR HO_454005.out hb)
         replace HO_454007:=mk0 (bR HO_454007.out hb)
         replace HO_468005:=mk0 (bR HO_468005.out hb)
         replace HO_468007:=mk0 (bR HO_468007.out hb)
         replace BK453:=mk0 (kK BK453.out hb)
         replace BK467:=mk0 (kK BK467.out hb)
         replace HB:=mk0 (kS HB.out hb)
         (try clear hb)
         refine hK.out _ _ ⟨(blk_cell BK467.out 0).trans rfl,(blk_cell BK467.out 1).trans rfl,(blk_cell BK467.out 2).trans rfl,(blk_cell BK467.out 3).trans rfl,(blk_cell BK467.out 4).trans rfl,(blk_cell BK467.out 5).trans rfl,(blk_cell BK467.out 6).trans rfl,(blk_cell BK467.out 7).trans rfl,HS8_⟩ (fun hHeld=>?_)
         clear hK K
         refine norm_ (a':=?_) ?_ ?_
         rotate_left
         ·show Act.put _ (some 72) _ = _
          simp only [Act.put,sA,sO,sS,i64_w,i32_w]
          rfl
         refine pure_ (i:=7) (N:=some 77) (v:=?_) (a':=?_) laws_FnSparse.m8 rfl rfl (any_of HT_.out (by kernel_rfl)) (fun _ _ _ h=>h) (Or.inl ⟨by rfl,?_⟩) ?_ ?_
         rotate_left
         ·intro w'
          go_simp
          with_reducible rfl
         rotate_left
         ·simp only [Act.put,sA,sO,sS,i64_w,i32_w]
          rfl
         refine pure_ (i:=8) (N:=some 78) (v:=?_) (a':=?_) laws_FnSparse.m9 rfl rfl (any_of HT_.out (by kernel_rfl)) (fun _ _ _ h=>h) (Or.inl ⟨by rfl,?_⟩) ?_ ?_
         rotate_left
         ·intro w'
          go_simp
          with_reducible rfl
         rotate_left
         ·simp only [Act.put,sA,sO,sS,i64_w,i32_w]
          rfl
         refine pure_ (i:=9) (N:=some 79) (v:=?_) (a':=?_) laws_FnSparse.m10 rfl rfl (any_of HT_.out (by kernel_rfl)) (fun _ _ _ h=>h) (Or.inl ⟨by rfl,?_⟩) ?_ ?_
         rotate_left
         ·intro w'
          go_simp
          with_reducible rfl
         rotate_left
         ·simp only [Act.put,sA,sO,sS,i64_w,i32_w]
          rfl
         refine pure_ (i:=10) (N:=some 80) (v:=?_) (a':=?_) laws_FnSparse.m11 rfl rfl (any_of HT_.out (by kernel_rfl)) (fun _ _ _ h=>h) (Or.inl ⟨by rfl,?_⟩) ?_ ?_
         rotate_left
         ·intro w'
          go_simp
          with_reducible rfl
         rotate_left
         ·simp only [Act.put,sA,sO,sS,i64_w,i32_w]
          rfl
         refine pure_ (i:=11) (N:=some 81) (v:=?_) (a':=?_) laws_FnSparse.m12 rfl rfl (any_of HT_.out (by kernel_rfl)) (fun _ _ _ h=>h) (Or.inl ⟨by rfl,?_⟩) ?_ ?_
         rotate_left
         ·intro w'
          go_simp
          with_reducible rfl
         rotate_left
         ·simp only [Act.put,sA,sO,sS,i64_w,i32_w]
          rfl
         refine pure_ (i:=12) (N:=some 82) (v:=?_) (a':=?_) laws_FnSparse.m13 rfl rfl (any_of HT_.out (by kernel_rfl)) (fun _ _ _ h=>h) (Or.inl ⟨by rfl,?_⟩) ?_ ?_
         rotate_left
         ·intro w'
          go_simp
          with_reducible rfl
         rotate_left
         ·simp only [Act.put,sA,sO,sS,i64_w,i32_w]
          rfl
         refine pure_ (i:=13) (N:=some 83) (v:=?_) (a':=?_) laws_FnSparse.m14 rfl rfl (any_of HT_.out (by kernel_rfl)) (fun _ _ _ h=>h) (Or.inl ⟨by rfl,?_⟩) ?_ ?_
         rotate_left
         ·intro w'
          go_simp
          with_reducible rfl
         rotate_left
         ·simp only [Act.put,sA,sO,sS,i64_w,i32_w]
          rfl
         refine pure_ (i:=14) (N:=some 84) (v:=?_) (a':=?_) laws_FnSparse.m15 rfl rfl (any_of HT_.out (by kernel_rfl)) (fun _ _ _ h=>h) (Or.inl ⟨by rfl,?_⟩) ?_ ?_
         rotate_left
         ·intro w'
          go_simp
          with_reducible rfl
         rotate_left
         ·simp only [Act.put,sA,sO,sS,i64_w,i32_w]
          rfl
         refine pure_ (i:=15) (N:=some 85) (v:=?_) (a':=?_) laws_FnSparse.m16 rfl rfl (any_of HT_.out (by kernel_rfl)) (fun _ _ _ h=>h) (Or.inl ⟨by rfl,?_⟩) ?_ ?_
         rotate_left
         ·intro w'
          go_simp
          with_reducible rfl
         rotate_left
         ·simp only [Act.put,sA,sO,sS,i64_w,i32_w]
          rfl
         refine pure_ (i:=16) (N:=some 86) (v:=?_) (a':=?_) laws_FnSparse.m17 rfl rfl (any_of HT_.out (by kernel_rfl)) (fun _ _ _ h=>h) (Or.inl ⟨by rfl,?_⟩) ?_ ?_
         rotate_left
         ·intro w'
          go_simp
          with_reducible rfl
         rotate_left
         ·simp only [Act.put,sA,sO,sS,i64_w,i32_w]
          rfl
         refine pure_ (i:=17) (N:=some 87) (v:=?_) (a':=?_) laws_FnSparse.m18 rfl rfl (any_of HT_.out (by kernel_rfl)) (fun _ _ _ h=>h) (Or.inl ⟨by rfl,?_⟩) ?_ ?_
         rotate_left
         ·intro w'
          go_simp
          with_reducible rfl
         rotate_left
         ·simp only [Act.put,sA,sO,sS,i64_w,i32_w]
          rfl
         refine pure_ (i:=18) (N:=some 88) (v:=undef) (a':=?_) laws_FnSparse.m19 rfl rfl (any_of HT_.out (by kernel_rfl)) (fun _ _ _ h=>h) (Or.inr ⟨by rfl,rfl⟩) ?_ ?_
         rotate_left
         ·simp only [Act.put,sA,sO,sS,i64_w,i32_w]
          rfl
         refine pure_ (i:=19) (N:=some 89) (v:=undef) (a':=?_) laws_FnSparse.m20 rfl rfl (any_of HT_.out (by kernel_rfl)) (fun _ _ _ h=>h) (Or.inr ⟨by rfl,rfl⟩) ?_ ?_
         rotate_left
         ·simp only [Act.put,sA,sO,sS,i64_w,i32_w]
          rfl
         refine pure_ (i:=20) (N:=some 90) (v:=undef) (a':=?_) laws_FnSparse.m21 rfl rfl (any_of HT_.out (by kernel_rfl)) (fun _ _ _ h=>h) (Or.inr ⟨by rfl,rfl⟩) ?_ ?_
         rotate_left
         ·simp only [Act.put,sA,sO,sS,i64_w,i32_w]
          rfl
         refine pure_ (i:=21) (N:=some 91) (v:=undef) (a':=?_) laws_FnSparse.m22 rfl rfl (any_of HT_.out (by kernel_rfl)) (fun _ _ _ h=>h) (Or.inr ⟨by rfl,rfl⟩) ?_ ?_
         rotate_left
         ·simp only [Act.put,sA,sO,sS,i64_w,i32_w]
          rfl
         refine pure_ (i:=22) (N:=some 92) (v:=undef) (a':=?_) laws_FnSparse.m23 rfl rfl (any_of HT_.out (by kernel_rfl)) (fun _ _ _ h=>h) (Or.inr ⟨by rfl,rfl⟩) ?_ ?_
         rotate_left
         ·simp only [Act.put,sA,sO,sS,i64_w,i32_w]
          rfl
         refine pure_ (i:=23) (N:=some 93) (v:=undef) (a':=?_) laws_FnSparse.m24 rfl rfl (any_of HT_.out (by kernel_rfl)) (fun _ _ _ h=>h) (Or.inr ⟨by rfl,rfl⟩) ?_ ?_
         rotate_left
         ·simp only [Act.put,sA,sO,sS,i64_w,i32_w]
          rfl
         refine pure_ (i:=24) (N:=some 94) (v:=undef) (a':=?_) laws_FnSparse.m25 rfl rfl (any_of HT_.out (by kernel_rfl)) (fun _ _ _ h=>h) (Or.inr ⟨by rfl,rfl⟩) ?_ ?_
         rotate_left
         ·simp only [Act.put,sA,sO,sS,i64_w,i32_w]
          rfl
         refine pure_ (i:=25) (N:=some 95) (v:=undef) (a':=?_) laws_FnSparse.m26 rfl rfl (any_of HT_.out (by kernel_rfl)) (fun _ _ _ h=>h) (Or.inr ⟨by rfl,rfl⟩) ?_ ?_
         rotate_left
         ·simp only [Act.put,sA,sO,sS,i64_w,i32_w]
          rfl
         refine pure_ (i:=26) (N:=some 96) (v:=undef) (a':=?_) laws_FnSparse.m27 rfl rfl (any_of HT_.out (by kernel_rfl)) (fun _ _ _ h=>h) (Or.inr ⟨by rfl,rfl⟩) ?_ ?_
         rotate_left
         ·simp only [Act.put,sA,sO,sS,i64_w,i32_w]
          rfl
         refine pure_ (i:=27) (N:=some 97) (v:=?_) (a':=?_) laws_FnSparse.m28 rfl rfl (any_of HT_.out (by kernel_rfl)) (fun _ _ _ h=>h) (Or.inl ⟨by rfl,?_⟩) ?_ ?_
         rotate_left
         ·intro w'
          go_simp
          with_reducible rfl
         rotate_left
         ·simp only [Act.put,sA,sO,sS,i64_w,i32_w]
          rfl
         refine pure_ (i:=28) (N:=some 98) (v:=?_) (a':=?_) laws_FnSparse.m29 rfl rfl (any_of HT_.out (by kernel_rfl)) (fun _ _ _ h=>h) (Or.inl ⟨by rfl,?_⟩) ?_ ?_
         rotate_left
         ·intro w'
          go_simp
          with_reducible rfl
         rotate_left
         ·simp only [Act.put,sA,sO,sS,i64_w,i32_w]
          rfl
         refine pure_ (i:=29) (N:=some 99) (v:=undef) (a':=?_) laws_FnSparse.m30 rfl rfl (any_of HT_.out (by kernel_rfl)) (fun _ _ _ h=>h) (Or.inr ⟨by rfl,rfl⟩) ?_ ?_
         rotate_left
         ·simp only [Act.put,sA,sO,sS,i64_w,i32_w]
          rfl
         refine pure_ (i:=30) (N:=some 100) (v:=undef) (a':=?_) laws_FnSparse.m31 rfl rfl (any_of HT_.out (by kernel_rfl)) (fun _ _ _ h=>h) (Or.inr ⟨by rfl,rfl⟩) ?_ ?_
         rotate_left
         ·simp only [Act.put,sA,sO,sS,i64_w,i32_w]
          rfl
         refine pure_ (i:=31) (N:=some 101) (v:=undef) (a':=?_) laws_FnSparse.m32 rfl rfl (any_of HT_.out (by kernel_rfl)) (fun _ _ _ h=>h) (Or.inr ⟨by rfl,rfl⟩) ?_ ?_
         rotate_left
         ·simp only [Act.put,sA,sO,sS,i64_w,i32_w]
          rfl
         refine pure_ (i:=32) (N:=some 102) (v:=undef) (a':=?_) laws_FnSparse.m33 rfl rfl (any_of HT_.out (by kernel_rfl)) (fun _ _ _ h=>h) (Or.inr ⟨by rfl,rfl⟩) ?_ ?_
         rotate_left
         ·simp only [Act.put,sA,sO,sS,i64_w,i32_w]
          rfl
         refine pure_ (i:=33) (N:=some 103) (v:=undef) (a':=?_) laws_FnSparse.m34 rfl rfl (any_of HT_.out (by kernel_rfl)) (fun _ _ _ h=>h) (Or.inr ⟨by rfl,rfl⟩) ?_ ?_
         rotate_left
         ·simp only [Act.put,sA,sO,sS,i64_w,i32_w]
          rfl
         refine pure_ (i:=34) (N:=some 104) (v:=undef) (a':=?_) laws_FnSparse.m35 rfl rfl (any_of HT_.out (by kernel_rfl)) (fun _ _ _ h=>h) (Or.inr ⟨by rfl,rfl⟩) ?_ ?_
         rotate_left
         ·simp only [Act.put,sA,sO,sS,i64_w,i32_w]
          rfl
         refine pure_ (i:=35) (N:=some 105) (v:=undef) (a':=?_) laws_FnSparse.m36 rfl rfl (any_of HT_.out (by kernel_rfl)) (fun _ _ _ h=>h) (Or.inr ⟨by rfl,rfl⟩) ?_ ?_
         rotate_left
         ·simp only [Act.put,sA,sO,sS,i64_w,i32_w]
          rfl
         refine pure_ (i:=36) (N:=some 106) (v:=?_) (a':=?_) laws_FnSparse.m37 rfl rfl (any_of HT_.out (by kernel_rfl)) (fun _ _ _ h=>h) (Or.inl ⟨by rfl,?_⟩) ?_ ?_
         rotate_left
         ·intro w'
          go_simp
          with_reducible rfl
         rotate_left
         ·simp only [Act.put,sA,sO,sS,i64_w,i32_w]
          rfl
         refine done_ (done_of HT_.out (by kernel_rfl)) ?_
         try go_wp2
         go_meet
         case rel=>exact⟨_,(true),(by first|rfl|(simp;done)|(simp [*];done)),H',⟨by have:=HJ6.out;have:=HJ22.out;have:=HK3.out;first|omega|exact Nat.le_refl _⟩,⟨rR HO_3.out⟩,⟨rR HO_454005.out⟩,⟨rR HO_454007.out⟩,⟨rR HO_468005.out⟩,⟨rR HO_468007.out⟩,⟨kN BK453.out⟩,⟨kN BK467.out⟩,⟨kB HB.out⟩⟩
        rw [if_neg c60] at H
        have c60b0:decide (t475 < 0) = false:=decide_eq_false c60
        clear c60
        by_cases c63:0 ≤ t475
        rotate_left
        ·rw [if_neg c63] at H
         exact absurd H (by simp)
        rw [if_pos c63] at H
        have c63b0:decide (0 ≤ t475) = true:=decide_eq_true c63
        clear c63
        by_cases c64:t475 < (t436.length:Int)
        rotate_left
        ·rw [if_neg c64] at H
         exact absurd H (by simp)
        rw [if_pos c64] at H
        have c64b0:decide (t475 < (t436.length:Int)) = true:=decide_eq_true c64
        clear c64
        by_cases c65:(rd t436 t475) = (rd t436 x9_3)
        rotate_left
        ·rw [if_neg c65] at H
         have c65b0:((rd t436 t475) == (rd t436 x9_3)) = false:=beq_eq_false_iff_ne.mpr c65
         have c65b1:((rd t436 t475) != (rd t436 x9_3)) = true:=bne_iff_ne.mpr c65
         have H':=mk0 H
         clear H
         try go_wp2
         replace HO_3:=mk0 (dR HO_3.out)
         replace HO_454005:=mk0 (dR HO_454005.out)
         replace HO_454007:=mk0 (dR HO_454007.out)
         replace HO_468005:=mk0 (dR HO_468005.out)
         replace HO_468007:=mk0 (dR HO_468007.out)
         replace BK453:=mk0 (dB BK453.out)
         replace BK467:=mk0 (dB BK467.out)
         replace HB:=mk0 (dZ HB.out)
         have p477:0 ≤ (x9_3:Int):=of_decide_eq_true (by first|(with_reducible assumption)|assumption)
         have q477:x9_3 < (t436.length:Int):=of_decide_eq_true (by first|(with_reducible assumption)|assumption)
         obtain⟨ad477,e477,hx477_0⟩:=Kd.at_int (Kd.R_reads' HO_3.out).2.2 x9_3 p477 q477
         obtain rfl:ad474 = ad477:=(by injection e477)
         replace p477:=eq_true p477
         replace q477:=eq_true q477
         have p478:0 ≤ (t475:Int):=of_decide_eq_true (by first|(with_reducible assumption)|assumption)
         have q478:t475 < (t436.length:Int):=of_decide_eq_true (by first|(with_reducible assumption)|assumption)
         obtain⟨ad478,e478,hx478_0⟩:=Kd.at_int (Kd.R_reads' HO_3.out).2.2 t475 p478 q478
         obtain rfl:ad474 = ad478:=(by injection e478)
         replace p478:=eq_true p478
         replace q478:=eq_true q478
         have p479:0 ≤ (x9_3:Int):=of_decide_eq_true (by first|(with_reducible assumption)|assumption)
         have q479:x9_3 < (t436.length:Int):=of_decide_eq_true (by first|(with_reducible assumption)|assumption)
         obtain⟨ad479,e479,hx479_0⟩:=Kd.at_int (Kd.R_reads' HO_3.out).2.2 x9_3 p479 q479
         obtain rfl:ad474 = ad479:=(by injection e479)
         replace p479:=eq_true p479
         replace q479:=eq_true q479
         refine start_ (n:=37) (S:=fun w'=>w'.cell? ⟨gb467,0,none⟩ = some (.int .i64 t454) ∧ w'.cell? ⟨gb467,1,none⟩ = some (.int .i64 t455) ∧ w'.cell? ⟨gb467,2,none⟩ = some (.int .i64 t456) ∧ w'.cell? ⟨gb467,3,none⟩ = some (.int .i64 t457) ∧ w'.cell? ⟨gb467,4,none⟩ = some (.int .i64 t458) ∧ w'.cell? ⟨gb467,5,none⟩ = some (.slice Ao19 t459.length co19) ∧ w'.cell? ⟨gb467,6,none⟩ = some (.int .i64 t462) ∧ w'.cell? ⟨gb467,7,none⟩ = some (.slice Ao20 t463.length co20) ∧ w'.cell? (ad474.add (x9_3).toNat) = some (.int .i64 (rd t436 x9_3)) ∧ w'.cell? (ad474.add (t475).toNat) = some (.int .i64 (rd t436 t475)) ∧ w'.cell? (ad474.add (x9_3).toNat) = some (.int .i64 (rd t436 x9_3))) (ds:=[]) laws_FnSparse.m0 (by kernel_rfl) rfl rfl ⟨(blk_cell BK467.out 0).trans rfl,(blk_cell BK467.out 1).trans rfl,(blk_cell BK467.out 2).trans rfl,(blk_cell BK467.out 3).trans rfl,(blk_cell BK467.out 4).trans rfl,(blk_cell BK467.out 5).trans rfl,(blk_cell BK467.out 6).trans rfl,(blk_cell BK467.out 7).trans rfl,hx477_0,hx478_0,hx479_0⟩ (fun hHeld=>?_);refine with_tabW laws_FnSparse.tab14 laws_FnSparse.bits14 (fun HT_ HW_=>?_)
         generalize w54.drew = w70 at HO_3 HO_454005 HO_454007 HO_468005 HO_468007 BK453 BK467 HB hx477_0 hx478_0 hx479_0 hHeld ⊢
         refine pure_ (i:=1) (N:=some 71) (v:=?_) (a':=?_) laws_FnSparse.m1 rfl rfl (any_of HT_.out (by kernel_rfl)) (fun _ _ _ h=>h) (Or.inl ⟨by rfl,?_⟩) ?_ ?_
         rotate_left
         ·intro w'
          go_simp
          with_reducible rfl
         rotate_left
         ·simp only [Act.put,sA,sO,sS,i64_w,i32_w]
          rfl
         refine pure_ (i:=3) (N:=some 73) (v:=?_) (a':=?_) laws_FnSparse.m2 rfl rfl (any_of HT_.out (by kernel_rfl)) (fun _ _ _ h=>h) (Or.inl ⟨by rfl,?_⟩) ?_ ?_
         rotate_left
         ·intro w'
          go_simp
          with_reducible rfl
         rotate_left
         ·simp only [Act.put,sA,sO,sS,i64_w,i32_w]
          rfl
         refine pure_ (i:=4) (N:=some 74) (v:=?_) (a':=?_) laws_FnSparse.m3 rfl rfl (any_of HT_.out (by kernel_rfl)) (fun _ _ _ h=>h) (Or.inl ⟨by rfl,?_⟩) ?_ ?_
         rotate_left
         ·intro w'
          go_simp
          with_reducible rfl
         rotate_left
         ·simp only [Act.put,sA,sO,sS,i64_w,i32_w]
          rfl
         refine pure_ (i:=5) (N:=some 75) (v:=?_) (a':=?_) laws_FnSparse.m4 rfl rfl (any_of HT_.out (by kernel_rfl)) (fun _ _ _ h=>h) (Or.inl ⟨by rfl,?_⟩) ?_ ?_
         rotate_left
         ·intro w'
          go_simp
          with_reducible rfl
         rotate_left
         ·simp only [Act.put,sA,sO,sS,i64_w,i32_w]
          rfl
         refine take_ (i:=0) (N:=some 70) (v:=?_) (a':=?_) laws_FnSparse.m5 rfl rfl (take_ofW HT_.out HW_.out (by kernel_rfl)) (fun _ _ _ h=>h) (Or.inl ⟨by rfl,?_⟩) hHeld ?_ ?_
         rotate_left
         ·rintro w' ⟨s0,s1,s2,s3,s4,s5,s6,s7,s8,s9,s10⟩
          go_simp
          with_reducible rfl
         rotate_left
         ·simp only [Act.put,sA,sO,sS,i64_w,i32_w]
          rfl
         refine take_ (i:=6) (N:=some 76) (v:=?_) (a':=?_) laws_FnSparse.m6 rfl rfl (take_ofW HT_.out HW_.out (by kernel_rfl)) (fun _ _ _ h=>h) (Or.inl ⟨by rfl,?_⟩) hHeld ?_ ?_
         rotate_left
         ·rintro w' ⟨s0,s1,s2,s3,s4,s5,s6,s7,s8,s9,s10⟩
          go_simp
          with_reducible rfl
         rotate_left
         ·simp only [Act.put,sA,sO,sS,i64_w,i32_w]
          rfl
         refine one_ (i:=2) (N:=some 72) laws_FnSparse.m7 rfl rfl (one_of HT_.out (by kernel_rfl)) (by decide) (fun K hK=>?_)
         refine goes_ Try.func15 (by kernel_rfl) rfl #[.agg #[.int .i64 t454,.int .i64 t455,.int .i64 t456,.int .i64 t457,.int .i64 t458,.slice Ao19 t459.length co19,.int .i64 t462,.slice Ao20 t463.length co20],.int .i64 x9_3] (by rfl) rfl rfl (by (try simp only [mA,mC,mN]);first|done|rfl|(simp only [List.length_drop,List.length_take];done)|(simp only [List.length_drop,List.length_take];rfl)) ?_
         with_reducible refine (impl_SparseAt.calls k3 t454 t455 t456 t457 t458 _ _ t459 t462 _ _ t463 x9_3 t476 _ ?side1 ?side2 ?side3 ?side4 A55.out).mono ?_
         (case side1=>exact kC (Kd.R_reads' HO_468005.out).2.2)
         (case side2=>exact (Kd.R_reads' HO_468005.out).2.1)
         (case side3=>exact kC (Kd.R_reads' HO_468007.out).2.2)
         (case side4=>exact (Kd.R_reads' HO_468007.out).2.1)
         rintro e w71 ⟨rfl,hb⟩
         have HS8_:=(hb.cell (World.block_lt_of_cell? _ _ (hHeld.2.2.2.2.2.2.2.2.1))).trans (hHeld.2.2.2.2.2.2.2.2.1)
         have HS9_:=(hb.cell (World.block_lt_of_cell? _ _ (hHeld.2.2.2.2.2.2.2.2.2.1))).trans (hHeld.2.2.2.2.2.2.2.2.2.1)
         have HS10_:=(hb.cell (World.block_lt_of_cell? _ _ (hHeld.2.2.2.2.2.2.2.2.2.2))).trans (hHeld.2.2.2.2.2.2.2.2.2.2)
         refine⟨_,rfl,?_⟩
         replace HO_3:=mk0 (bR HO_3.out hb)
         replace HO_454005:=mk0 (bR HO_454005.out hb)
         replace HO_454007:=mk0 (bR HO_454007.out hb)
         replace HO_468005:=mk0 (bR HO_468005.out hb)
         replace HO_468007:=mk0 (bR HO_468007.out hb)
         replace BK453:=mk0 (kK BK453.out hb)
         replace BK467:=mk0 (kK BK467.out hb)
         replace HB:=mk0 (kS HB.out hb)
         (try clear hb)
         refine hK.out _ _ ⟨(blk_cell BK467.out 0).trans rfl,(blk_cell BK467.out 1).trans rfl,(blk_cell BK467.out 2).trans rfl,(blk_cell BK467.out 3).trans rfl,(blk_cell BK467.out 4).trans rfl,(blk_cell BK467.out 5).trans rfl,(blk_cell BK467.out 6).trans rfl,(blk_cell BK467.out 7).trans rfl,HS8_,HS9_,HS10_⟩ (fun hHeld=>?_)
         clear hK K
         refine norm_ (a':=?_) ?_ ?_
         rotate_left
         ·show Act.put _ (some 72) _ = _
          simp only [Act.put,sA,sO,sS,i64_w,i32_w]
          rfl
         refine pure_ (i:=7) (N:=some 77) (v:=?_) (a':=?_) laws_FnSparse.m8 rfl rfl (any_of HT_.out (by kernel_rfl)) (fun _ _ _ h=>h) (Or.inl ⟨by rfl,?_⟩) ?_ ?_
         rotate_left
         ·intro w'
          go_simp
          with_reducible rfl
         rotate_left
         ·simp only [Act.put,sA,sO,sS,i64_w,i32_w]
          rfl
         refine pure_ (i:=8) (N:=some 78) (v:=?_) (a':=?_) laws_FnSparse.m9 rfl rfl (any_of HT_.out (by kernel_rfl)) (fun _ _ _ h=>h) (Or.inl ⟨by rfl,?_⟩) ?_ ?_
         rotate_left
         ·intro w'
          go_simp
          with_reducible rfl
         rotate_left
         ·simp only [Act.put,sA,sO,sS,i64_w,i32_w]
          rfl
         refine pure_ (i:=9) (N:=some 79) (v:=?_) (a':=?_) laws_FnSparse.m10 rfl rfl (any_of HT_.out (by kernel_rfl)) (fun _ _ _ h=>h) (Or.inl ⟨by rfl,?_⟩) ?_ ?_
         rotate_left
         ·intro w'
          go_simp
          with_reducible rfl
         rotate_left
         ·simp only [Act.put,sA,sO,sS,i64_w,i32_w]
          rfl
         refine pure_ (i:=10) (N:=some 80) (v:=?_) (a':=?_) laws_FnSparse.m11 rfl rfl (any_of HT_.out (by kernel_rfl)) (fun _ _ _ h=>h) (Or.inl ⟨by rfl,?_⟩) ?_ ?_
         rotate_left
         ·intro w'
          go_simp
          with_reducible rfl
         rotate_left
         ·simp only [Act.put,sA,sO,sS,i64_w,i32_w]
          rfl
         refine pure_ (i:=11) (N:=some 81) (v:=?_) (a':=?_) laws_FnSparse.m12 rfl rfl (any_of HT_.out (by kernel_rfl)) (fun _ _ _ h=>h) (Or.inl ⟨by rfl,?_⟩) ?_ ?_
         rotate_left
         ·intro w'
          go_simp
          with_reducible rfl
         rotate_left
         ·simp only [Act.put,sA,sO,sS,i64_w,i32_w]
          rfl
         refine pure_ (i:=12) (N:=some 82) (v:=?_) (a':=?_) laws_FnSparse.m13 rfl rfl (any_of HT_.out (by kernel_rfl)) (fun _ _ _ h=>h) (Or.inl ⟨by rfl,?_⟩) ?_ ?_
         rotate_left
         ·intro w'
          go_simp
          with_reducible rfl
         rotate_left
         ·simp only [Act.put,sA,sO,sS,i64_w,i32_w]
          rfl
         refine pure_ (i:=13) (N:=some 83) (v:=?_) (a':=?_) laws_FnSparse.m14 rfl rfl (any_of HT_.out (by kernel_rfl)) (fun _ _ _ h=>h) (Or.inl ⟨by rfl,?_⟩) ?_ ?_
         rotate_left
         ·intro w'
          go_simp
          with_reducible rfl
         rotate_left
         ·simp only [Act.put,sA,sO,sS,i64_w,i32_w]
          rfl
         refine pure_ (i:=14) (N:=some 84) (v:=?_) (a':=?_) laws_FnSparse.m15 rfl rfl (any_of HT_.out (by kernel_rfl)) (fun _ _ _ h=>h) (Or.inl ⟨by rfl,?_⟩) ?_ ?_
         rotate_left
         ·intro w'
          go_simp
          with_reducible rfl
         rotate_left
         ·simp only [Act.put,sA,sO,sS,i64_w,i32_w]
          rfl
         refine pure_ (i:=15) (N:=some 85) (v:=?_) (a':=?_) laws_FnSparse.m16 rfl rfl (any_of HT_.out (by kernel_rfl)) (fun _ _ _ h=>h) (Or.inl ⟨by rfl,?_⟩) ?_ ?_
         rotate_left
         ·intro w'
          go_simp
          with_reducible rfl
         rotate_left
         ·simp only [Act.put,sA,sO,sS,i64_w,i32_w]
          rfl
         refine pure_ (i:=16) (N:=some 86) (v:=?_) (a':=?_) laws_FnSparse.m17 rfl rfl (any_of HT_.out (by kernel_rfl)) (fun _ _ _ h=>h) (Or.inl ⟨by rfl,?_⟩) ?_ ?_
         rotate_left
         ·intro w'
          go_simp
          with_reducible rfl
         rotate_left
         ·simp only [Act.put,sA,sO,sS,i64_w,i32_w]
          rfl
         refine pure_ (i:=17) (N:=some 87) (v:=?_) (a':=?_) laws_FnSparse.m18 rfl rfl (any_of HT_.out (by kernel_rfl)) (fun _ _ _ h=>h) (Or.inl ⟨by rfl,?_⟩) ?_ ?_
         rotate_left
         ·intro w'
          go_simp
          with_reducible rfl
         rotate_left
         ·simp only [Act.put,sA,sO,sS,i64_w,i32_w]
          rfl
         refine pure_ (i:=18) (N:=some 88) (v:=?_) (a':=?_) laws_FnSparse.m19 rfl rfl (any_of HT_.out (by kernel_rfl)) (fun _ _ _ h=>h) (Or.inl ⟨by rfl,?_⟩) ?_ ?_
         rotate_left
         ·intro w'
          go_simp
          with_reducible rfl
         rotate_left
         ·simp only [Act.put,sA,sO,sS,i64_w,i32_w]
          rfl
         refine pure_ (i:=19) (N:=some 89) (v:=?_) (a':=?_) laws_FnSparse.m20 rfl rfl (any_of HT_.out (by kernel_rfl)) (fun _ _ _ h=>h) (Or.inl ⟨by rfl,?_⟩) ?_ ?_
         rotate_left
         ·intro w'
          go_simp
          with_reducible rfl
         rotate_left
         ·simp only [Act.put,sA,sO,sS,i64_w,i32_w]
          rfl
         refine pure_ (i:=20) (N:=some 90) (v:=?_) (a':=?_) laws_FnSparse.m21 rfl rfl (any_of HT_.out (by kernel_rfl)) (fun _ _ _ h=>h) (Or.inl ⟨by rfl,?_⟩) ?_ ?_
         rotate_left
         ·intro w'
          go_simp
          with_reducible rfl
         rotate_left
         ·simp only [Act.put,sA,sO,sS,i64_w,i32_w]
          rfl
         refine pure_ (i:=22) (N:=some 92) (v:=?_) (a':=?_) laws_FnSparse.m38 rfl rfl (any_of HT_.out (by kernel_rfl)) (fun _ _ _ h=>h) (Or.inl ⟨by rfl,?_⟩) ?_ ?_
         rotate_left
         ·intro w'
          go_simp
          with_reducible rfl
         rotate_left
         ·simp only [Act.put,sA,sO,sS,i64_w,i32_w]
          rfl
         refine pure_ (i:=23) (N:=some 93) (v:=?_) (a':=?_) laws_FnSparse.m39 rfl rfl (any_of HT_.out (by kernel_rfl)) (fun _ _ _ h=>h) (Or.inl ⟨by rfl,?_⟩) ?_ ?_
         rotate_left
         ·intro w'
          go_simp
          with_reducible rfl
         rotate_left
         ·simp only [Act.put,sA,sO,sS,i64_w,i32_w]
          rfl
         refine pure_ (i:=24) (N:=some 94) (v:=?_) (a':=?_) laws_FnSparse.m40 rfl rfl (any_of HT_.out (by kernel_rfl)) (fun _ _ _ h=>h) (Or.inl ⟨by rfl,?_⟩) ?_ ?_
         rotate_left
         ·intro w'
          go_simp
          with_reducible rfl
         rotate_left
         ·simp only [Act.put,sA,sO,sS,i64_w,i32_w]
          rfl
         refine take_ (i:=21) (N:=some 91) (v:=?_) (a':=?_) laws_FnSparse.m25 rfl rfl (take_ofW HT_.out HW_.out (by kernel_rfl)) (fun _ _ _ h=>h) (Or.inl ⟨by rfl,?_⟩) hHeld ?_ ?_
         rotate_left
         ·rintro w' ⟨s0,s1,s2,s3,s4,s5,s6,s7,s8,s9,s10⟩
          go_simp
          with_reducible rfl
         rotate_left
         ·simp only [Act.put,sA,sO,sS,i64_w,i32_w]
          rfl
         refine take_ (i:=25) (N:=some 95) (v:=?_) (a':=?_) laws_FnSparse.m26 rfl rfl (take_ofW HT_.out HW_.out (by kernel_rfl)) (fun _ _ _ h=>h) (Or.inl ⟨by rfl,?_⟩) hHeld ?_ ?_
         rotate_left
         ·rintro w' ⟨s0,s1,s2,s3,s4,s5,s6,s7,s8,s9,s10⟩
          go_simp
          with_reducible rfl
         rotate_left
         ·simp only [Act.put,sA,sO,sS,i64_w,i32_w]
          rfl
         refine pure_ (i:=26) (N:=some 96) (v:=?_) (a':=?_) laws_FnSparse.m27 rfl rfl (any_of HT_.out (by kernel_rfl)) (fun _ _ _ h=>h) (Or.inl ⟨by rfl,?_⟩) ?_ ?_
         rotate_left
         ·intro w'
          go_simp
          with_reducible rfl
         rotate_left
         ·simp only [Act.put,sA,sO,sS,i64_w,i32_w]
          rfl
         refine pure_ (i:=27) (N:=some 97) (v:=?_) (a':=?_) laws_FnSparse.m28 rfl rfl (any_of HT_.out (by kernel_rfl)) (fun _ _ _ h=>h) (Or.inl ⟨by rfl,?_⟩) ?_ ?_
         rotate_left
         ·intro w'
          go_simp
          with_reducible rfl
         rotate_left
         ·simp only [Act.put,sA,sO,sS,i64_w,i32_w]
          rfl
         refine pure_ (i:=28) (N:=some 98) (v:=?_) (a':=?_) laws_FnSparse.m29 rfl rfl (any_of HT_.out (by kernel_rfl)) (fun _ _ _ h=>h) (Or.inl ⟨by rfl,?_⟩) ?_ ?_
         rotate_left
         ·intro w'
          go_simp
          with_reducible rfl
         rotate_left
         ·simp only [Act.put,sA,sO,sS,i64_w,i32_w]
          rfl
         refine pure_ (i:=29) (N:=some 99) (v:=undef) (a':=?_) laws_FnSparse.m30 rfl rfl (any_of HT_.out (by kernel_rfl)) (fun _ _ _ h=>h) (Or.inr ⟨by rfl,rfl⟩) ?_ ?_
         rotate_left
         ·simp only [Act.put,sA,sO,sS,i64_w,i32_w]
          rfl
         refine pure_ (i:=30) (N:=some 100) (v:=undef) (a':=?_) laws_FnSparse.m31 rfl rfl (any_of HT_.out (by kernel_rfl)) (fun _ _ _ h=>h) (Or.inr ⟨by rfl,rfl⟩) ?_ ?_
         rotate_left
         ·simp only [Act.put,sA,sO,sS,i64_w,i32_w]
          rfl
         refine pure_ (i:=31) (N:=some 101) (v:=undef) (a':=?_) laws_FnSparse.m32 rfl rfl (any_of HT_.out (by kernel_rfl)) (fun _ _ _ h=>h) (Or.inr ⟨by rfl,rfl⟩) ?_ ?_
         rotate_left
         ·simp only [Act.put,sA,sO,sS,i64_w,i32_w]
          rfl
         refine pure_ (i:=32) (N:=some 102) (v:=undef) (a':=?_) laws_FnSparse.m33 rfl rfl (any_of HT_.out (by kernel_rfl)) (fun _ _ _ h=>h) (Or.inr ⟨by rfl,rfl⟩) ?_ ?_
         rotate_left
         ·simp only [Act.put,sA,sO,sS,i64_w,i32_w]
          rfl
         refine pure_ (i:=33) (N:=some 103) (v:=undef) (a':=?_) laws_FnSparse.m34 rfl rfl (any_of HT_.out (by kernel_rfl)) (fun _ _ _ h=>h) (Or.inr ⟨by rfl,rfl⟩) ?_ ?_
         rotate_left
         ·simp only [Act.put,sA,sO,sS,i64_w,i32_w]
          rfl
         refine pure_ (i:=34) (N:=some 104) (v:=undef) (a':=?_) laws_FnSparse.m35 rfl rfl (any_of HT_.out (by kernel_rfl)) (fun _ _ _ h=>h) (Or.inr ⟨by rfl,rfl⟩) ?_ ?_
         rotate_left
         ·simp only [Act.put,sA,sO,sS,i64_w,i32_w]
          rfl
         refine pure_ (i:=35) (N:=some 105) (v:=undef) (a':=?_) laws_FnSparse.m36 rfl rfl (any_of HT_.out (by kernel_rfl)) (fun _ _ _ h=>h) (Or.inr ⟨by rfl,rfl⟩) ?_ ?_
         rotate_left
         ·simp only [Act.put,sA,sO,sS,i64_w,i32_w]
          rfl
         refine pure_ (i:=36) (N:=some 106) (v:=?_) (a':=?_) laws_FnSparse.m37 rfl rfl (any_of HT_.out (by kernel_rfl)) (fun _ _ _ h=>h) (Or.inl ⟨by rfl,?_⟩) ?_ ?_
         rotate_left
         ·intro w'
          go_simp
          with_reducible rfl
         rotate_left
         ·simp only [Act.put,sA,sO,sS,i64_w,i32_w]
          rfl
         refine done_ (done_of HT_.out (by kernel_rfl)) ?_
         try go_wp2
         go_meet
         case rel=>exact⟨_,(true),(by first|rfl|(simp;done)|(simp [*];done)),H',⟨by have:=HJ6.out;have:=HJ22.out;have:=HK3.out;first|omega|exact Nat.le_refl _⟩,⟨rR HO_3.out⟩,⟨rR HO_454005.out⟩,⟨rR HO_454007.out⟩,⟨rR HO_468005.out⟩,⟨rR HO_468007.out⟩,⟨kN BK453.out⟩,⟨kN BK467.out⟩,⟨kB HB.out⟩⟩
        rw [if_pos c65] at H
        have c65b0:((rd t436 t475) == (rd t436 x9_3)) = true:=beq_iff_eq.mpr c65
        have c65b1:((rd t436 t475) != (rd t436 x9_3)) = false:=bne_eq_false_iff_eq.mpr c65
        clear c65
        replace H:=Option.bind_eq_some_iff.mp H
        obtain⟨t481,A660,H⟩:=H
        replace H:(laws_FnSparse.j3 k3 t436 x9_3 (!t481) t454 t455 t456 t457 t458 t459 t462 t463) = some r:=H
        have A66:=mk0 A660
        clear A660
        have H':=mk0 H
        clear H
        try go_wp2
        replace HO_3:=mk0 (dR HO_3.out)
        replace HO_454005:=mk0 (dR HO_454005.out)
        replace HO_454007:=mk0 (dR HO_454007.out)
        replace HO_468005:=mk0 (dR HO_468005.out)
        replace HO_468007:=mk0 (dR HO_468007.out)
        replace BK453:=mk0 (dB BK453.out)
        replace BK467:=mk0 (dB BK467.out)
        replace HB:=mk0 (dZ HB.out)
        have p477:0 ≤ (x9_3:Int):=of_decide_eq_true (by first|(with_reducible assumption)|assumption)
        have q477:x9_3 < (t436.length:Int):=of_decide_eq_true (by first|(with_reducible assumption)|assumption)
        obtain⟨ad477,e477,hx477_0⟩:=Kd.at_int (Kd.R_reads' HO_3.out).2.2 x9_3 p477 q477
        obtain rfl:ad474 = ad477:=(by injection e477)
        replace p477:=eq_true p477
        replace q477:=eq_true q477
        have p478:0 ≤ (t475:Int):=of_decide_eq_true (by first|(with_reducible assumption)|assumption)
        have q478:t475 < (t436.length:Int):=of_decide_eq_true (by first|(with_reducible assumption)|assumption)
        obtain⟨ad478,e478,hx478_0⟩:=Kd.at_int (Kd.R_reads' HO_3.out).2.2 t475 p478 q478
        obtain rfl:ad474 = ad478:=(by injection e478)
        replace p478:=eq_true p478
        replace q478:=eq_true q478
        have p479:0 ≤ (x9_3:Int):=of_decide_eq_true (by first|(with_reducible assumption)|assumption)
        have q479:x9_3 < (t436.length:Int):=of_decide_eq_true (by first|(with_reducible assumption)|assumption)
        obtain⟨ad479,e479,hx479_0⟩:=Kd.at_int (Kd.R_reads' HO_3.out).2.2 x9_3 p479 q479
        obtain rfl:ad474 = ad479:=(by injection e479)
        replace p479:=eq_true p479
        replace q479:=eq_true q479
        have p480:0 ≤ (x9_3:Int):=of_decide_eq_true (by first|(with_reducible assumption)|assumption)
        have q480:x9_3 < (t436.length:Int):=of_decide_eq_true (by first|(with_reducible assumption)|assumption)
        obtain⟨ad480,e480,hx480_0⟩:=Kd.at_int (Kd.R_reads' HO_3.out).2.2 x9_3 p480 q480
        obtain rfl:ad474 = ad480:=(by injection e480)
        replace p480:=eq_true p480
        replace q480:=eq_true q480
        refine start_ (n:=37) (S:=fun w'=>w'.cell? ⟨gb467,0,none⟩ = some (.int .i64 t454) ∧ w'.cell? ⟨gb467,1,none⟩ = some (.int .i64 t455) ∧ w'.cell? ⟨gb467,2,none⟩ = some (.int .i64 t456) ∧ w'.cell? ⟨gb467,3,none⟩ = some (.int .i64 t457) ∧ w'.cell? ⟨gb467,4,none⟩ = some (.int .i64 t458) ∧ w'.cell? ⟨gb467,5,none⟩ = some (.slice Ao19 t459.length co19) ∧ w'.cell? ⟨gb467,6,none⟩ = some (.int .i64 t462) ∧ w'.cell? ⟨gb467,7,none⟩ = some (.slice Ao20 t463.length co20) ∧ w'.cell? (ad474.add (x9_3).toNat) = some (.int .i64 (rd t436 x9_3)) ∧ w'.cell? (ad474.add (t475).toNat) = some (.int .i64 (rd t436 t475)) ∧ w'.cell? (ad474.add (x9_3).toNat) = some (.int .i64 (rd t436 x9_3)) ∧ w'.cell? (ad474.add (x9_3).toNat) = some (.int .i64 (rd t436 x9_3))) (ds:=[]) laws_FnSparse.m0 (by kernel_rfl) rfl rfl ⟨(blk_cell BK467.out 0).trans rfl,(blk_cell BK467.out 1).trans rfl,(blk_cell BK467.out 2).trans rfl,(blk_cell BK467.out 3).trans rfl,(blk_cell BK467.out 4).trans rfl,(blk_cell BK467.out 5).trans rfl,(blk_cell BK467.out 6).trans rfl,(blk_cell BK467.out 7).trans rfl,hx477_0,hx478_0,hx479_0,hx480_0⟩ (fun hHeld=>?_);refine with_tabW laws_FnSparse.tab14 laws_FnSparse.bits14 (fun HT_ HW_=>?_)
        generalize w54.drew = w67 at HO_3 HO_454005 HO_454007 HO_468005 HO_468007 BK453 BK467 HB hx477_0 hx478_0 hx479_0 hx480_0 hHeld ⊢
        refine pure_ (i:=1) (N:=some 71) (v:=?_) (a':=?_) laws_FnSparse.m1 rfl rfl (any_of HT_.out (by kernel_rfl)) (fun _ _ _ h=>h) (Or.inl ⟨by rfl,?_⟩) ?_ ?_
        rotate_left
        ·intro w'
         go_simp
         with_reducible rfl
        rotate_left
        ·simp only [Act.put,sA,sO,sS,i64_w,i32_w]
         rfl
        refine pure_ (i:=3) (N:=some 73) (v:=?_) (a':=?_) laws_FnSparse.m2 rfl rfl (any_of HT_.out (by kernel_rfl)) (fun _ _ _ h=>h) (Or.inl ⟨by rfl,?_⟩) ?_ ?_
        rotate_left
        ·intro w'
         go_simp
         with_reducible rfl
        rotate_left
        ·simp only [Act.put,sA,sO,sS,i64_w,i32_w]
         rfl
        refine pure_ (i:=4) (N:=some 74) (v:=?_) (a':=?_) laws_FnSparse.m3 rfl rfl (any_of HT_.out (by kernel_rfl)) (fun _ _ _ h=>h) (Or.inl ⟨by rfl,?_⟩) ?_ ?_
        rotate_left
        ·intro w'
         go_simp
         with_reducible rfl
        rotate_left
        ·simp only [Act.put,sA,sO,sS,i64_w,i32_w]
         rfl
        refine pure_ (i:=5) (N:=some 75) (v:=?_) (a':=?_) laws_FnSparse.m4 rfl rfl (any_of HT_.out (by kernel_rfl)) (fun _ _ _ h=>h) (Or.inl ⟨by rfl,?_⟩) ?_ ?_
        rotate_left
        ·intro w'
         go_simp
         with_reducible rfl
        rotate_left
        ·simp only [Act.put,sA,sO,sS,i64_w,i32_w]
         rfl
        refine take_ (i:=0) (N:=some 70) (v:=?_) (a':=?_) laws_FnSparse.m5 rfl rfl (take_ofW HT_.out HW_.out (by kernel_rfl)) (fun _ _ _ h=>h) (Or.inl ⟨by rfl,?_⟩) hHeld ?_ ?_
        rotate_left
        ·rintro w' ⟨s0,s1,s2,s3,s4,s5,s6,s7,s8,s9,s10,s11⟩
         go_simp
         with_reducible rfl
        rotate_left
        ·simp only [Act.put,sA,sO,sS,i64_w,i32_w]
         rfl
        refine take_ (i:=6) (N:=some 76) (v:=?_) (a':=?_) laws_FnSparse.m6 rfl rfl (take_ofW HT_.out HW_.out (by kernel_rfl)) (fun _ _ _ h=>h) (Or.inl ⟨by rfl,?_⟩) hHeld ?_ ?_
        rotate_left
        ·rintro w' ⟨s0,s1,s2,s3,s4,s5,s6,s7,s8,s9,s10,s11⟩
         go_simp
         with_reducible rfl
        rotate_left
        ·simp only [Act.put,sA,sO,sS,i64_w,i32_w]
         rfl
        refine one_ (i:=2) (N:=some 72) laws_FnSparse.m7 rfl rfl (one_of HT_.out (by kernel_rfl)) (by decide) (fun K hK=>?_)
        refine goes_ Try.func15 (by kernel_rfl) rfl #[.agg #[.int .i64 t454,.int .i64 t455,.int .i64 t456,.int .i64 t457,.int .i64 t458,.slice Ao19 t459.length co19,.int .i64 t462,.slice Ao20 t463.length co20],.int .i64 x9_3] (by rfl) rfl rfl (by (try simp only [mA,mC,mN]);first|done|rfl|(simp only [List.length_drop,List.length_take];done)|(simp only [List.length_drop,List.length_take];rfl)) ?_
        with_reducible refine (impl_SparseAt.calls k3 t454 t455 t456 t457 t458 _ _ t459 t462 _ _ t463 x9_3 t476 _ ?side1 ?side2 ?side3 ?side4 A55.out).mono ?_
        (case side1=>exact kC (Kd.R_reads' HO_468005.out).2.2)
        (case side2=>exact (Kd.R_reads' HO_468005.out).2.1)
        (case side3=>exact kC (Kd.R_reads' HO_468007.out).2.2)
        (case side4=>exact (Kd.R_reads' HO_468007.out).2.1)
        rintro e w68 ⟨rfl,hb⟩
        have HS8_:=(hb.cell (World.block_lt_of_cell? _ _ (hHeld.2.2.2.2.2.2.2.2.1))).trans (hHeld.2.2.2.2.2.2.2.2.1)
        have HS9_:=(hb.cell (World.block_lt_of_cell? _ _ (hHeld.2.2.2.2.2.2.2.2.2.1))).trans (hHeld.2.2.2.2.2.2.2.2.2.1)
        have HS10_:=(hb.cell (World.block_lt_of_cell? _ _ (hHeld.2.2.2.2.2.2.2.2.2.2.1))).trans (hHeld.2.2.2.2.2.2.2.2.2.2.1)
        have HS11_:=(hb.cell (World.block_lt_of_cell? _ _ (hHeld.2.2.2.2.2.2.2.2.2.2.2))).trans (hHeld.2.2.2.2.2.2.2.2.2.2.2)
        refine⟨_,rfl,?_⟩
        replace HO_3:=mk0 (bR HO_3.out hb)
        replace HO_454005:=mk0 (bR HO_454005.out hb)
        replace HO_454007:=mk0 (bR HO_454007.out hb)
        replace HO_468005:=mk0 (bR HO_468005.out hb)
        replace HO_468007:=mk0 (bR HO_468007.out hb)
        replace BK453:=mk0 (kK BK453.out hb)
        replace BK467:=mk0 (kK BK467.out hb)
        replace HB:=mk0 (kS HB.out hb)
        (try clear hb)
        refine hK.out _ _ ⟨(blk_cell BK467.out 0).trans rfl,(blk_cell BK467.out 1).trans rfl,(blk_cell BK467.out 2).trans rfl,(blk_cell BK467.out 3).trans rfl,(blk_cell BK467.out 4).trans rfl,(blk_cell BK467.out 5).trans rfl,(blk_cell BK467.out 6).trans rfl,(blk_cell BK467.out 7).trans rfl,HS8_,HS9_,HS10_,HS11_⟩ (fun hHeld=>?_)
        clear hK K
        refine norm_ (a':=?_) ?_ ?_
        rotate_left
        ·show Act.put _ (some 72) _ = _
         simp only [Act.put,sA,sO,sS,i64_w,i32_w]
         rfl
        refine pure_ (i:=7) (N:=some 77) (v:=?_) (a':=?_) laws_FnSparse.m8 rfl rfl (any_of HT_.out (by kernel_rfl)) (fun _ _ _ h=>h) (Or.inl ⟨by rfl,?_⟩) ?_ ?_
        rotate_left
        ·intro w'
         go_simp
         with_reducible rfl
        rotate_left
        ·simp only [Act.put,sA,sO,sS,i64_w,i32_w]
         rfl
        refine pure_ (i:=8) (N:=some 78) (v:=?_) (a':=?_) laws_FnSparse.m9 rfl rfl (any_of HT_.out (by kernel_rfl)) (fun _ _ _ h=>h) (Or.inl ⟨by rfl,?_⟩) ?_ ?_
        rotate_left
        ·intro w'
         go_simp
         with_reducible rfl
        rotate_left
        ·simp only [Act.put,sA,sO,sS,i64_w,i32_w]
         rfl
        refine pure_ (i:=9) (N:=some 79) (v:=?_) (a':=?_) laws_FnSparse.m10 rfl rfl (any_of HT_.out (by kernel_rfl)) (fun _ _ _ h=>h) (Or.inl ⟨by rfl,?_⟩) ?_ ?_
        rotate_left
        ·intro w'
         go_simp
         with_reducible rfl
        rotate_left
        ·simp only [Act.put,sA,sO,sS,i64_w,i32_w]
         rfl
        refine pure_ (i:=10) (N:=some 80) (v:=?_) (a':=?_) laws_FnSparse.m11 rfl rfl (any_of HT_.out (by kernel_rfl)) (fun _ _ _ h=>h) (Or.inl ⟨by rfl,?_⟩) ?_ ?_
        rotate_left
        ·intro w'
         go_simp
         with_reducible rfl
        rotate_left
        ·simp only [Act.put,sA,sO,sS,i64_w,i32_w]
         rfl
        refine pure_ (i:=11) (N:=some 81) (v:=?_) (a':=?_) laws_FnSparse.m12 rfl rfl (any_of HT_.out (by kernel_rfl)) (fun _ _ _ h=>h) (Or.inl ⟨by rfl,?_⟩) ?_ ?_
        rotate_left
        ·intro w'
         go_simp
         with_reducible rfl
        rotate_left
        ·simp only [Act.put,sA,sO,sS,i64_w,i32_w]
         rfl
        refine pure_ (i:=12) (N:=some 82) (v:=?_) (a':=?_) laws_FnSparse.m13 rfl rfl (any_of HT_.out (by kernel_rfl)) (fun _ _ _ h=>h) (Or.inl ⟨by rfl,?_⟩) ?_ ?_
        rotate_left
        ·intro w'
         go_simp
         with_reducible rfl
        rotate_left
        ·simp only [Act.put,sA,sO,sS,i64_w,i32_w]
         rfl
        refine pure_ (i:=13) (N:=some 83) (v:=?_) (a':=?_) laws_FnSparse.m14 rfl rfl (any_of HT_.out (by kernel_rfl)) (fun _ _ _ h=>h) (Or.inl ⟨by rfl,?_⟩) ?_ ?_
        rotate_left
        ·intro w'
         go_simp
         with_reducible rfl
        rotate_left
        ·simp only [Act.put,sA,sO,sS,i64_w,i32_w]
         rfl
        refine pure_ (i:=14) (N:=some 84) (v:=?_) (a':=?_) laws_FnSparse.m15 rfl rfl (any_of HT_.out (by kernel_rfl)) (fun _ _ _ h=>h) (Or.inl ⟨by rfl,?_⟩) ?_ ?_
        rotate_left
        ·intro w'
         go_simp
         with_reducible rfl
        rotate_left
        ·simp only [Act.put,sA,sO,sS,i64_w,i32_w]
         rfl
        refine pure_ (i:=15) (N:=some 85) (v:=?_) (a':=?_) laws_FnSparse.m16 rfl rfl (any_of HT_.out (by kernel_rfl)) (fun _ _ _ h=>h) (Or.inl ⟨by rfl,?_⟩) ?_ ?_
        rotate_left
        ·intro w'
         go_simp
         with_reducible rfl
        rotate_left
        ·simp only [Act.put,sA,sO,sS,i64_w,i32_w]
         rfl
        refine pure_ (i:=16) (N:=some 86) (v:=?_) (a':=?_) laws_FnSparse.m17 rfl rfl (any_of HT_.out (by kernel_rfl)) (fun _ _ _ h=>h) (Or.inl ⟨by rfl,?_⟩) ?_ ?_
        rotate_left
        ·intro w'
         go_simp
         with_reducible rfl
        rotate_left
        ·simp only [Act.put,sA,sO,sS,i64_w,i32_w]
         rfl
        refine pure_ (i:=17) (N:=some 87) (v:=?_) (a':=?_) laws_FnSparse.m18 rfl rfl (any_of HT_.out (by kernel_rfl)) (fun _ _ _ h=>h) (Or.inl ⟨by rfl,?_⟩) ?_ ?_
        rotate_left
        ·intro w'
         go_simp
         with_reducible rfl
        rotate_left
        ·simp only [Act.put,sA,sO,sS,i64_w,i32_w]
         rfl
        refine pure_ (i:=18) (N:=some 88) (v:=?_) (a':=?_) laws_FnSparse.m19 rfl rfl (any_of HT_.out (by kernel_rfl)) (fun _ _ _ h=>h) (Or.inl ⟨by rfl,?_⟩) ?_ ?_
        rotate_left
        ·intro w'
         go_simp
         with_reducible rfl
        rotate_left
        ·simp only [Act.put,sA,sO,sS,i64_w,i32_w]
         rfl
        refine pure_ (i:=19) (N:=some 89) (v:=?_) (a':=?_) laws_FnSparse.m20 rfl rfl (any_of HT_.out (by kernel_rfl)) (fun _ _ _ h=>h) (Or.inl ⟨by rfl,?_⟩) ?_ ?_
        rotate_left
        ·intro w'
         go_simp
         with_reducible rfl
        rotate_left
        ·simp only [Act.put,sA,sO,sS,i64_w,i32_w]
         rfl
        refine pure_ (i:=20) (N:=some 90) (v:=?_) (a':=?_) laws_FnSparse.m21 rfl rfl (any_of HT_.out (by kernel_rfl)) (fun _ _ _ h=>h) (Or.inl ⟨by rfl,?_⟩) ?_ ?_
        rotate_left
        ·intro w'
         go_simp
         with_reducible rfl
        rotate_left
        ·simp only [Act.put,sA,sO,sS,i64_w,i32_w]
         rfl
        refine pure_ (i:=22) (N:=some 92) (v:=?_) (a':=?_) laws_FnSparse.m38 rfl rfl (any_of HT_.out (by kernel_rfl)) (fun _ _ _ h=>h) (Or.inl ⟨by rfl,?_⟩) ?_ ?_
        rotate_left
        ·intro w'
         go_simp
         with_reducible rfl
        rotate_left
        ·simp only [Act.put,sA,sO,sS,i64_w,i32_w]
         rfl
        refine pure_ (i:=23) (N:=some 93) (v:=?_) (a':=?_) laws_FnSparse.m39 rfl rfl (any_of HT_.out (by kernel_rfl)) (fun _ _ _ h=>h) (Or.inl ⟨by rfl,?_⟩) ?_ ?_
        rotate_left
        ·intro w'
         go_simp
         with_reducible rfl
        rotate_left
        ·simp only [Act.put,sA,sO,sS,i64_w,i32_w]
         rfl
        refine pure_ (i:=24) (N:=some 94) (v:=?_) (a':=?_) laws_FnSparse.m40 rfl rfl (any_of HT_.out (by kernel_rfl)) (fun _ _ _ h=>h) (Or.inl ⟨by rfl,?_⟩) ?_ ?_
        rotate_left
        ·intro w'
         go_simp
         with_reducible rfl
        rotate_left
        ·simp only [Act.put,sA,sO,sS,i64_w,i32_w]
         rfl
        refine take_ (i:=21) (N:=some 91) (v:=?_) (a':=?_) laws_FnSparse.m25 rfl rfl (take_ofW HT_.out HW_.out (by kernel_rfl)) (fun _ _ _ h=>h) (Or.inl ⟨by rfl,?_⟩) hHeld ?_ ?_
        rotate_left
        ·rintro w' ⟨s0,s1,s2,s3,s4,s5,s6,s7,s8,s9,s10,s11⟩
         go_simp
         with_reducible rfl
        rotate_left
        ·simp only [Act.put,sA,sO,sS,i64_w,i32_w]
         rfl
        refine take_ (i:=25) (N:=some 95) (v:=?_) (a':=?_) laws_FnSparse.m26 rfl rfl (take_ofW HT_.out HW_.out (by kernel_rfl)) (fun _ _ _ h=>h) (Or.inl ⟨by rfl,?_⟩) hHeld ?_ ?_
        rotate_left
        ·rintro w' ⟨s0,s1,s2,s3,s4,s5,s6,s7,s8,s9,s10,s11⟩
         go_simp
         with_reducible rfl
        rotate_left
        ·simp only [Act.put,sA,sO,sS,i64_w,i32_w]
         rfl
        refine pure_ (i:=26) (N:=some 96) (v:=?_) (a':=?_) laws_FnSparse.m27 rfl rfl (any_of HT_.out (by kernel_rfl)) (fun _ _ _ h=>h) (Or.inl ⟨by rfl,?_⟩) ?_ ?_
        rotate_left
        ·intro w'
         go_simp
         with_reducible rfl
        rotate_left
        ·simp only [Act.put,sA,sO,sS,i64_w,i32_w]
         rfl
        refine pure_ (i:=27) (N:=some 97) (v:=?_) (a':=?_) laws_FnSparse.m28 rfl rfl (any_of HT_.out (by kernel_rfl)) (fun _ _ _ h=>h) (Or.inl ⟨by rfl,?_⟩) ?_ ?_
        rotate_left
        ·intro w'
         go_simp
         with_reducible rfl
        rotate_left
        ·simp only [Act.put,sA,sO,sS,i64_w,i32_w]
         rfl
        refine pure_ (i:=28) (N:=some 98) (v:=?_) (a':=?_) laws_FnSparse.m29 rfl rfl (any_of HT_.out (by kernel_rfl)) (fun _ _ _ h=>h) (Or.inl ⟨by rfl,?_⟩) ?_ ?_
        rotate_left
        ·intro w'
         go_simp
         with_reducible rfl
        rotate_left
        ·simp only [Act.put,sA,sO,sS,i64_w,i32_w]
         rfl
        refine pure_ (i:=30) (N:=some 100) (v:=?_) (a':=?_) laws_FnSparse.m41 rfl rfl (any_of HT_.out (by kernel_rfl)) (fun _ _ _ h=>h) (Or.inl ⟨by rfl,?_⟩) ?_ ?_
        rotate_left
        ·intro w'
         go_simp
         with_reducible rfl
        rotate_left
        ·simp only [Act.put,sA,sO,sS,i64_w,i32_w]
         rfl
        refine pure_ (i:=31) (N:=some 101) (v:=?_) (a':=?_) laws_FnSparse.m42 rfl rfl (any_of HT_.out (by kernel_rfl)) (fun _ _ _ h=>h) (Or.inl ⟨by rfl,?_⟩) ?_ ?_
        rotate_left
        ·intro w'
         go_simp
         with_reducible rfl
        rotate_left
        ·simp only [Act.put,sA,sO,sS,i64_w,i32_w]
         rfl
        refine pure_ (i:=32) (N:=some 102) (v:=?_) (a':=?_) laws_FnSparse.m43 rfl rfl (any_of HT_.out (by kernel_rfl)) (fun _ _ _ h=>h) (Or.inl ⟨by rfl,?_⟩) ?_ ?_
        rotate_left
        ·intro w'
         go_simp
         with_reducible rfl
        rotate_left
        ·simp only [Act.put,sA,sO,sS,i64_w,i32_w]
         rfl
        refine take_ (i:=29) (N:=some 99) (v:=?_) (a':=?_) laws_FnSparse.m33 rfl rfl (take_ofW HT_.out HW_.out (by kernel_rfl)) (fun _ _ _ h=>h) (Or.inl ⟨by rfl,?_⟩) hHeld ?_ ?_
        rotate_left
        ·rintro w' ⟨s0,s1,s2,s3,s4,s5,s6,s7,s8,s9,s10,s11⟩
         go_simp
         with_reducible rfl
        rotate_left
        ·simp only [Act.put,sA,sO,sS,i64_w,i32_w]
         rfl
        refine take_ (i:=33) (N:=some 103) (v:=?_) (a':=?_) laws_FnSparse.m34 rfl rfl (take_ofW HT_.out HW_.out (by kernel_rfl)) (fun _ _ _ h=>h) (Or.inl ⟨by rfl,?_⟩) hHeld ?_ ?_
        rotate_left
        ·rintro w' ⟨s0,s1,s2,s3,s4,s5,s6,s7,s8,s9,s10,s11⟩
         go_simp
         with_reducible rfl
        rotate_left
        ·simp only [Act.put,sA,sO,sS,i64_w,i32_w]
         rfl
        refine one_ (i:=34) (N:=some 104) laws_FnSparse.m35 rfl rfl (one_of HT_.out (by kernel_rfl)) (by decide) (fun K hK=>?_)
        refine goes_ Try.func16 (by kernel_rfl) rfl #[.agg #[.int .i64 t454,.int .i64 t455,.int .i64 t456,.int .i64 t457,.int .i64 t458,.slice Ao19 t459.length co19,.int .i64 t462,.slice Ao20 t463.length co20],.int .i64 (rd t436 x9_3)] (by rfl) rfl rfl (by (try simp only [mA,mC,mN]);first|done|rfl|(simp only [List.length_drop,List.length_take];done)|(simp only [List.length_drop,List.length_take];rfl)) ?_
        with_reducible refine (impl_SparseHas.calls k3 t454 t455 t456 t457 t458 _ _ t459 t462 _ _ t463 (rd t436 x9_3) t481 _ ?side1 ?side2 ?side3 ?side4 A66.out).mono ?_
        (case side1=>exact kC (Kd.R_reads' HO_468005.out).2.2)
        (case side2=>exact (Kd.R_reads' HO_468005.out).2.1)
        (case side3=>exact kC (Kd.R_reads' HO_468007.out).2.2)
        (case side4=>exact (Kd.R_reads' HO_468007.out).2.1)
        rintro e w69 ⟨rfl,hb⟩
        have HS8_:=(hb.cell (World.block_lt_of_cell? _ _ (hHeld.2.2.2.2.2.2.2.2.1))).trans (hHeld.2.2.2.2.2.2.2.2.1)
        have HS9_:=(hb.cell (World.block_lt_of_cell? _ _ (hHeld.2.2.2.2.2.2.2.2.2.1))).trans (hHeld.2.2.2.2.2.2.2.2.2.1)
        have HS10_:=(hb.cell (World.block_lt_of_cell? _ _ (hHeld.2.2.2.2.2.2.2.2.2.2.1))).trans (hHeld.2.2.2.2.2.2.2.2.2.2.1)
        have HS11_:=(hb.cell (World.block_lt_of_cell? _ _ (hHeld.2.2.2.2.2.2.2.2.2.2.2))).trans (hHeld.2.2.2.2.2.2.2.2.2.2.2)
        refine⟨_,rfl,?_⟩
        replace HO_3:=mk0 (bR HO_3.out hb)
        replace HO_454005:=mk0 (bR HO_454005.out hb)
        replace HO_454007:=mk0 (bR HO_454007.out hb)
        replace HO_468005:=mk0 (bR HO_468005.out hb)
        replace HO_468007:=mk0 (bR HO_468007.out hb)
        replace BK453:=mk0 (kK BK453.out hb)
        replace BK467:=mk0 (kK BK467.out hb)
        replace HB:=mk0 (kS HB.out hb)
        (try clear hb)
        refine hK.out _ _ ⟨(blk_cell BK467.out 0).trans rfl,(blk_cell BK467.out 1).trans rfl,(blk_cell BK467.out 2).trans rfl,(blk_cell BK467.out 3).trans rfl,(blk_cell BK467.out 4).trans rfl,(blk_cell BK467.out 5).trans rfl,(blk_cell BK467.out 6).trans rfl,(blk_cell BK467.out 7).trans rfl,HS8_,HS9_,HS10_,HS11_⟩ (fun hHeld=>?_)
        clear hK K
        refine norm_ (a':=?_) ?_ ?_
        rotate_left
        ·show Act.put _ (some 104) _ = _
         simp only [Act.put,sA,sO,sS,i64_w,i32_w]
         rfl
        refine pure_ (i:=35) (N:=some 105) (v:=?_) (a':=?_) laws_FnSparse.m36 rfl rfl (any_of HT_.out (by kernel_rfl)) (fun _ _ _ h=>h) (Or.inl ⟨by rfl,?_⟩) ?_ ?_
        rotate_left
        ·intro w'
         go_simp
         with_reducible rfl
        rotate_left
        ·simp only [Act.put,sA,sO,sS,i64_w,i32_w]
         rfl
        refine pure_ (i:=36) (N:=some 106) (v:=?_) (a':=?_) laws_FnSparse.m37 rfl rfl (any_of HT_.out (by kernel_rfl)) (fun _ _ _ h=>h) (Or.inl ⟨by rfl,?_⟩) ?_ ?_
        rotate_left
        ·intro w'
         go_simp
         with_reducible rfl
        rotate_left
        ·simp only [Act.put,sA,sO,sS,i64_w,i32_w]
         rfl
        refine done_ (done_of HT_.out (by kernel_rfl)) ?_
        try go_wp2
        go_meet
        case rel=>exact⟨_,(!t481),(by first|rfl|(simp;done)|(simp [*];done)),H',⟨by have:=HJ6.out;have:=HJ22.out;have:=HK3.out;first|omega|exact Nat.le_refl _⟩,⟨rR HO_3.out⟩,⟨rR HO_454005.out⟩,⟨rR HO_454007.out⟩,⟨rR HO_468005.out⟩,⟨rR HO_468007.out⟩,⟨kN BK453.out⟩,⟨kN BK467.out⟩,⟨kB HB.out⟩⟩
       case rest =>
        clear HC52
        try clear c1
        try clear p2
        try clear p4
        try clear q4
        try clear hx4
        try clear c5
        try clear c6
        try clear c15
        try clear p47
        try clear q47
        try clear hx47
        try clear c56
        try clear c56b0
        try clear c56b1
        try clear c63
        try clear c64
        try clear hx477_0
        try clear p477
        try clear q477
        obtain⟨kq,x106_51,rfl,HA,HJ51,HO_3,HO_454005,HO_454007,HO_468005,HO_468007,BK453,BK467,HB⟩:=hcut
        cases kq with
        | zero=>exact absurd HA.out (by simp [laws_FnSparse.j3])
        | succ kj51 =>
         have H:=HA.out
         clear HA
         simp only [laws_FnSparse.j3] at H
         by_cases c74:x106_51 = true
         ·subst c74
          have H1:(some false) = some r:=by rw [if_pos rfl] at H;exact H
          clear H
          have H:=H1
          clear H1
          obtain rfl:=Option.some.inj H
          go_wp2
          go_ret
          exact⟨by first|rfl|(simp [errW_none,errW_some] <;> rfl)|(simp [*,errW_none,errW_some] <;> rfl),kB HB.out⟩
         replace c74:=Bool.eq_false_iff.mpr c74
         subst c74
         have H1:(laws_FnSparse.l0 kj51 t436 (wrap64 (x9_3 + 1)) t454 t455 t456 t457 t458 t459 t462 t463) = some r:=by rw [if_neg (show ¬ (false = true) by decide)] at H;exact H
         clear H
         have H:=H1
         clear H1
         have H':=mk0 H
         clear H
         go_wp2
         go_roundg kj51
         case measure=>have:=HJ6.out;have:=HJ22.out;have:=HK3.out;have:=HJ51.out;omega
         case rel=>exact⟨(wrap64 (x9_3 + 1)),(by first|rfl|(simp;done)|(simp [*];done)),H',⟨by have:=HJ6.out;have:=HJ22.out;have:=HK3.out;have:=HJ51.out;omega⟩,⟨rR HO_3.out⟩,⟨rR HO_454005.out⟩,⟨rR HO_454007.out⟩,⟨rR HO_468005.out⟩,⟨rR HO_468007.out⟩,⟨kN BK453.out⟩,⟨kN BK467.out⟩,⟨kB HB.out⟩⟩
/-- THE ONE PURE STATEMENT of laws_FnSparse: yours. -/
def laws_FnSparse.Pure : Prop := ∀ (l0 : List Int), l0.length ≤ maxLen → l0.length * 1 ≤ 140737488351232 → (∀ x ∈ l0, (Lit.int .u8 x).wf = true) → ∃ k, laws_FnSparse.f k l0 = some true
theorem laws_FnSparse.walk (P : laws_FnSparse.Pure) (a0 : Option Addr) (len0 cap0 : Nat) (z0 : List Int) (w : World) (w0 : (a0 = none ∧ len0 = 0 ∧ cap0 = 0 ∧ z0 = []) ∨ ∃ x, a0 = some x ∧ len0 ≤ cap0 ∧ cap0 ≤ maxLen ∧ z0.length = cap0 ∧ (∀ i, i < z0.length → w.cell? (x.add i) = some (.int .u8 (z0.getD i 0))) ∧ ∀ n ∈ z0, (Lit.int .u8 n).wf = true) (y0 : len0 * 1 ≤ 140737488351232) :
    Calls Try.prog 3 #[.slice a0 len0 cap0] w fun e w' => e = .returned (.bool true) ∧ Below w.heap.size w w' := by
  obtain ⟨l0, rfl, hr0, hm0, hw0, hc0⟩ := ReadsInt.ofRowC w0
  obtain ⟨k, h⟩ := P l0 hm0 y0 hw0
  refine (laws_FnSparse.calls k _ _ l0 true w (Kd.C_of_reads (d := (0 : Int)) (h1 := fun _ => rfl) hr0) hc0 h).mono ?_
  rintro e w' ⟨rfl, hd⟩
  exact ⟨rfl, hd⟩

end Go.Proofs.Ytmohfjfgpeapfaa.QFnSparse
