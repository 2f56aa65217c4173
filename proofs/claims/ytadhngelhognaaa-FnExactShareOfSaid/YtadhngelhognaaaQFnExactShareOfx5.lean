-- A walk, made by walk.py, a program of this session's.
import Derived.Test.YtadhngelhognaaaQFnExactShareOfx0
namespace Go.Proofs.Ytadhngelhognaaa.QFnExactShareOf
open Go.RowKit Go.Proofs.YtadhngelhognaaaW.PrintWords Go.Proofs.YtadhngelhognaaaW.PrintLast Go.Proofs.YtadhngelhognaaaW.PrintMore
set_option linter.unusedVariables false
set_option linter.unusedSimpArgs false
attribute [local go_sem] max2_int min2_int max_two min_two max_three min_three max_four min_four
mutual
def spec_l12Table.l0 : Nat → List Int → List Int → Int → List (List Int) → Option ((List (List Int)))
 | 0, _, _, _, _ => none
 | k + 1, x0, x1, x6, x11 => if x6 ≥ 0 then (if 0 ≤ (wrap64 ((x1.length : Int) + 1)) then (if (wrap64 ((x1.length : Int) + 1) : Int).toNat ≤ 35184372088832 then (if 0 ≤ x6 then (if x6 < (x11.length : Int) then (spec_l12Table.l1 k x0 x1 x6 (x1.length : Int) (x11.set (x6 : Int).toNat (List.replicate (wrap64 ((x1.length : Int) + 1) : Int).toNat 0))) else (none)) else (none)) else (none)) else (none)) else (some x11)
def spec_l12Table.l1 : Nat → List Int → List Int → Int → Int → List (List Int) → Option ((List (List Int)))
 | 0, _, _, _, _, _ => none
 | k + 1, x0, x1, x6, x7, x11 => if x7 ≥ 0 then (if x6 < (x0.length : Int) then (spec_l12Table.j2 k x0 x1 x11 x6 x7 (decide (x7 < (x1.length : Int)))) else (spec_l12Table.j2 k x0 x1 x11 x6 x7 false)) else (spec_l12Table.l0 k x0 x1 (wrap64 (x6 - 1)) x11)
def spec_l12Table.j2 : Nat → List Int → List Int → List (List Int) → Int → Int → Bool → Option ((List (List Int)))
 | 0, _, _, _, _, _, _ => none
 | k + 1, x0, x1, x5, x6, x7, x40 => if x40 = true then (if 0 ≤ x6 then (if x6 < (x5.length : Int) then (if 0 ≤ (wrap64 (x6 + 1)) then (if (wrap64 (x6 + 1)) < (x5.length : Int) then (if 0 ≤ x7 then (if x7 < ((rd_L4 x5 (wrap64 (x6 + 1))).length : Int) then (if 0 ≤ (wrap64 (x7 + 1)) then (if (wrap64 (x7 + 1)) < ((rd_L4 x5 x6).length : Int) then (if x7 < ((rd_L4 x5 x6).length : Int) then ((some (x5.set (x6 : Int).toNat ((rd_L4 x5 x6).set (x7 : Int).toNat (mx (rd (rd_L4 x5 (wrap64 (x6 + 1))) x7) (rd (rd_L4 x5 x6) (wrap64 (x7 + 1))))) : List (List Int))).bind fun y265 => (if x6 < (x0.length : Int) then (if x7 < (x1.length : Int) then (if (rd x0 x6) = (rd x1 x7) then (if x7 < ((rd_L4 y265 x6).length : Int) then (if (wrap64 (x7 + 1)) < ((rd_L4 y265 (wrap64 (x6 + 1))).length : Int) then (spec_l12Table.l1 k x0 x1 x6 (wrap64 (x7 - 1)) (y265.set (x6 : Int).toNat ((rd_L4 y265 x6).set (x7 : Int).toNat (mx (rd (rd_L4 y265 x6) x7) (wrap64 (1 + (rd (rd_L4 y265 (wrap64 (x6 + 1))) (wrap64 (x7 + 1))))))))) else (none)) else (none)) else (spec_l12Table.l1 k x0 x1 x6 (wrap64 (x7 - 1)) y265)) else (none)) else (none))) else (none)) else (none)) else (none)) else (none)) else (none)) else (none)) else (none)) else (none)) else (none)) else (spec_l12Table.l1 k x0 x1 x6 (wrap64 (x7 - 1)) x5)
end
def spec_l12Table.f (k : Nat) (l0 : List Int) (l1 : List Int) : Option ((List (List Int))) := if 0 ≤ (wrap64 ((l0.length : Int) + 1)) then (if (wrap64 ((l0.length : Int) + 1) : Int).toNat ≤ 11728124029610 then (spec_l12Table.l0 k l0 l1 (l0.length : Int) (List.replicate (wrap64 ((l0.length : Int) + 1) : Int).toNat [])) else (none)) else (none)
theorem spec_l12Table.mono_l : ∀ k, (∀ y0 y1 y2 y3, LeO (spec_l12Table.l0 k y0 y1 y2 y3) (spec_l12Table.l0 (k + 1) y0 y1 y2 y3)) ∧ (∀ y0 y1 y2 y3 y4, LeO (spec_l12Table.l1 k y0 y1 y2 y3 y4) (spec_l12Table.l1 (k + 1) y0 y1 y2 y3 y4)) ∧ (∀ y0 y1 y2 y3 y4 y5, LeO (spec_l12Table.j2 k y0 y1 y2 y3 y4 y5) (spec_l12Table.j2 (k + 1) y0 y1 y2 y3 y4 y5))
 | 0 => ⟨fun _ _ _ _ r h => by simp [spec_l12Table.l0] at h, fun _ _ _ _ _ r h => by simp [spec_l12Table.l1] at h, fun _ _ _ _ _ _ r h => by simp [spec_l12Table.j2] at h⟩
 | k + 1 => by
  obtain ⟨ih0, ih1, ih2⟩ := spec_l12Table.mono_l k
  refine ⟨?_, ?_, ?_⟩
  ·intro y0 y1 y2 y3
   unfold spec_l12Table.l0
   repeat' first|(with_reducible first|exact ih0 _ _ _ _|exact ih1 _ _ _ _ _|exact ih2 _ _ _ _ _ _|exact LeO.refl _|exact LeO.none _|refine LeO.ite ?_ ?_|refine LeO.bind ?_ (fun _ => ?_))|exact LeO.none _|refine LeO.ite ?_ ?_|refine LeO.bind ?_ (fun _ => ?_)
  ·intro y0 y1 y2 y3 y4
   unfold spec_l12Table.l1
   repeat' first|(with_reducible first|exact ih0 _ _ _ _|exact ih1 _ _ _ _ _|exact ih2 _ _ _ _ _ _|exact LeO.refl _|exact LeO.none _|refine LeO.ite ?_ ?_|refine LeO.bind ?_ (fun _ => ?_))|exact LeO.none _|refine LeO.ite ?_ ?_|refine LeO.bind ?_ (fun _ => ?_)
  ·intro y0 y1 y2 y3 y4 y5
   unfold spec_l12Table.j2
   repeat' first|(with_reducible first|exact ih0 _ _ _ _|exact ih1 _ _ _ _ _|exact ih2 _ _ _ _ _ _|exact LeO.refl _|exact LeO.none _|refine LeO.ite ?_ ?_|refine LeO.bind ?_ (fun _ => ?_))|exact LeO.none _|refine LeO.ite ?_ ?_|refine LeO.bind ?_ (fun _ => ?_)
theorem spec_l12Table.mono : ∀ a0 a1 k, LeO (spec_l12Table.f k a0 a1) (spec_l12Table.f (k + 1) a0 a1) := by
 intro a0 a1 k
 obtain ⟨ih0, ih1, ih2⟩ := spec_l12Table.mono_l k
 unfold spec_l12Table.f
 repeat' first|(with_reducible first|exact ih0 _ _ _ _|exact ih1 _ _ _ _ _|exact ih2 _ _ _ _ _ _|exact LeO.refl _|exact LeO.none _|refine LeO.ite ?_ ?_|refine LeO.bind ?_ (fun _ => ?_))|exact LeO.none _|refine LeO.ite ?_ ?_|refine LeO.bind ?_ (fun _ => ?_)
def spec_l12Table.T10 : Bool × List (List Nat × List Nat) := (true, [([], []), ([], []), ([0, 1], [0, 1]), ([2], [2]), ([], []), ([], []), ([], []), ([6], [6]), ([5, 7], [5, 7]), ([8], [8]), ([], []), ([9, 10], [9, 10]), ([11], [11]), ([], []), ([], []), ([13, 14], [13, 14]), ([15], [15]), ([], []), ([17], [17]), ([16, 18], [16, 18]), ([19], [19]), ([12, 20], [12, 20]), ([3, 4, 0, 1, 2, 3, 4, 5, 6, 7, 8, 9, 10, 11, 12, 13, 14, 15, 16, 17, 18, 19, 20, 21], [3, 4]), ([22, 21, 0, 1, 2, 3, 4, 5, 6, 7, 8, 9, 10, 11, 12, 13, 14, 15, 16, 17, 18, 19, 20, 21], [21, 22])])
def spec_l12Table.B10 : List Nat := [0, 0, 3, 7, 0, 0, 0, 64, 224, 480, 0, 2016, 4064, 0, 0, 24576, 57344, 0, 131072, 516096, 1040384, 2097120, 4194303, 8388607]
theorem spec_l12Table.tab10 : rtab .any (opsOf Try.f59 10) = spec_l12Table.T10 := by kernel_rfl
theorem spec_l12Table.bits10 : waitsOk spec_l12Table.T10.2 spec_l12Table.B10 = true := by kernel_rfl
def spec_l12Table.T11 : Bool × List (List Nat × List Nat) := (true, [([], []), ([], []), ([0, 1], [0, 1]), ([2], [2]), ([], []), ([], []), ([4, 5], [4, 5]), ([6], [6]), ([3, 7], [3, 7])])
def spec_l12Table.B11 : List Nat := [0, 0, 3, 7, 0, 0, 48, 112, 255]
theorem spec_l12Table.tab11 : rtab .any (opsOf Try.f59 11) = spec_l12Table.T11 := by kernel_rfl
theorem spec_l12Table.bits11 : waitsOk spec_l12Table.T11.2 spec_l12Table.B11 = true := by kernel_rfl
def spec_l12Table.T12 : Bool × List (List Nat × List Nat) := (true, [([], []), ([], []), ([0, 1], [0, 1]), ([2], [2]), ([], []), ([], []), ([], []), ([5, 6], [5, 6]), ([7], [7]), ([], []), ([8, 9], [8, 9]), ([10], [10]), ([], []), ([], []), ([13], [13]), ([12, 14], [12, 14]), ([15], [15]), ([], []), ([17], [17]), ([16, 18], [16, 18]), ([19], [19]), ([20], [20]), ([11, 21], [11, 21]), ([3, 4, 0, 1, 2, 3, 4, 5, 6, 7, 8, 9, 10, 11, 12, 13, 14, 15, 16, 17, 18, 19, 20, 21, 22], [3, 4]), ([23, 22, 0, 1, 2, 3, 4, 5, 6, 7, 8, 9, 10, 11, 12, 13, 14, 15, 16, 17, 18, 19, 20, 21, 22], [22, 23])])
def spec_l12Table.B12 : List Nat := [0, 0, 3, 7, 0, 0, 0, 96, 224, 0, 992, 2016, 0, 0, 8192, 28672, 61440, 0, 131072, 520192, 1044480, 2093056, 4194272, 8388607, 16777215]
theorem spec_l12Table.tab12 : rtab .any (opsOf Try.f59 12) = spec_l12Table.T12 := by kernel_rfl
theorem spec_l12Table.bits12 : waitsOk spec_l12Table.T12.2 spec_l12Table.B12 = true := by kernel_rfl
abbrev spec_l12Table.m0 : Array Bool := #[F,F,F,F,F,F,F,F,F,F,F,F,F,F,F,F,F,F,F,F,F,F,F,F]
abbrev spec_l12Table.m1 : Array Bool := #[T,F,F,F,F,F,F,F,F,F,F,F,F,F,F,F,F,F,F,F,F,F,F,F]
abbrev spec_l12Table.m2 : Array Bool := #[T,T,F,F,F,F,F,F,F,F,F,F,F,F,F,F,F,F,F,F,F,F,F,F]
abbrev spec_l12Table.m3 : Array Bool := #[T,T,T,F,F,F,F,F,F,F,F,F,F,F,F,F,F,F,F,F,F,F,F,F]
abbrev spec_l12Table.m4 : Array Bool := #[T,T,T,F,T,F,F,F,F,F,F,F,F,F,F,F,F,F,F,F,F,F,F,F]
abbrev spec_l12Table.m5 : Array Bool := #[T,T,T,F,T,T,F,F,F,F,F,F,F,F,F,F,F,F,F,F,F,F,F,F]
abbrev spec_l12Table.m6 : Array Bool := #[T,T,T,F,T,T,T,F,F,F,F,F,F,F,F,F,F,F,F,F,F,F,F,F]
abbrev spec_l12Table.m7 : Array Bool := #[T,T,T,F,T,T,T,T,F,F,F,F,F,F,F,F,F,F,F,F,F,F,F,F]
abbrev spec_l12Table.m8 : Array Bool := #[T,T,T,F,T,T,T,T,T,F,F,F,F,F,F,F,F,F,F,F,F,F,F,F]
abbrev spec_l12Table.m9 : Array Bool := #[T,T,T,F,T,T,T,T,T,F,T,F,F,F,F,F,F,F,F,F,F,F,F,F]
abbrev spec_l12Table.m10 : Array Bool := #[T,T,T,F,T,T,T,T,T,F,T,F,F,T,F,F,F,F,F,F,F,F,F,F]
abbrev spec_l12Table.m11 : Array Bool := #[T,T,T,F,T,T,T,T,T,F,T,F,F,T,T,F,F,F,F,F,F,F,F,F]
abbrev spec_l12Table.m12 : Array Bool := #[T,T,T,F,T,T,T,T,T,F,T,F,F,T,T,T,F,F,F,F,F,F,F,F]
abbrev spec_l12Table.m13 : Array Bool := #[T,T,T,F,T,T,T,T,T,F,T,F,F,T,T,T,F,T,F,F,F,F,F,F]
abbrev spec_l12Table.m14 : Array Bool := #[T,T,T,F,T,T,T,T,T,F,T,F,F,T,T,T,F,T,T,F,F,F,F,F]
abbrev spec_l12Table.m15 : Array Bool := #[T,T,T,T,T,T,T,T,T,F,T,F,F,T,T,T,F,T,T,F,F,F,F,F]
abbrev spec_l12Table.m16 : Array Bool := #[T,T,T,T,T,T,T,T,T,T,T,F,F,T,T,T,F,T,T,F,F,F,F,F]
abbrev spec_l12Table.m17 : Array Bool := #[T,T,T,T,T,T,T,T,T,T,T,T,F,T,T,T,F,T,T,F,F,F,F,F]
abbrev spec_l12Table.m18 : Array Bool := #[T,T,T,T,T,T,T,T,T,T,T,T,T,T,T,T,F,T,T,F,F,F,F,F]
abbrev spec_l12Table.m19 : Array Bool := #[T,T,T,T,T,T,T,T,T,T,T,T,T,T,T,T,T,T,T,F,F,F,F,F]
abbrev spec_l12Table.m20 : Array Bool := #[T,T,T,T,T,T,T,T,T,T,T,T,T,T,T,T,T,T,T,T,F,F,F,F]
abbrev spec_l12Table.m21 : Array Bool := #[T,T,T,T,T,T,T,T,T,T,T,T,T,T,T,T,T,T,T,T,T,F,F,F]
abbrev spec_l12Table.m22 : Array Bool := #[T,T,T,T,T,T,T,T,T,T,T,T,T,T,T,T,T,T,T,T,T,T,F,F]
abbrev spec_l12Table.m23 : Array Bool := #[T,T,T,T,T,T,T,T,T,T,T,T,T,T,T,T,T,T,T,T,T,T,T,F]
abbrev spec_l12Table.m24 : Array Bool := #[T,T,T,T,T,T,T,T,T,T,T,T,T,T,T,T,T,T,T,T,T,T,T,T]
abbrev spec_l12Table.m25 : Array Bool := #[F,F,F,F,F,F,F,F,F]
abbrev spec_l12Table.m26 : Array Bool := #[T,F,F,F,F,F,F,F,F]
abbrev spec_l12Table.m27 : Array Bool := #[T,T,F,F,F,F,F,F,F]
abbrev spec_l12Table.m28 : Array Bool := #[T,T,T,F,F,F,F,F,F]
abbrev spec_l12Table.m29 : Array Bool := #[T,T,T,F,T,F,F,F,F]
abbrev spec_l12Table.m30 : Array Bool := #[T,T,T,F,T,T,F,F,F]
abbrev spec_l12Table.m31 : Array Bool := #[T,T,T,F,T,T,T,F,F]
abbrev spec_l12Table.m32 : Array Bool := #[T,T,T,T,T,T,T,F,F]
abbrev spec_l12Table.m33 : Array Bool := #[T,T,T,T,T,T,T,T,F]
abbrev spec_l12Table.m34 : Array Bool := #[T,T,T,T,T,T,T,T,T]
abbrev spec_l12Table.m35 : Array Bool := #[F,F,F,F,F,F,F,F,F,F,F,F,F,F,F,F,F,F,F,F,F,F,F,F,F]
abbrev spec_l12Table.m36 : Array Bool := #[T,F,F,F,F,F,F,F,F,F,F,F,F,F,F,F,F,F,F,F,F,F,F,F,F]
abbrev spec_l12Table.m37 : Array Bool := #[T,T,F,F,F,F,F,F,F,F,F,F,F,F,F,F,F,F,F,F,F,F,F,F,F]
abbrev spec_l12Table.m38 : Array Bool := #[T,T,T,F,F,F,F,F,F,F,F,F,F,F,F,F,F,F,F,F,F,F,F,F,F]
abbrev spec_l12Table.m39 : Array Bool := #[T,T,T,F,T,F,F,F,F,F,F,F,F,F,F,F,F,F,F,F,F,F,F,F,F]
abbrev spec_l12Table.m40 : Array Bool := #[T,T,T,F,T,T,F,F,F,F,F,F,F,F,F,F,F,F,F,F,F,F,F,F,F]
abbrev spec_l12Table.m41 : Array Bool := #[T,T,T,F,T,T,T,F,F,F,F,F,F,F,F,F,F,F,F,F,F,F,F,F,F]
abbrev spec_l12Table.m42 : Array Bool := #[T,T,T,F,T,T,T,T,F,F,F,F,F,F,F,F,F,F,F,F,F,F,F,F,F]
abbrev spec_l12Table.m43 : Array Bool := #[T,T,T,F,T,T,T,T,F,T,F,F,F,F,F,F,F,F,F,F,F,F,F,F,F]
abbrev spec_l12Table.m44 : Array Bool := #[T,T,T,F,T,T,T,T,F,T,F,F,T,F,F,F,F,F,F,F,F,F,F,F,F]
abbrev spec_l12Table.m45 : Array Bool := #[T,T,T,F,T,T,T,T,F,T,F,F,T,T,F,F,F,F,F,F,F,F,F,F,F]
abbrev spec_l12Table.m46 : Array Bool := #[T,T,T,F,T,T,T,T,F,T,F,F,T,T,T,F,F,F,F,F,F,F,F,F,F]
abbrev spec_l12Table.m47 : Array Bool := #[T,T,T,F,T,T,T,T,F,T,F,F,T,T,T,T,F,F,F,F,F,F,F,F,F]
abbrev spec_l12Table.m48 : Array Bool := #[T,T,T,F,T,T,T,T,F,T,F,F,T,T,T,T,F,T,F,F,F,F,F,F,F]
abbrev spec_l12Table.m49 : Array Bool := #[T,T,T,F,T,T,T,T,F,T,F,F,T,T,T,T,F,T,T,F,F,F,F,F,F]
abbrev spec_l12Table.m50 : Array Bool := #[T,T,T,T,T,T,T,T,F,T,F,F,T,T,T,T,F,T,T,F,F,F,F,F,F]
abbrev spec_l12Table.m51 : Array Bool := #[T,T,T,T,T,T,T,T,T,T,F,F,T,T,T,T,F,T,T,F,F,F,F,F,F]
abbrev spec_l12Table.m52 : Array Bool := #[T,T,T,T,T,T,T,T,T,T,T,F,T,T,T,T,F,T,T,F,F,F,F,F,F]
abbrev spec_l12Table.m53 : Array Bool := #[T,T,T,T,T,T,T,T,T,T,T,T,T,T,T,T,F,T,T,F,F,F,F,F,F]
abbrev spec_l12Table.m54 : Array Bool := #[T,T,T,T,T,T,T,T,T,T,T,T,T,T,T,T,T,T,T,F,F,F,F,F,F]
abbrev spec_l12Table.m55 : Array Bool := #[T,T,T,T,T,T,T,T,T,T,T,T,T,T,T,T,T,T,T,T,F,F,F,F,F]
abbrev spec_l12Table.m56 : Array Bool := #[T,T,T,T,T,T,T,T,T,T,T,T,T,T,T,T,T,T,T,T,T,F,F,F,F]
abbrev spec_l12Table.m57 : Array Bool := #[T,T,T,T,T,T,T,T,T,T,T,T,T,T,T,T,T,T,T,T,T,T,F,F,F]
abbrev spec_l12Table.m58 : Array Bool := #[T,T,T,T,T,T,T,T,T,T,T,T,T,T,T,T,T,T,T,T,T,T,T,F,F]
abbrev spec_l12Table.m59 : Array Bool := #[T,T,T,T,T,T,T,T,T,T,T,T,T,T,T,T,T,T,T,T,T,T,T,T,F]
abbrev spec_l12Table.m60 : Array Bool := #[T,T,T,T,T,T,T,T,T,T,T,T,T,T,T,T,T,T,T,T,T,T,T,T,T]
set_option maxHeartbeats 8000000 in
set_option maxRecDepth 100000 in
theorem spec_l12Table.calls (k : Nat) (A0 : Option Addr) (c0 : Nat) (l0 : List Int) (A1 : Option Addr) (c1 : Nat) (l1 : List Int) (r : List (List Int)) (w : World) (hr0 : Kd.C (Kd.int .i64) w A0 l0.length l0) (hc0 : l0.length ≤ c0) (hr1 : Kd.C (Kd.int .i64) w A1 l1.length l1) (hc1 : l1.length ≤ c1) (h : spec_l12Table.f k l0 l1 = some r) :
  Calls Try.prog 59 #[.slice A0 l0.length c0, .slice A1 l1.length c1] w fun e w' => ∃ v0_ : Value, e = .returned (v0_) ∧ Kd.S (Kd.slice 3 (Kd.int .i64)) 45 w' w.heap.size (fun _ => True) v0_ r ∧ Below w.heap.size w w' := by
 have HR0:=mk0 hr0
 have HC0:=mk0 hc0
 clear hr0 hc0
 have HR1:=mk0 hr1
 have HC1:=mk0 hc1
 clear hr1 hc1
 have HB:=mk0 (Below.refl w.heap.size w)
 have H:(if 0 ≤ (wrap64 ((l0.length:Int) + 1)) then (if (wrap64 ((l0.length:Int) + 1):Int).toNat ≤ 11728124029610 then (spec_l12Table.l0 k l0 l1 (l0.length:Int) (List.replicate (wrap64 ((l0.length:Int) + 1):Int).toNat [])) else (none)) else (none)) = some r:=h
 clear h
 obtain⟨ji3,hji3⟩:∃ j_:Int,(wrap64 ((l0.length:Int) + 1)) = j_:=⟨_,rfl⟩
 replace H:(if 0 ≤ (ji3) then (if (ji3:Int).toNat ≤ 11728124029610 then (spec_l12Table.l0 k l0 l1 (l0.length:Int) (List.replicate (ji3:Int).toNat [])) else (none)) else (none)) = some r:=by first|(rw [hji3] at H;exact H)|(simp only [hji3] at H ⊢;exact H)
 have hji3w:(IntKind.i64.wrap ((l0.length:Int) + 1)) = ji3:=(i64_w _).trans hji3
 by_cases c4:0 ≤ (ji3)
 rotate_left
 ·rw [if_neg c4] at H
  exact absurd H (by simp)
 rw [if_pos c4] at H
 have c4b0:=eq_true c4
 have c4b1:decide (0 ≤ (ji3)) = true:=decide_eq_true c4
 clear c4
 by_cases c5:(ji3:Int).toNat ≤ 11728124029610
 rotate_left
 ·rw [if_neg c5] at H
  exact absurd H (by simp)
 rw [if_pos c5] at H
 have c5b0:=eq_true c5
 have c5b1:decide ((ji3:Int).toNat ≤ 11728124029610) = true:=decide_eq_true c5
 clear c5
 obtain⟨y251,hy251⟩:∃ y_:List (List Int),y_ = (List.replicate (ji3:Int).toNat []):=⟨_,rfl⟩
 replace H:(spec_l12Table.l0 k l0 l1 (l0.length:Int) y251) = some r:=by first|(rw [hy251];with_reducible exact H)|(have H2_:=(Option.bind_some _ _).symm.trans H;rw [hy251];with_reducible exact H2_)|(have H2_:=(Option.bind_some _ _).symm.trans H;with_reducible exact H2_)|with_reducible exact H|(rw [hy251];exact H)|exact H
 have Ny251:=mk0 hy251
 clear hy251
 have H':=mk0 H
 clear H
 go_enter Try.func59,Try.ntmps59
 go_wp2_with (first|((with_reducible refine gate_dst (N:=11) rfl ?_);(try (refine gate_guard (by rfl) ?_;dsimp only));refine Kd.S_make (Kd.slice 3 (Kd.int .i64)) _ 45 rfl (N:=11) rfl 73 _ _ rfl ji3 rfl rfl Try.underlying73 (.slice none 0 0) 24 info45 rfl (by decide) (by omega) [] (ok:=fun _=>True) (okp:=fun _=>True) ⟨_,rfl,Kd.R_nil _ _ _ _ _⟩ (fun _ hk=>hk) trivial (of_decide_eq_true (by first|(with_reducible assumption)|assumption)) (Nat.le_trans (Nat.mul_le_mul_right _ (of_decide_eq_true (by first|(with_reducible assumption)|assumption):ji3.toNat ≤ 11728124029610)) (by omega)) (Below.refl _ _) (Nat.le_refl _) ?_;intro v252 w6 ho7 hb hg_ hnew_;clear hg_ hnew_;(first|rw [← Ny251.out] at ho7|(simp only [Int.reduceToNat] at ho7;rw [← Ny251.out] at ho7));have HO253:=mk0 (Kd.S_lower ho7 (kZ HB.out));replace HB:=mk0 (kS HB.out hb);clear hb ho7))
 go_loopg [6] k (fun kq v6 w'=>∃ (x6_1:Int) (x11_1:List (List Int)),v6 = .int .i64 x6_1 ∧ Aside0 (spec_l12Table.l0 kq l0 l1 x6_1 x11_1 = some r) ∧ Aside0 (kq ≤ k) ∧ Aside0 (Kd.S (Kd.slice 3 (Kd.int .i64)) 45 w' w.heap.size (fun _=>True) v252 x11_1) ∧ Aside0 (Below w.heap.size w w'))
 case atStart=>exact⟨((l0.length:Int)),(y251),(by first|rfl|(simp;done)|(simp [*];done)),H',⟨Nat.le_refl _⟩,⟨rS HO253.out⟩,⟨kB HB.out⟩⟩
 case round =>
  clear H'
  try clear c1
  try clear p2
  try clear c4
  try clear c4b0
  try clear c4b1
  try clear c5
  try clear c5b0
  try clear c5b1
  try clear p6
  obtain⟨x6_1,x11_1,rfl,HA,HK1,HO_11,HB⟩:=hrel
  cases gk with
  | zero=>exact absurd HA.out (by simp [spec_l12Table.l0])
  | succ k1 =>
   have H:=HA.out
   clear HA
   simp only [spec_l12Table.l0] at H
   by_cases c8:x6_1 ≥ 0
   rotate_left
   ·rw [if_neg c8] at H
    have c8b0:decide (0 ≤ x6_1) = false:=decide_eq_false c8
    clear c8
    obtain rfl:=Option.some.inj H
    go_wp2
    go_ret
    exact⟨_,by first|rfl|(simp [errW_none,errW_some] <;> rfl)|(simp only [← hji3];first|rfl|(simp [errW_none,errW_some] <;> rfl))|(simp [*,errW_none,errW_some] <;> rfl),rS HO_11.out,kB HB.out⟩
   rw [if_pos c8] at H
   have c8b0:decide (0 ≤ x6_1) = true:=decide_eq_true c8
   clear c8
   obtain⟨ji9,hji9⟩:∃ j_:Int,(wrap64 ((l1.length:Int) + 1)) = j_:=⟨_,rfl⟩
   replace H:(if 0 ≤ (ji9) then (if (ji9:Int).toNat ≤ 35184372088832 then (if 0 ≤ x6_1 then (if x6_1 < (x11_1.length:Int) then (spec_l12Table.l1 k1 l0 l1 x6_1 (l1.length:Int) (x11_1.set (x6_1:Int).toNat (List.replicate (ji9:Int).toNat 0))) else (none)) else (none)) else (none)) else (none)) = some r:=by first|(rw [hji9] at H;exact H)|(simp only [hji9] at H ⊢;exact H)
   have hji9w:(IntKind.i64.wrap ((l1.length:Int) + 1)) = ji9:=(i64_w _).trans hji9
   by_cases c10:0 ≤ (ji9)
   rotate_left
   ·rw [if_neg c10] at H
    exact absurd H (by simp)
   rw [if_pos c10] at H
   have c10b0:=eq_true c10
   have c10b1:decide (0 ≤ (ji9)) = true:=decide_eq_true c10
   clear c10
   by_cases c11:(ji9:Int).toNat ≤ 35184372088832
   rotate_left
   ·rw [if_neg c11] at H
    exact absurd H (by simp)
   rw [if_pos c11] at H
   have c11b0:=eq_true c11
   have c11b1:decide ((ji9:Int).toNat ≤ 35184372088832) = true:=decide_eq_true c11
   clear c11
   obtain⟨y254,hy254⟩:∃ y_:List Int,y_ = (List.replicate (ji9:Int).toNat 0):=⟨_,rfl⟩
   replace H:(if 0 ≤ x6_1 then (if x6_1 < (x11_1.length:Int) then (spec_l12Table.l1 k1 l0 l1 x6_1 (l1.length:Int) (x11_1.set (x6_1:Int).toNat y254)) else (none)) else (none)) = some r:=by first|(rw [hy254];with_reducible exact H)|(have H2_:=(Option.bind_some _ _).symm.trans H;rw [hy254];with_reducible exact H2_)|(have H2_:=(Option.bind_some _ _).symm.trans H;with_reducible exact H2_)|with_reducible exact H|(rw [hy254];exact H)|exact H
   have Ny254:=mk0 hy254
   clear hy254
   by_cases c12:0 ≤ x6_1
   rotate_left
   ·rw [if_neg c12] at H
    exact absurd H (by simp)
   rw [if_pos c12] at H
   have c12b0:decide (0 ≤ x6_1) = true:=decide_eq_true c12
   clear c12
   by_cases c13:x6_1 < (x11_1.length:Int)
   rotate_left
   ·rw [if_neg c13] at H
    exact absurd H (by simp)
   rw [if_pos c13] at H
   have c13b0:decide (x6_1 < (x11_1.length:Int)) = true:=decide_eq_true c13
   (try simp only [hl11_2] at c13b0)
   (try simp only [hl258_0] at c13b0)
   (try simp only [hl259_0] at c13b0)
   (try simp only [hl261_0] at c13b0)
   (try simp only [hl268_0] at c13b0)
   (try simp only [hl269_0] at c13b0)
   (try simp only [hl271_0] at c13b0)
   clear c13
   obtain⟨y257,hy257⟩:∃ y_:List (List Int),y_ = (x11_1.set (x6_1:Int).toNat y254):=⟨_,rfl⟩
   replace H:(spec_l12Table.l1 k1 l0 l1 x6_1 (l1.length:Int) y257) = some r:=by first|(rw [hy257];with_reducible exact H)|(have H2_:=(Option.bind_some _ _).symm.trans H;rw [hy257];with_reducible exact H2_)|(have H2_:=(Option.bind_some _ _).symm.trans H;with_reducible exact H2_)|with_reducible exact H|(rw [hy257];exact H)|exact H
   have Ny257:=mk0 hy257
   clear hy257
   have H':=mk0 H
   clear H
   go_wp2_with (first|((with_reducible refine gate_dst (N:=23) rfl ?_);(try (refine gate_guard (by rfl) ?_;dsimp only));refine Kd.R_make (Kd.int .i64) _ 3 rfl (N:=23) rfl 45 _ _ rfl ji9 rfl rfl Try.underlying45 (.int .i64 0) 8 info3 rfl (by decide) (by omega) 0 (ok:=fun _=>True) (okp:=fun _=>True) rfl (fun _ hk=>hk) trivial (of_decide_eq_true (by first|(with_reducible assumption)|assumption)) (Nat.le_trans (Nat.mul_le_mul_right _ (of_decide_eq_true (by first|(with_reducible assumption)|assumption):ji9.toNat ≤ 35184372088832)) (by omega)) (Below.refl _ _) (Nat.le_refl _) ?_;intro v255 w15 ho16 hb hg_ hnew_;clear hg_ hnew_;(first|rw [← Ny254.out] at ho16|(simp only [Int.reduceToNat] at ho16;rw [← Ny254.out] at ho16));replace HO_11:=mk0 (Kd.S_elder' (rS HO_11.out) (Kd.R_base ho16) hb);have HO256:=mk0 (Kd.R_lower ho16 (kZ HB.out));replace HB:=mk0 (kS HB.out hb);clear hb ho16;have p14:0 ≤ (x6_1:Int):=of_decide_eq_true (by first|(with_reducible assumption)|assumption);have q14:(x6_1:Int) < ((x11_1.length:Int):Int):=of_decide_eq_true (by first|(with_reducible assumption)|assumption);obtain⟨go14,co14,eo14,gb14,gl14,cl14,HG14⟩:=Kd.S_form HO_11.out (by omega);(first|cases eo14|(injection eo14 with ea_ en_ ec_;(first|subst ea_|(injection ea_ with ea_;subst ea_));subst ec_;clear en_));have GB14:=mk0 gb14;have GG14:=mk0 HG14;clear gb14 gl14 HG14;obtain⟨_,ce14,hcl14,hM14,hcc14,hfr14,_,_⟩:=Kd.S_elem HO_11.out [] (x6_1:Int) p14 q14;obtain⟨ve14_0,rfl,ge14_0⟩:=hM14;have hx14_0:=hcc14 0 _ rfl;have hf14_0:=hfr14 0;(try simp only [show ((Kd.slice 3 (Kd.int .i64))).sz = 1 from rfl,Nat.mul_one,Nat.add_zero] at hx14_0);(try simp only [show ((Kd.slice 3 (Kd.int .i64))).sz = 1 from rfl,Nat.mul_one,Nat.add_zero] at hf14_0);clear hcl14 hcc14 hfr14;(try clear hM14);replace p14:=eq_true p14;replace q14:=eq_true q14;have n_:=mk0 (Kd.S_mono (ok':=(fun k_=>some k_ ≠ (v255:Value).ownBlock)) HO_11.out (fun k_ hk=>hk.2));clear HO_11;have HO_11:=n_;clear n_;have HX17:=mk0 (show Kd.S (Kd.slice 3 (Kd.int .i64)) 45 w15 w.heap.size (fun k_=>((fun _=>True)) k_ ∧ ¬ ((fun k_=>some k_ = (v255:Value).ownBlock)) k_) (.slice (some ⟨go14,0,none⟩) x11_1.length co14) x11_1 from (by (with_reducible repeat (first|apply aS|apply nS|apply dS));exact Kd.S_mono HO_11.out (fun k_ hk=>⟨trivial,fun e_=>hk e_⟩)));obtain⟨oki17,ce17,hcl17,hM17,hcc17,hfr17,hoki17,hH17⟩:=Kd.S_elem HX17.out [] (x6_1:Int) (of_decide_eq_true (by first|(with_reducible assumption)|assumption)) (by have h_:(x6_1:Int) < ((x11_1.length:Int):Int):=of_decide_eq_true (by first|(with_reducible assumption)|assumption);first|exact h_|(have e_:=(Kd.S_reads' HO_11.out).1;omega)|simpa using h_);obtain⟨ve17_0,rfl,ge17_0⟩:=hM17;have HP17:=Kd.S_seg hH17 (of_decide_eq_true (by first|(with_reducible assumption)|assumption)) (by have h_:(x6_1:Int) < ((x11_1.length:Int):Int):=of_decide_eq_true (by first|(with_reducible assumption)|assumption);first|exact h_|(have e_:=(Kd.S_reads' HO_11.out).1;omega)|simpa using h_) (seg:=[v255]) (j:=0) (show 1 ≤ 1 from by decide) (x':=y254) (Kd.M_row (Kd.R_mono (Kd.R_tight rfl (Kd.R_mono (ok':=fun k_=>((fun _=>True)) k_ ∧ k_ ≠ go14) (Kd.R_apart' (HO256.out) (Kd.S_typed HO_11.out) (by decide)) (fun k_ hk=>⟨trivial,fun e_=>(hk.2) (by rw [e_];rfl)⟩))) (fun _ h_=>Or.inr (h_)))) (fun _ hk=>hk) (fun k_ hk_=>((Kd.R_mono (ok':=fun k_=>((fun _=>True)) k_ ∧ k_ ≠ go14) (Kd.R_apart' (HO256.out) (Kd.S_typed HO_11.out) (by decide)) (fun k_ hk=>⟨trivial,fun e_=>(hk.2) (by rw [e_];rfl)⟩))).1 k_ hk_.symm);have hx17_0:=hcc17 0 _ rfl;(try simp only [show ((Kd.slice 3 (Kd.int .i64))).sz = 1 from rfl,Nat.mul_one,Nat.add_zero] at hx17_0);have hf17_0:=hfr17 0;(try simp only [show ((Kd.slice 3 (Kd.int .i64))).sz = 1 from rfl,Nat.mul_one,Nat.add_zero] at hf17_0);clear hcl17 hcc17 hfr17 hoki17 hH17;(try clear hM17);(try simp only [show ((Kd.slice 3 (Kd.int .i64))).sz = 1 from rfl,Nat.mul_one,Nat.add_zero] at HP17))|((with_reducible refine gate_store (t:=45) (p:=24) rfl ?_);refine store_event (t:=45) (p:=24) (v:=?vo_w18) (w1:=(w15.setCell ⟨go14,(x6_1:Int).toNat,none⟩ (v255))) ?hg ?ho ?hn ?hr ?_;(case ho=>rfl);(case hg=>rfl);(case hn=>rfl);(case hr=>first|(go_simp;done)|(go_simp;rfl)|(obtain⟨A0_,c0_,e0_⟩:∃ A c,v255 = Value.slice A (y254).length c:=(by first|exact Kd.R_slice HO256.out|exact Kd.S_slice HO256.out|exact Kd.N_slice HO256.out|exact Kd.V_slice HO256.out);rw [e0_];(first|(go_simp;done)|(go_simp;rfl)|(simp only [Int.toNat_natCast] at *;go_simp;done)|(simp only [Int.toNat_natCast] at *;go_simp;rfl))));intro w18 hw;have hg:w15.grownBy w18 (some go14):=(by rw [hw];exact HP17.2);have hp_:Kd.S (Kd.slice 3 (Kd.int .i64)) 45 w18 w.heap.size (fun _=>True) (.slice (some ⟨go14,0,none⟩) x11_1.length co14) y257:=(by rw [hw,Ny257.out];exact HP17.1);clear HP17;replace HO_11:=mk0 (hp_);replace HB:=mk0 ((by rw [hw];exact sZ (HB.out) GB14.out:Below w.heap.size w w18));clear HO256 hg hw hp_))
   go_loopg [7] k1 (fun kq v7 w'=>∃ (x7_2:Int) (x11_2:List (List Int)),v7 = .int .i64 x7_2 ∧ Aside0 (spec_l12Table.l1 kq l0 l1 x6_1 x7_2 x11_2 = some r) ∧ Aside0 (kq ≤ k1) ∧ Aside0 (Kd.S (Kd.slice 3 (Kd.int .i64)) 45 w' w.heap.size (fun _=>True) (.slice (some ⟨go14,0,none⟩) x11_1.length co14) x11_2) ∧ Aside0 (Below w.heap.size w w'))
   case atStart=>exact⟨((l1.length:Int)),(y257),(by first|rfl|(simp;done)|(simp [*];done)),H',⟨Nat.le_refl _⟩,⟨rS HO_11.out⟩,⟨kB HB.out⟩⟩
   case round =>
    clear H'
    try clear c1
    try clear p1
    try clear q1
    try clear hx1
    try clear p2
    try clear c4
    try clear c4b0
    try clear c4b1
    try clear c5
    try clear c5b0
    try clear c5b1
    try clear p6
    try clear c8
    try clear c8b0
    try clear c10
    try clear c10b0
    try clear c10b1
    try clear c11
    try clear c11b0
    try clear c11b1
    try clear c12
    try clear c12b0
    try clear c13
    try clear c13b0
    try clear c14
    try clear p14
    try clear q14
    try clear hx14
    try clear hf14
    try clear c17
    try clear hx17
    try clear hf17
    try clear hx14_0
    try clear hx17_0
    try clear p14
    try clear p2
    try clear p6
    try clear q14
    obtain⟨x7_2,x11_2,rfl,HA,HK2,HO_11,HB⟩:=hrel
    have hl11_2:=(Kd.S_reads' HO_11.out).1
    rw [hl11_2] at HO_11
    (try simp only [hl11_2])
    cases gk with
    | zero=>exact absurd HA.out (by simp [spec_l12Table.l1])
    | succ k2 =>
     have H:=HA.out
     clear HA
     simp only [spec_l12Table.l1] at H
     by_cases c19:x7_2 ≥ 0
     rotate_left
     ·rw [if_neg c19] at H
      have c19b0:decide (0 ≤ x7_2) = false:=decide_eq_false c19
      clear c19
      have H':=mk0 H
      clear H
      go_wp2
      (try simp only [← hl11_2])
      go_roundg k2
      case measure=>have:=HK1.out;have:=HK2.out;omega
      case rel=>exact⟨(wrap64 (x6_1 - 1)),(x11_2),(by first|rfl|(simp;done)|(simp [*];done)),H',⟨by have:=HK1.out;have:=HK2.out;omega⟩,⟨by (try simp only [hl11_2]);(with_reducible repeat (first|apply aS|apply nS|apply dS));exact HO_11.out⟩,⟨kB HB.out⟩⟩
     rw [if_pos c19] at H
     have c19b0:decide (0 ≤ x7_2) = true:=decide_eq_true c19
     clear c19
     have HC20:=mk0 H
     clear H
     go_upto_region 9 with (fail)
     go_cut [40] (fun v40 wc=>∃ (kq:Nat) (x40_19:Bool),v40 = .bool x40_19 ∧ Aside0 (spec_l12Table.j2 kq l0 l1 x11_2 x6_1 x7_2 x40_19 = some r) ∧ Aside0 (kq ≤ k2) ∧ Aside0 (Kd.S (Kd.slice 3 (Kd.int .i64)) 45 wc w.heap.size (fun _=>True) (.slice (some ⟨go14,0,none⟩) x11_2.length co14) x11_2) ∧ Aside0 (Below w.heap.size w wc))
     case first =>
      have H:=HC20.out
      clear HC20
      by_cases c21:x6_1 < (l0.length:Int)
      rotate_left
      ·rw [if_neg c21] at H
       have c21b0:decide (x6_1 < (l0.length:Int)) = false:=decide_eq_false c21
       (try simp only [hl11_2] at c21b0)
       (try simp only [hl258_0] at c21b0)
       (try simp only [hl259_0] at c21b0)
       (try simp only [hl261_0] at c21b0)
       (try simp only [hl268_0] at c21b0)
       (try simp only [hl269_0] at c21b0)
       (try simp only [hl271_0] at c21b0)
       clear c21
       (first|rw [c21b0]|(simp only [i64_w,i32_w];rw [c21b0])|skip)
       have H':=mk0 H
       clear H
       go_wp2
       go_meet
       case rel=>exact⟨_,(false),(by first|rfl|(simp;done)|(simp [*];done)),H',⟨by have:=HK1.out;have:=HK2.out;first|omega|exact Nat.le_refl _⟩,⟨by (try simp only [hl11_2]);(with_reducible repeat (first|apply aS|apply nS|apply dS));exact HO_11.out⟩,⟨kB HB.out⟩⟩
      rw [if_pos c21] at H
      have c21b0:decide (x6_1 < (l0.length:Int)) = true:=decide_eq_true c21
      (try simp only [hl11_2] at c21b0)
      (try simp only [hl258_0] at c21b0)
      (try simp only [hl259_0] at c21b0)
      (try simp only [hl261_0] at c21b0)
      (try simp only [hl268_0] at c21b0)
      (try simp only [hl269_0] at c21b0)
      (try simp only [hl271_0] at c21b0)
      clear c21
      (first|rw [c21b0]|(simp only [i64_w,i32_w];rw [c21b0])|skip)
      have H':=mk0 H
      clear H
      go_wp2
      go_meet
      case rel=>exact⟨_,(decide (x7_2 < (l1.length:Int))),(by first|rfl|(simp;done)|(simp [*];done)),H',⟨by have:=HK1.out;have:=HK2.out;first|omega|exact Nat.le_refl _⟩,⟨by (try simp only [hl11_2]);(with_reducible repeat (first|apply aS|apply nS|apply dS));exact HO_11.out⟩,⟨kB HB.out⟩⟩
     case rest =>
      clear HC20
      try clear c1
      try clear p1
      try clear q1
      try clear hx1
      try clear c2
      try clear p2
      try clear c4
      try clear c4b0
      try clear c4b1
      try clear c5
      try clear c5b0
      try clear c5b1
      try clear p6
      try clear c8
      try clear c8b0
      try clear c10
      try clear c10b0
      try clear c10b1
      try clear c11
      try clear c11b0
      try clear c11b1
      try clear c12
      try clear c12b0
      try clear c13
      try clear c13b0
      try clear c14
      try clear p14
      try clear q14
      try clear hx14
      try clear hf14
      try clear c17
      try clear hx17
      try clear hf17
      try clear c19
      try clear c19b0
      try clear c21
      try clear c21b0
      try clear hx14_0
      try clear hx17_0
      try clear p1
      try clear p14
      try clear p2
      try clear p6
      try clear q1
      try clear q14
      obtain⟨kq,x40_19,rfl,HA,HJ19,HO_5,HB⟩:=hcut
      cases kq with
      | zero=>exact absurd HA.out (by simp [spec_l12Table.j2])
      | succ kj19 =>
       have H:=HA.out
       clear HA
       simp only [spec_l12Table.j2] at H
       by_cases c22:x40_19 = true
       rotate_left
       ·replace c22:=Bool.eq_false_iff.mpr c22
        subst c22
        have H1:(spec_l12Table.l1 kj19 l0 l1 x6_1 (wrap64 (x7_2 - 1)) x11_2) = some r:=by rw [if_neg (show ¬ (false = true) by decide)] at H;exact H
        clear H
        have H:=H1
        clear H1
        have H':=mk0 H
        clear H
        go_wp2
        (try simp only [← hl11_2])
        go_roundg kj19
        case measure=>have:=HK1.out;have:=HK2.out;have:=HJ19.out;omega
        case rel=>exact⟨(wrap64 (x7_2 - 1)),(x11_2),(by first|rfl|(simp;done)|(simp [*];done)),H',⟨by have:=HK1.out;have:=HK2.out;have:=HJ19.out;omega⟩,⟨by (try simp only [hl11_2]);(with_reducible repeat (first|apply aS|apply nS|apply dS));exact HO_5.out⟩,⟨kB HB.out⟩⟩
       subst c22
       have H1:(if 0 ≤ x6_1 then (if x6_1 < (x11_2.length:Int) then (if 0 ≤ (wrap64 (x6_1 + 1)) then (if (wrap64 (x6_1 + 1)) < (x11_2.length:Int) then (if 0 ≤ x7_2 then (if x7_2 < ((rd_L4 x11_2 (wrap64 (x6_1 + 1))).length:Int) then (if 0 ≤ (wrap64 (x7_2 + 1)) then (if (wrap64 (x7_2 + 1)) < ((rd_L4 x11_2 x6_1).length:Int) then (if x7_2 < ((rd_L4 x11_2 x6_1).length:Int) then ((some (x11_2.set (x6_1:Int).toNat ((rd_L4 x11_2 x6_1).set (x7_2:Int).toNat (mx (rd (rd_L4 x11_2 (wrap64 (x6_1 + 1))) x7_2) (rd (rd_L4 x11_2 x6_1) (wrap64 (x7_2 + 1))))):List (List Int))).bind fun y265=>(if x6_1 < (l0.length:Int) then (if x7_2 < (l1.length:Int) then (if (rd l0 x6_1) = (rd l1 x7_2) then (if x7_2 < ((rd_L4 y265 x6_1).length:Int) then (if (wrap64 (x7_2 + 1)) < ((rd_L4 y265 (wrap64 (x6_1 + 1))).length:Int) then (spec_l12Table.l1 kj19 l0 l1 x6_1 (wrap64 (x7_2 - 1)) (y265.set (x6_1:Int).toNat ((rd_L4 y265 x6_1).set (x7_2:Int).toNat (mx (rd (rd_L4 y265 x6_1) x7_2) (wrap64 (1 + (rd (rd_L4 y265 (wrap64 (x6_1 + 1))) (wrap64 (x7_2 + 1))))))))) else (none)) else (none)) else (spec_l12Table.l1 kj19 l0 l1 x6_1 (wrap64 (x7_2 - 1)) y265)) else (none)) else (none))) else (none)) else (none)) else (none)) else (none)) else (none)) else (none)) else (none)) else (none)) else (none)) = some r:=by rw [if_pos rfl] at H;exact H
       clear H
       have H:=H1
       clear H1
       by_cases c23:0 ≤ x6_1
       rotate_left
       ·rw [if_neg c23] at H
        exact absurd H (by simp)
       rw [if_pos c23] at H
       have c23b0:decide (0 ≤ x6_1) = true:=decide_eq_true c23
       clear c23
       by_cases c24:x6_1 < (x11_2.length:Int)
       rotate_left
       ·rw [if_neg c24] at H
        exact absurd H (by simp)
       rw [if_pos c24] at H
       have c24b0:decide (x6_1 < (x11_2.length:Int)) = true:=decide_eq_true c24
       (try simp only [hl11_2] at c24b0)
       (try simp only [hl258_0] at c24b0)
       (try simp only [hl259_0] at c24b0)
       (try simp only [hl261_0] at c24b0)
       (try simp only [hl268_0] at c24b0)
       (try simp only [hl269_0] at c24b0)
       (try simp only [hl271_0] at c24b0)
       clear c24
       obtain⟨ji25,hji25⟩:∃ j_:Int,(wrap64 (x6_1 + 1)) = j_:=⟨_,rfl⟩
       replace H:(if 0 ≤ (ji25) then (if (ji25) < (x11_2.length:Int) then (if 0 ≤ x7_2 then (if x7_2 < ((rd_L4 x11_2 (ji25)).length:Int) then (if 0 ≤ (wrap64 (x7_2 + 1)) then (if (wrap64 (x7_2 + 1)) < ((rd_L4 x11_2 x6_1).length:Int) then (if x7_2 < ((rd_L4 x11_2 x6_1).length:Int) then ((some (x11_2.set (x6_1:Int).toNat ((rd_L4 x11_2 x6_1).set (x7_2:Int).toNat (mx (rd (rd_L4 x11_2 (ji25)) x7_2) (rd (rd_L4 x11_2 x6_1) (wrap64 (x7_2 + 1))))):List (List Int))).bind fun y265=>(if x6_1 < (l0.length:Int) then (if x7_2 < (l1.length:Int) then (if (rd l0 x6_1) = (rd l1 x7_2) then (if x7_2 < ((rd_L4 y265 x6_1).length:Int) then (if (wrap64 (x7_2 + 1)) < ((rd_L4 y265 (ji25)).length:Int) then (spec_l12Table.l1 kj19 l0 l1 x6_1 (wrap64 (x7_2 - 1)) (y265.set (x6_1:Int).toNat ((rd_L4 y265 x6_1).set (x7_2:Int).toNat (mx (rd (rd_L4 y265 x6_1) x7_2) (wrap64 (1 + (rd (rd_L4 y265 (ji25)) (wrap64 (x7_2 + 1))))))))) else (none)) else (none)) else (spec_l12Table.l1 kj19 l0 l1 x6_1 (wrap64 (x7_2 - 1)) y265)) else (none)) else (none))) else (none)) else (none)) else (none)) else (none)) else (none)) else (none)) else (none)) = some r:=by first|(rw [hji25] at H;exact H)|(simp only [hji25] at H ⊢;exact H)
       have hji25w:(IntKind.i64.wrap (x6_1 + 1)) = ji25:=(i64_w _).trans hji25
       by_cases c26:0 ≤ (ji25)
       rotate_left
       ·rw [if_neg c26] at H
        exact absurd H (by simp)
       rw [if_pos c26] at H
       have c26b0:decide (0 ≤ (ji25)) = true:=decide_eq_true c26
       clear c26
       by_cases c27:(ji25) < (x11_2.length:Int)
       rotate_left
       ·rw [if_neg c27] at H
        exact absurd H (by simp)
       rw [if_pos c27] at H
       have c27b0:decide ((ji25) < (x11_2.length:Int)) = true:=decide_eq_true c27
       (try simp only [hl11_2] at c27b0)
       (try simp only [hl258_0] at c27b0)
       (try simp only [hl259_0] at c27b0)
       (try simp only [hl261_0] at c27b0)
       (try simp only [hl268_0] at c27b0)
       (try simp only [hl269_0] at c27b0)
       (try simp only [hl271_0] at c27b0)
       clear c27
       by_cases c28:0 ≤ x7_2
       rotate_left
       ·rw [if_neg c28] at H
        exact absurd H (by simp)
       rw [if_pos c28] at H
       have c28b0:decide (0 ≤ x7_2) = true:=decide_eq_true c28
       clear c28
       by_cases c29:x7_2 < ((rd_L4 x11_2 (ji25)).length:Int)
       rotate_left
       ·rw [if_neg c29] at H
        exact absurd H (by simp)
       rw [if_pos c29] at H
       have c29b0:decide (x7_2 < ((rd_L4 x11_2 (ji25)).length:Int)) = true:=decide_eq_true c29
       (try simp only [hl11_2] at c29b0)
       (try simp only [hl258_0] at c29b0)
       (try simp only [hl259_0] at c29b0)
       (try simp only [hl261_0] at c29b0)
       (try simp only [hl268_0] at c29b0)
       (try simp only [hl269_0] at c29b0)
       (try simp only [hl271_0] at c29b0)
       clear c29
       obtain⟨ji30,hji30⟩:∃ j_:Int,(wrap64 (x7_2 + 1)) = j_:=⟨_,rfl⟩
       replace H:(if 0 ≤ (ji30) then (if (ji30) < ((rd_L4 x11_2 x6_1).length:Int) then (if x7_2 < ((rd_L4 x11_2 x6_1).length:Int) then ((some (x11_2.set (x6_1:Int).toNat ((rd_L4 x11_2 x6_1).set (x7_2:Int).toNat (mx (rd (rd_L4 x11_2 (ji25)) x7_2) (rd (rd_L4 x11_2 x6_1) (ji30)))):List (List Int))).bind fun y265=>(if x6_1 < (l0.length:Int) then (if x7_2 < (l1.length:Int) then (if (rd l0 x6_1) = (rd l1 x7_2) then (if x7_2 < ((rd_L4 y265 x6_1).length:Int) then (if (ji30) < ((rd_L4 y265 (ji25)).length:Int) then (spec_l12Table.l1 kj19 l0 l1 x6_1 (wrap64 (x7_2 - 1)) (y265.set (x6_1:Int).toNat ((rd_L4 y265 x6_1).set (x7_2:Int).toNat (mx (rd (rd_L4 y265 x6_1) x7_2) (wrap64 (1 + (rd (rd_L4 y265 (ji25)) (ji30)))))))) else (none)) else (none)) else (spec_l12Table.l1 kj19 l0 l1 x6_1 (wrap64 (x7_2 - 1)) y265)) else (none)) else (none))) else (none)) else (none)) else (none)) = some r:=by first|(rw [hji30] at H;exact H)|(simp only [hji30] at H ⊢;exact H)
       have hji30w:(IntKind.i64.wrap (x7_2 + 1)) = ji30:=(i64_w _).trans hji30
       by_cases c31:0 ≤ (ji30)
       rotate_left
       ·rw [if_neg c31] at H
        exact absurd H (by simp)
       rw [if_pos c31] at H
       have c31b0:decide (0 ≤ (ji30)) = true:=decide_eq_true c31
       clear c31
       by_cases c32:(ji30) < ((rd_L4 x11_2 x6_1).length:Int)
       rotate_left
       ·rw [if_neg c32] at H
        exact absurd H (by simp)
       rw [if_pos c32] at H
       have c32b0:decide ((ji30) < ((rd_L4 x11_2 x6_1).length:Int)) = true:=decide_eq_true c32
       (try simp only [hl11_2] at c32b0)
       (try simp only [hl258_0] at c32b0)
       (try simp only [hl259_0] at c32b0)
       (try simp only [hl261_0] at c32b0)
       (try simp only [hl268_0] at c32b0)
       (try simp only [hl269_0] at c32b0)
       (try simp only [hl271_0] at c32b0)
       clear c32
       obtain⟨ji33,hji33⟩:∃ j_:Int,(mx (rd (rd_L4 x11_2 (ji25)) x7_2) (rd (rd_L4 x11_2 x6_1) (ji30))) = j_:=⟨_,rfl⟩
       replace H:(if x7_2 < ((rd_L4 x11_2 x6_1).length:Int) then ((some (x11_2.set (x6_1:Int).toNat ((rd_L4 x11_2 x6_1).set (x7_2:Int).toNat (ji33)):List (List Int))).bind fun y265=>(if x6_1 < (l0.length:Int) then (if x7_2 < (l1.length:Int) then (if (rd l0 x6_1) = (rd l1 x7_2) then (if x7_2 < ((rd_L4 y265 x6_1).length:Int) then (if (ji30) < ((rd_L4 y265 (ji25)).length:Int) then (spec_l12Table.l1 kj19 l0 l1 x6_1 (wrap64 (x7_2 - 1)) (y265.set (x6_1:Int).toNat ((rd_L4 y265 x6_1).set (x7_2:Int).toNat (mx (rd (rd_L4 y265 x6_1) x7_2) (wrap64 (1 + (rd (rd_L4 y265 (ji25)) (ji30)))))))) else (none)) else (none)) else (spec_l12Table.l1 kj19 l0 l1 x6_1 (wrap64 (x7_2 - 1)) y265)) else (none)) else (none))) else (none)) = some r:=by first|(rw [hji33] at H;exact H)|(simp only [hji33] at H ⊢;exact H)
       have hji33_:(if (rd (rd_L4 x11_2 (ji25)) x7_2) < (rd (rd_L4 x11_2 x6_1) (ji30)) then (rd (rd_L4 x11_2 x6_1) (ji30)) else (rd (rd_L4 x11_2 (ji25)) x7_2)) = ji33:=hji33
       by_cases c34:x7_2 < ((rd_L4 x11_2 x6_1).length:Int)
       rotate_left
       ·rw [if_neg c34] at H
        exact absurd H (by simp)
       rw [if_pos c34] at H
       have c34b0:decide (x7_2 < ((rd_L4 x11_2 x6_1).length:Int)) = true:=decide_eq_true c34
       (try simp only [hl11_2] at c34b0)
       (try simp only [hl258_0] at c34b0)
       (try simp only [hl259_0] at c34b0)
       (try simp only [hl261_0] at c34b0)
       (try simp only [hl268_0] at c34b0)
       (try simp only [hl269_0] at c34b0)
       (try simp only [hl271_0] at c34b0)
       clear c34
       obtain⟨y263,hy263⟩:∃ y_:List Int,y_ = ((rd_L4 x11_2 x6_1).set (x7_2:Int).toNat (ji33)):=⟨_,rfl⟩
       replace H:((some (x11_2.set (x6_1:Int).toNat y263:List (List Int))).bind fun y265=>(if x6_1 < (l0.length:Int) then (if x7_2 < (l1.length:Int) then (if (rd l0 x6_1) = (rd l1 x7_2) then (if x7_2 < ((rd_L4 y265 x6_1).length:Int) then (if (ji30) < ((rd_L4 y265 (ji25)).length:Int) then (spec_l12Table.l1 kj19 l0 l1 x6_1 (wrap64 (x7_2 - 1)) (y265.set (x6_1:Int).toNat ((rd_L4 y265 x6_1).set (x7_2:Int).toNat (mx (rd (rd_L4 y265 x6_1) x7_2) (wrap64 (1 + (rd (rd_L4 y265 (ji25)) (ji30)))))))) else (none)) else (none)) else (spec_l12Table.l1 kj19 l0 l1 x6_1 (wrap64 (x7_2 - 1)) y265)) else (none)) else (none))) = some r:=by first|(rw [hy263];with_reducible exact H)|(have H2_:=(Option.bind_some _ _).symm.trans H;rw [hy263];with_reducible exact H2_)|(have H2_:=(Option.bind_some _ _).symm.trans H;with_reducible exact H2_)|with_reducible exact H|(rw [hy263];exact H)|exact H
       have Ny263:=mk0 hy263
       clear hy263
       obtain⟨y265,hy265⟩:∃ y_:List (List Int),y_ = (x11_2.set (x6_1:Int).toNat y263):=⟨_,rfl⟩
       replace H:(if x6_1 < (l0.length:Int) then (if x7_2 < (l1.length:Int) then (if (rd l0 x6_1) = (rd l1 x7_2) then (if x7_2 < ((rd_L4 y265 x6_1).length:Int) then (if (ji30) < ((rd_L4 y265 (ji25)).length:Int) then (spec_l12Table.l1 kj19 l0 l1 x6_1 (wrap64 (x7_2 - 1)) (y265.set (x6_1:Int).toNat ((rd_L4 y265 x6_1).set (x7_2:Int).toNat (mx (rd (rd_L4 y265 x6_1) x7_2) (wrap64 (1 + (rd (rd_L4 y265 (ji25)) (ji30)))))))) else (none)) else (none)) else (spec_l12Table.l1 kj19 l0 l1 x6_1 (wrap64 (x7_2 - 1)) y265)) else (none)) else (none)) = some r:=by first|(rw [hy265];with_reducible exact H)|(have H2_:=(Option.bind_some _ _).symm.trans H;rw [hy265];with_reducible exact H2_)|(have H2_:=(Option.bind_some _ _).symm.trans H;with_reducible exact H2_)|with_reducible exact H|(rw [hy265];exact H)|exact H
       have Ny265:=mk0 hy265
       clear hy265
       by_cases c36:x6_1 < (l0.length:Int)
       rotate_left
       ·rw [if_neg c36] at H
        exact absurd H (by simp)
       rw [if_pos c36] at H
       have c36b0:decide (x6_1 < (l0.length:Int)) = true:=decide_eq_true c36
       (try simp only [hl11_2] at c36b0)
       (try simp only [hl258_0] at c36b0)
       (try simp only [hl259_0] at c36b0)
       (try simp only [hl261_0] at c36b0)
       (try simp only [hl268_0] at c36b0)
       (try simp only [hl269_0] at c36b0)
       (try simp only [hl271_0] at c36b0)
       clear c36
       by_cases c37:x7_2 < (l1.length:Int)
       rotate_left
       ·rw [if_neg c37] at H
        exact absurd H (by simp)
       rw [if_pos c37] at H
       have c37b0:decide (x7_2 < (l1.length:Int)) = true:=decide_eq_true c37
       (try simp only [hl11_2] at c37b0)
       (try simp only [hl258_0] at c37b0)
       (try simp only [hl259_0] at c37b0)
       (try simp only [hl261_0] at c37b0)
       (try simp only [hl268_0] at c37b0)
       (try simp only [hl269_0] at c37b0)
       (try simp only [hl271_0] at c37b0)
       clear c37
       by_cases c38:(rd l0 x6_1) = (rd l1 x7_2)
       rotate_left
       ·rw [if_neg c38] at H
        have c38b0:((rd l0 x6_1) == (rd l1 x7_2)) = false:=beq_eq_false_iff_ne.mpr c38
        have c38b1:((rd l0 x6_1) != (rd l1 x7_2)) = true:=bne_iff_ne.mpr c38
        have H':=mk0 H
        clear H
        try go_wp2
        replace HO_5:=mk0 (dS HO_5.out)
        replace HB:=mk0 (dZ HB.out)
        have p258:0 ≤ (x6_1:Int):=of_decide_eq_true (by first|(with_reducible assumption)|assumption)
        have q258:x6_1 < (x11_2.length:Int):=of_decide_eq_true (by first|(with_reducible assumption)|assumption)
        obtain⟨ad258,A258_0,c258_0,e258,hx258_0,hl258_0,hi258_0⟩:=at_L4 (Kd.S_reads' HO_5.out).2.2 x6_1 p258 q258
        obtain rfl:(⟨go14,0,none⟩:Addr) = ad258:=(by injection e258)
        obtain⟨ce258,hce258,hMe258,hcc258⟩:=Kd.S_get HO_5.out [] x6_1 p258 (by first|exact q258|exact of_decide_eq_true (by first|(with_reducible assumption)|assumption)|(have e_:=(Kd.S_reads' HO_5.out).1;omega))
        obtain⟨ve258_0,rfl,ge258_0⟩:=hMe258
        have hv258_0:=hcc258 0 _ rfl
        rw [Nat.add_zero,show ((Kd.slice 3 (Kd.int .i64))).sz = 1 from rfl,Nat.mul_one] at hv258_0
        replace hv258_0:=Option.some.inj (hv258_0.symm.trans hx258_0)
        rw [hv258_0] at ge258_0
        have HL258_0:=mk0 (show Kd.R (Kd.int .i64) 3 _ _ _ _ (rd_L4 x11_2 x6_1) from ge258_0)
        clear hv258_0 ge258_0
        have HX258_0:=mk0 hx258_0
        clear hcc258 hce258
        (first|simp only [add_plain] at hx258_0|simp only [add_at] at hx258_0|simp only [Addr.add,Nat.zero_add] at hx258_0|skip)
        have HR258_0:=mk0 hi258_0
        have HC258_0:=mk0 hl258_0
        clear hi258_0 hl258_0
        replace p258:=eq_true p258
        replace q258:=eq_true q258
        have p259:0 ≤ ((ji25):Int):=of_decide_eq_true (by first|(with_reducible assumption)|assumption)
        have q259:(ji25) < (x11_2.length:Int):=of_decide_eq_true (by first|(with_reducible assumption)|assumption)
        obtain⟨ad259,A259_0,c259_0,e259,hx259_0,hl259_0,hi259_0⟩:=at_L4 (Kd.S_reads' HO_5.out).2.2 (ji25) p259 q259
        obtain rfl:(⟨go14,0,none⟩:Addr) = ad259:=(by injection e259)
        obtain⟨ce259,hce259,hMe259,hcc259⟩:=Kd.S_get HO_5.out [] (ji25) p259 (by first|exact q259|exact of_decide_eq_true (by first|(with_reducible assumption)|assumption)|(have e_:=(Kd.S_reads' HO_5.out).1;omega))
        obtain⟨ve259_0,rfl,ge259_0⟩:=hMe259
        have hv259_0:=hcc259 0 _ rfl
        rw [Nat.add_zero,show ((Kd.slice 3 (Kd.int .i64))).sz = 1 from rfl,Nat.mul_one] at hv259_0
        replace hv259_0:=Option.some.inj (hv259_0.symm.trans hx259_0)
        rw [hv259_0] at ge259_0
        have HL259_0:=mk0 (show Kd.R (Kd.int .i64) 3 _ _ _ _ (rd_L4 x11_2 (ji25)) from ge259_0)
        clear hv259_0 ge259_0
        have HX259_0:=mk0 hx259_0
        clear hcc259 hce259
        (first|simp only [add_plain] at hx259_0|simp only [add_at] at hx259_0|simp only [Addr.add,Nat.zero_add] at hx259_0|skip)
        have HR259_0:=mk0 hi259_0
        have HC259_0:=mk0 hl259_0
        clear hi259_0 hl259_0
        replace p259:=eq_true p259
        replace q259:=eq_true q259
        have p260:0 ≤ (x7_2:Int):=of_decide_eq_true (by first|(with_reducible assumption)|assumption)
        have q260:x7_2 < ((rd_L4 x11_2 (ji25)).length:Int):=of_decide_eq_true (by first|(with_reducible assumption)|assumption)
        obtain⟨ad260,e260,hx260_0⟩:=Kd.at_int (by repeat (first|(with_reducible exact HR259_0.out)|(with_reducible first|apply aC|apply nC|apply dC)|exact HR259_0.out|exact (Kd.V_reads' HL259_0.out).2.2)) x7_2 p260 q260
        cases e260
        replace p260:=eq_true p260
        replace q260:=eq_true q260
        have p261:0 ≤ (x6_1:Int):=of_decide_eq_true (by first|(with_reducible assumption)|assumption)
        have q261:x6_1 < (x11_2.length:Int):=of_decide_eq_true (by first|(with_reducible assumption)|assumption)
        obtain⟨ad261,A261_0,c261_0,e261,hx261_0,hl261_0,hi261_0⟩:=at_L4 (Kd.S_reads' HO_5.out).2.2 x6_1 p261 q261
        obtain rfl:(⟨go14,0,none⟩:Addr) = ad261:=(by injection e261)
        obtain⟨ce261,hce261,hMe261,hcc261⟩:=Kd.S_get HO_5.out [] x6_1 p261 (by first|exact q261|exact of_decide_eq_true (by first|(with_reducible assumption)|assumption)|(have e_:=(Kd.S_reads' HO_5.out).1;omega))
        obtain⟨ve261_0,rfl,ge261_0⟩:=hMe261
        have hv261_0:=hcc261 0 _ rfl
        rw [Nat.add_zero,show ((Kd.slice 3 (Kd.int .i64))).sz = 1 from rfl,Nat.mul_one] at hv261_0
        replace hv261_0:=Option.some.inj (hv261_0.symm.trans hx261_0)
        rw [hv261_0] at ge261_0
        have HL261_0:=mk0 (show Kd.R (Kd.int .i64) 3 _ _ _ _ (rd_L4 x11_2 x6_1) from ge261_0)
        clear hv261_0 ge261_0
        have HX261_0:=mk0 hx261_0
        clear hcc261 hce261
        (first|simp only [add_plain] at hx261_0|simp only [add_at] at hx261_0|simp only [Addr.add,Nat.zero_add] at hx261_0|skip)
        have HR261_0:=mk0 hi261_0
        have HC261_0:=mk0 hl261_0
        clear hi261_0 hl261_0
        replace p261:=eq_true p261
        replace q261:=eq_true q261
        have ea_:=Option.some.inj (hx258_0.symm.trans hx261_0)
        injection ea_ with ea_ en_ ec_
        subst ea_
        subst ec_
        clear en_
        have p262:0 ≤ ((ji30):Int):=of_decide_eq_true (by first|(with_reducible assumption)|assumption)
        have q262:(ji30) < ((rd_L4 x11_2 x6_1).length:Int):=of_decide_eq_true (by first|(with_reducible assumption)|assumption)
        obtain⟨ad262,e262,hx262_0⟩:=Kd.at_int (by repeat (first|(with_reducible exact HR261_0.out)|(with_reducible first|apply aC|apply nC|apply dC)|exact HR261_0.out|exact (Kd.V_reads' HL261_0.out).2.2)) (ji30) p262 q262
        cases e262
        replace p262:=eq_true p262
        replace q262:=eq_true q262
        have p35:0 ≤ (x7_2:Int):=of_decide_eq_true (by first|(with_reducible assumption)|assumption)
        have q35:(x7_2:Int) < (((rd_L4 x11_2 x6_1).length:Int):Int):=of_decide_eq_true (by first|(with_reducible assumption)|assumption)
        obtain⟨go35,co35,eo35,gb35,gl35,cl35,HG35⟩:=Kd.R_form HL258_0.out (by omega)
        (first|cases eo35|(injection eo35 with ea_ en_ ec_;(first|subst ea_|(injection ea_ with ea_;subst ea_));subst ec_;clear en_))
        have GB35:=mk0 gb35
        have GG35:=mk0 HG35
        clear gb35 gl35 HG35
        (first|simp only [add_plain] at hx262_0|skip)
        obtain⟨hx35_0,hf35_0⟩:=Kd.R_celln 0 HL258_0.out (x7_2:Int) p35 q35
        replace p35:=eq_true p35
        replace q35:=eq_true q35
        have hq52:(x6_1:Int) < (x11_2.length:Int):=(by have h_:(x6_1:Int) < ((x11_2.length:Int):Int):=of_decide_eq_true (by first|(with_reducible assumption)|assumption);first|exact h_|(have e_:=(Kd.S_reads' HO_5.out).1;omega)|simpa only [List.length_set,List.length_set] using h_)
        obtain⟨oki52,ce52,hcl52,hM52,hcc52,hok52,hbk52⟩:=Kd.S_borrow HO_5.out [] (x6_1:Int) (of_decide_eq_true (by first|(with_reducible assumption)|assumption)) (by first|exact hq52|(have e_:=(Kd.S_reads' HO_5.out).1;omega))
        obtain⟨ve52_0,rfl,ge52_0⟩:=hM52
        have hv52:=hcc52 0 _ rfl
        rw [Nat.add_zero,show ((Kd.slice 3 (Kd.int .i64))).sz = 1 from rfl,Nat.mul_one] at hv52
        replace hv52:=Option.some.inj (hv52.symm.trans HX258_0.out)
        subst hv52
        clear hcc52 hcl52
        replace ge52_0:=(show Kd.R (Kd.int .i64) 3 _ _ _ _ (rd_L4 x11_2 x6_1) from ge52_0)
        have HP52:=Kd.R_putg ge52_0 (x7_2:Int) ji33
        rw [← Ny263.out] at HP52
        have HS52:=hbk52 HP52.2 (fun k_ e_=>by injection e_ with e_;subst e_;exact ge52_0.1 _ rfl) (x':=y263) (Kd.M_row HP52.1)
        rw [← Ny265.out] at HS52
        have HQ52:=mk0 HS52
        clear HP52 HS52 hbk52 hok52
        refine start_ (n:=24) (S:=fun w'=>w'.cell? ⟨go14,(x6_1).toNat,none⟩ = some (.slice (some ⟨go35,0,none⟩) (rd_L4 x11_2 x6_1).length c258_0) ∧ w'.cell? ⟨go14,((ji25)).toNat,none⟩ = some (.slice (some ad260) (rd_L4 x11_2 (ji25)).length c259_0) ∧ w'.cell? (ad260.add (x7_2).toNat) = some (.int .i64 (rd (rd_L4 x11_2 (ji25)) x7_2)) ∧ w'.cell? ⟨go14,(x6_1).toNat,none⟩ = some (.slice (some ⟨go35,0,none⟩) (rd_L4 x11_2 x6_1).length c258_0) ∧ w'.cell? ⟨go35,((ji30)).toNat,none⟩ = some (.int .i64 (rd (rd_L4 x11_2 x6_1) (ji30)))) (ds:=[23]) spec_l12Table.m0 (by kernel_rfl) rfl rfl ⟨hx258_0,hx259_0,hx260_0,hx261_0,hx262_0⟩ (fun hHeld=>?_);refine with_tabW spec_l12Table.tab10 spec_l12Table.bits10 (fun HT_ HW_=>?_)
        generalize wc.drew = w51 at HO_5 HB GG35 HL258_0 HL259_0 HL261_0 HQ52 HR258_0 HR259_0 HR261_0 HX258_0 HX259_0 HX261_0 hf35_0 hx258_0 hx259_0 hx260_0 hx261_0 hx262_0 hx35_0 hHeld ⊢
        refine pure_ (i:=0) (N:=some 41) (v:=?_) (a':=?_) spec_l12Table.m1 rfl rfl (any_of HT_.out (by kernel_rfl)) (fun _ _ _ h=>h) (Or.inl ⟨by rfl,?_⟩) ?_ ?_
        rotate_left
        ·intro w'
         go_simp
         with_reducible rfl
        rotate_left
        ·simp only [Act.put,sA,sO,sS,i64_w,i32_w]
         rfl
        refine pure_ (i:=1) (N:=some 42) (v:=?_) (a':=?_) spec_l12Table.m2 rfl rfl (any_of HT_.out (by kernel_rfl)) (fun _ _ _ h=>h) (Or.inl ⟨by rfl,?_⟩) ?_ ?_
        rotate_left
        ·intro w'
         go_simp
         with_reducible rfl
        rotate_left
        ·simp only [Act.put,sA,sO,sS,i64_w,i32_w]
         rfl
        refine pure_ (i:=2) (N:=some 43) (v:=?_) (a':=?_) spec_l12Table.m3 rfl rfl (any_of HT_.out (by kernel_rfl)) (fun _ _ _ h=>h) (Or.inl ⟨by rfl,?_⟩) ?_ ?_
        rotate_left
        ·intro w'
         go_simp
         with_reducible rfl
        rotate_left
        ·simp only [Act.put,sA,sO,sS,i64_w,i32_w]
         rfl
        refine pure_ (i:=4) (N:=some 45) (v:=?_) (a':=?_) spec_l12Table.m4 rfl rfl (any_of HT_.out (by kernel_rfl)) (fun _ _ _ h=>h) (Or.inl ⟨by rfl,?_⟩) ?_ ?_
        rotate_left
        ·intro w'
         go_simp
         with_reducible rfl
        rotate_left
        ·simp only [Act.put,sA,sO,sS,i64_w,i32_w]
         rfl
        refine pure_ (i:=5) (N:=some 46) (v:=?_) (a':=?_) spec_l12Table.m5 rfl rfl (any_of HT_.out (by kernel_rfl)) (fun _ _ _ h=>h) (Or.inl ⟨by rfl,?_⟩) ?_ ?_
        rotate_left
        ·intro w'
         go_simp
         with_reducible rfl
        rotate_left
        ·simp only [Act.put,sA,sO,sS,i64_w,i32_w]
         rfl
        refine pure_ (i:=6) (N:=some 47) (v:=?_) (a':=?_) spec_l12Table.m6 rfl rfl (any_of HT_.out (by kernel_rfl)) (fun _ _ _ h=>h) (Or.inl ⟨by rfl,?_⟩) ?_ ?_
        rotate_left
        ·intro w'
         go_simp
         with_reducible rfl
        rotate_left
        ·simp only [Act.put,sA,sO,sS,i64_w,i32_w]
         rfl
        refine pure_ (i:=7) (N:=some 48) (v:=?_) (a':=?_) spec_l12Table.m7 rfl rfl (any_of HT_.out (by kernel_rfl)) (fun _ _ _ h=>h) (Or.inl ⟨by rfl,?_⟩) ?_ ?_
        rotate_left
        ·intro w'
         go_simp
         with_reducible rfl
        rotate_left
        ·simp only [Act.put,sA,sO,sS,i64_w,i32_w]
         rfl
        refine pure_ (i:=8) (N:=some 49) (v:=?_) (a':=?_) spec_l12Table.m8 rfl rfl (any_of HT_.out (by kernel_rfl)) (fun _ _ _ h=>h) (Or.inl ⟨by rfl,?_⟩) ?_ ?_
        rotate_left
        ·intro w'
         go_simp
         with_reducible rfl
        rotate_left
        ·simp only [Act.put,sA,sO,sS,i64_w,i32_w]
         rfl
        refine pure_ (i:=10) (N:=some 51) (v:=?_) (a':=?_) spec_l12Table.m9 rfl rfl (any_of HT_.out (by kernel_rfl)) (fun _ _ _ h=>h) (Or.inl ⟨by rfl,?_⟩) ?_ ?_
        rotate_left
        ·intro w'
         go_simp
         with_reducible rfl
        rotate_left
        ·simp only [Act.put,sA,sO,sS,i64_w,i32_w]
         rfl
        refine pure_ (i:=13) (N:=some 54) (v:=?_) (a':=?_) spec_l12Table.m10 rfl rfl (any_of HT_.out (by kernel_rfl)) (fun _ _ _ h=>h) (Or.inl ⟨by rfl,?_⟩) ?_ ?_
        rotate_left
        ·intro w'
         go_simp
         with_reducible rfl
        rotate_left
        ·simp only [Act.put,sA,sO,sS,i64_w,i32_w]
         rfl
        refine pure_ (i:=14) (N:=some 55) (v:=?_) (a':=?_) spec_l12Table.m11 rfl rfl (any_of HT_.out (by kernel_rfl)) (fun _ _ _ h=>h) (Or.inl ⟨by rfl,?_⟩) ?_ ?_
        rotate_left
        ·intro w'
         go_simp
         with_reducible rfl
        rotate_left
        ·simp only [Act.put,sA,sO,sS,i64_w,i32_w]
         rfl
        refine pure_ (i:=15) (N:=some 56) (v:=?_) (a':=?_) spec_l12Table.m12 rfl rfl (any_of HT_.out (by kernel_rfl)) (fun _ _ _ h=>h) (Or.inl ⟨by rfl,?_⟩) ?_ ?_
        rotate_left
        ·intro w'
         go_simp
         with_reducible rfl
        rotate_left
        ·simp only [Act.put,sA,sO,sS,i64_w,i32_w]
         rfl
        refine pure_ (i:=17) (N:=some 58) (v:=?_) (a':=?_) spec_l12Table.m13 rfl rfl (any_of HT_.out (by kernel_rfl)) (fun _ _ _ h=>h) (Or.inl ⟨by rfl,?_⟩) ?_ ?_
        rotate_left
        ·intro w'
         go_simp
         with_reducible rfl
        rotate_left
        ·simp only [Act.put,sA,sO,sS,i64_w,i32_w]
         rfl
        refine pure_ (i:=18) (N:=some 59) (v:=?_) (a':=?_) spec_l12Table.m14 rfl rfl (any_of HT_.out (by kernel_rfl)) (fun _ _ _ h=>h) (Or.inl ⟨by rfl,?_⟩) ?_ ?_
        rotate_left
        ·intro w'
         go_simp
         with_reducible rfl
        rotate_left
        ·simp only [Act.put,sA,sO,sS,i64_w,i32_w]
         rfl
        refine take_ (i:=3) (N:=some 44) (v:=?_) (a':=?_) spec_l12Table.m15 rfl rfl (take_ofW HT_.out HW_.out (by kernel_rfl)) (fun _ _ _ h=>h) (Or.inl ⟨by rfl,?_⟩) hHeld ?_ ?_
        rotate_left
        ·rintro w' ⟨s0,s1,s2,s3,s4⟩
         go_simp
         with_reducible rfl
        rotate_left
        ·simp only [Act.put,sA,sO,sS,i64_w,i32_w]
         rfl
        refine take_ (i:=9) (N:=some 50) (v:=?_) (a':=?_) spec_l12Table.m16 rfl rfl (take_ofW HT_.out HW_.out (by kernel_rfl)) (fun _ _ _ h=>h) (Or.inl ⟨by rfl,?_⟩) hHeld ?_ ?_
        rotate_left
        ·rintro w' ⟨s0,s1,s2,s3,s4⟩
         go_simp
         with_reducible rfl
        rotate_left
        ·simp only [Act.put,sA,sO,sS,i64_w,i32_w]
         rfl
        refine pure_ (i:=11) (N:=some 52) (v:=?_) (a':=?_) spec_l12Table.m17 rfl rfl (any_of HT_.out (by kernel_rfl)) (fun _ _ _ h=>h) (Or.inl ⟨by rfl,?_⟩) ?_ ?_
        rotate_left
        ·intro w'
         go_simp
         with_reducible rfl
        rotate_left
        ·simp only [Act.put,sA,sO,sS,i64_w,i32_w]
         rfl
        refine take_ (i:=12) (N:=some 53) (v:=?_) (a':=?_) spec_l12Table.m18 rfl rfl (take_ofW HT_.out HW_.out (by kernel_rfl)) (fun _ _ _ h=>h) (Or.inl ⟨by rfl,?_⟩) hHeld ?_ ?_
        rotate_left
        ·rintro w' ⟨s0,s1,s2,s3,s4⟩
         go_simp
         with_reducible rfl
        rotate_left
        ·simp only [Act.put,sA,sO,sS,i64_w,i32_w]
         rfl
        refine take_ (i:=16) (N:=some 57) (v:=?_) (a':=?_) spec_l12Table.m19 rfl rfl (take_ofW HT_.out HW_.out (by kernel_rfl)) (fun _ _ _ h=>h) (Or.inl ⟨by rfl,?_⟩) hHeld ?_ ?_
        rotate_left
        ·rintro w' ⟨s0,s1,s2,s3,s4⟩
         go_simp
         with_reducible rfl
        rotate_left
        ·simp only [Act.put,sA,sO,sS,i64_w,i32_w]
         rfl
        refine pure_ (i:=19) (N:=some 60) (v:=?_) (a':=?_) spec_l12Table.m20 rfl rfl (any_of HT_.out (by kernel_rfl)) (fun _ _ _ h=>h) (Or.inl ⟨by rfl,?_⟩) ?_ ?_
        rotate_left
        ·intro w'
         go_simp
         with_reducible rfl
        rotate_left
        ·simp only [Act.put,sA,sO,sS,i64_w,i32_w]
         rfl
        refine take_ (i:=20) (N:=some 61) (v:=?_) (a':=?_) spec_l12Table.m21 rfl rfl (take_ofW HT_.out HW_.out (by kernel_rfl)) (fun _ _ _ h=>h) (Or.inl ⟨by rfl,?_⟩) hHeld ?_ ?_
        rotate_left
        ·rintro w' ⟨s0,s1,s2,s3,s4⟩
         go_simp
         with_reducible rfl
        rotate_left
        ·simp only [Act.put,sA,sO,sS,i64_w,i32_w]
         rfl
        refine pure_ (i:=21) (N:=some 62) (v:=?_) (a':=?_) spec_l12Table.m22 rfl rfl (any_of HT_.out (by kernel_rfl)) (fun _ _ _ h=>h) (Or.inl ⟨by rfl,?_⟩) ?_ ?_
        rotate_left
        ·intro w'
         go_simp
         with_reducible rfl
        rotate_left
        ·simp only [Act.put,sA,sO,sS,i64_w,i32_w]
         rfl
        refine pure_ (i:=22) (N:=some 63) (v:=?_) (a':=?_) spec_l12Table.m23 rfl rfl (any_of HT_.out (by kernel_rfl)) (fun _ _ _ h=>h) (Or.inl ⟨by rfl,?_⟩) ?_ ?_
        rotate_left
        ·intro w'
         go_simp
         with_reducible rfl
        rotate_left
        ·simp only [Act.put,sA,sO,sS,i64_w,i32_w]
         rfl
        refine last_ (i:=23) (N:=none) spec_l12Table.m24 rfl rfl (one_of HT_.out (by kernel_rfl)) (by decide) (fun K hK=>?_)
        refine skip_ (w1:=?_) (by rfl) rfl ?_ ?_
        rotate_left
        ·go_simp
         rfl
        refine hK.out _ _ ?_
        clear hK K
        refine done_ (done_of HT_.out (by kernel_rfl)) ?_
        try go_wp2
        have n0_:Aside0 (Kd.S (Kd.slice 3 (Kd.int .i64)) 45 (w51.setCell ⟨go35,(x7_2:Int).toNat,none⟩ (.int .i64 ji33)) w.heap.size (fun _=>True) (.slice (some ⟨go14,0,none⟩) x11_2.length co14) y265):=⟨rS HQ52.out⟩
        have n1_:Aside0 (Below w.heap.size w (w51.setCell ⟨go35,(x7_2:Int).toNat,none⟩ (.int .i64 ji33))):=⟨kB HB.out⟩
        (try clear HO_5)
        (try clear HB)
        generalize (w51.setCell ⟨go35,(x7_2:Int).toNat,none⟩ (.int .i64 ji33)) = w54 at n0_ n1_ ⊢
        have HO_5:=n0_
        have HB:=n1_
        clear n0_ n1_
        replace HO_5:=mk0 (dS HO_5.out)
        replace HB:=mk0 (dZ HB.out)
        have p266:0 ≤ (x6_1:Int):=of_decide_eq_true (by first|(with_reducible assumption)|assumption)
        have q266:x6_1 < (l0.length:Int):=of_decide_eq_true (by first|(with_reducible assumption)|assumption)
        obtain⟨ad266,e266,hx266_0⟩:=Kd.at_int HR0.out x6_1 p266 q266
        have hw266_0:=hx266_0
        cases e266
        replace hx266_0:=(HB.out.cell (World.block_lt_of_cell? w _ hx266_0)).trans hx266_0
        replace p266:=eq_true p266
        replace q266:=eq_true q266
        have p267:0 ≤ (x7_2:Int):=of_decide_eq_true (by first|(with_reducible assumption)|assumption)
        have q267:x7_2 < (l1.length:Int):=of_decide_eq_true (by first|(with_reducible assumption)|assumption)
        obtain⟨ad267,e267,hx267_0⟩:=Kd.at_int HR1.out x7_2 p267 q267
        have hw267_0:=hx267_0
        cases e267
        replace hx267_0:=(HB.out.cell (World.block_lt_of_cell? w _ hx267_0)).trans hx267_0
        replace p267:=eq_true p267
        replace q267:=eq_true q267
        refine start_ (n:=9) (S:=fun w'=>w'.cell? (ad266.add (x6_1).toNat) = some (.int .i64 (rd l0 x6_1)) ∧ w'.cell? (ad267.add (x7_2).toNat) = some (.int .i64 (rd l1 x7_2))) (ds:=[]) spec_l12Table.m25 (by kernel_rfl) rfl rfl ⟨((HB.out.cell (World.block_lt_of_cell? w _ hw266_0)).trans hw266_0),((HB.out.cell (World.block_lt_of_cell? w _ hw267_0)).trans hw267_0)⟩ (fun hHeld=>?_);refine with_tabW spec_l12Table.tab11 spec_l12Table.bits11 (fun HT_ HW_=>?_)
        generalize w54.drew = w55 at HO_5 HB HQ52 hx266_0 hx267_0 hHeld ⊢
        refine pure_ (i:=0) (N:=some 64) (v:=?_) (a':=?_) spec_l12Table.m26 rfl rfl (any_of HT_.out (by kernel_rfl)) (fun _ _ _ h=>h) (Or.inl ⟨by rfl,?_⟩) ?_ ?_
        rotate_left
        ·intro w'
         go_simp
         with_reducible rfl
        rotate_left
        ·simp only [Act.put,sA,sO,sS,i64_w,i32_w]
         rfl
        refine pure_ (i:=1) (N:=some 65) (v:=?_) (a':=?_) spec_l12Table.m27 rfl rfl (any_of HT_.out (by kernel_rfl)) (fun _ _ _ h=>h) (Or.inl ⟨by rfl,?_⟩) ?_ ?_
        rotate_left
        ·intro w'
         go_simp
         with_reducible rfl
        rotate_left
        ·simp only [Act.put,sA,sO,sS,i64_w,i32_w]
         rfl
        refine pure_ (i:=2) (N:=some 66) (v:=?_) (a':=?_) spec_l12Table.m28 rfl rfl (any_of HT_.out (by kernel_rfl)) (fun _ _ _ h=>h) (Or.inl ⟨by rfl,?_⟩) ?_ ?_
        rotate_left
        ·intro w'
         go_simp
         with_reducible rfl
        rotate_left
        ·simp only [Act.put,sA,sO,sS,i64_w,i32_w]
         rfl
        refine pure_ (i:=4) (N:=some 68) (v:=?_) (a':=?_) spec_l12Table.m29 rfl rfl (any_of HT_.out (by kernel_rfl)) (fun _ _ _ h=>h) (Or.inl ⟨by rfl,?_⟩) ?_ ?_
        rotate_left
        ·intro w'
         go_simp
         with_reducible rfl
        rotate_left
        ·simp only [Act.put,sA,sO,sS,i64_w,i32_w]
         rfl
        refine pure_ (i:=5) (N:=some 69) (v:=?_) (a':=?_) spec_l12Table.m30 rfl rfl (any_of HT_.out (by kernel_rfl)) (fun _ _ _ h=>h) (Or.inl ⟨by rfl,?_⟩) ?_ ?_
        rotate_left
        ·intro w'
         go_simp
         with_reducible rfl
        rotate_left
        ·simp only [Act.put,sA,sO,sS,i64_w,i32_w]
         rfl
        refine pure_ (i:=6) (N:=some 70) (v:=?_) (a':=?_) spec_l12Table.m31 rfl rfl (any_of HT_.out (by kernel_rfl)) (fun _ _ _ h=>h) (Or.inl ⟨by rfl,?_⟩) ?_ ?_
        rotate_left
        ·intro w'
         go_simp
         with_reducible rfl
        rotate_left
        ·simp only [Act.put,sA,sO,sS,i64_w,i32_w]
         rfl
        refine take_ (i:=3) (N:=some 67) (v:=?_) (a':=?_) spec_l12Table.m32 rfl rfl (take_ofW HT_.out HW_.out (by kernel_rfl)) (fun _ _ _ h=>h) (Or.inl ⟨by rfl,?_⟩) hHeld ?_ ?_
        rotate_left
        ·rintro w' ⟨s0,s1⟩
         go_simp
         with_reducible rfl
        rotate_left
        ·simp only [Act.put,sA,sO,sS,i64_w,i32_w]
         rfl
        refine take_ (i:=7) (N:=some 71) (v:=?_) (a':=?_) spec_l12Table.m33 rfl rfl (take_ofW HT_.out HW_.out (by kernel_rfl)) (fun _ _ _ h=>h) (Or.inl ⟨by rfl,?_⟩) hHeld ?_ ?_
        rotate_left
        ·rintro w' ⟨s0,s1⟩
         go_simp
         with_reducible rfl
        rotate_left
        ·simp only [Act.put,sA,sO,sS,i64_w,i32_w]
         rfl
        refine pure_ (i:=8) (N:=some 72) (v:=?_) (a':=?_) spec_l12Table.m34 rfl rfl (any_of HT_.out (by kernel_rfl)) (fun _ _ _ h=>h) (Or.inl ⟨by rfl,?_⟩) ?_ ?_
        rotate_left
        ·intro w'
         go_simp
         with_reducible rfl
        rotate_left
        ·simp only [Act.put,sA,sO,sS,i64_w,i32_w]
         rfl
        refine done_ (done_of HT_.out (by kernel_rfl)) ?_
        try go_wp2
        (try simp only [← hl11_2])
        go_roundg kj19
        case measure=>have:=HK1.out;have:=HK2.out;have:=HJ19.out;omega
        case rel=>exact⟨(wrap64 (x7_2 - 1)),(y265),(by first|rfl|(simp;done)|(simp [*];done)),H',⟨by have:=HK1.out;have:=HK2.out;have:=HJ19.out;omega⟩,⟨by (try simp only [hl11_2]);(with_reducible repeat (first|apply aS|apply nS|apply dS));exact HO_5.out⟩,⟨kB HB.out⟩⟩
       rw [if_pos c38] at H
       have c38b0:((rd l0 x6_1) == (rd l1 x7_2)) = true:=beq_iff_eq.mpr c38
       have c38b1:((rd l0 x6_1) != (rd l1 x7_2)) = false:=bne_eq_false_iff_eq.mpr c38
       clear c38
       by_cases c39:x7_2 < ((rd_L4 y265 x6_1).length:Int)
       rotate_left
       ·rw [if_neg c39] at H
        exact absurd H (by simp)
       rw [if_pos c39] at H
       have c39b0:decide (x7_2 < ((rd_L4 y265 x6_1).length:Int)) = true:=decide_eq_true c39
       (try simp only [hl11_2] at c39b0)
       (try simp only [hl258_0] at c39b0)
       (try simp only [hl259_0] at c39b0)
       (try simp only [hl261_0] at c39b0)
       (try simp only [hl268_0] at c39b0)
       (try simp only [hl269_0] at c39b0)
       (try simp only [hl271_0] at c39b0)
       clear c39
       by_cases c40:(ji30) < ((rd_L4 y265 (ji25)).length:Int)
       rotate_left
       ·rw [if_neg c40] at H
        exact absurd H (by simp)
       rw [if_pos c40] at H
       have c40b0:decide ((ji30) < ((rd_L4 y265 (ji25)).length:Int)) = true:=decide_eq_true c40
       (try simp only [hl11_2] at c40b0)
       (try simp only [hl258_0] at c40b0)
       (try simp only [hl259_0] at c40b0)
       (try simp only [hl261_0] at c40b0)
       (try simp only [hl268_0] at c40b0)
       (try simp only [hl269_0] at c40b0)
       (try simp only [hl271_0] at c40b0)
       clear c40
       obtain⟨ji41,hji41⟩:∃ j_:Int,(mx (rd (rd_L4 y265 x6_1) x7_2) (wrap64 (1 + (rd (rd_L4 y265 (ji25)) (ji30))))) = j_:=⟨_,rfl⟩
       replace H:(spec_l12Table.l1 kj19 l0 l1 x6_1 (wrap64 (x7_2 - 1)) (y265.set (x6_1:Int).toNat ((rd_L4 y265 x6_1).set (x7_2:Int).toNat (ji41)))) = some r:=by first|(rw [hji41] at H;exact H)|(simp only [hji41] at H ⊢;exact H)
       have hji41_:(if (rd (rd_L4 y265 x6_1) x7_2) < (wrap64 (1 + (rd (rd_L4 y265 (ji25)) (ji30)))) then (wrap64 (1 + (rd (rd_L4 y265 (ji25)) (ji30)))) else (rd (rd_L4 y265 x6_1) x7_2)) = ji41:=hji41
       obtain⟨y273,hy273⟩:∃ y_:List Int,y_ = ((rd_L4 y265 x6_1).set (x7_2:Int).toNat (ji41)):=⟨_,rfl⟩
       replace H:(spec_l12Table.l1 kj19 l0 l1 x6_1 (wrap64 (x7_2 - 1)) (y265.set (x6_1:Int).toNat y273)) = some r:=by first|(rw [hy273];with_reducible exact H)|(have H2_:=(Option.bind_some _ _).symm.trans H;rw [hy273];with_reducible exact H2_)|(have H2_:=(Option.bind_some _ _).symm.trans H;with_reducible exact H2_)|with_reducible exact H|(rw [hy273];exact H)|exact H
       have Ny273:=mk0 hy273
       clear hy273
       obtain⟨y275,hy275⟩:∃ y_:List (List Int),y_ = (y265.set (x6_1:Int).toNat y273):=⟨_,rfl⟩
       replace H:(spec_l12Table.l1 kj19 l0 l1 x6_1 (wrap64 (x7_2 - 1)) y275) = some r:=by first|(rw [hy275];with_reducible exact H)|(have H2_:=(Option.bind_some _ _).symm.trans H;rw [hy275];with_reducible exact H2_)|(have H2_:=(Option.bind_some _ _).symm.trans H;with_reducible exact H2_)|with_reducible exact H|(rw [hy275];exact H)|exact H
       have Ny275:=mk0 hy275
       clear hy275
       have H':=mk0 H
       clear H
       try go_wp2
       replace HO_5:=mk0 (dS HO_5.out)
       replace HB:=mk0 (dZ HB.out)
       have p258:0 ≤ (x6_1:Int):=of_decide_eq_true (by first|(with_reducible assumption)|assumption)
       have q258:x6_1 < (x11_2.length:Int):=of_decide_eq_true (by first|(with_reducible assumption)|assumption)
       obtain⟨ad258,A258_0,c258_0,e258,hx258_0,hl258_0,hi258_0⟩:=at_L4 (Kd.S_reads' HO_5.out).2.2 x6_1 p258 q258
       obtain rfl:(⟨go14,0,none⟩:Addr) = ad258:=(by injection e258)
       obtain⟨ce258,hce258,hMe258,hcc258⟩:=Kd.S_get HO_5.out [] x6_1 p258 (by first|exact q258|exact of_decide_eq_true (by first|(with_reducible assumption)|assumption)|(have e_:=(Kd.S_reads' HO_5.out).1;omega))
       obtain⟨ve258_0,rfl,ge258_0⟩:=hMe258
       have hv258_0:=hcc258 0 _ rfl
       rw [Nat.add_zero,show ((Kd.slice 3 (Kd.int .i64))).sz = 1 from rfl,Nat.mul_one] at hv258_0
       replace hv258_0:=Option.some.inj (hv258_0.symm.trans hx258_0)
       rw [hv258_0] at ge258_0
       have HL258_0:=mk0 (show Kd.R (Kd.int .i64) 3 _ _ _ _ (rd_L4 x11_2 x6_1) from ge258_0)
       clear hv258_0 ge258_0
       have HX258_0:=mk0 hx258_0
       clear hcc258 hce258
       (first|simp only [add_plain] at hx258_0|simp only [add_at] at hx258_0|simp only [Addr.add,Nat.zero_add] at hx258_0|skip)
       have HR258_0:=mk0 hi258_0
       have HC258_0:=mk0 hl258_0
       clear hi258_0 hl258_0
       replace p258:=eq_true p258
       replace q258:=eq_true q258
       have p259:0 ≤ ((ji25):Int):=of_decide_eq_true (by first|(with_reducible assumption)|assumption)
       have q259:(ji25) < (x11_2.length:Int):=of_decide_eq_true (by first|(with_reducible assumption)|assumption)
       obtain⟨ad259,A259_0,c259_0,e259,hx259_0,hl259_0,hi259_0⟩:=at_L4 (Kd.S_reads' HO_5.out).2.2 (ji25) p259 q259
       obtain rfl:(⟨go14,0,none⟩:Addr) = ad259:=(by injection e259)
       obtain⟨ce259,hce259,hMe259,hcc259⟩:=Kd.S_get HO_5.out [] (ji25) p259 (by first|exact q259|exact of_decide_eq_true (by first|(with_reducible assumption)|assumption)|(have e_:=(Kd.S_reads' HO_5.out).1;omega))
       obtain⟨ve259_0,rfl,ge259_0⟩:=hMe259
       have hv259_0:=hcc259 0 _ rfl
       rw [Nat.add_zero,show ((Kd.slice 3 (Kd.int .i64))).sz = 1 from rfl,Nat.mul_one] at hv259_0
       replace hv259_0:=Option.some.inj (hv259_0.symm.trans hx259_0)
       rw [hv259_0] at ge259_0
       have HL259_0:=mk0 (show Kd.R (Kd.int .i64) 3 _ _ _ _ (rd_L4 x11_2 (ji25)) from ge259_0)
       clear hv259_0 ge259_0
       have HX259_0:=mk0 hx259_0
       clear hcc259 hce259
       (first|simp only [add_plain] at hx259_0|simp only [add_at] at hx259_0|simp only [Addr.add,Nat.zero_add] at hx259_0|skip)
       have HR259_0:=mk0 hi259_0
       have HC259_0:=mk0 hl259_0
       clear hi259_0 hl259_0
       replace p259:=eq_true p259
       replace q259:=eq_true q259
       have p260:0 ≤ (x7_2:Int):=of_decide_eq_true (by first|(with_reducible assumption)|assumption)
       have q260:x7_2 < ((rd_L4 x11_2 (ji25)).length:Int):=of_decide_eq_true (by first|(with_reducible assumption)|assumption)
       obtain⟨ad260,e260,hx260_0⟩:=Kd.at_int (by repeat (first|(with_reducible exact HR259_0.out)|(with_reducible first|apply aC|apply nC|apply dC)|exact HR259_0.out|exact (Kd.V_reads' HL259_0.out).2.2)) x7_2 p260 q260
       cases e260
       replace p260:=eq_true p260
       replace q260:=eq_true q260
       have p261:0 ≤ (x6_1:Int):=of_decide_eq_true (by first|(with_reducible assumption)|assumption)
       have q261:x6_1 < (x11_2.length:Int):=of_decide_eq_true (by first|(with_reducible assumption)|assumption)
       obtain⟨ad261,A261_0,c261_0,e261,hx261_0,hl261_0,hi261_0⟩:=at_L4 (Kd.S_reads' HO_5.out).2.2 x6_1 p261 q261
       obtain rfl:(⟨go14,0,none⟩:Addr) = ad261:=(by injection e261)
       obtain⟨ce261,hce261,hMe261,hcc261⟩:=Kd.S_get HO_5.out [] x6_1 p261 (by first|exact q261|exact of_decide_eq_true (by first|(with_reducible assumption)|assumption)|(have e_:=(Kd.S_reads' HO_5.out).1;omega))
       obtain⟨ve261_0,rfl,ge261_0⟩:=hMe261
       have hv261_0:=hcc261 0 _ rfl
       rw [Nat.add_zero,show ((Kd.slice 3 (Kd.int .i64))).sz = 1 from rfl,Nat.mul_one] at hv261_0
       replace hv261_0:=Option.some.inj (hv261_0.symm.trans hx261_0)
       rw [hv261_0] at ge261_0
       have HL261_0:=mk0 (show Kd.R (Kd.int .i64) 3 _ _ _ _ (rd_L4 x11_2 x6_1) from ge261_0)
       clear hv261_0 ge261_0
       have HX261_0:=mk0 hx261_0
       clear hcc261 hce261
       (first|simp only [add_plain] at hx261_0|simp only [add_at] at hx261_0|simp only [Addr.add,Nat.zero_add] at hx261_0|skip)
       have HR261_0:=mk0 hi261_0
       have HC261_0:=mk0 hl261_0
       clear hi261_0 hl261_0
       replace p261:=eq_true p261
       replace q261:=eq_true q261
       have ea_:=Option.some.inj (hx258_0.symm.trans hx261_0)
       injection ea_ with ea_ en_ ec_
       subst ea_
       subst ec_
       clear en_
       have p262:0 ≤ ((ji30):Int):=of_decide_eq_true (by first|(with_reducible assumption)|assumption)
       have q262:(ji30) < ((rd_L4 x11_2 x6_1).length:Int):=of_decide_eq_true (by first|(with_reducible assumption)|assumption)
       obtain⟨ad262,e262,hx262_0⟩:=Kd.at_int (by repeat (first|(with_reducible exact HR261_0.out)|(with_reducible first|apply aC|apply nC|apply dC)|exact HR261_0.out|exact (Kd.V_reads' HL261_0.out).2.2)) (ji30) p262 q262
       cases e262
       replace p262:=eq_true p262
       replace q262:=eq_true q262
       have p35:0 ≤ (x7_2:Int):=of_decide_eq_true (by first|(with_reducible assumption)|assumption)
       have q35:(x7_2:Int) < (((rd_L4 x11_2 x6_1).length:Int):Int):=of_decide_eq_true (by first|(with_reducible assumption)|assumption)
       obtain⟨go35,co35,eo35,gb35,gl35,cl35,HG35⟩:=Kd.R_form HL258_0.out (by omega)
       (first|cases eo35|(injection eo35 with ea_ en_ ec_;(first|subst ea_|(injection ea_ with ea_;subst ea_));subst ec_;clear en_))
       have GB35:=mk0 gb35
       have GG35:=mk0 HG35
       clear gb35 gl35 HG35
       (first|simp only [add_plain] at hx262_0|skip)
       obtain⟨hx35_0,hf35_0⟩:=Kd.R_celln 0 HL258_0.out (x7_2:Int) p35 q35
       replace p35:=eq_true p35
       replace q35:=eq_true q35
       have hq44:(x6_1:Int) < (x11_2.length:Int):=(by have h_:(x6_1:Int) < ((x11_2.length:Int):Int):=of_decide_eq_true (by first|(with_reducible assumption)|assumption);first|exact h_|(have e_:=(Kd.S_reads' HO_5.out).1;omega)|simpa only [List.length_set,List.length_set] using h_)
       obtain⟨oki44,ce44,hcl44,hM44,hcc44,hok44,hbk44⟩:=Kd.S_borrow HO_5.out [] (x6_1:Int) (of_decide_eq_true (by first|(with_reducible assumption)|assumption)) (by first|exact hq44|(have e_:=(Kd.S_reads' HO_5.out).1;omega))
       obtain⟨ve44_0,rfl,ge44_0⟩:=hM44
       have hv44:=hcc44 0 _ rfl
       rw [Nat.add_zero,show ((Kd.slice 3 (Kd.int .i64))).sz = 1 from rfl,Nat.mul_one] at hv44
       replace hv44:=Option.some.inj (hv44.symm.trans HX258_0.out)
       subst hv44
       clear hcc44 hcl44
       replace ge44_0:=(show Kd.R (Kd.int .i64) 3 _ _ _ _ (rd_L4 x11_2 x6_1) from ge44_0)
       have HP44:=Kd.R_putg ge44_0 (x7_2:Int) ji33
       rw [← Ny263.out] at HP44
       have HS44:=hbk44 HP44.2 (fun k_ e_=>by injection e_ with e_;subst e_;exact ge44_0.1 _ rfl) (x':=y263) (Kd.M_row HP44.1)
       rw [← Ny265.out] at HS44
       have HQ44:=mk0 HS44
       clear HP44 HS44 hbk44 hok44
       refine start_ (n:=24) (S:=fun w'=>w'.cell? ⟨go14,(x6_1).toNat,none⟩ = some (.slice (some ⟨go35,0,none⟩) (rd_L4 x11_2 x6_1).length c258_0) ∧ w'.cell? ⟨go14,((ji25)).toNat,none⟩ = some (.slice (some ad260) (rd_L4 x11_2 (ji25)).length c259_0) ∧ w'.cell? (ad260.add (x7_2).toNat) = some (.int .i64 (rd (rd_L4 x11_2 (ji25)) x7_2)) ∧ w'.cell? ⟨go14,(x6_1).toNat,none⟩ = some (.slice (some ⟨go35,0,none⟩) (rd_L4 x11_2 x6_1).length c258_0) ∧ w'.cell? ⟨go35,((ji30)).toNat,none⟩ = some (.int .i64 (rd (rd_L4 x11_2 x6_1) (ji30)))) (ds:=[23]) spec_l12Table.m0 (by kernel_rfl) rfl rfl ⟨hx258_0,hx259_0,hx260_0,hx261_0,hx262_0⟩ (fun hHeld=>?_);refine with_tabW spec_l12Table.tab10 spec_l12Table.bits10 (fun HT_ HW_=>?_)
       generalize wc.drew = w43 at HO_5 HB GG35 HL258_0 HL259_0 HL261_0 HQ44 HR258_0 HR259_0 HR261_0 HX258_0 HX259_0 HX261_0 hf35_0 hx258_0 hx259_0 hx260_0 hx261_0 hx262_0 hx35_0 hHeld ⊢
       refine pure_ (i:=0) (N:=some 41) (v:=?_) (a':=?_) spec_l12Table.m1 rfl rfl (any_of HT_.out (by kernel_rfl)) (fun _ _ _ h=>h) (Or.inl ⟨by rfl,?_⟩) ?_ ?_
       rotate_left
       ·intro w'
        go_simp
        with_reducible rfl
       rotate_left
       ·simp only [Act.put,sA,sO,sS,i64_w,i32_w]
        rfl
       refine pure_ (i:=1) (N:=some 42) (v:=?_) (a':=?_) spec_l12Table.m2 rfl rfl (any_of HT_.out (by kernel_rfl)) (fun _ _ _ h=>h) (Or.inl ⟨by rfl,?_⟩) ?_ ?_
       rotate_left
       ·intro w'
        go_simp
        with_reducible rfl
       rotate_left
       ·simp only [Act.put,sA,sO,sS,i64_w,i32_w]
        rfl
       refine pure_ (i:=2) (N:=some 43) (v:=?_) (a':=?_) spec_l12Table.m3 rfl rfl (any_of HT_.out (by kernel_rfl)) (fun _ _ _ h=>h) (Or.inl ⟨by rfl,?_⟩) ?_ ?_
       rotate_left
       ·intro w'
        go_simp
        with_reducible rfl
       rotate_left
       ·simp only [Act.put,sA,sO,sS,i64_w,i32_w]
        rfl
       refine pure_ (i:=4) (N:=some 45) (v:=?_) (a':=?_) spec_l12Table.m4 rfl rfl (any_of HT_.out (by kernel_rfl)) (fun _ _ _ h=>h) (Or.inl ⟨by rfl,?_⟩) ?_ ?_
       rotate_left
       ·intro w'
        go_simp
        with_reducible rfl
       rotate_left
       ·simp only [Act.put,sA,sO,sS,i64_w,i32_w]
        rfl
       refine pure_ (i:=5) (N:=some 46) (v:=?_) (a':=?_) spec_l12Table.m5 rfl rfl (any_of HT_.out (by kernel_rfl)) (fun _ _ _ h=>h) (Or.inl ⟨by rfl,?_⟩) ?_ ?_
       rotate_left
       ·intro w'
        go_simp
        with_reducible rfl
       rotate_left
       ·simp only [Act.put,sA,sO,sS,i64_w,i32_w]
        rfl
       refine pure_ (i:=6) (N:=some 47) (v:=?_) (a':=?_) spec_l12Table.m6 rfl rfl (any_of HT_.out (by kernel_rfl)) (fun _ _ _ h=>h) (Or.inl ⟨by rfl,?_⟩) ?_ ?_
       rotate_left
       ·intro w'
        go_simp
        with_reducible rfl
       rotate_left
       ·simp only [Act.put,sA,sO,sS,i64_w,i32_w]
        rfl
       refine pure_ (i:=7) (N:=some 48) (v:=?_) (a':=?_) spec_l12Table.m7 rfl rfl (any_of HT_.out (by kernel_rfl)) (fun _ _ _ h=>h) (Or.inl ⟨by rfl,?_⟩) ?_ ?_
       rotate_left
       ·intro w'
        go_simp
        with_reducible rfl
       rotate_left
       ·simp only [Act.put,sA,sO,sS,i64_w,i32_w]
        rfl
       refine pure_ (i:=8) (N:=some 49) (v:=?_) (a':=?_) spec_l12Table.m8 rfl rfl (any_of HT_.out (by kernel_rfl)) (fun _ _ _ h=>h) (Or.inl ⟨by rfl,?_⟩) ?_ ?_
       rotate_left
       ·intro w'
        go_simp
        with_reducible rfl
       rotate_left
       ·simp only [Act.put,sA,sO,sS,i64_w,i32_w]
        rfl
       refine pure_ (i:=10) (N:=some 51) (v:=?_) (a':=?_) spec_l12Table.m9 rfl rfl (any_of HT_.out (by kernel_rfl)) (fun _ _ _ h=>h) (Or.inl ⟨by rfl,?_⟩) ?_ ?_
       rotate_left
       ·intro w'
        go_simp
        with_reducible rfl
       rotate_left
       ·simp only [Act.put,sA,sO,sS,i64_w,i32_w]
        rfl
       refine pure_ (i:=13) (N:=some 54) (v:=?_) (a':=?_) spec_l12Table.m10 rfl rfl (any_of HT_.out (by kernel_rfl)) (fun _ _ _ h=>h) (Or.inl ⟨by rfl,?_⟩) ?_ ?_
       rotate_left
       ·intro w'
        go_simp
        with_reducible rfl
       rotate_left
       ·simp only [Act.put,sA,sO,sS,i64_w,i32_w]
        rfl
       refine pure_ (i:=14) (N:=some 55) (v:=?_) (a':=?_) spec_l12Table.m11 rfl rfl (any_of HT_.out (by kernel_rfl)) (fun _ _ _ h=>h) (Or.inl ⟨by rfl,?_⟩) ?_ ?_
       rotate_left
       ·intro w'
        go_simp
        with_reducible rfl
       rotate_left
       ·simp only [Act.put,sA,sO,sS,i64_w,i32_w]
        rfl
       refine pure_ (i:=15) (N:=some 56) (v:=?_) (a':=?_) spec_l12Table.m12 rfl rfl (any_of HT_.out (by kernel_rfl)) (fun _ _ _ h=>h) (Or.inl ⟨by rfl,?_⟩) ?_ ?_
       rotate_left
       ·intro w'
        go_simp
        with_reducible rfl
       rotate_left
       ·simp only [Act.put,sA,sO,sS,i64_w,i32_w]
        rfl
       refine pure_ (i:=17) (N:=some 58) (v:=?_) (a':=?_) spec_l12Table.m13 rfl rfl (any_of HT_.out (by kernel_rfl)) (fun _ _ _ h=>h) (Or.inl ⟨by rfl,?_⟩) ?_ ?_
       rotate_left
       ·intro w'
        go_simp
        with_reducible rfl
       rotate_left
       ·simp only [Act.put,sA,sO,sS,i64_w,i32_w]
        rfl
       refine pure_ (i:=18) (N:=some 59) (v:=?_) (a':=?_) spec_l12Table.m14 rfl rfl (any_of HT_.out (by kernel_rfl)) (fun _ _ _ h=>h) (Or.inl ⟨by rfl,?_⟩) ?_ ?_
       rotate_left
       ·intro w'
        go_simp
        with_reducible rfl
       rotate_left
       ·simp only [Act.put,sA,sO,sS,i64_w,i32_w]
        rfl
       refine take_ (i:=3) (N:=some 44) (v:=?_) (a':=?_) spec_l12Table.m15 rfl rfl (take_ofW HT_.out HW_.out (by kernel_rfl)) (fun _ _ _ h=>h) (Or.inl ⟨by rfl,?_⟩) hHeld ?_ ?_
       rotate_left
       ·rintro w' ⟨s0,s1,s2,s3,s4⟩
        go_simp
        with_reducible rfl
       rotate_left
       ·simp only [Act.put,sA,sO,sS,i64_w,i32_w]
        rfl
       refine take_ (i:=9) (N:=some 50) (v:=?_) (a':=?_) spec_l12Table.m16 rfl rfl (take_ofW HT_.out HW_.out (by kernel_rfl)) (fun _ _ _ h=>h) (Or.inl ⟨by rfl,?_⟩) hHeld ?_ ?_
       rotate_left
       ·rintro w' ⟨s0,s1,s2,s3,s4⟩
        go_simp
        with_reducible rfl
       rotate_left
       ·simp only [Act.put,sA,sO,sS,i64_w,i32_w]
        rfl
       refine pure_ (i:=11) (N:=some 52) (v:=?_) (a':=?_) spec_l12Table.m17 rfl rfl (any_of HT_.out (by kernel_rfl)) (fun _ _ _ h=>h) (Or.inl ⟨by rfl,?_⟩) ?_ ?_
       rotate_left
       ·intro w'
        go_simp
        with_reducible rfl
       rotate_left
       ·simp only [Act.put,sA,sO,sS,i64_w,i32_w]
        rfl
       refine take_ (i:=12) (N:=some 53) (v:=?_) (a':=?_) spec_l12Table.m18 rfl rfl (take_ofW HT_.out HW_.out (by kernel_rfl)) (fun _ _ _ h=>h) (Or.inl ⟨by rfl,?_⟩) hHeld ?_ ?_
       rotate_left
       ·rintro w' ⟨s0,s1,s2,s3,s4⟩
        go_simp
        with_reducible rfl
       rotate_left
       ·simp only [Act.put,sA,sO,sS,i64_w,i32_w]
        rfl
       refine take_ (i:=16) (N:=some 57) (v:=?_) (a':=?_) spec_l12Table.m19 rfl rfl (take_ofW HT_.out HW_.out (by kernel_rfl)) (fun _ _ _ h=>h) (Or.inl ⟨by rfl,?_⟩) hHeld ?_ ?_
       rotate_left
       ·rintro w' ⟨s0,s1,s2,s3,s4⟩
        go_simp
        with_reducible rfl
       rotate_left
       ·simp only [Act.put,sA,sO,sS,i64_w,i32_w]
        rfl
       refine pure_ (i:=19) (N:=some 60) (v:=?_) (a':=?_) spec_l12Table.m20 rfl rfl (any_of HT_.out (by kernel_rfl)) (fun _ _ _ h=>h) (Or.inl ⟨by rfl,?_⟩) ?_ ?_
       rotate_left
       ·intro w'
        go_simp
        with_reducible rfl
       rotate_left
       ·simp only [Act.put,sA,sO,sS,i64_w,i32_w]
        rfl
       refine take_ (i:=20) (N:=some 61) (v:=?_) (a':=?_) spec_l12Table.m21 rfl rfl (take_ofW HT_.out HW_.out (by kernel_rfl)) (fun _ _ _ h=>h) (Or.inl ⟨by rfl,?_⟩) hHeld ?_ ?_
       rotate_left
       ·rintro w' ⟨s0,s1,s2,s3,s4⟩
        go_simp
        with_reducible rfl
       rotate_left
       ·simp only [Act.put,sA,sO,sS,i64_w,i32_w]
        rfl
       refine pure_ (i:=21) (N:=some 62) (v:=?_) (a':=?_) spec_l12Table.m22 rfl rfl (any_of HT_.out (by kernel_rfl)) (fun _ _ _ h=>h) (Or.inl ⟨by rfl,?_⟩) ?_ ?_
       rotate_left
       ·intro w'
        go_simp
        with_reducible rfl
       rotate_left
       ·simp only [Act.put,sA,sO,sS,i64_w,i32_w]
        rfl
       refine pure_ (i:=22) (N:=some 63) (v:=?_) (a':=?_) spec_l12Table.m23 rfl rfl (any_of HT_.out (by kernel_rfl)) (fun _ _ _ h=>h) (Or.inl ⟨by rfl,?_⟩) ?_ ?_
       rotate_left
       ·intro w'
        go_simp
        with_reducible rfl
       rotate_left
       ·simp only [Act.put,sA,sO,sS,i64_w,i32_w]
        rfl
       refine last_ (i:=23) (N:=none) spec_l12Table.m24 rfl rfl (one_of HT_.out (by kernel_rfl)) (by decide) (fun K hK=>?_)
       refine skip_ (w1:=?_) (by rfl) rfl ?_ ?_
       rotate_left
       ·go_simp
        rfl
       refine hK.out _ _ ?_
       clear hK K
       refine done_ (done_of HT_.out (by kernel_rfl)) ?_
       try go_wp2
       have n0_:Aside0 (Kd.S (Kd.slice 3 (Kd.int .i64)) 45 (w43.setCell ⟨go35,(x7_2:Int).toNat,none⟩ (.int .i64 ji33)) w.heap.size (fun _=>True) (.slice (some ⟨go14,0,none⟩) x11_2.length co14) y265):=⟨rS HQ44.out⟩
       have n1_:Aside0 (Below w.heap.size w (w43.setCell ⟨go35,(x7_2:Int).toNat,none⟩ (.int .i64 ji33))):=⟨kB HB.out⟩
       (try clear HO_5)
       (try clear HB)
       generalize (w43.setCell ⟨go35,(x7_2:Int).toNat,none⟩ (.int .i64 ji33)) = w46 at n0_ n1_ ⊢
       have HO_5:=n0_
       have HB:=n1_
       clear n0_ n1_
       replace HO_5:=mk0 (dS HO_5.out)
       replace HB:=mk0 (dZ HB.out)
       have p266:0 ≤ (x6_1:Int):=of_decide_eq_true (by first|(with_reducible assumption)|assumption)
       have q266:x6_1 < (l0.length:Int):=of_decide_eq_true (by first|(with_reducible assumption)|assumption)
       obtain⟨ad266,e266,hx266_0⟩:=Kd.at_int HR0.out x6_1 p266 q266
       have hw266_0:=hx266_0
       cases e266
       replace hx266_0:=(HB.out.cell (World.block_lt_of_cell? w _ hx266_0)).trans hx266_0
       replace p266:=eq_true p266
       replace q266:=eq_true q266
       have p267:0 ≤ (x7_2:Int):=of_decide_eq_true (by first|(with_reducible assumption)|assumption)
       have q267:x7_2 < (l1.length:Int):=of_decide_eq_true (by first|(with_reducible assumption)|assumption)
       obtain⟨ad267,e267,hx267_0⟩:=Kd.at_int HR1.out x7_2 p267 q267
       have hw267_0:=hx267_0
       cases e267
       replace hx267_0:=(HB.out.cell (World.block_lt_of_cell? w _ hx267_0)).trans hx267_0
       replace p267:=eq_true p267
       replace q267:=eq_true q267
       refine start_ (n:=9) (S:=fun w'=>w'.cell? (ad266.add (x6_1).toNat) = some (.int .i64 (rd l0 x6_1)) ∧ w'.cell? (ad267.add (x7_2).toNat) = some (.int .i64 (rd l1 x7_2))) (ds:=[]) spec_l12Table.m25 (by kernel_rfl) rfl rfl ⟨((HB.out.cell (World.block_lt_of_cell? w _ hw266_0)).trans hw266_0),((HB.out.cell (World.block_lt_of_cell? w _ hw267_0)).trans hw267_0)⟩ (fun hHeld=>?_);refine with_tabW spec_l12Table.tab11 spec_l12Table.bits11 (fun HT_ HW_=>?_)
       generalize w46.drew = w47 at HO_5 HB HQ44 hx266_0 hx267_0 hHeld ⊢
       refine pure_ (i:=0) (N:=some 64) (v:=?_) (a':=?_) spec_l12Table.m26 rfl rfl (any_of HT_.out (by kernel_rfl)) (fun _ _ _ h=>h) (Or.inl ⟨by rfl,?_⟩) ?_ ?_
       rotate_left
       ·intro w'
        go_simp
        with_reducible rfl
       rotate_left
       ·simp only [Act.put,sA,sO,sS,i64_w,i32_w]
        rfl
       refine pure_ (i:=1) (N:=some 65) (v:=?_) (a':=?_) spec_l12Table.m27 rfl rfl (any_of HT_.out (by kernel_rfl)) (fun _ _ _ h=>h) (Or.inl ⟨by rfl,?_⟩) ?_ ?_
       rotate_left
       ·intro w'
        go_simp
        with_reducible rfl
       rotate_left
       ·simp only [Act.put,sA,sO,sS,i64_w,i32_w]
        rfl
       refine pure_ (i:=2) (N:=some 66) (v:=?_) (a':=?_) spec_l12Table.m28 rfl rfl (any_of HT_.out (by kernel_rfl)) (fun _ _ _ h=>h) (Or.inl ⟨by rfl,?_⟩) ?_ ?_
       rotate_left
       ·intro w'
        go_simp
        with_reducible rfl
       rotate_left
       ·simp only [Act.put,sA,sO,sS,i64_w,i32_w]
        rfl
       refine pure_ (i:=4) (N:=some 68) (v:=?_) (a':=?_) spec_l12Table.m29 rfl rfl (any_of HT_.out (by kernel_rfl)) (fun _ _ _ h=>h) (Or.inl ⟨by rfl,?_⟩) ?_ ?_
       rotate_left
       ·intro w'
        go_simp
        with_reducible rfl
       rotate_left
       ·simp only [Act.put,sA,sO,sS,i64_w,i32_w]
        rfl
       refine pure_ (i:=5) (N:=some 69) (v:=?_) (a':=?_) spec_l12Table.m30 rfl rfl (any_of HT_.out (by kernel_rfl)) (fun _ _ _ h=>h) (Or.inl ⟨by rfl,?_⟩) ?_ ?_
       rotate_left
       ·intro w'
        go_simp
        with_reducible rfl
       rotate_left
       ·simp only [Act.put,sA,sO,sS,i64_w,i32_w]
        rfl
       refine pure_ (i:=6) (N:=some 70) (v:=?_) (a':=?_) spec_l12Table.m31 rfl rfl (any_of HT_.out (by kernel_rfl)) (fun _ _ _ h=>h) (Or.inl ⟨by rfl,?_⟩) ?_ ?_
       rotate_left
       ·intro w'
        go_simp
        with_reducible rfl
       rotate_left
       ·simp only [Act.put,sA,sO,sS,i64_w,i32_w]
        rfl
       refine take_ (i:=3) (N:=some 67) (v:=?_) (a':=?_) spec_l12Table.m32 rfl rfl (take_ofW HT_.out HW_.out (by kernel_rfl)) (fun _ _ _ h=>h) (Or.inl ⟨by rfl,?_⟩) hHeld ?_ ?_
       rotate_left
       ·rintro w' ⟨s0,s1⟩
        go_simp
        with_reducible rfl
       rotate_left
       ·simp only [Act.put,sA,sO,sS,i64_w,i32_w]
        rfl
       refine take_ (i:=7) (N:=some 71) (v:=?_) (a':=?_) spec_l12Table.m33 rfl rfl (take_ofW HT_.out HW_.out (by kernel_rfl)) (fun _ _ _ h=>h) (Or.inl ⟨by rfl,?_⟩) hHeld ?_ ?_
       rotate_left
       ·rintro w' ⟨s0,s1⟩
        go_simp
        with_reducible rfl
       rotate_left
       ·simp only [Act.put,sA,sO,sS,i64_w,i32_w]
        rfl
       refine pure_ (i:=8) (N:=some 72) (v:=?_) (a':=?_) spec_l12Table.m34 rfl rfl (any_of HT_.out (by kernel_rfl)) (fun _ _ _ h=>h) (Or.inl ⟨by rfl,?_⟩) ?_ ?_
       rotate_left
       ·intro w'
        go_simp
        with_reducible rfl
       rotate_left
       ·simp only [Act.put,sA,sO,sS,i64_w,i32_w]
        rfl
       refine done_ (done_of HT_.out (by kernel_rfl)) ?_
       try go_wp2
       replace HO_5:=mk0 (dS HO_5.out)
       replace HB:=mk0 (dZ HB.out)
       have p268:0 ≤ (x6_1:Int):=of_decide_eq_true (by first|(with_reducible assumption)|assumption)
       have q268:x6_1 < (y265.length:Int):=(by have h_:(x6_1:Int) < ((x11_2.length:Int):Int):=of_decide_eq_true (by first|(with_reducible assumption)|assumption);first|(have e_:=(Kd.S_reads' HO_5.out).1;omega)|simpa only [Ny265.out,List.length_set] using h_)
       have ql268:((x6_1:Int) < ((x11_2.length:Int):Int)) = True:=eq_true (of_decide_eq_true (by first|(with_reducible assumption)|assumption))
       obtain⟨ad268,A268_0,c268_0,e268,hx268_0,hl268_0,hi268_0⟩:=at_L4 (Kd.S_reads' HO_5.out).2.2 x6_1 p268 q268
       obtain rfl:(⟨go14,0,none⟩:Addr) = ad268:=(by injection e268)
       obtain⟨ce268,hce268,hMe268,hcc268⟩:=Kd.S_get HO_5.out [] x6_1 p268 (by first|exact q268|exact of_decide_eq_true (by first|(with_reducible assumption)|assumption)|(have e_:=(Kd.S_reads' HO_5.out).1;omega))
       obtain⟨ve268_0,rfl,ge268_0⟩:=hMe268
       have hv268_0:=hcc268 0 _ rfl
       rw [Nat.add_zero,show ((Kd.slice 3 (Kd.int .i64))).sz = 1 from rfl,Nat.mul_one] at hv268_0
       replace hv268_0:=Option.some.inj (hv268_0.symm.trans hx268_0)
       rw [hv268_0] at ge268_0
       have HL268_0:=mk0 (show Kd.R (Kd.int .i64) 3 _ _ _ _ (rd_L4 y265 x6_1) from ge268_0)
       clear hv268_0 ge268_0
       have HX268_0:=mk0 hx268_0
       clear hcc268 hce268
       (first|simp only [add_plain] at hx268_0|simp only [add_at] at hx268_0|simp only [Addr.add,Nat.zero_add] at hx268_0|skip)
       have HR268_0:=mk0 hi268_0
       have HC268_0:=mk0 hl268_0
       clear hi268_0 hl268_0
       replace p268:=eq_true p268
       replace q268:=eq_true q268
       have p269:0 ≤ (x6_1:Int):=of_decide_eq_true (by first|(with_reducible assumption)|assumption)
       have q269:x6_1 < (y265.length:Int):=(by have h_:(x6_1:Int) < ((x11_2.length:Int):Int):=of_decide_eq_true (by first|(with_reducible assumption)|assumption);first|(have e_:=(Kd.S_reads' HO_5.out).1;omega)|simpa only [Ny265.out,List.length_set] using h_)
       have ql269:((x6_1:Int) < ((x11_2.length:Int):Int)) = True:=eq_true (of_decide_eq_true (by first|(with_reducible assumption)|assumption))
       obtain⟨ad269,A269_0,c269_0,e269,hx269_0,hl269_0,hi269_0⟩:=at_L4 (Kd.S_reads' HO_5.out).2.2 x6_1 p269 q269
       obtain rfl:(⟨go14,0,none⟩:Addr) = ad269:=(by injection e269)
       obtain⟨ce269,hce269,hMe269,hcc269⟩:=Kd.S_get HO_5.out [] x6_1 p269 (by first|exact q269|exact of_decide_eq_true (by first|(with_reducible assumption)|assumption)|(have e_:=(Kd.S_reads' HO_5.out).1;omega))
       obtain⟨ve269_0,rfl,ge269_0⟩:=hMe269
       have hv269_0:=hcc269 0 _ rfl
       rw [Nat.add_zero,show ((Kd.slice 3 (Kd.int .i64))).sz = 1 from rfl,Nat.mul_one] at hv269_0
       replace hv269_0:=Option.some.inj (hv269_0.symm.trans hx269_0)
       rw [hv269_0] at ge269_0
       have HL269_0:=mk0 (show Kd.R (Kd.int .i64) 3 _ _ _ _ (rd_L4 y265 x6_1) from ge269_0)
       clear hv269_0 ge269_0
       have HX269_0:=mk0 hx269_0
       clear hcc269 hce269
       (first|simp only [add_plain] at hx269_0|simp only [add_at] at hx269_0|simp only [Addr.add,Nat.zero_add] at hx269_0|skip)
       have HR269_0:=mk0 hi269_0
       have HC269_0:=mk0 hl269_0
       clear hi269_0 hl269_0
       replace p269:=eq_true p269
       replace q269:=eq_true q269
       have ea_:=Option.some.inj (hx268_0.symm.trans hx269_0)
       injection ea_ with ea_ en_ ec_
       subst ea_
       subst ec_
       clear en_
       have p270:0 ≤ (x7_2:Int):=of_decide_eq_true (by first|(with_reducible assumption)|assumption)
       have q270:x7_2 < ((rd_L4 y265 x6_1).length:Int):=of_decide_eq_true (by first|(with_reducible assumption)|assumption)
       obtain⟨ad270,e270,hx270_0⟩:=Kd.at_int (by repeat (first|(with_reducible exact HR269_0.out)|(with_reducible first|apply aC|apply nC|apply dC)|exact HR269_0.out|exact (Kd.V_reads' HL269_0.out).2.2)) x7_2 p270 q270
       cases e270
       replace p270:=eq_true p270
       replace q270:=eq_true q270
       have p271:0 ≤ ((ji25):Int):=of_decide_eq_true (by first|(with_reducible assumption)|assumption)
       have q271:(ji25) < (y265.length:Int):=(by have h_:((ji25):Int) < ((x11_2.length:Int):Int):=of_decide_eq_true (by first|(with_reducible assumption)|assumption);first|(have e_:=(Kd.S_reads' HO_5.out).1;omega)|simpa only [Ny265.out,List.length_set] using h_)
       have ql271:(((ji25):Int) < ((x11_2.length:Int):Int)) = True:=eq_true (of_decide_eq_true (by first|(with_reducible assumption)|assumption))
       obtain⟨ad271,A271_0,c271_0,e271,hx271_0,hl271_0,hi271_0⟩:=at_L4 (Kd.S_reads' HO_5.out).2.2 (ji25) p271 q271
       obtain rfl:(⟨go14,0,none⟩:Addr) = ad271:=(by injection e271)
       obtain⟨ce271,hce271,hMe271,hcc271⟩:=Kd.S_get HO_5.out [] (ji25) p271 (by first|exact q271|exact of_decide_eq_true (by first|(with_reducible assumption)|assumption)|(have e_:=(Kd.S_reads' HO_5.out).1;omega))
       obtain⟨ve271_0,rfl,ge271_0⟩:=hMe271
       have hv271_0:=hcc271 0 _ rfl
       rw [Nat.add_zero,show ((Kd.slice 3 (Kd.int .i64))).sz = 1 from rfl,Nat.mul_one] at hv271_0
       replace hv271_0:=Option.some.inj (hv271_0.symm.trans hx271_0)
       rw [hv271_0] at ge271_0
       have HL271_0:=mk0 (show Kd.R (Kd.int .i64) 3 _ _ _ _ (rd_L4 y265 (ji25)) from ge271_0)
       clear hv271_0 ge271_0
       have HX271_0:=mk0 hx271_0
       clear hcc271 hce271
       (first|simp only [add_plain] at hx271_0|simp only [add_at] at hx271_0|simp only [Addr.add,Nat.zero_add] at hx271_0|skip)
       have HR271_0:=mk0 hi271_0
       have HC271_0:=mk0 hl271_0
       clear hi271_0 hl271_0
       replace p271:=eq_true p271
       replace q271:=eq_true q271
       have p272:0 ≤ ((ji30):Int):=of_decide_eq_true (by first|(with_reducible assumption)|assumption)
       have q272:(ji30) < ((rd_L4 y265 (ji25)).length:Int):=of_decide_eq_true (by first|(with_reducible assumption)|assumption)
       obtain⟨ad272,e272,hx272_0⟩:=Kd.at_int (by repeat (first|(with_reducible exact HR271_0.out)|(with_reducible first|apply aC|apply nC|apply dC)|exact HR271_0.out|exact (Kd.V_reads' HL271_0.out).2.2)) (ji30) p272 q272
       cases e272
       replace p272:=eq_true p272
       replace q272:=eq_true q272
       have p42:0 ≤ (x7_2:Int):=of_decide_eq_true (by first|(with_reducible assumption)|assumption)
       have q42:(x7_2:Int) < (((rd_L4 y265 x6_1).length:Int):Int):=of_decide_eq_true (by first|(with_reducible assumption)|assumption)
       obtain⟨go42,co42,eo42,gb42,gl42,cl42,HG42⟩:=Kd.R_form HL268_0.out (by omega)
       (first|cases eo42|(injection eo42 with ea_ en_ ec_;(first|subst ea_|(injection ea_ with ea_;subst ea_));subst ec_;clear en_))
       have GB42:=mk0 gb42
       have GG42:=mk0 HG42
       clear gb42 gl42 HG42
       (first|simp only [add_plain] at hx270_0|skip)
       obtain⟨hx42_0,hf42_0⟩:=Kd.R_celln 0 HL268_0.out (x7_2:Int) p42 q42
       replace p42:=eq_true p42
       replace q42:=eq_true q42
       have hq49:(x6_1:Int) < (y265.length:Int):=(by have h_:(x6_1:Int) < ((x11_2.length:Int):Int):=of_decide_eq_true (by first|(with_reducible assumption)|assumption);first|exact h_|(have e_:=(Kd.S_reads' HO_5.out).1;omega)|simpa only [Ny265.out,List.length_set] using h_)
       obtain⟨oki49,ce49,hcl49,hM49,hcc49,hok49,hbk49⟩:=Kd.S_borrow HO_5.out [] (x6_1:Int) (of_decide_eq_true (by first|(with_reducible assumption)|assumption)) (by first|exact hq49|(have e_:=(Kd.S_reads' HO_5.out).1;omega))
       obtain⟨ve49_0,rfl,ge49_0⟩:=hM49
       have hv49:=hcc49 0 _ rfl
       rw [Nat.add_zero,show ((Kd.slice 3 (Kd.int .i64))).sz = 1 from rfl,Nat.mul_one] at hv49
       replace hv49:=Option.some.inj (hv49.symm.trans HX268_0.out)
       subst hv49
       clear hcc49 hcl49
       replace ge49_0:=(show Kd.R (Kd.int .i64) 3 _ _ _ _ (rd_L4 y265 x6_1) from ge49_0)
       have HP49:=Kd.R_putg ge49_0 (x7_2:Int) ji41
       rw [← Ny273.out] at HP49
       have HS49:=hbk49 HP49.2 (fun k_ e_=>by injection e_ with e_;subst e_;exact ge49_0.1 _ rfl) (x':=y273) (Kd.M_row HP49.1)
       rw [← Ny275.out] at HS49
       have HQ49:=mk0 HS49
       clear HP49 HS49 hbk49 hok49
       refine start_ (n:=25) (S:=fun w'=>w'.cell? ⟨go14,(x6_1).toNat,none⟩ = some (.slice (some ⟨go42,0,none⟩) (rd_L4 y265 x6_1).length c268_0) ∧ w'.cell? ⟨go14,(x6_1).toNat,none⟩ = some (.slice (some ⟨go42,0,none⟩) (rd_L4 y265 x6_1).length c268_0) ∧ w'.cell? ⟨go42,(x7_2).toNat,none⟩ = some (.int .i64 (rd (rd_L4 y265 x6_1) x7_2)) ∧ w'.cell? ⟨go14,((ji25)).toNat,none⟩ = some (.slice (some ad272) (rd_L4 y265 (ji25)).length c271_0) ∧ w'.cell? (ad272.add ((ji30)).toNat) = some (.int .i64 (rd (rd_L4 y265 (ji25)) (ji30)))) (ds:=[24]) spec_l12Table.m35 (by kernel_rfl) rfl rfl ⟨hx268_0,hx269_0,hx270_0,hx271_0,hx272_0⟩ (fun hHeld=>?_);refine with_tabW spec_l12Table.tab12 spec_l12Table.bits12 (fun HT_ HW_=>?_)
       generalize w47.drew = w48 at HO_5 HB GG42 HL268_0 HL269_0 HL271_0 HQ49 HR268_0 HR269_0 HR271_0 HX268_0 HX269_0 HX271_0 hf42_0 hx268_0 hx269_0 hx270_0 hx271_0 hx272_0 hx42_0 hHeld ⊢
       refine pure_ (i:=0) (N:=some 73) (v:=?_) (a':=?_) spec_l12Table.m36 rfl rfl (any_of HT_.out (by kernel_rfl)) (fun _ _ _ h=>h) (Or.inl ⟨by rfl,?_⟩) ?_ ?_
       rotate_left
       ·intro w'
        go_simp
        with_reducible rfl
       rotate_left
       ·simp only [Act.put,sA,sO,sS,i64_w,i32_w]
        rfl
       refine pure_ (i:=1) (N:=some 74) (v:=?_) (a':=?_) spec_l12Table.m37 rfl rfl (any_of HT_.out (by kernel_rfl)) (fun _ _ _ h=>h) (Or.inl ⟨by rfl,?_⟩) ?_ ?_
       rotate_left
       ·intro w'
        go_simp
        with_reducible rfl
       rotate_left
       ·simp only [Act.put,sA,sO,sS,i64_w,i32_w]
        rfl
       refine pure_ (i:=2) (N:=some 75) (v:=?_) (a':=?_) spec_l12Table.m38 rfl rfl (any_of HT_.out (by kernel_rfl)) (fun _ _ _ h=>h) (Or.inl ⟨by rfl,?_⟩) ?_ ?_
       rotate_left
       ·intro w'
        go_simp
        with_reducible rfl
       rotate_left
       ·simp only [Act.put,sA,sO,sS,i64_w,i32_w]
        rfl
       refine pure_ (i:=4) (N:=some 77) (v:=?_) (a':=?_) spec_l12Table.m39 rfl rfl (any_of HT_.out (by kernel_rfl)) (fun _ _ _ h=>h) (Or.inl ⟨by rfl,?_⟩) ?_ ?_
       rotate_left
       ·intro w'
        go_simp
        with_reducible rfl
       rotate_left
       ·simp only [Act.put,sA,sO,sS,i64_w,i32_w]
        rfl
       refine pure_ (i:=5) (N:=some 78) (v:=?_) (a':=?_) spec_l12Table.m40 rfl rfl (any_of HT_.out (by kernel_rfl)) (fun _ _ _ h=>h) (Or.inl ⟨by rfl,?_⟩) ?_ ?_
       rotate_left
       ·intro w'
        go_simp
        with_reducible rfl
       rotate_left
       ·simp only [Act.put,sA,sO,sS,i64_w,i32_w]
        rfl
       refine pure_ (i:=6) (N:=some 79) (v:=?_) (a':=?_) spec_l12Table.m41 rfl rfl (any_of HT_.out (by kernel_rfl)) (fun _ _ _ h=>h) (Or.inl ⟨by rfl,?_⟩) ?_ ?_
       rotate_left
       ·intro w'
        go_simp
        with_reducible rfl
       rotate_left
       ·simp only [Act.put,sA,sO,sS,i64_w,i32_w]
        rfl
       refine pure_ (i:=7) (N:=some 80) (v:=?_) (a':=?_) spec_l12Table.m42 rfl rfl (any_of HT_.out (by kernel_rfl)) (fun _ _ _ h=>h) (Or.inl ⟨by rfl,?_⟩) ?_ ?_
       rotate_left
       ·intro w'
        go_simp
        with_reducible rfl
       rotate_left
       ·simp only [Act.put,sA,sO,sS,i64_w,i32_w]
        rfl
       refine pure_ (i:=9) (N:=some 82) (v:=?_) (a':=?_) spec_l12Table.m43 rfl rfl (any_of HT_.out (by kernel_rfl)) (fun _ _ _ h=>h) (Or.inl ⟨by rfl,?_⟩) ?_ ?_
       rotate_left
       ·intro w'
        go_simp
        with_reducible rfl
       rotate_left
       ·simp only [Act.put,sA,sO,sS,i64_w,i32_w]
        rfl
       refine pure_ (i:=12) (N:=some 85) (v:=?_) (a':=?_) spec_l12Table.m44 rfl rfl (any_of HT_.out (by kernel_rfl)) (fun _ _ _ h=>h) (Or.inl ⟨by rfl,?_⟩) ?_ ?_
       rotate_left
       ·intro w'
        go_simp
        with_reducible rfl
       rotate_left
       ·simp only [Act.put,sA,sO,sS,i64_w,i32_w]
        rfl
       refine pure_ (i:=13) (N:=some 86) (v:=?_) (a':=?_) spec_l12Table.m45 rfl rfl (any_of HT_.out (by kernel_rfl)) (fun _ _ _ h=>h) (Or.inl ⟨by rfl,?_⟩) ?_ ?_
       rotate_left
       ·intro w'
        go_simp
        with_reducible rfl
       rotate_left
       ·simp only [Act.put,sA,sO,sS,i64_w,i32_w]
        rfl
       refine pure_ (i:=14) (N:=some 87) (v:=?_) (a':=?_) spec_l12Table.m46 rfl rfl (any_of HT_.out (by kernel_rfl)) (fun _ _ _ h=>h) (Or.inl ⟨by rfl,?_⟩) ?_ ?_
       rotate_left
       ·intro w'
        go_simp
        with_reducible rfl
       rotate_left
       ·simp only [Act.put,sA,sO,sS,i64_w,i32_w]
        rfl
       refine pure_ (i:=15) (N:=some 88) (v:=?_) (a':=?_) spec_l12Table.m47 rfl rfl (any_of HT_.out (by kernel_rfl)) (fun _ _ _ h=>h) (Or.inl ⟨by rfl,?_⟩) ?_ ?_
       rotate_left
       ·intro w'
        go_simp
        with_reducible rfl
       rotate_left
       ·simp only [Act.put,sA,sO,sS,i64_w,i32_w]
        rfl
       refine pure_ (i:=17) (N:=some 90) (v:=?_) (a':=?_) spec_l12Table.m48 rfl rfl (any_of HT_.out (by kernel_rfl)) (fun _ _ _ h=>h) (Or.inl ⟨by rfl,?_⟩) ?_ ?_
       rotate_left
       ·intro w'
        go_simp
        with_reducible rfl
       rotate_left
       ·simp only [Act.put,sA,sO,sS,i64_w,i32_w]
        rfl
       refine pure_ (i:=18) (N:=some 91) (v:=?_) (a':=?_) spec_l12Table.m49 rfl rfl (any_of HT_.out (by kernel_rfl)) (fun _ _ _ h=>h) (Or.inl ⟨by rfl,?_⟩) ?_ ?_
       rotate_left
       ·intro w'
        go_simp
        with_reducible rfl
       rotate_left
       ·simp only [Act.put,sA,sO,sS,i64_w,i32_w]
        rfl
       refine take_ (i:=3) (N:=some 76) (v:=?_) (a':=?_) spec_l12Table.m50 rfl rfl (take_ofW HT_.out HW_.out (by kernel_rfl)) (fun _ _ _ h=>h) (Or.inl ⟨by rfl,?_⟩) hHeld ?_ ?_
       rotate_left
       ·rintro w' ⟨s0,s1,s2,s3,s4⟩
        go_simp
        with_reducible rfl
       rotate_left
       ·simp only [Act.put,sA,sO,sS,i64_w,i32_w]
        rfl
       refine take_ (i:=8) (N:=some 81) (v:=?_) (a':=?_) spec_l12Table.m51 rfl rfl (take_ofW HT_.out HW_.out (by kernel_rfl)) (fun _ _ _ h=>h) (Or.inl ⟨by rfl,?_⟩) hHeld ?_ ?_
       rotate_left
       ·rintro w' ⟨s0,s1,s2,s3,s4⟩
        go_simp
        with_reducible rfl
       rotate_left
       ·simp only [Act.put,sA,sO,sS,i64_w,i32_w]
        rfl
       refine pure_ (i:=10) (N:=some 83) (v:=?_) (a':=?_) spec_l12Table.m52 rfl rfl (any_of HT_.out (by kernel_rfl)) (fun _ _ _ h=>h) (Or.inl ⟨by rfl,?_⟩) ?_ ?_
       rotate_left
       ·intro w'
        go_simp
        with_reducible rfl
       rotate_left
       ·simp only [Act.put,sA,sO,sS,i64_w,i32_w]
        rfl
       refine take_ (i:=11) (N:=some 84) (v:=?_) (a':=?_) spec_l12Table.m53 rfl rfl (take_ofW HT_.out HW_.out (by kernel_rfl)) (fun _ _ _ h=>h) (Or.inl ⟨by rfl,?_⟩) hHeld ?_ ?_
       rotate_left
       ·rintro w' ⟨s0,s1,s2,s3,s4⟩
        go_simp
        with_reducible rfl
       rotate_left
       ·simp only [Act.put,sA,sO,sS,i64_w,i32_w]
        rfl
       refine take_ (i:=16) (N:=some 89) (v:=?_) (a':=?_) spec_l12Table.m54 rfl rfl (take_ofW HT_.out HW_.out (by kernel_rfl)) (fun _ _ _ h=>h) (Or.inl ⟨by rfl,?_⟩) hHeld ?_ ?_
       rotate_left
       ·rintro w' ⟨s0,s1,s2,s3,s4⟩
        go_simp
        with_reducible rfl
       rotate_left
       ·simp only [Act.put,sA,sO,sS,i64_w,i32_w]
        rfl
       refine pure_ (i:=19) (N:=some 92) (v:=?_) (a':=?_) spec_l12Table.m55 rfl rfl (any_of HT_.out (by kernel_rfl)) (fun _ _ _ h=>h) (Or.inl ⟨by rfl,?_⟩) ?_ ?_
       rotate_left
       ·intro w'
        go_simp
        with_reducible rfl
       rotate_left
       ·simp only [Act.put,sA,sO,sS,i64_w,i32_w]
        rfl
       refine take_ (i:=20) (N:=some 93) (v:=?_) (a':=?_) spec_l12Table.m56 rfl rfl (take_ofW HT_.out HW_.out (by kernel_rfl)) (fun _ _ _ h=>h) (Or.inl ⟨by rfl,?_⟩) hHeld ?_ ?_
       rotate_left
       ·rintro w' ⟨s0,s1,s2,s3,s4⟩
        go_simp
        with_reducible rfl
       rotate_left
       ·simp only [Act.put,sA,sO,sS,i64_w,i32_w]
        rfl
       refine pure_ (i:=21) (N:=some 94) (v:=?_) (a':=?_) spec_l12Table.m57 rfl rfl (any_of HT_.out (by kernel_rfl)) (fun _ _ _ h=>h) (Or.inl ⟨by rfl,?_⟩) ?_ ?_
       rotate_left
       ·intro w'
        go_simp
        with_reducible rfl
       rotate_left
       ·simp only [Act.put,sA,sO,sS,i64_w,i32_w]
        rfl
       refine pure_ (i:=22) (N:=some 95) (v:=?_) (a':=?_) spec_l12Table.m58 rfl rfl (any_of HT_.out (by kernel_rfl)) (fun _ _ _ h=>h) (Or.inl ⟨by rfl,?_⟩) ?_ ?_
       rotate_left
       ·intro w'
        go_simp
        with_reducible rfl
       rotate_left
       ·simp only [Act.put,sA,sO,sS,i64_w,i32_w]
        rfl
       refine pure_ (i:=23) (N:=some 96) (v:=?_) (a':=?_) spec_l12Table.m59 rfl rfl (any_of HT_.out (by kernel_rfl)) (fun _ _ _ h=>h) (Or.inl ⟨by rfl,?_⟩) ?_ ?_
       rotate_left
       ·intro w'
        go_simp
        with_reducible rfl
       rotate_left
       ·simp only [Act.put,sA,sO,sS,i64_w,i32_w]
        rfl
       refine last_ (i:=24) (N:=none) spec_l12Table.m60 rfl rfl (one_of HT_.out (by kernel_rfl)) (by decide) (fun K hK=>?_)
       refine skip_ (w1:=?_) (by rfl) rfl ?_ ?_
       rotate_left
       ·go_simp
        rfl
       refine hK.out _ _ ?_
       clear hK K
       refine done_ (done_of HT_.out (by kernel_rfl)) ?_
       try go_wp2
       (try simp only [← hl11_2])
       go_roundg kj19
       case measure=>have:=HK1.out;have:=HK2.out;have:=HJ19.out;omega
       case rel=>exact⟨(wrap64 (x7_2 - 1)),(y275),(by first|rfl|(simp;done)|(simp [*];done)),H',⟨by have:=HK1.out;have:=HK2.out;have:=HJ19.out;omega⟩,⟨by (try simp only [hl11_2]);(with_reducible repeat (first|apply aS|apply nS|apply dS));exact HQ49.out⟩,⟨kB HB.out⟩⟩
end Go.Proofs.Ytadhngelhognaaa.QFnExactShareOf
