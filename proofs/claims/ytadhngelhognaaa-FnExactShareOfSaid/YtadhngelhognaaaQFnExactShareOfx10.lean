-- A walk, made by walk.py, a program of this session's.
import Derived.Test.YtadhngelhognaaaQFnExactShareOfx0
namespace Go.Proofs.Ytadhngelhognaaa.QFnExactShareOf
open Go.RowKit Go.Proofs.YtadhngelhognaaaW.PrintWords Go.Proofs.YtadhngelhognaaaW.PrintLast Go.Proofs.YtadhngelhognaaaW.PrintMore
set_option linter.unusedVariables false
set_option linter.unusedSimpArgs false
attribute [local go_sem] max2_int min2_int max_two min_two max_three min_three max_four min_four
mutual
def impl_commonTable.l0 : Nat → List Int → List Int → Int → List (List Int) → Option ((List (List Int)))
 | 0, _, _, _, _ => none
 | k + 1, x0, x1, x6, x11 => if x6 ≥ 0 then (if 0 ≤ (wrap64 ((x1.length : Int) + 1)) then (if (wrap64 ((x1.length : Int) + 1) : Int).toNat ≤ 35184372088832 then (if 0 ≤ x6 then (if x6 < (x11.length : Int) then (impl_commonTable.l1 k x0 x1 x6 (wrap64 ((x1.length : Int) - 1)) (x11.set (x6 : Int).toNat (List.replicate (wrap64 ((x1.length : Int) + 1) : Int).toNat 0))) else (none)) else (none)) else (none)) else (none)) else (some x11)
def impl_commonTable.l1 : Nat → List Int → List Int → Int → Int → List (List Int) → Option ((List (List Int)))
 | 0, _, _, _, _, _ => none
 | k + 1, x0, x1, x6, x7, x11 => if x7 ≥ 0 then (if 0 ≤ x6 then (if x6 < (x0.length : Int) then (if 0 ≤ x7 then (if x7 < (x1.length : Int) then (if (rd x0 x6) = (rd x1 x7) then (if x6 < (x11.length : Int) then (if 0 ≤ (wrap64 (x6 + 1)) then (if (wrap64 (x6 + 1)) < (x11.length : Int) then (if 0 ≤ (wrap64 (x7 + 1)) then (if (wrap64 (x7 + 1)) < ((rd_L4 x11 (wrap64 (x6 + 1))).length : Int) then (if x7 < ((rd_L4 x11 x6).length : Int) then (impl_commonTable.l1 k x0 x1 x6 (wrap64 (x7 - 1)) (x11.set (x6 : Int).toNat ((rd_L4 x11 x6).set (x7 : Int).toNat (wrap64 ((rd (rd_L4 x11 (wrap64 (x6 + 1))) (wrap64 (x7 + 1))) + 1))))) else (none)) else (none)) else (none)) else (none)) else (none)) else (none)) else (if x6 < (x11.length : Int) then (if 0 ≤ (wrap64 (x6 + 1)) then (if (wrap64 (x6 + 1)) < (x11.length : Int) then (if x7 < ((rd_L4 x11 (wrap64 (x6 + 1))).length : Int) then (if 0 ≤ (wrap64 (x7 + 1)) then (if (wrap64 (x7 + 1)) < ((rd_L4 x11 x6).length : Int) then (if x7 < ((rd_L4 x11 x6).length : Int) then (impl_commonTable.l1 k x0 x1 x6 (wrap64 (x7 - 1)) (x11.set (x6 : Int).toNat ((rd_L4 x11 x6).set (x7 : Int).toNat (mx (rd (rd_L4 x11 (wrap64 (x6 + 1))) x7) (rd (rd_L4 x11 x6) (wrap64 (x7 + 1))))))) else (none)) else (none)) else (none)) else (none)) else (none)) else (none)) else (none))) else (none)) else (none)) else (none)) else (none)) else (impl_commonTable.l0 k x0 x1 (wrap64 (x6 - 1)) x11)
end
def impl_commonTable.f (k : Nat) (l0 : List Int) (l1 : List Int) : Option ((List (List Int))) := if 0 ≤ (wrap64 ((l0.length : Int) + 1)) then (if (wrap64 ((l0.length : Int) + 1) : Int).toNat ≤ 11728124029610 then ((some (List.replicate (wrap64 ((l0.length : Int) + 1) : Int).toNat [] : List (List Int))).bind fun y384 => (if 0 ≤ (wrap64 ((l1.length : Int) + 1)) then (if (wrap64 ((l1.length : Int) + 1) : Int).toNat ≤ 35184372088832 then (if 0 ≤ (l0.length : Int) then (if (l0.length : Int) < (y384.length : Int) then (impl_commonTable.l0 k l0 l1 (wrap64 ((l0.length : Int) - 1)) (y384.set ((l0.length : Int) : Int).toNat (List.replicate (wrap64 ((l1.length : Int) + 1) : Int).toNat 0))) else (none)) else (none)) else (none)) else (none))) else (none)) else (none)
theorem impl_commonTable.mono_l : ∀ k, (∀ y0 y1 y2 y3, LeO (impl_commonTable.l0 k y0 y1 y2 y3) (impl_commonTable.l0 (k + 1) y0 y1 y2 y3)) ∧ (∀ y0 y1 y2 y3 y4, LeO (impl_commonTable.l1 k y0 y1 y2 y3 y4) (impl_commonTable.l1 (k + 1) y0 y1 y2 y3 y4))
 | 0 => ⟨fun _ _ _ _ r h => by simp [impl_commonTable.l0] at h, fun _ _ _ _ _ r h => by simp [impl_commonTable.l1] at h⟩
 | k + 1 => by
  obtain ⟨ih0, ih1⟩ := impl_commonTable.mono_l k
  refine ⟨?_, ?_⟩
  ·intro y0 y1 y2 y3
   unfold impl_commonTable.l0
   repeat' first|(with_reducible first|exact ih0 _ _ _ _|exact ih1 _ _ _ _ _|exact LeO.refl _|exact LeO.none _|refine LeO.ite ?_ ?_|refine LeO.bind ?_ (fun _ => ?_))|exact LeO.none _|refine LeO.ite ?_ ?_|refine LeO.bind ?_ (fun _ => ?_)
  ·intro y0 y1 y2 y3 y4
   unfold impl_commonTable.l1
   repeat' first|(with_reducible first|exact ih0 _ _ _ _|exact ih1 _ _ _ _ _|exact LeO.refl _|exact LeO.none _|refine LeO.ite ?_ ?_|refine LeO.bind ?_ (fun _ => ?_))|exact LeO.none _|refine LeO.ite ?_ ?_|refine LeO.bind ?_ (fun _ => ?_)
theorem impl_commonTable.mono : ∀ a0 a1 k, LeO (impl_commonTable.f k a0 a1) (impl_commonTable.f (k + 1) a0 a1) := by
 intro a0 a1 k
 obtain ⟨ih0, ih1⟩ := impl_commonTable.mono_l k
 unfold impl_commonTable.f
 repeat' first|(with_reducible first|exact ih0 _ _ _ _|exact ih1 _ _ _ _ _|exact LeO.refl _|exact LeO.none _|refine LeO.ite ?_ ?_|refine LeO.bind ?_ (fun _ => ?_))|exact LeO.none _|refine LeO.ite ?_ ?_|refine LeO.bind ?_ (fun _ => ?_)
def impl_commonTable.T10 : Bool × List (List Nat × List Nat) := (true, [([], []), ([], []), ([0, 1], [0, 1]), ([2], [2]), ([], []), ([], []), ([4, 5], [4, 5]), ([6], [6]), ([3, 7], [3, 7])])
def impl_commonTable.B10 : List Nat := [0, 0, 3, 7, 0, 0, 48, 112, 255]
theorem impl_commonTable.tab10 : rtab .any (opsOf Try.f63 10) = impl_commonTable.T10 := by kernel_rfl
theorem impl_commonTable.bits10 : waitsOk impl_commonTable.T10.2 impl_commonTable.B10 = true := by kernel_rfl
def impl_commonTable.T11 : Bool × List (List Nat × List Nat) := (true, [([], []), ([], []), ([0, 1], [0, 1]), ([2], [2]), ([], []), ([], []), ([], []), ([6], [6]), ([5, 7], [5, 7]), ([8], [8]), ([], []), ([10], [10]), ([9, 11], [9, 11]), ([12], [12]), ([13], [13]), ([3, 4, 0, 1, 2, 3, 4, 5, 6, 7, 8, 9, 10, 11, 12, 13, 14], [3, 4]), ([15, 14, 0, 1, 2, 3, 4, 5, 6, 7, 8, 9, 10, 11, 12, 13, 14], [14, 15])])
def impl_commonTable.B11 : List Nat := [0, 0, 3, 7, 0, 0, 0, 64, 224, 480, 0, 1024, 4064, 8160, 16352, 32767, 65535]
theorem impl_commonTable.tab11 : rtab .any (opsOf Try.f63 11) = impl_commonTable.T11 := by kernel_rfl
theorem impl_commonTable.bits11 : waitsOk impl_commonTable.T11.2 impl_commonTable.B11 = true := by kernel_rfl
def impl_commonTable.T12 : Bool × List (List Nat × List Nat) := (true, [([], []), ([], []), ([0, 1], [0, 1]), ([2], [2]), ([], []), ([], []), ([], []), ([6], [6]), ([5, 7], [5, 7]), ([8], [8]), ([], []), ([9, 10], [9, 10]), ([11], [11]), ([], []), ([], []), ([13, 14], [13, 14]), ([15], [15]), ([], []), ([17], [17]), ([16, 18], [16, 18]), ([19], [19]), ([12, 20], [12, 20]), ([3, 4, 0, 1, 2, 3, 4, 5, 6, 7, 8, 9, 10, 11, 12, 13, 14, 15, 16, 17, 18, 19, 20, 21], [3, 4]), ([22, 21, 0, 1, 2, 3, 4, 5, 6, 7, 8, 9, 10, 11, 12, 13, 14, 15, 16, 17, 18, 19, 20, 21], [21, 22])])
def impl_commonTable.B12 : List Nat := [0, 0, 3, 7, 0, 0, 0, 64, 224, 480, 0, 2016, 4064, 0, 0, 24576, 57344, 0, 131072, 516096, 1040384, 2097120, 4194303, 8388607]
theorem impl_commonTable.tab12 : rtab .any (opsOf Try.f63 12) = impl_commonTable.T12 := by kernel_rfl
theorem impl_commonTable.bits12 : waitsOk impl_commonTable.T12.2 impl_commonTable.B12 = true := by kernel_rfl
abbrev impl_commonTable.m0 : Array Bool := #[F,F,F,F,F,F,F,F,F]
abbrev impl_commonTable.m1 : Array Bool := #[T,F,F,F,F,F,F,F,F]
abbrev impl_commonTable.m2 : Array Bool := #[T,T,F,F,F,F,F,F,F]
abbrev impl_commonTable.m3 : Array Bool := #[T,T,T,F,F,F,F,F,F]
abbrev impl_commonTable.m4 : Array Bool := #[T,T,T,F,T,F,F,F,F]
abbrev impl_commonTable.m5 : Array Bool := #[T,T,T,F,T,T,F,F,F]
abbrev impl_commonTable.m6 : Array Bool := #[T,T,T,F,T,T,T,F,F]
abbrev impl_commonTable.m7 : Array Bool := #[T,T,T,T,T,T,T,F,F]
abbrev impl_commonTable.m8 : Array Bool := #[T,T,T,T,T,T,T,T,F]
abbrev impl_commonTable.m9 : Array Bool := #[T,T,T,T,T,T,T,T,T]
abbrev impl_commonTable.m10 : Array Bool := #[F,F,F,F,F,F,F,F,F,F,F,F,F,F,F,F,F]
abbrev impl_commonTable.m11 : Array Bool := #[T,F,F,F,F,F,F,F,F,F,F,F,F,F,F,F,F]
abbrev impl_commonTable.m12 : Array Bool := #[T,T,F,F,F,F,F,F,F,F,F,F,F,F,F,F,F]
abbrev impl_commonTable.m13 : Array Bool := #[T,T,T,F,F,F,F,F,F,F,F,F,F,F,F,F,F]
abbrev impl_commonTable.m14 : Array Bool := #[T,T,T,F,T,F,F,F,F,F,F,F,F,F,F,F,F]
abbrev impl_commonTable.m15 : Array Bool := #[T,T,T,F,T,T,F,F,F,F,F,F,F,F,F,F,F]
abbrev impl_commonTable.m16 : Array Bool := #[T,T,T,F,T,T,T,F,F,F,F,F,F,F,F,F,F]
abbrev impl_commonTable.m17 : Array Bool := #[T,T,T,F,T,T,T,T,F,F,F,F,F,F,F,F,F]
abbrev impl_commonTable.m18 : Array Bool := #[T,T,T,F,T,T,T,T,T,F,F,F,F,F,F,F,F]
abbrev impl_commonTable.m19 : Array Bool := #[T,T,T,F,T,T,T,T,T,F,T,F,F,F,F,F,F]
abbrev impl_commonTable.m20 : Array Bool := #[T,T,T,F,T,T,T,T,T,F,T,T,F,F,F,F,F]
abbrev impl_commonTable.m21 : Array Bool := #[T,T,T,T,T,T,T,T,T,F,T,T,F,F,F,F,F]
abbrev impl_commonTable.m22 : Array Bool := #[T,T,T,T,T,T,T,T,T,T,T,T,F,F,F,F,F]
abbrev impl_commonTable.m23 : Array Bool := #[T,T,T,T,T,T,T,T,T,T,T,T,T,F,F,F,F]
abbrev impl_commonTable.m24 : Array Bool := #[T,T,T,T,T,T,T,T,T,T,T,T,T,T,F,F,F]
abbrev impl_commonTable.m25 : Array Bool := #[T,T,T,T,T,T,T,T,T,T,T,T,T,T,T,F,F]
abbrev impl_commonTable.m26 : Array Bool := #[T,T,T,T,T,T,T,T,T,T,T,T,T,T,T,T,F]
abbrev impl_commonTable.m27 : Array Bool := #[T,T,T,T,T,T,T,T,T,T,T,T,T,T,T,T,T]
abbrev impl_commonTable.m28 : Array Bool := #[F,F,F,F,F,F,F,F,F,F,F,F,F,F,F,F,F,F,F,F,F,F,F,F]
abbrev impl_commonTable.m29 : Array Bool := #[T,F,F,F,F,F,F,F,F,F,F,F,F,F,F,F,F,F,F,F,F,F,F,F]
abbrev impl_commonTable.m30 : Array Bool := #[T,T,F,F,F,F,F,F,F,F,F,F,F,F,F,F,F,F,F,F,F,F,F,F]
abbrev impl_commonTable.m31 : Array Bool := #[T,T,T,F,F,F,F,F,F,F,F,F,F,F,F,F,F,F,F,F,F,F,F,F]
abbrev impl_commonTable.m32 : Array Bool := #[T,T,T,F,T,F,F,F,F,F,F,F,F,F,F,F,F,F,F,F,F,F,F,F]
abbrev impl_commonTable.m33 : Array Bool := #[T,T,T,F,T,T,F,F,F,F,F,F,F,F,F,F,F,F,F,F,F,F,F,F]
abbrev impl_commonTable.m34 : Array Bool := #[T,T,T,F,T,T,T,F,F,F,F,F,F,F,F,F,F,F,F,F,F,F,F,F]
abbrev impl_commonTable.m35 : Array Bool := #[T,T,T,F,T,T,T,T,F,F,F,F,F,F,F,F,F,F,F,F,F,F,F,F]
abbrev impl_commonTable.m36 : Array Bool := #[T,T,T,F,T,T,T,T,T,F,F,F,F,F,F,F,F,F,F,F,F,F,F,F]
abbrev impl_commonTable.m37 : Array Bool := #[T,T,T,F,T,T,T,T,T,F,T,F,F,F,F,F,F,F,F,F,F,F,F,F]
abbrev impl_commonTable.m38 : Array Bool := #[T,T,T,F,T,T,T,T,T,F,T,F,F,T,F,F,F,F,F,F,F,F,F,F]
abbrev impl_commonTable.m39 : Array Bool := #[T,T,T,F,T,T,T,T,T,F,T,F,F,T,T,F,F,F,F,F,F,F,F,F]
abbrev impl_commonTable.m40 : Array Bool := #[T,T,T,F,T,T,T,T,T,F,T,F,F,T,T,T,F,F,F,F,F,F,F,F]
abbrev impl_commonTable.m41 : Array Bool := #[T,T,T,F,T,T,T,T,T,F,T,F,F,T,T,T,F,T,F,F,F,F,F,F]
abbrev impl_commonTable.m42 : Array Bool := #[T,T,T,F,T,T,T,T,T,F,T,F,F,T,T,T,F,T,T,F,F,F,F,F]
abbrev impl_commonTable.m43 : Array Bool := #[T,T,T,T,T,T,T,T,T,F,T,F,F,T,T,T,F,T,T,F,F,F,F,F]
abbrev impl_commonTable.m44 : Array Bool := #[T,T,T,T,T,T,T,T,T,T,T,F,F,T,T,T,F,T,T,F,F,F,F,F]
abbrev impl_commonTable.m45 : Array Bool := #[T,T,T,T,T,T,T,T,T,T,T,T,F,T,T,T,F,T,T,F,F,F,F,F]
abbrev impl_commonTable.m46 : Array Bool := #[T,T,T,T,T,T,T,T,T,T,T,T,T,T,T,T,F,T,T,F,F,F,F,F]
abbrev impl_commonTable.m47 : Array Bool := #[T,T,T,T,T,T,T,T,T,T,T,T,T,T,T,T,T,T,T,F,F,F,F,F]
abbrev impl_commonTable.m48 : Array Bool := #[T,T,T,T,T,T,T,T,T,T,T,T,T,T,T,T,T,T,T,T,F,F,F,F]
abbrev impl_commonTable.m49 : Array Bool := #[T,T,T,T,T,T,T,T,T,T,T,T,T,T,T,T,T,T,T,T,T,F,F,F]
abbrev impl_commonTable.m50 : Array Bool := #[T,T,T,T,T,T,T,T,T,T,T,T,T,T,T,T,T,T,T,T,T,T,F,F]
abbrev impl_commonTable.m51 : Array Bool := #[T,T,T,T,T,T,T,T,T,T,T,T,T,T,T,T,T,T,T,T,T,T,T,F]
abbrev impl_commonTable.m52 : Array Bool := #[T,T,T,T,T,T,T,T,T,T,T,T,T,T,T,T,T,T,T,T,T,T,T,T]
set_option maxHeartbeats 8000000 in
set_option maxRecDepth 100000 in
theorem impl_commonTable.calls (k : Nat) (A0 : Option Addr) (c0 : Nat) (l0 : List Int) (A1 : Option Addr) (c1 : Nat) (l1 : List Int) (r : List (List Int)) (w : World) (hr0 : Kd.C (Kd.int .i64) w A0 l0.length l0) (hc0 : l0.length ≤ c0) (hr1 : Kd.C (Kd.int .i64) w A1 l1.length l1) (hc1 : l1.length ≤ c1) (h : impl_commonTable.f k l0 l1 = some r) :
  Calls Try.prog 63 #[.slice A0 l0.length c0, .slice A1 l1.length c1] w fun e w' => ∃ v0_ : Value, e = .returned (v0_) ∧ Kd.S (Kd.slice 3 (Kd.int .i64)) 45 w' w.heap.size (fun _ => True) v0_ r ∧ Below w.heap.size w w' := by
 have HR0:=mk0 hr0
 have HC0:=mk0 hc0
 clear hr0 hc0
 have HR1:=mk0 hr1
 have HC1:=mk0 hc1
 clear hr1 hc1
 have HB:=mk0 (Below.refl w.heap.size w)
 have H:(if 0 ≤ (wrap64 ((l0.length:Int) + 1)) then (if (wrap64 ((l0.length:Int) + 1):Int).toNat ≤ 11728124029610 then ((some (List.replicate (wrap64 ((l0.length:Int) + 1):Int).toNat []:List (List Int))).bind fun y384=>(if 0 ≤ (wrap64 ((l1.length:Int) + 1)) then (if (wrap64 ((l1.length:Int) + 1):Int).toNat ≤ 35184372088832 then (if 0 ≤ (l0.length:Int) then (if (l0.length:Int) < (y384.length:Int) then (impl_commonTable.l0 k l0 l1 (wrap64 ((l0.length:Int) - 1)) (y384.set ((l0.length:Int):Int).toNat (List.replicate (wrap64 ((l1.length:Int) + 1):Int).toNat 0))) else (none)) else (none)) else (none)) else (none))) else (none)) else (none)) = some r:=h
 clear h
 obtain⟨ji3,hji3⟩:∃ j_:Int,(wrap64 ((l0.length:Int) + 1)) = j_:=⟨_,rfl⟩
 replace H:(if 0 ≤ (ji3) then (if (ji3:Int).toNat ≤ 11728124029610 then ((some (List.replicate (ji3:Int).toNat []:List (List Int))).bind fun y384=>(if 0 ≤ (wrap64 ((l1.length:Int) + 1)) then (if (wrap64 ((l1.length:Int) + 1):Int).toNat ≤ 35184372088832 then (if 0 ≤ (l0.length:Int) then (if (l0.length:Int) < (y384.length:Int) then (impl_commonTable.l0 k l0 l1 (wrap64 ((l0.length:Int) - 1)) (y384.set ((l0.length:Int):Int).toNat (List.replicate (wrap64 ((l1.length:Int) + 1):Int).toNat 0))) else (none)) else (none)) else (none)) else (none))) else (none)) else (none)) = some r:=by first|(rw [hji3] at H;exact H)|(simp only [hji3] at H ⊢;exact H)
 have hji3w:(IntKind.i64.wrap ((l0.length:Int) + 1)) = ji3:=(i64_w _).trans hji3
 by_cases c4:0 ≤ (ji3)
 rotate_left
 ·rw [if_neg c4] at H
  exact absurd H (by simp)
 rw [if_pos c4] at H
 have c4b0:=eq_true c4
 have c4b1:decide (0 ≤ (ji3)) = true:=decide_eq_true c4
 clear c4
 by_cases c5:(ji3:Int).toNat ≤ 11728124029610
 rotate_left
 ·rw [if_neg c5] at H
  exact absurd H (by simp)
 rw [if_pos c5] at H
 have c5b0:=eq_true c5
 have c5b1:decide ((ji3:Int).toNat ≤ 11728124029610) = true:=decide_eq_true c5
 clear c5
 obtain⟨y384,hy384⟩:∃ y_:List (List Int),y_ = (List.replicate (ji3:Int).toNat []):=⟨_,rfl⟩
 replace H:(if 0 ≤ (wrap64 ((l1.length:Int) + 1)) then (if (wrap64 ((l1.length:Int) + 1):Int).toNat ≤ 35184372088832 then (if 0 ≤ (l0.length:Int) then (if (l0.length:Int) < (y384.length:Int) then (impl_commonTable.l0 k l0 l1 (wrap64 ((l0.length:Int) - 1)) (y384.set ((l0.length:Int):Int).toNat (List.replicate (wrap64 ((l1.length:Int) + 1):Int).toNat 0))) else (none)) else (none)) else (none)) else (none)) = some r:=by first|(rw [hy384];with_reducible exact H)|(have H2_:=(Option.bind_some _ _).symm.trans H;rw [hy384];with_reducible exact H2_)|(have H2_:=(Option.bind_some _ _).symm.trans H;with_reducible exact H2_)|with_reducible exact H|(rw [hy384];exact H)|exact H
 have Ny384:=mk0 hy384
 clear hy384
 obtain⟨ji6,hji6⟩:∃ j_:Int,(wrap64 ((l1.length:Int) + 1)) = j_:=⟨_,rfl⟩
 replace H:(if 0 ≤ (ji6) then (if (ji6:Int).toNat ≤ 35184372088832 then (if 0 ≤ (l0.length:Int) then (if (l0.length:Int) < (y384.length:Int) then (impl_commonTable.l0 k l0 l1 (wrap64 ((l0.length:Int) - 1)) (y384.set ((l0.length:Int):Int).toNat (List.replicate (ji6:Int).toNat 0))) else (none)) else (none)) else (none)) else (none)) = some r:=by first|(rw [hji6] at H;exact H)|(simp only [hji6] at H ⊢;exact H)
 have hji6w:(IntKind.i64.wrap ((l1.length:Int) + 1)) = ji6:=(i64_w _).trans hji6
 by_cases c7:0 ≤ (ji6)
 rotate_left
 ·rw [if_neg c7] at H
  exact absurd H (by simp)
 rw [if_pos c7] at H
 have c7b0:=eq_true c7
 have c7b1:decide (0 ≤ (ji6)) = true:=decide_eq_true c7
 clear c7
 by_cases c8:(ji6:Int).toNat ≤ 35184372088832
 rotate_left
 ·rw [if_neg c8] at H
  exact absurd H (by simp)
 rw [if_pos c8] at H
 have c8b0:=eq_true c8
 have c8b1:decide ((ji6:Int).toNat ≤ 35184372088832) = true:=decide_eq_true c8
 clear c8
 obtain⟨y387,hy387⟩:∃ y_:List Int,y_ = (List.replicate (ji6:Int).toNat 0):=⟨_,rfl⟩
 replace H:(if 0 ≤ (l0.length:Int) then (if (l0.length:Int) < (y384.length:Int) then (impl_commonTable.l0 k l0 l1 (wrap64 ((l0.length:Int) - 1)) (y384.set ((l0.length:Int):Int).toNat y387)) else (none)) else (none)) = some r:=by first|(rw [hy387];with_reducible exact H)|(have H2_:=(Option.bind_some _ _).symm.trans H;rw [hy387];with_reducible exact H2_)|(have H2_:=(Option.bind_some _ _).symm.trans H;with_reducible exact H2_)|with_reducible exact H|(rw [hy387];exact H)|exact H
 have Ny387:=mk0 hy387
 clear hy387
 by_cases c9:0 ≤ (l0.length:Int)
 rotate_left
 ·rw [if_neg c9] at H
  exact absurd H (by simp)
 rw [if_pos c9] at H
 have c9b0:decide (0 ≤ (l0.length:Int)) = true:=decide_eq_true c9
 (try simp only [hl11_1] at c9b0)
 (try simp only [hl11_2] at c9b0)
 (try simp only [hl397_0] at c9b0)
 (try simp only [hl398_0] at c9b0)
 (try simp only [hl403_0] at c9b0)
 (try simp only [hl404_0] at c9b0)
 (try simp only [hl406_0] at c9b0)
 have c9b1:decide (0 ≤ l0.length) = true:=decide_eq_true (by omega)
 (try simp only [hl11_1] at c9b1)
 (try simp only [hl11_2] at c9b1)
 (try simp only [hl397_0] at c9b1)
 (try simp only [hl398_0] at c9b1)
 (try simp only [hl403_0] at c9b1)
 (try simp only [hl404_0] at c9b1)
 (try simp only [hl406_0] at c9b1)
 clear c9
 by_cases c10:(l0.length:Int) < (y384.length:Int)
 rotate_left
 ·rw [if_neg c10] at H
  exact absurd H (by simp)
 rw [if_pos c10] at H
 have c10b0:decide ((l0.length:Int) < (y384.length:Int)) = true:=decide_eq_true c10
 (try simp only [hl11_1] at c10b0)
 (try simp only [hl11_2] at c10b0)
 (try simp only [hl397_0] at c10b0)
 (try simp only [hl398_0] at c10b0)
 (try simp only [hl403_0] at c10b0)
 (try simp only [hl404_0] at c10b0)
 (try simp only [hl406_0] at c10b0)
 have c10b1:decide (l0.length < y384.length) = true:=decide_eq_true (Int.ofNat_lt.mp c10)
 (try simp only [hl11_1] at c10b1)
 (try simp only [hl11_2] at c10b1)
 (try simp only [hl397_0] at c10b1)
 (try simp only [hl398_0] at c10b1)
 (try simp only [hl403_0] at c10b1)
 (try simp only [hl404_0] at c10b1)
 (try simp only [hl406_0] at c10b1)
 clear c10
 obtain⟨y390,hy390⟩:∃ y_:List (List Int),y_ = (y384.set ((l0.length:Int):Int).toNat y387):=⟨_,rfl⟩
 replace H:(impl_commonTable.l0 k l0 l1 (wrap64 ((l0.length:Int) - 1)) y390) = some r:=by first|(rw [hy390];with_reducible exact H)|(have H2_:=(Option.bind_some _ _).symm.trans H;rw [hy390];with_reducible exact H2_)|(have H2_:=(Option.bind_some _ _).symm.trans H;with_reducible exact H2_)|with_reducible exact H|(rw [hy390];exact H)|exact H
 have Ny390:=mk0 hy390
 clear hy390
 have H':=mk0 H
 clear H
 go_enter Try.func63,Try.ntmps63
 go_wp2_with (first|((with_reducible refine gate_dst (N:=11) rfl ?_);refine Kd.S_make (Kd.slice 3 (Kd.int .i64)) _ 45 rfl (N:=11) rfl 73 _ _ rfl ji3 rfl rfl Try.underlying73 (.slice none 0 0) 24 info45 rfl (by decide) (by omega) [] (ok:=fun _=>True) (okp:=fun _=>True) ⟨_,rfl,Kd.R_nil _ _ _ _ _⟩ (fun _ hk=>hk) trivial (of_decide_eq_true (by first|(with_reducible assumption)|assumption)) (Nat.le_trans (Nat.mul_le_mul_right _ (of_decide_eq_true (by first|(with_reducible assumption)|assumption):ji3.toNat ≤ 11728124029610)) (by omega)) (Below.refl _ _) (Nat.le_refl _) ?_;intro v385 w12 ho13 hb hg_ hnew_;clear hg_ hnew_;(first|rw [← Ny384.out] at ho13|(simp only [Int.reduceToNat] at ho13;rw [← Ny384.out] at ho13));have HO386:=mk0 (Kd.S_lower ho13 (kZ HB.out));replace HB:=mk0 (kS HB.out hb);clear hb ho13)|((with_reducible refine gate_dst (N:=18) rfl ?_);refine Kd.R_make (Kd.int .i64) _ 3 rfl (N:=18) rfl 45 _ _ rfl ji6 rfl rfl Try.underlying45 (.int .i64 0) 8 info3 rfl (by decide) (by omega) 0 (ok:=fun _=>True) (okp:=fun _=>True) rfl (fun _ hk=>hk) trivial (of_decide_eq_true (by first|(with_reducible assumption)|assumption)) (Nat.le_trans (Nat.mul_le_mul_right _ (of_decide_eq_true (by first|(with_reducible assumption)|assumption):ji6.toNat ≤ 35184372088832)) (by omega)) (Below.refl _ _) (Nat.le_refl _) ?_;intro v388 w14 ho15 hb hg_ hnew_;clear hg_ hnew_;(first|rw [← Ny387.out] at ho15|(simp only [Int.reduceToNat] at ho15;rw [← Ny387.out] at ho15));replace HO386:=mk0 (Kd.S_elder' (rS HO386.out) (Kd.R_base ho15) hb);have HO389:=mk0 (Kd.R_lower ho15 (kZ HB.out));replace HB:=mk0 (kS HB.out hb);clear hb ho15;have p11:0 ≤ ((l0.length:Int):Int):=of_decide_eq_true (by first|(with_reducible assumption)|assumption);have q11:((l0.length:Int):Int) < ((y384.length:Int):Int):=of_decide_eq_true (by first|(with_reducible assumption)|assumption);obtain⟨go11,co11,eo11,gb11,gl11,cl11,HG11⟩:=Kd.S_form HO386.out (by omega);(first|cases eo11|(injection eo11 with ea_ en_ ec_;(first|subst ea_|(injection ea_ with ea_;subst ea_));subst ec_;clear en_));have GB11:=mk0 gb11;have GG11:=mk0 HG11;clear gb11 gl11 HG11;obtain⟨_,ce11,hcl11,hM11,hcc11,hfr11,_,_⟩:=Kd.S_elem HO386.out [] ((l0.length:Int):Int) p11 q11;obtain⟨ve11_0,rfl,ge11_0⟩:=hM11;have hx11_0:=hcc11 0 _ rfl;have hf11_0:=hfr11 0;(try simp only [show ((Kd.slice 3 (Kd.int .i64))).sz = 1 from rfl,Nat.mul_one,Nat.add_zero] at hx11_0);(try simp only [show ((Kd.slice 3 (Kd.int .i64))).sz = 1 from rfl,Nat.mul_one,Nat.add_zero] at hf11_0);clear hcl11 hcc11 hfr11;(try clear hM11);replace p11:=eq_true p11;replace q11:=eq_true q11;have n_:=mk0 (Kd.S_mono (ok':=(fun k_=>some k_ ≠ (v388:Value).ownBlock)) HO386.out (fun k_ hk=>hk.2));clear HO386;have HO386:=n_;clear n_;have HX16:=mk0 (show Kd.S (Kd.slice 3 (Kd.int .i64)) 45 w14 w.heap.size (fun k_=>((fun _=>True)) k_ ∧ ¬ ((fun k_=>some k_ = (v388:Value).ownBlock)) k_) (.slice (some ⟨go11,0,none⟩) y384.length co11) y384 from (by (with_reducible repeat (first|apply aS|apply nS|apply dS));exact Kd.S_mono HO386.out (fun k_ hk=>⟨trivial,fun e_=>hk e_⟩)));obtain⟨oki16,ce16,hcl16,hM16,hcc16,hfr16,hoki16,hH16⟩:=Kd.S_elem HX16.out [] ((l0.length:Int):Int) (of_decide_eq_true (by first|(with_reducible assumption)|assumption)) (by have h_:((l0.length:Int):Int) < ((y384.length:Int):Int):=of_decide_eq_true (by first|(with_reducible assumption)|assumption);first|exact h_|(have e_:=(Kd.S_reads' HO386.out).1;omega)|simpa using h_);obtain⟨ve16_0,rfl,ge16_0⟩:=hM16;have HP16:=Kd.S_seg hH16 (of_decide_eq_true (by first|(with_reducible assumption)|assumption)) (by have h_:((l0.length:Int):Int) < ((y384.length:Int):Int):=of_decide_eq_true (by first|(with_reducible assumption)|assumption);first|exact h_|(have e_:=(Kd.S_reads' HO386.out).1;omega)|simpa using h_) (seg:=[v388]) (j:=0) (show 1 ≤ 1 from by decide) (x':=y387) (Kd.M_row (Kd.R_mono (Kd.R_tight rfl (Kd.R_mono (ok':=fun k_=>((fun _=>True)) k_ ∧ k_ ≠ go11) (Kd.R_apart' (HO389.out) (Kd.S_typed HO386.out) (by decide)) (fun k_ hk=>⟨trivial,fun e_=>(hk.2) (by rw [e_];rfl)⟩))) (fun _ h_=>Or.inr (h_)))) (fun _ hk=>hk) (fun k_ hk_=>((Kd.R_mono (ok':=fun k_=>((fun _=>True)) k_ ∧ k_ ≠ go11) (Kd.R_apart' (HO389.out) (Kd.S_typed HO386.out) (by decide)) (fun k_ hk=>⟨trivial,fun e_=>(hk.2) (by rw [e_];rfl)⟩))).1 k_ hk_.symm);have hx16_0:=hcc16 0 _ rfl;(try simp only [show ((Kd.slice 3 (Kd.int .i64))).sz = 1 from rfl,Nat.mul_one,Nat.add_zero] at hx16_0);have hf16_0:=hfr16 0;(try simp only [show ((Kd.slice 3 (Kd.int .i64))).sz = 1 from rfl,Nat.mul_one,Nat.add_zero] at hf16_0);clear hcl16 hcc16 hfr16 hoki16 hH16;(try clear hM16);(try simp only [show ((Kd.slice 3 (Kd.int .i64))).sz = 1 from rfl,Nat.mul_one,Nat.add_zero] at HP16))|((with_reducible refine gate_store (t:=45) (p:=19) rfl ?_);refine store_event (t:=45) (p:=19) (v:=?vo_w17) (w1:=(w14.setCell ⟨go11,((l0.length:Int):Int).toNat,none⟩ (v388))) ?hg ?ho ?hn ?hr ?_;(case ho=>rfl);(case hg=>rfl);(case hn=>rfl);(case hr=>first|(go_simp;done)|(go_simp;rfl)|(obtain⟨A0_,c0_,e0_⟩:∃ A c,v388 = Value.slice A (y387).length c:=(by first|exact Kd.R_slice HO389.out|exact Kd.S_slice HO389.out|exact Kd.N_slice HO389.out|exact Kd.V_slice HO389.out);rw [e0_];(first|(go_simp;done)|(go_simp;rfl)|(simp only [Int.toNat_natCast] at *;go_simp;done)|(simp only [Int.toNat_natCast] at *;go_simp;rfl))));intro w17 hw;have hg:w14.grownBy w17 (some go11):=(by rw [hw];exact HP16.2);have hp_:Kd.S (Kd.slice 3 (Kd.int .i64)) 45 w17 w.heap.size (fun _=>True) (.slice (some ⟨go11,0,none⟩) y384.length co11) y390:=(by rw [hw,Ny390.out];exact HP16.1);clear HP16;replace HO386:=mk0 (hp_);replace HB:=mk0 ((by rw [hw];exact sZ (HB.out) GB11.out:Below w.heap.size w w17));clear HO389 hg hw hp_))
 go_loopg [6] k (fun kq v6 w'=>∃ (x6_1:Int) (x11_1:List (List Int)),v6 = .int .i64 x6_1 ∧ Aside0 (impl_commonTable.l0 kq l0 l1 x6_1 x11_1 = some r) ∧ Aside0 (kq ≤ k) ∧ Aside0 (Kd.S (Kd.slice 3 (Kd.int .i64)) 45 w' w.heap.size (fun _=>True) (.slice (some ⟨go11,0,none⟩) y384.length co11) x11_1) ∧ Aside0 (Below w.heap.size w w'))
 case atStart=>exact⟨(wrap64 ((l0.length:Int) - 1)),(y390),(by first|rfl|(simp;done)|(simp [*];done)),H',⟨Nat.le_refl _⟩,⟨rS HO386.out⟩,⟨kB HB.out⟩⟩
 case round =>
  clear H'
  try clear c1
  try clear p1
  try clear q1
  try clear hx1
  try clear p2
  try clear c4
  try clear c4b0
  try clear c4b1
  try clear c5
  try clear c5b0
  try clear c5b1
  try clear c6
  try clear p6
  try clear c7
  try clear c7b0
  try clear c7b1
  try clear c8
  try clear c8b0
  try clear c8b1
  try clear c9
  try clear c9b0
  try clear c9b1
  try clear c10
  try clear c10b0
  try clear c10b1
  try clear c11
  try clear p11
  try clear q11
  try clear hx11
  try clear hf11
  try clear c16
  try clear hx16
  try clear hf16
  try clear hx11_0
  try clear hx16_0
  try clear p11
  try clear q11
  obtain⟨x6_1,x11_1,rfl,HA,HK1,HO_11,HB⟩:=hrel
  have hl11_1:=(Kd.S_reads' HO_11.out).1
  rw [hl11_1] at HO_11
  (try simp only [hl11_1])
  cases gk with
  | zero=>exact absurd HA.out (by simp [impl_commonTable.l0])
  | succ k1 =>
   have H:=HA.out
   clear HA
   simp only [impl_commonTable.l0] at H
   by_cases c18:x6_1 ≥ 0
   rotate_left
   ·rw [if_neg c18] at H
    have c18b0:decide (0 ≤ x6_1) = false:=decide_eq_false c18
    clear c18
    obtain rfl:=Option.some.inj H
    go_wp2
    go_ret
    exact⟨_,by first|rfl|(simp [errW_none,errW_some] <;> rfl)|(simp only [← hji3, ← hji6];first|rfl|(simp [errW_none,errW_some] <;> rfl))|(simp [*,errW_none,errW_some] <;> rfl),rS HO_11.out,kB HB.out⟩
   rw [if_pos c18] at H
   have c18b0:decide (0 ≤ x6_1) = true:=decide_eq_true c18
   clear c18
   try clear hji6w
   try clear hji6
   obtain⟨ji19,hji19⟩:∃ j_:Int,(wrap64 ((l1.length:Int) + 1)) = j_:=⟨_,rfl⟩
   replace H:(if 0 ≤ (ji19) then (if (ji19:Int).toNat ≤ 35184372088832 then (if 0 ≤ x6_1 then (if x6_1 < (x11_1.length:Int) then (impl_commonTable.l1 k1 l0 l1 x6_1 (wrap64 ((l1.length:Int) - 1)) (x11_1.set (x6_1:Int).toNat (List.replicate (ji19:Int).toNat 0))) else (none)) else (none)) else (none)) else (none)) = some r:=by first|(rw [hji19] at H;exact H)|(simp only [hji19] at H ⊢;exact H)
   have hji19w:(IntKind.i64.wrap ((l1.length:Int) + 1)) = ji19:=(i64_w _).trans hji19
   by_cases c20:0 ≤ (ji19)
   rotate_left
   ·rw [if_neg c20] at H
    exact absurd H (by simp)
   rw [if_pos c20] at H
   have c20b0:=eq_true c20
   have c20b1:decide (0 ≤ (ji19)) = true:=decide_eq_true c20
   clear c20
   by_cases c21:(ji19:Int).toNat ≤ 35184372088832
   rotate_left
   ·rw [if_neg c21] at H
    exact absurd H (by simp)
   rw [if_pos c21] at H
   have c21b0:=eq_true c21
   have c21b1:decide ((ji19:Int).toNat ≤ 35184372088832) = true:=decide_eq_true c21
   clear c21
   obtain⟨y391,hy391⟩:∃ y_:List Int,y_ = (List.replicate (ji19:Int).toNat 0):=⟨_,rfl⟩
   replace H:(if 0 ≤ x6_1 then (if x6_1 < (x11_1.length:Int) then (impl_commonTable.l1 k1 l0 l1 x6_1 (wrap64 ((l1.length:Int) - 1)) (x11_1.set (x6_1:Int).toNat y391)) else (none)) else (none)) = some r:=by first|(rw [hy391];with_reducible exact H)|(have H2_:=(Option.bind_some _ _).symm.trans H;rw [hy391];with_reducible exact H2_)|(have H2_:=(Option.bind_some _ _).symm.trans H;with_reducible exact H2_)|with_reducible exact H|(rw [hy391];exact H)|exact H
   have Ny391:=mk0 hy391
   clear hy391
   by_cases c22:0 ≤ x6_1
   rotate_left
   ·rw [if_neg c22] at H
    exact absurd H (by simp)
   rw [if_pos c22] at H
   have c22b0:decide (0 ≤ x6_1) = true:=decide_eq_true c22
   clear c22
   by_cases c23:x6_1 < (x11_1.length:Int)
   rotate_left
   ·rw [if_neg c23] at H
    exact absurd H (by simp)
   rw [if_pos c23] at H
   have c23b0:decide (x6_1 < (x11_1.length:Int)) = true:=decide_eq_true c23
   (try simp only [hl11_1] at c23b0)
   (try simp only [hl11_2] at c23b0)
   (try simp only [hl397_0] at c23b0)
   (try simp only [hl398_0] at c23b0)
   (try simp only [hl403_0] at c23b0)
   (try simp only [hl404_0] at c23b0)
   (try simp only [hl406_0] at c23b0)
   clear c23
   obtain⟨y394,hy394⟩:∃ y_:List (List Int),y_ = (x11_1.set (x6_1:Int).toNat y391):=⟨_,rfl⟩
   replace H:(impl_commonTable.l1 k1 l0 l1 x6_1 (wrap64 ((l1.length:Int) - 1)) y394) = some r:=by first|(rw [hy394];with_reducible exact H)|(have H2_:=(Option.bind_some _ _).symm.trans H;rw [hy394];with_reducible exact H2_)|(have H2_:=(Option.bind_some _ _).symm.trans H;with_reducible exact H2_)|with_reducible exact H|(rw [hy394];exact H)|exact H
   have Ny394:=mk0 hy394
   clear hy394
   have H':=mk0 H
   clear H
   go_wp2_with (first|((with_reducible refine gate_dst (N:=32) rfl ?_);refine Kd.R_make (Kd.int .i64) _ 3 rfl (N:=32) rfl 45 _ _ rfl ji19 rfl rfl Try.underlying45 (.int .i64 0) 8 info3 rfl (by decide) (by omega) 0 (ok:=fun _=>True) (okp:=fun _=>True) rfl (fun _ hk=>hk) trivial (of_decide_eq_true (by first|(with_reducible assumption)|assumption)) (Nat.le_trans (Nat.mul_le_mul_right _ (of_decide_eq_true (by first|(with_reducible assumption)|assumption):ji19.toNat ≤ 35184372088832)) (by omega)) (Below.refl _ _) (Nat.le_refl _) ?_;intro v392 w25 ho26 hb hg_ hnew_;clear hg_ hnew_;(first|rw [← Ny391.out] at ho26|(simp only [Int.reduceToNat] at ho26;rw [← Ny391.out] at ho26));replace HO_11:=mk0 (Kd.S_elder' (rS HO_11.out) (Kd.R_base ho26) hb);have HO393:=mk0 (Kd.R_lower ho26 (kZ HB.out));replace HB:=mk0 (kS HB.out hb);clear hb ho26;have p24:0 ≤ (x6_1:Int):=of_decide_eq_true (by first|(with_reducible assumption)|assumption);have q24:(x6_1:Int) < ((x11_1.length:Int):Int):=of_decide_eq_true (by first|(with_reducible assumption)|assumption);obtain⟨_,ce24,hcl24,hM24,hcc24,hfr24,_,_⟩:=Kd.S_elem HO_11.out [] (x6_1:Int) p24 q24;obtain⟨ve24_0,rfl,ge24_0⟩:=hM24;have hx24_0:=hcc24 0 _ rfl;have hf24_0:=hfr24 0;(try simp only [show ((Kd.slice 3 (Kd.int .i64))).sz = 1 from rfl,Nat.mul_one,Nat.add_zero] at hx24_0);(try simp only [show ((Kd.slice 3 (Kd.int .i64))).sz = 1 from rfl,Nat.mul_one,Nat.add_zero] at hf24_0);clear hcl24 hcc24 hfr24;(try clear hM24);replace p24:=eq_true p24;replace q24:=eq_true q24;have n_:=mk0 (Kd.S_mono (ok':=(fun k_=>some k_ ≠ (v392:Value).ownBlock)) HO_11.out (fun k_ hk=>hk.2));clear HO_11;have HO_11:=n_;clear n_;have HX27:=mk0 (show Kd.S (Kd.slice 3 (Kd.int .i64)) 45 w25 w.heap.size (fun k_=>((fun _=>True)) k_ ∧ ¬ ((fun k_=>some k_ = (v392:Value).ownBlock)) k_) (.slice (some ⟨go11,0,none⟩) x11_1.length co11) x11_1 from (by (with_reducible repeat (first|apply aS|apply nS|apply dS));exact Kd.S_mono HO_11.out (fun k_ hk=>⟨trivial,fun e_=>hk e_⟩)));obtain⟨oki27,ce27,hcl27,hM27,hcc27,hfr27,hoki27,hH27⟩:=Kd.S_elem HX27.out [] (x6_1:Int) (of_decide_eq_true (by first|(with_reducible assumption)|assumption)) (by have h_:(x6_1:Int) < ((x11_1.length:Int):Int):=of_decide_eq_true (by first|(with_reducible assumption)|assumption);first|exact h_|(have e_:=(Kd.S_reads' HO_11.out).1;omega)|simpa using h_);obtain⟨ve27_0,rfl,ge27_0⟩:=hM27;have HP27:=Kd.S_seg hH27 (of_decide_eq_true (by first|(with_reducible assumption)|assumption)) (by have h_:(x6_1:Int) < ((x11_1.length:Int):Int):=of_decide_eq_true (by first|(with_reducible assumption)|assumption);first|exact h_|(have e_:=(Kd.S_reads' HO_11.out).1;omega)|simpa using h_) (seg:=[v392]) (j:=0) (show 1 ≤ 1 from by decide) (x':=y391) (Kd.M_row (Kd.R_mono (Kd.R_tight rfl (Kd.R_mono (ok':=fun k_=>((fun _=>True)) k_ ∧ k_ ≠ go11) (Kd.R_apart' (HO393.out) (Kd.S_typed HO_11.out) (by decide)) (fun k_ hk=>⟨trivial,fun e_=>(hk.2) (by rw [e_];rfl)⟩))) (fun _ h_=>Or.inr (h_)))) (fun _ hk=>hk) (fun k_ hk_=>((Kd.R_mono (ok':=fun k_=>((fun _=>True)) k_ ∧ k_ ≠ go11) (Kd.R_apart' (HO393.out) (Kd.S_typed HO_11.out) (by decide)) (fun k_ hk=>⟨trivial,fun e_=>(hk.2) (by rw [e_];rfl)⟩))).1 k_ hk_.symm);have hx27_0:=hcc27 0 _ rfl;(try simp only [show ((Kd.slice 3 (Kd.int .i64))).sz = 1 from rfl,Nat.mul_one,Nat.add_zero] at hx27_0);have hf27_0:=hfr27 0;(try simp only [show ((Kd.slice 3 (Kd.int .i64))).sz = 1 from rfl,Nat.mul_one,Nat.add_zero] at hf27_0);clear hcl27 hcc27 hfr27 hoki27 hH27;(try clear hM27);(try simp only [show ((Kd.slice 3 (Kd.int .i64))).sz = 1 from rfl,Nat.mul_one,Nat.add_zero] at HP27))|((with_reducible refine gate_store (t:=45) (p:=33) rfl ?_);refine store_event (t:=45) (p:=33) (v:=?vo_w28) (w1:=(w25.setCell ⟨go11,(x6_1:Int).toNat,none⟩ (v392))) ?hg ?ho ?hn ?hr ?_;(case ho=>rfl);(case hg=>rfl);(case hn=>rfl);(case hr=>first|(go_simp;done)|(go_simp;rfl)|(obtain⟨A0_,c0_,e0_⟩:∃ A c,v392 = Value.slice A (y391).length c:=(by first|exact Kd.R_slice HO393.out|exact Kd.S_slice HO393.out|exact Kd.N_slice HO393.out|exact Kd.V_slice HO393.out);rw [e0_];(first|(go_simp;done)|(go_simp;rfl)|(simp only [Int.toNat_natCast] at *;go_simp;done)|(simp only [Int.toNat_natCast] at *;go_simp;rfl))));intro w28 hw;have hg:w25.grownBy w28 (some go11):=(by rw [hw];exact HP27.2);have hp_:Kd.S (Kd.slice 3 (Kd.int .i64)) 45 w28 w.heap.size (fun _=>True) (.slice (some ⟨go11,0,none⟩) x11_1.length co11) y394:=(by rw [hw,Ny394.out];exact HP27.1);clear HP27;replace HO_11:=mk0 (hp_);replace HB:=mk0 ((by rw [hw];exact sZ (HB.out) GB11.out:Below w.heap.size w w28));clear HO393 hg hw hp_))
   go_loopg [7] k1 (fun kq v7 w'=>∃ (x7_2:Int) (x11_2:List (List Int)),v7 = .int .i64 x7_2 ∧ Aside0 (impl_commonTable.l1 kq l0 l1 x6_1 x7_2 x11_2 = some r) ∧ Aside0 (kq ≤ k1) ∧ Aside0 (Kd.S (Kd.slice 3 (Kd.int .i64)) 45 w' w.heap.size (fun _=>True) (.slice (some ⟨go11,0,none⟩) x11_1.length co11) x11_2) ∧ Aside0 (Below w.heap.size w w'))
   case atStart=>exact⟨(wrap64 ((l1.length:Int) - 1)),(y394),(by first|rfl|(simp;done)|(simp [*];done)),H',⟨Nat.le_refl _⟩,⟨by (try simp only [hl11_1]);(with_reducible repeat (first|apply aS|apply nS|apply dS));exact HO_11.out⟩,⟨kB HB.out⟩⟩
   case round =>
    clear H'
    try clear c1
    try clear p1
    try clear q1
    try clear hx1
    try clear c2
    try clear p2
    try clear q2
    try clear hx2
    try clear hf2
    try clear c4
    try clear c4b0
    try clear c4b1
    try clear c5
    try clear c5b0
    try clear c5b1
    try clear c6
    try clear p6
    try clear c7
    try clear c7b0
    try clear c7b1
    try clear c8
    try clear c8b0
    try clear c8b1
    try clear c9
    try clear c9b0
    try clear c9b1
    try clear c10
    try clear c10b0
    try clear c10b1
    try clear c11
    try clear p11
    try clear q11
    try clear hx11
    try clear hf11
    try clear c16
    try clear hx16
    try clear hf16
    try clear c18
    try clear c18b0
    try clear c20
    try clear c20b0
    try clear c20b1
    try clear c21
    try clear c21b0
    try clear c21b1
    try clear c22
    try clear c22b0
    try clear c23
    try clear c23b0
    try clear c24
    try clear p24
    try clear q24
    try clear hx24
    try clear hf24
    try clear c27
    try clear hx27
    try clear hf27
    try clear hx11_0
    try clear hx16_0
    try clear hx24_0
    try clear hx27_0
    try clear p1
    try clear p11
    try clear p2
    try clear p24
    try clear p6
    try clear q1
    try clear q11
    try clear q24
    obtain⟨x7_2,x11_2,rfl,HA,HK2,HO_11,HB⟩:=hrel
    have hl11_2:=(Kd.S_reads' HO_11.out).1
    rw [hl11_2] at HO_11
    (try simp only [hl11_2])
    cases gk with
    | zero=>exact absurd HA.out (by simp [impl_commonTable.l1])
    | succ k2 =>
     have H:=HA.out
     clear HA
     simp only [impl_commonTable.l1] at H
     by_cases c29:x7_2 ≥ 0
     rotate_left
     ·rw [if_neg c29] at H
      have c29b0:decide (0 ≤ x7_2) = false:=decide_eq_false c29
      clear c29
      have H':=mk0 H
      clear H
      go_wp2
      (try simp only [← hl11_1, ← hl11_2])
      go_roundg k2
      case measure=>have:=HK1.out;have:=HK2.out;omega
      case rel=>exact⟨(wrap64 (x6_1 - 1)),(x11_2),(by first|rfl|(simp;done)|(simp [*];done)),H',⟨by have:=HK1.out;have:=HK2.out;omega⟩,⟨by (try simp only [hl11_1]);(try simp only [hl11_2]);(with_reducible repeat (first|apply aS|apply nS|apply dS));exact HO_11.out⟩,⟨kB HB.out⟩⟩
     rw [if_pos c29] at H
     have c29b0:decide (0 ≤ x7_2) = true:=decide_eq_true c29
     clear c29
     by_cases c30:0 ≤ x6_1
     rotate_left
     ·rw [if_neg c30] at H
      exact absurd H (by simp)
     rw [if_pos c30] at H
     have c30b0:decide (0 ≤ x6_1) = true:=decide_eq_true c30
     clear c30
     by_cases c31:x6_1 < (l0.length:Int)
     rotate_left
     ·rw [if_neg c31] at H
      exact absurd H (by simp)
     rw [if_pos c31] at H
     have c31b0:decide (x6_1 < (l0.length:Int)) = true:=decide_eq_true c31
     (try simp only [hl11_1] at c31b0)
     (try simp only [hl11_2] at c31b0)
     (try simp only [hl397_0] at c31b0)
     (try simp only [hl398_0] at c31b0)
     (try simp only [hl403_0] at c31b0)
     (try simp only [hl404_0] at c31b0)
     (try simp only [hl406_0] at c31b0)
     clear c31
     by_cases c32:0 ≤ x7_2
     rotate_left
     ·rw [if_neg c32] at H
      exact absurd H (by simp)
     rw [if_pos c32] at H
     have c32b0:decide (0 ≤ x7_2) = true:=decide_eq_true c32
     clear c32
     by_cases c33:x7_2 < (l1.length:Int)
     rotate_left
     ·rw [if_neg c33] at H
      exact absurd H (by simp)
     rw [if_pos c33] at H
     have c33b0:decide (x7_2 < (l1.length:Int)) = true:=decide_eq_true c33
     (try simp only [hl11_1] at c33b0)
     (try simp only [hl11_2] at c33b0)
     (try simp only [hl397_0] at c33b0)
     (try simp only [hl398_0] at c33b0)
     (try simp only [hl403_0] at c33b0)
     (try simp only [hl404_0] at c33b0)
     (try simp only [hl406_0] at c33b0)
     clear c33
     by_cases c34:(rd l0 x6_1) = (rd l1 x7_2)
     ·rw [if_pos c34] at H
      have c34b0:((rd l0 x6_1) == (rd l1 x7_2)) = true:=beq_iff_eq.mpr c34
      have c34b1:((rd l0 x6_1) != (rd l1 x7_2)) = false:=bne_eq_false_iff_eq.mpr c34
      clear c34
      by_cases c35:x6_1 < (x11_2.length:Int)
      rotate_left
      ·rw [if_neg c35] at H
       exact absurd H (by simp)
      rw [if_pos c35] at H
      have c35b0:decide (x6_1 < (x11_2.length:Int)) = true:=decide_eq_true c35
      (try simp only [hl11_1] at c35b0)
      (try simp only [hl11_2] at c35b0)
      (try simp only [hl397_0] at c35b0)
      (try simp only [hl398_0] at c35b0)
      (try simp only [hl403_0] at c35b0)
      (try simp only [hl404_0] at c35b0)
      (try simp only [hl406_0] at c35b0)
      clear c35
      obtain⟨ji36,hji36⟩:∃ j_:Int,(wrap64 (x6_1 + 1)) = j_:=⟨_,rfl⟩
      replace H:(if 0 ≤ (ji36) then (if (ji36) < (x11_2.length:Int) then (if 0 ≤ (wrap64 (x7_2 + 1)) then (if (wrap64 (x7_2 + 1)) < ((rd_L4 x11_2 (ji36)).length:Int) then (if x7_2 < ((rd_L4 x11_2 x6_1).length:Int) then (impl_commonTable.l1 k2 l0 l1 x6_1 (wrap64 (x7_2 - 1)) (x11_2.set (x6_1:Int).toNat ((rd_L4 x11_2 x6_1).set (x7_2:Int).toNat (wrap64 ((rd (rd_L4 x11_2 (ji36)) (wrap64 (x7_2 + 1))) + 1))))) else (none)) else (none)) else (none)) else (none)) else (none)) = some r:=by first|(rw [hji36] at H;exact H)|(simp only [hji36] at H ⊢;exact H)
      have hji36w:(IntKind.i64.wrap (x6_1 + 1)) = ji36:=(i64_w _).trans hji36
      by_cases c37:0 ≤ (ji36)
      rotate_left
      ·rw [if_neg c37] at H
       exact absurd H (by simp)
      rw [if_pos c37] at H
      have c37b0:decide (0 ≤ (ji36)) = true:=decide_eq_true c37
      clear c37
      by_cases c38:(ji36) < (x11_2.length:Int)
      rotate_left
      ·rw [if_neg c38] at H
       exact absurd H (by simp)
      rw [if_pos c38] at H
      have c38b0:decide ((ji36) < (x11_2.length:Int)) = true:=decide_eq_true c38
      (try simp only [hl11_1] at c38b0)
      (try simp only [hl11_2] at c38b0)
      (try simp only [hl397_0] at c38b0)
      (try simp only [hl398_0] at c38b0)
      (try simp only [hl403_0] at c38b0)
      (try simp only [hl404_0] at c38b0)
      (try simp only [hl406_0] at c38b0)
      clear c38
      obtain⟨ji39,hji39⟩:∃ j_:Int,(wrap64 (x7_2 + 1)) = j_:=⟨_,rfl⟩
      replace H:(if 0 ≤ (ji39) then (if (ji39) < ((rd_L4 x11_2 (ji36)).length:Int) then (if x7_2 < ((rd_L4 x11_2 x6_1).length:Int) then (impl_commonTable.l1 k2 l0 l1 x6_1 (wrap64 (x7_2 - 1)) (x11_2.set (x6_1:Int).toNat ((rd_L4 x11_2 x6_1).set (x7_2:Int).toNat (wrap64 ((rd (rd_L4 x11_2 (ji36)) (ji39)) + 1))))) else (none)) else (none)) else (none)) = some r:=by first|(rw [hji39] at H;exact H)|(simp only [hji39] at H ⊢;exact H)
      have hji39w:(IntKind.i64.wrap (x7_2 + 1)) = ji39:=(i64_w _).trans hji39
      by_cases c40:0 ≤ (ji39)
      rotate_left
      ·rw [if_neg c40] at H
       exact absurd H (by simp)
      rw [if_pos c40] at H
      have c40b0:decide (0 ≤ (ji39)) = true:=decide_eq_true c40
      clear c40
      by_cases c41:(ji39) < ((rd_L4 x11_2 (ji36)).length:Int)
      rotate_left
      ·rw [if_neg c41] at H
       exact absurd H (by simp)
      rw [if_pos c41] at H
      have c41b0:decide ((ji39) < ((rd_L4 x11_2 (ji36)).length:Int)) = true:=decide_eq_true c41
      (try simp only [hl11_1] at c41b0)
      (try simp only [hl11_2] at c41b0)
      (try simp only [hl397_0] at c41b0)
      (try simp only [hl398_0] at c41b0)
      (try simp only [hl403_0] at c41b0)
      (try simp only [hl404_0] at c41b0)
      (try simp only [hl406_0] at c41b0)
      clear c41
      by_cases c42:x7_2 < ((rd_L4 x11_2 x6_1).length:Int)
      rotate_left
      ·rw [if_neg c42] at H
       exact absurd H (by simp)
      rw [if_pos c42] at H
      have c42b0:decide (x7_2 < ((rd_L4 x11_2 x6_1).length:Int)) = true:=decide_eq_true c42
      (try simp only [hl11_1] at c42b0)
      (try simp only [hl11_2] at c42b0)
      (try simp only [hl397_0] at c42b0)
      (try simp only [hl398_0] at c42b0)
      (try simp only [hl403_0] at c42b0)
      (try simp only [hl404_0] at c42b0)
      (try simp only [hl406_0] at c42b0)
      clear c42
      obtain⟨y400,hy400⟩:∃ y_:List Int,y_ = ((rd_L4 x11_2 x6_1).set (x7_2:Int).toNat (wrap64 ((rd (rd_L4 x11_2 (ji36)) (ji39)) + 1))):=⟨_,rfl⟩
      replace H:(impl_commonTable.l1 k2 l0 l1 x6_1 (wrap64 (x7_2 - 1)) (x11_2.set (x6_1:Int).toNat y400)) = some r:=by first|(rw [hy400];with_reducible exact H)|(have H2_:=(Option.bind_some _ _).symm.trans H;rw [hy400];with_reducible exact H2_)|(have H2_:=(Option.bind_some _ _).symm.trans H;with_reducible exact H2_)|with_reducible exact H|(rw [hy400];exact H)|exact H
      have Ny400:=mk0 hy400
      clear hy400
      obtain⟨y402,hy402⟩:∃ y_:List (List Int),y_ = (x11_2.set (x6_1:Int).toNat y400):=⟨_,rfl⟩
      replace H:(impl_commonTable.l1 k2 l0 l1 x6_1 (wrap64 (x7_2 - 1)) y402) = some r:=by first|(rw [hy402];with_reducible exact H)|(have H2_:=(Option.bind_some _ _).symm.trans H;rw [hy402];with_reducible exact H2_)|(have H2_:=(Option.bind_some _ _).symm.trans H;with_reducible exact H2_)|with_reducible exact H|(rw [hy402];exact H)|exact H
      have Ny402:=mk0 hy402
      clear hy402
      have H':=mk0 H
      clear H
      try go_wp2
      replace HO_11:=mk0 (dS HO_11.out)
      replace HB:=mk0 (dZ HB.out)
      have p395:0 ≤ (x6_1:Int):=of_decide_eq_true (by first|(with_reducible assumption)|assumption)
      have q395:x6_1 < (l0.length:Int):=of_decide_eq_true (by first|(with_reducible assumption)|assumption)
      obtain⟨ad395,e395,hx395_0⟩:=Kd.at_int HR0.out x6_1 p395 q395
      have hw395_0:=hx395_0
      cases e395
      replace hx395_0:=(HB.out.cell (World.block_lt_of_cell? w _ hx395_0)).trans hx395_0
      replace p395:=eq_true p395
      replace q395:=eq_true q395
      have p396:0 ≤ (x7_2:Int):=of_decide_eq_true (by first|(with_reducible assumption)|assumption)
      have q396:x7_2 < (l1.length:Int):=of_decide_eq_true (by first|(with_reducible assumption)|assumption)
      obtain⟨ad396,e396,hx396_0⟩:=Kd.at_int HR1.out x7_2 p396 q396
      have hw396_0:=hx396_0
      cases e396
      replace hx396_0:=(HB.out.cell (World.block_lt_of_cell? w _ hx396_0)).trans hx396_0
      replace p396:=eq_true p396
      replace q396:=eq_true q396
      refine start_ (n:=9) (S:=fun w'=>w'.cell? (ad395.add (x6_1).toNat) = some (.int .i64 (rd l0 x6_1)) ∧ w'.cell? (ad396.add (x7_2).toNat) = some (.int .i64 (rd l1 x7_2))) (ds:=[]) impl_commonTable.m0 (by kernel_rfl) rfl rfl ⟨((HB.out.cell (World.block_lt_of_cell? w _ hw395_0)).trans hw395_0),((HB.out.cell (World.block_lt_of_cell? w _ hw396_0)).trans hw396_0)⟩ (fun hHeld=>?_);refine with_tabW impl_commonTable.tab10 impl_commonTable.bits10 (fun HT_ HW_=>?_)
      generalize wr.drew = w44 at HO_11 HB hx395_0 hx396_0 hHeld ⊢
      refine pure_ (i:=0) (N:=some 41) (v:=?_) (a':=?_) impl_commonTable.m1 rfl rfl (any_of HT_.out (by kernel_rfl)) (fun _ _ _ h=>h) (Or.inl ⟨by rfl,?_⟩) ?_ ?_
      rotate_left
      ·intro w'
       go_simp
       with_reducible rfl
      rotate_left
      ·simp only [Act.put,sA,sO,sS,i64_w,i32_w]
       rfl
      refine pure_ (i:=1) (N:=some 42) (v:=?_) (a':=?_) impl_commonTable.m2 rfl rfl (any_of HT_.out (by kernel_rfl)) (fun _ _ _ h=>h) (Or.inl ⟨by rfl,?_⟩) ?_ ?_
      rotate_left
      ·intro w'
       go_simp
       with_reducible rfl
      rotate_left
      ·simp only [Act.put,sA,sO,sS,i64_w,i32_w]
       rfl
      refine pure_ (i:=2) (N:=some 43) (v:=?_) (a':=?_) impl_commonTable.m3 rfl rfl (any_of HT_.out (by kernel_rfl)) (fun _ _ _ h=>h) (Or.inl ⟨by rfl,?_⟩) ?_ ?_
      rotate_left
      ·intro w'
       go_simp
       with_reducible rfl
      rotate_left
      ·simp only [Act.put,sA,sO,sS,i64_w,i32_w]
       rfl
      refine pure_ (i:=4) (N:=some 45) (v:=?_) (a':=?_) impl_commonTable.m4 rfl rfl (any_of HT_.out (by kernel_rfl)) (fun _ _ _ h=>h) (Or.inl ⟨by rfl,?_⟩) ?_ ?_
      rotate_left
      ·intro w'
       go_simp
       with_reducible rfl
      rotate_left
      ·simp only [Act.put,sA,sO,sS,i64_w,i32_w]
       rfl
      refine pure_ (i:=5) (N:=some 46) (v:=?_) (a':=?_) impl_commonTable.m5 rfl rfl (any_of HT_.out (by kernel_rfl)) (fun _ _ _ h=>h) (Or.inl ⟨by rfl,?_⟩) ?_ ?_
      rotate_left
      ·intro w'
       go_simp
       with_reducible rfl
      rotate_left
      ·simp only [Act.put,sA,sO,sS,i64_w,i32_w]
       rfl
      refine pure_ (i:=6) (N:=some 47) (v:=?_) (a':=?_) impl_commonTable.m6 rfl rfl (any_of HT_.out (by kernel_rfl)) (fun _ _ _ h=>h) (Or.inl ⟨by rfl,?_⟩) ?_ ?_
      rotate_left
      ·intro w'
       go_simp
       with_reducible rfl
      rotate_left
      ·simp only [Act.put,sA,sO,sS,i64_w,i32_w]
       rfl
      refine take_ (i:=3) (N:=some 44) (v:=?_) (a':=?_) impl_commonTable.m7 rfl rfl (take_ofW HT_.out HW_.out (by kernel_rfl)) (fun _ _ _ h=>h) (Or.inl ⟨by rfl,?_⟩) hHeld ?_ ?_
      rotate_left
      ·rintro w' ⟨s0,s1⟩
       go_simp
       with_reducible rfl
      rotate_left
      ·simp only [Act.put,sA,sO,sS,i64_w,i32_w]
       rfl
      refine take_ (i:=7) (N:=some 48) (v:=?_) (a':=?_) impl_commonTable.m8 rfl rfl (take_ofW HT_.out HW_.out (by kernel_rfl)) (fun _ _ _ h=>h) (Or.inl ⟨by rfl,?_⟩) hHeld ?_ ?_
      rotate_left
      ·rintro w' ⟨s0,s1⟩
       go_simp
       with_reducible rfl
      rotate_left
      ·simp only [Act.put,sA,sO,sS,i64_w,i32_w]
       rfl
      refine pure_ (i:=8) (N:=some 49) (v:=?_) (a':=?_) impl_commonTable.m9 rfl rfl (any_of HT_.out (by kernel_rfl)) (fun _ _ _ h=>h) (Or.inl ⟨by rfl,?_⟩) ?_ ?_
      rotate_left
      ·intro w'
       go_simp
       with_reducible rfl
      rotate_left
      ·simp only [Act.put,sA,sO,sS,i64_w,i32_w]
       rfl
      refine done_ (done_of HT_.out (by kernel_rfl)) ?_
      try go_wp2
      replace HO_11:=mk0 (dS HO_11.out)
      replace HB:=mk0 (dZ HB.out)
      have p397:0 ≤ (x6_1:Int):=of_decide_eq_true (by first|(with_reducible assumption)|assumption)
      have q397:x6_1 < (x11_2.length:Int):=of_decide_eq_true (by first|(with_reducible assumption)|assumption)
      obtain⟨ad397,A397_0,c397_0,e397,hx397_0,hl397_0,hi397_0⟩:=at_L4 (Kd.S_reads' HO_11.out).2.2 x6_1 p397 q397
      obtain rfl:(⟨go11,0,none⟩:Addr) = ad397:=(by injection e397)
      obtain⟨ce397,hce397,hMe397,hcc397⟩:=Kd.S_get HO_11.out [] x6_1 p397 (by first|exact q397|exact of_decide_eq_true (by first|(with_reducible assumption)|assumption)|(have e_:=(Kd.S_reads' HO_11.out).1;omega))
      obtain⟨ve397_0,rfl,ge397_0⟩:=hMe397
      have hv397_0:=hcc397 0 _ rfl
      rw [Nat.add_zero,show ((Kd.slice 3 (Kd.int .i64))).sz = 1 from rfl,Nat.mul_one] at hv397_0
      replace hv397_0:=Option.some.inj (hv397_0.symm.trans hx397_0)
      rw [hv397_0] at ge397_0
      have HL397_0:=mk0 (show Kd.R (Kd.int .i64) 3 _ _ _ _ (rd_L4 x11_2 x6_1) from ge397_0)
      clear hv397_0 ge397_0
      have HX397_0:=mk0 hx397_0
      clear hcc397 hce397
      (first|simp only [add_plain] at hx397_0|simp only [add_at] at hx397_0|simp only [Addr.add,Nat.zero_add] at hx397_0|skip)
      have HR397_0:=mk0 hi397_0
      have HC397_0:=mk0 hl397_0
      clear hi397_0 hl397_0
      replace p397:=eq_true p397
      replace q397:=eq_true q397
      have p398:0 ≤ ((ji36):Int):=of_decide_eq_true (by first|(with_reducible assumption)|assumption)
      have q398:(ji36) < (x11_2.length:Int):=of_decide_eq_true (by first|(with_reducible assumption)|assumption)
      obtain⟨ad398,A398_0,c398_0,e398,hx398_0,hl398_0,hi398_0⟩:=at_L4 (Kd.S_reads' HO_11.out).2.2 (ji36) p398 q398
      obtain rfl:(⟨go11,0,none⟩:Addr) = ad398:=(by injection e398)
      obtain⟨ce398,hce398,hMe398,hcc398⟩:=Kd.S_get HO_11.out [] (ji36) p398 (by first|exact q398|exact of_decide_eq_true (by first|(with_reducible assumption)|assumption)|(have e_:=(Kd.S_reads' HO_11.out).1;omega))
      obtain⟨ve398_0,rfl,ge398_0⟩:=hMe398
      have hv398_0:=hcc398 0 _ rfl
      rw [Nat.add_zero,show ((Kd.slice 3 (Kd.int .i64))).sz = 1 from rfl,Nat.mul_one] at hv398_0
      replace hv398_0:=Option.some.inj (hv398_0.symm.trans hx398_0)
      rw [hv398_0] at ge398_0
      have HL398_0:=mk0 (show Kd.R (Kd.int .i64) 3 _ _ _ _ (rd_L4 x11_2 (ji36)) from ge398_0)
      clear hv398_0 ge398_0
      have HX398_0:=mk0 hx398_0
      clear hcc398 hce398
      (first|simp only [add_plain] at hx398_0|simp only [add_at] at hx398_0|simp only [Addr.add,Nat.zero_add] at hx398_0|skip)
      have HR398_0:=mk0 hi398_0
      have HC398_0:=mk0 hl398_0
      clear hi398_0 hl398_0
      replace p398:=eq_true p398
      replace q398:=eq_true q398
      have p399:0 ≤ ((ji39):Int):=of_decide_eq_true (by first|(with_reducible assumption)|assumption)
      have q399:(ji39) < ((rd_L4 x11_2 (ji36)).length:Int):=of_decide_eq_true (by first|(with_reducible assumption)|assumption)
      obtain⟨ad399,e399,hx399_0⟩:=Kd.at_int (by repeat (first|(with_reducible exact HR398_0.out)|(with_reducible first|apply aC|apply nC|apply dC)|exact HR398_0.out|exact (Kd.V_reads' HL398_0.out).2.2)) (ji39) p399 q399
      cases e399
      replace p399:=eq_true p399
      replace q399:=eq_true q399
      have p43:0 ≤ (x7_2:Int):=of_decide_eq_true (by first|(with_reducible assumption)|assumption)
      have q43:(x7_2:Int) < (((rd_L4 x11_2 x6_1).length:Int):Int):=of_decide_eq_true (by first|(with_reducible assumption)|assumption)
      obtain⟨go43,co43,eo43,gb43,gl43,cl43,HG43⟩:=Kd.R_form HL397_0.out (by omega)
      (first|cases eo43|(injection eo43 with ea_ en_ ec_;(first|subst ea_|(injection ea_ with ea_;subst ea_));subst ec_;clear en_))
      have GB43:=mk0 gb43
      have GG43:=mk0 HG43
      clear gb43 gl43 HG43
      obtain⟨hx43_0,hf43_0⟩:=Kd.R_celln 0 HL397_0.out (x7_2:Int) p43 q43
      replace p43:=eq_true p43
      replace q43:=eq_true q43
      have hq46:(x6_1:Int) < (x11_2.length:Int):=(by have h_:(x6_1:Int) < ((x11_2.length:Int):Int):=of_decide_eq_true (by first|(with_reducible assumption)|assumption);first|exact h_|(have e_:=(Kd.S_reads' HO_11.out).1;omega)|simpa only [List.length_set,List.length_set] using h_)
      obtain⟨oki46,ce46,hcl46,hM46,hcc46,hok46,hbk46⟩:=Kd.S_borrow HO_11.out [] (x6_1:Int) (of_decide_eq_true (by first|(with_reducible assumption)|assumption)) (by first|exact hq46|(have e_:=(Kd.S_reads' HO_11.out).1;omega))
      obtain⟨ve46_0,rfl,ge46_0⟩:=hM46
      have hv46:=hcc46 0 _ rfl
      rw [Nat.add_zero,show ((Kd.slice 3 (Kd.int .i64))).sz = 1 from rfl,Nat.mul_one] at hv46
      replace hv46:=Option.some.inj (hv46.symm.trans HX397_0.out)
      subst hv46
      clear hcc46 hcl46
      replace ge46_0:=(show Kd.R (Kd.int .i64) 3 _ _ _ _ (rd_L4 x11_2 x6_1) from ge46_0)
      have HP46:=Kd.R_putg ge46_0 (x7_2:Int) (wrap64 ((rd (rd_L4 x11_2 (ji36)) (ji39)) + 1))
      rw [← Ny400.out] at HP46
      have HS46:=hbk46 HP46.2 (fun k_ e_=>by injection e_ with e_;subst e_;exact ge46_0.1 _ rfl) (x':=y400) (Kd.M_row HP46.1)
      rw [← Ny402.out] at HS46
      have HQ46:=mk0 HS46
      clear HP46 HS46 hbk46 hok46
      refine start_ (n:=17) (S:=fun w'=>w'.cell? ⟨go11,(x6_1).toNat,none⟩ = some (.slice (some ⟨go43,0,none⟩) (rd_L4 x11_2 x6_1).length c397_0) ∧ w'.cell? ⟨go11,((ji36)).toNat,none⟩ = some (.slice (some ad399) (rd_L4 x11_2 (ji36)).length c398_0) ∧ w'.cell? (ad399.add ((ji39)).toNat) = some (.int .i64 (rd (rd_L4 x11_2 (ji36)) (ji39)))) (ds:=[16]) impl_commonTable.m10 (by kernel_rfl) rfl rfl ⟨hx397_0,hx398_0,hx399_0⟩ (fun hHeld=>?_);refine with_tabW impl_commonTable.tab11 impl_commonTable.bits11 (fun HT_ HW_=>?_)
      generalize w44.drew = w45 at HO_11 HB GG43 HL397_0 HL398_0 HQ46 HR397_0 HR398_0 HX397_0 HX398_0 hf43_0 hx397_0 hx398_0 hx399_0 hx43_0 hHeld ⊢
      refine pure_ (i:=0) (N:=some 50) (v:=?_) (a':=?_) impl_commonTable.m11 rfl rfl (any_of HT_.out (by kernel_rfl)) (fun _ _ _ h=>h) (Or.inl ⟨by rfl,?_⟩) ?_ ?_
      rotate_left
      ·intro w'
       go_simp
       with_reducible rfl
      rotate_left
      ·simp only [Act.put,sA,sO,sS,i64_w,i32_w]
       rfl
      refine pure_ (i:=1) (N:=some 51) (v:=?_) (a':=?_) impl_commonTable.m12 rfl rfl (any_of HT_.out (by kernel_rfl)) (fun _ _ _ h=>h) (Or.inl ⟨by rfl,?_⟩) ?_ ?_
      rotate_left
      ·intro w'
       go_simp
       with_reducible rfl
      rotate_left
      ·simp only [Act.put,sA,sO,sS,i64_w,i32_w]
       rfl
      refine pure_ (i:=2) (N:=some 52) (v:=?_) (a':=?_) impl_commonTable.m13 rfl rfl (any_of HT_.out (by kernel_rfl)) (fun _ _ _ h=>h) (Or.inl ⟨by rfl,?_⟩) ?_ ?_
      rotate_left
      ·intro w'
       go_simp
       with_reducible rfl
      rotate_left
      ·simp only [Act.put,sA,sO,sS,i64_w,i32_w]
       rfl
      refine pure_ (i:=4) (N:=some 54) (v:=?_) (a':=?_) impl_commonTable.m14 rfl rfl (any_of HT_.out (by kernel_rfl)) (fun _ _ _ h=>h) (Or.inl ⟨by rfl,?_⟩) ?_ ?_
      rotate_left
      ·intro w'
       go_simp
       with_reducible rfl
      rotate_left
      ·simp only [Act.put,sA,sO,sS,i64_w,i32_w]
       rfl
      refine pure_ (i:=5) (N:=some 55) (v:=?_) (a':=?_) impl_commonTable.m15 rfl rfl (any_of HT_.out (by kernel_rfl)) (fun _ _ _ h=>h) (Or.inl ⟨by rfl,?_⟩) ?_ ?_
      rotate_left
      ·intro w'
       go_simp
       with_reducible rfl
      rotate_left
      ·simp only [Act.put,sA,sO,sS,i64_w,i32_w]
       rfl
      refine pure_ (i:=6) (N:=some 56) (v:=?_) (a':=?_) impl_commonTable.m16 rfl rfl (any_of HT_.out (by kernel_rfl)) (fun _ _ _ h=>h) (Or.inl ⟨by rfl,?_⟩) ?_ ?_
      rotate_left
      ·intro w'
       go_simp
       with_reducible rfl
      rotate_left
      ·simp only [Act.put,sA,sO,sS,i64_w,i32_w]
       rfl
      refine pure_ (i:=7) (N:=some 57) (v:=?_) (a':=?_) impl_commonTable.m17 rfl rfl (any_of HT_.out (by kernel_rfl)) (fun _ _ _ h=>h) (Or.inl ⟨by rfl,?_⟩) ?_ ?_
      rotate_left
      ·intro w'
       go_simp
       with_reducible rfl
      rotate_left
      ·simp only [Act.put,sA,sO,sS,i64_w,i32_w]
       rfl
      refine pure_ (i:=8) (N:=some 58) (v:=?_) (a':=?_) impl_commonTable.m18 rfl rfl (any_of HT_.out (by kernel_rfl)) (fun _ _ _ h=>h) (Or.inl ⟨by rfl,?_⟩) ?_ ?_
      rotate_left
      ·intro w'
       go_simp
       with_reducible rfl
      rotate_left
      ·simp only [Act.put,sA,sO,sS,i64_w,i32_w]
       rfl
      refine pure_ (i:=10) (N:=some 60) (v:=?_) (a':=?_) impl_commonTable.m19 rfl rfl (any_of HT_.out (by kernel_rfl)) (fun _ _ _ h=>h) (Or.inl ⟨by rfl,?_⟩) ?_ ?_
      rotate_left
      ·intro w'
       go_simp
       with_reducible rfl
      rotate_left
      ·simp only [Act.put,sA,sO,sS,i64_w,i32_w]
       rfl
      refine pure_ (i:=11) (N:=some 61) (v:=?_) (a':=?_) impl_commonTable.m20 rfl rfl (any_of HT_.out (by kernel_rfl)) (fun _ _ _ h=>h) (Or.inl ⟨by rfl,?_⟩) ?_ ?_
      rotate_left
      ·intro w'
       go_simp
       with_reducible rfl
      rotate_left
      ·simp only [Act.put,sA,sO,sS,i64_w,i32_w]
       rfl
      refine take_ (i:=3) (N:=some 53) (v:=?_) (a':=?_) impl_commonTable.m21 rfl rfl (take_ofW HT_.out HW_.out (by kernel_rfl)) (fun _ _ _ h=>h) (Or.inl ⟨by rfl,?_⟩) hHeld ?_ ?_
      rotate_left
      ·rintro w' ⟨s0,s1,s2⟩
       go_simp
       with_reducible rfl
      rotate_left
      ·simp only [Act.put,sA,sO,sS,i64_w,i32_w]
       rfl
      refine take_ (i:=9) (N:=some 59) (v:=?_) (a':=?_) impl_commonTable.m22 rfl rfl (take_ofW HT_.out HW_.out (by kernel_rfl)) (fun _ _ _ h=>h) (Or.inl ⟨by rfl,?_⟩) hHeld ?_ ?_
      rotate_left
      ·rintro w' ⟨s0,s1,s2⟩
       go_simp
       with_reducible rfl
      rotate_left
      ·simp only [Act.put,sA,sO,sS,i64_w,i32_w]
       rfl
      refine pure_ (i:=12) (N:=some 62) (v:=?_) (a':=?_) impl_commonTable.m23 rfl rfl (any_of HT_.out (by kernel_rfl)) (fun _ _ _ h=>h) (Or.inl ⟨by rfl,?_⟩) ?_ ?_
      rotate_left
      ·intro w'
       go_simp
       with_reducible rfl
      rotate_left
      ·simp only [Act.put,sA,sO,sS,i64_w,i32_w]
       rfl
      refine take_ (i:=13) (N:=some 63) (v:=?_) (a':=?_) impl_commonTable.m24 rfl rfl (take_ofW HT_.out HW_.out (by kernel_rfl)) (fun _ _ _ h=>h) (Or.inl ⟨by rfl,?_⟩) hHeld ?_ ?_
      rotate_left
      ·rintro w' ⟨s0,s1,s2⟩
       go_simp
       with_reducible rfl
      rotate_left
      ·simp only [Act.put,sA,sO,sS,i64_w,i32_w]
       rfl
      refine pure_ (i:=14) (N:=some 64) (v:=?_) (a':=?_) impl_commonTable.m25 rfl rfl (any_of HT_.out (by kernel_rfl)) (fun _ _ _ h=>h) (Or.inl ⟨by rfl,?_⟩) ?_ ?_
      rotate_left
      ·intro w'
       go_simp
       with_reducible rfl
      rotate_left
      ·simp only [Act.put,sA,sO,sS,i64_w,i32_w]
       rfl
      refine pure_ (i:=15) (N:=some 65) (v:=?_) (a':=?_) impl_commonTable.m26 rfl rfl (any_of HT_.out (by kernel_rfl)) (fun _ _ _ h=>h) (Or.inl ⟨by rfl,?_⟩) ?_ ?_
      rotate_left
      ·intro w'
       go_simp
       with_reducible rfl
      rotate_left
      ·simp only [Act.put,sA,sO,sS,i64_w,i32_w]
       rfl
      refine last_ (i:=16) (N:=none) impl_commonTable.m27 rfl rfl (one_of HT_.out (by kernel_rfl)) (by decide) (fun K hK=>?_)
      refine skip_ (w1:=?_) (by rfl) rfl ?_ ?_
      rotate_left
      ·go_simp
       rfl
      refine hK.out _ _ ?_
      clear hK K
      refine done_ (done_of HT_.out (by kernel_rfl)) ?_
      try go_wp2
      (try simp only [← hl11_2])
      go_roundg k2
      case measure=>have:=HK1.out;have:=HK2.out;omega
      case rel=>exact⟨(wrap64 (x7_2 - 1)),(y402),(by first|rfl|(simp;done)|(simp [*];done)),H',⟨by have:=HK1.out;have:=HK2.out;omega⟩,⟨by (try simp only [hl11_1]);(try simp only [hl11_2]);(with_reducible repeat (first|apply aS|apply nS|apply dS));exact HQ46.out⟩,⟨kB HB.out⟩⟩
     rw [if_neg c34] at H
     have c34b0:((rd l0 x6_1) == (rd l1 x7_2)) = false:=beq_eq_false_iff_ne.mpr c34
     have c34b1:((rd l0 x6_1) != (rd l1 x7_2)) = true:=bne_iff_ne.mpr c34
     by_cases c48:x6_1 < (x11_2.length:Int)
     rotate_left
     ·rw [if_neg c48] at H
      exact absurd H (by simp)
     rw [if_pos c48] at H
     have c48b0:decide (x6_1 < (x11_2.length:Int)) = true:=decide_eq_true c48
     (try simp only [hl11_1] at c48b0)
     (try simp only [hl11_2] at c48b0)
     (try simp only [hl397_0] at c48b0)
     (try simp only [hl398_0] at c48b0)
     (try simp only [hl403_0] at c48b0)
     (try simp only [hl404_0] at c48b0)
     (try simp only [hl406_0] at c48b0)
     clear c48
     try clear hji36w
     try clear hji36
     obtain⟨ji49,hji49⟩:∃ j_:Int,(wrap64 (x6_1 + 1)) = j_:=⟨_,rfl⟩
     replace H:(if 0 ≤ (ji49) then (if (ji49) < (x11_2.length:Int) then (if x7_2 < ((rd_L4 x11_2 (ji49)).length:Int) then (if 0 ≤ (wrap64 (x7_2 + 1)) then (if (wrap64 (x7_2 + 1)) < ((rd_L4 x11_2 x6_1).length:Int) then (if x7_2 < ((rd_L4 x11_2 x6_1).length:Int) then (impl_commonTable.l1 k2 l0 l1 x6_1 (wrap64 (x7_2 - 1)) (x11_2.set (x6_1:Int).toNat ((rd_L4 x11_2 x6_1).set (x7_2:Int).toNat (mx (rd (rd_L4 x11_2 (ji49)) x7_2) (rd (rd_L4 x11_2 x6_1) (wrap64 (x7_2 + 1))))))) else (none)) else (none)) else (none)) else (none)) else (none)) else (none)) = some r:=by first|(rw [hji49] at H;exact H)|(simp only [hji49] at H ⊢;exact H)
     have hji49w:(IntKind.i64.wrap (x6_1 + 1)) = ji49:=(i64_w _).trans hji49
     by_cases c50:0 ≤ (ji49)
     rotate_left
     ·rw [if_neg c50] at H
      exact absurd H (by simp)
     rw [if_pos c50] at H
     have c50b0:decide (0 ≤ (ji49)) = true:=decide_eq_true c50
     clear c50
     by_cases c51:(ji49) < (x11_2.length:Int)
     rotate_left
     ·rw [if_neg c51] at H
      exact absurd H (by simp)
     rw [if_pos c51] at H
     have c51b0:decide ((ji49) < (x11_2.length:Int)) = true:=decide_eq_true c51
     (try simp only [hl11_1] at c51b0)
     (try simp only [hl11_2] at c51b0)
     (try simp only [hl397_0] at c51b0)
     (try simp only [hl398_0] at c51b0)
     (try simp only [hl403_0] at c51b0)
     (try simp only [hl404_0] at c51b0)
     (try simp only [hl406_0] at c51b0)
     clear c51
     by_cases c52:x7_2 < ((rd_L4 x11_2 (ji49)).length:Int)
     rotate_left
     ·rw [if_neg c52] at H
      exact absurd H (by simp)
     rw [if_pos c52] at H
     have c52b0:decide (x7_2 < ((rd_L4 x11_2 (ji49)).length:Int)) = true:=decide_eq_true c52
     (try simp only [hl11_1] at c52b0)
     (try simp only [hl11_2] at c52b0)
     (try simp only [hl397_0] at c52b0)
     (try simp only [hl398_0] at c52b0)
     (try simp only [hl403_0] at c52b0)
     (try simp only [hl404_0] at c52b0)
     (try simp only [hl406_0] at c52b0)
     clear c52
     try clear hji39w
     try clear hji39
     obtain⟨ji53,hji53⟩:∃ j_:Int,(wrap64 (x7_2 + 1)) = j_:=⟨_,rfl⟩
     replace H:(if 0 ≤ (ji53) then (if (ji53) < ((rd_L4 x11_2 x6_1).length:Int) then (if x7_2 < ((rd_L4 x11_2 x6_1).length:Int) then (impl_commonTable.l1 k2 l0 l1 x6_1 (wrap64 (x7_2 - 1)) (x11_2.set (x6_1:Int).toNat ((rd_L4 x11_2 x6_1).set (x7_2:Int).toNat (mx (rd (rd_L4 x11_2 (ji49)) x7_2) (rd (rd_L4 x11_2 x6_1) (ji53)))))) else (none)) else (none)) else (none)) = some r:=by first|(rw [hji53] at H;exact H)|(simp only [hji53] at H ⊢;exact H)
     have hji53w:(IntKind.i64.wrap (x7_2 + 1)) = ji53:=(i64_w _).trans hji53
     by_cases c54:0 ≤ (ji53)
     rotate_left
     ·rw [if_neg c54] at H
      exact absurd H (by simp)
     rw [if_pos c54] at H
     have c54b0:decide (0 ≤ (ji53)) = true:=decide_eq_true c54
     clear c54
     by_cases c55:(ji53) < ((rd_L4 x11_2 x6_1).length:Int)
     rotate_left
     ·rw [if_neg c55] at H
      exact absurd H (by simp)
     rw [if_pos c55] at H
     have c55b0:decide ((ji53) < ((rd_L4 x11_2 x6_1).length:Int)) = true:=decide_eq_true c55
     (try simp only [hl11_1] at c55b0)
     (try simp only [hl11_2] at c55b0)
     (try simp only [hl397_0] at c55b0)
     (try simp only [hl398_0] at c55b0)
     (try simp only [hl403_0] at c55b0)
     (try simp only [hl404_0] at c55b0)
     (try simp only [hl406_0] at c55b0)
     clear c55
     obtain⟨ji56,hji56⟩:∃ j_:Int,(mx (rd (rd_L4 x11_2 (ji49)) x7_2) (rd (rd_L4 x11_2 x6_1) (ji53))) = j_:=⟨_,rfl⟩
     replace H:(if x7_2 < ((rd_L4 x11_2 x6_1).length:Int) then (impl_commonTable.l1 k2 l0 l1 x6_1 (wrap64 (x7_2 - 1)) (x11_2.set (x6_1:Int).toNat ((rd_L4 x11_2 x6_1).set (x7_2:Int).toNat (ji56)))) else (none)) = some r:=by first|(rw [hji56] at H;exact H)|(simp only [hji56] at H ⊢;exact H)
     have hji56_:(if (rd (rd_L4 x11_2 (ji49)) x7_2) < (rd (rd_L4 x11_2 x6_1) (ji53)) then (rd (rd_L4 x11_2 x6_1) (ji53)) else (rd (rd_L4 x11_2 (ji49)) x7_2)) = ji56:=hji56
     by_cases c57:x7_2 < ((rd_L4 x11_2 x6_1).length:Int)
     rotate_left
     ·rw [if_neg c57] at H
      exact absurd H (by simp)
     rw [if_pos c57] at H
     have c57b0:decide (x7_2 < ((rd_L4 x11_2 x6_1).length:Int)) = true:=decide_eq_true c57
     (try simp only [hl11_1] at c57b0)
     (try simp only [hl11_2] at c57b0)
     (try simp only [hl397_0] at c57b0)
     (try simp only [hl398_0] at c57b0)
     (try simp only [hl403_0] at c57b0)
     (try simp only [hl404_0] at c57b0)
     (try simp only [hl406_0] at c57b0)
     clear c57
     obtain⟨y408,hy408⟩:∃ y_:List Int,y_ = ((rd_L4 x11_2 x6_1).set (x7_2:Int).toNat (ji56)):=⟨_,rfl⟩
     replace H:(impl_commonTable.l1 k2 l0 l1 x6_1 (wrap64 (x7_2 - 1)) (x11_2.set (x6_1:Int).toNat y408)) = some r:=by first|(rw [hy408];with_reducible exact H)|(have H2_:=(Option.bind_some _ _).symm.trans H;rw [hy408];with_reducible exact H2_)|(have H2_:=(Option.bind_some _ _).symm.trans H;with_reducible exact H2_)|with_reducible exact H|(rw [hy408];exact H)|exact H
     have Ny408:=mk0 hy408
     clear hy408
     obtain⟨y410,hy410⟩:∃ y_:List (List Int),y_ = (x11_2.set (x6_1:Int).toNat y408):=⟨_,rfl⟩
     replace H:(impl_commonTable.l1 k2 l0 l1 x6_1 (wrap64 (x7_2 - 1)) y410) = some r:=by first|(rw [hy410];with_reducible exact H)|(have H2_:=(Option.bind_some _ _).symm.trans H;rw [hy410];with_reducible exact H2_)|(have H2_:=(Option.bind_some _ _).symm.trans H;with_reducible exact H2_)|with_reducible exact H|(rw [hy410];exact H)|exact H
     have Ny410:=mk0 hy410
     clear hy410
     have H':=mk0 H
     clear H
     try go_wp2
     replace HO_11:=mk0 (dS HO_11.out)
     replace HB:=mk0 (dZ HB.out)
     have p395:0 ≤ (x6_1:Int):=of_decide_eq_true (by first|(with_reducible assumption)|assumption)
     have q395:x6_1 < (l0.length:Int):=of_decide_eq_true (by first|(with_reducible assumption)|assumption)
     obtain⟨ad395,e395,hx395_0⟩:=Kd.at_int HR0.out x6_1 p395 q395
     have hw395_0:=hx395_0
     cases e395
     replace hx395_0:=(HB.out.cell (World.block_lt_of_cell? w _ hx395_0)).trans hx395_0
     replace p395:=eq_true p395
     replace q395:=eq_true q395
     have p396:0 ≤ (x7_2:Int):=of_decide_eq_true (by first|(with_reducible assumption)|assumption)
     have q396:x7_2 < (l1.length:Int):=of_decide_eq_true (by first|(with_reducible assumption)|assumption)
     obtain⟨ad396,e396,hx396_0⟩:=Kd.at_int HR1.out x7_2 p396 q396
     have hw396_0:=hx396_0
     cases e396
     replace hx396_0:=(HB.out.cell (World.block_lt_of_cell? w _ hx396_0)).trans hx396_0
     replace p396:=eq_true p396
     replace q396:=eq_true q396
     refine start_ (n:=9) (S:=fun w'=>w'.cell? (ad395.add (x6_1).toNat) = some (.int .i64 (rd l0 x6_1)) ∧ w'.cell? (ad396.add (x7_2).toNat) = some (.int .i64 (rd l1 x7_2))) (ds:=[]) impl_commonTable.m0 (by kernel_rfl) rfl rfl ⟨((HB.out.cell (World.block_lt_of_cell? w _ hw395_0)).trans hw395_0),((HB.out.cell (World.block_lt_of_cell? w _ hw396_0)).trans hw396_0)⟩ (fun hHeld=>?_);refine with_tabW impl_commonTable.tab10 impl_commonTable.bits10 (fun HT_ HW_=>?_)
     generalize wr.drew = w59 at HO_11 HB hx395_0 hx396_0 hHeld ⊢
     refine pure_ (i:=0) (N:=some 41) (v:=?_) (a':=?_) impl_commonTable.m1 rfl rfl (any_of HT_.out (by kernel_rfl)) (fun _ _ _ h=>h) (Or.inl ⟨by rfl,?_⟩) ?_ ?_
     rotate_left
     ·intro w'
      go_simp
      with_reducible rfl
     rotate_left
     ·simp only [Act.put,sA,sO,sS,i64_w,i32_w]
      rfl
     refine pure_ (i:=1) (N:=some 42) (v:=?_) (a':=?_) impl_commonTable.m2 rfl rfl (any_of HT_.out (by kernel_rfl)) (fun _ _ _ h=>h) (Or.inl ⟨by rfl,?_⟩) ?_ ?_
     rotate_left
     ·intro w'
      go_simp
      with_reducible rfl
     rotate_left
     ·simp only [Act.put,sA,sO,sS,i64_w,i32_w]
      rfl
     refine pure_ (i:=2) (N:=some 43) (v:=?_) (a':=?_) impl_commonTable.m3 rfl rfl (any_of HT_.out (by kernel_rfl)) (fun _ _ _ h=>h) (Or.inl ⟨by rfl,?_⟩) ?_ ?_
     rotate_left
     ·intro w'
      go_simp
      with_reducible rfl
     rotate_left
     ·simp only [Act.put,sA,sO,sS,i64_w,i32_w]
      rfl
     refine pure_ (i:=4) (N:=some 45) (v:=?_) (a':=?_) impl_commonTable.m4 rfl rfl (any_of HT_.out (by kernel_rfl)) (fun _ _ _ h=>h) (Or.inl ⟨by rfl,?_⟩) ?_ ?_
     rotate_left
     ·intro w'
      go_simp
      with_reducible rfl
     rotate_left
     ·simp only [Act.put,sA,sO,sS,i64_w,i32_w]
      rfl
     refine pure_ (i:=5) (N:=some 46) (v:=?_) (a':=?_) impl_commonTable.m5 rfl rfl (any_of HT_.out (by kernel_rfl)) (fun _ _ _ h=>h) (Or.inl ⟨by rfl,?_⟩) ?_ ?_
     rotate_left
     ·intro w'
      go_simp
      with_reducible rfl
     rotate_left
     ·simp only [Act.put,sA,sO,sS,i64_w,i32_w]
      rfl
     refine pure_ (i:=6) (N:=some 47) (v:=?_) (a':=?_) impl_commonTable.m6 rfl rfl (any_of HT_.out (by kernel_rfl)) (fun _ _ _ h=>h) (Or.inl ⟨by rfl,?_⟩) ?_ ?_
     rotate_left
     ·intro w'
      go_simp
      with_reducible rfl
     rotate_left
     ·simp only [Act.put,sA,sO,sS,i64_w,i32_w]
      rfl
     refine take_ (i:=3) (N:=some 44) (v:=?_) (a':=?_) impl_commonTable.m7 rfl rfl (take_ofW HT_.out HW_.out (by kernel_rfl)) (fun _ _ _ h=>h) (Or.inl ⟨by rfl,?_⟩) hHeld ?_ ?_
     rotate_left
     ·rintro w' ⟨s0,s1⟩
      go_simp
      with_reducible rfl
     rotate_left
     ·simp only [Act.put,sA,sO,sS,i64_w,i32_w]
      rfl
     refine take_ (i:=7) (N:=some 48) (v:=?_) (a':=?_) impl_commonTable.m8 rfl rfl (take_ofW HT_.out HW_.out (by kernel_rfl)) (fun _ _ _ h=>h) (Or.inl ⟨by rfl,?_⟩) hHeld ?_ ?_
     rotate_left
     ·rintro w' ⟨s0,s1⟩
      go_simp
      with_reducible rfl
     rotate_left
     ·simp only [Act.put,sA,sO,sS,i64_w,i32_w]
      rfl
     refine pure_ (i:=8) (N:=some 49) (v:=?_) (a':=?_) impl_commonTable.m9 rfl rfl (any_of HT_.out (by kernel_rfl)) (fun _ _ _ h=>h) (Or.inl ⟨by rfl,?_⟩) ?_ ?_
     rotate_left
     ·intro w'
      go_simp
      with_reducible rfl
     rotate_left
     ·simp only [Act.put,sA,sO,sS,i64_w,i32_w]
      rfl
     refine done_ (done_of HT_.out (by kernel_rfl)) ?_
     try go_wp2
     replace HO_11:=mk0 (dS HO_11.out)
     replace HB:=mk0 (dZ HB.out)
     have p403:0 ≤ (x6_1:Int):=of_decide_eq_true (by first|(with_reducible assumption)|assumption)
     have q403:x6_1 < (x11_2.length:Int):=of_decide_eq_true (by first|(with_reducible assumption)|assumption)
     obtain⟨ad403,A403_0,c403_0,e403,hx403_0,hl403_0,hi403_0⟩:=at_L4 (Kd.S_reads' HO_11.out).2.2 x6_1 p403 q403
     obtain rfl:(⟨go11,0,none⟩:Addr) = ad403:=(by injection e403)
     obtain⟨ce403,hce403,hMe403,hcc403⟩:=Kd.S_get HO_11.out [] x6_1 p403 (by first|exact q403|exact of_decide_eq_true (by first|(with_reducible assumption)|assumption)|(have e_:=(Kd.S_reads' HO_11.out).1;omega))
     obtain⟨ve403_0,rfl,ge403_0⟩:=hMe403
     have hv403_0:=hcc403 0 _ rfl
     rw [Nat.add_zero,show ((Kd.slice 3 (Kd.int .i64))).sz = 1 from rfl,Nat.mul_one] at hv403_0
     replace hv403_0:=Option.some.inj (hv403_0.symm.trans hx403_0)
     rw [hv403_0] at ge403_0
     have HL403_0:=mk0 (show Kd.R (Kd.int .i64) 3 _ _ _ _ (rd_L4 x11_2 x6_1) from ge403_0)
     clear hv403_0 ge403_0
     have HX403_0:=mk0 hx403_0
     clear hcc403 hce403
     (first|simp only [add_plain] at hx403_0|simp only [add_at] at hx403_0|simp only [Addr.add,Nat.zero_add] at hx403_0|skip)
     have HR403_0:=mk0 hi403_0
     have HC403_0:=mk0 hl403_0
     clear hi403_0 hl403_0
     replace p403:=eq_true p403
     replace q403:=eq_true q403
     have p404:0 ≤ ((ji49):Int):=of_decide_eq_true (by first|(with_reducible assumption)|assumption)
     have q404:(ji49) < (x11_2.length:Int):=of_decide_eq_true (by first|(with_reducible assumption)|assumption)
     obtain⟨ad404,A404_0,c404_0,e404,hx404_0,hl404_0,hi404_0⟩:=at_L4 (Kd.S_reads' HO_11.out).2.2 (ji49) p404 q404
     obtain rfl:(⟨go11,0,none⟩:Addr) = ad404:=(by injection e404)
     obtain⟨ce404,hce404,hMe404,hcc404⟩:=Kd.S_get HO_11.out [] (ji49) p404 (by first|exact q404|exact of_decide_eq_true (by first|(with_reducible assumption)|assumption)|(have e_:=(Kd.S_reads' HO_11.out).1;omega))
     obtain⟨ve404_0,rfl,ge404_0⟩:=hMe404
     have hv404_0:=hcc404 0 _ rfl
     rw [Nat.add_zero,show ((Kd.slice 3 (Kd.int .i64))).sz = 1 from rfl,Nat.mul_one] at hv404_0
     replace hv404_0:=Option.some.inj (hv404_0.symm.trans hx404_0)
     rw [hv404_0] at ge404_0
     have HL404_0:=mk0 (show Kd.R (Kd.int .i64) 3 _ _ _ _ (rd_L4 x11_2 (ji49)) from ge404_0)
     clear hv404_0 ge404_0
     have HX404_0:=mk0 hx404_0
     clear hcc404 hce404
     (first|simp only [add_plain] at hx404_0|simp only [add_at] at hx404_0|simp only [Addr.add,Nat.zero_add] at hx404_0|skip)
     have HR404_0:=mk0 hi404_0
     have HC404_0:=mk0 hl404_0
     clear hi404_0 hl404_0
     replace p404:=eq_true p404
     replace q404:=eq_true q404
     have p405:0 ≤ (x7_2:Int):=of_decide_eq_true (by first|(with_reducible assumption)|assumption)
     have q405:x7_2 < ((rd_L4 x11_2 (ji49)).length:Int):=of_decide_eq_true (by first|(with_reducible assumption)|assumption)
     obtain⟨ad405,e405,hx405_0⟩:=Kd.at_int (by repeat (first|(with_reducible exact HR404_0.out)|(with_reducible first|apply aC|apply nC|apply dC)|exact HR404_0.out|exact (Kd.V_reads' HL404_0.out).2.2)) x7_2 p405 q405
     cases e405
     replace p405:=eq_true p405
     replace q405:=eq_true q405
     have p406:0 ≤ (x6_1:Int):=of_decide_eq_true (by first|(with_reducible assumption)|assumption)
     have q406:x6_1 < (x11_2.length:Int):=of_decide_eq_true (by first|(with_reducible assumption)|assumption)
     obtain⟨ad406,A406_0,c406_0,e406,hx406_0,hl406_0,hi406_0⟩:=at_L4 (Kd.S_reads' HO_11.out).2.2 x6_1 p406 q406
     obtain rfl:(⟨go11,0,none⟩:Addr) = ad406:=(by injection e406)
     obtain⟨ce406,hce406,hMe406,hcc406⟩:=Kd.S_get HO_11.out [] x6_1 p406 (by first|exact q406|exact of_decide_eq_true (by first|(with_reducible assumption)|assumption)|(have e_:=(Kd.S_reads' HO_11.out).1;omega))
     obtain⟨ve406_0,rfl,ge406_0⟩:=hMe406
     have hv406_0:=hcc406 0 _ rfl
     rw [Nat.add_zero,show ((Kd.slice 3 (Kd.int .i64))).sz = 1 from rfl,Nat.mul_one] at hv406_0
     replace hv406_0:=Option.some.inj (hv406_0.symm.trans hx406_0)
     rw [hv406_0] at ge406_0
     have HL406_0:=mk0 (show Kd.R (Kd.int .i64) 3 _ _ _ _ (rd_L4 x11_2 x6_1) from ge406_0)
     clear hv406_0 ge406_0
     have HX406_0:=mk0 hx406_0
     clear hcc406 hce406
     (first|simp only [add_plain] at hx406_0|simp only [add_at] at hx406_0|simp only [Addr.add,Nat.zero_add] at hx406_0|skip)
     have HR406_0:=mk0 hi406_0
     have HC406_0:=mk0 hl406_0
     clear hi406_0 hl406_0
     replace p406:=eq_true p406
     replace q406:=eq_true q406
     have ea_:=Option.some.inj (hx403_0.symm.trans hx406_0)
     injection ea_ with ea_ en_ ec_
     subst ea_
     subst ec_
     clear en_
     have p407:0 ≤ ((ji53):Int):=of_decide_eq_true (by first|(with_reducible assumption)|assumption)
     have q407:(ji53) < ((rd_L4 x11_2 x6_1).length:Int):=of_decide_eq_true (by first|(with_reducible assumption)|assumption)
     obtain⟨ad407,e407,hx407_0⟩:=Kd.at_int (by repeat (first|(with_reducible exact HR406_0.out)|(with_reducible first|apply aC|apply nC|apply dC)|exact HR406_0.out|exact (Kd.V_reads' HL406_0.out).2.2)) (ji53) p407 q407
     cases e407
     replace p407:=eq_true p407
     replace q407:=eq_true q407
     have p58:0 ≤ (x7_2:Int):=of_decide_eq_true (by first|(with_reducible assumption)|assumption)
     have q58:(x7_2:Int) < (((rd_L4 x11_2 x6_1).length:Int):Int):=of_decide_eq_true (by first|(with_reducible assumption)|assumption)
     obtain⟨go58,co58,eo58,gb58,gl58,cl58,HG58⟩:=Kd.R_form HL403_0.out (by omega)
     (first|cases eo58|(injection eo58 with ea_ en_ ec_;(first|subst ea_|(injection ea_ with ea_;subst ea_));subst ec_;clear en_))
     have GB58:=mk0 gb58
     have GG58:=mk0 HG58
     clear gb58 gl58 HG58
     (first|simp only [add_plain] at hx407_0|skip)
     obtain⟨hx58_0,hf58_0⟩:=Kd.R_celln 0 HL403_0.out (x7_2:Int) p58 q58
     replace p58:=eq_true p58
     replace q58:=eq_true q58
     have hq61:(x6_1:Int) < (x11_2.length:Int):=(by have h_:(x6_1:Int) < ((x11_2.length:Int):Int):=of_decide_eq_true (by first|(with_reducible assumption)|assumption);first|exact h_|(have e_:=(Kd.S_reads' HO_11.out).1;omega)|simpa only [List.length_set,List.length_set] using h_)
     obtain⟨oki61,ce61,hcl61,hM61,hcc61,hok61,hbk61⟩:=Kd.S_borrow HO_11.out [] (x6_1:Int) (of_decide_eq_true (by first|(with_reducible assumption)|assumption)) (by first|exact hq61|(have e_:=(Kd.S_reads' HO_11.out).1;omega))
     obtain⟨ve61_0,rfl,ge61_0⟩:=hM61
     have hv61:=hcc61 0 _ rfl
     rw [Nat.add_zero,show ((Kd.slice 3 (Kd.int .i64))).sz = 1 from rfl,Nat.mul_one] at hv61
     replace hv61:=Option.some.inj (hv61.symm.trans HX403_0.out)
     subst hv61
     clear hcc61 hcl61
     replace ge61_0:=(show Kd.R (Kd.int .i64) 3 _ _ _ _ (rd_L4 x11_2 x6_1) from ge61_0)
     have HP61:=Kd.R_putg ge61_0 (x7_2:Int) ji56
     rw [← Ny408.out] at HP61
     have HS61:=hbk61 HP61.2 (fun k_ e_=>by injection e_ with e_;subst e_;exact ge61_0.1 _ rfl) (x':=y408) (Kd.M_row HP61.1)
     rw [← Ny410.out] at HS61
     have HQ61:=mk0 HS61
     clear HP61 HS61 hbk61 hok61
     refine start_ (n:=24) (S:=fun w'=>w'.cell? ⟨go11,(x6_1).toNat,none⟩ = some (.slice (some ⟨go58,0,none⟩) (rd_L4 x11_2 x6_1).length c403_0) ∧ w'.cell? ⟨go11,((ji49)).toNat,none⟩ = some (.slice (some ad405) (rd_L4 x11_2 (ji49)).length c404_0) ∧ w'.cell? (ad405.add (x7_2).toNat) = some (.int .i64 (rd (rd_L4 x11_2 (ji49)) x7_2)) ∧ w'.cell? ⟨go11,(x6_1).toNat,none⟩ = some (.slice (some ⟨go58,0,none⟩) (rd_L4 x11_2 x6_1).length c403_0) ∧ w'.cell? ⟨go58,((ji53)).toNat,none⟩ = some (.int .i64 (rd (rd_L4 x11_2 x6_1) (ji53)))) (ds:=[23]) impl_commonTable.m28 (by kernel_rfl) rfl rfl ⟨hx403_0,hx404_0,hx405_0,hx406_0,hx407_0⟩ (fun hHeld=>?_);refine with_tabW impl_commonTable.tab12 impl_commonTable.bits12 (fun HT_ HW_=>?_)
     generalize w59.drew = w60 at HO_11 HB GG58 HL403_0 HL404_0 HL406_0 HQ61 HR403_0 HR404_0 HR406_0 HX403_0 HX404_0 HX406_0 hf58_0 hx403_0 hx404_0 hx405_0 hx406_0 hx407_0 hx58_0 hHeld ⊢
     refine pure_ (i:=0) (N:=some 66) (v:=?_) (a':=?_) impl_commonTable.m29 rfl rfl (any_of HT_.out (by kernel_rfl)) (fun _ _ _ h=>h) (Or.inl ⟨by rfl,?_⟩) ?_ ?_
     rotate_left
     ·intro w'
      go_simp
      with_reducible rfl
     rotate_left
     ·simp only [Act.put,sA,sO,sS,i64_w,i32_w]
      rfl
     refine pure_ (i:=1) (N:=some 67) (v:=?_) (a':=?_) impl_commonTable.m30 rfl rfl (any_of HT_.out (by kernel_rfl)) (fun _ _ _ h=>h) (Or.inl ⟨by rfl,?_⟩) ?_ ?_
     rotate_left
     ·intro w'
      go_simp
      with_reducible rfl
     rotate_left
     ·simp only [Act.put,sA,sO,sS,i64_w,i32_w]
      rfl
     refine pure_ (i:=2) (N:=some 68) (v:=?_) (a':=?_) impl_commonTable.m31 rfl rfl (any_of HT_.out (by kernel_rfl)) (fun _ _ _ h=>h) (Or.inl ⟨by rfl,?_⟩) ?_ ?_
     rotate_left
     ·intro w'
      go_simp
      with_reducible rfl
     rotate_left
     ·simp only [Act.put,sA,sO,sS,i64_w,i32_w]
      rfl
     refine pure_ (i:=4) (N:=some 70) (v:=?_) (a':=?_) impl_commonTable.m32 rfl rfl (any_of HT_.out (by kernel_rfl)) (fun _ _ _ h=>h) (Or.inl ⟨by rfl,?_⟩) ?_ ?_
     rotate_left
     ·intro w'
      go_simp
      with_reducible rfl
     rotate_left
     ·simp only [Act.put,sA,sO,sS,i64_w,i32_w]
      rfl
     refine pure_ (i:=5) (N:=some 71) (v:=?_) (a':=?_) impl_commonTable.m33 rfl rfl (any_of HT_.out (by kernel_rfl)) (fun _ _ _ h=>h) (Or.inl ⟨by rfl,?_⟩) ?_ ?_
     rotate_left
     ·intro w'
      go_simp
      with_reducible rfl
     rotate_left
     ·simp only [Act.put,sA,sO,sS,i64_w,i32_w]
      rfl
     refine pure_ (i:=6) (N:=some 72) (v:=?_) (a':=?_) impl_commonTable.m34 rfl rfl (any_of HT_.out (by kernel_rfl)) (fun _ _ _ h=>h) (Or.inl ⟨by rfl,?_⟩) ?_ ?_
     rotate_left
     ·intro w'
      go_simp
      with_reducible rfl
     rotate_left
     ·simp only [Act.put,sA,sO,sS,i64_w,i32_w]
      rfl
     refine pure_ (i:=7) (N:=some 73) (v:=?_) (a':=?_) impl_commonTable.m35 rfl rfl (any_of HT_.out (by kernel_rfl)) (fun _ _ _ h=>h) (Or.inl ⟨by rfl,?_⟩) ?_ ?_
     rotate_left
     ·intro w'
      go_simp
      with_reducible rfl
     rotate_left
     ·simp only [Act.put,sA,sO,sS,i64_w,i32_w]
      rfl
     refine pure_ (i:=8) (N:=some 74) (v:=?_) (a':=?_) impl_commonTable.m36 rfl rfl (any_of HT_.out (by kernel_rfl)) (fun _ _ _ h=>h) (Or.inl ⟨by rfl,?_⟩) ?_ ?_
     rotate_left
     ·intro w'
      go_simp
      with_reducible rfl
     rotate_left
     ·simp only [Act.put,sA,sO,sS,i64_w,i32_w]
      rfl
     refine pure_ (i:=10) (N:=some 76) (v:=?_) (a':=?_) impl_commonTable.m37 rfl rfl (any_of HT_.out (by kernel_rfl)) (fun _ _ _ h=>h) (Or.inl ⟨by rfl,?_⟩) ?_ ?_
     rotate_left
     ·intro w'
      go_simp
      with_reducible rfl
     rotate_left
     ·simp only [Act.put,sA,sO,sS,i64_w,i32_w]
      rfl
     refine pure_ (i:=13) (N:=some 79) (v:=?_) (a':=?_) impl_commonTable.m38 rfl rfl (any_of HT_.out (by kernel_rfl)) (fun _ _ _ h=>h) (Or.inl ⟨by rfl,?_⟩) ?_ ?_
     rotate_left
     ·intro w'
      go_simp
      with_reducible rfl
     rotate_left
     ·simp only [Act.put,sA,sO,sS,i64_w,i32_w]
      rfl
     refine pure_ (i:=14) (N:=some 80) (v:=?_) (a':=?_) impl_commonTable.m39 rfl rfl (any_of HT_.out (by kernel_rfl)) (fun _ _ _ h=>h) (Or.inl ⟨by rfl,?_⟩) ?_ ?_
     rotate_left
     ·intro w'
      go_simp
      with_reducible rfl
     rotate_left
     ·simp only [Act.put,sA,sO,sS,i64_w,i32_w]
      rfl
     refine pure_ (i:=15) (N:=some 81) (v:=?_) (a':=?_) impl_commonTable.m40 rfl rfl (any_of HT_.out (by kernel_rfl)) (fun _ _ _ h=>h) (Or.inl ⟨by rfl,?_⟩) ?_ ?_
     rotate_left
     ·intro w'
      go_simp
      with_reducible rfl
     rotate_left
     ·simp only [Act.put,sA,sO,sS,i64_w,i32_w]
      rfl
     refine pure_ (i:=17) (N:=some 83) (v:=?_) (a':=?_) impl_commonTable.m41 rfl rfl (any_of HT_.out (by kernel_rfl)) (fun _ _ _ h=>h) (Or.inl ⟨by rfl,?_⟩) ?_ ?_
     rotate_left
     ·intro w'
      go_simp
      with_reducible rfl
     rotate_left
     ·simp only [Act.put,sA,sO,sS,i64_w,i32_w]
      rfl
     refine pure_ (i:=18) (N:=some 84) (v:=?_) (a':=?_) impl_commonTable.m42 rfl rfl (any_of HT_.out (by kernel_rfl)) (fun _ _ _ h=>h) (Or.inl ⟨by rfl,?_⟩) ?_ ?_
     rotate_left
     ·intro w'
      go_simp
      with_reducible rfl
     rotate_left
     ·simp only [Act.put,sA,sO,sS,i64_w,i32_w]
      rfl
     refine take_ (i:=3) (N:=some 69) (v:=?_) (a':=?_) impl_commonTable.m43 rfl rfl (take_ofW HT_.out HW_.out (by kernel_rfl)) (fun _ _ _ h=>h) (Or.inl ⟨by rfl,?_⟩) hHeld ?_ ?_
     rotate_left
     ·rintro w' ⟨s0,s1,s2,s3,s4⟩
      go_simp
      with_reducible rfl
     rotate_left
     ·simp only [Act.put,sA,sO,sS,i64_w,i32_w]
      rfl
     refine take_ (i:=9) (N:=some 75) (v:=?_) (a':=?_) impl_commonTable.m44 rfl rfl (take_ofW HT_.out HW_.out (by kernel_rfl)) (fun _ _ _ h=>h) (Or.inl ⟨by rfl,?_⟩) hHeld ?_ ?_
     rotate_left
     ·rintro w' ⟨s0,s1,s2,s3,s4⟩
      go_simp
      with_reducible rfl
     rotate_left
     ·simp only [Act.put,sA,sO,sS,i64_w,i32_w]
      rfl
     refine pure_ (i:=11) (N:=some 77) (v:=?_) (a':=?_) impl_commonTable.m45 rfl rfl (any_of HT_.out (by kernel_rfl)) (fun _ _ _ h=>h) (Or.inl ⟨by rfl,?_⟩) ?_ ?_
     rotate_left
     ·intro w'
      go_simp
      with_reducible rfl
     rotate_left
     ·simp only [Act.put,sA,sO,sS,i64_w,i32_w]
      rfl
     refine take_ (i:=12) (N:=some 78) (v:=?_) (a':=?_) impl_commonTable.m46 rfl rfl (take_ofW HT_.out HW_.out (by kernel_rfl)) (fun _ _ _ h=>h) (Or.inl ⟨by rfl,?_⟩) hHeld ?_ ?_
     rotate_left
     ·rintro w' ⟨s0,s1,s2,s3,s4⟩
      go_simp
      with_reducible rfl
     rotate_left
     ·simp only [Act.put,sA,sO,sS,i64_w,i32_w]
      rfl
     refine take_ (i:=16) (N:=some 82) (v:=?_) (a':=?_) impl_commonTable.m47 rfl rfl (take_ofW HT_.out HW_.out (by kernel_rfl)) (fun _ _ _ h=>h) (Or.inl ⟨by rfl,?_⟩) hHeld ?_ ?_
     rotate_left
     ·rintro w' ⟨s0,s1,s2,s3,s4⟩
      go_simp
      with_reducible rfl
     rotate_left
     ·simp only [Act.put,sA,sO,sS,i64_w,i32_w]
      rfl
     refine pure_ (i:=19) (N:=some 85) (v:=?_) (a':=?_) impl_commonTable.m48 rfl rfl (any_of HT_.out (by kernel_rfl)) (fun _ _ _ h=>h) (Or.inl ⟨by rfl,?_⟩) ?_ ?_
     rotate_left
     ·intro w'
      go_simp
      with_reducible rfl
     rotate_left
     ·simp only [Act.put,sA,sO,sS,i64_w,i32_w]
      rfl
     refine take_ (i:=20) (N:=some 86) (v:=?_) (a':=?_) impl_commonTable.m49 rfl rfl (take_ofW HT_.out HW_.out (by kernel_rfl)) (fun _ _ _ h=>h) (Or.inl ⟨by rfl,?_⟩) hHeld ?_ ?_
     rotate_left
     ·rintro w' ⟨s0,s1,s2,s3,s4⟩
      go_simp
      with_reducible rfl
     rotate_left
     ·simp only [Act.put,sA,sO,sS,i64_w,i32_w]
      rfl
     refine pure_ (i:=21) (N:=some 87) (v:=?_) (a':=?_) impl_commonTable.m50 rfl rfl (any_of HT_.out (by kernel_rfl)) (fun _ _ _ h=>h) (Or.inl ⟨by rfl,?_⟩) ?_ ?_
     rotate_left
     ·intro w'
      go_simp
      with_reducible rfl
     rotate_left
     ·simp only [Act.put,sA,sO,sS,i64_w,i32_w]
      rfl
     refine pure_ (i:=22) (N:=some 88) (v:=?_) (a':=?_) impl_commonTable.m51 rfl rfl (any_of HT_.out (by kernel_rfl)) (fun _ _ _ h=>h) (Or.inl ⟨by rfl,?_⟩) ?_ ?_
     rotate_left
     ·intro w'
      go_simp
      with_reducible rfl
     rotate_left
     ·simp only [Act.put,sA,sO,sS,i64_w,i32_w]
      rfl
     refine last_ (i:=23) (N:=none) impl_commonTable.m52 rfl rfl (one_of HT_.out (by kernel_rfl)) (by decide) (fun K hK=>?_)
     refine skip_ (w1:=?_) (by rfl) rfl ?_ ?_
     rotate_left
     ·go_simp
      rfl
     refine hK.out _ _ ?_
     clear hK K
     refine done_ (done_of HT_.out (by kernel_rfl)) ?_
     try go_wp2
     (try simp only [← hl11_2])
     go_roundg k2
     case measure=>have:=HK1.out;have:=HK2.out;omega
     case rel=>exact⟨(wrap64 (x7_2 - 1)),(y410),(by first|rfl|(simp;done)|(simp [*];done)),H',⟨by have:=HK1.out;have:=HK2.out;omega⟩,⟨by (try simp only [hl11_1]);(try simp only [hl11_2]);(with_reducible repeat (first|apply aS|apply nS|apply dS));exact HQ61.out⟩,⟨kB HB.out⟩⟩
end Go.Proofs.Ytadhngelhognaaa.QFnExactShareOf
