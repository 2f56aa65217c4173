-- A walk, made by walk.py, a program of this session's.
import Derived.Test.YtdiemmcnekbfaaaQFnPatchBackx0
import Derived.Test.YtdiemmcnekbfaaaQFnPatchBackx4
import Derived.Test.YtdiemmcnekbfaaaQFnPatchBackx7
import Derived.Test.YtdiemmcnekbfaaaQFnPatchBackx9
import Derived.Test.YtdiemmcnekbfaaaQFnPatchBackx10
import Derived.Test.YtdiemmcnekbfaaaQFnPatchBackx11
namespace Go.Proofs.Ytdiemmcnekbfaaa.QFnPatchBack
open Go.RowKit Go.Proofs.YtdiemmcnekbfaaaW.PrintWords Go.Proofs.YtdiemmcnekbfaaaW.PrintLast Go.Proofs.YtdiemmcnekbfaaaW.PrintMore
attribute [local go_sem] max2_int min2_int max_two min_two max_three min_three max_four min_four   -- for this text's walks alone
set_option linter.unusedVariables false
set_option linter.unusedSimpArgs false

/-! ### laws_FnPatchBack: function 5 -/
def laws_FnPatchBack.j0 : Nat → List Int → List Int → Bool → Bool → Bool → Int → List Int → Int → List Int → List Int → Option (Bool)
 | 0, _, _, _, _, _, _, _, _, _, _ => none
 | k + 1, x3, x4, x6, x8, x36, x488000, x488001, x488002, x488003, x488004 => if x36 = true then (some (x8 == x6)) else ((some (([] : List Int) : List Int)).bind fun y488 => (if y488.length + x3.length < 17592186044416 then ((impl_PatchDo.f k (y488 ++ x3) x488000 x488001 x488002 x488003 x488004).bind fun bt494 => (if bt494.2 = true then ((laws_same.f k bt494.1 x4).bind fun t498 => (if t498 = true then ((spec_CommonLen.f k x3 x4).bind fun t499 => (if (x488004.length : Int) = (wrap64 ((x4.length : Int) - t499)) then (some (x488000 == (x3.length : Int))) else (some false))) else (some false))) else (some false))) else (none)))
def laws_FnPatchBack.f (k : Nat) (l0 : List Int) : Option (Bool) := (laws_big.f l0).bind fun t455 => (if t455 = true then (some true) else ((spec_DrawPatchOf.f k l0).bind fun bt456 => ((spec_PatchOf.f k bt456.1 bt456.2).bind fun bt462 => ((impl_PatchOf.f k bt456.1 bt456.2).bind fun bt475 => (if (bt475.2.2.2.2.2 != bt462.2.2.2.2.2) = true then (laws_FnPatchBack.j0 k bt456.1 bt456.2 bt462.2.2.2.2.2 bt475.2.2.2.2.2 true bt475.1 bt475.2.1 bt475.2.2.1 bt475.2.2.2.1 bt475.2.2.2.2.1) else (laws_FnPatchBack.j0 k bt456.1 bt456.2 bt462.2.2.2.2.2 bt475.2.2.2.2.2 (!bt475.2.2.2.2.2) bt475.1 bt475.2.1 bt475.2.2.1 bt475.2.2.2.1 bt475.2.2.2.2.1))))))
theorem laws_FnPatchBack.mono_l : ∀ k, (∀ y0 y1 y2 y3 y4 y5 y6 y7 y8 y9, LeO (laws_FnPatchBack.j0 k y0 y1 y2 y3 y4 y5 y6 y7 y8 y9) (laws_FnPatchBack.j0 (k + 1) y0 y1 y2 y3 y4 y5 y6 y7 y8 y9))
 | 0 => fun _ _ _ _ _ _ _ _ _ _ r h => by simp [laws_FnPatchBack.j0] at h
 | k + 1 => by
  have ih0 := laws_FnPatchBack.mono_l k
  ·intro y0 y1 y2 y3 y4 y5 y6 y7 y8 y9
   unfold laws_FnPatchBack.j0
   repeat' first|(with_reducible first|exact ih0 _ _ _ _ _ _ _ _ _ _|exact impl_PatchDo.mono _ _ _ _ _ _ _|exact impl_PatchOf.mono _ _ _|exact laws_same.mono _ _ _|exact spec_CommonLen.mono _ _ _|exact spec_DrawPatchOf.mono _ _|exact spec_PatchOf.mono _ _ _|exact LeO.refl _|exact LeO.none _|refine LeO.ite ?_ ?_|refine LeO.bind ?_ (fun _ => ?_))|exact LeO.none _|refine LeO.ite ?_ ?_|refine LeO.bind ?_ (fun _ => ?_)
theorem laws_FnPatchBack.mono : ∀ a0 k, LeO (laws_FnPatchBack.f k a0) (laws_FnPatchBack.f (k + 1) a0) := by
 intro a0 k
 have ih0 := laws_FnPatchBack.mono_l k
 unfold laws_FnPatchBack.f
 repeat' first|(with_reducible first|exact ih0 _ _ _ _ _ _ _ _ _ _|exact impl_PatchDo.mono _ _ _ _ _ _ _|exact impl_PatchOf.mono _ _ _|exact laws_same.mono _ _ _|exact spec_CommonLen.mono _ _ _|exact spec_DrawPatchOf.mono _ _|exact spec_PatchOf.mono _ _ _|exact LeO.refl _|exact LeO.none _|refine LeO.ite ?_ ?_|refine LeO.bind ?_ (fun _ => ?_))|exact LeO.none _|refine LeO.ite ?_ ?_|refine LeO.bind ?_ (fun _ => ?_)
def laws_FnPatchBack.T8 : Bool × List (List Nat × List Nat) := (true, [([], []), ([], []), ([0, 1], [0, 1]), ([], []), ([2, 3, 2], [2, 3]), ([4], [4]), ([5], [5]), ([5], [5]), ([6, 4, 0, 1, 2, 3, 4, 5, 6], [6]), ([7, 8, 0, 1, 2, 3, 4, 5, 6, 7, 8], [7])])
def laws_FnPatchBack.B8 : List Nat := [0, 0, 3, 0, 15, 31, 63, 63, 127, 511]
theorem laws_FnPatchBack.tab8 : rtab .any (opsOf Try.f5 8) = laws_FnPatchBack.T8 := by kernel_rfl
theorem laws_FnPatchBack.bits8 : waitsOk laws_FnPatchBack.T8.2 laws_FnPatchBack.B8 = true := by kernel_rfl
def laws_FnPatchBack.T9 : Bool × List (List Nat × List Nat) := (true, [([], []), ([0], [0]), ([1], [1]), ([1], [1]), ([2, 3, 1, 1], [1, 2, 3]), ([1, 4], [1, 4]), ([5, 4], [5]), ([6], [6]), ([7, 6], [6, 7]), ([8, 6], [6, 8]), ([6], [6]), ([10, 6], [6, 10]), ([6], [6]), ([6], [6]), ([12, 13, 6, 6], [6, 12, 13]), ([11, 14, 6], [6, 11, 14]), ([9, 15, 6], [6, 9, 15]), ([6, 16], [6, 16]), ([17, 14], [17]), ([18], [18]), ([19, 18], [18, 19]), ([20, 18], [18, 20]), ([18], [18]), ([22, 18], [18, 22]), ([21, 23, 18], [18, 21, 23]), ([18, 24], [18, 24]), ([25, 18, 0, 1, 2, 3, 4, 5, 6, 7, 8, 9, 10, 11, 12, 13, 14, 15, 16, 17, 18, 19, 20, 21, 22, 23, 24, 25], [25])])
def laws_FnPatchBack.B9 : List Nat := [0, 1, 3, 3, 15, 31, 63, 127, 255, 511, 127, 1151, 127, 127, 12415, 31871, 65535, 131071, 262143, 524287, 1048575, 2097151, 524287, 4718591, 16777215, 33554431, 67108863]
theorem laws_FnPatchBack.tab9 : rtab .any (opsOf Try.f5 9) = laws_FnPatchBack.T9 := by kernel_rfl
theorem laws_FnPatchBack.bits9 : waitsOk laws_FnPatchBack.T9.2 laws_FnPatchBack.B9 = true := by kernel_rfl
abbrev laws_FnPatchBack.m0 : Array Bool := #[F,F,F,F,F,F,F,F,F,F]
abbrev laws_FnPatchBack.m1 : Array Bool := #[F,T,F,F,F,F,F,F,F,F]
abbrev laws_FnPatchBack.m2 : Array Bool := #[F,T,F,T,F,F,F,F,F,F]
abbrev laws_FnPatchBack.m3 : Array Bool := #[T,T,F,T,F,F,F,F,F,F]
abbrev laws_FnPatchBack.m4 : Array Bool := #[T,T,T,T,F,F,F,F,F,F]
abbrev laws_FnPatchBack.m5 : Array Bool := #[T,T,T,T,T,F,F,F,F,F]
abbrev laws_FnPatchBack.m6 : Array Bool := #[T,T,T,T,T,T,F,F,F,F]
abbrev laws_FnPatchBack.m7 : Array Bool := #[T,T,T,T,T,T,T,F,F,F]
abbrev laws_FnPatchBack.m8 : Array Bool := #[T,T,T,T,T,T,T,T,F,F]
abbrev laws_FnPatchBack.m9 : Array Bool := #[T,T,T,T,T,T,T,T,T,F]
abbrev laws_FnPatchBack.m10 : Array Bool := #[T,T,T,T,T,T,T,T,T,T]
abbrev laws_FnPatchBack.m11 : Array Bool := #[F,F,F,F,F,F,F,F,F,F,F,F,F,F,F,F,F,F,F,F,F,F,F,F,F,F,F]
abbrev laws_FnPatchBack.m12 : Array Bool := #[T,F,F,F,F,F,F,F,F,F,F,F,F,F,F,F,F,F,F,F,F,F,F,F,F,F,F]
abbrev laws_FnPatchBack.m13 : Array Bool := #[T,T,F,F,F,F,F,F,F,F,F,F,F,F,F,F,F,F,F,F,F,F,F,F,F,F,F]
abbrev laws_FnPatchBack.m14 : Array Bool := #[T,T,T,F,F,F,F,F,F,F,F,F,F,F,F,F,F,F,F,F,F,F,F,F,F,F,F]
abbrev laws_FnPatchBack.m15 : Array Bool := #[T,T,T,T,F,F,F,F,F,F,F,F,F,F,F,F,F,F,F,F,F,F,F,F,F,F,F]
abbrev laws_FnPatchBack.m16 : Array Bool := #[T,T,T,T,T,F,F,F,F,F,F,F,F,F,F,F,F,F,F,F,F,F,F,F,F,F,F]
abbrev laws_FnPatchBack.m17 : Array Bool := #[T,T,T,T,T,T,F,F,F,F,F,F,F,F,F,F,F,F,F,F,F,F,F,F,F,F,F]
abbrev laws_FnPatchBack.m18 : Array Bool := #[T,T,T,T,T,T,T,F,F,F,F,F,F,F,F,F,F,F,F,F,F,F,F,F,F,F,F]
abbrev laws_FnPatchBack.m19 : Array Bool := #[T,T,T,T,T,T,T,T,F,F,F,F,F,F,F,F,F,F,F,F,F,F,F,F,F,F,F]
abbrev laws_FnPatchBack.m20 : Array Bool := #[T,T,T,T,T,T,T,T,T,F,F,F,F,F,F,F,F,F,F,F,F,F,F,F,F,F,F]
abbrev laws_FnPatchBack.m21 : Array Bool := #[T,T,T,T,T,T,T,T,T,T,F,F,F,F,F,F,F,F,F,F,F,F,F,F,F,F,F]
abbrev laws_FnPatchBack.m22 : Array Bool := #[T,T,T,T,T,T,T,T,T,T,T,F,F,F,F,F,F,F,F,F,F,F,F,F,F,F,F]
abbrev laws_FnPatchBack.m23 : Array Bool := #[T,T,T,T,T,T,T,T,T,T,T,T,F,F,F,F,F,F,F,F,F,F,F,F,F,F,F]
abbrev laws_FnPatchBack.m24 : Array Bool := #[T,T,T,T,T,T,T,T,T,T,T,T,T,F,F,F,F,F,F,F,F,F,F,F,F,F,F]
abbrev laws_FnPatchBack.m25 : Array Bool := #[T,T,T,T,T,T,T,T,T,T,T,T,T,T,F,F,F,F,F,F,F,F,F,F,F,F,F]
abbrev laws_FnPatchBack.m26 : Array Bool := #[T,T,T,T,T,T,T,T,T,T,T,T,T,T,T,F,F,F,F,F,F,F,F,F,F,F,F]
abbrev laws_FnPatchBack.m27 : Array Bool := #[T,T,T,T,T,T,T,T,T,T,T,T,T,T,T,T,F,F,F,F,F,F,F,F,F,F,F]
abbrev laws_FnPatchBack.m28 : Array Bool := #[T,T,T,T,T,T,T,T,T,T,T,T,T,T,T,T,T,F,F,F,F,F,F,F,F,F,F]
abbrev laws_FnPatchBack.m29 : Array Bool := #[T,T,T,T,T,T,T,T,T,T,T,T,T,T,T,T,T,T,F,F,F,F,F,F,F,F,F]
abbrev laws_FnPatchBack.m30 : Array Bool := #[T,T,T,T,T,T,T,T,T,T,T,T,T,T,T,T,T,T,T,F,F,F,F,F,F,F,F]
abbrev laws_FnPatchBack.m31 : Array Bool := #[T,T,T,T,T,T,T,T,T,T,T,T,T,T,T,T,T,T,T,T,F,F,F,F,F,F,F]
abbrev laws_FnPatchBack.m32 : Array Bool := #[T,T,T,T,T,T,T,T,T,T,T,T,T,T,T,T,T,T,T,T,T,F,F,F,F,F,F]
abbrev laws_FnPatchBack.m33 : Array Bool := #[T,T,T,T,T,T,T,T,T,T,T,T,T,T,T,T,T,T,T,T,T,T,F,F,F,F,F]
abbrev laws_FnPatchBack.m34 : Array Bool := #[T,T,T,T,T,T,T,T,T,T,T,T,T,T,T,T,T,T,T,T,T,T,T,F,F,F,F]
abbrev laws_FnPatchBack.m35 : Array Bool := #[T,T,T,T,T,T,T,T,T,T,T,T,T,T,T,T,T,T,T,T,T,T,T,T,F,F,F]
abbrev laws_FnPatchBack.m36 : Array Bool := #[T,T,T,T,T,T,T,T,T,T,T,T,T,T,T,T,T,T,T,T,T,T,T,T,T,F,F]
abbrev laws_FnPatchBack.m37 : Array Bool := #[T,T,T,T,T,T,T,T,T,T,T,T,T,T,T,T,T,T,T,T,T,T,T,T,T,T,F]
abbrev laws_FnPatchBack.m38 : Array Bool := #[T,T,T,T,T,T,T,T,T,T,T,T,T,T,T,T,T,T,T,T,T,T,T,T,T,T,T]
abbrev laws_FnPatchBack.m39 : Array Bool := #[T,T,T,T,T,T,T,T,F,F,T,F,F,F,F,F,F,F,F,F,F,F,F,F,F,F,F]
abbrev laws_FnPatchBack.m40 : Array Bool := #[T,T,T,T,T,T,T,T,F,F,T,T,F,F,F,F,F,F,F,F,F,F,F,F,F,F,F]
abbrev laws_FnPatchBack.m41 : Array Bool := #[T,T,T,T,T,T,T,T,F,F,T,T,T,F,F,F,F,F,F,F,F,F,F,F,F,F,F]
abbrev laws_FnPatchBack.m42 : Array Bool := #[T,T,T,T,T,T,T,T,F,F,T,T,T,T,F,F,F,F,F,F,F,F,F,F,F,F,F]
abbrev laws_FnPatchBack.m43 : Array Bool := #[T,T,T,T,T,T,T,T,T,F,T,T,T,T,F,F,F,F,F,F,F,F,F,F,F,F,F]
abbrev laws_FnPatchBack.m44 : Array Bool := #[T,T,T,T,T,T,T,T,T,T,T,T,T,T,T,T,T,T,T,T,T,F,T,F,F,F,F]
abbrev laws_FnPatchBack.m45 : Array Bool := #[T,T,T,T,T,T,T,T,T,T,T,T,T,T,T,T,T,T,T,T,T,F,T,T,F,F,F]
set_option maxHeartbeats 8000000 in
set_option maxRecDepth 100000 in
theorem laws_FnPatchBack.calls (k : Nat) (A0 : Option Addr) (c0 : Nat) (l0 : List Int) (r : Bool) (w : World) (hr0 : Kd.C (Kd.int .u8) w A0 l0.length l0) (hc0 : l0.length ≤ c0) (h : laws_FnPatchBack.f k l0 = some r) :
  Calls Try.prog 5 #[.slice A0 l0.length c0] w fun e w' => e = .returned (.bool r) ∧ Below w.heap.size w w' := by
 have hu27:=Try.underlying27
 have HR0:=mk0 hr0
 have HC0:=mk0 hc0
 clear hr0 hc0
 have HB:=mk0 (Below.refl w.heap.size w)
 have H:((laws_big.f l0).bind fun t455=>(if t455 = true then (some true) else ((spec_DrawPatchOf.f k l0).bind fun bt456=>((spec_PatchOf.f k bt456.1 bt456.2).bind fun bt462=>((impl_PatchOf.f k bt456.1 bt456.2).bind fun bt475=>(if (bt475.2.2.2.2.2 != bt462.2.2.2.2.2) = true then (laws_FnPatchBack.j0 k bt456.1 bt456.2 bt462.2.2.2.2.2 bt475.2.2.2.2.2 true bt475.1 bt475.2.1 bt475.2.2.1 bt475.2.2.2.1 bt475.2.2.2.2.1) else (laws_FnPatchBack.j0 k bt456.1 bt456.2 bt462.2.2.2.2.2 bt475.2.2.2.2.2 (!bt475.2.2.2.2.2) bt475.1 bt475.2.1 bt475.2.2.1 bt475.2.2.2.1 bt475.2.2.2.2.1))))))) = some r:=h
 clear h
 replace H:=Option.bind_eq_some_iff.mp H
 obtain⟨t455,A20,H⟩:=H
 replace H:(if t455 = true then (some true) else ((spec_DrawPatchOf.f k l0).bind fun bt456=>((spec_PatchOf.f k bt456.1 bt456.2).bind fun bt462=>((impl_PatchOf.f k bt456.1 bt456.2).bind fun bt475=>(if (bt475.2.2.2.2.2 != bt462.2.2.2.2.2) = true then (laws_FnPatchBack.j0 k bt456.1 bt456.2 bt462.2.2.2.2.2 bt475.2.2.2.2.2 true bt475.1 bt475.2.1 bt475.2.2.1 bt475.2.2.2.1 bt475.2.2.2.2.1) else (laws_FnPatchBack.j0 k bt456.1 bt456.2 bt462.2.2.2.2.2 bt475.2.2.2.2.2 (!bt475.2.2.2.2.2) bt475.1 bt475.2.1 bt475.2.2.1 bt475.2.2.2.1 bt475.2.2.2.2.1)))))) = some r:=H
 have A2:=mk0 A20
 clear A20
 by_cases c3:t455 = true
 ·subst c3
  have H1:(some true) = some r:=by rw [if_pos rfl] at H;exact H
  clear H
  have H:=H1
  clear H1
  obtain rfl:=Option.some.inj H
  go_enter Try.func5,Try.ntmps5
  go_wp2_with (first|((with_reducible refine gate_callee (f:=19) rfl ?_);refine goesL_ (some 12) rfl rfl Try.func19 (by kernel_rfl) rfl #[.slice A0 l0.length c0] rfl (by (try simp only [mA,mC,mN]);first|done|rfl|(simp only [List.length_drop,List.length_take];rfl)) ?_;(with_reducible refine (laws_big.calls _ _ l0 true _ ?side1 ?side2 A2.out).mono ?_);(case side1=>repeat (first|exact HR0.out|(with_reducible first|apply aC|apply nC|apply dC)));(case side2=>exact HC0.out);rintro e w' ⟨rfl,⟨nd,rfl⟩⟩;refine⟨_,rfl,?_⟩))
  go_ret
  exact⟨by first|rfl|(simp [errW_none,errW_some] <;> rfl)|(simp [*,errW_none,errW_some] <;> rfl),by repeat (first|(with_reducible first|exact HB.out|apply aZ|apply nZ|apply dZ)|exact HB.out)⟩
 replace c3:=Bool.eq_false_iff.mpr c3
 subst c3
 have H1:((spec_DrawPatchOf.f k l0).bind fun bt456=>((spec_PatchOf.f k bt456.1 bt456.2).bind fun bt462=>((impl_PatchOf.f k bt456.1 bt456.2).bind fun bt475=>(if (bt475.2.2.2.2.2 != bt462.2.2.2.2.2) = true then (laws_FnPatchBack.j0 k bt456.1 bt456.2 bt462.2.2.2.2.2 bt475.2.2.2.2.2 true bt475.1 bt475.2.1 bt475.2.2.1 bt475.2.2.2.1 bt475.2.2.2.2.1) else (laws_FnPatchBack.j0 k bt456.1 bt456.2 bt462.2.2.2.2.2 bt475.2.2.2.2.2 (!bt475.2.2.2.2.2) bt475.1 bt475.2.1 bt475.2.2.1 bt475.2.2.2.1 bt475.2.2.2.2.1))))) = some r:=by rw [if_neg (show ¬ (false = true) by decide)] at H;exact H
 clear H
 have H:=H1
 clear H1
 replace H:=Option.bind_eq_some_iff.mp H
 obtain⟨⟨t456,t457⟩,A40,H⟩:=H
 replace H:((spec_PatchOf.f k t456 t457).bind fun bt462=>((impl_PatchOf.f k t456 t457).bind fun bt475=>(if (bt475.2.2.2.2.2 != bt462.2.2.2.2.2) = true then (laws_FnPatchBack.j0 k t456 t457 bt462.2.2.2.2.2 bt475.2.2.2.2.2 true bt475.1 bt475.2.1 bt475.2.2.1 bt475.2.2.2.1 bt475.2.2.2.2.1) else (laws_FnPatchBack.j0 k t456 t457 bt462.2.2.2.2.2 bt475.2.2.2.2.2 (!bt475.2.2.2.2.2) bt475.1 bt475.2.1 bt475.2.2.1 bt475.2.2.2.1 bt475.2.2.2.2.1)))) = some r:=H
 have A4:=mk0 A40
 clear A40
 replace H:=Option.bind_eq_some_iff.mp H
 obtain⟨⟨t462,t463,t466,t467,t470,t473⟩,A50,H⟩:=H
 replace H:((impl_PatchOf.f k t456 t457).bind fun bt475=>(if (bt475.2.2.2.2.2 != t473) = true then (laws_FnPatchBack.j0 k t456 t457 t473 bt475.2.2.2.2.2 true bt475.1 bt475.2.1 bt475.2.2.1 bt475.2.2.2.1 bt475.2.2.2.2.1) else (laws_FnPatchBack.j0 k t456 t457 t473 bt475.2.2.2.2.2 (!bt475.2.2.2.2.2) bt475.1 bt475.2.1 bt475.2.2.1 bt475.2.2.2.1 bt475.2.2.2.2.1))) = some r:=H
 have A5:=mk0 A50
 clear A50
 replace H:=Option.bind_eq_some_iff.mp H
 obtain⟨⟨t475,t476,t479,t480,t483,t486⟩,A60,H⟩:=H
 replace H:(if (t486 != t473) = true then (laws_FnPatchBack.j0 k t456 t457 t473 t486 true t475 t476 t479 t480 t483) else (laws_FnPatchBack.j0 k t456 t457 t473 t486 (!t486) t475 t476 t479 t480 t483)) = some r:=H
 have A6:=mk0 A60
 clear A60
 have HC7:=mk0 H
 clear H
 go_enter Try.func5,Try.ntmps5
 go_upto_region 6 with (first|((with_reducible refine gate_callee (f:=19) rfl ?_);refine goesL_ (some 12) rfl rfl Try.func19 (by kernel_rfl) rfl #[.slice A0 l0.length c0] rfl (by (try simp only [mA,mC,mN]);first|done|rfl|(simp only [List.length_drop,List.length_take];rfl)) ?_;(with_reducible refine (laws_big.calls _ _ l0 false _ ?side1 ?side2 A2.out).mono ?_);(case side1=>repeat (first|exact HR0.out|(with_reducible first|apply aC|apply nC|apply dC)));(case side2=>exact HC0.out);rintro e w' ⟨rfl,⟨nd,rfl⟩⟩;refine⟨_,rfl,?_⟩)|((with_reducible refine gate_callee (f:=20) rfl ?_);refine goesL_ (some 15) rfl rfl Try.func20 (by kernel_rfl) rfl #[.slice A0 l0.length c0] rfl (by (try simp only [mA,mC,mN]);first|done|rfl|(simp only [List.length_drop,List.length_take];rfl)) ?_;(with_reducible refine (spec_DrawPatchOf.calls k _ _ l0 t456 t457 _ ?side1 ?side2 A4.out).mono ?_);(case side1=>repeat (first|exact HR0.out|(with_reducible first|apply aC|apply nC|apply dC)));(case side2=>exact HC0.out);rintro e w8 ⟨v458,v460,rfl,ho0,ho1,hb⟩;refine⟨_,rfl,?_⟩;have n0_:=mk0 (Kd.R_lower ho0 (below_size (by repeat (first|(with_reducible first|exact HB.out|apply aZ|apply nZ|apply dZ)|exact HB.out))));have n1_:=mk0 (Kd.R_lower ho1 (below_size (by repeat (first|(with_reducible first|exact HB.out|apply aZ|apply nZ|apply dZ)|exact HB.out))));have n2_:=mk0 (below_step (by repeat (first|(with_reducible first|exact HB.out|apply aZ|apply nZ|apply dZ)|exact HB.out)) hb);clear HB;have HO459:=n0_;have HO461:=n1_;have HB:=n2_;clear n0_ n1_ n2_;(try clear hb);(try clear hb2);(try clear hk);(try clear hi);(try clear ho0);(try clear ho1);obtain⟨Ao9,co9,eo9⟩:=Kd.R_slice HO459.out;subst eo9;obtain⟨Ao10,co10,eo10⟩:=Kd.R_slice HO461.out;subst eo10)|((with_reducible refine gate_callee (f:=6) rfl ?_);refine goesL_ (some 21) rfl rfl Try.func6 (by kernel_rfl) rfl #[.slice Ao9 t456.length co9,.slice Ao10 t457.length co10] rfl (by (try simp only [mA,mC,mN]);first|done|rfl|(simp only [List.length_drop,List.length_take];rfl)) ?_;(with_reducible refine (spec_PatchOf.calls k _ _ t456 _ _ t457 t462 t463 t466 t467 t470 t473 _ ?side1 ?side2 ?side3 ?side4 A5.out).mono ?_);(case side1=>repeat (first|exact (Kd.R_reads' HO459.out).2.2|(with_reducible first|apply aC|apply nC|apply dC)));(case side2=>exact (Kd.R_reads' HO459.out).2.1);(case side3=>repeat (first|exact (Kd.R_reads' HO461.out).2.2|(with_reducible first|apply aC|apply nC|apply dC)));(case side4=>exact (Kd.R_reads' HO461.out).2.1);rintro e w11 ⟨v464,v468,v471,rfl,ho0,ho1,ho2,hb⟩;refine⟨_,rfl,?_⟩;have n0_:=mk0 (Kd.R_elder' (by (with_reducible repeat (first|apply aR|apply nR|apply dR));exact HO459.out) (Kd.R_base ho2) hb);have n1_:=mk0 (Kd.R_elder' (by (with_reducible repeat (first|apply aR|apply nR|apply dR));exact HO461.out) (Kd.R_base ho2) hb);have n2_:=mk0 (Kd.R_lower ho0 (below_size (by repeat (first|(with_reducible first|exact HB.out|apply aZ|apply nZ|apply dZ)|exact HB.out))));have n3_:=mk0 (Kd.R_lower ho1 (below_size (by repeat (first|(with_reducible first|exact HB.out|apply aZ|apply nZ|apply dZ)|exact HB.out))));have n4_:=mk0 (Kd.R_lower (Kd.R_new' (Kd.R_new' ho2 (Kd.R_lt (by (with_reducible repeat (first|apply aR|apply nR|apply dR));exact HO459.out))) (Kd.R_lt (by (with_reducible repeat (first|apply aR|apply nR|apply dR));exact HO461.out))) (below_size (by repeat (first|(with_reducible first|exact HB.out|apply aZ|apply nZ|apply dZ)|exact HB.out))));have n5_:=mk0 (below_step (by repeat (first|(with_reducible first|exact HB.out|apply aZ|apply nZ|apply dZ)|exact HB.out)) hb);clear HO459 HO461 HB;have HO459:=n0_;have HO461:=n1_;have HO465:=n2_;have HO469:=n3_;have HO472:=n4_;have HB:=n5_;clear n0_ n1_ n2_ n3_ n4_ n5_;(try clear hb);(try clear hb2);(try clear hk);(try clear hi);(try clear ho0);(try clear ho1);(try clear ho2))|((with_reducible refine gate_dst (N:=5) rfl ?_);(try (refine gate_guard (by rfl) ?_;dsimp only));refine box_event ?hg (N:=5) ?hd (cs:=#[.int .i64 0,.slice none 0 0,.int .i64 0,.slice none 0 0,.slice none 0 0]) (t:=27) ?hr ?_;(case hd=>rfl);(case hg=>rfl);(case hr=>first|(go_simp;done)|(go_simp;rfl));intro gb474 hg w12 hbox hb;have n0_:=mk0 (Kd.R_below (by (with_reducible repeat (first|apply aR|apply nR|apply dR));exact HO459.out) hb);have n1_:=mk0 (Kd.R_below (by (with_reducible repeat (first|apply aR|apply nR|apply dR));exact HO461.out) hb);have n2_:=mk0 (Kd.R_below (by (with_reducible repeat (first|apply aR|apply nR|apply dR));exact HO465.out) hb);have n3_:=mk0 (Kd.R_below (by (with_reducible repeat (first|apply aR|apply nR|apply dR));exact HO469.out) hb);have n4_:=mk0 (Kd.R_below (by (with_reducible repeat (first|apply aR|apply nR|apply dR));exact HO472.out) hb);have n5_:=mk0 (below_step (by repeat (first|(with_reducible first|exact HB.out|apply aZ|apply nZ|apply dZ)|exact HB.out)) hb);have n6_:=mk0 (hbox);have n7_:=mk0 ((by rw [hg];exact (below_size (by repeat (first|(with_reducible first|exact HB.out|apply aZ|apply nZ|apply dZ)|exact HB.out))):w.heap.size ≤ gb474));have n8_:=mk0 ((by rw [hg];exact (below_size (by repeat (first|(with_reducible first|exact HB.out|apply aZ|apply nZ|apply dZ)|exact HB.out))):w.heap.size ≤ gb474));clear HO459 HO461 HO465 HO469 HO472 HB;have HO459:=n0_;have HO461:=n1_;have HO465:=n2_;have HO469:=n3_;have HO472:=n4_;have HB:=n5_;have BK474:=n6_;have GW474:=n7_;have GE474:=n8_;clear n0_ n1_ n2_ n3_ n4_ n5_ n6_ n7_ n8_ hb hbox hg;have hcz13_0:w12.cell? ⟨gb474,0,none⟩ = some (.int .i64 0):=(blk_cell BK474.out 0).trans rfl;have hcz13_1:w12.cell? ⟨gb474,1,none⟩ = some (.slice none 0 0):=(blk_cell BK474.out 1).trans rfl;have hcz13_2:w12.cell? ⟨gb474,2,none⟩ = some (.int .i64 0):=(blk_cell BK474.out 2).trans rfl;have hcz13_3:w12.cell? ⟨gb474,3,none⟩ = some (.slice none 0 0):=(blk_cell BK474.out 3).trans rfl;have hcz13_4:w12.cell? ⟨gb474,4,none⟩ = some (.slice none 0 0):=(blk_cell BK474.out 4).trans rfl;have hfz13_0:=blk_frozen BK474.out 0;have hfz13_1:=blk_frozen BK474.out 1;have hfz13_2:=blk_frozen BK474.out 2;have hfz13_3:=blk_frozen BK474.out 3;have hfz13_4:=blk_frozen BK474.out 4;obtain⟨Ao14,co14,eo14⟩:=Kd.R_slice HO465.out;subst eo14;obtain⟨Ao15,co15,eo15⟩:=Kd.R_slice HO469.out;subst eo15;obtain⟨Ao16,co16,eo16⟩:=Kd.R_slice HO472.out;subst eo16)|((with_reducible refine gate_callee (f:=8) rfl ?_);refine goesL_ (some 27) rfl rfl Try.func8 (by kernel_rfl) rfl #[.slice Ao9 t456.length co9,.slice Ao10 t457.length co10] rfl (by (try simp only [mA,mC,mN]);first|done|rfl|(simp only [List.length_drop,List.length_take];rfl)) ?_;(with_reducible refine (impl_PatchOf.calls k _ _ t456 _ _ t457 t475 t476 t479 t480 t483 t486 _ ?side1 ?side2 ?side3 ?side4 A6.out).mono ?_);(case side1=>refine (Kd.R_reads' (e:=3) (base:=w.heap.size) (ok:=fun k_=>(some k_ ≠ (.slice Ao10 t457.length co10:Value).ownBlock ∧ some k_ ≠ (.slice Ao16 t470.length co16:Value).ownBlock)) (n:=t456.length) (c:=co9) ?_).2.2;exact (by (with_reducible repeat (first|apply aR|apply nR|apply dR));exact (Kd.R_mono (Kd.R_far (p:=⟨gb474,4,none⟩) (Kd.R_far (p:=⟨gb474,3,none⟩) (Kd.R_far (p:=⟨gb474,2,none⟩) (Kd.R_far (p:=⟨gb474,1,none⟩) (Kd.R_far (p:=⟨gb474,0,none⟩) (Kd.R_types HO459.out BK474.out (by decide)) (by first|exact fun _ hk=>hk.2|(intro k_ hk;simp only [hk,ne_eq,and_self,not_false_eq_true])) (.int .i64 t462)) (by first|exact fun _ hk=>hk.2|(intro k_ hk;simp only [hk,ne_eq,and_self,not_false_eq_true])) (.slice Ao14 t463.length co14)) (by first|exact fun _ hk=>hk.2|(intro k_ hk;simp only [hk,ne_eq,and_self,not_false_eq_true])) (.int .i64 t466)) (by first|exact fun _ hk=>hk.2|(intro k_ hk;simp only [hk,ne_eq,and_self,not_false_eq_true])) (.slice Ao15 t467.length co15)) (by first|exact fun _ hk=>hk.2|(intro k_ hk;simp only [hk,ne_eq,and_self,not_false_eq_true])) (.slice Ao16 t470.length co16)) (fun _ h_=>h_.1))));(case side2=>exact (Kd.R_reads' HO459.out).2.1);(case side3=>refine (Kd.R_reads' (e:=3) (base:=w.heap.size) (ok:=fun k_=>(some k_ ≠ (.slice Ao9 t456.length co9:Value).ownBlock ∧ some k_ ≠ (.slice Ao16 t470.length co16:Value).ownBlock)) (n:=t457.length) (c:=co10) ?_).2.2;exact (by (with_reducible repeat (first|apply aR|apply nR|apply dR));exact (Kd.R_mono (Kd.R_far (p:=⟨gb474,4,none⟩) (Kd.R_far (p:=⟨gb474,3,none⟩) (Kd.R_far (p:=⟨gb474,2,none⟩) (Kd.R_far (p:=⟨gb474,1,none⟩) (Kd.R_far (p:=⟨gb474,0,none⟩) (Kd.R_types HO461.out BK474.out (by decide)) (by first|exact fun _ hk=>hk.2|(intro k_ hk;simp only [hk,ne_eq,and_self,not_false_eq_true])) (.int .i64 t462)) (by first|exact fun _ hk=>hk.2|(intro k_ hk;simp only [hk,ne_eq,and_self,not_false_eq_true])) (.slice Ao14 t463.length co14)) (by first|exact fun _ hk=>hk.2|(intro k_ hk;simp only [hk,ne_eq,and_self,not_false_eq_true])) (.int .i64 t466)) (by first|exact fun _ hk=>hk.2|(intro k_ hk;simp only [hk,ne_eq,and_self,not_false_eq_true])) (.slice Ao15 t467.length co15)) (by first|exact fun _ hk=>hk.2|(intro k_ hk;simp only [hk,ne_eq,and_self,not_false_eq_true])) (.slice Ao16 t470.length co16)) (fun _ h_=>h_.1))));(case side4=>exact (Kd.R_reads' HO461.out).2.1);rintro e w17 ⟨v477,v481,v484,rfl,ho0,ho1,ho2,hb⟩;refine⟨_,rfl,?_⟩;have n0_:=mk0 (Kd.R_elder' (by (with_reducible repeat (first|apply aR|apply nR|apply dR));exact (Kd.R_mono (Kd.R_far (p:=⟨gb474,4,none⟩) (Kd.R_far (p:=⟨gb474,3,none⟩) (Kd.R_far (p:=⟨gb474,2,none⟩) (Kd.R_far (p:=⟨gb474,1,none⟩) (Kd.R_far (p:=⟨gb474,0,none⟩) (Kd.R_types HO459.out BK474.out (by decide)) (by first|exact fun _ hk=>hk.2|(intro k_ hk;simp only [hk,ne_eq,and_self,not_false_eq_true])) (.int .i64 t462)) (by first|exact fun _ hk=>hk.2|(intro k_ hk;simp only [hk,ne_eq,and_self,not_false_eq_true])) (.slice Ao14 t463.length co14)) (by first|exact fun _ hk=>hk.2|(intro k_ hk;simp only [hk,ne_eq,and_self,not_false_eq_true])) (.int .i64 t466)) (by first|exact fun _ hk=>hk.2|(intro k_ hk;simp only [hk,ne_eq,and_self,not_false_eq_true])) (.slice Ao15 t467.length co15)) (by first|exact fun _ hk=>hk.2|(intro k_ hk;simp only [hk,ne_eq,and_self,not_false_eq_true])) (.slice Ao16 t470.length co16)) (fun _ h_=>h_.1))) (Kd.R_base ho2) hb);have n1_:=mk0 (Kd.R_elder' (by (with_reducible repeat (first|apply aR|apply nR|apply dR));exact (Kd.R_mono (Kd.R_far (p:=⟨gb474,4,none⟩) (Kd.R_far (p:=⟨gb474,3,none⟩) (Kd.R_far (p:=⟨gb474,2,none⟩) (Kd.R_far (p:=⟨gb474,1,none⟩) (Kd.R_far (p:=⟨gb474,0,none⟩) (Kd.R_types HO461.out BK474.out (by decide)) (by first|exact fun _ hk=>hk.2|(intro k_ hk;simp only [hk,ne_eq,and_self,not_false_eq_true])) (.int .i64 t462)) (by first|exact fun _ hk=>hk.2|(intro k_ hk;simp only [hk,ne_eq,and_self,not_false_eq_true])) (.slice Ao14 t463.length co14)) (by first|exact fun _ hk=>hk.2|(intro k_ hk;simp only [hk,ne_eq,and_self,not_false_eq_true])) (.int .i64 t466)) (by first|exact fun _ hk=>hk.2|(intro k_ hk;simp only [hk,ne_eq,and_self,not_false_eq_true])) (.slice Ao15 t467.length co15)) (by first|exact fun _ hk=>hk.2|(intro k_ hk;simp only [hk,ne_eq,and_self,not_false_eq_true])) (.slice Ao16 t470.length co16)) (fun _ h_=>h_.1))) (Kd.R_base ho2) hb);have n2_:=mk0 (Kd.R_mono (Kd.R_told (Kd.R_told (Kd.R_old (by (with_reducible repeat (first|apply aR|apply nR|apply dR));exact (Kd.R_mono (Kd.R_far (p:=⟨gb474,4,none⟩) (Kd.R_far (p:=⟨gb474,3,none⟩) (Kd.R_far (p:=⟨gb474,2,none⟩) (Kd.R_far (p:=⟨gb474,1,none⟩) (Kd.R_far (p:=⟨gb474,0,none⟩) (Kd.R_types HO465.out BK474.out (by decide)) (by first|exact fun _ hk=>hk.2|(intro k_ hk;simp only [hk,ne_eq,and_self,not_false_eq_true])) (.int .i64 t462)) (by first|exact fun _ hk=>hk.2|(intro k_ hk;simp only [hk,ne_eq,and_self,not_false_eq_true])) (.slice Ao14 t463.length co14)) (by first|exact fun _ hk=>hk.2|(intro k_ hk;simp only [hk,ne_eq,and_self,not_false_eq_true])) (.int .i64 t466)) (by first|exact fun _ hk=>hk.2|(intro k_ hk;simp only [hk,ne_eq,and_self,not_false_eq_true])) (.slice Ao15 t467.length co15)) (by first|exact fun _ hk=>hk.2|(intro k_ hk;simp only [hk,ne_eq,and_self,not_false_eq_true])) (.slice Ao16 t470.length co16)) (fun _ h_=>h_.1))) hb) (Kd.R_base ho0)) (Kd.R_base ho1)) (fun _ h_=>h_.1));have n3_:=mk0 (Kd.R_mono (Kd.R_told (Kd.R_told (Kd.R_old (by (with_reducible repeat (first|apply aR|apply nR|apply dR));exact (Kd.R_mono (Kd.R_far (p:=⟨gb474,4,none⟩) (Kd.R_far (p:=⟨gb474,3,none⟩) (Kd.R_far (p:=⟨gb474,2,none⟩) (Kd.R_far (p:=⟨gb474,1,none⟩) (Kd.R_far (p:=⟨gb474,0,none⟩) (Kd.R_types HO469.out BK474.out (by decide)) (by first|exact fun _ hk=>hk.2|(intro k_ hk;simp only [hk,ne_eq,and_self,not_false_eq_true])) (.int .i64 t462)) (by first|exact fun _ hk=>hk.2|(intro k_ hk;simp only [hk,ne_eq,and_self,not_false_eq_true])) (.slice Ao14 t463.length co14)) (by first|exact fun _ hk=>hk.2|(intro k_ hk;simp only [hk,ne_eq,and_self,not_false_eq_true])) (.int .i64 t466)) (by first|exact fun _ hk=>hk.2|(intro k_ hk;simp only [hk,ne_eq,and_self,not_false_eq_true])) (.slice Ao15 t467.length co15)) (by first|exact fun _ hk=>hk.2|(intro k_ hk;simp only [hk,ne_eq,and_self,not_false_eq_true])) (.slice Ao16 t470.length co16)) (fun _ h_=>h_.1))) hb) (Kd.R_base ho0)) (Kd.R_base ho1)) (fun _ h_=>h_.1));have n4_:=mk0 (Kd.R_elder' (by (with_reducible repeat (first|apply aR|apply nR|apply dR));exact (Kd.R_mono (Kd.R_far (p:=⟨gb474,4,none⟩) (Kd.R_far (p:=⟨gb474,3,none⟩) (Kd.R_far (p:=⟨gb474,2,none⟩) (Kd.R_far (p:=⟨gb474,1,none⟩) (Kd.R_far (p:=⟨gb474,0,none⟩) (Kd.R_types HO472.out BK474.out (by decide)) (by first|exact fun _ hk=>hk.2|(intro k_ hk;simp only [hk,ne_eq,and_self,not_false_eq_true])) (.int .i64 t462)) (by first|exact fun _ hk=>hk.2|(intro k_ hk;simp only [hk,ne_eq,and_self,not_false_eq_true])) (.slice Ao14 t463.length co14)) (by first|exact fun _ hk=>hk.2|(intro k_ hk;simp only [hk,ne_eq,and_self,not_false_eq_true])) (.int .i64 t466)) (by first|exact fun _ hk=>hk.2|(intro k_ hk;simp only [hk,ne_eq,and_self,not_false_eq_true])) (.slice Ao15 t467.length co15)) (by first|exact fun _ hk=>hk.2|(intro k_ hk;simp only [hk,ne_eq,and_self,not_false_eq_true])) (.slice Ao16 t470.length co16)) (fun _ h_=>h_.1))) (Kd.R_base ho2) hb);have n5_:=mk0 (Kd.R_lower (Kd.R_new' (Kd.R_new' ho0 (Kd.R_lt (by (with_reducible repeat (first|apply aR|apply nR|apply dR));exact (Kd.R_mono (Kd.R_far (p:=⟨gb474,4,none⟩) (Kd.R_far (p:=⟨gb474,3,none⟩) (Kd.R_far (p:=⟨gb474,2,none⟩) (Kd.R_far (p:=⟨gb474,1,none⟩) (Kd.R_far (p:=⟨gb474,0,none⟩) (Kd.R_types HO465.out BK474.out (by decide)) (by first|exact fun _ hk=>hk.2|(intro k_ hk;simp only [hk,ne_eq,and_self,not_false_eq_true])) (.int .i64 t462)) (by first|exact fun _ hk=>hk.2|(intro k_ hk;simp only [hk,ne_eq,and_self,not_false_eq_true])) (.slice Ao14 t463.length co14)) (by first|exact fun _ hk=>hk.2|(intro k_ hk;simp only [hk,ne_eq,and_self,not_false_eq_true])) (.int .i64 t466)) (by first|exact fun _ hk=>hk.2|(intro k_ hk;simp only [hk,ne_eq,and_self,not_false_eq_true])) (.slice Ao15 t467.length co15)) (by first|exact fun _ hk=>hk.2|(intro k_ hk;simp only [hk,ne_eq,and_self,not_false_eq_true])) (.slice Ao16 t470.length co16)) (fun _ h_=>h_.1))))) (Kd.R_lt (by (with_reducible repeat (first|apply aR|apply nR|apply dR));exact (Kd.R_mono (Kd.R_far (p:=⟨gb474,4,none⟩) (Kd.R_far (p:=⟨gb474,3,none⟩) (Kd.R_far (p:=⟨gb474,2,none⟩) (Kd.R_far (p:=⟨gb474,1,none⟩) (Kd.R_far (p:=⟨gb474,0,none⟩) (Kd.R_types HO469.out BK474.out (by decide)) (by first|exact fun _ hk=>hk.2|(intro k_ hk;simp only [hk,ne_eq,and_self,not_false_eq_true])) (.int .i64 t462)) (by first|exact fun _ hk=>hk.2|(intro k_ hk;simp only [hk,ne_eq,and_self,not_false_eq_true])) (.slice Ao14 t463.length co14)) (by first|exact fun _ hk=>hk.2|(intro k_ hk;simp only [hk,ne_eq,and_self,not_false_eq_true])) (.int .i64 t466)) (by first|exact fun _ hk=>hk.2|(intro k_ hk;simp only [hk,ne_eq,and_self,not_false_eq_true])) (.slice Ao15 t467.length co15)) (by first|exact fun _ hk=>hk.2|(intro k_ hk;simp only [hk,ne_eq,and_self,not_false_eq_true])) (.slice Ao16 t470.length co16)) (fun _ h_=>h_.1))))) (below_size (by repeat (first|(with_reducible first|exact HB.out|apply aZ|apply nZ|apply dZ|refine sZ ?_ GE474.out)|exact HB.out))));have n6_:=mk0 (Kd.R_lower (Kd.R_new' (Kd.R_new' ho1 (Kd.R_lt (by (with_reducible repeat (first|apply aR|apply nR|apply dR));exact (Kd.R_mono (Kd.R_far (p:=⟨gb474,4,none⟩) (Kd.R_far (p:=⟨gb474,3,none⟩) (Kd.R_far (p:=⟨gb474,2,none⟩) (Kd.R_far (p:=⟨gb474,1,none⟩) (Kd.R_far (p:=⟨gb474,0,none⟩) (Kd.R_types HO465.out BK474.out (by decide)) (by first|exact fun _ hk=>hk.2|(intro k_ hk;simp only [hk,ne_eq,and_self,not_false_eq_true])) (.int .i64 t462)) (by first|exact fun _ hk=>hk.2|(intro k_ hk;simp only [hk,ne_eq,and_self,not_false_eq_true])) (.slice Ao14 t463.length co14)) (by first|exact fun _ hk=>hk.2|(intro k_ hk;simp only [hk,ne_eq,and_self,not_false_eq_true])) (.int .i64 t466)) (by first|exact fun _ hk=>hk.2|(intro k_ hk;simp only [hk,ne_eq,and_self,not_false_eq_true])) (.slice Ao15 t467.length co15)) (by first|exact fun _ hk=>hk.2|(intro k_ hk;simp only [hk,ne_eq,and_self,not_false_eq_true])) (.slice Ao16 t470.length co16)) (fun _ h_=>h_.1))))) (Kd.R_lt (by (with_reducible repeat (first|apply aR|apply nR|apply dR));exact (Kd.R_mono (Kd.R_far (p:=⟨gb474,4,none⟩) (Kd.R_far (p:=⟨gb474,3,none⟩) (Kd.R_far (p:=⟨gb474,2,none⟩) (Kd.R_far (p:=⟨gb474,1,none⟩) (Kd.R_far (p:=⟨gb474,0,none⟩) (Kd.R_types HO469.out BK474.out (by decide)) (by first|exact fun _ hk=>hk.2|(intro k_ hk;simp only [hk,ne_eq,and_self,not_false_eq_true])) (.int .i64 t462)) (by first|exact fun _ hk=>hk.2|(intro k_ hk;simp only [hk,ne_eq,and_self,not_false_eq_true])) (.slice Ao14 t463.length co14)) (by first|exact fun _ hk=>hk.2|(intro k_ hk;simp only [hk,ne_eq,and_self,not_false_eq_true])) (.int .i64 t466)) (by first|exact fun _ hk=>hk.2|(intro k_ hk;simp only [hk,ne_eq,and_self,not_false_eq_true])) (.slice Ao15 t467.length co15)) (by first|exact fun _ hk=>hk.2|(intro k_ hk;simp only [hk,ne_eq,and_self,not_false_eq_true])) (.slice Ao16 t470.length co16)) (fun _ h_=>h_.1))))) (below_size (by repeat (first|(with_reducible first|exact HB.out|apply aZ|apply nZ|apply dZ|refine sZ ?_ GE474.out)|exact HB.out))));have n7_:=mk0 (Kd.R_lower (Kd.R_new' (Kd.R_new' (Kd.R_new' ho2 (Kd.R_lt (by (with_reducible repeat (first|apply aR|apply nR|apply dR));exact (Kd.R_mono (Kd.R_far (p:=⟨gb474,4,none⟩) (Kd.R_far (p:=⟨gb474,3,none⟩) (Kd.R_far (p:=⟨gb474,2,none⟩) (Kd.R_far (p:=⟨gb474,1,none⟩) (Kd.R_far (p:=⟨gb474,0,none⟩) (Kd.R_types HO459.out BK474.out (by decide)) (by first|exact fun _ hk=>hk.2|(intro k_ hk;simp only [hk,ne_eq,and_self,not_false_eq_true])) (.int .i64 t462)) (by first|exact fun _ hk=>hk.2|(intro k_ hk;simp only [hk,ne_eq,and_self,not_false_eq_true])) (.slice Ao14 t463.length co14)) (by first|exact fun _ hk=>hk.2|(intro k_ hk;simp only [hk,ne_eq,and_self,not_false_eq_true])) (.int .i64 t466)) (by first|exact fun _ hk=>hk.2|(intro k_ hk;simp only [hk,ne_eq,and_self,not_false_eq_true])) (.slice Ao15 t467.length co15)) (by first|exact fun _ hk=>hk.2|(intro k_ hk;simp only [hk,ne_eq,and_self,not_false_eq_true])) (.slice Ao16 t470.length co16)) (fun _ h_=>h_.1))))) (Kd.R_lt (by (with_reducible repeat (first|apply aR|apply nR|apply dR));exact (Kd.R_mono (Kd.R_far (p:=⟨gb474,4,none⟩) (Kd.R_far (p:=⟨gb474,3,none⟩) (Kd.R_far (p:=⟨gb474,2,none⟩) (Kd.R_far (p:=⟨gb474,1,none⟩) (Kd.R_far (p:=⟨gb474,0,none⟩) (Kd.R_types HO461.out BK474.out (by decide)) (by first|exact fun _ hk=>hk.2|(intro k_ hk;simp only [hk,ne_eq,and_self,not_false_eq_true])) (.int .i64 t462)) (by first|exact fun _ hk=>hk.2|(intro k_ hk;simp only [hk,ne_eq,and_self,not_false_eq_true])) (.slice Ao14 t463.length co14)) (by first|exact fun _ hk=>hk.2|(intro k_ hk;simp only [hk,ne_eq,and_self,not_false_eq_true])) (.int .i64 t466)) (by first|exact fun _ hk=>hk.2|(intro k_ hk;simp only [hk,ne_eq,and_self,not_false_eq_true])) (.slice Ao15 t467.length co15)) (by first|exact fun _ hk=>hk.2|(intro k_ hk;simp only [hk,ne_eq,and_self,not_false_eq_true])) (.slice Ao16 t470.length co16)) (fun _ h_=>h_.1))))) (Kd.R_lt (by (with_reducible repeat (first|apply aR|apply nR|apply dR));exact (Kd.R_mono (Kd.R_far (p:=⟨gb474,4,none⟩) (Kd.R_far (p:=⟨gb474,3,none⟩) (Kd.R_far (p:=⟨gb474,2,none⟩) (Kd.R_far (p:=⟨gb474,1,none⟩) (Kd.R_far (p:=⟨gb474,0,none⟩) (Kd.R_types HO472.out BK474.out (by decide)) (by first|exact fun _ hk=>hk.2|(intro k_ hk;simp only [hk,ne_eq,and_self,not_false_eq_true])) (.int .i64 t462)) (by first|exact fun _ hk=>hk.2|(intro k_ hk;simp only [hk,ne_eq,and_self,not_false_eq_true])) (.slice Ao14 t463.length co14)) (by first|exact fun _ hk=>hk.2|(intro k_ hk;simp only [hk,ne_eq,and_self,not_false_eq_true])) (.int .i64 t466)) (by first|exact fun _ hk=>hk.2|(intro k_ hk;simp only [hk,ne_eq,and_self,not_false_eq_true])) (.slice Ao15 t467.length co15)) (by first|exact fun _ hk=>hk.2|(intro k_ hk;simp only [hk,ne_eq,and_self,not_false_eq_true])) (.slice Ao16 t470.length co16)) (fun _ h_=>h_.1))))) (below_size (by repeat (first|(with_reducible first|exact HB.out|apply aZ|apply nZ|apply dZ|refine sZ ?_ GE474.out)|exact HB.out))));have n8_:=mk0 (blk_below (g:=gb474) (o:=.cells #[.int .i64 t462,.slice Ao14 t463.length co14,.int .i64 t466,.slice Ao15 t467.length co15,.slice Ao16 t470.length co16] 27 (0,0)) (by (with_reducible repeat (first|apply nB|apply dB|apply aB));refine blk_put (cs:=#[.int .i64 t462,.slice Ao14 t463.length co14,.int .i64 t466,.slice Ao15 t467.length co15,.slice none 0 0]) ?_ 4 _ rfl;(with_reducible repeat (first|apply nB|apply dB|apply aB));refine blk_put (cs:=#[.int .i64 t462,.slice Ao14 t463.length co14,.int .i64 t466,.slice none 0 0,.slice none 0 0]) ?_ 3 _ rfl;(with_reducible repeat (first|apply nB|apply dB|apply aB));refine blk_put (cs:=#[.int .i64 t462,.slice Ao14 t463.length co14,.int .i64 0,.slice none 0 0,.slice none 0 0]) ?_ 2 _ rfl;(with_reducible repeat (first|apply nB|apply dB|apply aB));refine blk_put (cs:=#[.int .i64 t462,.slice none 0 0,.int .i64 0,.slice none 0 0,.slice none 0 0]) ?_ 1 _ rfl;(with_reducible repeat (first|apply nB|apply dB|apply aB));refine blk_put (cs:=#[.int .i64 0,.slice none 0 0,.int .i64 0,.slice none 0 0,.slice none 0 0]) ?_ 0 _ rfl;(with_reducible repeat (first|apply nB|apply dB|apply aB));exact BK474.out) hb);have n9_:=mk0 (below_step (by repeat (first|(with_reducible first|exact HB.out|apply aZ|apply nZ|apply dZ|refine sZ ?_ GE474.out)|exact HB.out)) hb);clear HO459 HO461 HO465 HO469 HO472 BK474 HB;have HO459:=n0_;have HO461:=n1_;have HO465:=n2_;have HO469:=n3_;have HO472:=n4_;have HO478:=n5_;have HO482:=n6_;have HO485:=n7_;have BK474:=n8_;have HB:=n9_;clear n0_ n1_ n2_ n3_ n4_ n5_ n6_ n7_ n8_ n9_;(try clear hb);(try clear hb2);(try clear hk);(try clear hi);(try clear ho0);(try clear ho1);(try clear ho2))|((with_reducible refine gate_dst (N:=7) rfl ?_);(try (refine gate_guard (by rfl) ?_;dsimp only));refine box_event ?hg (N:=7) ?hd (cs:=#[.int .i64 0,.slice none 0 0,.int .i64 0,.slice none 0 0,.slice none 0 0]) (t:=27) ?hr ?_;(case hd=>rfl);(case hg=>rfl);(case hr=>first|(go_simp;done)|(go_simp;rfl));intro gb487 hg w18 hbox hb;have n0_:=mk0 (Kd.R_below (by (with_reducible repeat (first|apply aR|apply nR|apply dR));exact HO459.out) hb);have n1_:=mk0 (Kd.R_below (by (with_reducible repeat (first|apply aR|apply nR|apply dR));exact HO461.out) hb);have n2_:=mk0 (Kd.R_below (by (with_reducible repeat (first|apply aR|apply nR|apply dR));exact HO465.out) hb);have n3_:=mk0 (Kd.R_below (by (with_reducible repeat (first|apply aR|apply nR|apply dR));exact HO469.out) hb);have n4_:=mk0 (Kd.R_below (by (with_reducible repeat (first|apply aR|apply nR|apply dR));exact HO472.out) hb);have n5_:=mk0 (Kd.R_below (by (with_reducible repeat (first|apply aR|apply nR|apply dR));exact HO478.out) hb);have n6_:=mk0 (Kd.R_below (by (with_reducible repeat (first|apply aR|apply nR|apply dR));exact HO482.out) hb);have n7_:=mk0 (Kd.R_below (by (with_reducible repeat (first|apply aR|apply nR|apply dR));exact HO485.out) hb);have n8_:=mk0 (blk_below (g:=gb474) (o:=.cells #[.int .i64 t462,.slice Ao14 t463.length co14,.int .i64 t466,.slice Ao15 t467.length co15,.slice Ao16 t470.length co16] 27 (0,0)) (by (with_reducible repeat (first|apply nB|apply dB|apply aB));exact BK474.out) hb);have n9_:=mk0 (below_step (by repeat (first|(with_reducible first|exact HB.out|apply aZ|apply nZ|apply dZ|refine sZ ?_ GE474.out)|exact HB.out)) hb);have n10_:=mk0 (hbox);have n11_:=mk0 ((by rw [hg];exact (below_size (by repeat (first|(with_reducible first|exact HB.out|apply aZ|apply nZ|apply dZ|refine sZ ?_ GE474.out)|exact HB.out))):w.heap.size ≤ gb487));have n12_:=mk0 ((by rw [hg];exact (below_size (by repeat (first|(with_reducible first|exact HB.out|apply aZ|apply nZ|apply dZ|refine sZ ?_ GE474.out)|exact HB.out))):w.heap.size ≤ gb487));have n13_:=mk0 ((by rw [hg];exact Nat.ne_of_lt (blk_lt (g:=gb474) (o:=.cells #[.int .i64 t462,.slice Ao14 t463.length co14,.int .i64 t466,.slice Ao15 t467.length co15,.slice Ao16 t470.length co16] 27 (0,0)) (by (with_reducible repeat (first|apply nB|apply dB|apply aB));exact BK474.out)):gb474 ≠ gb487));have n14_:=mk0 ((by rw [hg];exact Nat.ne_of_gt (blk_lt (g:=gb474) (o:=.cells #[.int .i64 t462,.slice Ao14 t463.length co14,.int .i64 t466,.slice Ao15 t467.length co15,.slice Ao16 t470.length co16] 27 (0,0)) (by (with_reducible repeat (first|apply nB|apply dB|apply aB));exact BK474.out)):gb487 ≠ gb474));clear HO459 HO461 HO465 HO469 HO472 HO478 HO482 HO485 BK474 HB;have HO459:=n0_;have HO461:=n1_;have HO465:=n2_;have HO469:=n3_;have HO472:=n4_;have HO478:=n5_;have HO482:=n6_;have HO485:=n7_;have BK474:=n8_;have HB:=n9_;have BK487:=n10_;have GW487:=n11_;have GE487:=n12_;have NB474_487:=n13_;have NB487_474:=n14_;clear n0_ n1_ n2_ n3_ n4_ n5_ n6_ n7_ n8_ n9_ n10_ n11_ n12_ n13_ n14_ hb hbox hg;have hnb19:=NB487_474.out;have hnc19:=NB474_487.out;have hcz20_0:w18.cell? ⟨gb487,0,none⟩ = some (.int .i64 0):=(blk_cell BK487.out 0).trans rfl;have hcz20_1:w18.cell? ⟨gb487,1,none⟩ = some (.slice none 0 0):=(blk_cell BK487.out 1).trans rfl;have hcz20_2:w18.cell? ⟨gb487,2,none⟩ = some (.int .i64 0):=(blk_cell BK487.out 2).trans rfl;have hcz20_3:w18.cell? ⟨gb487,3,none⟩ = some (.slice none 0 0):=(blk_cell BK487.out 3).trans rfl;have hcz20_4:w18.cell? ⟨gb487,4,none⟩ = some (.slice none 0 0):=(blk_cell BK487.out 4).trans rfl;have hfz20_0:=blk_frozen BK487.out 0;have hfz20_1:=blk_frozen BK487.out 1;have hfz20_2:=blk_frozen BK487.out 2;have hfz20_3:=blk_frozen BK487.out 3;have hfz20_4:=blk_frozen BK487.out 4;obtain⟨Ao21,co21,eo21⟩:=Kd.R_slice HO478.out;subst eo21;obtain⟨Ao22,co22,eo22⟩:=Kd.R_slice HO482.out;subst eo22;obtain⟨Ao23,co23,eo23⟩:=Kd.R_slice HO485.out;subst eo23))
 (try simp only [Act.put,sA,sO,sS])
 go_cut [36] (fun v36 wc=>∃ (kq:Nat) (x36_6:Bool),v36 = .bool x36_6 ∧ Aside0 (laws_FnPatchBack.j0 kq t456 t457 t473 t486 x36_6 t475 t476 t479 t480 t483 = some r) ∧ Aside0 (kq ≤ k) ∧ Aside0 (Kd.R (Kd.int .i64) 3 wc w.heap.size (fun k_=>some k_ ≠ ((.slice Ao10 t457.length co10):Value).ownBlock ∧ some k_ ≠ ((.slice Ao16 t470.length co16):Value).ownBlock ∧ some k_ ≠ ((.slice Ao23 t483.length co23):Value).ownBlock) (.slice Ao9 t456.length co9) t456) ∧ Aside0 (Kd.R (Kd.int .i64) 3 wc w.heap.size (fun k_=>some k_ ≠ ((.slice Ao9 t456.length co9):Value).ownBlock ∧ some k_ ≠ ((.slice Ao16 t470.length co16):Value).ownBlock ∧ some k_ ≠ ((.slice Ao23 t483.length co23):Value).ownBlock) (.slice Ao10 t457.length co10) t457) ∧ Aside0 (Kd.R (Kd.int .u64) 77 wc w.heap.size (fun k_=>some k_ ≠ ((.slice Ao15 t467.length co15):Value).ownBlock ∧ some k_ ≠ ((.slice Ao21 t476.length co21):Value).ownBlock ∧ some k_ ≠ ((.slice Ao22 t480.length co22):Value).ownBlock) (.slice Ao14 t463.length co14) t463) ∧ Aside0 (Kd.R (Kd.int .u64) 77 wc w.heap.size (fun k_=>some k_ ≠ ((.slice Ao14 t463.length co14):Value).ownBlock ∧ some k_ ≠ ((.slice Ao21 t476.length co21):Value).ownBlock ∧ some k_ ≠ ((.slice Ao22 t480.length co22):Value).ownBlock) (.slice Ao15 t467.length co15) t467) ∧ Aside0 (Kd.R (Kd.int .i64) 3 wc w.heap.size (fun k_=>some k_ ≠ ((.slice Ao9 t456.length co9):Value).ownBlock ∧ some k_ ≠ ((.slice Ao10 t457.length co10):Value).ownBlock ∧ some k_ ≠ ((.slice Ao23 t483.length co23):Value).ownBlock) (.slice Ao16 t470.length co16) t470) ∧ Aside0 (Kd.R (Kd.int .u64) 77 wc w.heap.size (fun k_=>some k_ ≠ ((.slice Ao14 t463.length co14):Value).ownBlock ∧ some k_ ≠ ((.slice Ao15 t467.length co15):Value).ownBlock ∧ some k_ ≠ ((.slice Ao22 t480.length co22):Value).ownBlock) (.slice Ao21 t476.length co21) t476) ∧ Aside0 (Kd.R (Kd.int .u64) 77 wc w.heap.size (fun k_=>some k_ ≠ ((.slice Ao14 t463.length co14):Value).ownBlock ∧ some k_ ≠ ((.slice Ao15 t467.length co15):Value).ownBlock ∧ some k_ ≠ ((.slice Ao21 t476.length co21):Value).ownBlock) (.slice Ao22 t480.length co22) t480) ∧ Aside0 (Kd.R (Kd.int .i64) 3 wc w.heap.size (fun k_=>some k_ ≠ ((.slice Ao9 t456.length co9):Value).ownBlock ∧ some k_ ≠ ((.slice Ao10 t457.length co10):Value).ownBlock ∧ some k_ ≠ ((.slice Ao16 t470.length co16):Value).ownBlock) (.slice Ao23 t483.length co23) t483) ∧ Aside0 (wc.heap[gb474]? = some (.cells #[.int .i64 t462,(.slice Ao14 t463.length co14),.int .i64 t466,(.slice Ao15 t467.length co15),(.slice Ao16 t470.length co16)] 27 (0,0))) ∧ Aside0 (wc.heap[gb487]? = some (.cells #[.int .i64 t475,(.slice Ao21 t476.length co21),.int .i64 t479,(.slice Ao22 t480.length co22),(.slice Ao23 t483.length co23)] 27 (0,0))) ∧ Aside0 (Below w.heap.size w wc))
 case first =>
  have H:=HC7.out
  clear HC7
  by_cases c24:(t486 != t473) = true
  rotate_left
  ·rw [if_neg c24] at H
   have c24b0:(t486 != t473) = false:=by simpa using c24
   (try (have c24b1:decide (t486 = t473) = true:=by simpa using c24))
   (try (have c24b2:(t486 == t473) = true:=by simpa using c24))
   clear c24
   (first|rw [c24b0]|(simp only [i64_w,i32_w];rw [c24b0])|skip)
   have H':=mk0 H
   clear H
   go_wp2
   go_meet
   case rel=>exact⟨_,(!t486),(by first|rfl|(simp;done)|(simp [*];done)),H',⟨by first|omega|exact Nat.le_refl _⟩,⟨by (with_reducible repeat (first|apply aR|apply nR|apply dR));exact Kd.R_mono (Kd.R_far (p:=⟨gb487,4,none⟩) (Kd.R_far (p:=⟨gb487,3,none⟩) (Kd.R_far (p:=⟨gb487,2,none⟩) (Kd.R_far (p:=⟨gb487,1,none⟩) (Kd.R_far (p:=⟨gb487,0,none⟩) (Kd.R_types HO459.out BK487.out (by decide)) (by first|exact fun _ hk=>hk.2|(intro k_ hk;simp only [hk,ne_eq,and_self,not_false_eq_true])) (.int .i64 t475)) (by first|exact fun _ hk=>hk.2|(intro k_ hk;simp only [hk,ne_eq,and_self,not_false_eq_true])) (.slice Ao21 t476.length co21)) (by first|exact fun _ hk=>hk.2|(intro k_ hk;simp only [hk,ne_eq,and_self,not_false_eq_true])) (.int .i64 t479)) (by first|exact fun _ hk=>hk.2|(intro k_ hk;simp only [hk,ne_eq,and_self,not_false_eq_true])) (.slice Ao22 t480.length co22)) (by first|exact fun _ hk=>hk.2|(intro k_ hk;simp only [hk,ne_eq,and_self,not_false_eq_true])) (.slice Ao23 t483.length co23)) (fun _ hk=>⟨hk.1.1.1,⟨hk.1.1.2,hk.1.2⟩⟩)⟩,⟨by (with_reducible repeat (first|apply aR|apply nR|apply dR));exact Kd.R_mono (Kd.R_far (p:=⟨gb487,4,none⟩) (Kd.R_far (p:=⟨gb487,3,none⟩) (Kd.R_far (p:=⟨gb487,2,none⟩) (Kd.R_far (p:=⟨gb487,1,none⟩) (Kd.R_far (p:=⟨gb487,0,none⟩) (Kd.R_types HO461.out BK487.out (by decide)) (by first|exact fun _ hk=>hk.2|(intro k_ hk;simp only [hk,ne_eq,and_self,not_false_eq_true])) (.int .i64 t475)) (by first|exact fun _ hk=>hk.2|(intro k_ hk;simp only [hk,ne_eq,and_self,not_false_eq_true])) (.slice Ao21 t476.length co21)) (by first|exact fun _ hk=>hk.2|(intro k_ hk;simp only [hk,ne_eq,and_self,not_false_eq_true])) (.int .i64 t479)) (by first|exact fun _ hk=>hk.2|(intro k_ hk;simp only [hk,ne_eq,and_self,not_false_eq_true])) (.slice Ao22 t480.length co22)) (by first|exact fun _ hk=>hk.2|(intro k_ hk;simp only [hk,ne_eq,and_self,not_false_eq_true])) (.slice Ao23 t483.length co23)) (fun _ hk=>⟨hk.1.1.1,⟨hk.1.1.2,hk.1.2⟩⟩)⟩,⟨by (with_reducible repeat (first|apply aR|apply nR|apply dR));exact Kd.R_mono (Kd.R_far (p:=⟨gb487,4,none⟩) (Kd.R_far (p:=⟨gb487,3,none⟩) (Kd.R_far (p:=⟨gb487,2,none⟩) (Kd.R_far (p:=⟨gb487,1,none⟩) (Kd.R_far (p:=⟨gb487,0,none⟩) (Kd.R_types HO465.out BK487.out (by decide)) (by first|exact fun _ hk=>hk.2|(intro k_ hk;simp only [hk,ne_eq,and_self,not_false_eq_true])) (.int .i64 t475)) (by first|exact fun _ hk=>hk.2|(intro k_ hk;simp only [hk,ne_eq,and_self,not_false_eq_true])) (.slice Ao21 t476.length co21)) (by first|exact fun _ hk=>hk.2|(intro k_ hk;simp only [hk,ne_eq,and_self,not_false_eq_true])) (.int .i64 t479)) (by first|exact fun _ hk=>hk.2|(intro k_ hk;simp only [hk,ne_eq,and_self,not_false_eq_true])) (.slice Ao22 t480.length co22)) (by first|exact fun _ hk=>hk.2|(intro k_ hk;simp only [hk,ne_eq,and_self,not_false_eq_true])) (.slice Ao23 t483.length co23)) (fun _ hk=>⟨hk.1.1.1,⟨hk.1.1.2,hk.1.2⟩⟩)⟩,⟨by (with_reducible repeat (first|apply aR|apply nR|apply dR));exact Kd.R_mono (Kd.R_far (p:=⟨gb487,4,none⟩) (Kd.R_far (p:=⟨gb487,3,none⟩) (Kd.R_far (p:=⟨gb487,2,none⟩) (Kd.R_far (p:=⟨gb487,1,none⟩) (Kd.R_far (p:=⟨gb487,0,none⟩) (Kd.R_types HO469.out BK487.out (by decide)) (by first|exact fun _ hk=>hk.2|(intro k_ hk;simp only [hk,ne_eq,and_self,not_false_eq_true])) (.int .i64 t475)) (by first|exact fun _ hk=>hk.2|(intro k_ hk;simp only [hk,ne_eq,and_self,not_false_eq_true])) (.slice Ao21 t476.length co21)) (by first|exact fun _ hk=>hk.2|(intro k_ hk;simp only [hk,ne_eq,and_self,not_false_eq_true])) (.int .i64 t479)) (by first|exact fun _ hk=>hk.2|(intro k_ hk;simp only [hk,ne_eq,and_self,not_false_eq_true])) (.slice Ao22 t480.length co22)) (by first|exact fun _ hk=>hk.2|(intro k_ hk;simp only [hk,ne_eq,and_self,not_false_eq_true])) (.slice Ao23 t483.length co23)) (fun _ hk=>⟨hk.1.1.1,⟨hk.1.1.2,hk.1.2⟩⟩)⟩,⟨by (with_reducible repeat (first|apply aR|apply nR|apply dR));exact Kd.R_mono (Kd.R_far (p:=⟨gb487,4,none⟩) (Kd.R_far (p:=⟨gb487,3,none⟩) (Kd.R_far (p:=⟨gb487,2,none⟩) (Kd.R_far (p:=⟨gb487,1,none⟩) (Kd.R_far (p:=⟨gb487,0,none⟩) (Kd.R_types HO472.out BK487.out (by decide)) (by first|exact fun _ hk=>hk.2|(intro k_ hk;simp only [hk,ne_eq,and_self,not_false_eq_true])) (.int .i64 t475)) (by first|exact fun _ hk=>hk.2|(intro k_ hk;simp only [hk,ne_eq,and_self,not_false_eq_true])) (.slice Ao21 t476.length co21)) (by first|exact fun _ hk=>hk.2|(intro k_ hk;simp only [hk,ne_eq,and_self,not_false_eq_true])) (.int .i64 t479)) (by first|exact fun _ hk=>hk.2|(intro k_ hk;simp only [hk,ne_eq,and_self,not_false_eq_true])) (.slice Ao22 t480.length co22)) (by first|exact fun _ hk=>hk.2|(intro k_ hk;simp only [hk,ne_eq,and_self,not_false_eq_true])) (.slice Ao23 t483.length co23)) (fun _ hk=>⟨hk.1.1.1.2,⟨hk.1.1.2,hk.1.2⟩⟩)⟩,⟨by (with_reducible repeat (first|apply aR|apply nR|apply dR));exact Kd.R_mono (Kd.R_far (p:=⟨gb487,4,none⟩) (Kd.R_far (p:=⟨gb487,3,none⟩) (Kd.R_far (p:=⟨gb487,2,none⟩) (Kd.R_far (p:=⟨gb487,1,none⟩) (Kd.R_far (p:=⟨gb487,0,none⟩) (Kd.R_types HO478.out BK487.out (by decide)) (by first|exact fun _ hk=>hk.2|(intro k_ hk;simp only [hk,ne_eq,and_self,not_false_eq_true])) (.int .i64 t475)) (by first|exact fun _ hk=>hk.2|(intro k_ hk;simp only [hk,ne_eq,and_self,not_false_eq_true])) (.slice Ao21 t476.length co21)) (by first|exact fun _ hk=>hk.2|(intro k_ hk;simp only [hk,ne_eq,and_self,not_false_eq_true])) (.int .i64 t479)) (by first|exact fun _ hk=>hk.2|(intro k_ hk;simp only [hk,ne_eq,and_self,not_false_eq_true])) (.slice Ao22 t480.length co22)) (by first|exact fun _ hk=>hk.2|(intro k_ hk;simp only [hk,ne_eq,and_self,not_false_eq_true])) (.slice Ao23 t483.length co23)) (fun _ hk=>⟨hk.1.1.2,⟨hk.1.2,hk.1.1.1⟩⟩)⟩,⟨by (with_reducible repeat (first|apply aR|apply nR|apply dR));exact Kd.R_mono (Kd.R_far (p:=⟨gb487,4,none⟩) (Kd.R_far (p:=⟨gb487,3,none⟩) (Kd.R_far (p:=⟨gb487,2,none⟩) (Kd.R_far (p:=⟨gb487,1,none⟩) (Kd.R_far (p:=⟨gb487,0,none⟩) (Kd.R_types HO482.out BK487.out (by decide)) (by first|exact fun _ hk=>hk.2|(intro k_ hk;simp only [hk,ne_eq,and_self,not_false_eq_true])) (.int .i64 t475)) (by first|exact fun _ hk=>hk.2|(intro k_ hk;simp only [hk,ne_eq,and_self,not_false_eq_true])) (.slice Ao21 t476.length co21)) (by first|exact fun _ hk=>hk.2|(intro k_ hk;simp only [hk,ne_eq,and_self,not_false_eq_true])) (.int .i64 t479)) (by first|exact fun _ hk=>hk.2|(intro k_ hk;simp only [hk,ne_eq,and_self,not_false_eq_true])) (.slice Ao22 t480.length co22)) (by first|exact fun _ hk=>hk.2|(intro k_ hk;simp only [hk,ne_eq,and_self,not_false_eq_true])) (.slice Ao23 t483.length co23)) (fun _ hk=>⟨hk.1.1.2,⟨hk.1.2,hk.1.1.1⟩⟩)⟩,⟨by (with_reducible repeat (first|apply aR|apply nR|apply dR));exact Kd.R_mono (Kd.R_far (p:=⟨gb487,4,none⟩) (Kd.R_far (p:=⟨gb487,3,none⟩) (Kd.R_far (p:=⟨gb487,2,none⟩) (Kd.R_far (p:=⟨gb487,1,none⟩) (Kd.R_far (p:=⟨gb487,0,none⟩) (Kd.R_types HO485.out BK487.out (by decide)) (by first|exact fun _ hk=>hk.2|(intro k_ hk;simp only [hk,ne_eq,and_self,not_false_eq_true])) (.int .i64 t475)) (by first|exact fun _ hk=>hk.2|(intro k_ hk;simp only [hk,ne_eq,and_self,not_false_eq_true])) (.slice Ao21 t476.length co21)) (by first|exact fun _ hk=>hk.2|(intro k_ hk;simp only [hk,ne_eq,and_self,not_false_eq_true])) (.int .i64 t479)) (by first|exact fun _ hk=>hk.2|(intro k_ hk;simp only [hk,ne_eq,and_self,not_false_eq_true])) (.slice Ao22 t480.length co22)) (by first|exact fun _ hk=>hk.2|(intro k_ hk;simp only [hk,ne_eq,and_self,not_false_eq_true])) (.slice Ao23 t483.length co23)) (fun _ hk=>⟨hk.1.1.1.2,⟨hk.1.1.2,hk.1.2⟩⟩)⟩,⟨by (with_reducible repeat (first|apply nB|apply dB|apply aB));refine blk_far ?_ NB474_487.out _;(with_reducible repeat (first|apply nB|apply dB|apply aB));refine blk_far ?_ NB474_487.out _;(with_reducible repeat (first|apply nB|apply dB|apply aB));refine blk_far ?_ NB474_487.out _;(with_reducible repeat (first|apply nB|apply dB|apply aB));refine blk_far ?_ NB474_487.out _;(with_reducible repeat (first|apply nB|apply dB|apply aB));refine blk_far ?_ NB474_487.out _;(with_reducible repeat (first|apply nB|apply dB|apply aB));exact BK474.out⟩,⟨by (with_reducible repeat (first|apply nB|apply dB|apply aB));refine blk_put (cs:=#[.int .i64 t475,.slice Ao21 t476.length co21,.int .i64 t479,.slice Ao22 t480.length co22,.slice none 0 0]) ?_ 4 _ rfl;(with_reducible repeat (first|apply nB|apply dB|apply aB));refine blk_put (cs:=#[.int .i64 t475,.slice Ao21 t476.length co21,.int .i64 t479,.slice none 0 0,.slice none 0 0]) ?_ 3 _ rfl;(with_reducible repeat (first|apply nB|apply dB|apply aB));refine blk_put (cs:=#[.int .i64 t475,.slice Ao21 t476.length co21,.int .i64 0,.slice none 0 0,.slice none 0 0]) ?_ 2 _ rfl;(with_reducible repeat (first|apply nB|apply dB|apply aB));refine blk_put (cs:=#[.int .i64 t475,.slice none 0 0,.int .i64 0,.slice none 0 0,.slice none 0 0]) ?_ 1 _ rfl;(with_reducible repeat (first|apply nB|apply dB|apply aB));refine blk_put (cs:=#[.int .i64 0,.slice none 0 0,.int .i64 0,.slice none 0 0,.slice none 0 0]) ?_ 0 _ rfl;(with_reducible repeat (first|apply nB|apply dB|apply aB));exact BK487.out⟩,⟨by repeat (first|(with_reducible first|exact HB.out|apply aZ|apply nZ|apply dZ|refine sZ ?_ GE474.out|refine sZ ?_ GE487.out)|exact HB.out)⟩⟩
  rw [if_pos c24] at H
  have c24b0:(t486 != t473) = true:=c24
  (try (have c24b1:decide (t486 = t473) = false:=by simpa using c24))
  (try (have c24b2:(t486 == t473) = false:=by simpa using c24))
  (try (have c24b3:¬ (t486 = t473):=by simpa using c24))
  clear c24
  (first|rw [c24b0]|(simp only [i64_w,i32_w];rw [c24b0])|skip)
  have H':=mk0 H
  clear H
  go_wp2
  go_meet
  case rel=>exact⟨_,(true),(by first|rfl|(simp;done)|(simp [*];done)),H',⟨by first|omega|exact Nat.le_refl _⟩,⟨by (with_reducible repeat (first|apply aR|apply nR|apply dR));exact Kd.R_mono (Kd.R_far (p:=⟨gb487,4,none⟩) (Kd.R_far (p:=⟨gb487,3,none⟩) (Kd.R_far (p:=⟨gb487,2,none⟩) (Kd.R_far (p:=⟨gb487,1,none⟩) (Kd.R_far (p:=⟨gb487,0,none⟩) (Kd.R_types HO459.out BK487.out (by decide)) (by first|exact fun _ hk=>hk.2|(intro k_ hk;simp only [hk,ne_eq,and_self,not_false_eq_true])) (.int .i64 t475)) (by first|exact fun _ hk=>hk.2|(intro k_ hk;simp only [hk,ne_eq,and_self,not_false_eq_true])) (.slice Ao21 t476.length co21)) (by first|exact fun _ hk=>hk.2|(intro k_ hk;simp only [hk,ne_eq,and_self,not_false_eq_true])) (.int .i64 t479)) (by first|exact fun _ hk=>hk.2|(intro k_ hk;simp only [hk,ne_eq,and_self,not_false_eq_true])) (.slice Ao22 t480.length co22)) (by first|exact fun _ hk=>hk.2|(intro k_ hk;simp only [hk,ne_eq,and_self,not_false_eq_true])) (.slice Ao23 t483.length co23)) (fun _ hk=>⟨hk.1.1.1,⟨hk.1.1.2,hk.1.2⟩⟩)⟩,⟨by (with_reducible repeat (first|apply aR|apply nR|apply dR));exact Kd.R_mono (Kd.R_far (p:=⟨gb487,4,none⟩) (Kd.R_far (p:=⟨gb487,3,none⟩) (Kd.R_far (p:=⟨gb487,2,none⟩) (Kd.R_far (p:=⟨gb487,1,none⟩) (Kd.R_far (p:=⟨gb487,0,none⟩) (Kd.R_types HO461.out BK487.out (by decide)) (by first|exact fun _ hk=>hk.2|(intro k_ hk;simp only [hk,ne_eq,and_self,not_false_eq_true])) (.int .i64 t475)) (by first|exact fun _ hk=>hk.2|(intro k_ hk;simp only [hk,ne_eq,and_self,not_false_eq_true])) (.slice Ao21 t476.length co21)) (by first|exact fun _ hk=>hk.2|(intro k_ hk;simp only [hk,ne_eq,and_self,not_false_eq_true])) (.int .i64 t479)) (by first|exact fun _ hk=>hk.2|(intro k_ hk;simp only [hk,ne_eq,and_self,not_false_eq_true])) (.slice Ao22 t480.length co22)) (by first|exact fun _ hk=>hk.2|(intro k_ hk;simp only [hk,ne_eq,and_self,not_false_eq_true])) (.slice Ao23 t483.length co23)) (fun _ hk=>⟨hk.1.1.1,⟨hk.1.1.2,hk.1.2⟩⟩)⟩,⟨by (with_reducible repeat (first|apply aR|apply nR|apply dR));exact Kd.R_mono (Kd.R_far (p:=⟨gb487,4,none⟩) (Kd.R_far (p:=⟨gb487,3,none⟩) (Kd.R_far (p:=⟨gb487,2,none⟩) (Kd.R_far (p:=⟨gb487,1,none⟩) (Kd.R_far (p:=⟨gb487,0,none⟩) (Kd.R_types HO465.out BK487.out (by decide)) (by first|exact fun _ hk=>hk.2|(intro k_ hk;simp only [hk,ne_eq,and_self,not_false_eq_true])) (.int .i64 t475)) (by first|exact fun _ hk=>hk.2|(intro k_ hk;simp only [hk,ne_eq,and_self,not_false_eq_true])) (.slice Ao21 t476.length co21)) (by first|exact fun _ hk=>hk.2|(intro k_ hk;simp only [hk,ne_eq,and_self,not_false_eq_true])) (.int .i64 t479)) (by first|exact fun _ hk=>hk.2|(intro k_ hk;simp only [hk,ne_eq,and_self,not_false_eq_true])) (.slice Ao22 t480.length co22)) (by first|exact fun _ hk=>hk.2|(intro k_ hk;simp only [hk,ne_eq,and_self,not_false_eq_true])) (.slice Ao23 t483.length co23)) (fun _ hk=>⟨hk.1.1.1,⟨hk.1.1.2,hk.1.2⟩⟩)⟩,⟨by (with_reducible repeat (first|apply aR|apply nR|apply dR));exact Kd.R_mono (Kd.R_far (p:=⟨gb487,4,none⟩) (Kd.R_far (p:=⟨gb487,3,none⟩) (Kd.R_far (p:=⟨gb487,2,none⟩) (Kd.R_far (p:=⟨gb487,1,none⟩) (Kd.R_far (p:=⟨gb487,0,none⟩) (Kd.R_types HO469.out BK487.out (by decide)) (by first|exact fun _ hk=>hk.2|(intro k_ hk;simp only [hk,ne_eq,and_self,not_false_eq_true])) (.int .i64 t475)) (by first|exact fun _ hk=>hk.2|(intro k_ hk;simp only [hk,ne_eq,and_self,not_false_eq_true])) (.slice Ao21 t476.length co21)) (by first|exact fun _ hk=>hk.2|(intro k_ hk;simp only [hk,ne_eq,and_self,not_false_eq_true])) (.int .i64 t479)) (by first|exact fun _ hk=>hk.2|(intro k_ hk;simp only [hk,ne_eq,and_self,not_false_eq_true])) (.slice Ao22 t480.length co22)) (by first|exact fun _ hk=>hk.2|(intro k_ hk;simp only [hk,ne_eq,and_self,not_false_eq_true])) (.slice Ao23 t483.length co23)) (fun _ hk=>⟨hk.1.1.1,⟨hk.1.1.2,hk.1.2⟩⟩)⟩,⟨by (with_reducible repeat (first|apply aR|apply nR|apply dR));exact Kd.R_mono (Kd.R_far (p:=⟨gb487,4,none⟩) (Kd.R_far (p:=⟨gb487,3,none⟩) (Kd.R_far (p:=⟨gb487,2,none⟩) (Kd.R_far (p:=⟨gb487,1,none⟩) (Kd.R_far (p:=⟨gb487,0,none⟩) (Kd.R_types HO472.out BK487.out (by decide)) (by first|exact fun _ hk=>hk.2|(intro k_ hk;simp only [hk,ne_eq,and_self,not_false_eq_true])) (.int .i64 t475)) (by first|exact fun _ hk=>hk.2|(intro k_ hk;simp only [hk,ne_eq,and_self,not_false_eq_true])) (.slice Ao21 t476.length co21)) (by first|exact fun _ hk=>hk.2|(intro k_ hk;simp only [hk,ne_eq,and_self,not_false_eq_true])) (.int .i64 t479)) (by first|exact fun _ hk=>hk.2|(intro k_ hk;simp only [hk,ne_eq,and_self,not_false_eq_true])) (.slice Ao22 t480.length co22)) (by first|exact fun _ hk=>hk.2|(intro k_ hk;simp only [hk,ne_eq,and_self,not_false_eq_true])) (.slice Ao23 t483.length co23)) (fun _ hk=>⟨hk.1.1.1.2,⟨hk.1.1.2,hk.1.2⟩⟩)⟩,⟨by (with_reducible repeat (first|apply aR|apply nR|apply dR));exact Kd.R_mono (Kd.R_far (p:=⟨gb487,4,none⟩) (Kd.R_far (p:=⟨gb487,3,none⟩) (Kd.R_far (p:=⟨gb487,2,none⟩) (Kd.R_far (p:=⟨gb487,1,none⟩) (Kd.R_far (p:=⟨gb487,0,none⟩) (Kd.R_types HO478.out BK487.out (by decide)) (by first|exact fun _ hk=>hk.2|(intro k_ hk;simp only [hk,ne_eq,and_self,not_false_eq_true])) (.int .i64 t475)) (by first|exact fun _ hk=>hk.2|(intro k_ hk;simp only [hk,ne_eq,and_self,not_false_eq_true])) (.slice Ao21 t476.length co21)) (by first|exact fun _ hk=>hk.2|(intro k_ hk;simp only [hk,ne_eq,and_self,not_false_eq_true])) (.int .i64 t479)) (by first|exact fun _ hk=>hk.2|(intro k_ hk;simp only [hk,ne_eq,and_self,not_false_eq_true])) (.slice Ao22 t480.length co22)) (by first|exact fun _ hk=>hk.2|(intro k_ hk;simp only [hk,ne_eq,and_self,not_false_eq_true])) (.slice Ao23 t483.length co23)) (fun _ hk=>⟨hk.1.1.2,⟨hk.1.2,hk.1.1.1⟩⟩)⟩,⟨by (with_reducible repeat (first|apply aR|apply nR|apply dR));exact Kd.R_mono (Kd.R_far (p:=⟨gb487,4,none⟩) (Kd.R_far (p:=⟨gb487,3,none⟩) (Kd.R_far (p:=⟨gb487,2,none⟩) (Kd.R_far (p:=⟨gb487,1,none⟩) (Kd.R_far (p:=⟨gb487,0,none⟩) (Kd.R_types HO482.out BK487.out (by decide)) (by first|exact fun _ hk=>hk.2|(intro k_ hk;simp only [hk,ne_eq,and_self,not_false_eq_true])) (.int .i64 t475)) (by first|exact fun _ hk=>hk.2|(intro k_ hk;simp only [hk,ne_eq,and_self,not_false_eq_true])) (.slice Ao21 t476.length co21)) (by first|exact fun _ hk=>hk.2|(intro k_ hk;simp only [hk,ne_eq,and_self,not_false_eq_true])) (.int .i64 t479)) (by first|exact fun _ hk=>hk.2|(intro k_ hk;simp only [hk,ne_eq,and_self,not_false_eq_true])) (.slice Ao22 t480.length co22)) (by first|exact fun _ hk=>hk.2|(intro k_ hk;simp only [hk,ne_eq,and_self,not_false_eq_true])) (.slice Ao23 t483.length co23)) (fun _ hk=>⟨hk.1.1.2,⟨hk.1.2,hk.1.1.1⟩⟩)⟩,⟨by (with_reducible repeat (first|apply aR|apply nR|apply dR));exact Kd.R_mono (Kd.R_far (p:=⟨gb487,4,none⟩) (Kd.R_far (p:=⟨gb487,3,none⟩) (Kd.R_far (p:=⟨gb487,2,none⟩) (Kd.R_far (p:=⟨gb487,1,none⟩) (Kd.R_far (p:=⟨gb487,0,none⟩) (Kd.R_types HO485.out BK487.out (by decide)) (by first|exact fun _ hk=>hk.2|(intro k_ hk;simp only [hk,ne_eq,and_self,not_false_eq_true])) (.int .i64 t475)) (by first|exact fun _ hk=>hk.2|(intro k_ hk;simp only [hk,ne_eq,and_self,not_false_eq_true])) (.slice Ao21 t476.length co21)) (by first|exact fun _ hk=>hk.2|(intro k_ hk;simp only [hk,ne_eq,and_self,not_false_eq_true])) (.int .i64 t479)) (by first|exact fun _ hk=>hk.2|(intro k_ hk;simp only [hk,ne_eq,and_self,not_false_eq_true])) (.slice Ao22 t480.length co22)) (by first|exact fun _ hk=>hk.2|(intro k_ hk;simp only [hk,ne_eq,and_self,not_false_eq_true])) (.slice Ao23 t483.length co23)) (fun _ hk=>⟨hk.1.1.1.2,⟨hk.1.1.2,hk.1.2⟩⟩)⟩,⟨by (with_reducible repeat (first|apply nB|apply dB|apply aB));refine blk_far ?_ NB474_487.out _;(with_reducible repeat (first|apply nB|apply dB|apply aB));refine blk_far ?_ NB474_487.out _;(with_reducible repeat (first|apply nB|apply dB|apply aB));refine blk_far ?_ NB474_487.out _;(with_reducible repeat (first|apply nB|apply dB|apply aB));refine blk_far ?_ NB474_487.out _;(with_reducible repeat (first|apply nB|apply dB|apply aB));refine blk_far ?_ NB474_487.out _;(with_reducible repeat (first|apply nB|apply dB|apply aB));exact BK474.out⟩,⟨by (with_reducible repeat (first|apply nB|apply dB|apply aB));refine blk_put (cs:=#[.int .i64 t475,.slice Ao21 t476.length co21,.int .i64 t479,.slice Ao22 t480.length co22,.slice none 0 0]) ?_ 4 _ rfl;(with_reducible repeat (first|apply nB|apply dB|apply aB));refine blk_put (cs:=#[.int .i64 t475,.slice Ao21 t476.length co21,.int .i64 t479,.slice none 0 0,.slice none 0 0]) ?_ 3 _ rfl;(with_reducible repeat (first|apply nB|apply dB|apply aB));refine blk_put (cs:=#[.int .i64 t475,.slice Ao21 t476.length co21,.int .i64 0,.slice none 0 0,.slice none 0 0]) ?_ 2 _ rfl;(with_reducible repeat (first|apply nB|apply dB|apply aB));refine blk_put (cs:=#[.int .i64 t475,.slice none 0 0,.int .i64 0,.slice none 0 0,.slice none 0 0]) ?_ 1 _ rfl;(with_reducible repeat (first|apply nB|apply dB|apply aB));refine blk_put (cs:=#[.int .i64 0,.slice none 0 0,.int .i64 0,.slice none 0 0,.slice none 0 0]) ?_ 0 _ rfl;(with_reducible repeat (first|apply nB|apply dB|apply aB));exact BK487.out⟩,⟨by repeat (first|(with_reducible first|exact HB.out|apply aZ|apply nZ|apply dZ|refine sZ ?_ GE474.out|refine sZ ?_ GE487.out)|exact HB.out)⟩⟩
 case rest =>
  clear HC7
  try clear c1
  try clear c2
  try clear p2
  try clear c3
  try clear c5
  try clear c6
  try clear c8
  try clear c19
  try clear c20
  try clear c24
  try clear c24b0
  try clear c24b1
  try clear c24b2
  try clear hcz13_0
  try clear hcz13_1
  try clear hcz13_2
  try clear hcz13_3
  try clear hcz13_4
  try clear hcz20_0
  try clear hcz20_1
  try clear hcz20_2
  try clear hcz20_3
  try clear hcz20_4
  try clear hfz13_0
  try clear hfz13_1
  try clear hfz13_2
  try clear hfz13_3
  try clear hfz13_4
  try clear hfz20_0
  try clear hfz20_1
  try clear hfz20_2
  try clear hfz20_3
  try clear hfz20_4
  obtain⟨kq,x36_6,rfl,HA,HJ6,HO_3,HO_4,HO_475001,HO_475003,HO_475004,HO_488001,HO_488003,HO_488004,BK474,BK487,HB⟩:=hcut
  cases kq with
  | zero=>exact absurd HA.out (by simp [laws_FnPatchBack.j0])
  | succ kj6 =>
   have H:=HA.out
   clear HA
   simp only [laws_FnPatchBack.j0] at H
   by_cases c25:x36_6 = true
   ·subst c25
    have H1:(some (t486 == t473)) = some r:=by rw [if_pos rfl] at H;exact H
    clear H
    have H:=H1
    clear H1
    obtain rfl:=Option.some.inj H
    go_wp2
    go_ret
    exact⟨by first|rfl|(simp [errW_none,errW_some] <;> rfl)|(simp [*,errW_none,errW_some] <;> rfl),by repeat (first|(with_reducible first|exact HB.out|apply aZ|apply nZ|apply dZ|refine sZ ?_ GE474.out|refine sZ ?_ GE487.out)|exact HB.out)⟩
   replace c25:=Bool.eq_false_iff.mpr c25
   subst c25
   have H1:((some (([]:List Int):List Int)).bind fun y488=>(if y488.length + t456.length < 17592186044416 then ((impl_PatchDo.f kj6 (y488 ++ t456) t475 t476 t479 t480 t483).bind fun bt494=>(if bt494.2 = true then ((laws_same.f kj6 bt494.1 t457).bind fun t498=>(if t498 = true then ((spec_CommonLen.f kj6 t456 t457).bind fun t499=>(if (t483.length:Int) = (wrap64 ((t457.length:Int) - t499)) then (some (t475 == (t456.length:Int))) else (some false))) else (some false))) else (some false))) else (none))) = some r:=by rw [if_neg (show ¬ (false = true) by decide)] at H;exact H
   clear H
   have H:=H1
   clear H1
   obtain⟨y488,hy488⟩:∃ y_:List Int,y_ = (([]:List Int)):=⟨_,rfl⟩
   replace H:(if y488.length + t456.length < 17592186044416 then ((impl_PatchDo.f kj6 (y488 ++ t456) t475 t476 t479 t480 t483).bind fun bt494=>(if bt494.2 = true then ((laws_same.f kj6 bt494.1 t457).bind fun t498=>(if t498 = true then ((spec_CommonLen.f kj6 t456 t457).bind fun t499=>(if (t483.length:Int) = (wrap64 ((t457.length:Int) - t499)) then (some (t475 == (t456.length:Int))) else (some false))) else (some false))) else (some false))) else (none)) = some r:=by first|(rw [hy488];with_reducible exact H)|(have H2_:=(Option.bind_some _ _).symm.trans H;rw [hy488];with_reducible exact H2_)|(have H2_:=(Option.bind_some _ _).symm.trans H;with_reducible exact H2_)|with_reducible exact H|(rw [hy488];exact H)|exact H
   have Ny488:=mk0 hy488
   clear hy488
   by_cases c26:y488.length + t456.length < 17592186044416
   rotate_left
   ·rw [if_neg c26] at H
    exact absurd H (by simp)

   rw [if_pos c26] at H
   have LMc26:=mk0 c26
   clear c26
   obtain⟨y491,hy491⟩:∃ y_:List Int,y_ = (y488 ++ t456):=⟨_,rfl⟩
   replace H:((impl_PatchDo.f kj6 y491 t475 t476 t479 t480 t483).bind fun bt494=>(if bt494.2 = true then ((laws_same.f kj6 bt494.1 t457).bind fun t498=>(if t498 = true then ((spec_CommonLen.f kj6 t456 t457).bind fun t499=>(if (t483.length:Int) = (wrap64 ((t457.length:Int) - t499)) then (some (t475 == (t456.length:Int))) else (some false))) else (some false))) else (some false))) = some r:=by first|(rw [hy491];with_reducible exact H)|(have H2_:=(Option.bind_some _ _).symm.trans H;rw [hy491];with_reducible exact H2_)|(have H2_:=(Option.bind_some _ _).symm.trans H;with_reducible exact H2_)|with_reducible exact H|(rw [hy491];exact H)|exact H
   have Ny491:=mk0 hy491
   clear hy491
   replace H:=Option.bind_eq_some_iff.mp H
   obtain⟨⟨t494,t497⟩,A270,H⟩:=H
   replace H:(if t497 = true then ((laws_same.f kj6 t494 t457).bind fun t498=>(if t498 = true then ((spec_CommonLen.f kj6 t456 t457).bind fun t499=>(if (t483.length:Int) = (wrap64 ((t457.length:Int) - t499)) then (some (t475 == (t456.length:Int))) else (some false))) else (some false))) else (some false)) = some r:=H
   have A27:=mk0 A270
   clear A270
   by_cases c28:t497 = true
   rotate_left
   ·replace c28:=Bool.eq_false_iff.mpr c28
    subst c28
    have H1:(some false) = some r:=by rw [if_neg (show ¬ (false = true) by decide)] at H;exact H
    clear H
    have H:=H1
    clear H1
    obtain rfl:=Option.some.inj H
    try go_wp2
    have n0_:=mk0 (dR HO_3.out)
    have n1_:=mk0 (dR HO_4.out)
    have n2_:=mk0 (dR HO_475001.out)
    have n3_:=mk0 (dR HO_475003.out)
    have n4_:=mk0 (dR HO_475004.out)
    have n5_:=mk0 (dR HO_488001.out)
    have n6_:=mk0 (dR HO_488003.out)
    have n7_:=mk0 (dR HO_488004.out)
    have n8_:=mk0 (dB BK474.out)
    have n9_:=mk0 (dB BK487.out)
    have n10_:=mk0 (dZ HB.out)
    clear HO_3
    clear HO_4
    clear HO_475001
    clear HO_475003
    clear HO_475004
    clear HO_488001
    clear HO_488003
    clear HO_488004
    clear BK474
    clear BK487
    clear HB
    have HO_3:=n0_
    have HO_4:=n1_
    have HO_475001:=n2_
    have HO_475003:=n3_
    have HO_475004:=n4_
    have HO_488001:=n5_
    have HO_488003:=n6_
    have HO_488004:=n7_
    have BK474:=n8_
    have BK487:=n9_
    have HB:=n10_
    clear n0_ n1_ n2_ n3_ n4_ n5_ n6_ n7_ n8_ n9_ n10_
    refine start_ (n:=10) (S:=fun w'=>w'.cell? ⟨gb487,0,none⟩ = some (.int .i64 t475) ∧ w'.cell? ⟨gb487,1,none⟩ = some (.slice Ao21 t476.length co21) ∧ w'.cell? ⟨gb487,2,none⟩ = some (.int .i64 t479) ∧ w'.cell? ⟨gb487,3,none⟩ = some (.slice Ao22 t480.length co22) ∧ w'.cell? ⟨gb487,4,none⟩ = some (.slice Ao23 t483.length co23)) (ds:=[]) laws_FnPatchBack.m0 (by kernel_rfl) rfl rfl ⟨(blk_cell BK487.out 0).trans rfl,(blk_cell BK487.out 1).trans rfl,(blk_cell BK487.out 2).trans rfl,(blk_cell BK487.out 3).trans rfl,(blk_cell BK487.out 4).trans rfl⟩ (fun hHeld=>?_);refine with_tabW laws_FnPatchBack.tab8 laws_FnPatchBack.bits8 (fun HT_ HW_=>?_)
    generalize wc.drew = w59 at HO_3 HO_4 HO_475001 HO_475003 HO_475004 HO_488001 HO_488003 HO_488004 BK474 BK487 HB hHeld ⊢
    refine pure_ (i:=1) (N:=some 42) (v:=?_) (a':=?_) laws_FnPatchBack.m1 rfl rfl (any_of HT_.out (by kernel_rfl)) (fun _ _ _ h=>h) (Or.inl ⟨by rfl,?_⟩) ?_ ?_
    rotate_left
    ·intro w'
     go_simp
     with_reducible rfl
    rotate_left
    ·simp only [Act.put,sA,sO,sS,i64_w,i32_w]
     rfl
    refine take_ (i:=3) (N:=some 44) (v:=?_) (a':=?_) laws_FnPatchBack.m2 rfl rfl (take_ofW HT_.out HW_.out (by kernel_rfl)) (fun _ _ _ h=>h) (Or.inl ⟨by rfl,?_⟩) hHeld ?_ ?_
    rotate_left
    ·rintro w' ⟨s0,s1,s2,s3,s4⟩
     go_simp
     with_reducible rfl
    rotate_left
    ·simp only [Act.put,sA,sO,sS,i64_w,i32_w]
     rfl
    refine one_ (i:=0) (N:=some 41) laws_FnPatchBack.m3 rfl rfl (one_of HT_.out (by kernel_rfl)) (by decide) (fun K hK=>?_)
    refine Kd.R_lit_step (Kd.int .i64) _ 3 ?hg (N:=41) ?hd (xs:=([]:List Int)) (inner:=[]) (ok:=fun _=>True) (okp:=fun _=>True) ?hr ?hp (fun _ hk=>hk) trivial (Below.refl _ _) (Nat.le_refl _) (by simp) ?_;(case hd=>rfl);(case hg=>rfl);(case hr=>first|(go_simp;done)|(go_simp;rfl));(case hp=>exact (Reps.none _ _))
    intro v489 w60 ho61 hb hg_ hnew_
    clear hg_ hnew_
    (first|rw [← Ny488.out] at ho61|(simp only [Int.reduceToNat] at ho61;rw [← Ny488.out] at ho61))
    have n0_:=mk0 (Kd.R_elder' (by (with_reducible repeat (first|apply aR|apply nR|apply dR));exact HO_3.out) (Kd.R_base ho61) hb)
    have n1_:=mk0 (Kd.R_elder' (by (with_reducible repeat (first|apply aR|apply nR|apply dR));exact HO_4.out) (Kd.R_base ho61) hb)
    have n2_:=mk0 (Kd.R_below (by (with_reducible repeat (first|apply aR|apply nR|apply dR));exact HO_475001.out) hb)
    have n3_:=mk0 (Kd.R_below (by (with_reducible repeat (first|apply aR|apply nR|apply dR));exact HO_475003.out) hb)
    have n4_:=mk0 (Kd.R_elder' (by (with_reducible repeat (first|apply aR|apply nR|apply dR));exact HO_475004.out) (Kd.R_base ho61) hb)
    have n5_:=mk0 (Kd.R_below (by (with_reducible repeat (first|apply aR|apply nR|apply dR));exact HO_488001.out) hb)
    have n6_:=mk0 (Kd.R_below (by (with_reducible repeat (first|apply aR|apply nR|apply dR));exact HO_488003.out) hb)
    have n7_:=mk0 (Kd.R_elder' (by (with_reducible repeat (first|apply aR|apply nR|apply dR));exact HO_488004.out) (Kd.R_base ho61) hb)
    have n8_:=mk0 (Kd.R_lower (Kd.R_new' (Kd.R_new' (Kd.R_new' (Kd.R_new' ho61 (Kd.R_lt (by (with_reducible repeat (first|apply aR|apply nR|apply dR));exact HO_3.out))) (Kd.R_lt (by (with_reducible repeat (first|apply aR|apply nR|apply dR));exact HO_4.out))) (Kd.R_lt (by (with_reducible repeat (first|apply aR|apply nR|apply dR));exact HO_475004.out))) (Kd.R_lt (by (with_reducible repeat (first|apply aR|apply nR|apply dR));exact HO_488004.out))) (below_size (by repeat (first|(with_reducible first|exact HB.out|apply aZ|apply nZ|apply dZ|refine sZ ?_ GE474.out|refine sZ ?_ GE487.out)|exact HB.out))))
    have n9_:=mk0 (blk_below (g:=gb474) (o:=.cells #[.int .i64 t462,.slice Ao14 t463.length co14,.int .i64 t466,.slice Ao15 t467.length co15,.slice Ao16 t470.length co16] 27 (0,0)) (by (with_reducible repeat (first|apply nB|apply dB|apply aB));exact BK474.out) hb)
    have n10_:=mk0 (blk_below (g:=gb487) (o:=.cells #[.int .i64 t475,.slice Ao21 t476.length co21,.int .i64 t479,.slice Ao22 t480.length co22,.slice Ao23 t483.length co23] 27 (0,0)) (by (with_reducible repeat (first|apply nB|apply dB|apply aB));exact BK487.out) hb)
    have n11_:=mk0 (below_step (by repeat (first|(with_reducible first|exact HB.out|apply aZ|apply nZ|apply dZ|refine sZ ?_ GE474.out|refine sZ ?_ GE487.out)|exact HB.out)) hb)
    clear HO_3
    clear HO_4
    clear HO_475001
    clear HO_475003
    clear HO_475004
    clear HO_488001
    clear HO_488003
    clear HO_488004
    clear BK474
    clear BK487
    clear HB
    have HO_3:=n0_
    have HO_4:=n1_
    have HO_475001:=n2_
    have HO_475003:=n3_
    have HO_475004:=n4_
    have HO_488001:=n5_
    have HO_488003:=n6_
    have HO_488004:=n7_
    have HO490:=n8_
    have BK474:=n9_
    have BK487:=n10_
    have HB:=n11_
    clear n0_ n1_ n2_ n3_ n4_ n5_ n6_ n7_ n8_ n9_ n10_ n11_
    clear hb ho61
    refine hK.out _ _ ⟨(blk_cell BK487.out 0).trans rfl,(blk_cell BK487.out 1).trans rfl,(blk_cell BK487.out 2).trans rfl,(blk_cell BK487.out 3).trans rfl,(blk_cell BK487.out 4).trans rfl⟩ (fun hHeld=>?_)
    clear hK K
    refine norm_ (a':=?_) ?_ ?_
    rotate_left
    ·show Act.put _ (some 41) _ = _
     simp only [Act.put,sA,sO,sS,i64_w,i32_w]
     rfl
    refine one_ (i:=2) (N:=some 43) laws_FnPatchBack.m4 rfl rfl (one_of HT_.out (by kernel_rfl)) (by decide) (fun K hK=>?_)
    refine Kd.R_append_rows_step (Kd.int .i64) (w0:=w) w.heap.size (by rfl) (.tmp 41) (.tmp 42) 22 3 (.int .i64 0) 8 rfl Try.underlying22 info3 rfl (by decide) (by omega) v489 y488 t456 _ _ _ (fun k_=>some k_ ≠ (.slice Ao9 t456.length co9:Value).ownBlock ∧ some k_ ≠ (.slice Ao10 t457.length co10:Value).ownBlock ∧ some k_ ≠ (.slice Ao16 t470.length co16:Value).ownBlock ∧ some k_ ≠ (.slice Ao23 t483.length co23:Value).ownBlock) (fun _=>False) rfl rfl ?aO ?aR (fun _ _ h=>h) (fun _ h=>h.elim) ?aF ?aB ?aS ?aL ?_
    (case aR=>repeat (first|exact (Kd.R_reads' HO_3.out).2.2|(with_reducible first|apply aC|apply nC|apply dC)))
    (case aB=>exact (by repeat (first|(with_reducible first|exact HB.out|apply aZ|apply nZ|apply dZ|refine sZ ?_ GE474.out|refine sZ ?_ GE487.out)|exact HB.out)))
    (case aF=>exact (fun k_ hk=>⟨Kd.fresh' (Kd.R_lt (by (with_reducible repeat (first|apply aR|apply nR|apply dR));exact HO_3.out)) k_ hk,Kd.fresh' (Kd.R_lt (by (with_reducible repeat (first|apply aR|apply nR|apply dR));exact HO_4.out)) k_ hk,Kd.fresh' (Kd.R_lt (by (with_reducible repeat (first|apply aR|apply nR|apply dR));exact HO_475004.out)) k_ hk,Kd.fresh' (Kd.R_lt (by (with_reducible repeat (first|apply aR|apply nR|apply dR));exact HO_488004.out)) k_ hk⟩))
    (case aO=>exact (by (with_reducible repeat (first|apply aR|apply nR|apply dR));exact Kd.R_mono HO490.out (fun _ hk=>⟨hk.1.1.1.2,⟨hk.1.1.2,⟨hk.1.2,hk.2⟩⟩⟩)))
    (case aS=>exact (below_size (by repeat (first|(with_reducible first|exact HB.out|apply aZ|apply nZ|apply dZ|refine sZ ?_ GE474.out|refine sZ ?_ GE487.out)|exact HB.out))))
    (case aL=>have:=LMc26.out;omega)
    intro v492 w62 ho hb hg hat
    rw [← Ny491.out] at ho
    have n0_:=mk0 (Kd.R_after (ok:=(fun k_=>some k_ ≠ (.slice Ao10 t457.length co10:Value).ownBlock ∧ some k_ ≠ (.slice Ao16 t470.length co16:Value).ownBlock ∧ some k_ ≠ (.slice Ao23 t483.length co23:Value).ownBlock)) (by (with_reducible repeat (first|apply aR|apply nR|apply dR));exact HO_3.out) hg hat)
    have n1_:=mk0 (Kd.R_after (ok:=(fun k_=>some k_ ≠ (.slice Ao9 t456.length co9:Value).ownBlock ∧ some k_ ≠ (.slice Ao16 t470.length co16:Value).ownBlock ∧ some k_ ≠ (.slice Ao23 t483.length co23:Value).ownBlock)) (by (with_reducible repeat (first|apply aR|apply nR|apply dR));exact HO_4.out) hg hat)
    have n2_:=mk0 (Kd.R_over' (by (with_reducible repeat (first|apply aR|apply nR|apply dR));exact HO_475001.out) (Kd.R_typed (by (with_reducible repeat (first|apply aR|apply nR|apply dR));exact HO490.out)) (by decide) hg)
    have n3_:=mk0 (Kd.R_over' (by (with_reducible repeat (first|apply aR|apply nR|apply dR));exact HO_475003.out) (Kd.R_typed (by (with_reducible repeat (first|apply aR|apply nR|apply dR));exact HO490.out)) (by decide) hg)
    have n4_:=mk0 (Kd.R_after (ok:=(fun k_=>some k_ ≠ (.slice Ao9 t456.length co9:Value).ownBlock ∧ some k_ ≠ (.slice Ao10 t457.length co10:Value).ownBlock ∧ some k_ ≠ (.slice Ao23 t483.length co23:Value).ownBlock)) (by (with_reducible repeat (first|apply aR|apply nR|apply dR));exact HO_475004.out) hg hat)
    have n5_:=mk0 (Kd.R_over' (by (with_reducible repeat (first|apply aR|apply nR|apply dR));exact HO_488001.out) (Kd.R_typed (by (with_reducible repeat (first|apply aR|apply nR|apply dR));exact HO490.out)) (by decide) hg)
    have n6_:=mk0 (Kd.R_over' (by (with_reducible repeat (first|apply aR|apply nR|apply dR));exact HO_488003.out) (Kd.R_typed (by (with_reducible repeat (first|apply aR|apply nR|apply dR));exact HO490.out)) (by decide) hg)
    have n7_:=mk0 (Kd.R_after (ok:=(fun k_=>some k_ ≠ (.slice Ao9 t456.length co9:Value).ownBlock ∧ some k_ ≠ (.slice Ao10 t457.length co10:Value).ownBlock ∧ some k_ ≠ (.slice Ao16 t470.length co16:Value).ownBlock)) (by (with_reducible repeat (first|apply aR|apply nR|apply dR));exact HO_488004.out) hg hat)
    have n8_:=mk0 (blk_grown (g:=gb474) (o:=.cells #[.int .i64 t462,.slice Ao14 t463.length co14,.int .i64 t466,.slice Ao15 t467.length co15,.slice Ao16 t470.length co16] 27 (0,0)) (by (with_reducible repeat (first|apply nB|apply dB|apply aB));exact BK474.out) hg (Kd.R_ne HO490.out BK474.out (by decide)))
    have n9_:=mk0 (blk_grown (g:=gb487) (o:=.cells #[.int .i64 t475,.slice Ao21 t476.length co21,.int .i64 t479,.slice Ao22 t480.length co22,.slice Ao23 t483.length co23] 27 (0,0)) (by (with_reducible repeat (first|apply nB|apply dB|apply aB));exact BK487.out) hg (Kd.R_ne HO490.out BK487.out (by decide)))
    have n10_:=mk0 (hb)
    have n11_:=mk0 (ho)
    clear HO_3
    clear HO_4
    clear HO_475001
    clear HO_475003
    clear HO_475004
    clear HO_488001
    clear HO_488003
    clear HO_488004
    clear BK474
    clear BK487
    clear HB
    clear HO490
    have HO_3:=n0_
    have HO_4:=n1_
    have HO_475001:=n2_
    have HO_475003:=n3_
    have HO_475004:=n4_
    have HO_488001:=n5_
    have HO_488003:=n6_
    have HO_488004:=n7_
    have BK474:=n8_
    have BK487:=n9_
    have HB:=n10_
    have HO493:=n11_
    clear n0_ n1_ n2_ n3_ n4_ n5_ n6_ n7_ n8_ n9_ n10_ n11_
    clear ho hb hg hat
    obtain⟨Ao63,co63,eo63⟩:=Kd.R_slice HO493.out
    (first|subst eo63|(injection eo63 with f1_ f2_ f3_;have f4_:=f1_.symm;have f5_:=f3_.symm;clear f1_ f2_ f3_;subst f4_;subst f5_))
    refine hK.out _ _ ⟨(blk_cell BK487.out 0).trans rfl,(blk_cell BK487.out 1).trans rfl,(blk_cell BK487.out 2).trans rfl,(blk_cell BK487.out 3).trans rfl,(blk_cell BK487.out 4).trans rfl⟩ (fun hHeld=>?_)
    clear hK K
    refine norm_ (a':=?_) ?_ ?_
    rotate_left
    ·show Act.put _ (some 43) _ = _
     simp only [Act.put,sA,sO,sS,i64_w,i32_w]
     rfl
    refine one_ (i:=4) (N:=some 45) laws_FnPatchBack.m5 rfl rfl (one_of HT_.out (by kernel_rfl)) (by decide) (fun K hK=>?_)
    refine goes_ Try.func17 (by kernel_rfl) rfl #[.slice Ao63 y491.length co63,.agg #[.int .i64 t475,.slice Ao21 t476.length co21,.int .i64 t479,.slice Ao22 t480.length co22,.slice Ao23 t483.length co23]] (by rfl) rfl rfl (by (try simp only [mA,mC,mN]);first|done|rfl|(simp only [List.length_drop,List.length_take];rfl)) ?_
    with_reducible refine (impl_PatchDo.calls kj6 _ _ y491 t475 _ _ t476 t479 _ _ t480 (fun k_=>some k_ = (.slice Ao23 t483.length co23:Value).ownBlock) _ _ t483 t494 false _ ?side1 ?side2 ?side3 ?side4 ?side5 ?side6 ?side7 A27.out).mono ?_
    (case side1=>repeat (first|exact (Kd.R_reads' HO493.out).2.2|(with_reducible first|apply aC|apply nC|apply dC)))
    (case side2=>exact (Kd.R_reads' HO493.out).2.1)
    (case side3=>repeat (first|exact (Kd.R_reads' HO_488001.out).2.2|(with_reducible first|apply aC|apply nC|apply dC)))
    (case side4=>exact (Kd.R_reads' HO_488001.out).2.1)
    (case side5=>repeat (first|exact (Kd.R_reads' HO_488003.out).2.2|(with_reducible first|apply aC|apply nC|apply dC)))
    (case side6=>exact (Kd.R_reads' HO_488003.out).2.1)
    (case side7=>exact Kd.R_V (Kd.R_tight rfl (Kd.R_types (Kd.R_types (Kd.R_apart' (Kd.R_apart' (Kd.R_apart' (Kd.R_apart' (HO_488004.out) (Kd.R_typed HO_475001.out) (by decide)) (Kd.R_typed HO_475003.out) (by decide)) (Kd.R_typed HO_488001.out) (by decide)) (Kd.R_typed HO_488003.out) (by decide)) BK474.out (by decide)) BK487.out (by decide))))
    rintro e w64 ⟨v495,rfl,ho0,hb⟩
    refine⟨_,rfl,?_⟩
    have n0_:=mk0 (Kd.R_elder' (by (with_reducible repeat (first|apply aR|apply nR|apply dR));exact HO_3.out) (Kd.R_base ho0) hb)
    have n1_:=mk0 (Kd.R_elder' (by (with_reducible repeat (first|apply aR|apply nR|apply dR));exact HO_4.out) (Kd.R_base ho0) hb)
    have n2_:=mk0 (Kd.R_below (by (with_reducible repeat (first|apply aR|apply nR|apply dR));exact HO_475001.out) hb)
    have n3_:=mk0 (Kd.R_below (by (with_reducible repeat (first|apply aR|apply nR|apply dR));exact HO_475003.out) hb)
    have n4_:=mk0 (Kd.R_elder' (by (with_reducible repeat (first|apply aR|apply nR|apply dR));exact HO_475004.out) (Kd.R_base ho0) hb)
    have n5_:=mk0 (Kd.R_below (by (with_reducible repeat (first|apply aR|apply nR|apply dR));exact HO_488001.out) hb)
    have n6_:=mk0 (Kd.R_below (by (with_reducible repeat (first|apply aR|apply nR|apply dR));exact HO_488003.out) hb)
    have n7_:=mk0 (Kd.R_elder' (by (with_reducible repeat (first|apply aR|apply nR|apply dR));exact HO_488004.out) (Kd.R_base ho0) hb)
    have n8_:=mk0 (Kd.R_elder' (by (with_reducible repeat (first|apply aR|apply nR|apply dR));exact HO493.out) (Kd.R_base ho0) hb)
    have n9_:=mk0 (Kd.R_lower (Kd.R_new' (Kd.R_new' (Kd.R_new' (Kd.R_new' (Kd.R_new' (Kd.R_mono (ok':=fun k_=>True) ho0 (fun _ hk_=>trivial)) (Kd.R_lt (by (with_reducible repeat (first|apply aR|apply nR|apply dR));exact HO_3.out))) (Kd.R_lt (by (with_reducible repeat (first|apply aR|apply nR|apply dR));exact HO_4.out))) (Kd.R_lt (by (with_reducible repeat (first|apply aR|apply nR|apply dR));exact HO_475004.out))) (Kd.R_lt (by (with_reducible repeat (first|apply aR|apply nR|apply dR));exact HO_488004.out))) (Kd.R_lt (by (with_reducible repeat (first|apply aR|apply nR|apply dR));exact HO493.out))) (below_size (by repeat (first|(with_reducible first|exact HB.out|apply aZ|apply nZ|apply dZ|refine sZ ?_ GE474.out|refine sZ ?_ GE487.out)|exact HB.out))))
    have n10_:=mk0 (blk_below (g:=gb474) (o:=.cells #[.int .i64 t462,.slice Ao14 t463.length co14,.int .i64 t466,.slice Ao15 t467.length co15,.slice Ao16 t470.length co16] 27 (0,0)) (by (with_reducible repeat (first|apply nB|apply dB|apply aB));exact BK474.out) hb)
    have n11_:=mk0 (blk_below (g:=gb487) (o:=.cells #[.int .i64 t475,.slice Ao21 t476.length co21,.int .i64 t479,.slice Ao22 t480.length co22,.slice Ao23 t483.length co23] 27 (0,0)) (by (with_reducible repeat (first|apply nB|apply dB|apply aB));exact BK487.out) hb)
    have n12_:=mk0 (below_step (by repeat (first|(with_reducible first|exact HB.out|apply aZ|apply nZ|apply dZ|refine sZ ?_ GE474.out|refine sZ ?_ GE487.out)|exact HB.out)) hb)
    clear HO_3
    clear HO_4
    clear HO_475001
    clear HO_475003
    clear HO_475004
    clear HO_488001
    clear HO_488003
    clear HO_488004
    clear HO493
    clear BK474
    clear BK487
    clear HB
    have HO_3:=n0_
    have HO_4:=n1_
    have HO_475001:=n2_
    have HO_475003:=n3_
    have HO_475004:=n4_
    have HO_488001:=n5_
    have HO_488003:=n6_
    have HO_488004:=n7_
    have HO493:=n8_
    have HO496:=n9_
    have BK474:=n10_
    have BK487:=n11_
    have HB:=n12_
    clear n0_ n1_ n2_ n3_ n4_ n5_ n6_ n7_ n8_ n9_ n10_ n11_ n12_
    (try clear hb)
    (try clear hb2)
    (try clear hk)
    (try clear hi)
    (try clear ho0)
    refine hK.out _ _ ⟨(blk_cell BK487.out 0).trans rfl,(blk_cell BK487.out 1).trans rfl,(blk_cell BK487.out 2).trans rfl,(blk_cell BK487.out 3).trans rfl,(blk_cell BK487.out 4).trans rfl⟩ (fun hHeld=>?_)
    clear hK K
    refine norm_ (a':=?_) ?_ ?_
    rotate_left
    ·show Act.put _ (some 45) _ = _
     simp only [Act.put,sA,sO,sS,i64_w,i32_w]
     rfl
    refine pure_ (i:=5) (N:=some 40) (v:=?_) (a':=?_) laws_FnPatchBack.m6 rfl rfl (any_of HT_.out (by kernel_rfl)) (fun _ _ _ h=>h) (Or.inl ⟨by rfl,?_⟩) ?_ ?_
    rotate_left
    ·intro w'
     go_simp
     with_reducible rfl
    rotate_left
    ·simp only [Act.put,sA,sO,sS,i64_w,i32_w]
     rfl
    refine pure_ (i:=6) (N:=some 46) (v:=?_) (a':=?_) laws_FnPatchBack.m7 rfl rfl (any_of HT_.out (by kernel_rfl)) (fun _ _ _ h=>h) (Or.inl ⟨by rfl,?_⟩) ?_ ?_
    rotate_left
    ·intro w'
     go_simp
     with_reducible rfl
    rotate_left
    ·simp only [Act.put,sA,sO,sS,i64_w,i32_w]
     rfl
    refine pure_ (i:=7) (N:=some 47) (v:=?_) (a':=?_) laws_FnPatchBack.m8 rfl rfl (any_of HT_.out (by kernel_rfl)) (fun _ _ _ h=>h) (Or.inl ⟨by rfl,?_⟩) ?_ ?_
    rotate_left
    ·intro w'
     go_simp
     with_reducible rfl
    rotate_left
    ·simp only [Act.put,sA,sO,sS,i64_w,i32_w]
     rfl
    refine pure_ (i:=8) (N:=some 9) (v:=?_) (a':=?_) laws_FnPatchBack.m9 rfl rfl (any_of HT_.out (by kernel_rfl)) (fun _ _ _ h=>h) (Or.inl ⟨by rfl,?_⟩) ?_ ?_
    rotate_left
    ·intro w'
     go_simp
     with_reducible rfl
    rotate_left
    ·simp only [Act.put,sA,sO,sS,i64_w,i32_w]
     rfl
    refine pure_ (i:=9) (N:=some 10) (v:=?_) (a':=?_) laws_FnPatchBack.m10 rfl rfl (any_of HT_.out (by kernel_rfl)) (fun _ _ _ h=>h) (Or.inl ⟨by rfl,?_⟩) ?_ ?_
    rotate_left
    ·intro w'
     go_simp
     with_reducible rfl
    rotate_left
    ·simp only [Act.put,sA,sO,sS,i64_w,i32_w]
     rfl
    refine done_ (done_of HT_.out (by kernel_rfl)) ?_
    try go_wp2
    have n0_:=mk0 (dR HO_3.out)
    have n1_:=mk0 (dR HO_4.out)
    have n2_:=mk0 (dR HO_475001.out)
    have n3_:=mk0 (dR HO_475003.out)
    have n4_:=mk0 (dR HO_475004.out)
    have n5_:=mk0 (dR HO_488001.out)
    have n6_:=mk0 (dR HO_488003.out)
    have n7_:=mk0 (dR HO_488004.out)
    have n8_:=mk0 (dR HO493.out)
    have n9_:=mk0 (dR HO496.out)
    have n10_:=mk0 (dB BK474.out)
    have n11_:=mk0 (dB BK487.out)
    have n12_:=mk0 (dZ HB.out)
    clear HO_3
    clear HO_4
    clear HO_475001
    clear HO_475003
    clear HO_475004
    clear HO_488001
    clear HO_488003
    clear HO_488004
    clear HO493
    clear HO496
    clear BK474
    clear BK487
    clear HB
    have HO_3:=n0_
    have HO_4:=n1_
    have HO_475001:=n2_
    have HO_475003:=n3_
    have HO_475004:=n4_
    have HO_488001:=n5_
    have HO_488003:=n6_
    have HO_488004:=n7_
    have HO493:=n8_
    have HO496:=n9_
    have BK474:=n10_
    have BK487:=n11_
    have HB:=n12_
    clear n0_ n1_ n2_ n3_ n4_ n5_ n6_ n7_ n8_ n9_ n10_ n11_ n12_
    refine start_ (n:=27) (S:=fun w'=>True) (ds:=[]) laws_FnPatchBack.m11 (by kernel_rfl) rfl rfl trivial (fun hHeld=>?_);refine with_tabW laws_FnPatchBack.tab9 laws_FnPatchBack.bits9 (fun HT_ HW_=>?_)
    generalize w64.drew = w65 at HO_3 HO_4 HO_475001 HO_475003 HO_475004 HO_488001 HO_488003 HO_488004 HO493 HO496 BK474 BK487 HB hHeld ⊢
    refine pure_ (i:=0) (N:=some 48) (v:=?_) (a':=?_) laws_FnPatchBack.m12 rfl rfl (any_of HT_.out (by kernel_rfl)) (fun _ _ _ h=>h) (Or.inl ⟨by rfl,?_⟩) ?_ ?_
    rotate_left
    ·intro w'
     go_simp
     with_reducible rfl
    rotate_left
    ·simp only [Act.put,sA,sO,sS,i64_w,i32_w]
     rfl
    refine pure_ (i:=1) (N:=some 49) (v:=?_) (a':=?_) laws_FnPatchBack.m13 rfl rfl (any_of HT_.out (by kernel_rfl)) (fun _ _ _ h=>h) (Or.inl ⟨by rfl,?_⟩) ?_ ?_
    rotate_left
    ·intro w'
     go_simp
     with_reducible rfl
    rotate_left
    ·simp only [Act.put,sA,sO,sS,i64_w,i32_w]
     rfl
    refine pure_ (i:=2) (N:=some 50) (v:=undef) (a':=?_) laws_FnPatchBack.m14 rfl rfl (any_of HT_.out (by kernel_rfl)) (fun _ _ _ h=>h) (Or.inr ⟨by rfl,rfl⟩) ?_ ?_
    rotate_left
    ·simp only [Act.put,sA,sO,sS,i64_w,i32_w]
     rfl
    refine pure_ (i:=3) (N:=some 51) (v:=undef) (a':=?_) laws_FnPatchBack.m15 rfl rfl (any_of HT_.out (by kernel_rfl)) (fun _ _ _ h=>h) (Or.inr ⟨by rfl,rfl⟩) ?_ ?_
    rotate_left
    ·simp only [Act.put,sA,sO,sS,i64_w,i32_w]
     rfl
    refine pure_ (i:=4) (N:=some 52) (v:=undef) (a':=?_) laws_FnPatchBack.m16 rfl rfl (any_of HT_.out (by kernel_rfl)) (fun _ _ _ h=>h) (Or.inr ⟨by rfl,rfl⟩) ?_ ?_
    rotate_left
    ·simp only [Act.put,sA,sO,sS,i64_w,i32_w]
     rfl
    refine pure_ (i:=5) (N:=some 53) (v:=?_) (a':=?_) laws_FnPatchBack.m17 rfl rfl (any_of HT_.out (by kernel_rfl)) (fun _ _ _ h=>h) (Or.inl ⟨by rfl,?_⟩) ?_ ?_
    rotate_left
    ·intro w'
     go_simp
     with_reducible rfl
    rotate_left
    ·simp only [Act.put,sA,sO,sS,i64_w,i32_w]
     rfl
    refine pure_ (i:=6) (N:=some 54) (v:=?_) (a':=?_) laws_FnPatchBack.m18 rfl rfl (any_of HT_.out (by kernel_rfl)) (fun _ _ _ h=>h) (Or.inl ⟨by rfl,?_⟩) ?_ ?_
    rotate_left
    ·intro w'
     go_simp
     with_reducible rfl
    rotate_left
    ·simp only [Act.put,sA,sO,sS,i64_w,i32_w]
     rfl
    refine pure_ (i:=7) (N:=some 55) (v:=undef) (a':=?_) laws_FnPatchBack.m19 rfl rfl (any_of HT_.out (by kernel_rfl)) (fun _ _ _ h=>h) (Or.inr ⟨by rfl,rfl⟩) ?_ ?_
    rotate_left
    ·simp only [Act.put,sA,sO,sS,i64_w,i32_w]
     rfl
    refine pure_ (i:=8) (N:=some 56) (v:=undef) (a':=?_) laws_FnPatchBack.m20 rfl rfl (any_of HT_.out (by kernel_rfl)) (fun _ _ _ h=>h) (Or.inr ⟨by rfl,rfl⟩) ?_ ?_
    rotate_left
    ·simp only [Act.put,sA,sO,sS,i64_w,i32_w]
     rfl
    refine pure_ (i:=9) (N:=some 57) (v:=undef) (a':=?_) laws_FnPatchBack.m21 rfl rfl (any_of HT_.out (by kernel_rfl)) (fun _ _ _ h=>h) (Or.inr ⟨by rfl,rfl⟩) ?_ ?_
    rotate_left
    ·simp only [Act.put,sA,sO,sS,i64_w,i32_w]
     rfl
    refine pure_ (i:=10) (N:=some 58) (v:=undef) (a':=?_) laws_FnPatchBack.m22 rfl rfl (any_of HT_.out (by kernel_rfl)) (fun _ _ _ h=>h) (Or.inr ⟨by rfl,rfl⟩) ?_ ?_
    rotate_left
    ·simp only [Act.put,sA,sO,sS,i64_w,i32_w]
     rfl
    refine pure_ (i:=11) (N:=some 59) (v:=undef) (a':=?_) laws_FnPatchBack.m23 rfl rfl (any_of HT_.out (by kernel_rfl)) (fun _ _ _ h=>h) (Or.inr ⟨by rfl,rfl⟩) ?_ ?_
    rotate_left
    ·simp only [Act.put,sA,sO,sS,i64_w,i32_w]
     rfl
    refine pure_ (i:=12) (N:=some 60) (v:=undef) (a':=?_) laws_FnPatchBack.m24 rfl rfl (any_of HT_.out (by kernel_rfl)) (fun _ _ _ h=>h) (Or.inr ⟨by rfl,rfl⟩) ?_ ?_
    rotate_left
    ·simp only [Act.put,sA,sO,sS,i64_w,i32_w]
     rfl
    refine pure_ (i:=13) (N:=some 61) (v:=undef) (a':=?_) laws_FnPatchBack.m25 rfl rfl (any_of HT_.out (by kernel_rfl)) (fun _ _ _ h=>h) (Or.inr ⟨by rfl,rfl⟩) ?_ ?_
    rotate_left
    ·simp only [Act.put,sA,sO,sS,i64_w,i32_w]
     rfl
    refine pure_ (i:=14) (N:=some 62) (v:=undef) (a':=?_) laws_FnPatchBack.m26 rfl rfl (any_of HT_.out (by kernel_rfl)) (fun _ _ _ h=>h) (Or.inr ⟨by rfl,rfl⟩) ?_ ?_
    rotate_left
    ·simp only [Act.put,sA,sO,sS,i64_w,i32_w]
     rfl
    refine pure_ (i:=15) (N:=some 63) (v:=undef) (a':=?_) laws_FnPatchBack.m27 rfl rfl (any_of HT_.out (by kernel_rfl)) (fun _ _ _ h=>h) (Or.inr ⟨by rfl,rfl⟩) ?_ ?_
    rotate_left
    ·simp only [Act.put,sA,sO,sS,i64_w,i32_w]
     rfl
    refine pure_ (i:=16) (N:=some 64) (v:=undef) (a':=?_) laws_FnPatchBack.m28 rfl rfl (any_of HT_.out (by kernel_rfl)) (fun _ _ _ h=>h) (Or.inr ⟨by rfl,rfl⟩) ?_ ?_
    rotate_left
    ·simp only [Act.put,sA,sO,sS,i64_w,i32_w]
     rfl
    refine pure_ (i:=17) (N:=some 65) (v:=?_) (a':=?_) laws_FnPatchBack.m29 rfl rfl (any_of HT_.out (by kernel_rfl)) (fun _ _ _ h=>h) (Or.inl ⟨by rfl,?_⟩) ?_ ?_
    rotate_left
    ·intro w'
     go_simp
     with_reducible rfl
    rotate_left
    ·simp only [Act.put,sA,sO,sS,i64_w,i32_w]
     rfl
    refine pure_ (i:=18) (N:=some 66) (v:=?_) (a':=?_) laws_FnPatchBack.m30 rfl rfl (any_of HT_.out (by kernel_rfl)) (fun _ _ _ h=>h) (Or.inl ⟨by rfl,?_⟩) ?_ ?_
    rotate_left
    ·intro w'
     go_simp
     with_reducible rfl
    rotate_left
    ·simp only [Act.put,sA,sO,sS,i64_w,i32_w]
     rfl
    refine pure_ (i:=19) (N:=some 67) (v:=undef) (a':=?_) laws_FnPatchBack.m31 rfl rfl (any_of HT_.out (by kernel_rfl)) (fun _ _ _ h=>h) (Or.inr ⟨by rfl,rfl⟩) ?_ ?_
    rotate_left
    ·simp only [Act.put,sA,sO,sS,i64_w,i32_w]
     rfl
    refine pure_ (i:=20) (N:=some 68) (v:=undef) (a':=?_) laws_FnPatchBack.m32 rfl rfl (any_of HT_.out (by kernel_rfl)) (fun _ _ _ h=>h) (Or.inr ⟨by rfl,rfl⟩) ?_ ?_
    rotate_left
    ·simp only [Act.put,sA,sO,sS,i64_w,i32_w]
     rfl
    refine pure_ (i:=21) (N:=some 69) (v:=undef) (a':=?_) laws_FnPatchBack.m33 rfl rfl (any_of HT_.out (by kernel_rfl)) (fun _ _ _ h=>h) (Or.inr ⟨by rfl,rfl⟩) ?_ ?_
    rotate_left
    ·simp only [Act.put,sA,sO,sS,i64_w,i32_w]
     rfl
    refine pure_ (i:=22) (N:=some 70) (v:=undef) (a':=?_) laws_FnPatchBack.m34 rfl rfl (any_of HT_.out (by kernel_rfl)) (fun _ _ _ h=>h) (Or.inr ⟨by rfl,rfl⟩) ?_ ?_
    rotate_left
    ·simp only [Act.put,sA,sO,sS,i64_w,i32_w]
     rfl
    refine pure_ (i:=23) (N:=some 71) (v:=undef) (a':=?_) laws_FnPatchBack.m35 rfl rfl (any_of HT_.out (by kernel_rfl)) (fun _ _ _ h=>h) (Or.inr ⟨by rfl,rfl⟩) ?_ ?_
    rotate_left
    ·simp only [Act.put,sA,sO,sS,i64_w,i32_w]
     rfl
    refine pure_ (i:=24) (N:=some 72) (v:=undef) (a':=?_) laws_FnPatchBack.m36 rfl rfl (any_of HT_.out (by kernel_rfl)) (fun _ _ _ h=>h) (Or.inr ⟨by rfl,rfl⟩) ?_ ?_
    rotate_left
    ·simp only [Act.put,sA,sO,sS,i64_w,i32_w]
     rfl
    refine pure_ (i:=25) (N:=some 73) (v:=?_) (a':=?_) laws_FnPatchBack.m37 rfl rfl (any_of HT_.out (by kernel_rfl)) (fun _ _ _ h=>h) (Or.inl ⟨by rfl,?_⟩) ?_ ?_
    rotate_left
    ·intro w'
     go_simp
     with_reducible rfl
    rotate_left
    ·simp only [Act.put,sA,sO,sS,i64_w,i32_w]
     rfl
    refine pure_ (i:=26) (N:=some 2) (v:=?_) (a':=?_) laws_FnPatchBack.m38 rfl rfl (any_of HT_.out (by kernel_rfl)) (fun _ _ _ h=>h) (Or.inl ⟨by rfl,?_⟩) ?_ ?_
    rotate_left
    ·intro w'
     go_simp
     with_reducible rfl
    rotate_left
    ·simp only [Act.put,sA,sO,sS,i64_w,i32_w]
     rfl
    refine done_ (done_of HT_.out (by kernel_rfl)) ?_
    try go_wp2
    go_ret
    exact⟨by first|rfl|(simp [errW_none,errW_some] <;> rfl)|(simp [*,errW_none,errW_some] <;> rfl),by repeat (first|(with_reducible first|exact HB.out|apply aZ|apply nZ|apply dZ|refine sZ ?_ GE474.out|refine sZ ?_ GE487.out)|exact HB.out)⟩
   subst c28
   have H1:((laws_same.f kj6 t494 t457).bind fun t498=>(if t498 = true then ((spec_CommonLen.f kj6 t456 t457).bind fun t499=>(if (t483.length:Int) = (wrap64 ((t457.length:Int) - t499)) then (some (t475 == (t456.length:Int))) else (some false))) else (some false))) = some r:=by rw [if_pos rfl] at H;exact H
   clear H
   have H:=H1
   clear H1
   replace H:=Option.bind_eq_some_iff.mp H
   obtain⟨t498,A290,H⟩:=H
   replace H:(if t498 = true then ((spec_CommonLen.f kj6 t456 t457).bind fun t499=>(if (t483.length:Int) = (wrap64 ((t457.length:Int) - t499)) then (some (t475 == (t456.length:Int))) else (some false))) else (some false)) = some r:=H
   have A29:=mk0 A290
   clear A290
   by_cases c30:t498 = true
   rotate_left
   ·replace c30:=Bool.eq_false_iff.mpr c30
    subst c30
    have H1:(some false) = some r:=by rw [if_neg (show ¬ (false = true) by decide)] at H;exact H
    clear H
    have H:=H1
    clear H1
    obtain rfl:=Option.some.inj H
    try go_wp2
    have n0_:=mk0 (dR HO_3.out)
    have n1_:=mk0 (dR HO_4.out)
    have n2_:=mk0 (dR HO_475001.out)
    have n3_:=mk0 (dR HO_475003.out)
    have n4_:=mk0 (dR HO_475004.out)
    have n5_:=mk0 (dR HO_488001.out)
    have n6_:=mk0 (dR HO_488003.out)
    have n7_:=mk0 (dR HO_488004.out)
    have n8_:=mk0 (dB BK474.out)
    have n9_:=mk0 (dB BK487.out)
    have n10_:=mk0 (dZ HB.out)
    clear HO_3
    clear HO_4
    clear HO_475001
    clear HO_475003
    clear HO_475004
    clear HO_488001
    clear HO_488003
    clear HO_488004
    clear BK474
    clear BK487
    clear HB
    have HO_3:=n0_
    have HO_4:=n1_
    have HO_475001:=n2_
    have HO_475003:=n3_
    have HO_475004:=n4_
    have HO_488001:=n5_
    have HO_488003:=n6_
    have HO_488004:=n7_
    have BK474:=n8_
    have BK487:=n9_
    have HB:=n10_
    clear n0_ n1_ n2_ n3_ n4_ n5_ n6_ n7_ n8_ n9_ n10_
    refine start_ (n:=10) (S:=fun w'=>w'.cell? ⟨gb487,0,none⟩ = some (.int .i64 t475) ∧ w'.cell? ⟨gb487,1,none⟩ = some (.slice Ao21 t476.length co21) ∧ w'.cell? ⟨gb487,2,none⟩ = some (.int .i64 t479) ∧ w'.cell? ⟨gb487,3,none⟩ = some (.slice Ao22 t480.length co22) ∧ w'.cell? ⟨gb487,4,none⟩ = some (.slice Ao23 t483.length co23)) (ds:=[]) laws_FnPatchBack.m0 (by kernel_rfl) rfl rfl ⟨(blk_cell BK487.out 0).trans rfl,(blk_cell BK487.out 1).trans rfl,(blk_cell BK487.out 2).trans rfl,(blk_cell BK487.out 3).trans rfl,(blk_cell BK487.out 4).trans rfl⟩ (fun hHeld=>?_);refine with_tabW laws_FnPatchBack.tab8 laws_FnPatchBack.bits8 (fun HT_ HW_=>?_)
    generalize wc.drew = w51 at HO_3 HO_4 HO_475001 HO_475003 HO_475004 HO_488001 HO_488003 HO_488004 BK474 BK487 HB hHeld ⊢
    refine pure_ (i:=1) (N:=some 42) (v:=?_) (a':=?_) laws_FnPatchBack.m1 rfl rfl (any_of HT_.out (by kernel_rfl)) (fun _ _ _ h=>h) (Or.inl ⟨by rfl,?_⟩) ?_ ?_
    rotate_left
    ·intro w'
     go_simp
     with_reducible rfl
    rotate_left
    ·simp only [Act.put,sA,sO,sS,i64_w,i32_w]
     rfl
    refine take_ (i:=3) (N:=some 44) (v:=?_) (a':=?_) laws_FnPatchBack.m2 rfl rfl (take_ofW HT_.out HW_.out (by kernel_rfl)) (fun _ _ _ h=>h) (Or.inl ⟨by rfl,?_⟩) hHeld ?_ ?_
    rotate_left
    ·rintro w' ⟨s0,s1,s2,s3,s4⟩
     go_simp
     with_reducible rfl
    rotate_left
    ·simp only [Act.put,sA,sO,sS,i64_w,i32_w]
     rfl
    refine one_ (i:=0) (N:=some 41) laws_FnPatchBack.m3 rfl rfl (one_of HT_.out (by kernel_rfl)) (by decide) (fun K hK=>?_)
    refine Kd.R_lit_step (Kd.int .i64) _ 3 ?hg (N:=41) ?hd (xs:=([]:List Int)) (inner:=[]) (ok:=fun _=>True) (okp:=fun _=>True) ?hr ?hp (fun _ hk=>hk) trivial (Below.refl _ _) (Nat.le_refl _) (by simp) ?_;(case hd=>rfl);(case hg=>rfl);(case hr=>first|(go_simp;done)|(go_simp;rfl));(case hp=>exact (Reps.none _ _))
    intro v489 w52 ho53 hb hg_ hnew_
    clear hg_ hnew_
    (first|rw [← Ny488.out] at ho53|(simp only [Int.reduceToNat] at ho53;rw [← Ny488.out] at ho53))
    have n0_:=mk0 (Kd.R_elder' (by (with_reducible repeat (first|apply aR|apply nR|apply dR));exact HO_3.out) (Kd.R_base ho53) hb)
    have n1_:=mk0 (Kd.R_elder' (by (with_reducible repeat (first|apply aR|apply nR|apply dR));exact HO_4.out) (Kd.R_base ho53) hb)
    have n2_:=mk0 (Kd.R_below (by (with_reducible repeat (first|apply aR|apply nR|apply dR));exact HO_475001.out) hb)
    have n3_:=mk0 (Kd.R_below (by (with_reducible repeat (first|apply aR|apply nR|apply dR));exact HO_475003.out) hb)
    have n4_:=mk0 (Kd.R_elder' (by (with_reducible repeat (first|apply aR|apply nR|apply dR));exact HO_475004.out) (Kd.R_base ho53) hb)
    have n5_:=mk0 (Kd.R_below (by (with_reducible repeat (first|apply aR|apply nR|apply dR));exact HO_488001.out) hb)
    have n6_:=mk0 (Kd.R_below (by (with_reducible repeat (first|apply aR|apply nR|apply dR));exact HO_488003.out) hb)
    have n7_:=mk0 (Kd.R_elder' (by (with_reducible repeat (first|apply aR|apply nR|apply dR));exact HO_488004.out) (Kd.R_base ho53) hb)
    have n8_:=mk0 (Kd.R_lower (Kd.R_new' (Kd.R_new' (Kd.R_new' (Kd.R_new' ho53 (Kd.R_lt (by (with_reducible repeat (first|apply aR|apply nR|apply dR));exact HO_3.out))) (Kd.R_lt (by (with_reducible repeat (first|apply aR|apply nR|apply dR));exact HO_4.out))) (Kd.R_lt (by (with_reducible repeat (first|apply aR|apply nR|apply dR));exact HO_475004.out))) (Kd.R_lt (by (with_reducible repeat (first|apply aR|apply nR|apply dR));exact HO_488004.out))) (below_size (by repeat (first|(with_reducible first|exact HB.out|apply aZ|apply nZ|apply dZ|refine sZ ?_ GE474.out|refine sZ ?_ GE487.out)|exact HB.out))))
    have n9_:=mk0 (blk_below (g:=gb474) (o:=.cells #[.int .i64 t462,.slice Ao14 t463.length co14,.int .i64 t466,.slice Ao15 t467.length co15,.slice Ao16 t470.length co16] 27 (0,0)) (by (with_reducible repeat (first|apply nB|apply dB|apply aB));exact BK474.out) hb)
    have n10_:=mk0 (blk_below (g:=gb487) (o:=.cells #[.int .i64 t475,.slice Ao21 t476.length co21,.int .i64 t479,.slice Ao22 t480.length co22,.slice Ao23 t483.length co23] 27 (0,0)) (by (with_reducible repeat (first|apply nB|apply dB|apply aB));exact BK487.out) hb)
    have n11_:=mk0 (below_step (by repeat (first|(with_reducible first|exact HB.out|apply aZ|apply nZ|apply dZ|refine sZ ?_ GE474.out|refine sZ ?_ GE487.out)|exact HB.out)) hb)
    clear HO_3
    clear HO_4
    clear HO_475001
    clear HO_475003
    clear HO_475004
    clear HO_488001
    clear HO_488003
    clear HO_488004
    clear BK474
    clear BK487
    clear HB
    have HO_3:=n0_
    have HO_4:=n1_
    have HO_475001:=n2_
    have HO_475003:=n3_
    have HO_475004:=n4_
    have HO_488001:=n5_
    have HO_488003:=n6_
    have HO_488004:=n7_
    have HO490:=n8_
    have BK474:=n9_
    have BK487:=n10_
    have HB:=n11_
    clear n0_ n1_ n2_ n3_ n4_ n5_ n6_ n7_ n8_ n9_ n10_ n11_
    clear hb ho53
    refine hK.out _ _ ⟨(blk_cell BK487.out 0).trans rfl,(blk_cell BK487.out 1).trans rfl,(blk_cell BK487.out 2).trans rfl,(blk_cell BK487.out 3).trans rfl,(blk_cell BK487.out 4).trans rfl⟩ (fun hHeld=>?_)
    clear hK K
    refine norm_ (a':=?_) ?_ ?_
    rotate_left
    ·show Act.put _ (some 41) _ = _
     simp only [Act.put,sA,sO,sS,i64_w,i32_w]
     rfl
    refine one_ (i:=2) (N:=some 43) laws_FnPatchBack.m4 rfl rfl (one_of HT_.out (by kernel_rfl)) (by decide) (fun K hK=>?_)
    refine Kd.R_append_rows_step (Kd.int .i64) (w0:=w) w.heap.size (by rfl) (.tmp 41) (.tmp 42) 22 3 (.int .i64 0) 8 rfl Try.underlying22 info3 rfl (by decide) (by omega) v489 y488 t456 _ _ _ (fun k_=>some k_ ≠ (.slice Ao9 t456.length co9:Value).ownBlock ∧ some k_ ≠ (.slice Ao10 t457.length co10:Value).ownBlock ∧ some k_ ≠ (.slice Ao16 t470.length co16:Value).ownBlock ∧ some k_ ≠ (.slice Ao23 t483.length co23:Value).ownBlock) (fun _=>False) rfl rfl ?aO ?aR (fun _ _ h=>h) (fun _ h=>h.elim) ?aF ?aB ?aS ?aL ?_
    (case aR=>repeat (first|exact (Kd.R_reads' HO_3.out).2.2|(with_reducible first|apply aC|apply nC|apply dC)))
    (case aB=>exact (by repeat (first|(with_reducible first|exact HB.out|apply aZ|apply nZ|apply dZ|refine sZ ?_ GE474.out|refine sZ ?_ GE487.out)|exact HB.out)))
    (case aF=>exact (fun k_ hk=>⟨Kd.fresh' (Kd.R_lt (by (with_reducible repeat (first|apply aR|apply nR|apply dR));exact HO_3.out)) k_ hk,Kd.fresh' (Kd.R_lt (by (with_reducible repeat (first|apply aR|apply nR|apply dR));exact HO_4.out)) k_ hk,Kd.fresh' (Kd.R_lt (by (with_reducible repeat (first|apply aR|apply nR|apply dR));exact HO_475004.out)) k_ hk,Kd.fresh' (Kd.R_lt (by (with_reducible repeat (first|apply aR|apply nR|apply dR));exact HO_488004.out)) k_ hk⟩))
    (case aO=>exact (by (with_reducible repeat (first|apply aR|apply nR|apply dR));exact Kd.R_mono HO490.out (fun _ hk=>⟨hk.1.1.1.2,⟨hk.1.1.2,⟨hk.1.2,hk.2⟩⟩⟩)))
    (case aS=>exact (below_size (by repeat (first|(with_reducible first|exact HB.out|apply aZ|apply nZ|apply dZ|refine sZ ?_ GE474.out|refine sZ ?_ GE487.out)|exact HB.out))))
    (case aL=>have:=LMc26.out;omega)
    intro v492 w54 ho hb hg hat
    rw [← Ny491.out] at ho
    have n0_:=mk0 (Kd.R_after (ok:=(fun k_=>some k_ ≠ (.slice Ao10 t457.length co10:Value).ownBlock ∧ some k_ ≠ (.slice Ao16 t470.length co16:Value).ownBlock ∧ some k_ ≠ (.slice Ao23 t483.length co23:Value).ownBlock)) (by (with_reducible repeat (first|apply aR|apply nR|apply dR));exact HO_3.out) hg hat)
    have n1_:=mk0 (Kd.R_after (ok:=(fun k_=>some k_ ≠ (.slice Ao9 t456.length co9:Value).ownBlock ∧ some k_ ≠ (.slice Ao16 t470.length co16:Value).ownBlock ∧ some k_ ≠ (.slice Ao23 t483.length co23:Value).ownBlock)) (by (with_reducible repeat (first|apply aR|apply nR|apply dR));exact HO_4.out) hg hat)
    have n2_:=mk0 (Kd.R_over' (by (with_reducible repeat (first|apply aR|apply nR|apply dR));exact HO_475001.out) (Kd.R_typed (by (with_reducible repeat (first|apply aR|apply nR|apply dR));exact HO490.out)) (by decide) hg)
    have n3_:=mk0 (Kd.R_over' (by (with_reducible repeat (first|apply aR|apply nR|apply dR));exact HO_475003.out) (Kd.R_typed (by (with_reducible repeat (first|apply aR|apply nR|apply dR));exact HO490.out)) (by decide) hg)
    have n4_:=mk0 (Kd.R_after (ok:=(fun k_=>some k_ ≠ (.slice Ao9 t456.length co9:Value).ownBlock ∧ some k_ ≠ (.slice Ao10 t457.length co10:Value).ownBlock ∧ some k_ ≠ (.slice Ao23 t483.length co23:Value).ownBlock)) (by (with_reducible repeat (first|apply aR|apply nR|apply dR));exact HO_475004.out) hg hat)
    have n5_:=mk0 (Kd.R_over' (by (with_reducible repeat (first|apply aR|apply nR|apply dR));exact HO_488001.out) (Kd.R_typed (by (with_reducible repeat (first|apply aR|apply nR|apply dR));exact HO490.out)) (by decide) hg)
    have n6_:=mk0 (Kd.R_over' (by (with_reducible repeat (first|apply aR|apply nR|apply dR));exact HO_488003.out) (Kd.R_typed (by (with_reducible repeat (first|apply aR|apply nR|apply dR));exact HO490.out)) (by decide) hg)
    have n7_:=mk0 (Kd.R_after (ok:=(fun k_=>some k_ ≠ (.slice Ao9 t456.length co9:Value).ownBlock ∧ some k_ ≠ (.slice Ao10 t457.length co10:Value).ownBlock ∧ some k_ ≠ (.slice Ao16 t470.length co16:Value).ownBlock)) (by (with_reducible repeat (first|apply aR|apply nR|apply dR));exact HO_488004.out) hg hat)
    have n8_:=mk0 (blk_grown (g:=gb474) (o:=.cells #[.int .i64 t462,.slice Ao14 t463.length co14,.int .i64 t466,.slice Ao15 t467.length co15,.slice Ao16 t470.length co16] 27 (0,0)) (by (with_reducible repeat (first|apply nB|apply dB|apply aB));exact BK474.out) hg (Kd.R_ne HO490.out BK474.out (by decide)))
    have n9_:=mk0 (blk_grown (g:=gb487) (o:=.cells #[.int .i64 t475,.slice Ao21 t476.length co21,.int .i64 t479,.slice Ao22 t480.length co22,.slice Ao23 t483.length co23] 27 (0,0)) (by (with_reducible repeat (first|apply nB|apply dB|apply aB));exact BK487.out) hg (Kd.R_ne HO490.out BK487.out (by decide)))
    have n10_:=mk0 (hb)
    have n11_:=mk0 (ho)
    clear HO_3
    clear HO_4
    clear HO_475001
    clear HO_475003
    clear HO_475004
    clear HO_488001
    clear HO_488003
    clear HO_488004
    clear BK474
    clear BK487
    clear HB
    clear HO490
    have HO_3:=n0_
    have HO_4:=n1_
    have HO_475001:=n2_
    have HO_475003:=n3_
    have HO_475004:=n4_
    have HO_488001:=n5_
    have HO_488003:=n6_
    have HO_488004:=n7_
    have BK474:=n8_
    have BK487:=n9_
    have HB:=n10_
    have HO493:=n11_
    clear n0_ n1_ n2_ n3_ n4_ n5_ n6_ n7_ n8_ n9_ n10_ n11_
    clear ho hb hg hat
    obtain⟨Ao55,co55,eo55⟩:=Kd.R_slice HO493.out
    (first|subst eo55|(injection eo55 with f1_ f2_ f3_;have f4_:=f1_.symm;have f5_:=f3_.symm;clear f1_ f2_ f3_;subst f4_;subst f5_))
    refine hK.out _ _ ⟨(blk_cell BK487.out 0).trans rfl,(blk_cell BK487.out 1).trans rfl,(blk_cell BK487.out 2).trans rfl,(blk_cell BK487.out 3).trans rfl,(blk_cell BK487.out 4).trans rfl⟩ (fun hHeld=>?_)
    clear hK K
    refine norm_ (a':=?_) ?_ ?_
    rotate_left
    ·show Act.put _ (some 43) _ = _
     simp only [Act.put,sA,sO,sS,i64_w,i32_w]
     rfl
    refine one_ (i:=4) (N:=some 45) laws_FnPatchBack.m5 rfl rfl (one_of HT_.out (by kernel_rfl)) (by decide) (fun K hK=>?_)
    refine goes_ Try.func17 (by kernel_rfl) rfl #[.slice Ao55 y491.length co55,.agg #[.int .i64 t475,.slice Ao21 t476.length co21,.int .i64 t479,.slice Ao22 t480.length co22,.slice Ao23 t483.length co23]] (by rfl) rfl rfl (by (try simp only [mA,mC,mN]);first|done|rfl|(simp only [List.length_drop,List.length_take];rfl)) ?_
    with_reducible refine (impl_PatchDo.calls kj6 _ _ y491 t475 _ _ t476 t479 _ _ t480 (fun k_=>some k_ = (.slice Ao23 t483.length co23:Value).ownBlock) _ _ t483 t494 true _ ?side1 ?side2 ?side3 ?side4 ?side5 ?side6 ?side7 A27.out).mono ?_
    (case side1=>repeat (first|exact (Kd.R_reads' HO493.out).2.2|(with_reducible first|apply aC|apply nC|apply dC)))
    (case side2=>exact (Kd.R_reads' HO493.out).2.1)
    (case side3=>repeat (first|exact (Kd.R_reads' HO_488001.out).2.2|(with_reducible first|apply aC|apply nC|apply dC)))
    (case side4=>exact (Kd.R_reads' HO_488001.out).2.1)
    (case side5=>repeat (first|exact (Kd.R_reads' HO_488003.out).2.2|(with_reducible first|apply aC|apply nC|apply dC)))
    (case side6=>exact (Kd.R_reads' HO_488003.out).2.1)
    (case side7=>exact Kd.R_V (Kd.R_tight rfl (Kd.R_types (Kd.R_types (Kd.R_apart' (Kd.R_apart' (Kd.R_apart' (Kd.R_apart' (HO_488004.out) (Kd.R_typed HO_475001.out) (by decide)) (Kd.R_typed HO_475003.out) (by decide)) (Kd.R_typed HO_488001.out) (by decide)) (Kd.R_typed HO_488003.out) (by decide)) BK474.out (by decide)) BK487.out (by decide))))
    rintro e w56 ⟨v495,rfl,ho0,hb⟩
    refine⟨_,rfl,?_⟩
    have n0_:=mk0 (Kd.R_elder' (by (with_reducible repeat (first|apply aR|apply nR|apply dR));exact HO_3.out) (Kd.R_base ho0) hb)
    have n1_:=mk0 (Kd.R_elder' (by (with_reducible repeat (first|apply aR|apply nR|apply dR));exact HO_4.out) (Kd.R_base ho0) hb)
    have n2_:=mk0 (Kd.R_below (by (with_reducible repeat (first|apply aR|apply nR|apply dR));exact HO_475001.out) hb)
    have n3_:=mk0 (Kd.R_below (by (with_reducible repeat (first|apply aR|apply nR|apply dR));exact HO_475003.out) hb)
    have n4_:=mk0 (Kd.R_elder' (by (with_reducible repeat (first|apply aR|apply nR|apply dR));exact HO_475004.out) (Kd.R_base ho0) hb)
    have n5_:=mk0 (Kd.R_below (by (with_reducible repeat (first|apply aR|apply nR|apply dR));exact HO_488001.out) hb)
    have n6_:=mk0 (Kd.R_below (by (with_reducible repeat (first|apply aR|apply nR|apply dR));exact HO_488003.out) hb)
    have n7_:=mk0 (Kd.R_elder' (by (with_reducible repeat (first|apply aR|apply nR|apply dR));exact HO_488004.out) (Kd.R_base ho0) hb)
    have n8_:=mk0 (Kd.R_elder' (by (with_reducible repeat (first|apply aR|apply nR|apply dR));exact HO493.out) (Kd.R_base ho0) hb)
    have n9_:=mk0 (Kd.R_lower (Kd.R_new' (Kd.R_new' (Kd.R_new' (Kd.R_new' (Kd.R_new' (Kd.R_mono (ok':=fun k_=>True) ho0 (fun _ hk_=>trivial)) (Kd.R_lt (by (with_reducible repeat (first|apply aR|apply nR|apply dR));exact HO_3.out))) (Kd.R_lt (by (with_reducible repeat (first|apply aR|apply nR|apply dR));exact HO_4.out))) (Kd.R_lt (by (with_reducible repeat (first|apply aR|apply nR|apply dR));exact HO_475004.out))) (Kd.R_lt (by (with_reducible repeat (first|apply aR|apply nR|apply dR));exact HO_488004.out))) (Kd.R_lt (by (with_reducible repeat (first|apply aR|apply nR|apply dR));exact HO493.out))) (below_size (by repeat (first|(with_reducible first|exact HB.out|apply aZ|apply nZ|apply dZ|refine sZ ?_ GE474.out|refine sZ ?_ GE487.out)|exact HB.out))))
    have n10_:=mk0 (blk_below (g:=gb474) (o:=.cells #[.int .i64 t462,.slice Ao14 t463.length co14,.int .i64 t466,.slice Ao15 t467.length co15,.slice Ao16 t470.length co16] 27 (0,0)) (by (with_reducible repeat (first|apply nB|apply dB|apply aB));exact BK474.out) hb)
    have n11_:=mk0 (blk_below (g:=gb487) (o:=.cells #[.int .i64 t475,.slice Ao21 t476.length co21,.int .i64 t479,.slice Ao22 t480.length co22,.slice Ao23 t483.length co23] 27 (0,0)) (by (with_reducible repeat (first|apply nB|apply dB|apply aB));exact BK487.out) hb)
    have n12_:=mk0 (below_step (by repeat (first|(with_reducible first|exact HB.out|apply aZ|apply nZ|apply dZ|refine sZ ?_ GE474.out|refine sZ ?_ GE487.out)|exact HB.out)) hb)
    clear HO_3
    clear HO_4
    clear HO_475001
    clear HO_475003
    clear HO_475004
    clear HO_488001
    clear HO_488003
    clear HO_488004
    clear HO493
    clear BK474
    clear BK487
    clear HB
    have HO_3:=n0_
    have HO_4:=n1_
    have HO_475001:=n2_
    have HO_475003:=n3_
    have HO_475004:=n4_
    have HO_488001:=n5_
    have HO_488003:=n6_
    have HO_488004:=n7_
    have HO493:=n8_
    have HO496:=n9_
    have BK474:=n10_
    have BK487:=n11_
    have HB:=n12_
    clear n0_ n1_ n2_ n3_ n4_ n5_ n6_ n7_ n8_ n9_ n10_ n11_ n12_
    (try clear hb)
    (try clear hb2)
    (try clear hk)
    (try clear hi)
    (try clear ho0)
    refine hK.out _ _ ⟨(blk_cell BK487.out 0).trans rfl,(blk_cell BK487.out 1).trans rfl,(blk_cell BK487.out 2).trans rfl,(blk_cell BK487.out 3).trans rfl,(blk_cell BK487.out 4).trans rfl⟩ (fun hHeld=>?_)
    clear hK K
    refine norm_ (a':=?_) ?_ ?_
    rotate_left
    ·show Act.put _ (some 45) _ = _
     simp only [Act.put,sA,sO,sS,i64_w,i32_w]
     rfl
    refine pure_ (i:=5) (N:=some 40) (v:=?_) (a':=?_) laws_FnPatchBack.m6 rfl rfl (any_of HT_.out (by kernel_rfl)) (fun _ _ _ h=>h) (Or.inl ⟨by rfl,?_⟩) ?_ ?_
    rotate_left
    ·intro w'
     go_simp
     with_reducible rfl
    rotate_left
    ·simp only [Act.put,sA,sO,sS,i64_w,i32_w]
     rfl
    refine pure_ (i:=6) (N:=some 46) (v:=?_) (a':=?_) laws_FnPatchBack.m7 rfl rfl (any_of HT_.out (by kernel_rfl)) (fun _ _ _ h=>h) (Or.inl ⟨by rfl,?_⟩) ?_ ?_
    rotate_left
    ·intro w'
     go_simp
     with_reducible rfl
    rotate_left
    ·simp only [Act.put,sA,sO,sS,i64_w,i32_w]
     rfl
    refine pure_ (i:=7) (N:=some 47) (v:=?_) (a':=?_) laws_FnPatchBack.m8 rfl rfl (any_of HT_.out (by kernel_rfl)) (fun _ _ _ h=>h) (Or.inl ⟨by rfl,?_⟩) ?_ ?_
    rotate_left
    ·intro w'
     go_simp
     with_reducible rfl
    rotate_left
    ·simp only [Act.put,sA,sO,sS,i64_w,i32_w]
     rfl
    refine pure_ (i:=8) (N:=some 9) (v:=?_) (a':=?_) laws_FnPatchBack.m9 rfl rfl (any_of HT_.out (by kernel_rfl)) (fun _ _ _ h=>h) (Or.inl ⟨by rfl,?_⟩) ?_ ?_
    rotate_left
    ·intro w'
     go_simp
     with_reducible rfl
    rotate_left
    ·simp only [Act.put,sA,sO,sS,i64_w,i32_w]
     rfl
    refine pure_ (i:=9) (N:=some 10) (v:=?_) (a':=?_) laws_FnPatchBack.m10 rfl rfl (any_of HT_.out (by kernel_rfl)) (fun _ _ _ h=>h) (Or.inl ⟨by rfl,?_⟩) ?_ ?_
    rotate_left
    ·intro w'
     go_simp
     with_reducible rfl
    rotate_left
    ·simp only [Act.put,sA,sO,sS,i64_w,i32_w]
     rfl
    refine done_ (done_of HT_.out (by kernel_rfl)) ?_
    try go_wp2
    have n0_:=mk0 (dR HO_3.out)
    have n1_:=mk0 (dR HO_4.out)
    have n2_:=mk0 (dR HO_475001.out)
    have n3_:=mk0 (dR HO_475003.out)
    have n4_:=mk0 (dR HO_475004.out)
    have n5_:=mk0 (dR HO_488001.out)
    have n6_:=mk0 (dR HO_488003.out)
    have n7_:=mk0 (dR HO_488004.out)
    have n8_:=mk0 (dR HO493.out)
    have n9_:=mk0 (dR HO496.out)
    have n10_:=mk0 (dB BK474.out)
    have n11_:=mk0 (dB BK487.out)
    have n12_:=mk0 (dZ HB.out)
    clear HO_3
    clear HO_4
    clear HO_475001
    clear HO_475003
    clear HO_475004
    clear HO_488001
    clear HO_488003
    clear HO_488004
    clear HO493
    clear HO496
    clear BK474
    clear BK487
    clear HB
    have HO_3:=n0_
    have HO_4:=n1_
    have HO_475001:=n2_
    have HO_475003:=n3_
    have HO_475004:=n4_
    have HO_488001:=n5_
    have HO_488003:=n6_
    have HO_488004:=n7_
    have HO493:=n8_
    have HO496:=n9_
    have BK474:=n10_
    have BK487:=n11_
    have HB:=n12_
    clear n0_ n1_ n2_ n3_ n4_ n5_ n6_ n7_ n8_ n9_ n10_ n11_ n12_
    obtain⟨Ao58,co58,eo58⟩:=Kd.R_slice HO496.out
    (first|subst eo58|(injection eo58 with f1_ f2_ f3_;have f4_:=f1_.symm;have f5_:=f3_.symm;clear f1_ f2_ f3_;subst f4_;subst f5_))
    refine start_ (n:=27) (S:=fun w'=>True) (ds:=[]) laws_FnPatchBack.m11 (by kernel_rfl) rfl rfl trivial (fun hHeld=>?_);refine with_tabW laws_FnPatchBack.tab9 laws_FnPatchBack.bits9 (fun HT_ HW_=>?_)
    generalize w56.drew = w57 at HO_3 HO_4 HO_475001 HO_475003 HO_475004 HO_488001 HO_488003 HO_488004 HO493 HO496 BK474 BK487 HB hHeld ⊢
    refine pure_ (i:=0) (N:=some 48) (v:=?_) (a':=?_) laws_FnPatchBack.m12 rfl rfl (any_of HT_.out (by kernel_rfl)) (fun _ _ _ h=>h) (Or.inl ⟨by rfl,?_⟩) ?_ ?_
    rotate_left
    ·intro w'
     go_simp
     with_reducible rfl
    rotate_left
    ·simp only [Act.put,sA,sO,sS,i64_w,i32_w]
     rfl
    refine pure_ (i:=1) (N:=some 49) (v:=?_) (a':=?_) laws_FnPatchBack.m13 rfl rfl (any_of HT_.out (by kernel_rfl)) (fun _ _ _ h=>h) (Or.inl ⟨by rfl,?_⟩) ?_ ?_
    rotate_left
    ·intro w'
     go_simp
     with_reducible rfl
    rotate_left
    ·simp only [Act.put,sA,sO,sS,i64_w,i32_w]
     rfl
    refine pure_ (i:=2) (N:=some 50) (v:=?_) (a':=?_) laws_FnPatchBack.m14 rfl rfl (any_of HT_.out (by kernel_rfl)) (fun _ _ _ h=>h) (Or.inl ⟨by rfl,?_⟩) ?_ ?_
    rotate_left
    ·intro w'
     go_simp
     with_reducible rfl
    rotate_left
    ·simp only [Act.put,sA,sO,sS,i64_w,i32_w]
     rfl
    refine pure_ (i:=3) (N:=some 51) (v:=?_) (a':=?_) laws_FnPatchBack.m15 rfl rfl (any_of HT_.out (by kernel_rfl)) (fun _ _ _ h=>h) (Or.inl ⟨by rfl,?_⟩) ?_ ?_
    rotate_left
    ·intro w'
     go_simp
     with_reducible rfl
    rotate_left
    ·simp only [Act.put,sA,sO,sS,i64_w,i32_w]
     rfl
    refine one_ (i:=4) (N:=some 52) laws_FnPatchBack.m16 rfl rfl (one_of HT_.out (by kernel_rfl)) (by decide) (fun K hK=>?_)
    refine goes_ Try.func21 (by kernel_rfl) rfl #[.slice Ao58 t494.length co58,.slice Ao10 t457.length co10] (by rfl) rfl rfl (by (try simp only [mA,mC,mN]);first|done|rfl|(simp only [List.length_drop,List.length_take];rfl)) ?_
    with_reducible refine (laws_same.calls kj6 _ _ t494 _ _ t457 false _ ?side1 ?side2 ?side3 ?side4 A29.out).mono ?_
    (case side1=>repeat (first|exact (Kd.R_reads' HO496.out).2.2|(with_reducible first|apply aC|apply nC|apply dC)))
    (case side2=>exact (Kd.R_reads' HO496.out).2.1)
    (case side3=>repeat (first|exact (Kd.R_reads' HO_4.out).2.2|(with_reducible first|apply aC|apply nC|apply dC)))
    (case side4=>exact (Kd.R_reads' HO_4.out).2.1)
    rintro e w' ⟨rfl,⟨nd,rfl⟩⟩
    refine⟨_,rfl,?_⟩
    refine hK.out _ _ trivial (fun hHeld=>?_)
    clear hK K
    refine norm_ (a':=?_) ?_ ?_
    rotate_left
    ·show Act.put _ (some 52) _ = _
     simp only [Act.put,sA,sO,sS,i64_w,i32_w]
     rfl
    refine pure_ (i:=5) (N:=some 53) (v:=?_) (a':=?_) laws_FnPatchBack.m17 rfl rfl (any_of HT_.out (by kernel_rfl)) (fun _ _ _ h=>h) (Or.inl ⟨by rfl,?_⟩) ?_ ?_
    rotate_left
    ·intro w'
     go_simp
     with_reducible rfl
    rotate_left
    ·simp only [Act.put,sA,sO,sS,i64_w,i32_w]
     rfl
    refine pure_ (i:=6) (N:=some 54) (v:=?_) (a':=?_) laws_FnPatchBack.m18 rfl rfl (any_of HT_.out (by kernel_rfl)) (fun _ _ _ h=>h) (Or.inl ⟨by rfl,?_⟩) ?_ ?_
    rotate_left
    ·intro w'
     go_simp
     with_reducible rfl
    rotate_left
    ·simp only [Act.put,sA,sO,sS,i64_w,i32_w]
     rfl
    refine pure_ (i:=7) (N:=some 55) (v:=undef) (a':=?_) laws_FnPatchBack.m19 rfl rfl (any_of HT_.out (by kernel_rfl)) (fun _ _ _ h=>h) (Or.inr ⟨by rfl,rfl⟩) ?_ ?_
    rotate_left
    ·simp only [Act.put,sA,sO,sS,i64_w,i32_w]
     rfl
    refine pure_ (i:=8) (N:=some 56) (v:=undef) (a':=?_) laws_FnPatchBack.m20 rfl rfl (any_of HT_.out (by kernel_rfl)) (fun _ _ _ h=>h) (Or.inr ⟨by rfl,rfl⟩) ?_ ?_
    rotate_left
    ·simp only [Act.put,sA,sO,sS,i64_w,i32_w]
     rfl
    refine pure_ (i:=9) (N:=some 57) (v:=undef) (a':=?_) laws_FnPatchBack.m21 rfl rfl (any_of HT_.out (by kernel_rfl)) (fun _ _ _ h=>h) (Or.inr ⟨by rfl,rfl⟩) ?_ ?_
    rotate_left
    ·simp only [Act.put,sA,sO,sS,i64_w,i32_w]
     rfl
    refine pure_ (i:=10) (N:=some 58) (v:=undef) (a':=?_) laws_FnPatchBack.m22 rfl rfl (any_of HT_.out (by kernel_rfl)) (fun _ _ _ h=>h) (Or.inr ⟨by rfl,rfl⟩) ?_ ?_
    rotate_left
    ·simp only [Act.put,sA,sO,sS,i64_w,i32_w]
     rfl
    refine pure_ (i:=11) (N:=some 59) (v:=undef) (a':=?_) laws_FnPatchBack.m23 rfl rfl (any_of HT_.out (by kernel_rfl)) (fun _ _ _ h=>h) (Or.inr ⟨by rfl,rfl⟩) ?_ ?_
    rotate_left
    ·simp only [Act.put,sA,sO,sS,i64_w,i32_w]
     rfl
    refine pure_ (i:=12) (N:=some 60) (v:=undef) (a':=?_) laws_FnPatchBack.m24 rfl rfl (any_of HT_.out (by kernel_rfl)) (fun _ _ _ h=>h) (Or.inr ⟨by rfl,rfl⟩) ?_ ?_
    rotate_left
    ·simp only [Act.put,sA,sO,sS,i64_w,i32_w]
     rfl
    refine pure_ (i:=13) (N:=some 61) (v:=undef) (a':=?_) laws_FnPatchBack.m25 rfl rfl (any_of HT_.out (by kernel_rfl)) (fun _ _ _ h=>h) (Or.inr ⟨by rfl,rfl⟩) ?_ ?_
    rotate_left
    ·simp only [Act.put,sA,sO,sS,i64_w,i32_w]
     rfl
    refine pure_ (i:=14) (N:=some 62) (v:=undef) (a':=?_) laws_FnPatchBack.m26 rfl rfl (any_of HT_.out (by kernel_rfl)) (fun _ _ _ h=>h) (Or.inr ⟨by rfl,rfl⟩) ?_ ?_
    rotate_left
    ·simp only [Act.put,sA,sO,sS,i64_w,i32_w]
     rfl
    refine pure_ (i:=15) (N:=some 63) (v:=undef) (a':=?_) laws_FnPatchBack.m27 rfl rfl (any_of HT_.out (by kernel_rfl)) (fun _ _ _ h=>h) (Or.inr ⟨by rfl,rfl⟩) ?_ ?_
    rotate_left
    ·simp only [Act.put,sA,sO,sS,i64_w,i32_w]
     rfl
    refine pure_ (i:=16) (N:=some 64) (v:=undef) (a':=?_) laws_FnPatchBack.m28 rfl rfl (any_of HT_.out (by kernel_rfl)) (fun _ _ _ h=>h) (Or.inr ⟨by rfl,rfl⟩) ?_ ?_
    rotate_left
    ·simp only [Act.put,sA,sO,sS,i64_w,i32_w]
     rfl
    refine pure_ (i:=17) (N:=some 65) (v:=?_) (a':=?_) laws_FnPatchBack.m29 rfl rfl (any_of HT_.out (by kernel_rfl)) (fun _ _ _ h=>h) (Or.inl ⟨by rfl,?_⟩) ?_ ?_
    rotate_left
    ·intro w'
     go_simp
     with_reducible rfl
    rotate_left
    ·simp only [Act.put,sA,sO,sS,i64_w,i32_w]
     rfl
    refine pure_ (i:=18) (N:=some 66) (v:=?_) (a':=?_) laws_FnPatchBack.m30 rfl rfl (any_of HT_.out (by kernel_rfl)) (fun _ _ _ h=>h) (Or.inl ⟨by rfl,?_⟩) ?_ ?_
    rotate_left
    ·intro w'
     go_simp
     with_reducible rfl
    rotate_left
    ·simp only [Act.put,sA,sO,sS,i64_w,i32_w]
     rfl
    refine pure_ (i:=19) (N:=some 67) (v:=undef) (a':=?_) laws_FnPatchBack.m31 rfl rfl (any_of HT_.out (by kernel_rfl)) (fun _ _ _ h=>h) (Or.inr ⟨by rfl,rfl⟩) ?_ ?_
    rotate_left
    ·simp only [Act.put,sA,sO,sS,i64_w,i32_w]
     rfl
    refine pure_ (i:=20) (N:=some 68) (v:=undef) (a':=?_) laws_FnPatchBack.m32 rfl rfl (any_of HT_.out (by kernel_rfl)) (fun _ _ _ h=>h) (Or.inr ⟨by rfl,rfl⟩) ?_ ?_
    rotate_left
    ·simp only [Act.put,sA,sO,sS,i64_w,i32_w]
     rfl
    refine pure_ (i:=21) (N:=some 69) (v:=undef) (a':=?_) laws_FnPatchBack.m33 rfl rfl (any_of HT_.out (by kernel_rfl)) (fun _ _ _ h=>h) (Or.inr ⟨by rfl,rfl⟩) ?_ ?_
    rotate_left
    ·simp only [Act.put,sA,sO,sS,i64_w,i32_w]
     rfl
    refine pure_ (i:=22) (N:=some 70) (v:=undef) (a':=?_) laws_FnPatchBack.m34 rfl rfl (any_of HT_.out (by kernel_rfl)) (fun _ _ _ h=>h) (Or.inr ⟨by rfl,rfl⟩) ?_ ?_
    rotate_left
    ·simp only [Act.put,sA,sO,sS,i64_w,i32_w]
     rfl
    refine pure_ (i:=23) (N:=some 71) (v:=undef) (a':=?_) laws_FnPatchBack.m35 rfl rfl (any_of HT_.out (by kernel_rfl)) (fun _ _ _ h=>h) (Or.inr ⟨by rfl,rfl⟩) ?_ ?_
    rotate_left
    ·simp only [Act.put,sA,sO,sS,i64_w,i32_w]
     rfl
    refine pure_ (i:=24) (N:=some 72) (v:=undef) (a':=?_) laws_FnPatchBack.m36 rfl rfl (any_of HT_.out (by kernel_rfl)) (fun _ _ _ h=>h) (Or.inr ⟨by rfl,rfl⟩) ?_ ?_
    rotate_left
    ·simp only [Act.put,sA,sO,sS,i64_w,i32_w]
     rfl
    refine pure_ (i:=25) (N:=some 73) (v:=?_) (a':=?_) laws_FnPatchBack.m37 rfl rfl (any_of HT_.out (by kernel_rfl)) (fun _ _ _ h=>h) (Or.inl ⟨by rfl,?_⟩) ?_ ?_
    rotate_left
    ·intro w'
     go_simp
     with_reducible rfl
    rotate_left
    ·simp only [Act.put,sA,sO,sS,i64_w,i32_w]
     rfl
    refine pure_ (i:=26) (N:=some 2) (v:=?_) (a':=?_) laws_FnPatchBack.m38 rfl rfl (any_of HT_.out (by kernel_rfl)) (fun _ _ _ h=>h) (Or.inl ⟨by rfl,?_⟩) ?_ ?_
    rotate_left
    ·intro w'
     go_simp
     with_reducible rfl
    rotate_left
    ·simp only [Act.put,sA,sO,sS,i64_w,i32_w]
     rfl
    refine done_ (done_of HT_.out (by kernel_rfl)) ?_
    try go_wp2
    go_ret
    exact⟨by first|rfl|(simp [errW_none,errW_some] <;> rfl)|(simp [*,errW_none,errW_some] <;> rfl),by repeat (first|(with_reducible first|exact HB.out|apply aZ|apply nZ|apply dZ|refine sZ ?_ GE474.out|refine sZ ?_ GE487.out)|exact HB.out)⟩
   subst c30
   have H1:((spec_CommonLen.f kj6 t456 t457).bind fun t499=>(if (t483.length:Int) = (wrap64 ((t457.length:Int) - t499)) then (some (t475 == (t456.length:Int))) else (some false))) = some r:=by rw [if_pos rfl] at H;exact H
   clear H
   have H:=H1
   clear H1
   replace H:=Option.bind_eq_some_iff.mp H
   obtain⟨t499,A310,H⟩:=H
   replace H:(if (t483.length:Int) = (wrap64 ((t457.length:Int) - t499)) then (some (t475 == (t456.length:Int))) else (some false)) = some r:=H
   have A31:=mk0 A310
   clear A310
   by_cases c32:(t483.length:Int) = (wrap64 ((t457.length:Int) - t499))
   rotate_left
   ·rw [if_neg c32] at H
    have c32b0:((t483.length:Int) == (wrap64 ((t457.length:Int) - t499))) = false:=beq_eq_false_iff_ne.mpr c32
    have c32b1:((t483.length:Int) != (wrap64 ((t457.length:Int) - t499))) = true:=bne_iff_ne.mpr c32
    obtain rfl:=Option.some.inj H
    try go_wp2
    have n0_:=mk0 (dR HO_3.out)
    have n1_:=mk0 (dR HO_4.out)
    have n2_:=mk0 (dR HO_475001.out)
    have n3_:=mk0 (dR HO_475003.out)
    have n4_:=mk0 (dR HO_475004.out)
    have n5_:=mk0 (dR HO_488001.out)
    have n6_:=mk0 (dR HO_488003.out)
    have n7_:=mk0 (dR HO_488004.out)
    have n8_:=mk0 (dB BK474.out)
    have n9_:=mk0 (dB BK487.out)
    have n10_:=mk0 (dZ HB.out)
    clear HO_3
    clear HO_4
    clear HO_475001
    clear HO_475003
    clear HO_475004
    clear HO_488001
    clear HO_488003
    clear HO_488004
    clear BK474
    clear BK487
    clear HB
    have HO_3:=n0_
    have HO_4:=n1_
    have HO_475001:=n2_
    have HO_475003:=n3_
    have HO_475004:=n4_
    have HO_488001:=n5_
    have HO_488003:=n6_
    have HO_488004:=n7_
    have BK474:=n8_
    have BK487:=n9_
    have HB:=n10_
    clear n0_ n1_ n2_ n3_ n4_ n5_ n6_ n7_ n8_ n9_ n10_
    refine start_ (n:=10) (S:=fun w'=>w'.cell? ⟨gb487,0,none⟩ = some (.int .i64 t475) ∧ w'.cell? ⟨gb487,1,none⟩ = some (.slice Ao21 t476.length co21) ∧ w'.cell? ⟨gb487,2,none⟩ = some (.int .i64 t479) ∧ w'.cell? ⟨gb487,3,none⟩ = some (.slice Ao22 t480.length co22) ∧ w'.cell? ⟨gb487,4,none⟩ = some (.slice Ao23 t483.length co23)) (ds:=[]) laws_FnPatchBack.m0 (by kernel_rfl) rfl rfl ⟨(blk_cell BK487.out 0).trans rfl,(blk_cell BK487.out 1).trans rfl,(blk_cell BK487.out 2).trans rfl,(blk_cell BK487.out 3).trans rfl,(blk_cell BK487.out 4).trans rfl⟩ (fun hHeld=>?_);refine with_tabW laws_FnPatchBack.tab8 laws_FnPatchBack.bits8 (fun HT_ HW_=>?_)
    generalize wc.drew = w42 at HO_3 HO_4 HO_475001 HO_475003 HO_475004 HO_488001 HO_488003 HO_488004 BK474 BK487 HB hHeld ⊢
    refine pure_ (i:=1) (N:=some 42) (v:=?_) (a':=?_) laws_FnPatchBack.m1 rfl rfl (any_of HT_.out (by kernel_rfl)) (fun _ _ _ h=>h) (Or.inl ⟨by rfl,?_⟩) ?_ ?_
    rotate_left
    ·intro w'
     go_simp
     with_reducible rfl
    rotate_left
    ·simp only [Act.put,sA,sO,sS,i64_w,i32_w]
     rfl
    refine take_ (i:=3) (N:=some 44) (v:=?_) (a':=?_) laws_FnPatchBack.m2 rfl rfl (take_ofW HT_.out HW_.out (by kernel_rfl)) (fun _ _ _ h=>h) (Or.inl ⟨by rfl,?_⟩) hHeld ?_ ?_
    rotate_left
    ·rintro w' ⟨s0,s1,s2,s3,s4⟩
     go_simp
     with_reducible rfl
    rotate_left
    ·simp only [Act.put,sA,sO,sS,i64_w,i32_w]
     rfl
    refine one_ (i:=0) (N:=some 41) laws_FnPatchBack.m3 rfl rfl (one_of HT_.out (by kernel_rfl)) (by decide) (fun K hK=>?_)
    refine Kd.R_lit_step (Kd.int .i64) _ 3 ?hg (N:=41) ?hd (xs:=([]:List Int)) (inner:=[]) (ok:=fun _=>True) (okp:=fun _=>True) ?hr ?hp (fun _ hk=>hk) trivial (Below.refl _ _) (Nat.le_refl _) (by simp) ?_;(case hd=>rfl);(case hg=>rfl);(case hr=>first|(go_simp;done)|(go_simp;rfl));(case hp=>exact (Reps.none _ _))
    intro v489 w43 ho44 hb hg_ hnew_
    clear hg_ hnew_
    (first|rw [← Ny488.out] at ho44|(simp only [Int.reduceToNat] at ho44;rw [← Ny488.out] at ho44))
    have n0_:=mk0 (Kd.R_elder' (by (with_reducible repeat (first|apply aR|apply nR|apply dR));exact HO_3.out) (Kd.R_base ho44) hb)
    have n1_:=mk0 (Kd.R_elder' (by (with_reducible repeat (first|apply aR|apply nR|apply dR));exact HO_4.out) (Kd.R_base ho44) hb)
    have n2_:=mk0 (Kd.R_below (by (with_reducible repeat (first|apply aR|apply nR|apply dR));exact HO_475001.out) hb)
    have n3_:=mk0 (Kd.R_below (by (with_reducible repeat (first|apply aR|apply nR|apply dR));exact HO_475003.out) hb)
    have n4_:=mk0 (Kd.R_elder' (by (with_reducible repeat (first|apply aR|apply nR|apply dR));exact HO_475004.out) (Kd.R_base ho44) hb)
    have n5_:=mk0 (Kd.R_below (by (with_reducible repeat (first|apply aR|apply nR|apply dR));exact HO_488001.out) hb)
    have n6_:=mk0 (Kd.R_below (by (with_reducible repeat (first|apply aR|apply nR|apply dR));exact HO_488003.out) hb)
    have n7_:=mk0 (Kd.R_elder' (by (with_reducible repeat (first|apply aR|apply nR|apply dR));exact HO_488004.out) (Kd.R_base ho44) hb)
    have n8_:=mk0 (Kd.R_lower (Kd.R_new' (Kd.R_new' (Kd.R_new' (Kd.R_new' ho44 (Kd.R_lt (by (with_reducible repeat (first|apply aR|apply nR|apply dR));exact HO_3.out))) (Kd.R_lt (by (with_reducible repeat (first|apply aR|apply nR|apply dR));exact HO_4.out))) (Kd.R_lt (by (with_reducible repeat (first|apply aR|apply nR|apply dR));exact HO_475004.out))) (Kd.R_lt (by (with_reducible repeat (first|apply aR|apply nR|apply dR));exact HO_488004.out))) (below_size (by repeat (first|(with_reducible first|exact HB.out|apply aZ|apply nZ|apply dZ|refine sZ ?_ GE474.out|refine sZ ?_ GE487.out)|exact HB.out))))
    have n9_:=mk0 (blk_below (g:=gb474) (o:=.cells #[.int .i64 t462,.slice Ao14 t463.length co14,.int .i64 t466,.slice Ao15 t467.length co15,.slice Ao16 t470.length co16] 27 (0,0)) (by (with_reducible repeat (first|apply nB|apply dB|apply aB));exact BK474.out) hb)
    have n10_:=mk0 (blk_below (g:=gb487) (o:=.cells #[.int .i64 t475,.slice Ao21 t476.length co21,.int .i64 t479,.slice Ao22 t480.length co22,.slice Ao23 t483.length co23] 27 (0,0)) (by (with_reducible repeat (first|apply nB|apply dB|apply aB));exact BK487.out) hb)
    have n11_:=mk0 (below_step (by repeat (first|(with_reducible first|exact HB.out|apply aZ|apply nZ|apply dZ|refine sZ ?_ GE474.out|refine sZ ?_ GE487.out)|exact HB.out)) hb)
    clear HO_3
    clear HO_4
    clear HO_475001
    clear HO_475003
    clear HO_475004
    clear HO_488001
    clear HO_488003
    clear HO_488004
    clear BK474
    clear BK487
    clear HB
    have HO_3:=n0_
    have HO_4:=n1_
    have HO_475001:=n2_
    have HO_475003:=n3_
    have HO_475004:=n4_
    have HO_488001:=n5_
    have HO_488003:=n6_
    have HO_488004:=n7_
    have HO490:=n8_
    have BK474:=n9_
    have BK487:=n10_
    have HB:=n11_
    clear n0_ n1_ n2_ n3_ n4_ n5_ n6_ n7_ n8_ n9_ n10_ n11_
    clear hb ho44
    refine hK.out _ _ ⟨(blk_cell BK487.out 0).trans rfl,(blk_cell BK487.out 1).trans rfl,(blk_cell BK487.out 2).trans rfl,(blk_cell BK487.out 3).trans rfl,(blk_cell BK487.out 4).trans rfl⟩ (fun hHeld=>?_)
    clear hK K
    refine norm_ (a':=?_) ?_ ?_
    rotate_left
    ·show Act.put _ (some 41) _ = _
     simp only [Act.put,sA,sO,sS,i64_w,i32_w]
     rfl
    refine one_ (i:=2) (N:=some 43) laws_FnPatchBack.m4 rfl rfl (one_of HT_.out (by kernel_rfl)) (by decide) (fun K hK=>?_)
    refine Kd.R_append_rows_step (Kd.int .i64) (w0:=w) w.heap.size (by rfl) (.tmp 41) (.tmp 42) 22 3 (.int .i64 0) 8 rfl Try.underlying22 info3 rfl (by decide) (by omega) v489 y488 t456 _ _ _ (fun k_=>some k_ ≠ (.slice Ao9 t456.length co9:Value).ownBlock ∧ some k_ ≠ (.slice Ao10 t457.length co10:Value).ownBlock ∧ some k_ ≠ (.slice Ao16 t470.length co16:Value).ownBlock ∧ some k_ ≠ (.slice Ao23 t483.length co23:Value).ownBlock) (fun _=>False) rfl rfl ?aO ?aR (fun _ _ h=>h) (fun _ h=>h.elim) ?aF ?aB ?aS ?aL ?_
    (case aR=>repeat (first|exact (Kd.R_reads' HO_3.out).2.2|(with_reducible first|apply aC|apply nC|apply dC)))
    (case aB=>exact (by repeat (first|(with_reducible first|exact HB.out|apply aZ|apply nZ|apply dZ|refine sZ ?_ GE474.out|refine sZ ?_ GE487.out)|exact HB.out)))
    (case aF=>exact (fun k_ hk=>⟨Kd.fresh' (Kd.R_lt (by (with_reducible repeat (first|apply aR|apply nR|apply dR));exact HO_3.out)) k_ hk,Kd.fresh' (Kd.R_lt (by (with_reducible repeat (first|apply aR|apply nR|apply dR));exact HO_4.out)) k_ hk,Kd.fresh' (Kd.R_lt (by (with_reducible repeat (first|apply aR|apply nR|apply dR));exact HO_475004.out)) k_ hk,Kd.fresh' (Kd.R_lt (by (with_reducible repeat (first|apply aR|apply nR|apply dR));exact HO_488004.out)) k_ hk⟩))
    (case aO=>exact (by (with_reducible repeat (first|apply aR|apply nR|apply dR));exact Kd.R_mono HO490.out (fun _ hk=>⟨hk.1.1.1.2,⟨hk.1.1.2,⟨hk.1.2,hk.2⟩⟩⟩)))
    (case aS=>exact (below_size (by repeat (first|(with_reducible first|exact HB.out|apply aZ|apply nZ|apply dZ|refine sZ ?_ GE474.out|refine sZ ?_ GE487.out)|exact HB.out))))
    (case aL=>have:=LMc26.out;omega)
    intro v492 w45 ho hb hg hat
    rw [← Ny491.out] at ho
    have n0_:=mk0 (Kd.R_after (ok:=(fun k_=>some k_ ≠ (.slice Ao10 t457.length co10:Value).ownBlock ∧ some k_ ≠ (.slice Ao16 t470.length co16:Value).ownBlock ∧ some k_ ≠ (.slice Ao23 t483.length co23:Value).ownBlock)) (by (with_reducible repeat (first|apply aR|apply nR|apply dR));exact HO_3.out) hg hat)
    have n1_:=mk0 (Kd.R_after (ok:=(fun k_=>some k_ ≠ (.slice Ao9 t456.length co9:Value).ownBlock ∧ some k_ ≠ (.slice Ao16 t470.length co16:Value).ownBlock ∧ some k_ ≠ (.slice Ao23 t483.length co23:Value).ownBlock)) (by (with_reducible repeat (first|apply aR|apply nR|apply dR));exact HO_4.out) hg hat)
    have n2_:=mk0 (Kd.R_over' (by (with_reducible repeat (first|apply aR|apply nR|apply dR));exact HO_475001.out) (Kd.R_typed (by (with_reducible repeat (first|apply aR|apply nR|apply dR));exact HO490.out)) (by decide) hg)
    have n3_:=mk0 (Kd.R_over' (by (with_reducible repeat (first|apply aR|apply nR|apply dR));exact HO_475003.out) (Kd.R_typed (by (with_reducible repeat (first|apply aR|apply nR|apply dR));exact HO490.out)) (by decide) hg)
    have n4_:=mk0 (Kd.R_after (ok:=(fun k_=>some k_ ≠ (.slice Ao9 t456.length co9:Value).ownBlock ∧ some k_ ≠ (.slice Ao10 t457.length co10:Value).ownBlock ∧ some k_ ≠ (.slice Ao23 t483.length co23:Value).ownBlock)) (by (with_reducible repeat (first|apply aR|apply nR|apply dR));exact HO_475004.out) hg hat)
    have n5_:=mk0 (Kd.R_over' (by (with_reducible repeat (first|apply aR|apply nR|apply dR));exact HO_488001.out) (Kd.R_typed (by (with_reducible repeat (first|apply aR|apply nR|apply dR));exact HO490.out)) (by decide) hg)
    have n6_:=mk0 (Kd.R_over' (by (with_reducible repeat (first|apply aR|apply nR|apply dR));exact HO_488003.out) (Kd.R_typed (by (with_reducible repeat (first|apply aR|apply nR|apply dR));exact HO490.out)) (by decide) hg)
    have n7_:=mk0 (Kd.R_after (ok:=(fun k_=>some k_ ≠ (.slice Ao9 t456.length co9:Value).ownBlock ∧ some k_ ≠ (.slice Ao10 t457.length co10:Value).ownBlock ∧ some k_ ≠ (.slice Ao16 t470.length co16:Value).ownBlock)) (by (with_reducible repeat (first|apply aR|apply nR|apply dR));exact HO_488004.out) hg hat)
    have n8_:=mk0 (blk_grown (g:=gb474) (o:=.cells #[.int .i64 t462,.slice Ao14 t463.length co14,.int .i64 t466,.slice Ao15 t467.length co15,.slice Ao16 t470.length co16] 27 (0,0)) (by (with_reducible repeat (first|apply nB|apply dB|apply aB));exact BK474.out) hg (Kd.R_ne HO490.out BK474.out (by decide)))
    have n9_:=mk0 (blk_grown (g:=gb487) (o:=.cells #[.int .i64 t475,.slice Ao21 t476.length co21,.int .i64 t479,.slice Ao22 t480.length co22,.slice Ao23 t483.length co23] 27 (0,0)) (by (with_reducible repeat (first|apply nB|apply dB|apply aB));exact BK487.out) hg (Kd.R_ne HO490.out BK487.out (by decide)))
    have n10_:=mk0 (hb)
    have n11_:=mk0 (ho)
    clear HO_3
    clear HO_4
    clear HO_475001
    clear HO_475003
    clear HO_475004
    clear HO_488001
    clear HO_488003
    clear HO_488004
    clear BK474
    clear BK487
    clear HB
    clear HO490
    have HO_3:=n0_
    have HO_4:=n1_
    have HO_475001:=n2_
    have HO_475003:=n3_
    have HO_475004:=n4_
    have HO_488001:=n5_
    have HO_488003:=n6_
    have HO_488004:=n7_
    have BK474:=n8_
    have BK487:=n9_
    have HB:=n10_
    have HO493:=n11_
    clear n0_ n1_ n2_ n3_ n4_ n5_ n6_ n7_ n8_ n9_ n10_ n11_
    clear ho hb hg hat
    obtain⟨Ao46,co46,eo46⟩:=Kd.R_slice HO493.out
    (first|subst eo46|(injection eo46 with f1_ f2_ f3_;have f4_:=f1_.symm;have f5_:=f3_.symm;clear f1_ f2_ f3_;subst f4_;subst f5_))
    refine hK.out _ _ ⟨(blk_cell BK487.out 0).trans rfl,(blk_cell BK487.out 1).trans rfl,(blk_cell BK487.out 2).trans rfl,(blk_cell BK487.out 3).trans rfl,(blk_cell BK487.out 4).trans rfl⟩ (fun hHeld=>?_)
    clear hK K
    refine norm_ (a':=?_) ?_ ?_
    rotate_left
    ·show Act.put _ (some 43) _ = _
     simp only [Act.put,sA,sO,sS,i64_w,i32_w]
     rfl
    refine one_ (i:=4) (N:=some 45) laws_FnPatchBack.m5 rfl rfl (one_of HT_.out (by kernel_rfl)) (by decide) (fun K hK=>?_)
    refine goes_ Try.func17 (by kernel_rfl) rfl #[.slice Ao46 y491.length co46,.agg #[.int .i64 t475,.slice Ao21 t476.length co21,.int .i64 t479,.slice Ao22 t480.length co22,.slice Ao23 t483.length co23]] (by rfl) rfl rfl (by (try simp only [mA,mC,mN]);first|done|rfl|(simp only [List.length_drop,List.length_take];rfl)) ?_
    with_reducible refine (impl_PatchDo.calls kj6 _ _ y491 t475 _ _ t476 t479 _ _ t480 (fun k_=>some k_ = (.slice Ao23 t483.length co23:Value).ownBlock) _ _ t483 t494 true _ ?side1 ?side2 ?side3 ?side4 ?side5 ?side6 ?side7 A27.out).mono ?_
    (case side1=>repeat (first|exact (Kd.R_reads' HO493.out).2.2|(with_reducible first|apply aC|apply nC|apply dC)))
    (case side2=>exact (Kd.R_reads' HO493.out).2.1)
    (case side3=>repeat (first|exact (Kd.R_reads' HO_488001.out).2.2|(with_reducible first|apply aC|apply nC|apply dC)))
    (case side4=>exact (Kd.R_reads' HO_488001.out).2.1)
    (case side5=>repeat (first|exact (Kd.R_reads' HO_488003.out).2.2|(with_reducible first|apply aC|apply nC|apply dC)))
    (case side6=>exact (Kd.R_reads' HO_488003.out).2.1)
    (case side7=>exact Kd.R_V (Kd.R_tight rfl (Kd.R_types (Kd.R_types (Kd.R_apart' (Kd.R_apart' (Kd.R_apart' (Kd.R_apart' (HO_488004.out) (Kd.R_typed HO_475001.out) (by decide)) (Kd.R_typed HO_475003.out) (by decide)) (Kd.R_typed HO_488001.out) (by decide)) (Kd.R_typed HO_488003.out) (by decide)) BK474.out (by decide)) BK487.out (by decide))))
    rintro e w47 ⟨v495,rfl,ho0,hb⟩
    refine⟨_,rfl,?_⟩
    have n0_:=mk0 (Kd.R_elder' (by (with_reducible repeat (first|apply aR|apply nR|apply dR));exact HO_3.out) (Kd.R_base ho0) hb)
    have n1_:=mk0 (Kd.R_elder' (by (with_reducible repeat (first|apply aR|apply nR|apply dR));exact HO_4.out) (Kd.R_base ho0) hb)
    have n2_:=mk0 (Kd.R_below (by (with_reducible repeat (first|apply aR|apply nR|apply dR));exact HO_475001.out) hb)
    have n3_:=mk0 (Kd.R_below (by (with_reducible repeat (first|apply aR|apply nR|apply dR));exact HO_475003.out) hb)
    have n4_:=mk0 (Kd.R_elder' (by (with_reducible repeat (first|apply aR|apply nR|apply dR));exact HO_475004.out) (Kd.R_base ho0) hb)
    have n5_:=mk0 (Kd.R_below (by (with_reducible repeat (first|apply aR|apply nR|apply dR));exact HO_488001.out) hb)
    have n6_:=mk0 (Kd.R_below (by (with_reducible repeat (first|apply aR|apply nR|apply dR));exact HO_488003.out) hb)
    have n7_:=mk0 (Kd.R_elder' (by (with_reducible repeat (first|apply aR|apply nR|apply dR));exact HO_488004.out) (Kd.R_base ho0) hb)
    have n8_:=mk0 (Kd.R_elder' (by (with_reducible repeat (first|apply aR|apply nR|apply dR));exact HO493.out) (Kd.R_base ho0) hb)
    have n9_:=mk0 (Kd.R_lower (Kd.R_new' (Kd.R_new' (Kd.R_new' (Kd.R_new' (Kd.R_new' (Kd.R_mono (ok':=fun k_=>True) ho0 (fun _ hk_=>trivial)) (Kd.R_lt (by (with_reducible repeat (first|apply aR|apply nR|apply dR));exact HO_3.out))) (Kd.R_lt (by (with_reducible repeat (first|apply aR|apply nR|apply dR));exact HO_4.out))) (Kd.R_lt (by (with_reducible repeat (first|apply aR|apply nR|apply dR));exact HO_475004.out))) (Kd.R_lt (by (with_reducible repeat (first|apply aR|apply nR|apply dR));exact HO_488004.out))) (Kd.R_lt (by (with_reducible repeat (first|apply aR|apply nR|apply dR));exact HO493.out))) (below_size (by repeat (first|(with_reducible first|exact HB.out|apply aZ|apply nZ|apply dZ|refine sZ ?_ GE474.out|refine sZ ?_ GE487.out)|exact HB.out))))
    have n10_:=mk0 (blk_below (g:=gb474) (o:=.cells #[.int .i64 t462,.slice Ao14 t463.length co14,.int .i64 t466,.slice Ao15 t467.length co15,.slice Ao16 t470.length co16] 27 (0,0)) (by (with_reducible repeat (first|apply nB|apply dB|apply aB));exact BK474.out) hb)
    have n11_:=mk0 (blk_below (g:=gb487) (o:=.cells #[.int .i64 t475,.slice Ao21 t476.length co21,.int .i64 t479,.slice Ao22 t480.length co22,.slice Ao23 t483.length co23] 27 (0,0)) (by (with_reducible repeat (first|apply nB|apply dB|apply aB));exact BK487.out) hb)
    have n12_:=mk0 (below_step (by repeat (first|(with_reducible first|exact HB.out|apply aZ|apply nZ|apply dZ|refine sZ ?_ GE474.out|refine sZ ?_ GE487.out)|exact HB.out)) hb)
    clear HO_3
    clear HO_4
    clear HO_475001
    clear HO_475003
    clear HO_475004
    clear HO_488001
    clear HO_488003
    clear HO_488004
    clear HO493
    clear BK474
    clear BK487
    clear HB
    have HO_3:=n0_
    have HO_4:=n1_
    have HO_475001:=n2_
    have HO_475003:=n3_
    have HO_475004:=n4_
    have HO_488001:=n5_
    have HO_488003:=n6_
    have HO_488004:=n7_
    have HO493:=n8_
    have HO496:=n9_
    have BK474:=n10_
    have BK487:=n11_
    have HB:=n12_
    clear n0_ n1_ n2_ n3_ n4_ n5_ n6_ n7_ n8_ n9_ n10_ n11_ n12_
    (try clear hb)
    (try clear hb2)
    (try clear hk)
    (try clear hi)
    (try clear ho0)
    refine hK.out _ _ ⟨(blk_cell BK487.out 0).trans rfl,(blk_cell BK487.out 1).trans rfl,(blk_cell BK487.out 2).trans rfl,(blk_cell BK487.out 3).trans rfl,(blk_cell BK487.out 4).trans rfl⟩ (fun hHeld=>?_)
    clear hK K
    refine norm_ (a':=?_) ?_ ?_
    rotate_left
    ·show Act.put _ (some 45) _ = _
     simp only [Act.put,sA,sO,sS,i64_w,i32_w]
     rfl
    refine pure_ (i:=5) (N:=some 40) (v:=?_) (a':=?_) laws_FnPatchBack.m6 rfl rfl (any_of HT_.out (by kernel_rfl)) (fun _ _ _ h=>h) (Or.inl ⟨by rfl,?_⟩) ?_ ?_
    rotate_left
    ·intro w'
     go_simp
     with_reducible rfl
    rotate_left
    ·simp only [Act.put,sA,sO,sS,i64_w,i32_w]
     rfl
    refine pure_ (i:=6) (N:=some 46) (v:=?_) (a':=?_) laws_FnPatchBack.m7 rfl rfl (any_of HT_.out (by kernel_rfl)) (fun _ _ _ h=>h) (Or.inl ⟨by rfl,?_⟩) ?_ ?_
    rotate_left
    ·intro w'
     go_simp
     with_reducible rfl
    rotate_left
    ·simp only [Act.put,sA,sO,sS,i64_w,i32_w]
     rfl
    refine pure_ (i:=7) (N:=some 47) (v:=?_) (a':=?_) laws_FnPatchBack.m8 rfl rfl (any_of HT_.out (by kernel_rfl)) (fun _ _ _ h=>h) (Or.inl ⟨by rfl,?_⟩) ?_ ?_
    rotate_left
    ·intro w'
     go_simp
     with_reducible rfl
    rotate_left
    ·simp only [Act.put,sA,sO,sS,i64_w,i32_w]
     rfl
    refine pure_ (i:=8) (N:=some 9) (v:=?_) (a':=?_) laws_FnPatchBack.m9 rfl rfl (any_of HT_.out (by kernel_rfl)) (fun _ _ _ h=>h) (Or.inl ⟨by rfl,?_⟩) ?_ ?_
    rotate_left
    ·intro w'
     go_simp
     with_reducible rfl
    rotate_left
    ·simp only [Act.put,sA,sO,sS,i64_w,i32_w]
     rfl
    refine pure_ (i:=9) (N:=some 10) (v:=?_) (a':=?_) laws_FnPatchBack.m10 rfl rfl (any_of HT_.out (by kernel_rfl)) (fun _ _ _ h=>h) (Or.inl ⟨by rfl,?_⟩) ?_ ?_
    rotate_left
    ·intro w'
     go_simp
     with_reducible rfl
    rotate_left
    ·simp only [Act.put,sA,sO,sS,i64_w,i32_w]
     rfl
    refine done_ (done_of HT_.out (by kernel_rfl)) ?_
    try go_wp2
    have n0_:=mk0 (dR HO_3.out)
    have n1_:=mk0 (dR HO_4.out)
    have n2_:=mk0 (dR HO_475001.out)
    have n3_:=mk0 (dR HO_475003.out)
    have n4_:=mk0 (dR HO_475004.out)
    have n5_:=mk0 (dR HO_488001.out)
    have n6_:=mk0 (dR HO_488003.out)
    have n7_:=mk0 (dR HO_488004.out)
    have n8_:=mk0 (dR HO493.out)
    have n9_:=mk0 (dR HO496.out)
    have n10_:=mk0 (dB BK474.out)
    have n11_:=mk0 (dB BK487.out)
    have n12_:=mk0 (dZ HB.out)
    clear HO_3
    clear HO_4
    clear HO_475001
    clear HO_475003
    clear HO_475004
    clear HO_488001
    clear HO_488003
    clear HO_488004
    clear HO493
    clear HO496
    clear BK474
    clear BK487
    clear HB
    have HO_3:=n0_
    have HO_4:=n1_
    have HO_475001:=n2_
    have HO_475003:=n3_
    have HO_475004:=n4_
    have HO_488001:=n5_
    have HO_488003:=n6_
    have HO_488004:=n7_
    have HO493:=n8_
    have HO496:=n9_
    have BK474:=n10_
    have BK487:=n11_
    have HB:=n12_
    clear n0_ n1_ n2_ n3_ n4_ n5_ n6_ n7_ n8_ n9_ n10_ n11_ n12_
    obtain⟨Ao49,co49,eo49⟩:=Kd.R_slice HO496.out
    (first|subst eo49|(injection eo49 with f1_ f2_ f3_;have f4_:=f1_.symm;have f5_:=f3_.symm;clear f1_ f2_ f3_;subst f4_;subst f5_))
    refine start_ (n:=27) (S:=fun w'=>w'.cell? ⟨gb487,0,none⟩ = some (.int .i64 t475) ∧ w'.cell? ⟨gb487,1,none⟩ = some (.slice Ao21 t476.length co21) ∧ w'.cell? ⟨gb487,2,none⟩ = some (.int .i64 t479) ∧ w'.cell? ⟨gb487,3,none⟩ = some (.slice Ao22 t480.length co22) ∧ w'.cell? ⟨gb487,4,none⟩ = some (.slice Ao23 t483.length co23)) (ds:=[]) laws_FnPatchBack.m11 (by kernel_rfl) rfl rfl ⟨(blk_cell BK487.out 0).trans rfl,(blk_cell BK487.out 1).trans rfl,(blk_cell BK487.out 2).trans rfl,(blk_cell BK487.out 3).trans rfl,(blk_cell BK487.out 4).trans rfl⟩ (fun hHeld=>?_);refine with_tabW laws_FnPatchBack.tab9 laws_FnPatchBack.bits9 (fun HT_ HW_=>?_)
    generalize w47.drew = w48 at HO_3 HO_4 HO_475001 HO_475003 HO_475004 HO_488001 HO_488003 HO_488004 HO493 HO496 BK474 BK487 HB hHeld ⊢
    refine pure_ (i:=0) (N:=some 48) (v:=?_) (a':=?_) laws_FnPatchBack.m12 rfl rfl (any_of HT_.out (by kernel_rfl)) (fun _ _ _ h=>h) (Or.inl ⟨by rfl,?_⟩) ?_ ?_
    rotate_left
    ·intro w'
     go_simp
     with_reducible rfl
    rotate_left
    ·simp only [Act.put,sA,sO,sS,i64_w,i32_w]
     rfl
    refine pure_ (i:=1) (N:=some 49) (v:=?_) (a':=?_) laws_FnPatchBack.m13 rfl rfl (any_of HT_.out (by kernel_rfl)) (fun _ _ _ h=>h) (Or.inl ⟨by rfl,?_⟩) ?_ ?_
    rotate_left
    ·intro w'
     go_simp
     with_reducible rfl
    rotate_left
    ·simp only [Act.put,sA,sO,sS,i64_w,i32_w]
     rfl
    refine pure_ (i:=2) (N:=some 50) (v:=?_) (a':=?_) laws_FnPatchBack.m14 rfl rfl (any_of HT_.out (by kernel_rfl)) (fun _ _ _ h=>h) (Or.inl ⟨by rfl,?_⟩) ?_ ?_
    rotate_left
    ·intro w'
     go_simp
     with_reducible rfl
    rotate_left
    ·simp only [Act.put,sA,sO,sS,i64_w,i32_w]
     rfl
    refine pure_ (i:=3) (N:=some 51) (v:=?_) (a':=?_) laws_FnPatchBack.m15 rfl rfl (any_of HT_.out (by kernel_rfl)) (fun _ _ _ h=>h) (Or.inl ⟨by rfl,?_⟩) ?_ ?_
    rotate_left
    ·intro w'
     go_simp
     with_reducible rfl
    rotate_left
    ·simp only [Act.put,sA,sO,sS,i64_w,i32_w]
     rfl
    refine one_ (i:=4) (N:=some 52) laws_FnPatchBack.m16 rfl rfl (one_of HT_.out (by kernel_rfl)) (by decide) (fun K hK=>?_)
    refine goes_ Try.func21 (by kernel_rfl) rfl #[.slice Ao49 t494.length co49,.slice Ao10 t457.length co10] (by rfl) rfl rfl (by (try simp only [mA,mC,mN]);first|done|rfl|(simp only [List.length_drop,List.length_take];rfl)) ?_
    with_reducible refine (laws_same.calls kj6 _ _ t494 _ _ t457 true _ ?side1 ?side2 ?side3 ?side4 A29.out).mono ?_
    (case side1=>repeat (first|exact (Kd.R_reads' HO496.out).2.2|(with_reducible first|apply aC|apply nC|apply dC)))
    (case side2=>exact (Kd.R_reads' HO496.out).2.1)
    (case side3=>repeat (first|exact (Kd.R_reads' HO_4.out).2.2|(with_reducible first|apply aC|apply nC|apply dC)))
    (case side4=>exact (Kd.R_reads' HO_4.out).2.1)
    rintro e w' ⟨rfl,⟨nd,rfl⟩⟩
    refine⟨_,rfl,?_⟩
    refine hK.out _ _ ⟨(blk_cell BK487.out 0).trans rfl,(blk_cell BK487.out 1).trans rfl,(blk_cell BK487.out 2).trans rfl,(blk_cell BK487.out 3).trans rfl,(blk_cell BK487.out 4).trans rfl⟩ (fun hHeld=>?_)
    clear hK K
    refine norm_ (a':=?_) ?_ ?_
    rotate_left
    ·show Act.put _ (some 52) _ = _
     simp only [Act.put,sA,sO,sS,i64_w,i32_w]
     rfl
    refine pure_ (i:=5) (N:=some 53) (v:=?_) (a':=?_) laws_FnPatchBack.m17 rfl rfl (any_of HT_.out (by kernel_rfl)) (fun _ _ _ h=>h) (Or.inl ⟨by rfl,?_⟩) ?_ ?_
    rotate_left
    ·intro w'
     go_simp
     with_reducible rfl
    rotate_left
    ·simp only [Act.put,sA,sO,sS,i64_w,i32_w]
     rfl
    refine pure_ (i:=6) (N:=some 54) (v:=?_) (a':=?_) laws_FnPatchBack.m18 rfl rfl (any_of HT_.out (by kernel_rfl)) (fun _ _ _ h=>h) (Or.inl ⟨by rfl,?_⟩) ?_ ?_
    rotate_left
    ·intro w'
     go_simp
     with_reducible rfl
    rotate_left
    ·simp only [Act.put,sA,sO,sS,i64_w,i32_w]
     rfl
    refine pure_ (i:=7) (N:=some 55) (v:=?_) (a':=?_) laws_FnPatchBack.m19 rfl rfl (any_of HT_.out (by kernel_rfl)) (fun _ _ _ h=>h) (Or.inl ⟨by rfl,?_⟩) ?_ ?_
    rotate_left
    ·intro w'
     go_simp
     with_reducible rfl
    rotate_left
    ·simp only [Act.put,sA,sO,sS,i64_w,i32_w]
     rfl
    refine pure_ (i:=10) (N:=some 58) (v:=?_) (a':=?_) laws_FnPatchBack.m39 rfl rfl (any_of HT_.out (by kernel_rfl)) (fun _ _ _ h=>h) (Or.inl ⟨by rfl,?_⟩) ?_ ?_
    rotate_left
    ·intro w'
     go_simp
     with_reducible rfl
    rotate_left
    ·simp only [Act.put,sA,sO,sS,i64_w,i32_w]
     rfl
    refine pure_ (i:=11) (N:=some 59) (v:=?_) (a':=?_) laws_FnPatchBack.m40 rfl rfl (any_of HT_.out (by kernel_rfl)) (fun _ _ _ h=>h) (Or.inl ⟨by rfl,?_⟩) ?_ ?_
    rotate_left
    ·intro w'
     go_simp
     with_reducible rfl
    rotate_left
    ·simp only [Act.put,sA,sO,sS,i64_w,i32_w]
     rfl
    refine pure_ (i:=12) (N:=some 60) (v:=?_) (a':=?_) laws_FnPatchBack.m41 rfl rfl (any_of HT_.out (by kernel_rfl)) (fun _ _ _ h=>h) (Or.inl ⟨by rfl,?_⟩) ?_ ?_
    rotate_left
    ·intro w'
     go_simp
     with_reducible rfl
    rotate_left
    ·simp only [Act.put,sA,sO,sS,i64_w,i32_w]
     rfl
    refine pure_ (i:=13) (N:=some 61) (v:=?_) (a':=?_) laws_FnPatchBack.m42 rfl rfl (any_of HT_.out (by kernel_rfl)) (fun _ _ _ h=>h) (Or.inl ⟨by rfl,?_⟩) ?_ ?_
    rotate_left
    ·intro w'
     go_simp
     with_reducible rfl
    rotate_left
    ·simp only [Act.put,sA,sO,sS,i64_w,i32_w]
     rfl
    refine take_ (i:=8) (N:=some 56) (v:=?_) (a':=?_) laws_FnPatchBack.m43 rfl rfl (take_ofW HT_.out HW_.out (by kernel_rfl)) (fun _ _ _ h=>h) (Or.inl ⟨by rfl,?_⟩) hHeld ?_ ?_
    rotate_left
    ·rintro w' ⟨s0,s1,s2,s3,s4⟩
     go_simp
     with_reducible rfl
    rotate_left
    ·simp only [Act.put,sA,sO,sS,i64_w,i32_w]
     rfl
    refine pure_ (i:=9) (N:=some 57) (v:=?_) (a':=?_) laws_FnPatchBack.m25 rfl rfl (any_of HT_.out (by kernel_rfl)) (fun _ _ _ h=>h) (Or.inl ⟨by rfl,?_⟩) ?_ ?_
    rotate_left
    ·intro w'
     go_simp
     with_reducible rfl
    rotate_left
    ·simp only [Act.put,sA,sO,sS,i64_w,i32_w]
     rfl
    refine one_ (i:=14) (N:=some 62) laws_FnPatchBack.m26 rfl rfl (one_of HT_.out (by kernel_rfl)) (by decide) (fun K hK=>?_)
    refine goes_ Try.func22 (by kernel_rfl) rfl #[.slice Ao9 t456.length co9,.slice Ao10 t457.length co10] (by rfl) rfl rfl (by (try simp only [mA,mC,mN]);first|done|rfl|(simp only [List.length_drop,List.length_take];rfl)) ?_
    with_reducible refine (spec_CommonLen.calls kj6 _ _ t456 _ _ t457 t499 _ ?side1 ?side2 ?side3 ?side4 A31.out).mono ?_
    (case side1=>repeat (first|exact (Kd.R_reads' HO_3.out).2.2|(with_reducible first|apply aC|apply nC|apply dC)))
    (case side2=>exact (Kd.R_reads' HO_3.out).2.1)
    (case side3=>repeat (first|exact (Kd.R_reads' HO_4.out).2.2|(with_reducible first|apply aC|apply nC|apply dC)))
    (case side4=>exact (Kd.R_reads' HO_4.out).2.1)
    rintro e w50 ⟨rfl,hb⟩
    refine⟨_,rfl,?_⟩
    have n0_:=mk0 (Kd.R_below (by (with_reducible repeat (first|apply aR|apply nR|apply dR));exact HO_3.out) hb)
    have n1_:=mk0 (Kd.R_below (by (with_reducible repeat (first|apply aR|apply nR|apply dR));exact HO_4.out) hb)
    have n2_:=mk0 (Kd.R_below (by (with_reducible repeat (first|apply aR|apply nR|apply dR));exact HO_475001.out) hb)
    have n3_:=mk0 (Kd.R_below (by (with_reducible repeat (first|apply aR|apply nR|apply dR));exact HO_475003.out) hb)
    have n4_:=mk0 (Kd.R_below (by (with_reducible repeat (first|apply aR|apply nR|apply dR));exact HO_475004.out) hb)
    have n5_:=mk0 (Kd.R_below (by (with_reducible repeat (first|apply aR|apply nR|apply dR));exact HO_488001.out) hb)
    have n6_:=mk0 (Kd.R_below (by (with_reducible repeat (first|apply aR|apply nR|apply dR));exact HO_488003.out) hb)
    have n7_:=mk0 (Kd.R_below (by (with_reducible repeat (first|apply aR|apply nR|apply dR));exact HO_488004.out) hb)
    have n8_:=mk0 (Kd.R_below (by (with_reducible repeat (first|apply aR|apply nR|apply dR));exact HO493.out) hb)
    have n9_:=mk0 (Kd.R_below (by (with_reducible repeat (first|apply aR|apply nR|apply dR));exact HO496.out) hb)
    have n10_:=mk0 (blk_below (g:=gb474) (o:=.cells #[.int .i64 t462,.slice Ao14 t463.length co14,.int .i64 t466,.slice Ao15 t467.length co15,.slice Ao16 t470.length co16] 27 (0,0)) (by (with_reducible repeat (first|apply nB|apply dB|apply aB));exact BK474.out) hb)
    have n11_:=mk0 (blk_below (g:=gb487) (o:=.cells #[.int .i64 t475,.slice Ao21 t476.length co21,.int .i64 t479,.slice Ao22 t480.length co22,.slice Ao23 t483.length co23] 27 (0,0)) (by (with_reducible repeat (first|apply nB|apply dB|apply aB));exact BK487.out) hb)
    have n12_:=mk0 (below_step (by repeat (first|(with_reducible first|exact HB.out|apply aZ|apply nZ|apply dZ|refine sZ ?_ GE474.out|refine sZ ?_ GE487.out)|exact HB.out)) hb)
    clear HO_3
    clear HO_4
    clear HO_475001
    clear HO_475003
    clear HO_475004
    clear HO_488001
    clear HO_488003
    clear HO_488004
    clear HO493
    clear HO496
    clear BK474
    clear BK487
    clear HB
    have HO_3:=n0_
    have HO_4:=n1_
    have HO_475001:=n2_
    have HO_475003:=n3_
    have HO_475004:=n4_
    have HO_488001:=n5_
    have HO_488003:=n6_
    have HO_488004:=n7_
    have HO493:=n8_
    have HO496:=n9_
    have BK474:=n10_
    have BK487:=n11_
    have HB:=n12_
    clear n0_ n1_ n2_ n3_ n4_ n5_ n6_ n7_ n8_ n9_ n10_ n11_ n12_
    (try clear hb)
    (try clear hb2)
    (try clear hk)
    (try clear hi)
    refine hK.out _ _ ⟨(blk_cell BK487.out 0).trans rfl,(blk_cell BK487.out 1).trans rfl,(blk_cell BK487.out 2).trans rfl,(blk_cell BK487.out 3).trans rfl,(blk_cell BK487.out 4).trans rfl⟩ (fun hHeld=>?_)
    clear hK K
    refine norm_ (a':=?_) ?_ ?_
    rotate_left
    ·show Act.put _ (some 62) _ = _
     simp only [Act.put,sA,sO,sS,i64_w,i32_w]
     rfl
    refine pure_ (i:=15) (N:=some 63) (v:=?_) (a':=?_) laws_FnPatchBack.m27 rfl rfl (any_of HT_.out (by kernel_rfl)) (fun _ _ _ h=>h) (Or.inl ⟨by rfl,?_⟩) ?_ ?_
    rotate_left
    ·intro w'
     go_simp
     with_reducible rfl
    rotate_left
    ·simp only [Act.put,sA,sO,sS,i64_w,i32_w]
     rfl
    refine pure_ (i:=16) (N:=some 64) (v:=?_) (a':=?_) laws_FnPatchBack.m28 rfl rfl (any_of HT_.out (by kernel_rfl)) (fun _ _ _ h=>h) (Or.inl ⟨by rfl,?_⟩) ?_ ?_
    rotate_left
    ·intro w'
     go_simp
     with_reducible rfl
    rotate_left
    ·simp only [Act.put,sA,sO,sS,i64_w,i32_w]
     rfl
    refine pure_ (i:=17) (N:=some 65) (v:=?_) (a':=?_) laws_FnPatchBack.m29 rfl rfl (any_of HT_.out (by kernel_rfl)) (fun _ _ _ h=>h) (Or.inl ⟨by rfl,?_⟩) ?_ ?_
    rotate_left
    ·intro w'
     go_simp
     with_reducible rfl
    rotate_left
    ·simp only [Act.put,sA,sO,sS,i64_w,i32_w]
     rfl
    refine pure_ (i:=18) (N:=some 66) (v:=?_) (a':=?_) laws_FnPatchBack.m30 rfl rfl (any_of HT_.out (by kernel_rfl)) (fun _ _ _ h=>h) (Or.inl ⟨by rfl,?_⟩) ?_ ?_
    rotate_left
    ·intro w'
     go_simp
     with_reducible rfl
    rotate_left
    ·simp only [Act.put,sA,sO,sS,i64_w,i32_w]
     rfl
    refine pure_ (i:=19) (N:=some 67) (v:=undef) (a':=?_) laws_FnPatchBack.m31 rfl rfl (any_of HT_.out (by kernel_rfl)) (fun _ _ _ h=>h) (Or.inr ⟨by rfl,rfl⟩) ?_ ?_
    rotate_left
    ·simp only [Act.put,sA,sO,sS,i64_w,i32_w]
     rfl
    refine pure_ (i:=20) (N:=some 68) (v:=undef) (a':=?_) laws_FnPatchBack.m32 rfl rfl (any_of HT_.out (by kernel_rfl)) (fun _ _ _ h=>h) (Or.inr ⟨by rfl,rfl⟩) ?_ ?_
    rotate_left
    ·simp only [Act.put,sA,sO,sS,i64_w,i32_w]
     rfl
    refine pure_ (i:=21) (N:=some 69) (v:=undef) (a':=?_) laws_FnPatchBack.m33 rfl rfl (any_of HT_.out (by kernel_rfl)) (fun _ _ _ h=>h) (Or.inr ⟨by rfl,rfl⟩) ?_ ?_
    rotate_left
    ·simp only [Act.put,sA,sO,sS,i64_w,i32_w]
     rfl
    refine pure_ (i:=22) (N:=some 70) (v:=undef) (a':=?_) laws_FnPatchBack.m34 rfl rfl (any_of HT_.out (by kernel_rfl)) (fun _ _ _ h=>h) (Or.inr ⟨by rfl,rfl⟩) ?_ ?_
    rotate_left
    ·simp only [Act.put,sA,sO,sS,i64_w,i32_w]
     rfl
    refine pure_ (i:=23) (N:=some 71) (v:=undef) (a':=?_) laws_FnPatchBack.m35 rfl rfl (any_of HT_.out (by kernel_rfl)) (fun _ _ _ h=>h) (Or.inr ⟨by rfl,rfl⟩) ?_ ?_
    rotate_left
    ·simp only [Act.put,sA,sO,sS,i64_w,i32_w]
     rfl
    refine pure_ (i:=24) (N:=some 72) (v:=undef) (a':=?_) laws_FnPatchBack.m36 rfl rfl (any_of HT_.out (by kernel_rfl)) (fun _ _ _ h=>h) (Or.inr ⟨by rfl,rfl⟩) ?_ ?_
    rotate_left
    ·simp only [Act.put,sA,sO,sS,i64_w,i32_w]
     rfl
    refine pure_ (i:=25) (N:=some 73) (v:=?_) (a':=?_) laws_FnPatchBack.m37 rfl rfl (any_of HT_.out (by kernel_rfl)) (fun _ _ _ h=>h) (Or.inl ⟨by rfl,?_⟩) ?_ ?_
    rotate_left
    ·intro w'
     go_simp
     with_reducible rfl
    rotate_left
    ·simp only [Act.put,sA,sO,sS,i64_w,i32_w]
     rfl
    refine pure_ (i:=26) (N:=some 2) (v:=?_) (a':=?_) laws_FnPatchBack.m38 rfl rfl (any_of HT_.out (by kernel_rfl)) (fun _ _ _ h=>h) (Or.inl ⟨by rfl,?_⟩) ?_ ?_
    rotate_left
    ·intro w'
     go_simp
     with_reducible rfl
    rotate_left
    ·simp only [Act.put,sA,sO,sS,i64_w,i32_w]
     rfl
    refine done_ (done_of HT_.out (by kernel_rfl)) ?_
    try go_wp2
    go_ret
    exact⟨by first|rfl|(simp [errW_none,errW_some] <;> rfl)|(simp [*,errW_none,errW_some] <;> rfl),by repeat (first|(with_reducible first|exact HB.out|apply aZ|apply nZ|apply dZ|refine sZ ?_ GE474.out|refine sZ ?_ GE487.out)|exact HB.out)⟩
   rw [if_pos c32] at H
   have c32b0:((t483.length:Int) == (wrap64 ((t457.length:Int) - t499))) = true:=beq_iff_eq.mpr c32
   have c32b1:((t483.length:Int) != (wrap64 ((t457.length:Int) - t499))) = false:=bne_eq_false_iff_eq.mpr c32
   clear c32
   obtain rfl:=Option.some.inj H
   try go_wp2
   have n0_:=mk0 (dR HO_3.out)
   have n1_:=mk0 (dR HO_4.out)
   have n2_:=mk0 (dR HO_475001.out)
   have n3_:=mk0 (dR HO_475003.out)
   have n4_:=mk0 (dR HO_475004.out)
   have n5_:=mk0 (dR HO_488001.out)
   have n6_:=mk0 (dR HO_488003.out)
   have n7_:=mk0 (dR HO_488004.out)
   have n8_:=mk0 (dB BK474.out)
   have n9_:=mk0 (dB BK487.out)
   have n10_:=mk0 (dZ HB.out)
   clear HO_3
   clear HO_4
   clear HO_475001
   clear HO_475003
   clear HO_475004
   clear HO_488001
   clear HO_488003
   clear HO_488004
   clear BK474
   clear BK487
   clear HB
   have HO_3:=n0_
   have HO_4:=n1_
   have HO_475001:=n2_
   have HO_475003:=n3_
   have HO_475004:=n4_
   have HO_488001:=n5_
   have HO_488003:=n6_
   have HO_488004:=n7_
   have BK474:=n8_
   have BK487:=n9_
   have HB:=n10_
   clear n0_ n1_ n2_ n3_ n4_ n5_ n6_ n7_ n8_ n9_ n10_
   refine start_ (n:=10) (S:=fun w'=>w'.cell? ⟨gb487,0,none⟩ = some (.int .i64 t475) ∧ w'.cell? ⟨gb487,1,none⟩ = some (.slice Ao21 t476.length co21) ∧ w'.cell? ⟨gb487,2,none⟩ = some (.int .i64 t479) ∧ w'.cell? ⟨gb487,3,none⟩ = some (.slice Ao22 t480.length co22) ∧ w'.cell? ⟨gb487,4,none⟩ = some (.slice Ao23 t483.length co23)) (ds:=[]) laws_FnPatchBack.m0 (by kernel_rfl) rfl rfl ⟨(blk_cell BK487.out 0).trans rfl,(blk_cell BK487.out 1).trans rfl,(blk_cell BK487.out 2).trans rfl,(blk_cell BK487.out 3).trans rfl,(blk_cell BK487.out 4).trans rfl⟩ (fun hHeld=>?_);refine with_tabW laws_FnPatchBack.tab8 laws_FnPatchBack.bits8 (fun HT_ HW_=>?_)
   generalize wc.drew = w33 at HO_3 HO_4 HO_475001 HO_475003 HO_475004 HO_488001 HO_488003 HO_488004 BK474 BK487 HB hHeld ⊢
   refine pure_ (i:=1) (N:=some 42) (v:=?_) (a':=?_) laws_FnPatchBack.m1 rfl rfl (any_of HT_.out (by kernel_rfl)) (fun _ _ _ h=>h) (Or.inl ⟨by rfl,?_⟩) ?_ ?_
   rotate_left
   ·intro w'
    go_simp
    with_reducible rfl
   rotate_left
   ·simp only [Act.put,sA,sO,sS,i64_w,i32_w]
    rfl
   refine take_ (i:=3) (N:=some 44) (v:=?_) (a':=?_) laws_FnPatchBack.m2 rfl rfl (take_ofW HT_.out HW_.out (by kernel_rfl)) (fun _ _ _ h=>h) (Or.inl ⟨by rfl,?_⟩) hHeld ?_ ?_
   rotate_left
   ·rintro w' ⟨s0,s1,s2,s3,s4⟩
    go_simp
    with_reducible rfl
   rotate_left
   ·simp only [Act.put,sA,sO,sS,i64_w,i32_w]
    rfl
   refine one_ (i:=0) (N:=some 41) laws_FnPatchBack.m3 rfl rfl (one_of HT_.out (by kernel_rfl)) (by decide) (fun K hK=>?_)
   refine Kd.R_lit_step (Kd.int .i64) _ 3 ?hg (N:=41) ?hd (xs:=([]:List Int)) (inner:=[]) (ok:=fun _=>True) (okp:=fun _=>True) ?hr ?hp (fun _ hk=>hk) trivial (Below.refl _ _) (Nat.le_refl _) (by simp) ?_;(case hd=>rfl);(case hg=>rfl);(case hr=>first|(go_simp;done)|(go_simp;rfl));(case hp=>exact (Reps.none _ _))
   intro v489 w34 ho35 hb hg_ hnew_
   clear hg_ hnew_
   (first|rw [← Ny488.out] at ho35|(simp only [Int.reduceToNat] at ho35;rw [← Ny488.out] at ho35))
   have n0_:=mk0 (Kd.R_elder' (by (with_reducible repeat (first|apply aR|apply nR|apply dR));exact HO_3.out) (Kd.R_base ho35) hb)
   have n1_:=mk0 (Kd.R_elder' (by (with_reducible repeat (first|apply aR|apply nR|apply dR));exact HO_4.out) (Kd.R_base ho35) hb)
   have n2_:=mk0 (Kd.R_below (by (with_reducible repeat (first|apply aR|apply nR|apply dR));exact HO_475001.out) hb)
   have n3_:=mk0 (Kd.R_below (by (with_reducible repeat (first|apply aR|apply nR|apply dR));exact HO_475003.out) hb)
   have n4_:=mk0 (Kd.R_elder' (by (with_reducible repeat (first|apply aR|apply nR|apply dR));exact HO_475004.out) (Kd.R_base ho35) hb)
   have n5_:=mk0 (Kd.R_below (by (with_reducible repeat (first|apply aR|apply nR|apply dR));exact HO_488001.out) hb)
   have n6_:=mk0 (Kd.R_below (by (with_reducible repeat (first|apply aR|apply nR|apply dR));exact HO_488003.out) hb)
   have n7_:=mk0 (Kd.R_elder' (by (with_reducible repeat (first|apply aR|apply nR|apply dR));exact HO_488004.out) (Kd.R_base ho35) hb)
   have n8_:=mk0 (Kd.R_lower (Kd.R_new' (Kd.R_new' (Kd.R_new' (Kd.R_new' ho35 (Kd.R_lt (by (with_reducible repeat (first|apply aR|apply nR|apply dR));exact HO_3.out))) (Kd.R_lt (by (with_reducible repeat (first|apply aR|apply nR|apply dR));exact HO_4.out))) (Kd.R_lt (by (with_reducible repeat (first|apply aR|apply nR|apply dR));exact HO_475004.out))) (Kd.R_lt (by (with_reducible repeat (first|apply aR|apply nR|apply dR));exact HO_488004.out))) (below_size (by repeat (first|(with_reducible first|exact HB.out|apply aZ|apply nZ|apply dZ|refine sZ ?_ GE474.out|refine sZ ?_ GE487.out)|exact HB.out))))
   have n9_:=mk0 (blk_below (g:=gb474) (o:=.cells #[.int .i64 t462,.slice Ao14 t463.length co14,.int .i64 t466,.slice Ao15 t467.length co15,.slice Ao16 t470.length co16] 27 (0,0)) (by (with_reducible repeat (first|apply nB|apply dB|apply aB));exact BK474.out) hb)
   have n10_:=mk0 (blk_below (g:=gb487) (o:=.cells #[.int .i64 t475,.slice Ao21 t476.length co21,.int .i64 t479,.slice Ao22 t480.length co22,.slice Ao23 t483.length co23] 27 (0,0)) (by (with_reducible repeat (first|apply nB|apply dB|apply aB));exact BK487.out) hb)
   have n11_:=mk0 (below_step (by repeat (first|(with_reducible first|exact HB.out|apply aZ|apply nZ|apply dZ|refine sZ ?_ GE474.out|refine sZ ?_ GE487.out)|exact HB.out)) hb)
   clear HO_3
   clear HO_4
   clear HO_475001
   clear HO_475003
   clear HO_475004
   clear HO_488001
   clear HO_488003
   clear HO_488004
   clear BK474
   clear BK487
   clear HB
   have HO_3:=n0_
   have HO_4:=n1_
   have HO_475001:=n2_
   have HO_475003:=n3_
   have HO_475004:=n4_
   have HO_488001:=n5_
   have HO_488003:=n6_
   have HO_488004:=n7_
   have HO490:=n8_
   have BK474:=n9_
   have BK487:=n10_
   have HB:=n11_
   clear n0_ n1_ n2_ n3_ n4_ n5_ n6_ n7_ n8_ n9_ n10_ n11_
   clear hb ho35
   refine hK.out _ _ ⟨(blk_cell BK487.out 0).trans rfl,(blk_cell BK487.out 1).trans rfl,(blk_cell BK487.out 2).trans rfl,(blk_cell BK487.out 3).trans rfl,(blk_cell BK487.out 4).trans rfl⟩ (fun hHeld=>?_)
   clear hK K
   refine norm_ (a':=?_) ?_ ?_
   rotate_left
   ·show Act.put _ (some 41) _ = _
    simp only [Act.put,sA,sO,sS,i64_w,i32_w]
    rfl
   refine one_ (i:=2) (N:=some 43) laws_FnPatchBack.m4 rfl rfl (one_of HT_.out (by kernel_rfl)) (by decide) (fun K hK=>?_)
   refine Kd.R_append_rows_step (Kd.int .i64) (w0:=w) w.heap.size (by rfl) (.tmp 41) (.tmp 42) 22 3 (.int .i64 0) 8 rfl Try.underlying22 info3 rfl (by decide) (by omega) v489 y488 t456 _ _ _ (fun k_=>some k_ ≠ (.slice Ao9 t456.length co9:Value).ownBlock ∧ some k_ ≠ (.slice Ao10 t457.length co10:Value).ownBlock ∧ some k_ ≠ (.slice Ao16 t470.length co16:Value).ownBlock ∧ some k_ ≠ (.slice Ao23 t483.length co23:Value).ownBlock) (fun _=>False) rfl rfl ?aO ?aR (fun _ _ h=>h) (fun _ h=>h.elim) ?aF ?aB ?aS ?aL ?_
   (case aR=>repeat (first|exact (Kd.R_reads' HO_3.out).2.2|(with_reducible first|apply aC|apply nC|apply dC)))
   (case aB=>exact (by repeat (first|(with_reducible first|exact HB.out|apply aZ|apply nZ|apply dZ|refine sZ ?_ GE474.out|refine sZ ?_ GE487.out)|exact HB.out)))
   (case aF=>exact (fun k_ hk=>⟨Kd.fresh' (Kd.R_lt (by (with_reducible repeat (first|apply aR|apply nR|apply dR));exact HO_3.out)) k_ hk,Kd.fresh' (Kd.R_lt (by (with_reducible repeat (first|apply aR|apply nR|apply dR));exact HO_4.out)) k_ hk,Kd.fresh' (Kd.R_lt (by (with_reducible repeat (first|apply aR|apply nR|apply dR));exact HO_475004.out)) k_ hk,Kd.fresh' (Kd.R_lt (by (with_reducible repeat (first|apply aR|apply nR|apply dR));exact HO_488004.out)) k_ hk⟩))
   (case aO=>exact (by (with_reducible repeat (first|apply aR|apply nR|apply dR));exact Kd.R_mono HO490.out (fun _ hk=>⟨hk.1.1.1.2,⟨hk.1.1.2,⟨hk.1.2,hk.2⟩⟩⟩)))
   (case aS=>exact (below_size (by repeat (first|(with_reducible first|exact HB.out|apply aZ|apply nZ|apply dZ|refine sZ ?_ GE474.out|refine sZ ?_ GE487.out)|exact HB.out))))
   (case aL=>have:=LMc26.out;omega)
   intro v492 w36 ho hb hg hat
   rw [← Ny491.out] at ho
   have n0_:=mk0 (Kd.R_after (ok:=(fun k_=>some k_ ≠ (.slice Ao10 t457.length co10:Value).ownBlock ∧ some k_ ≠ (.slice Ao16 t470.length co16:Value).ownBlock ∧ some k_ ≠ (.slice Ao23 t483.length co23:Value).ownBlock)) (by (with_reducible repeat (first|apply aR|apply nR|apply dR));exact HO_3.out) hg hat)
   have n1_:=mk0 (Kd.R_after (ok:=(fun k_=>some k_ ≠ (.slice Ao9 t456.length co9:Value).ownBlock ∧ some k_ ≠ (.slice Ao16 t470.length co16:Value).ownBlock ∧ some k_ ≠ (.slice Ao23 t483.length co23:Value).ownBlock)) (by (with_reducible repeat (first|apply aR|apply nR|apply dR));exact HO_4.out) hg hat)
   have n2_:=mk0 (Kd.R_over' (by (with_reducible repeat (first|apply aR|apply nR|apply dR));exact HO_475001.out) (Kd.R_typed (by (with_reducible repeat (first|apply aR|apply nR|apply dR));exact HO490.out)) (by decide) hg)
   have n3_:=mk0 (Kd.R_over' (by (with_reducible repeat (first|apply aR|apply nR|apply dR));exact HO_475003.out) (Kd.R_typed (by (with_reducible repeat (first|apply aR|apply nR|apply dR));exact HO490.out)) (by decide) hg)
   have n4_:=mk0 (Kd.R_after (ok:=(fun k_=>some k_ ≠ (.slice Ao9 t456.length co9:Value).ownBlock ∧ some k_ ≠ (.slice Ao10 t457.length co10:Value).ownBlock ∧ some k_ ≠ (.slice Ao23 t483.length co23:Value).ownBlock)) (by (with_reducible repeat (first|apply aR|apply nR|apply dR));exact HO_475004.out) hg hat)
   have n5_:=mk0 (Kd.R_over' (by (with_reducible repeat (first|apply aR|apply nR|apply dR));exact HO_488001.out) (Kd.R_typed (by (with_reducible repeat (first|apply aR|apply nR|apply dR));exact HO490.out)) (by decide) hg)
   have n6_:=mk0 (Kd.R_over' (by (with_reducible repeat (first|apply aR|apply nR|apply dR));exact HO_488003.out) (Kd.R_typed (by (with_reducible repeat (first|apply aR|apply nR|apply dR));exact HO490.out)) (by decide) hg)
   have n7_:=mk0 (Kd.R_after (ok:=(fun k_=>some k_ ≠ (.slice Ao9 t456.length co9:Value).ownBlock ∧ some k_ ≠ (.slice Ao10 t457.length co10:Value).ownBlock ∧ some k_ ≠ (.slice Ao16 t470.length co16:Value).ownBlock)) (by (with_reducible repeat (first|apply aR|apply nR|apply dR));exact HO_488004.out) hg hat)
   have n8_:=mk0 (blk_grown (g:=gb474) (o:=.cells #[.int .i64 t462,.slice Ao14 t463.length co14,.int .i64 t466,.slice Ao15 t467.length co15,.slice Ao16 t470.length co16] 27 (0,0)) (by (with_reducible repeat (first|apply nB|apply dB|apply aB));exact BK474.out) hg (Kd.R_ne HO490.out BK474.out (by decide)))
   have n9_:=mk0 (blk_grown (g:=gb487) (o:=.cells #[.int .i64 t475,.slice Ao21 t476.length co21,.int .i64 t479,.slice Ao22 t480.length co22,.slice Ao23 t483.length co23] 27 (0,0)) (by (with_reducible repeat (first|apply nB|apply dB|apply aB));exact BK487.out) hg (Kd.R_ne HO490.out BK487.out (by decide)))
   have n10_:=mk0 (hb)
   have n11_:=mk0 (ho)
   clear HO_3
   clear HO_4
   clear HO_475001
   clear HO_475003
   clear HO_475004
   clear HO_488001
   clear HO_488003
   clear HO_488004
   clear BK474
   clear BK487
   clear HB
   clear HO490
   have HO_3:=n0_
   have HO_4:=n1_
   have HO_475001:=n2_
   have HO_475003:=n3_
   have HO_475004:=n4_
   have HO_488001:=n5_
   have HO_488003:=n6_
   have HO_488004:=n7_
   have BK474:=n8_
   have BK487:=n9_
   have HB:=n10_
   have HO493:=n11_
   clear n0_ n1_ n2_ n3_ n4_ n5_ n6_ n7_ n8_ n9_ n10_ n11_
   clear ho hb hg hat
   obtain⟨Ao37,co37,eo37⟩:=Kd.R_slice HO493.out
   (first|subst eo37|(injection eo37 with f1_ f2_ f3_;have f4_:=f1_.symm;have f5_:=f3_.symm;clear f1_ f2_ f3_;subst f4_;subst f5_))
   refine hK.out _ _ ⟨(blk_cell BK487.out 0).trans rfl,(blk_cell BK487.out 1).trans rfl,(blk_cell BK487.out 2).trans rfl,(blk_cell BK487.out 3).trans rfl,(blk_cell BK487.out 4).trans rfl⟩ (fun hHeld=>?_)
   clear hK K
   refine norm_ (a':=?_) ?_ ?_
   rotate_left
   ·show Act.put _ (some 43) _ = _
    simp only [Act.put,sA,sO,sS,i64_w,i32_w]
    rfl
   refine one_ (i:=4) (N:=some 45) laws_FnPatchBack.m5 rfl rfl (one_of HT_.out (by kernel_rfl)) (by decide) (fun K hK=>?_)
   refine goes_ Try.func17 (by kernel_rfl) rfl #[.slice Ao37 y491.length co37,.agg #[.int .i64 t475,.slice Ao21 t476.length co21,.int .i64 t479,.slice Ao22 t480.length co22,.slice Ao23 t483.length co23]] (by rfl) rfl rfl (by (try simp only [mA,mC,mN]);first|done|rfl|(simp only [List.length_drop,List.length_take];rfl)) ?_
   with_reducible refine (impl_PatchDo.calls kj6 _ _ y491 t475 _ _ t476 t479 _ _ t480 (fun k_=>some k_ = (.slice Ao23 t483.length co23:Value).ownBlock) _ _ t483 t494 true _ ?side1 ?side2 ?side3 ?side4 ?side5 ?side6 ?side7 A27.out).mono ?_
   (case side1=>repeat (first|exact (Kd.R_reads' HO493.out).2.2|(with_reducible first|apply aC|apply nC|apply dC)))
   (case side2=>exact (Kd.R_reads' HO493.out).2.1)
   (case side3=>repeat (first|exact (Kd.R_reads' HO_488001.out).2.2|(with_reducible first|apply aC|apply nC|apply dC)))
   (case side4=>exact (Kd.R_reads' HO_488001.out).2.1)
   (case side5=>repeat (first|exact (Kd.R_reads' HO_488003.out).2.2|(with_reducible first|apply aC|apply nC|apply dC)))
   (case side6=>exact (Kd.R_reads' HO_488003.out).2.1)
   (case side7=>exact Kd.R_V (Kd.R_tight rfl (Kd.R_types (Kd.R_types (Kd.R_apart' (Kd.R_apart' (Kd.R_apart' (Kd.R_apart' (HO_488004.out) (Kd.R_typed HO_475001.out) (by decide)) (Kd.R_typed HO_475003.out) (by decide)) (Kd.R_typed HO_488001.out) (by decide)) (Kd.R_typed HO_488003.out) (by decide)) BK474.out (by decide)) BK487.out (by decide))))
   rintro e w38 ⟨v495,rfl,ho0,hb⟩
   refine⟨_,rfl,?_⟩
   have n0_:=mk0 (Kd.R_elder' (by (with_reducible repeat (first|apply aR|apply nR|apply dR));exact HO_3.out) (Kd.R_base ho0) hb)
   have n1_:=mk0 (Kd.R_elder' (by (with_reducible repeat (first|apply aR|apply nR|apply dR));exact HO_4.out) (Kd.R_base ho0) hb)
   have n2_:=mk0 (Kd.R_below (by (with_reducible repeat (first|apply aR|apply nR|apply dR));exact HO_475001.out) hb)
   have n3_:=mk0 (Kd.R_below (by (with_reducible repeat (first|apply aR|apply nR|apply dR));exact HO_475003.out) hb)
   have n4_:=mk0 (Kd.R_elder' (by (with_reducible repeat (first|apply aR|apply nR|apply dR));exact HO_475004.out) (Kd.R_base ho0) hb)
   have n5_:=mk0 (Kd.R_below (by (with_reducible repeat (first|apply aR|apply nR|apply dR));exact HO_488001.out) hb)
   have n6_:=mk0 (Kd.R_below (by (with_reducible repeat (first|apply aR|apply nR|apply dR));exact HO_488003.out) hb)
   have n7_:=mk0 (Kd.R_elder' (by (with_reducible repeat (first|apply aR|apply nR|apply dR));exact HO_488004.out) (Kd.R_base ho0) hb)
   have n8_:=mk0 (Kd.R_elder' (by (with_reducible repeat (first|apply aR|apply nR|apply dR));exact HO493.out) (Kd.R_base ho0) hb)
   have n9_:=mk0 (Kd.R_lower (Kd.R_new' (Kd.R_new' (Kd.R_new' (Kd.R_new' (Kd.R_new' (Kd.R_mono (ok':=fun k_=>True) ho0 (fun _ hk_=>trivial)) (Kd.R_lt (by (with_reducible repeat (first|apply aR|apply nR|apply dR));exact HO_3.out))) (Kd.R_lt (by (with_reducible repeat (first|apply aR|apply nR|apply dR));exact HO_4.out))) (Kd.R_lt (by (with_reducible repeat (first|apply aR|apply nR|apply dR));exact HO_475004.out))) (Kd.R_lt (by (with_reducible repeat (first|apply aR|apply nR|apply dR));exact HO_488004.out))) (Kd.R_lt (by (with_reducible repeat (first|apply aR|apply nR|apply dR));exact HO493.out))) (below_size (by repeat (first|(with_reducible first|exact HB.out|apply aZ|apply nZ|apply dZ|refine sZ ?_ GE474.out|refine sZ ?_ GE487.out)|exact HB.out))))
   have n10_:=mk0 (blk_below (g:=gb474) (o:=.cells #[.int .i64 t462,.slice Ao14 t463.length co14,.int .i64 t466,.slice Ao15 t467.length co15,.slice Ao16 t470.length co16] 27 (0,0)) (by (with_reducible repeat (first|apply nB|apply dB|apply aB));exact BK474.out) hb)
   have n11_:=mk0 (blk_below (g:=gb487) (o:=.cells #[.int .i64 t475,.slice Ao21 t476.length co21,.int .i64 t479,.slice Ao22 t480.length co22,.slice Ao23 t483.length co23] 27 (0,0)) (by (with_reducible repeat (first|apply nB|apply dB|apply aB));exact BK487.out) hb)
   have n12_:=mk0 (below_step (by repeat (first|(with_reducible first|exact HB.out|apply aZ|apply nZ|apply dZ|refine sZ ?_ GE474.out|refine sZ ?_ GE487.out)|exact HB.out)) hb)
   clear HO_3
   clear HO_4
   clear HO_475001
   clear HO_475003
   clear HO_475004
   clear HO_488001
   clear HO_488003
   clear HO_488004
   clear HO493
   clear BK474
   clear BK487
   clear HB
   have HO_3:=n0_
   have HO_4:=n1_
   have HO_475001:=n2_
   have HO_475003:=n3_
   have HO_475004:=n4_
   have HO_488001:=n5_
   have HO_488003:=n6_
   have HO_488004:=n7_
   have HO493:=n8_
   have HO496:=n9_
   have BK474:=n10_
   have BK487:=n11_
   have HB:=n12_
   clear n0_ n1_ n2_ n3_ n4_ n5_ n6_ n7_ n8_ n9_ n10_ n11_ n12_
   (try clear hb)
   (try clear hb2)
   (try clear hk)
   (try clear hi)
   (try clear ho0)
   refine hK.out _ _ ⟨(blk_cell BK487.out 0).trans rfl,(blk_cell BK487.out 1).trans rfl,(blk_cell BK487.out 2).trans rfl,(blk_cell BK487.out 3).trans rfl,(blk_cell BK487.out 4).trans rfl⟩ (fun hHeld=>?_)
   clear hK K
   refine norm_ (a':=?_) ?_ ?_
   rotate_left
   ·show Act.put _ (some 45) _ = _
    simp only [Act.put,sA,sO,sS,i64_w,i32_w]
    rfl
   refine pure_ (i:=5) (N:=some 40) (v:=?_) (a':=?_) laws_FnPatchBack.m6 rfl rfl (any_of HT_.out (by kernel_rfl)) (fun _ _ _ h=>h) (Or.inl ⟨by rfl,?_⟩) ?_ ?_
   rotate_left
   ·intro w'
    go_simp
    with_reducible rfl
   rotate_left
   ·simp only [Act.put,sA,sO,sS,i64_w,i32_w]
    rfl
   refine pure_ (i:=6) (N:=some 46) (v:=?_) (a':=?_) laws_FnPatchBack.m7 rfl rfl (any_of HT_.out (by kernel_rfl)) (fun _ _ _ h=>h) (Or.inl ⟨by rfl,?_⟩) ?_ ?_
   rotate_left
   ·intro w'
    go_simp
    with_reducible rfl
   rotate_left
   ·simp only [Act.put,sA,sO,sS,i64_w,i32_w]
    rfl
   refine pure_ (i:=7) (N:=some 47) (v:=?_) (a':=?_) laws_FnPatchBack.m8 rfl rfl (any_of HT_.out (by kernel_rfl)) (fun _ _ _ h=>h) (Or.inl ⟨by rfl,?_⟩) ?_ ?_
   rotate_left
   ·intro w'
    go_simp
    with_reducible rfl
   rotate_left
   ·simp only [Act.put,sA,sO,sS,i64_w,i32_w]
    rfl
   refine pure_ (i:=8) (N:=some 9) (v:=?_) (a':=?_) laws_FnPatchBack.m9 rfl rfl (any_of HT_.out (by kernel_rfl)) (fun _ _ _ h=>h) (Or.inl ⟨by rfl,?_⟩) ?_ ?_
   rotate_left
   ·intro w'
    go_simp
    with_reducible rfl
   rotate_left
   ·simp only [Act.put,sA,sO,sS,i64_w,i32_w]
    rfl
   refine pure_ (i:=9) (N:=some 10) (v:=?_) (a':=?_) laws_FnPatchBack.m10 rfl rfl (any_of HT_.out (by kernel_rfl)) (fun _ _ _ h=>h) (Or.inl ⟨by rfl,?_⟩) ?_ ?_
   rotate_left
   ·intro w'
    go_simp
    with_reducible rfl
   rotate_left
   ·simp only [Act.put,sA,sO,sS,i64_w,i32_w]
    rfl
   refine done_ (done_of HT_.out (by kernel_rfl)) ?_
   try go_wp2
   have n0_:=mk0 (dR HO_3.out)
   have n1_:=mk0 (dR HO_4.out)
   have n2_:=mk0 (dR HO_475001.out)
   have n3_:=mk0 (dR HO_475003.out)
   have n4_:=mk0 (dR HO_475004.out)
   have n5_:=mk0 (dR HO_488001.out)
   have n6_:=mk0 (dR HO_488003.out)
   have n7_:=mk0 (dR HO_488004.out)
   have n8_:=mk0 (dR HO493.out)
   have n9_:=mk0 (dR HO496.out)
   have n10_:=mk0 (dB BK474.out)
   have n11_:=mk0 (dB BK487.out)
   have n12_:=mk0 (dZ HB.out)
   clear HO_3
   clear HO_4
   clear HO_475001
   clear HO_475003
   clear HO_475004
   clear HO_488001
   clear HO_488003
   clear HO_488004
   clear HO493
   clear HO496
   clear BK474
   clear BK487
   clear HB
   have HO_3:=n0_
   have HO_4:=n1_
   have HO_475001:=n2_
   have HO_475003:=n3_
   have HO_475004:=n4_
   have HO_488001:=n5_
   have HO_488003:=n6_
   have HO_488004:=n7_
   have HO493:=n8_
   have HO496:=n9_
   have BK474:=n10_
   have BK487:=n11_
   have HB:=n12_
   clear n0_ n1_ n2_ n3_ n4_ n5_ n6_ n7_ n8_ n9_ n10_ n11_ n12_
   obtain⟨Ao40,co40,eo40⟩:=Kd.R_slice HO496.out
   (first|subst eo40|(injection eo40 with f1_ f2_ f3_;have f4_:=f1_.symm;have f5_:=f3_.symm;clear f1_ f2_ f3_;subst f4_;subst f5_))
   refine start_ (n:=27) (S:=fun w'=>w'.cell? ⟨gb487,0,none⟩ = some (.int .i64 t475) ∧ w'.cell? ⟨gb487,1,none⟩ = some (.slice Ao21 t476.length co21) ∧ w'.cell? ⟨gb487,2,none⟩ = some (.int .i64 t479) ∧ w'.cell? ⟨gb487,3,none⟩ = some (.slice Ao22 t480.length co22) ∧ w'.cell? ⟨gb487,4,none⟩ = some (.slice Ao23 t483.length co23)) (ds:=[]) laws_FnPatchBack.m11 (by kernel_rfl) rfl rfl ⟨(blk_cell BK487.out 0).trans rfl,(blk_cell BK487.out 1).trans rfl,(blk_cell BK487.out 2).trans rfl,(blk_cell BK487.out 3).trans rfl,(blk_cell BK487.out 4).trans rfl⟩ (fun hHeld=>?_);refine with_tabW laws_FnPatchBack.tab9 laws_FnPatchBack.bits9 (fun HT_ HW_=>?_)
   generalize w38.drew = w39 at HO_3 HO_4 HO_475001 HO_475003 HO_475004 HO_488001 HO_488003 HO_488004 HO493 HO496 BK474 BK487 HB hHeld ⊢
   refine pure_ (i:=0) (N:=some 48) (v:=?_) (a':=?_) laws_FnPatchBack.m12 rfl rfl (any_of HT_.out (by kernel_rfl)) (fun _ _ _ h=>h) (Or.inl ⟨by rfl,?_⟩) ?_ ?_
   rotate_left
   ·intro w'
    go_simp
    with_reducible rfl
   rotate_left
   ·simp only [Act.put,sA,sO,sS,i64_w,i32_w]
    rfl
   refine pure_ (i:=1) (N:=some 49) (v:=?_) (a':=?_) laws_FnPatchBack.m13 rfl rfl (any_of HT_.out (by kernel_rfl)) (fun _ _ _ h=>h) (Or.inl ⟨by rfl,?_⟩) ?_ ?_
   rotate_left
   ·intro w'
    go_simp
    with_reducible rfl
   rotate_left
   ·simp only [Act.put,sA,sO,sS,i64_w,i32_w]
    rfl
   refine pure_ (i:=2) (N:=some 50) (v:=?_) (a':=?_) laws_FnPatchBack.m14 rfl rfl (any_of HT_.out (by kernel_rfl)) (fun _ _ _ h=>h) (Or.inl ⟨by rfl,?_⟩) ?_ ?_
   rotate_left
   ·intro w'
    go_simp
    with_reducible rfl
   rotate_left
   ·simp only [Act.put,sA,sO,sS,i64_w,i32_w]
    rfl
   refine pure_ (i:=3) (N:=some 51) (v:=?_) (a':=?_) laws_FnPatchBack.m15 rfl rfl (any_of HT_.out (by kernel_rfl)) (fun _ _ _ h=>h) (Or.inl ⟨by rfl,?_⟩) ?_ ?_
   rotate_left
   ·intro w'
    go_simp
    with_reducible rfl
   rotate_left
   ·simp only [Act.put,sA,sO,sS,i64_w,i32_w]
    rfl
   refine one_ (i:=4) (N:=some 52) laws_FnPatchBack.m16 rfl rfl (one_of HT_.out (by kernel_rfl)) (by decide) (fun K hK=>?_)
   refine goes_ Try.func21 (by kernel_rfl) rfl #[.slice Ao40 t494.length co40,.slice Ao10 t457.length co10] (by rfl) rfl rfl (by (try simp only [mA,mC,mN]);first|done|rfl|(simp only [List.length_drop,List.length_take];rfl)) ?_
   with_reducible refine (laws_same.calls kj6 _ _ t494 _ _ t457 true _ ?side1 ?side2 ?side3 ?side4 A29.out).mono ?_
   (case side1=>repeat (first|exact (Kd.R_reads' HO496.out).2.2|(with_reducible first|apply aC|apply nC|apply dC)))
   (case side2=>exact (Kd.R_reads' HO496.out).2.1)
   (case side3=>repeat (first|exact (Kd.R_reads' HO_4.out).2.2|(with_reducible first|apply aC|apply nC|apply dC)))
   (case side4=>exact (Kd.R_reads' HO_4.out).2.1)
   rintro e w' ⟨rfl,⟨nd,rfl⟩⟩
   refine⟨_,rfl,?_⟩
   refine hK.out _ _ ⟨(blk_cell BK487.out 0).trans rfl,(blk_cell BK487.out 1).trans rfl,(blk_cell BK487.out 2).trans rfl,(blk_cell BK487.out 3).trans rfl,(blk_cell BK487.out 4).trans rfl⟩ (fun hHeld=>?_)
   clear hK K
   refine norm_ (a':=?_) ?_ ?_
   rotate_left
   ·show Act.put _ (some 52) _ = _
    simp only [Act.put,sA,sO,sS,i64_w,i32_w]
    rfl
   refine pure_ (i:=5) (N:=some 53) (v:=?_) (a':=?_) laws_FnPatchBack.m17 rfl rfl (any_of HT_.out (by kernel_rfl)) (fun _ _ _ h=>h) (Or.inl ⟨by rfl,?_⟩) ?_ ?_
   rotate_left
   ·intro w'
    go_simp
    with_reducible rfl
   rotate_left
   ·simp only [Act.put,sA,sO,sS,i64_w,i32_w]
    rfl
   refine pure_ (i:=6) (N:=some 54) (v:=?_) (a':=?_) laws_FnPatchBack.m18 rfl rfl (any_of HT_.out (by kernel_rfl)) (fun _ _ _ h=>h) (Or.inl ⟨by rfl,?_⟩) ?_ ?_
   rotate_left
   ·intro w'
    go_simp
    with_reducible rfl
   rotate_left
   ·simp only [Act.put,sA,sO,sS,i64_w,i32_w]
    rfl
   refine pure_ (i:=7) (N:=some 55) (v:=?_) (a':=?_) laws_FnPatchBack.m19 rfl rfl (any_of HT_.out (by kernel_rfl)) (fun _ _ _ h=>h) (Or.inl ⟨by rfl,?_⟩) ?_ ?_
   rotate_left
   ·intro w'
    go_simp
    with_reducible rfl
   rotate_left
   ·simp only [Act.put,sA,sO,sS,i64_w,i32_w]
    rfl
   refine pure_ (i:=10) (N:=some 58) (v:=?_) (a':=?_) laws_FnPatchBack.m39 rfl rfl (any_of HT_.out (by kernel_rfl)) (fun _ _ _ h=>h) (Or.inl ⟨by rfl,?_⟩) ?_ ?_
   rotate_left
   ·intro w'
    go_simp
    with_reducible rfl
   rotate_left
   ·simp only [Act.put,sA,sO,sS,i64_w,i32_w]
    rfl
   refine pure_ (i:=11) (N:=some 59) (v:=?_) (a':=?_) laws_FnPatchBack.m40 rfl rfl (any_of HT_.out (by kernel_rfl)) (fun _ _ _ h=>h) (Or.inl ⟨by rfl,?_⟩) ?_ ?_
   rotate_left
   ·intro w'
    go_simp
    with_reducible rfl
   rotate_left
   ·simp only [Act.put,sA,sO,sS,i64_w,i32_w]
    rfl
   refine pure_ (i:=12) (N:=some 60) (v:=?_) (a':=?_) laws_FnPatchBack.m41 rfl rfl (any_of HT_.out (by kernel_rfl)) (fun _ _ _ h=>h) (Or.inl ⟨by rfl,?_⟩) ?_ ?_
   rotate_left
   ·intro w'
    go_simp
    with_reducible rfl
   rotate_left
   ·simp only [Act.put,sA,sO,sS,i64_w,i32_w]
    rfl
   refine pure_ (i:=13) (N:=some 61) (v:=?_) (a':=?_) laws_FnPatchBack.m42 rfl rfl (any_of HT_.out (by kernel_rfl)) (fun _ _ _ h=>h) (Or.inl ⟨by rfl,?_⟩) ?_ ?_
   rotate_left
   ·intro w'
    go_simp
    with_reducible rfl
   rotate_left
   ·simp only [Act.put,sA,sO,sS,i64_w,i32_w]
    rfl
   refine take_ (i:=8) (N:=some 56) (v:=?_) (a':=?_) laws_FnPatchBack.m43 rfl rfl (take_ofW HT_.out HW_.out (by kernel_rfl)) (fun _ _ _ h=>h) (Or.inl ⟨by rfl,?_⟩) hHeld ?_ ?_
   rotate_left
   ·rintro w' ⟨s0,s1,s2,s3,s4⟩
    go_simp
    with_reducible rfl
   rotate_left
   ·simp only [Act.put,sA,sO,sS,i64_w,i32_w]
    rfl
   refine pure_ (i:=9) (N:=some 57) (v:=?_) (a':=?_) laws_FnPatchBack.m25 rfl rfl (any_of HT_.out (by kernel_rfl)) (fun _ _ _ h=>h) (Or.inl ⟨by rfl,?_⟩) ?_ ?_
   rotate_left
   ·intro w'
    go_simp
    with_reducible rfl
   rotate_left
   ·simp only [Act.put,sA,sO,sS,i64_w,i32_w]
    rfl
   refine one_ (i:=14) (N:=some 62) laws_FnPatchBack.m26 rfl rfl (one_of HT_.out (by kernel_rfl)) (by decide) (fun K hK=>?_)
   refine goes_ Try.func22 (by kernel_rfl) rfl #[.slice Ao9 t456.length co9,.slice Ao10 t457.length co10] (by rfl) rfl rfl (by (try simp only [mA,mC,mN]);first|done|rfl|(simp only [List.length_drop,List.length_take];rfl)) ?_
   with_reducible refine (spec_CommonLen.calls kj6 _ _ t456 _ _ t457 t499 _ ?side1 ?side2 ?side3 ?side4 A31.out).mono ?_
   (case side1=>repeat (first|exact (Kd.R_reads' HO_3.out).2.2|(with_reducible first|apply aC|apply nC|apply dC)))
   (case side2=>exact (Kd.R_reads' HO_3.out).2.1)
   (case side3=>repeat (first|exact (Kd.R_reads' HO_4.out).2.2|(with_reducible first|apply aC|apply nC|apply dC)))
   (case side4=>exact (Kd.R_reads' HO_4.out).2.1)
   rintro e w41 ⟨rfl,hb⟩
   refine⟨_,rfl,?_⟩
   have n0_:=mk0 (Kd.R_below (by (with_reducible repeat (first|apply aR|apply nR|apply dR));exact HO_3.out) hb)
   have n1_:=mk0 (Kd.R_below (by (with_reducible repeat (first|apply aR|apply nR|apply dR));exact HO_4.out) hb)
   have n2_:=mk0 (Kd.R_below (by (with_reducible repeat (first|apply aR|apply nR|apply dR));exact HO_475001.out) hb)
   have n3_:=mk0 (Kd.R_below (by (with_reducible repeat (first|apply aR|apply nR|apply dR));exact HO_475003.out) hb)
   have n4_:=mk0 (Kd.R_below (by (with_reducible repeat (first|apply aR|apply nR|apply dR));exact HO_475004.out) hb)
   have n5_:=mk0 (Kd.R_below (by (with_reducible repeat (first|apply aR|apply nR|apply dR));exact HO_488001.out) hb)
   have n6_:=mk0 (Kd.R_below (by (with_reducible repeat (first|apply aR|apply nR|apply dR));exact HO_488003.out) hb)
   have n7_:=mk0 (Kd.R_below (by (with_reducible repeat (first|apply aR|apply nR|apply dR));exact HO_488004.out) hb)
   have n8_:=mk0 (Kd.R_below (by (with_reducible repeat (first|apply aR|apply nR|apply dR));exact HO493.out) hb)
   have n9_:=mk0 (Kd.R_below (by (with_reducible repeat (first|apply aR|apply nR|apply dR));exact HO496.out) hb)
   have n10_:=mk0 (blk_below (g:=gb474) (o:=.cells #[.int .i64 t462,.slice Ao14 t463.length co14,.int .i64 t466,.slice Ao15 t467.length co15,.slice Ao16 t470.length co16] 27 (0,0)) (by (with_reducible repeat (first|apply nB|apply dB|apply aB));exact BK474.out) hb)
   have n11_:=mk0 (blk_below (g:=gb487) (o:=.cells #[.int .i64 t475,.slice Ao21 t476.length co21,.int .i64 t479,.slice Ao22 t480.length co22,.slice Ao23 t483.length co23] 27 (0,0)) (by (with_reducible repeat (first|apply nB|apply dB|apply aB));exact BK487.out) hb)
   have n12_:=mk0 (below_step (by repeat (first|(with_reducible first|exact HB.out|apply aZ|apply nZ|apply dZ|refine sZ ?_ GE474.out|refine sZ ?_ GE487.out)|exact HB.out)) hb)
   clear HO_3
   clear HO_4
   clear HO_475001
   clear HO_475003
   clear HO_475004
   clear HO_488001
   clear HO_488003
   clear HO_488004
   clear HO493
   clear HO496
   clear BK474
   clear BK487
   clear HB
   have HO_3:=n0_
   have HO_4:=n1_
   have HO_475001:=n2_
   have HO_475003:=n3_
   have HO_475004:=n4_
   have HO_488001:=n5_
   have HO_488003:=n6_
   have HO_488004:=n7_
   have HO493:=n8_
   have HO496:=n9_
   have BK474:=n10_
   have BK487:=n11_
   have HB:=n12_
   clear n0_ n1_ n2_ n3_ n4_ n5_ n6_ n7_ n8_ n9_ n10_ n11_ n12_
   (try clear hb)
   (try clear hb2)
   (try clear hk)
   (try clear hi)
   refine hK.out _ _ ⟨(blk_cell BK487.out 0).trans rfl,(blk_cell BK487.out 1).trans rfl,(blk_cell BK487.out 2).trans rfl,(blk_cell BK487.out 3).trans rfl,(blk_cell BK487.out 4).trans rfl⟩ (fun hHeld=>?_)
   clear hK K
   refine norm_ (a':=?_) ?_ ?_
   rotate_left
   ·show Act.put _ (some 62) _ = _
    simp only [Act.put,sA,sO,sS,i64_w,i32_w]
    rfl
   refine pure_ (i:=15) (N:=some 63) (v:=?_) (a':=?_) laws_FnPatchBack.m27 rfl rfl (any_of HT_.out (by kernel_rfl)) (fun _ _ _ h=>h) (Or.inl ⟨by rfl,?_⟩) ?_ ?_
   rotate_left
   ·intro w'
    go_simp
    with_reducible rfl
   rotate_left
   ·simp only [Act.put,sA,sO,sS,i64_w,i32_w]
    rfl
   refine pure_ (i:=16) (N:=some 64) (v:=?_) (a':=?_) laws_FnPatchBack.m28 rfl rfl (any_of HT_.out (by kernel_rfl)) (fun _ _ _ h=>h) (Or.inl ⟨by rfl,?_⟩) ?_ ?_
   rotate_left
   ·intro w'
    go_simp
    with_reducible rfl
   rotate_left
   ·simp only [Act.put,sA,sO,sS,i64_w,i32_w]
    rfl
   refine pure_ (i:=17) (N:=some 65) (v:=?_) (a':=?_) laws_FnPatchBack.m29 rfl rfl (any_of HT_.out (by kernel_rfl)) (fun _ _ _ h=>h) (Or.inl ⟨by rfl,?_⟩) ?_ ?_
   rotate_left
   ·intro w'
    go_simp
    with_reducible rfl
   rotate_left
   ·simp only [Act.put,sA,sO,sS,i64_w,i32_w]
    rfl
   refine pure_ (i:=18) (N:=some 66) (v:=?_) (a':=?_) laws_FnPatchBack.m30 rfl rfl (any_of HT_.out (by kernel_rfl)) (fun _ _ _ h=>h) (Or.inl ⟨by rfl,?_⟩) ?_ ?_
   rotate_left
   ·intro w'
    go_simp
    with_reducible rfl
   rotate_left
   ·simp only [Act.put,sA,sO,sS,i64_w,i32_w]
    rfl
   refine pure_ (i:=19) (N:=some 67) (v:=?_) (a':=?_) laws_FnPatchBack.m31 rfl rfl (any_of HT_.out (by kernel_rfl)) (fun _ _ _ h=>h) (Or.inl ⟨by rfl,?_⟩) ?_ ?_
   rotate_left
   ·intro w'
    go_simp
    with_reducible rfl
   rotate_left
   ·simp only [Act.put,sA,sO,sS,i64_w,i32_w]
    rfl
   refine pure_ (i:=20) (N:=some 68) (v:=?_) (a':=?_) laws_FnPatchBack.m32 rfl rfl (any_of HT_.out (by kernel_rfl)) (fun _ _ _ h=>h) (Or.inl ⟨by rfl,?_⟩) ?_ ?_
   rotate_left
   ·intro w'
    go_simp
    with_reducible rfl
   rotate_left
   ·simp only [Act.put,sA,sO,sS,i64_w,i32_w]
    rfl
   refine pure_ (i:=22) (N:=some 70) (v:=?_) (a':=?_) laws_FnPatchBack.m44 rfl rfl (any_of HT_.out (by kernel_rfl)) (fun _ _ _ h=>h) (Or.inl ⟨by rfl,?_⟩) ?_ ?_
   rotate_left
   ·intro w'
    go_simp
    with_reducible rfl
   rotate_left
   ·simp only [Act.put,sA,sO,sS,i64_w,i32_w]
    rfl
   refine pure_ (i:=23) (N:=some 71) (v:=?_) (a':=?_) laws_FnPatchBack.m45 rfl rfl (any_of HT_.out (by kernel_rfl)) (fun _ _ _ h=>h) (Or.inl ⟨by rfl,?_⟩) ?_ ?_
   rotate_left
   ·intro w'
    go_simp
    with_reducible rfl
   rotate_left
   ·simp only [Act.put,sA,sO,sS,i64_w,i32_w]
    rfl
   refine take_ (i:=21) (N:=some 69) (v:=?_) (a':=?_) laws_FnPatchBack.m35 rfl rfl (take_ofW HT_.out HW_.out (by kernel_rfl)) (fun _ _ _ h=>h) (Or.inl ⟨by rfl,?_⟩) hHeld ?_ ?_
   rotate_left
   ·rintro w' ⟨s0,s1,s2,s3,s4⟩
    go_simp
    with_reducible rfl
   rotate_left
   ·simp only [Act.put,sA,sO,sS,i64_w,i32_w]
    rfl
   refine pure_ (i:=24) (N:=some 72) (v:=?_) (a':=?_) laws_FnPatchBack.m36 rfl rfl (any_of HT_.out (by kernel_rfl)) (fun _ _ _ h=>h) (Or.inl ⟨by rfl,?_⟩) ?_ ?_
   rotate_left
   ·intro w'
    go_simp
    with_reducible rfl
   rotate_left
   ·simp only [Act.put,sA,sO,sS,i64_w,i32_w]
    rfl
   refine pure_ (i:=25) (N:=some 73) (v:=?_) (a':=?_) laws_FnPatchBack.m37 rfl rfl (any_of HT_.out (by kernel_rfl)) (fun _ _ _ h=>h) (Or.inl ⟨by rfl,?_⟩) ?_ ?_
   rotate_left
   ·intro w'
    go_simp
    with_reducible rfl
   rotate_left
   ·simp only [Act.put,sA,sO,sS,i64_w,i32_w]
    rfl
   refine pure_ (i:=26) (N:=some 2) (v:=?_) (a':=?_) laws_FnPatchBack.m38 rfl rfl (any_of HT_.out (by kernel_rfl)) (fun _ _ _ h=>h) (Or.inl ⟨by rfl,?_⟩) ?_ ?_
   rotate_left
   ·intro w'
    go_simp
    with_reducible rfl
   rotate_left
   ·simp only [Act.put,sA,sO,sS,i64_w,i32_w]
    rfl
   refine done_ (done_of HT_.out (by kernel_rfl)) ?_
   try go_wp2
   go_ret
   exact⟨by first|rfl|(simp [errW_none,errW_some] <;> rfl)|(simp [*,errW_none,errW_some] <;> rfl),by repeat (first|(with_reducible first|exact HB.out|apply aZ|apply nZ|apply dZ|refine sZ ?_ GE474.out|refine sZ ?_ GE487.out)|exact HB.out)⟩
/-- THE ONE PURE STATEMENT of laws_FnPatchBack: yours. -/
def laws_FnPatchBack.Pure : Prop := ∀ (l0 : List Int), l0.length ≤ maxLen → l0.length * 1 ≤ 140737488351232 → (∀ x ∈ l0, (Lit.int .u8 x).wf = true) → ∃ k, laws_FnPatchBack.f k l0 = some true
theorem laws_FnPatchBack.walk (P : laws_FnPatchBack.Pure) (a0 : Option Addr) (len0 cap0 : Nat) (z0 : List Int) (w : World) (w0 : (a0 = none ∧ len0 = 0 ∧ cap0 = 0 ∧ z0 = []) ∨ ∃ x, a0 = some x ∧ len0 ≤ cap0 ∧ cap0 ≤ maxLen ∧ z0.length = cap0 ∧ (∀ i, i < z0.length → w.cell? (x.add i) = some (.int .u8 (z0.getD i 0))) ∧ ∀ n ∈ z0, (Lit.int .u8 n).wf = true) (y0 : len0 * 1 ≤ 140737488351232) :
    Calls Try.prog 5 #[.slice a0 len0 cap0] w fun e w' => e = .returned (.bool true) ∧ Below w.heap.size w w' := by
  obtain ⟨l0, rfl, hr0, hm0, hw0, hc0⟩ := ReadsInt.ofRowC w0
  obtain ⟨k, h⟩ := P l0 hm0 y0 hw0
  refine (laws_FnPatchBack.calls k _ _ l0 true w (Kd.C_of_reads (d := (0 : Int)) (h1 := fun _ => rfl) hr0) hc0 h).mono ?_
  rintro e w' ⟨rfl, hd⟩
  exact ⟨rfl, hd⟩

end Go.Proofs.Ytdiemmcnekbfaaa.QFnPatchBack
