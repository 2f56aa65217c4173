-- A walk, made by walk.py, a program of this session's.
import Derived.Test.YtpheodpcppclaaaQFnMinsSetx0
import Derived.Test.YtpheodpcppclaaaQFnMinsSetx1
import Derived.Test.YtpheodpcppclaaaQFnMinsSetx5
import Derived.Test.YtpheodpcppclaaaQFnMinsSetx6
namespace Go.Proofs.Ytpheodpcppclaaa.QFnMinsSet
open Go.RowKit Go.Proofs.YtpheodpcppclaaaW.PrintWords Go.Proofs.YtpheodpcppclaaaW.PrintLast Go.Proofs.YtpheodpcppclaaaW.PrintMore
attribute [local go_sem] max2_int min2_int max_two min_two max_three min_three max_four min_four   -- for this text's walks alone
set_option linter.unusedVariables false
set_option linter.unusedSimpArgs false

/-! ### spec_l01Cur_mins: function 50 -/
def spec_l01Cur_mins.f (k : Nat) (s0_0 : List Int) (s0_1 : Int) (s0_2 : Int) : Option (Int × List Int × Int × Int) := (some (([3, 30, 1000] : List Int) : List Int)).bind fun y286 => ((spec_l01Cur_pick.f s0_0 s0_1 s0_2 3).bind fun bt289 => (if 0 ≤ bt289.1 then (if bt289.1 < (y286.length : Int) then ((spec_l01Cur_numbers.f k s0_0 bt289.2.1 bt289.2.2 20 (rd y286 bt289.1)).bind fun bt293 => ((spec_MinsOf.f k bt293.1).bind fun bt298 => ((spec_l01Cur_pick.f s0_0 bt293.2.1 bt293.2.2 12).bind fun bt304 => (if bt304.1 = 0 then ((spec_l01Cur_raw.f s0_0 bt304.2.1 bt304.2.2).bind fun bt307 => ((some (([bt307.1, wrap64 (bt298.1 + 1), wrap64 (bt298.1 - 1)] : List Int) : List Int)).bind fun y310 => ((spec_l01Cur_pick.f s0_0 bt307.2.1 bt307.2.2 3).bind fun bt313 => (if 0 ≤ bt313.1 then (if bt313.1 < (y310.length : Int) then (some (rd y310 bt313.1, bt298.2.1, bt313.2.1, bt313.2.2)) else (none)) else (none))))) else (if bt304.1 = 1 then ((spec_l01Cur_pick.f s0_0 bt304.2.1 bt304.2.2 (bt298.2.1.length : Int)).bind fun bt317 => ((spec_l01Cur_pick.f s0_0 bt317.2.1 bt317.2.2 9).bind fun bt320 => ((spec_l01Cur_raw.f s0_0 bt320.2.1 bt320.2.2).bind fun bt323 => ((some (([bt320.1, bt323.1, 1000000000] : List Int) : List Int)).bind fun y326 => ((spec_l01Cur_pick.f s0_0 bt323.2.1 bt323.2.2 3).bind fun bt329 => (if 0 ≤ bt329.1 then (if bt329.1 < (y326.length : Int) then (if 0 ≤ bt317.1 then (if bt317.1 < (bt298.2.1.length : Int) then (some (bt298.1, (bt298.2.1.set (bt317.1 : Int).toNat (rd y326 bt329.1)), bt329.2.1, bt329.2.2)) else (none)) else (none)) else (none)) else (none))))))) else (if bt304.1 = 2 then (if bt298.2.1.length < 17592186044416 then (some (bt298.1, (bt298.2.1 ++ [0]), bt304.2.1, bt304.2.2)) else (none)) else (some (bt298.1, bt298.2.1, bt304.2.1, bt304.2.2)))))))) else (none)) else (none)))
theorem spec_l01Cur_mins.mono : ∀ a0 a1 a2 k, LeO (spec_l01Cur_mins.f k a0 a1 a2) (spec_l01Cur_mins.f (k + 1) a0 a1 a2) := by
 intro a0 a1 a2 k
 unfold spec_l01Cur_mins.f
 repeat' first|(with_reducible first|exact spec_MinsOf.mono _ _|exact spec_l01Cur_numbers.mono _ _ _ _ _ _|exact LeO.refl _|exact LeO.none _|refine LeO.ite ?_ ?_|refine LeO.bind ?_ (fun _ => ?_))|exact LeO.none _|refine LeO.ite ?_ ?_|refine LeO.bind ?_ (fun _ => ?_)
def spec_l01Cur_mins.T4 : Bool × List (List Nat × List Nat) := (true, [([], []), ([0], [0]), ([], []), ([2], [2]), ([3], [3]), ([], []), ([5], [5]), ([6], [6]), ([1, 4, 7], [1, 4, 7]), ([], []), ([9, 1], [9]), ([8, 10], [8, 10]), ([11], [11]), ([0, 1, 2, 3, 4, 5, 6, 7, 8, 9, 10, 11, 12], []), ([13, 12, 10, 0, 1, 2, 3, 4, 5, 6, 7, 8, 9, 10, 11, 12], [12, 13])])
def spec_l01Cur_mins.B4 : List Nat := [0, 1, 0, 4, 12, 0, 32, 96, 255, 0, 515, 2047, 4095, 8191, 16383]
theorem spec_l01Cur_mins.tab4 : rtab .any (opsOf Try.f50 4) = spec_l01Cur_mins.T4 := by kernel_rfl
theorem spec_l01Cur_mins.bits4 : waitsOk spec_l01Cur_mins.T4.2 spec_l01Cur_mins.B4 = true := by kernel_rfl
def spec_l01Cur_mins.T6 : Bool × List (List Nat × List Nat) := (true, [([], []), ([0], [0]), ([], []), ([], []), ([3], [3]), ([4], [4]), ([2, 5], [2, 5]), ([], []), ([7, 6], [7]), ([], []), ([9, 8], [9]), ([8, 10], [8, 10]), ([], []), ([12, 10], [12]), ([11, 13], [11, 13]), ([14], [14]), ([1, 6, 0, 1, 2, 3, 4, 5, 6, 7, 8, 9, 10, 11, 12, 13, 14, 15], [1, 6]), ([16, 15, 13, 0, 1, 2, 3, 4, 5, 6, 7, 8, 9, 10, 11, 12, 13, 14, 15], [15, 16])])
def spec_l01Cur_mins.B6 : List Nat := [0, 1, 0, 0, 8, 24, 60, 0, 252, 0, 1020, 2044, 0, 6140, 16380, 32764, 65535, 131071]
theorem spec_l01Cur_mins.tab6 : rtab .any (opsOf Try.f50 6) = spec_l01Cur_mins.T6 := by kernel_rfl
theorem spec_l01Cur_mins.bits6 : waitsOk spec_l01Cur_mins.T6.2 spec_l01Cur_mins.B6 = true := by kernel_rfl
abbrev spec_l01Cur_mins.m0 : Array Bool := #[F,F,F,F,F,F,F,F,F,F,F,F,F,F,F]
abbrev spec_l01Cur_mins.m1 : Array Bool := #[T,F,F,F,F,F,F,F,F,F,F,F,F,F,F]
abbrev spec_l01Cur_mins.m2 : Array Bool := #[T,F,T,F,F,F,F,F,F,F,F,F,F,F,F]
abbrev spec_l01Cur_mins.m3 : Array Bool := #[T,F,T,F,F,T,F,F,F,F,F,F,F,F,F]
abbrev spec_l01Cur_mins.m4 : Array Bool := #[T,F,T,F,F,T,F,F,F,T,F,F,F,F,F]
abbrev spec_l01Cur_mins.m5 : Array Bool := #[T,F,T,T,F,T,F,F,F,T,F,F,F,F,F]
abbrev spec_l01Cur_mins.m6 : Array Bool := #[T,F,T,T,T,T,F,F,F,T,F,F,F,F,F]
abbrev spec_l01Cur_mins.m7 : Array Bool := #[T,F,T,T,T,T,T,F,F,T,F,F,F,F,F]
abbrev spec_l01Cur_mins.m8 : Array Bool := #[T,F,T,T,T,T,T,T,F,T,F,F,F,F,F]
abbrev spec_l01Cur_mins.m9 : Array Bool := #[T,T,T,T,T,T,T,T,F,T,F,F,F,F,F]
abbrev spec_l01Cur_mins.m10 : Array Bool := #[T,T,T,T,T,T,T,T,T,T,T,F,F,F,F]
abbrev spec_l01Cur_mins.m11 : Array Bool := #[T,T,T,T,T,T,T,T,T,T,F,F,F,F,F]
abbrev spec_l01Cur_mins.m12 : Array Bool := #[T,T,T,T,T,T,T,T,F,T,T,F,F,F,F]
abbrev spec_l01Cur_mins.m13 : Array Bool := #[T,T,T,T,T,T,T,T,T,T,T,T,F,F,F]
abbrev spec_l01Cur_mins.m14 : Array Bool := #[T,T,T,T,T,T,T,T,T,T,T,T,T,F,F]
abbrev spec_l01Cur_mins.m15 : Array Bool := #[T,T,T,T,T,T,T,T,T,T,T,T,T,T,F]
abbrev spec_l01Cur_mins.m16 : Array Bool := #[T,T,T,T,T,T,T,T,T,T,T,T,T,T,T]
abbrev spec_l01Cur_mins.m17 : Array Bool := #[F,F,F,F,F,F,F,F,F,F,F,F,F,F,F,F,F,F]
abbrev spec_l01Cur_mins.m18 : Array Bool := #[T,F,F,F,F,F,F,F,F,F,F,F,F,F,F,F,F,F]
abbrev spec_l01Cur_mins.m19 : Array Bool := #[T,F,T,F,F,F,F,F,F,F,F,F,F,F,F,F,F,F]
abbrev spec_l01Cur_mins.m20 : Array Bool := #[T,F,T,T,F,F,F,F,F,F,F,F,F,F,F,F,F,F]
abbrev spec_l01Cur_mins.m21 : Array Bool := #[T,F,T,T,F,F,F,T,F,F,F,F,F,F,F,F,F,F]
abbrev spec_l01Cur_mins.m22 : Array Bool := #[T,F,T,T,F,F,F,T,F,T,F,F,F,F,F,F,F,F]
abbrev spec_l01Cur_mins.m23 : Array Bool := #[T,F,T,T,F,F,F,T,F,T,F,F,T,F,F,F,F,F]
abbrev spec_l01Cur_mins.m24 : Array Bool := #[T,T,T,T,F,F,F,T,F,T,F,F,T,F,F,F,F,F]
abbrev spec_l01Cur_mins.m25 : Array Bool := #[T,T,T,T,T,F,F,T,F,T,F,F,T,F,F,F,F,F]
abbrev spec_l01Cur_mins.m26 : Array Bool := #[T,T,T,T,T,T,F,T,F,T,F,F,T,F,F,F,F,F]
abbrev spec_l01Cur_mins.m27 : Array Bool := #[T,T,T,T,T,T,T,T,F,T,F,F,T,F,F,F,F,F]
abbrev spec_l01Cur_mins.m28 : Array Bool := #[T,T,T,T,T,T,T,T,T,T,F,F,T,F,F,F,F,F]
abbrev spec_l01Cur_mins.m29 : Array Bool := #[T,T,T,T,T,T,T,T,T,T,T,F,T,F,F,F,F,F]
abbrev spec_l01Cur_mins.m30 : Array Bool := #[T,T,T,T,T,T,T,T,T,T,T,T,T,T,F,F,F,F]
abbrev spec_l01Cur_mins.m31 : Array Bool := #[T,T,T,T,T,T,T,T,T,T,T,T,T,F,F,F,F,F]
abbrev spec_l01Cur_mins.m32 : Array Bool := #[T,T,T,T,T,T,T,T,T,T,T,F,T,T,F,F,F,F]
abbrev spec_l01Cur_mins.m33 : Array Bool := #[T,T,T,T,T,T,T,T,T,T,T,T,T,T,T,F,F,F]
abbrev spec_l01Cur_mins.m34 : Array Bool := #[T,T,T,T,T,T,T,T,T,T,T,T,T,T,T,T,F,F]
abbrev spec_l01Cur_mins.m35 : Array Bool := #[T,T,T,T,T,T,T,T,T,T,T,T,T,T,T,T,T,F]
abbrev spec_l01Cur_mins.m36 : Array Bool := #[T,T,T,T,T,T,T,T,T,T,T,T,T,T,T,T,T,T]
set_option maxHeartbeats 8000000 in
set_option maxRecDepth 100000 in
theorem spec_l01Cur_mins.calls (k : Nat) (g : Nat) (s0_0 : List Int) (s0_1 : Int) (s0_2 : Int) (r1 : Int) (r2 : List Int) (r3 : Int) (r4 : Int) (w0 w : World) (hI : IsS62 w0 w g s0_0 s0_1 s0_2) (hB : Below w0.heap.size w0 w) (h : spec_l01Cur_mins.f k s0_0 s0_1 s0_2 = some (r1, r2, r3, r4)) :
  Calls Try.prog 50 #[.pointer (some ⟨g, 0, none⟩)] w fun e w' => ∃ v1_ : Value, e = .returned (.agg #[.int .i64 r1, v1_]) ∧ Kd.R (Kd.int .i64) 3 w' w.heap.size (fun _ => True) v1_ r2 ∧ IsS62 w0 w' g s0_0 r3 r4 ∧ Below w0.heap.size w0 w' ∧ KeepBut w w' g none := by
 have hu24:=Try.underlying24
 have HI0:=mk0 hI
 have HK:=mk0 (KeepBut.refl w g none)
 have HL:=mk0 hB.size
 clear hI
 have HW0:=mk0 hB.size
 have HB:=mk0 hB
 clear hB
 have H:((some (([3,30,1000]:List Int):List Int)).bind fun y286=>((spec_l01Cur_pick.f s0_0 s0_1 s0_2 3).bind fun bt289=>(if 0 ≤ bt289.1 then (if bt289.1 < (y286.length:Int) then ((spec_l01Cur_numbers.f k s0_0 bt289.2.1 bt289.2.2 20 (rd y286 bt289.1)).bind fun bt293=>((spec_MinsOf.f k bt293.1).bind fun bt298=>((spec_l01Cur_pick.f s0_0 bt293.2.1 bt293.2.2 12).bind fun bt304=>(if bt304.1 = 0 then ((spec_l01Cur_raw.f s0_0 bt304.2.1 bt304.2.2).bind fun bt307=>((some (([bt307.1,wrap64 (bt298.1 + 1),wrap64 (bt298.1 - 1)]:List Int):List Int)).bind fun y310=>((spec_l01Cur_pick.f s0_0 bt307.2.1 bt307.2.2 3).bind fun bt313=>(if 0 ≤ bt313.1 then (if bt313.1 < (y310.length:Int) then (some (rd y310 bt313.1,bt298.2.1,bt313.2.1,bt313.2.2)) else (none)) else (none))))) else (if bt304.1 = 1 then ((spec_l01Cur_pick.f s0_0 bt304.2.1 bt304.2.2 (bt298.2.1.length:Int)).bind fun bt317=>((spec_l01Cur_pick.f s0_0 bt317.2.1 bt317.2.2 9).bind fun bt320=>((spec_l01Cur_raw.f s0_0 bt320.2.1 bt320.2.2).bind fun bt323=>((some (([bt320.1,bt323.1,1000000000]:List Int):List Int)).bind fun y326=>((spec_l01Cur_pick.f s0_0 bt323.2.1 bt323.2.2 3).bind fun bt329=>(if 0 ≤ bt329.1 then (if bt329.1 < (y326.length:Int) then (if 0 ≤ bt317.1 then (if bt317.1 < (bt298.2.1.length:Int) then (some (bt298.1,(bt298.2.1.set (bt317.1:Int).toNat (rd y326 bt329.1)),bt329.2.1,bt329.2.2)) else (none)) else (none)) else (none)) else (none))))))) else (if bt304.1 = 2 then (if bt298.2.1.length < 17592186044416 then (some (bt298.1,(bt298.2.1 ++ [0]),bt304.2.1,bt304.2.2)) else (none)) else (some (bt298.1,bt298.2.1,bt304.2.1,bt304.2.2)))))))) else (none)) else (none)))) = some (r1,r2,r3,r4):=h
 clear h
 obtain⟨y286,hy286⟩:∃ y_:List Int,y_ = (([3,30,1000]:List Int)):=⟨_,rfl⟩
 replace H:((spec_l01Cur_pick.f s0_0 s0_1 s0_2 3).bind fun bt289=>(if 0 ≤ bt289.1 then (if bt289.1 < (y286.length:Int) then ((spec_l01Cur_numbers.f k s0_0 bt289.2.1 bt289.2.2 20 (rd y286 bt289.1)).bind fun bt293=>((spec_MinsOf.f k bt293.1).bind fun bt298=>((spec_l01Cur_pick.f s0_0 bt293.2.1 bt293.2.2 12).bind fun bt304=>(if bt304.1 = 0 then ((spec_l01Cur_raw.f s0_0 bt304.2.1 bt304.2.2).bind fun bt307=>((some (([bt307.1,wrap64 (bt298.1 + 1),wrap64 (bt298.1 - 1)]:List Int):List Int)).bind fun y310=>((spec_l01Cur_pick.f s0_0 bt307.2.1 bt307.2.2 3).bind fun bt313=>(if 0 ≤ bt313.1 then (if bt313.1 < (y310.length:Int) then (some (rd y310 bt313.1,bt298.2.1,bt313.2.1,bt313.2.2)) else (none)) else (none))))) else (if bt304.1 = 1 then ((spec_l01Cur_pick.f s0_0 bt304.2.1 bt304.2.2 (bt298.2.1.length:Int)).bind fun bt317=>((spec_l01Cur_pick.f s0_0 bt317.2.1 bt317.2.2 9).bind fun bt320=>((spec_l01Cur_raw.f s0_0 bt320.2.1 bt320.2.2).bind fun bt323=>((some (([bt320.1,bt323.1,1000000000]:List Int):List Int)).bind fun y326=>((spec_l01Cur_pick.f s0_0 bt323.2.1 bt323.2.2 3).bind fun bt329=>(if 0 ≤ bt329.1 then (if bt329.1 < (y326.length:Int) then (if 0 ≤ bt317.1 then (if bt317.1 < (bt298.2.1.length:Int) then (some (bt298.1,(bt298.2.1.set (bt317.1:Int).toNat (rd y326 bt329.1)),bt329.2.1,bt329.2.2)) else (none)) else (none)) else (none)) else (none))))))) else (if bt304.1 = 2 then (if bt298.2.1.length < 17592186044416 then (some (bt298.1,(bt298.2.1 ++ [0]),bt304.2.1,bt304.2.2)) else (none)) else (some (bt298.1,bt298.2.1,bt304.2.1,bt304.2.2)))))))) else (none)) else (none))) = some (r1,r2,r3,r4):=by first|(rw [hy286];with_reducible exact H)|(have H2_:=(Option.bind_some _ _).symm.trans H;rw [hy286];with_reducible exact H2_)|(have H2_:=(Option.bind_some _ _).symm.trans H;with_reducible exact H2_)|with_reducible exact H|(rw [hy286];exact H)|exact H
 have Ny286:=mk0 hy286
 clear hy286
 replace H:=Option.bind_eq_some_iff.mp H
 obtain⟨⟨t289,t290,t291⟩,A20,H⟩:=H
 replace H:(if 0 ≤ t289 then (if t289 < (y286.length:Int) then ((spec_l01Cur_numbers.f k s0_0 t290 t291 20 (rd y286 t289)).bind fun bt293=>((spec_MinsOf.f k bt293.1).bind fun bt298=>((spec_l01Cur_pick.f s0_0 bt293.2.1 bt293.2.2 12).bind fun bt304=>(if bt304.1 = 0 then ((spec_l01Cur_raw.f s0_0 bt304.2.1 bt304.2.2).bind fun bt307=>((some (([bt307.1,wrap64 (bt298.1 + 1),wrap64 (bt298.1 - 1)]:List Int):List Int)).bind fun y310=>((spec_l01Cur_pick.f s0_0 bt307.2.1 bt307.2.2 3).bind fun bt313=>(if 0 ≤ bt313.1 then (if bt313.1 < (y310.length:Int) then (some (rd y310 bt313.1,bt298.2.1,bt313.2.1,bt313.2.2)) else (none)) else (none))))) else (if bt304.1 = 1 then ((spec_l01Cur_pick.f s0_0 bt304.2.1 bt304.2.2 (bt298.2.1.length:Int)).bind fun bt317=>((spec_l01Cur_pick.f s0_0 bt317.2.1 bt317.2.2 9).bind fun bt320=>((spec_l01Cur_raw.f s0_0 bt320.2.1 bt320.2.2).bind fun bt323=>((some (([bt320.1,bt323.1,1000000000]:List Int):List Int)).bind fun y326=>((spec_l01Cur_pick.f s0_0 bt323.2.1 bt323.2.2 3).bind fun bt329=>(if 0 ≤ bt329.1 then (if bt329.1 < (y326.length:Int) then (if 0 ≤ bt317.1 then (if bt317.1 < (bt298.2.1.length:Int) then (some (bt298.1,(bt298.2.1.set (bt317.1:Int).toNat (rd y326 bt329.1)),bt329.2.1,bt329.2.2)) else (none)) else (none)) else (none)) else (none))))))) else (if bt304.1 = 2 then (if bt298.2.1.length < 17592186044416 then (some (bt298.1,(bt298.2.1 ++ [0]),bt304.2.1,bt304.2.2)) else (none)) else (some (bt298.1,bt298.2.1,bt304.2.1,bt304.2.2)))))))) else (none)) else (none)) = some (r1,r2,r3,r4):=H
 have A2:=mk0 A20
 clear A20
 by_cases c3:0 ≤ t289
 rotate_left
 ·rw [if_neg c3] at H
  exact absurd H (by simp)

 rw [if_pos c3] at H
 have c3b0:decide (0 ≤ t289) = true:=decide_eq_true c3
 clear c3
 by_cases c4:t289 < (y286.length:Int)
 rotate_left
 ·rw [if_neg c4] at H
  exact absurd H (by simp)
 rw [if_pos c4] at H
 have c4b0:decide (t289 < (y286.length:Int)) = true:=decide_eq_true c4
 clear c4
 replace H:=Option.bind_eq_some_iff.mp H
 obtain⟨⟨t293,t296,t297⟩,A50,H⟩:=H
 replace H:((spec_MinsOf.f k t293).bind fun bt298=>((spec_l01Cur_pick.f s0_0 t296 t297 12).bind fun bt304=>(if bt304.1 = 0 then ((spec_l01Cur_raw.f s0_0 bt304.2.1 bt304.2.2).bind fun bt307=>((some (([bt307.1,wrap64 (bt298.1 + 1),wrap64 (bt298.1 - 1)]:List Int):List Int)).bind fun y310=>((spec_l01Cur_pick.f s0_0 bt307.2.1 bt307.2.2 3).bind fun bt313=>(if 0 ≤ bt313.1 then (if bt313.1 < (y310.length:Int) then (some (rd y310 bt313.1,bt298.2.1,bt313.2.1,bt313.2.2)) else (none)) else (none))))) else (if bt304.1 = 1 then ((spec_l01Cur_pick.f s0_0 bt304.2.1 bt304.2.2 (bt298.2.1.length:Int)).bind fun bt317=>((spec_l01Cur_pick.f s0_0 bt317.2.1 bt317.2.2 9).bind fun bt320=>((spec_l01Cur_raw.f s0_0 bt320.2.1 bt320.2.2).bind fun bt323=>((some (([bt320.1,bt323.1,1000000000]:List Int):List Int)).bind fun y326=>((spec_l01Cur_pick.f s0_0 bt323.2.1 bt323.2.2 3).bind fun bt329=>(if 0 ≤ bt329.1 then (if bt329.1 < (y326.length:Int) then (if 0 ≤ bt317.1 then (if bt317.1 < (bt298.2.1.length:Int) then (some (bt298.1,(bt298.2.1.set (bt317.1:Int).toNat (rd y326 bt329.1)),bt329.2.1,bt329.2.2)) else (none)) else (none)) else (none)) else (none))))))) else (if bt304.1 = 2 then (if bt298.2.1.length < 17592186044416 then (some (bt298.1,(bt298.2.1 ++ [0]),bt304.2.1,bt304.2.2)) else (none)) else (some (bt298.1,bt298.2.1,bt304.2.1,bt304.2.2))))))) = some (r1,r2,r3,r4):=H
 have A5:=mk0 A50
 clear A50
 replace H:=Option.bind_eq_some_iff.mp H
 obtain⟨⟨t298,t299,t302⟩,A60,H⟩:=H
 replace H:((spec_l01Cur_pick.f s0_0 t296 t297 12).bind fun bt304=>(if bt304.1 = 0 then ((spec_l01Cur_raw.f s0_0 bt304.2.1 bt304.2.2).bind fun bt307=>((some (([bt307.1,wrap64 (t298 + 1),wrap64 (t298 - 1)]:List Int):List Int)).bind fun y310=>((spec_l01Cur_pick.f s0_0 bt307.2.1 bt307.2.2 3).bind fun bt313=>(if 0 ≤ bt313.1 then (if bt313.1 < (y310.length:Int) then (some (rd y310 bt313.1,t299,bt313.2.1,bt313.2.2)) else (none)) else (none))))) else (if bt304.1 = 1 then ((spec_l01Cur_pick.f s0_0 bt304.2.1 bt304.2.2 (t299.length:Int)).bind fun bt317=>((spec_l01Cur_pick.f s0_0 bt317.2.1 bt317.2.2 9).bind fun bt320=>((spec_l01Cur_raw.f s0_0 bt320.2.1 bt320.2.2).bind fun bt323=>((some (([bt320.1,bt323.1,1000000000]:List Int):List Int)).bind fun y326=>((spec_l01Cur_pick.f s0_0 bt323.2.1 bt323.2.2 3).bind fun bt329=>(if 0 ≤ bt329.1 then (if bt329.1 < (y326.length:Int) then (if 0 ≤ bt317.1 then (if bt317.1 < (t299.length:Int) then (some (t298,(t299.set (bt317.1:Int).toNat (rd y326 bt329.1)),bt329.2.1,bt329.2.2)) else (none)) else (none)) else (none)) else (none))))))) else (if bt304.1 = 2 then (if t299.length < 17592186044416 then (some (t298,(t299 ++ [0]),bt304.2.1,bt304.2.2)) else (none)) else (some (t298,t299,bt304.2.1,bt304.2.2)))))) = some (r1,r2,r3,r4):=H
 have A6:=mk0 A60
 clear A60
 replace H:=Option.bind_eq_some_iff.mp H
 obtain⟨⟨t304,t305,t306⟩,A70,H⟩:=H
 replace H:(if t304 = 0 then ((spec_l01Cur_raw.f s0_0 t305 t306).bind fun bt307=>((some (([bt307.1,wrap64 (t298 + 1),wrap64 (t298 - 1)]:List Int):List Int)).bind fun y310=>((spec_l01Cur_pick.f s0_0 bt307.2.1 bt307.2.2 3).bind fun bt313=>(if 0 ≤ bt313.1 then (if bt313.1 < (y310.length:Int) then (some (rd y310 bt313.1,t299,bt313.2.1,bt313.2.2)) else (none)) else (none))))) else (if t304 = 1 then ((spec_l01Cur_pick.f s0_0 t305 t306 (t299.length:Int)).bind fun bt317=>((spec_l01Cur_pick.f s0_0 bt317.2.1 bt317.2.2 9).bind fun bt320=>((spec_l01Cur_raw.f s0_0 bt320.2.1 bt320.2.2).bind fun bt323=>((some (([bt320.1,bt323.1,1000000000]:List Int):List Int)).bind fun y326=>((spec_l01Cur_pick.f s0_0 bt323.2.1 bt323.2.2 3).bind fun bt329=>(if 0 ≤ bt329.1 then (if bt329.1 < (y326.length:Int) then (if 0 ≤ bt317.1 then (if bt317.1 < (t299.length:Int) then (some (t298,(t299.set (bt317.1:Int).toNat (rd y326 bt329.1)),bt329.2.1,bt329.2.2)) else (none)) else (none)) else (none)) else (none))))))) else (if t304 = 2 then (if t299.length < 17592186044416 then (some (t298,(t299 ++ [0]),t305,t306)) else (none)) else (some (t298,t299,t305,t306))))) = some (r1,r2,r3,r4):=H
 have A7:=mk0 A70
 clear A70
 by_cases c8:t304 = 0
 ·rw [if_pos c8] at H
  have c8b0:(t304 == 0) = true:=beq_iff_eq.mpr c8
  have c8b1:(t304 != 0) = false:=bne_eq_false_iff_eq.mpr c8
  clear c8
  replace H:=Option.bind_eq_some_iff.mp H
  obtain⟨⟨t307,t308,t309⟩,A90,H⟩:=H
  replace H:((some (([t307,wrap64 (t298 + 1),wrap64 (t298 - 1)]:List Int):List Int)).bind fun y310=>((spec_l01Cur_pick.f s0_0 t308 t309 3).bind fun bt313=>(if 0 ≤ bt313.1 then (if bt313.1 < (y310.length:Int) then (some (rd y310 bt313.1,t299,bt313.2.1,bt313.2.2)) else (none)) else (none)))) = some (r1,r2,r3,r4):=H
  have A9:=mk0 A90
  clear A90
  obtain⟨y310,hy310⟩:∃ y_:List Int,y_ = (([t307,wrap64 (t298 + 1),wrap64 (t298 - 1)]:List Int)):=⟨_,rfl⟩
  replace H:((spec_l01Cur_pick.f s0_0 t308 t309 3).bind fun bt313=>(if 0 ≤ bt313.1 then (if bt313.1 < (y310.length:Int) then (some (rd y310 bt313.1,t299,bt313.2.1,bt313.2.2)) else (none)) else (none))) = some (r1,r2,r3,r4):=by first|(rw [hy310];with_reducible exact H)|(have H2_:=(Option.bind_some _ _).symm.trans H;rw [hy310];with_reducible exact H2_)|(have H2_:=(Option.bind_some _ _).symm.trans H;with_reducible exact H2_)|with_reducible exact H|(rw [hy310];exact H)|exact H
  have Ny310:=mk0 hy310
  clear hy310
  replace H:=Option.bind_eq_some_iff.mp H
  obtain⟨⟨t313,t314,t315⟩,A100,H⟩:=H
  replace H:(if 0 ≤ t313 then (if t313 < (y310.length:Int) then (some (rd y310 t313,t299,t314,t315)) else (none)) else (none)) = some (r1,r2,r3,r4):=H
  have A10:=mk0 A100
  clear A100
  by_cases c11:0 ≤ t313
  rotate_left
  ·rw [if_neg c11] at H
   exact absurd H (by simp)
  rw [if_pos c11] at H
  have c11b0:decide (0 ≤ t313) = true:=decide_eq_true c11
  clear c11
  by_cases c12:t313 < (y310.length:Int)
  rotate_left
  ·rw [if_neg c12] at H
   exact absurd H (by simp)
  rw [if_pos c12] at H
  have c12b0:decide (t313 < (y310.length:Int)) = true:=decide_eq_true c12
  clear c12
  simp only [Option.some.injEq,Prod.mk.injEq] at H
  obtain⟨rfl,rfl,rfl,rfl⟩:=H
  go_enter Try.func50,Try.ntmps50
  try go_wp2_with (first|((with_reducible refine gate_dst (N:=2) rfl ?_);refine box_event ?hg (N:=2) ?hd (cs:=#[.int .i64 0,.slice none 0 0]) (t:=24) ?hr ?_;(case hd=>rfl);(case hg=>rfl);(case hr=>first|(go_simp;done)|(go_simp;rfl));intro gb285 hg w13 hbox hb;have n0_:=mk0 (IsS62.below (by repeat (first|(with_reducible first|exact HI0.out|apply IsS62.alloc|apply IsS62.drewN|apply IsS62.drew|apply IsS62.set_1|apply IsS62.set_2)|exact HI0.out)) hb);have n1_:=mk0 (KeepBut.trans (by repeat (first|(with_reducible first|exact HK.out|apply KeepBut.set_|apply keep_drewN|apply keep_drew|apply keep_alloc)|exact HK.out)) (KeepBut.of_below hb g none) (.inl rfl));have n2_:=mk0 (below_step (by repeat (first|(with_reducible first|exact HB.out|apply aZ|apply nZ|apply dZ|refine sZ ?_ (IsS62.ge HI0.out))|exact HB.out)) hb);have n3_:=mk0 (hbox);have n4_:=mk0 ((by rw [hg];exact (keep_size (w:=w) (g:=g) (row:=none) (by repeat (first|(with_reducible first|exact HK.out|apply KeepBut.set_|apply keep_drewN|apply keep_drew|apply keep_alloc)|exact HK.out))):w.heap.size ≤ gb285));have n5_:=mk0 ((Nat.le_trans HW0.out (by rw [hg];exact (keep_size (w:=w) (g:=g) (row:=none) (by repeat (first|(with_reducible first|exact HK.out|apply KeepBut.set_|apply keep_drewN|apply keep_drew|apply keep_alloc)|exact HK.out))):w.heap.size ≤ gb285):w0.heap.size ≤ gb285));have n6_:=mk0 ((by rw [hg];exact Nat.ne_of_lt (IsS62.lt (show IsS62 w0 _ g s0_0 s0_1 s0_2 from by repeat (first|(with_reducible first|exact HI0.out|apply IsS62.alloc|apply IsS62.drewN|apply IsS62.drew|apply IsS62.set_1|apply IsS62.set_2)|exact HI0.out))):g ≠ gb285));have n7_:=mk0 ((by rw [hg];exact Nat.ne_of_gt (IsS62.lt (show IsS62 w0 _ g s0_0 s0_1 s0_2 from by repeat (first|(with_reducible first|exact HI0.out|apply IsS62.alloc|apply IsS62.drewN|apply IsS62.drew|apply IsS62.set_1|apply IsS62.set_2)|exact HI0.out))):gb285 ≠ g));clear HI0 HK HB;have HI0:=n0_;have HK:=n1_;have HB:=n2_;have BK285:=n3_;have GW285:=n4_;have GE285:=n5_;have NB0_285:=n6_;have NB285_0:=n7_;clear n0_ n1_ n2_ n3_ n4_ n5_ n6_ n7_ hb hbox hg)|((with_reducible refine gate_dst (N:=7) rfl ?_);refine Kd.R_lit (Kd.int .i64) _ 3 ?hg (N:=7) ?hd (xs:=([3,30,1000]:List Int)) (inner:=[.int .i64 3,.int .i64 30,.int .i64 1000]) (ok:=fun _=>True) (okp:=fun _=>True) ?hr ?hp (fun _ hk=>hk) trivial (Below.refl _ _) (Nat.le_refl _) (by simp) ?_;(case hd=>rfl);(case hg=>rfl);(case hr=>first|(go_simp;done)|(go_simp;rfl));(case hp=>exact (Reps.one (show Kd.M (Kd.int .i64) _ _ _ 3 [.int .i64 3] from rfl) (Reps.one (show Kd.M (Kd.int .i64) _ _ _ 30 [.int .i64 30] from rfl) (Reps.one (show Kd.M (Kd.int .i64) _ _ _ 1000 [.int .i64 1000] from rfl) (Reps.none _ _)))));intro v287 w14 ho15 hb hg_ hnew_;clear hg_ hnew_;(first|rw [← Ny286.out] at ho15|(simp only [Int.reduceToNat] at ho15;rw [← Ny286.out] at ho15));have n0_:=mk0 (Kd.R_lower ho15 (keep_size (w:=w) (g:=g) (row:=none) (by repeat (first|(with_reducible first|exact HK.out|apply KeepBut.set_|apply keep_drewN|apply keep_drew|apply keep_alloc|refine keep_far ?_ GW285.out _)|exact HK.out))));have n1_:=mk0 (IsS62.below (by repeat (first|(with_reducible first|exact HI0.out|apply IsS62.alloc|apply IsS62.drewN|apply IsS62.drew|apply IsS62.set_1|apply IsS62.set_2|refine IsS62.far ?_ NB0_285.out _)|exact HI0.out)) hb);have n2_:=mk0 (blk_below (g:=gb285) (o:=.cells #[.int .i64 0,.slice none 0 0] 24 (0,0)) (by (with_reducible repeat (first|apply nB|apply dB|apply aB));exact BK285.out) hb);have n3_:=mk0 (KeepBut.trans (by repeat (first|(with_reducible first|exact HK.out|apply KeepBut.set_|apply keep_drewN|apply keep_drew|apply keep_alloc|refine keep_far ?_ GW285.out _)|exact HK.out)) (KeepBut.of_below hb g none) (.inl rfl));have n4_:=mk0 (below_step (by repeat (first|(with_reducible first|exact HB.out|apply aZ|apply nZ|apply dZ|refine sZ ?_ (IsS62.ge HI0.out)|refine sZ ?_ GE285.out)|exact HB.out)) hb);clear HI0 BK285 HK HB;have HO288:=n0_;have HI0:=n1_;have BK285:=n2_;have HK:=n3_;have HB:=n4_;clear n0_ n1_ n2_ n3_ n4_ hb ho15)|((with_reducible refine gate_callee (f:=52) rfl ?_);refine goesL_ (some 9) rfl rfl Try.func52 (by kernel_rfl) rfl #[.pointer (some ⟨g,0,none⟩),.int .i64 3] rfl (by (try simp only [mA,mC,mN]);first|done|rfl|(simp only [List.length_drop,List.length_take];rfl)) ?_;(with_reducible refine (spec_l01Cur_pick.calls g s0_0 s0_1 s0_2 3 t289 t290 t291 w0 _ ?side1 ?side2 A2.out).mono ?_);(case side1=>repeat (first|(with_reducible first|exact HI0.out|apply IsS62.alloc|apply IsS62.drewN|apply IsS62.drew|apply IsS62.set_1|apply IsS62.set_2|refine IsS62.far ?_ NB0_285.out _)|exact HI0.out));(case side2=>repeat (first|(with_reducible first|exact HB.out|apply aZ|apply nZ|apply dZ|refine sZ ?_ (IsS62.ge HI0.out)|refine sZ ?_ GE285.out)|exact HB.out));rintro e w16 ⟨rfl,hi,hb,hk⟩;refine⟨_,rfl,?_⟩;have n0_:=mk0 (KeepBut.blk hk (g':=gb285) (o:=.cells #[.int .i64 0,.slice none 0 0] 24 (0,0)) (by (with_reducible repeat (first|apply nB|apply dB|apply aB));exact BK285.out) NB285_0.out (by simp));have n1_:=mk0 (Kd.R_mono (Kd.R_keep (IsS62.apart (show IsS62 w0 _ g s0_0 s0_1 s0_2 from by repeat (first|(with_reducible first|exact HI0.out|apply IsS62.alloc|apply IsS62.drewN|apply IsS62.drew|apply IsS62.set_1|apply IsS62.set_2|refine IsS62.far ?_ NB0_285.out _)|exact HI0.out)) (by (with_reducible repeat (first|apply aR|apply nR|apply dR));exact HO288.out) (by decide)) hk (fun _ h=>h.2)) (fun _ h=>h.1));have n2_:=mk0 (KeepBut.trans (by repeat (first|(with_reducible first|exact HK.out|apply KeepBut.set_|apply keep_drewN|apply keep_drew|apply keep_alloc|refine keep_far ?_ GW285.out _)|exact HK.out)) hk (.inl rfl));have n3_:=mk0 (hb);have n4_:=mk0 (hi);clear BK285 HO288 HK HB HI0;have BK285:=n0_;have HO288:=n1_;have HK:=n2_;have HB:=n3_;have HI0:=n4_;clear n0_ n1_ n2_ n3_ n4_;(try clear hb);(try clear hb2);(try clear hk);(try clear hi);obtain⟨Ao17,co17,eo17⟩:=Kd.R_slice HO288.out;subst eo17;have p292:0 ≤ (t289:Int):=of_decide_eq_true (by first|(with_reducible assumption)|assumption);have q292:t289 < (y286.length:Int):=of_decide_eq_true (by first|(with_reducible assumption)|assumption);obtain⟨ad292,e292,hx292_0⟩:=Kd.at_int (Kd.R_reads' HO288.out).2.2 t289 p292 q292;cases e292;replace p292:=eq_true p292;replace q292:=eq_true q292)|((with_reducible refine gate_callee (f:=60) rfl ?_);refine goesL_ (some 12) rfl rfl Try.func60 (by kernel_rfl) rfl #[.pointer (some ⟨g,0,none⟩),.int .i64 20,.int .i64 (rd y286 t289)] rfl (by (try simp only [mA,mC,mN]);first|done|rfl|(simp only [List.length_drop,List.length_take];rfl)) ?_;(with_reducible refine (spec_l01Cur_numbers.calls k g s0_0 t290 t291 20 (rd y286 t289) t293 t296 t297 w0 _ ?side1 ?side2 A5.out).mono ?_);(case side1=>repeat (first|(with_reducible first|exact HI0.out|apply IsS62.alloc|apply IsS62.drewN|apply IsS62.drew|apply IsS62.set_1|apply IsS62.set_2|refine IsS62.far ?_ NB0_285.out _)|exact HI0.out));(case side2=>repeat (first|(with_reducible first|exact HB.out|apply aZ|apply nZ|apply dZ|refine sZ ?_ (IsS62.ge HI0.out)|refine sZ ?_ GE285.out)|exact HB.out));rintro e w18 ⟨v294,rfl,ho0,hi,hb,hk⟩;refine⟨_,rfl,?_⟩;have n0_:=mk0 (KeepBut.blk hk (g':=gb285) (o:=.cells #[.int .i64 0,.slice none 0 0] 24 (0,0)) (by (with_reducible repeat (first|apply nB|apply dB|apply aB));exact BK285.out) NB285_0.out (by simp));have n1_:=mk0 (Kd.R_mono (Kd.R_told (Kd.R_oldK (IsS62.apart (show IsS62 w0 _ g s0_0 t290 t291 from by repeat (first|(with_reducible first|exact HI0.out|apply IsS62.alloc|apply IsS62.drewN|apply IsS62.drew|apply IsS62.set_1|apply IsS62.set_2|refine IsS62.far ?_ NB0_285.out _)|exact HI0.out)) (by (with_reducible repeat (first|apply aR|apply nR|apply dR));exact HO288.out) (by decide)) hk) (Kd.R_base ho0)) (fun _ h_=>h_.1));have n2_:=mk0 (Kd.R_lower (Kd.R_new' ho0 (Kd.R_lt (by (with_reducible repeat (first|apply aR|apply nR|apply dR));exact HO288.out))) (keep_size (w:=w) (g:=g) (row:=none) (by repeat (first|(with_reducible first|exact HK.out|apply KeepBut.set_|apply keep_drewN|apply keep_drew|apply keep_alloc|refine keep_far ?_ GW285.out _)|exact HK.out))));have n3_:=mk0 (KeepBut.trans (by repeat (first|(with_reducible first|exact HK.out|apply KeepBut.set_|apply keep_drewN|apply keep_drew|apply keep_alloc|refine keep_far ?_ GW285.out _)|exact HK.out)) hk (.inl rfl));have n4_:=mk0 (hb);have n5_:=mk0 (hi);clear BK285 HO288 HK HB HI0;have BK285:=n0_;have HO288:=n1_;have HO295:=n2_;have HK:=n3_;have HB:=n4_;have HI0:=n5_;clear n0_ n1_ n2_ n3_ n4_ n5_;(try clear hb);(try clear hb2);(try clear hk);(try clear hi);(try clear ho0);obtain⟨Ao19,co19,eo19⟩:=Kd.R_slice HO295.out;subst eo19)|((with_reducible refine gate_callee (f:=11) rfl ?_);refine goesL_ (some 13) rfl rfl Try.func11 (by kernel_rfl) rfl #[.slice Ao19 t293.length co19] rfl (by (try simp only [mA,mC,mN]);first|done|rfl|(simp only [List.length_drop,List.length_take];rfl)) ?_;(with_reducible refine (spec_MinsOf.calls k _ _ t293 t298 t299 t302 _ ?side1 ?side2 A6.out).mono ?_);(case side1=>repeat (first|exact (Kd.R_reads' HO295.out).2.2|(with_reducible first|apply aC|apply nC|apply dC)));(case side2=>exact (Kd.R_reads' HO295.out).2.1);rintro e w20 ⟨v300,rfl,ho0,hb⟩;refine⟨_,rfl,?_⟩;have n0_:=mk0 (Kd.R_elder' (by (with_reducible repeat (first|apply aR|apply nR|apply dR));exact HO288.out) (Kd.R_base ho0) hb);have n1_:=mk0 (Kd.R_elder' (by (with_reducible repeat (first|apply aR|apply nR|apply dR));exact HO295.out) (Kd.R_base ho0) hb);have n2_:=mk0 (Kd.R_lower (Kd.R_new' (Kd.R_new' ho0 (Kd.R_lt (by (with_reducible repeat (first|apply aR|apply nR|apply dR));exact HO288.out))) (Kd.R_lt (by (with_reducible repeat (first|apply aR|apply nR|apply dR));exact HO295.out))) (keep_size (w:=w) (g:=g) (row:=none) (by repeat (first|(with_reducible first|exact HK.out|apply KeepBut.set_|apply keep_drewN|apply keep_drew|apply keep_alloc|refine keep_far ?_ GW285.out _)|exact HK.out))));have n3_:=mk0 (IsS62.below (by repeat (first|(with_reducible first|exact HI0.out|apply IsS62.alloc|apply IsS62.drewN|apply IsS62.drew|apply IsS62.set_1|apply IsS62.set_2|refine IsS62.far ?_ NB0_285.out _)|exact HI0.out)) hb);have n4_:=mk0 (blk_below (g:=gb285) (o:=.cells #[.int .i64 0,.slice none 0 0] 24 (0,0)) (by (with_reducible repeat (first|apply nB|apply dB|apply aB));exact BK285.out) hb);have n5_:=mk0 (KeepBut.trans (by repeat (first|(with_reducible first|exact HK.out|apply KeepBut.set_|apply keep_drewN|apply keep_drew|apply keep_alloc|refine keep_far ?_ GW285.out _)|exact HK.out)) (KeepBut.of_below hb g none) (.inl rfl));have n6_:=mk0 (below_step (by repeat (first|(with_reducible first|exact HB.out|apply aZ|apply nZ|apply dZ|refine sZ ?_ (IsS62.ge HI0.out)|refine sZ ?_ GE285.out)|exact HB.out)) hb);clear HO288 HO295 HI0 BK285 HK HB;have HO288:=n0_;have HO295:=n1_;have HO301:=n2_;have HI0:=n3_;have BK285:=n4_;have HK:=n5_;have HB:=n6_;clear n0_ n1_ n2_ n3_ n4_ n5_ n6_;(try clear hb);(try clear hb2);(try clear hk);(try clear hi);(try clear ho0))|((with_reducible refine gate_dst (N:=3) rfl ?_);refine box_event ?hg (N:=3) ?hd (cs:=#[.int .i64 0,.slice none 0 0]) (t:=24) ?hr ?_;(case hd=>rfl);(case hg=>rfl);(case hr=>first|(go_simp;done)|(go_simp;rfl));intro gb303 hg w21 hbox hb;have n0_:=mk0 (Kd.R_below (by (with_reducible repeat (first|apply aR|apply nR|apply dR));exact HO288.out) hb);have n1_:=mk0 (Kd.R_below (by (with_reducible repeat (first|apply aR|apply nR|apply dR));exact HO295.out) hb);have n2_:=mk0 (Kd.R_below (by (with_reducible repeat (first|apply aR|apply nR|apply dR));exact HO301.out) hb);have n3_:=mk0 (IsS62.below (by repeat (first|(with_reducible first|exact HI0.out|apply IsS62.alloc|apply IsS62.drewN|apply IsS62.drew|apply IsS62.set_1|apply IsS62.set_2|refine IsS62.far ?_ NB0_285.out _)|exact HI0.out)) hb);have n4_:=mk0 (blk_below (g:=gb285) (o:=.cells #[.int .i64 0,.slice none 0 0] 24 (0,0)) (by (with_reducible repeat (first|apply nB|apply dB|apply aB));exact BK285.out) hb);have n5_:=mk0 (KeepBut.trans (by repeat (first|(with_reducible first|exact HK.out|apply KeepBut.set_|apply keep_drewN|apply keep_drew|apply keep_alloc|refine keep_far ?_ GW285.out _)|exact HK.out)) (KeepBut.of_below hb g none) (.inl rfl));have n6_:=mk0 (below_step (by repeat (first|(with_reducible first|exact HB.out|apply aZ|apply nZ|apply dZ|refine sZ ?_ (IsS62.ge HI0.out)|refine sZ ?_ GE285.out)|exact HB.out)) hb);have n7_:=mk0 (hbox);have n8_:=mk0 ((by rw [hg];exact (keep_size (w:=w) (g:=g) (row:=none) (by repeat (first|(with_reducible first|exact HK.out|apply KeepBut.set_|apply keep_drewN|apply keep_drew|apply keep_alloc|refine keep_far ?_ GW285.out _)|exact HK.out))):w.heap.size ≤ gb303));have n9_:=mk0 ((Nat.le_trans HW0.out (by rw [hg];exact (keep_size (w:=w) (g:=g) (row:=none) (by repeat (first|(with_reducible first|exact HK.out|apply KeepBut.set_|apply keep_drewN|apply keep_drew|apply keep_alloc|refine keep_far ?_ GW285.out _)|exact HK.out))):w.heap.size ≤ gb303):w0.heap.size ≤ gb303));have n10_:=mk0 ((by rw [hg];exact Nat.ne_of_lt (blk_lt (g:=gb285) (o:=.cells #[.int .i64 0,.slice none 0 0] 24 (0,0)) (by (with_reducible repeat (first|apply nB|apply dB|apply aB));exact BK285.out)):gb285 ≠ gb303));have n11_:=mk0 ((by rw [hg];exact Nat.ne_of_gt (blk_lt (g:=gb285) (o:=.cells #[.int .i64 0,.slice none 0 0] 24 (0,0)) (by (with_reducible repeat (first|apply nB|apply dB|apply aB));exact BK285.out)):gb303 ≠ gb285));have n12_:=mk0 ((by rw [hg];exact Nat.ne_of_lt (IsS62.lt (show IsS62 w0 _ g s0_0 t296 t297 from by repeat (first|(with_reducible first|exact HI0.out|apply IsS62.alloc|apply IsS62.drewN|apply IsS62.drew|apply IsS62.set_1|apply IsS62.set_2|refine IsS62.far ?_ NB0_285.out _)|exact HI0.out))):g ≠ gb303));have n13_:=mk0 ((by rw [hg];exact Nat.ne_of_gt (IsS62.lt (show IsS62 w0 _ g s0_0 t296 t297 from by repeat (first|(with_reducible first|exact HI0.out|apply IsS62.alloc|apply IsS62.drewN|apply IsS62.drew|apply IsS62.set_1|apply IsS62.set_2|refine IsS62.far ?_ NB0_285.out _)|exact HI0.out))):gb303 ≠ g));clear HO288 HO295 HO301 HI0 BK285 HK HB;have HO288:=n0_;have HO295:=n1_;have HO301:=n2_;have HI0:=n3_;have BK285:=n4_;have HK:=n5_;have HB:=n6_;have BK303:=n7_;have GW303:=n8_;have GE303:=n9_;have NB285_303:=n10_;have NB303_285:=n11_;have NB0_303:=n12_;have NB303_0:=n13_;clear n0_ n1_ n2_ n3_ n4_ n5_ n6_ n7_ n8_ n9_ n10_ n11_ n12_ n13_ hb hbox hg;have hnb22:=NB303_285.out;have hnc22:=NB285_303.out;have hnb23:=NB303_0.out;have hnc23:=NB0_303.out;have hcz24_0:w21.cell? ⟨gb303,0,none⟩ = some (.int .i64 0):=(blk_cell BK303.out 0).trans rfl;have hcz24_1:w21.cell? ⟨gb303,1,none⟩ = some (.slice none 0 0):=(blk_cell BK303.out 1).trans rfl;have hfz24_0:=blk_frozen BK303.out 0;have hfz24_1:=blk_frozen BK303.out 1;obtain⟨Ao25,co25,eo25⟩:=Kd.R_slice HO301.out;subst eo25)|((with_reducible refine gate_callee (f:=52) rfl ?_);refine goesL_ (some 17) rfl rfl Try.func52 (by kernel_rfl) rfl #[.pointer (some ⟨g,0,none⟩),.int .i64 12] rfl (by (try simp only [mA,mC,mN]);first|done|rfl|(simp only [List.length_drop,List.length_take];rfl)) ?_;(with_reducible refine (spec_l01Cur_pick.calls g s0_0 t296 t297 12 t304 t305 t306 w0 _ ?side1 ?side2 A7.out).mono ?_);(case side1=>repeat (first|(with_reducible first|exact HI0.out|apply IsS62.alloc|apply IsS62.drewN|apply IsS62.drew|apply IsS62.set_1|apply IsS62.set_2|refine IsS62.far ?_ NB0_285.out _|refine IsS62.far ?_ NB0_303.out _)|exact HI0.out));(case side2=>repeat (first|(with_reducible first|exact HB.out|apply aZ|apply nZ|apply dZ|refine sZ ?_ (IsS62.ge HI0.out)|refine sZ ?_ GE285.out|refine sZ ?_ GE303.out)|exact HB.out));rintro e w26 ⟨rfl,hi,hb,hk⟩;refine⟨_,rfl,?_⟩;have n0_:=mk0 (KeepBut.blk hk (g':=gb285) (o:=.cells #[.int .i64 0,.slice none 0 0] 24 (0,0)) (by (with_reducible repeat (first|apply nB|apply dB|apply aB));refine blk_far ?_ NB285_303.out _;(with_reducible repeat (first|apply nB|apply dB|apply aB));refine blk_far ?_ NB285_303.out _;(with_reducible repeat (first|apply nB|apply dB|apply aB));exact BK285.out) NB285_0.out (by simp));have n1_:=mk0 (Kd.R_mono (Kd.R_keep (IsS62.apart (show IsS62 w0 _ g s0_0 t296 t297 from by repeat (first|(with_reducible first|exact HI0.out|apply IsS62.alloc|apply IsS62.drewN|apply IsS62.drew|apply IsS62.set_1|apply IsS62.set_2|refine IsS62.far ?_ NB0_285.out _|refine IsS62.far ?_ NB0_303.out _)|exact HI0.out)) (by (with_reducible repeat (first|apply aR|apply nR|apply dR));exact (Kd.R_mono (Kd.R_far (p:=⟨gb303,1,none⟩) (Kd.R_far (p:=⟨gb303,0,none⟩) (Kd.R_types HO288.out BK303.out (by decide)) (fun _ hk=>hk.2) (.int .i64 t298)) (fun _ hk=>hk.2) (.slice Ao25 t299.length co25)) (fun _ h_=>h_.1))) (by decide)) hk (fun _ h=>h.2)) (fun _ h=>h.1));have n2_:=mk0 (Kd.R_mono (Kd.R_keep (IsS62.apart (show IsS62 w0 _ g s0_0 t296 t297 from by repeat (first|(with_reducible first|exact HI0.out|apply IsS62.alloc|apply IsS62.drewN|apply IsS62.drew|apply IsS62.set_1|apply IsS62.set_2|refine IsS62.far ?_ NB0_285.out _|refine IsS62.far ?_ NB0_303.out _)|exact HI0.out)) (by (with_reducible repeat (first|apply aR|apply nR|apply dR));exact (Kd.R_mono (Kd.R_far (p:=⟨gb303,1,none⟩) (Kd.R_far (p:=⟨gb303,0,none⟩) (Kd.R_types HO295.out BK303.out (by decide)) (fun _ hk=>hk.2) (.int .i64 t298)) (fun _ hk=>hk.2) (.slice Ao25 t299.length co25)) (fun _ h_=>h_.1))) (by decide)) hk (fun _ h=>h.2)) (fun _ h=>h.1));have n3_:=mk0 (Kd.R_mono (Kd.R_keep (IsS62.apart (show IsS62 w0 _ g s0_0 t296 t297 from by repeat (first|(with_reducible first|exact HI0.out|apply IsS62.alloc|apply IsS62.drewN|apply IsS62.drew|apply IsS62.set_1|apply IsS62.set_2|refine IsS62.far ?_ NB0_285.out _|refine IsS62.far ?_ NB0_303.out _)|exact HI0.out)) (by (with_reducible repeat (first|apply aR|apply nR|apply dR));exact (Kd.R_mono (Kd.R_far (p:=⟨gb303,1,none⟩) (Kd.R_far (p:=⟨gb303,0,none⟩) (Kd.R_types HO301.out BK303.out (by decide)) (fun _ hk=>hk.2) (.int .i64 t298)) (fun _ hk=>hk.2) (.slice Ao25 t299.length co25)) (fun _ h_=>h_.1))) (by decide)) hk (fun _ h=>h.2)) (fun _ h=>h.1));have n4_:=mk0 (KeepBut.blk hk (g':=gb303) (o:=.cells #[.int .i64 t298,.slice Ao25 t299.length co25] 24 (0,0)) (by (with_reducible repeat (first|apply nB|apply dB|apply aB));refine blk_put (cs:=#[.int .i64 t298,.slice none 0 0]) ?_ 1 _ rfl;(with_reducible repeat (first|apply nB|apply dB|apply aB));refine blk_put (cs:=#[.int .i64 0,.slice none 0 0]) ?_ 0 _ rfl;(with_reducible repeat (first|apply nB|apply dB|apply aB));exact BK303.out) NB303_0.out (by simp));have n5_:=mk0 (KeepBut.trans (by repeat (first|(with_reducible first|exact HK.out|apply KeepBut.set_|apply keep_drewN|apply keep_drew|apply keep_alloc|refine keep_far ?_ GW285.out _|refine keep_far ?_ GW303.out _)|exact HK.out)) hk (.inl rfl));have n6_:=mk0 (hb);have n7_:=mk0 (hi);clear BK285 HO288 HO295 HO301 BK303 HK HB HI0;have BK285:=n0_;have HO288:=n1_;have HO295:=n2_;have HO301:=n3_;have BK303:=n4_;have HK:=n5_;have HB:=n6_;have HI0:=n7_;clear n0_ n1_ n2_ n3_ n4_ n5_ n6_ n7_;(try clear hb);(try clear hb2);(try clear hk);(try clear hi)))
  have pi316:(0 ≤ (t313:Int)) = True:=eq_true (of_decide_eq_true (by first|(with_reducible assumption)|assumption))
  have qi316:(t313 < (y310.length:Int)) = True:=eq_true (of_decide_eq_true (by first|(with_reducible assumption)|assumption))
  have n0_:=mk0 (dR HO288.out)
  have n1_:=mk0 (dR HO295.out)
  have n2_:=mk0 (dR HO301.out)
  have n3_:=mk0 (dB BK285.out)
  have n4_:=mk0 (dB BK303.out)
  have n5_:=mk0 (IsS62.drew HI0.out)
  have n6_:=mk0 (keep_drew HK.out)
  have n7_:=mk0 (dZ HB.out)
  clear HO288
  clear HO295
  clear HO301
  clear BK285
  clear BK303
  clear HI0
  clear HK
  clear HB
  have HO288:=n0_
  have HO295:=n1_
  have HO301:=n2_
  have BK285:=n3_
  have BK303:=n4_
  have HI0:=n5_
  have HK:=n6_
  have HB:=n7_
  clear n0_ n1_ n2_ n3_ n4_ n5_ n6_ n7_
  refine start_ (n:=15) (S:=fun w'=>w'.cell? ⟨gb303,0,none⟩ = some (.int .i64 t298) ∧ w'.cell? ⟨gb303,1,none⟩ = some (.slice Ao25 t299.length co25)) (ds:=[14]) spec_l01Cur_mins.m0 (by kernel_rfl) rfl rfl ⟨(blk_cell BK303.out 0).trans rfl,(blk_cell BK303.out 1).trans rfl⟩ (fun hHeld=>?_);refine with_tabW spec_l01Cur_mins.tab4 spec_l01Cur_mins.bits4 (fun HT_ HW_=>?_)
  generalize w26.drew = w27 at HO288 HO295 HO301 BK285 BK303 HI0 HK HB hHeld ⊢
  refine pure_ (i:=0) (N:=some 20) (v:=?_) (a':=?_) spec_l01Cur_mins.m1 rfl rfl (any_of HT_.out (by kernel_rfl)) (fun _ _ _ h=>h) (Or.inl ⟨by rfl,?_⟩) ?_ ?_
  rotate_left
  ·intro w'
   go_simp
   with_reducible rfl
  rotate_left
  ·simp only [Act.put,sA,sO,sS,i64_w,i32_w]
   rfl
  refine pure_ (i:=2) (N:=some 22) (v:=?_) (a':=?_) spec_l01Cur_mins.m2 rfl rfl (any_of HT_.out (by kernel_rfl)) (fun _ _ _ h=>h) (Or.inl ⟨by rfl,?_⟩) ?_ ?_
  rotate_left
  ·intro w'
   go_simp
   with_reducible rfl
  rotate_left
  ·simp only [Act.put,sA,sO,sS,i64_w,i32_w]
   rfl
  refine pure_ (i:=5) (N:=some 25) (v:=?_) (a':=?_) spec_l01Cur_mins.m3 rfl rfl (any_of HT_.out (by kernel_rfl)) (fun _ _ _ h=>h) (Or.inl ⟨by rfl,?_⟩) ?_ ?_
  rotate_left
  ·intro w'
   go_simp
   with_reducible rfl
  rotate_left
  ·simp only [Act.put,sA,sO,sS,i64_w,i32_w]
   rfl
  refine pure_ (i:=9) (N:=some 29) (v:=?_) (a':=?_) spec_l01Cur_mins.m4 rfl rfl (any_of HT_.out (by kernel_rfl)) (fun _ _ _ h=>h) (Or.inl ⟨by rfl,?_⟩) ?_ ?_
  rotate_left
  ·intro w'
   go_simp
   with_reducible rfl
  rotate_left
  ·simp only [Act.put,sA,sO,sS,i64_w,i32_w]
   rfl
  refine take_ (i:=3) (N:=some 23) (v:=?_) (a':=?_) spec_l01Cur_mins.m5 rfl rfl (take_ofW HT_.out HW_.out (by kernel_rfl)) (fun _ _ _ h=>h) (Or.inl ⟨by rfl,?_⟩) hHeld ?_ ?_
  rotate_left
  ·rintro w' ⟨s0,s1⟩
   go_simp
   with_reducible rfl
  rotate_left
  ·simp only [Act.put,sA,sO,sS,i64_w,i32_w]
   rfl
  refine pure_ (i:=4) (N:=some 24) (v:=?_) (a':=?_) spec_l01Cur_mins.m6 rfl rfl (any_of HT_.out (by kernel_rfl)) (fun _ _ _ h=>h) (Or.inl ⟨by rfl,?_⟩) ?_ ?_
  rotate_left
  ·intro w'
   go_simp
   with_reducible rfl
  rotate_left
  ·simp only [Act.put,sA,sO,sS,i64_w,i32_w]
   rfl
  refine take_ (i:=6) (N:=some 26) (v:=?_) (a':=?_) spec_l01Cur_mins.m7 rfl rfl (take_ofW HT_.out HW_.out (by kernel_rfl)) (fun _ _ _ h=>h) (Or.inl ⟨by rfl,?_⟩) hHeld ?_ ?_
  rotate_left
  ·rintro w' ⟨s0,s1⟩
   go_simp
   with_reducible rfl
  rotate_left
  ·simp only [Act.put,sA,sO,sS,i64_w,i32_w]
   rfl
  refine pure_ (i:=7) (N:=some 27) (v:=?_) (a':=?_) spec_l01Cur_mins.m8 rfl rfl (any_of HT_.out (by kernel_rfl)) (fun _ _ _ h=>h) (Or.inl ⟨by rfl,?_⟩) ?_ ?_
  rotate_left
  ·intro w'
   go_simp
   with_reducible rfl
  rotate_left
  ·simp only [Act.put,sA,sO,sS,i64_w,i32_w]
   rfl
  refine one_ (i:=1) (N:=some 21) spec_l01Cur_mins.m9 rfl rfl (one_of HT_.out (by kernel_rfl)) (by decide) (fun K hK=>?_)
  refine goes_ Try.func53 (by kernel_rfl) rfl #[.pointer (some ⟨g,0,none⟩)] (by rfl) rfl rfl (by (try simp only [mA,mC,mN]);first|done|rfl|(simp only [List.length_drop,List.length_take];rfl)) ?_
  with_reducible refine (spec_l01Cur_raw.calls g s0_0 t305 t306 t307 t308 t309 w0 _ ?side1 ?side2 A9.out).mono ?_
  (case side1=>repeat (first|(with_reducible first|exact HI0.out|apply IsS62.alloc|apply IsS62.drewN|apply IsS62.drew|apply IsS62.set_1|apply IsS62.set_2|refine IsS62.far ?_ NB0_285.out _|refine IsS62.far ?_ NB0_303.out _)|exact HI0.out))
  (case side2=>repeat (first|(with_reducible first|exact HB.out|apply aZ|apply nZ|apply dZ|refine sZ ?_ (IsS62.ge HI0.out)|refine sZ ?_ GE285.out|refine sZ ?_ GE303.out)|exact HB.out))
  rintro e w28 ⟨rfl,hi,hb,hk⟩
  refine⟨_,rfl,?_⟩
  have n0_:=mk0 (KeepBut.blk hk (g':=gb285) (o:=.cells #[.int .i64 0,.slice none 0 0] 24 (0,0)) (by (with_reducible repeat (first|apply nB|apply dB|apply aB));exact BK285.out) NB285_0.out (by simp))
  have n1_:=mk0 (Kd.R_mono (Kd.R_keep (IsS62.apart (show IsS62 w0 _ g s0_0 t305 t306 from by repeat (first|(with_reducible first|exact HI0.out|apply IsS62.alloc|apply IsS62.drewN|apply IsS62.drew|apply IsS62.set_1|apply IsS62.set_2|refine IsS62.far ?_ NB0_285.out _|refine IsS62.far ?_ NB0_303.out _)|exact HI0.out)) (by (with_reducible repeat (first|apply aR|apply nR|apply dR));exact HO288.out) (by decide)) hk (fun _ h=>h.2)) (fun _ h=>h.1))
  have n2_:=mk0 (Kd.R_mono (Kd.R_keep (IsS62.apart (show IsS62 w0 _ g s0_0 t305 t306 from by repeat (first|(with_reducible first|exact HI0.out|apply IsS62.alloc|apply IsS62.drewN|apply IsS62.drew|apply IsS62.set_1|apply IsS62.set_2|refine IsS62.far ?_ NB0_285.out _|refine IsS62.far ?_ NB0_303.out _)|exact HI0.out)) (by (with_reducible repeat (first|apply aR|apply nR|apply dR));exact HO295.out) (by decide)) hk (fun _ h=>h.2)) (fun _ h=>h.1))
  have n3_:=mk0 (Kd.R_mono (Kd.R_keep (IsS62.apart (show IsS62 w0 _ g s0_0 t305 t306 from by repeat (first|(with_reducible first|exact HI0.out|apply IsS62.alloc|apply IsS62.drewN|apply IsS62.drew|apply IsS62.set_1|apply IsS62.set_2|refine IsS62.far ?_ NB0_285.out _|refine IsS62.far ?_ NB0_303.out _)|exact HI0.out)) (by (with_reducible repeat (first|apply aR|apply nR|apply dR));exact HO301.out) (by decide)) hk (fun _ h=>h.2)) (fun _ h=>h.1))
  have n4_:=mk0 (KeepBut.blk hk (g':=gb303) (o:=.cells #[.int .i64 t298,.slice Ao25 t299.length co25] 24 (0,0)) (by (with_reducible repeat (first|apply nB|apply dB|apply aB));exact BK303.out) NB303_0.out (by simp))
  have n5_:=mk0 (KeepBut.trans (by repeat (first|(with_reducible first|exact HK.out|apply KeepBut.set_|apply keep_drewN|apply keep_drew|apply keep_alloc|refine keep_far ?_ GW285.out _|refine keep_far ?_ GW303.out _)|exact HK.out)) hk (.inl rfl))
  have n6_:=mk0 (hb)
  have n7_:=mk0 (hi)
  clear BK285
  clear HO288
  clear HO295
  clear HO301
  clear BK303
  clear HK
  clear HB
  clear HI0
  have BK285:=n0_
  have HO288:=n1_
  have HO295:=n2_
  have HO301:=n3_
  have BK303:=n4_
  have HK:=n5_
  have HB:=n6_
  have HI0:=n7_
  clear n0_ n1_ n2_ n3_ n4_ n5_ n6_ n7_
  (try clear hb)
  (try clear hb2)
  (try clear hk)
  (try clear hi)
  refine hK.out _ _ ⟨(blk_cell BK303.out 0).trans rfl,(blk_cell BK303.out 1).trans rfl⟩ (fun hHeld=>?_)
  clear hK K
  refine norm_ (a':=?_) ?_ ?_
  rotate_left
  ·show Act.put _ (some 21) _ = _
   simp only [Act.put,sA,sO,sS,i64_w,i32_w]
   rfl
  refine join_ (σ:=Value × Addr) 4 spec_l01Cur_mins.m10 (fun s_=>[(28,s_.1),(30,.int .i64 t313)]) (fun s_ w'=>(w'.cell? ⟨gb303,0,none⟩ = some (.int .i64 t298) ∧ w'.cell? ⟨gb303,1,none⟩ = some (.slice Ao25 t299.length co25)) ∧ (Kd.R (Kd.int .i64) 3 w' w.heap.size (fun k_=>some k_ ≠ (.slice Ao19 t293.length co19:Value).ownBlock ∧ some k_ ≠ (.slice Ao25 t299.length co25:Value).ownBlock ∧ some k_ ≠ (s_.1:Value).ownBlock) (.slice (some ad292) y286.length co17) y286) ∧ (Kd.R (Kd.int .i64) 3 w' w.heap.size (fun k_=>some k_ ≠ (.slice (some ad292) y286.length co17:Value).ownBlock ∧ some k_ ≠ (.slice Ao25 t299.length co25:Value).ownBlock ∧ some k_ ≠ (s_.1:Value).ownBlock) (.slice Ao19 t293.length co19) t293) ∧ (Kd.R (Kd.int .i64) 3 w' w.heap.size (fun k_=>some k_ ≠ (.slice (some ad292) y286.length co17:Value).ownBlock ∧ some k_ ≠ (.slice Ao19 t293.length co19:Value).ownBlock ∧ some k_ ≠ (s_.1:Value).ownBlock) (.slice Ao25 t299.length co25) t299) ∧ (Kd.R (Kd.int .i64) 3 w' w.heap.size (fun k_=>some k_ ≠ (.slice (some ad292) y286.length co17:Value).ownBlock ∧ some k_ ≠ (.slice Ao19 t293.length co19:Value).ownBlock ∧ some k_ ≠ (.slice Ao25 t299.length co25:Value).ownBlock) s_.1 y310) ∧ (∃ c_,(s_.1:Value) = .slice (some s_.2) y310.length c_) ∧ (w'.heap[gb285]? = some (.cells #[.int .i64 0,.slice none 0 0] 24 (0,0))) ∧ (w'.heap[gb303]? = some (.cells #[.int .i64 t298,.slice Ao25 t299.length co25] 24 (0,0))) ∧ (IsS62 w0 w' g s0_0 t314 t315) ∧ (KeepBut w w' g none) ∧ (Below w0.heap.size w0 w')) ?_ ?_
  rotate_left
  ·intro hCont
   refine two_ (i:=8) (j:=10) (Ni:=some 28) (Nj:=some 30) spec_l01Cur_mins.m11 spec_l01Cur_mins.m12 rfl rfl rfl rfl (two_of HT_.out (by kernel_rfl)) (by decide) (by decide) (fun K hK=>?_) (fun K hK=>?_)
   ·skip
    refine Kd.R_lit_step (Kd.int .i64) _ 3 ?hg (N:=28) ?hd (xs:=([t307,wrap64 (t298 + 1),wrap64 (t298 - 1)]:List Int)) (inner:=[.int .i64 t307,.int .i64 (wrap64 (t298 + 1)),.int .i64 (wrap64 (t298 - 1))]) (ok:=fun _=>True) (okp:=fun _=>True) ?hr ?hp (fun _ hk=>hk) trivial (Below.refl _ _) (Nat.le_refl _) (by simp) ?_;(case hd=>rfl);(case hg=>rfl);(case hr=>first|(go_simp;done)|(go_simp;rfl));(case hp=>exact (Reps.one (show Kd.M (Kd.int .i64) _ _ _ t307 [.int .i64 t307] from rfl) (Reps.one (show Kd.M (Kd.int .i64) _ _ _ (wrap64 (t298 + 1)) [.int .i64 (wrap64 (t298 + 1))] from rfl) (Reps.one (show Kd.M (Kd.int .i64) _ _ _ (wrap64 (t298 - 1)) [.int .i64 (wrap64 (t298 - 1))] from rfl) (Reps.none _ _)))))
    intro v311 w29 ho30 hb hg_ hnew_
    clear hg_ hnew_
    (first|rw [← Ny310.out] at ho30|(simp only [Int.reduceToNat] at ho30;rw [← Ny310.out] at ho30))
    have n0_:=mk0 (Kd.R_elder' (by (with_reducible repeat (first|apply aR|apply nR|apply dR));exact HO288.out) (Kd.R_base ho30) hb)
    have n1_:=mk0 (Kd.R_elder' (by (with_reducible repeat (first|apply aR|apply nR|apply dR));exact HO295.out) (Kd.R_base ho30) hb)
    have n2_:=mk0 (Kd.R_elder' (by (with_reducible repeat (first|apply aR|apply nR|apply dR));exact HO301.out) (Kd.R_base ho30) hb)
    have n3_:=mk0 (Kd.R_lower (Kd.R_new' (Kd.R_new' (Kd.R_new' ho30 (Kd.R_lt (by (with_reducible repeat (first|apply aR|apply nR|apply dR));exact HO288.out))) (Kd.R_lt (by (with_reducible repeat (first|apply aR|apply nR|apply dR));exact HO295.out))) (Kd.R_lt (by (with_reducible repeat (first|apply aR|apply nR|apply dR));exact HO301.out))) (keep_size (w:=w) (g:=g) (row:=none) (by repeat (first|(with_reducible first|exact HK.out|apply KeepBut.set_|apply keep_drewN|apply keep_drew|apply keep_alloc|refine keep_far ?_ GW285.out _|refine keep_far ?_ GW303.out _)|exact HK.out))))
    have n4_:=mk0 (IsS62.below (by repeat (first|(with_reducible first|exact HI0.out|apply IsS62.alloc|apply IsS62.drewN|apply IsS62.drew|apply IsS62.set_1|apply IsS62.set_2|refine IsS62.far ?_ NB0_285.out _|refine IsS62.far ?_ NB0_303.out _)|exact HI0.out)) hb)
    have n5_:=mk0 (blk_below (g:=gb285) (o:=.cells #[.int .i64 0,.slice none 0 0] 24 (0,0)) (by (with_reducible repeat (first|apply nB|apply dB|apply aB));exact BK285.out) hb)
    have n6_:=mk0 (blk_below (g:=gb303) (o:=.cells #[.int .i64 t298,.slice Ao25 t299.length co25] 24 (0,0)) (by (with_reducible repeat (first|apply nB|apply dB|apply aB));exact BK303.out) hb)
    have n7_:=mk0 (KeepBut.trans (by repeat (first|(with_reducible first|exact HK.out|apply KeepBut.set_|apply keep_drewN|apply keep_drew|apply keep_alloc|refine keep_far ?_ GW285.out _|refine keep_far ?_ GW303.out _)|exact HK.out)) (KeepBut.of_below hb g none) (.inl rfl))
    have n8_:=mk0 (below_step (by repeat (first|(with_reducible first|exact HB.out|apply aZ|apply nZ|apply dZ|refine sZ ?_ (IsS62.ge HI0.out)|refine sZ ?_ GE285.out|refine sZ ?_ GE303.out)|exact HB.out)) hb)
    clear HO288
    clear HO295
    clear HO301
    clear HI0
    clear BK285
    clear BK303
    clear HK
    clear HB
    have HO288:=n0_
    have HO295:=n1_
    have HO301:=n2_
    have HO312:=n3_
    have HI0:=n4_
    have BK285:=n5_
    have BK303:=n6_
    have HK:=n7_
    have HB:=n8_
    clear n0_ n1_ n2_ n3_ n4_ n5_ n6_ n7_ n8_
    clear hb ho30
    obtain⟨Ao31,co31,eo31⟩:=Kd.R_slice HO312.out
    subst eo31
    obtain⟨ado31,fo31,_⟩:=Kd.at_int (Kd.R_reads' HO312.out).2.2 0 (by decide) (by rw [Ny310.out];simp)
    cases fo31
    refine hK.out _ _ ⟨(blk_cell BK303.out 0).trans rfl,(blk_cell BK303.out 1).trans rfl⟩ (fun hHeld=>?_)
    clear hK K
    refine norm_ (a':=?_) ?_ ?_
    rotate_left
    ·show Act.put _ (some 28) _ = _
     simp only [Act.put,sA,sO,sS,i64_w,i32_w]
     rfl
    refine one_ (i:=10) (N:=some 30) spec_l01Cur_mins.m10 rfl rfl (one_of HT_.out (by kernel_rfl)) (by decide) (fun K hK=>?_)
    refine goes_ Try.func52 (by kernel_rfl) rfl #[.pointer (some ⟨g,0,none⟩),.int .i64 3] (by rfl) rfl rfl (by (try simp only [mA,mC,mN]);first|done|rfl|(simp only [List.length_drop,List.length_take];rfl)) ?_
    with_reducible refine (spec_l01Cur_pick.calls g s0_0 t308 t309 3 t313 t314 t315 w0 _ ?side1 ?side2 A10.out).mono ?_
    (case side1=>repeat (first|(with_reducible first|exact HI0.out|apply IsS62.alloc|apply IsS62.drewN|apply IsS62.drew|apply IsS62.set_1|apply IsS62.set_2|refine IsS62.far ?_ NB0_285.out _|refine IsS62.far ?_ NB0_303.out _)|exact HI0.out))
    (case side2=>repeat (first|(with_reducible first|exact HB.out|apply aZ|apply nZ|apply dZ|refine sZ ?_ (IsS62.ge HI0.out)|refine sZ ?_ GE285.out|refine sZ ?_ GE303.out)|exact HB.out))
    rintro e w32 ⟨rfl,hi,hb,hk⟩
    refine⟨_,rfl,?_⟩
    have n0_:=mk0 (KeepBut.blk hk (g':=gb285) (o:=.cells #[.int .i64 0,.slice none 0 0] 24 (0,0)) (by (with_reducible repeat (first|apply nB|apply dB|apply aB));exact BK285.out) NB285_0.out (by simp))
    have n1_:=mk0 (Kd.R_mono (Kd.R_keep (IsS62.apart (show IsS62 w0 _ g s0_0 t308 t309 from by repeat (first|(with_reducible first|exact HI0.out|apply IsS62.alloc|apply IsS62.drewN|apply IsS62.drew|apply IsS62.set_1|apply IsS62.set_2|refine IsS62.far ?_ NB0_285.out _|refine IsS62.far ?_ NB0_303.out _)|exact HI0.out)) (by (with_reducible repeat (first|apply aR|apply nR|apply dR));exact HO288.out) (by decide)) hk (fun _ h=>h.2)) (fun _ h=>h.1))
    have n2_:=mk0 (Kd.R_mono (Kd.R_keep (IsS62.apart (show IsS62 w0 _ g s0_0 t308 t309 from by repeat (first|(with_reducible first|exact HI0.out|apply IsS62.alloc|apply IsS62.drewN|apply IsS62.drew|apply IsS62.set_1|apply IsS62.set_2|refine IsS62.far ?_ NB0_285.out _|refine IsS62.far ?_ NB0_303.out _)|exact HI0.out)) (by (with_reducible repeat (first|apply aR|apply nR|apply dR));exact HO295.out) (by decide)) hk (fun _ h=>h.2)) (fun _ h=>h.1))
    have n3_:=mk0 (Kd.R_mono (Kd.R_keep (IsS62.apart (show IsS62 w0 _ g s0_0 t308 t309 from by repeat (first|(with_reducible first|exact HI0.out|apply IsS62.alloc|apply IsS62.drewN|apply IsS62.drew|apply IsS62.set_1|apply IsS62.set_2|refine IsS62.far ?_ NB0_285.out _|refine IsS62.far ?_ NB0_303.out _)|exact HI0.out)) (by (with_reducible repeat (first|apply aR|apply nR|apply dR));exact HO301.out) (by decide)) hk (fun _ h=>h.2)) (fun _ h=>h.1))
    have n4_:=mk0 (KeepBut.blk hk (g':=gb303) (o:=.cells #[.int .i64 t298,.slice Ao25 t299.length co25] 24 (0,0)) (by (with_reducible repeat (first|apply nB|apply dB|apply aB));exact BK303.out) NB303_0.out (by simp))
    have n5_:=mk0 (Kd.R_mono (Kd.R_keep (IsS62.apart (show IsS62 w0 _ g s0_0 t308 t309 from by repeat (first|(with_reducible first|exact HI0.out|apply IsS62.alloc|apply IsS62.drewN|apply IsS62.drew|apply IsS62.set_1|apply IsS62.set_2|refine IsS62.far ?_ NB0_285.out _|refine IsS62.far ?_ NB0_303.out _)|exact HI0.out)) (by (with_reducible repeat (first|apply aR|apply nR|apply dR));exact HO312.out) (by decide)) hk (fun _ h=>h.2)) (fun _ h=>h.1))
    have n6_:=mk0 (KeepBut.trans (by repeat (first|(with_reducible first|exact HK.out|apply KeepBut.set_|apply keep_drewN|apply keep_drew|apply keep_alloc|refine keep_far ?_ GW285.out _|refine keep_far ?_ GW303.out _)|exact HK.out)) hk (.inl rfl))
    have n7_:=mk0 (hb)
    have n8_:=mk0 (hi)
    clear BK285
    clear HO288
    clear HO295
    clear HO301
    clear BK303
    clear HO312
    clear HK
    clear HB
    clear HI0
    have BK285:=n0_
    have HO288:=n1_
    have HO295:=n2_
    have HO301:=n3_
    have BK303:=n4_
    have HO312:=n5_
    have HK:=n6_
    have HB:=n7_
    have HI0:=n8_
    clear n0_ n1_ n2_ n3_ n4_ n5_ n6_ n7_ n8_
    (try clear hb)
    (try clear hb2)
    (try clear hk)
    (try clear hi)
    refine hK.out _ _ ⟨(blk_cell BK303.out 0).trans rfl,(blk_cell BK303.out 1).trans rfl⟩ (fun hHeld=>?_)
    clear hK K
    refine norm_ (a':=?_) ?_ ?_
    rotate_left
    ·show Act.put _ (some 30) _ = _
     simp only [Act.put,sA,sO,sS,i64_w,i32_w]
     rfl
    exact norm_ (by simp only [putAll,Act.put,sA,sO,sS]) (hCont (.slice (some ado31) y310.length co31,ado31) _ ⟨hHeld,(by (with_reducible repeat (first|apply aR|apply nR|apply dR));exact Kd.R_mono HO288.out (fun _ hk=>⟨hk.1.1.2,⟨hk.1.2,hk.2⟩⟩)),(by (with_reducible repeat (first|apply aR|apply nR|apply dR));exact Kd.R_mono HO295.out (fun _ hk=>⟨hk.1.1.2,⟨hk.1.2,hk.2⟩⟩)),(by (with_reducible repeat (first|apply aR|apply nR|apply dR));exact Kd.R_mono HO301.out (fun _ hk=>⟨hk.1.1.2,⟨hk.1.2,hk.2⟩⟩)),(by (with_reducible repeat (first|apply aR|apply nR|apply dR));exact Kd.R_mono HO312.out (fun _ hk=>⟨hk.1.1.2,⟨hk.1.2,hk.2⟩⟩)),⟨_,rfl⟩,(by (with_reducible repeat (first|apply nB|apply dB|apply aB));exact BK285.out),(by (with_reducible repeat (first|apply nB|apply dB|apply aB));exact BK303.out),(by repeat (first|(with_reducible first|exact HI0.out|apply IsS62.alloc|apply IsS62.drewN|apply IsS62.drew|apply IsS62.set_1|apply IsS62.set_2|refine IsS62.far ?_ NB0_285.out _|refine IsS62.far ?_ NB0_303.out _)|exact HI0.out)),(by repeat (first|(with_reducible first|exact HK.out|apply KeepBut.set_|apply keep_drewN|apply keep_drew|apply keep_alloc|refine keep_far ?_ GW285.out _|refine keep_far ?_ GW303.out _)|exact HK.out)),(by repeat (first|(with_reducible first|exact HB.out|apply aZ|apply nZ|apply dZ|refine sZ ?_ (IsS62.ge HI0.out)|refine sZ ?_ GE285.out|refine sZ ?_ GE303.out)|exact HB.out))⟩)
   ·skip
    refine goes_ Try.func52 (by kernel_rfl) rfl #[.pointer (some ⟨g,0,none⟩),.int .i64 3] (by rfl) rfl rfl (by (try simp only [mA,mC,mN]);first|done|rfl|(simp only [List.length_drop,List.length_take];rfl)) ?_
    with_reducible refine (spec_l01Cur_pick.calls g s0_0 t308 t309 3 t313 t314 t315 w0 _ ?side1 ?side2 A10.out).mono ?_
    (case side1=>repeat (first|(with_reducible first|exact HI0.out|apply IsS62.alloc|apply IsS62.drewN|apply IsS62.drew|apply IsS62.set_1|apply IsS62.set_2|refine IsS62.far ?_ NB0_285.out _|refine IsS62.far ?_ NB0_303.out _)|exact HI0.out))
    (case side2=>repeat (first|(with_reducible first|exact HB.out|apply aZ|apply nZ|apply dZ|refine sZ ?_ (IsS62.ge HI0.out)|refine sZ ?_ GE285.out|refine sZ ?_ GE303.out)|exact HB.out))
    rintro e w29 ⟨rfl,hi,hb,hk⟩
    refine⟨_,rfl,?_⟩
    have n0_:=mk0 (KeepBut.blk hk (g':=gb285) (o:=.cells #[.int .i64 0,.slice none 0 0] 24 (0,0)) (by (with_reducible repeat (first|apply nB|apply dB|apply aB));exact BK285.out) NB285_0.out (by simp))
    have n1_:=mk0 (Kd.R_mono (Kd.R_keep (IsS62.apart (show IsS62 w0 _ g s0_0 t308 t309 from by repeat (first|(with_reducible first|exact HI0.out|apply IsS62.alloc|apply IsS62.drewN|apply IsS62.drew|apply IsS62.set_1|apply IsS62.set_2|refine IsS62.far ?_ NB0_285.out _|refine IsS62.far ?_ NB0_303.out _)|exact HI0.out)) (by (with_reducible repeat (first|apply aR|apply nR|apply dR));exact HO288.out) (by decide)) hk (fun _ h=>h.2)) (fun _ h=>h.1))
    have n2_:=mk0 (Kd.R_mono (Kd.R_keep (IsS62.apart (show IsS62 w0 _ g s0_0 t308 t309 from by repeat (first|(with_reducible first|exact HI0.out|apply IsS62.alloc|apply IsS62.drewN|apply IsS62.drew|apply IsS62.set_1|apply IsS62.set_2|refine IsS62.far ?_ NB0_285.out _|refine IsS62.far ?_ NB0_303.out _)|exact HI0.out)) (by (with_reducible repeat (first|apply aR|apply nR|apply dR));exact HO295.out) (by decide)) hk (fun _ h=>h.2)) (fun _ h=>h.1))
    have n3_:=mk0 (Kd.R_mono (Kd.R_keep (IsS62.apart (show IsS62 w0 _ g s0_0 t308 t309 from by repeat (first|(with_reducible first|exact HI0.out|apply IsS62.alloc|apply IsS62.drewN|apply IsS62.drew|apply IsS62.set_1|apply IsS62.set_2|refine IsS62.far ?_ NB0_285.out _|refine IsS62.far ?_ NB0_303.out _)|exact HI0.out)) (by (with_reducible repeat (first|apply aR|apply nR|apply dR));exact HO301.out) (by decide)) hk (fun _ h=>h.2)) (fun _ h=>h.1))
    have n4_:=mk0 (KeepBut.blk hk (g':=gb303) (o:=.cells #[.int .i64 t298,.slice Ao25 t299.length co25] 24 (0,0)) (by (with_reducible repeat (first|apply nB|apply dB|apply aB));exact BK303.out) NB303_0.out (by simp))
    have n5_:=mk0 (KeepBut.trans (by repeat (first|(with_reducible first|exact HK.out|apply KeepBut.set_|apply keep_drewN|apply keep_drew|apply keep_alloc|refine keep_far ?_ GW285.out _|refine keep_far ?_ GW303.out _)|exact HK.out)) hk (.inl rfl))
    have n6_:=mk0 (hb)
    have n7_:=mk0 (hi)
    clear BK285
    clear HO288
    clear HO295
    clear HO301
    clear BK303
    clear HK
    clear HB
    clear HI0
    have BK285:=n0_
    have HO288:=n1_
    have HO295:=n2_
    have HO301:=n3_
    have BK303:=n4_
    have HK:=n5_
    have HB:=n6_
    have HI0:=n7_
    clear n0_ n1_ n2_ n3_ n4_ n5_ n6_ n7_
    (try clear hb)
    (try clear hb2)
    (try clear hk)
    (try clear hi)
    refine hK.out _ _ ⟨(blk_cell BK303.out 0).trans rfl,(blk_cell BK303.out 1).trans rfl⟩ (fun hHeld=>?_)
    clear hK K
    refine norm_ (a':=?_) ?_ ?_
    rotate_left
    ·show Act.put _ (some 30) _ = _
     simp only [Act.put,sA,sO,sS,i64_w,i32_w]
     rfl
    refine one_ (i:=8) (N:=some 28) spec_l01Cur_mins.m10 rfl rfl (one_of HT_.out (by kernel_rfl)) (by decide) (fun K hK=>?_)
    refine Kd.R_lit_step (Kd.int .i64) _ 3 ?hg (N:=28) ?hd (xs:=([t307,wrap64 (t298 + 1),wrap64 (t298 - 1)]:List Int)) (inner:=[.int .i64 t307,.int .i64 (wrap64 (t298 + 1)),.int .i64 (wrap64 (t298 - 1))]) (ok:=fun _=>True) (okp:=fun _=>True) ?hr ?hp (fun _ hk=>hk) trivial (Below.refl _ _) (Nat.le_refl _) (by simp) ?_;(case hd=>rfl);(case hg=>rfl);(case hr=>first|(go_simp;done)|(go_simp;rfl));(case hp=>exact (Reps.one (show Kd.M (Kd.int .i64) _ _ _ t307 [.int .i64 t307] from rfl) (Reps.one (show Kd.M (Kd.int .i64) _ _ _ (wrap64 (t298 + 1)) [.int .i64 (wrap64 (t298 + 1))] from rfl) (Reps.one (show Kd.M (Kd.int .i64) _ _ _ (wrap64 (t298 - 1)) [.int .i64 (wrap64 (t298 - 1))] from rfl) (Reps.none _ _)))))
    intro v311 w30 ho31 hb hg_ hnew_
    clear hg_ hnew_
    (first|rw [← Ny310.out] at ho31|(simp only [Int.reduceToNat] at ho31;rw [← Ny310.out] at ho31))
    have n0_:=mk0 (Kd.R_elder' (by (with_reducible repeat (first|apply aR|apply nR|apply dR));exact HO288.out) (Kd.R_base ho31) hb)
    have n1_:=mk0 (Kd.R_elder' (by (with_reducible repeat (first|apply aR|apply nR|apply dR));exact HO295.out) (Kd.R_base ho31) hb)
    have n2_:=mk0 (Kd.R_elder' (by (with_reducible repeat (first|apply aR|apply nR|apply dR));exact HO301.out) (Kd.R_base ho31) hb)
    have n3_:=mk0 (Kd.R_lower (Kd.R_new' (Kd.R_new' (Kd.R_new' ho31 (Kd.R_lt (by (with_reducible repeat (first|apply aR|apply nR|apply dR));exact HO288.out))) (Kd.R_lt (by (with_reducible repeat (first|apply aR|apply nR|apply dR));exact HO295.out))) (Kd.R_lt (by (with_reducible repeat (first|apply aR|apply nR|apply dR));exact HO301.out))) (keep_size (w:=w) (g:=g) (row:=none) (by repeat (first|(with_reducible first|exact HK.out|apply KeepBut.set_|apply keep_drewN|apply keep_drew|apply keep_alloc|refine keep_far ?_ GW285.out _|refine keep_far ?_ GW303.out _)|exact HK.out))))
    have n4_:=mk0 (IsS62.below (by repeat (first|(with_reducible first|exact HI0.out|apply IsS62.alloc|apply IsS62.drewN|apply IsS62.drew|apply IsS62.set_1|apply IsS62.set_2|refine IsS62.far ?_ NB0_285.out _|refine IsS62.far ?_ NB0_303.out _)|exact HI0.out)) hb)
    have n5_:=mk0 (blk_below (g:=gb285) (o:=.cells #[.int .i64 0,.slice none 0 0] 24 (0,0)) (by (with_reducible repeat (first|apply nB|apply dB|apply aB));exact BK285.out) hb)
    have n6_:=mk0 (blk_below (g:=gb303) (o:=.cells #[.int .i64 t298,.slice Ao25 t299.length co25] 24 (0,0)) (by (with_reducible repeat (first|apply nB|apply dB|apply aB));exact BK303.out) hb)
    have n7_:=mk0 (KeepBut.trans (by repeat (first|(with_reducible first|exact HK.out|apply KeepBut.set_|apply keep_drewN|apply keep_drew|apply keep_alloc|refine keep_far ?_ GW285.out _|refine keep_far ?_ GW303.out _)|exact HK.out)) (KeepBut.of_below hb g none) (.inl rfl))
    have n8_:=mk0 (below_step (by repeat (first|(with_reducible first|exact HB.out|apply aZ|apply nZ|apply dZ|refine sZ ?_ (IsS62.ge HI0.out)|refine sZ ?_ GE285.out|refine sZ ?_ GE303.out)|exact HB.out)) hb)
    clear HO288
    clear HO295
    clear HO301
    clear HI0
    clear BK285
    clear BK303
    clear HK
    clear HB
    have HO288:=n0_
    have HO295:=n1_
    have HO301:=n2_
    have HO312:=n3_
    have HI0:=n4_
    have BK285:=n5_
    have BK303:=n6_
    have HK:=n7_
    have HB:=n8_
    clear n0_ n1_ n2_ n3_ n4_ n5_ n6_ n7_ n8_
    clear hb ho31
    obtain⟨Ao32,co32,eo32⟩:=Kd.R_slice HO312.out
    subst eo32
    obtain⟨ado32,fo32,_⟩:=Kd.at_int (Kd.R_reads' HO312.out).2.2 0 (by decide) (by rw [Ny310.out];simp)
    cases fo32
    refine hK.out _ _ ⟨(blk_cell BK303.out 0).trans rfl,(blk_cell BK303.out 1).trans rfl⟩ (fun hHeld=>?_)
    clear hK K
    refine norm_ (a':=?_) ?_ ?_
    rotate_left
    ·show Act.put _ (some 28) _ = _
     simp only [Act.put,sA,sO,sS,i64_w,i32_w]
     rfl
    exact norm_ (by simp only [putAll,Act.put,sA,sO,sS]) (hCont (.slice (some ado32) y310.length co32,ado32) _ ⟨hHeld,(by (with_reducible repeat (first|apply aR|apply nR|apply dR));exact Kd.R_mono HO288.out (fun _ hk=>⟨hk.1.1.2,⟨hk.1.2,hk.2⟩⟩)),(by (with_reducible repeat (first|apply aR|apply nR|apply dR));exact Kd.R_mono HO295.out (fun _ hk=>⟨hk.1.1.2,⟨hk.1.2,hk.2⟩⟩)),(by (with_reducible repeat (first|apply aR|apply nR|apply dR));exact Kd.R_mono HO301.out (fun _ hk=>⟨hk.1.1.2,⟨hk.1.2,hk.2⟩⟩)),(by (with_reducible repeat (first|apply aR|apply nR|apply dR));exact Kd.R_mono HO312.out (fun _ hk=>⟨hk.1.1.2,⟨hk.1.2,hk.2⟩⟩)),⟨_,rfl⟩,(by (with_reducible repeat (first|apply nB|apply dB|apply aB));exact BK285.out),(by (with_reducible repeat (first|apply nB|apply dB|apply aB));exact BK303.out),(by repeat (first|(with_reducible first|exact HI0.out|apply IsS62.alloc|apply IsS62.drewN|apply IsS62.drew|apply IsS62.set_1|apply IsS62.set_2|refine IsS62.far ?_ NB0_285.out _|refine IsS62.far ?_ NB0_303.out _)|exact HI0.out)),(by repeat (first|(with_reducible first|exact HK.out|apply KeepBut.set_|apply keep_drewN|apply keep_drew|apply keep_alloc|refine keep_far ?_ GW285.out _|refine keep_far ?_ GW303.out _)|exact HK.out)),(by repeat (first|(with_reducible first|exact HB.out|apply aZ|apply nZ|apply dZ|refine sZ ?_ (IsS62.ge HI0.out)|refine sZ ?_ GE285.out|refine sZ ?_ GE303.out)|exact HB.out))⟩)
  rintro⟨v311,adz_v311⟩ w33 ⟨hS_,h0_,h1_,h2_,h3_,h4_,h5_,h6_,h7_,h8_,h9_⟩
  have n0_:Aside0 (Kd.R (Kd.int .i64) 3 w33 w.heap.size (fun k_=>some k_ ≠ (.slice Ao19 t293.length co19:Value).ownBlock ∧ some k_ ≠ (.slice Ao25 t299.length co25:Value).ownBlock ∧ some k_ ≠ (v311:Value).ownBlock) (.slice (some ad292) y286.length co17) y286):=⟨h0_⟩
  have n1_:Aside0 (Kd.R (Kd.int .i64) 3 w33 w.heap.size (fun k_=>some k_ ≠ (.slice (some ad292) y286.length co17:Value).ownBlock ∧ some k_ ≠ (.slice Ao25 t299.length co25:Value).ownBlock ∧ some k_ ≠ (v311:Value).ownBlock) (.slice Ao19 t293.length co19) t293):=⟨h1_⟩
  have n2_:Aside0 (Kd.R (Kd.int .i64) 3 w33 w.heap.size (fun k_=>some k_ ≠ (.slice (some ad292) y286.length co17:Value).ownBlock ∧ some k_ ≠ (.slice Ao19 t293.length co19:Value).ownBlock ∧ some k_ ≠ (v311:Value).ownBlock) (.slice Ao25 t299.length co25) t299):=⟨h2_⟩
  have n3_:Aside0 (Kd.R (Kd.int .i64) 3 w33 w.heap.size (fun k_=>some k_ ≠ (.slice (some ad292) y286.length co17:Value).ownBlock ∧ some k_ ≠ (.slice Ao19 t293.length co19:Value).ownBlock ∧ some k_ ≠ (.slice Ao25 t299.length co25:Value).ownBlock) v311 y310):=⟨h3_⟩
  have n4_:Aside0 (∃ c_,(v311:Value) = .slice (some adz_v311) y310.length c_):=⟨h4_⟩
  have n5_:Aside0 (w33.heap[gb285]? = some (.cells #[.int .i64 0,.slice none 0 0] 24 (0,0))):=⟨h5_⟩
  have n6_:Aside0 (w33.heap[gb303]? = some (.cells #[.int .i64 t298,.slice Ao25 t299.length co25] 24 (0,0))):=⟨h6_⟩
  have n7_:Aside0 (IsS62 w0 w33 g s0_0 t314 t315):=⟨h7_⟩
  have n8_:Aside0 (KeepBut w w33 g none):=⟨h8_⟩
  have n9_:Aside0 (Below w0.heap.size w0 w33):=⟨h9_⟩
  clear HO288
  clear HO295
  clear HO301
  clear BK285
  clear BK303
  clear HI0
  clear HK
  clear HB
  clear h0_ h1_ h2_ h3_ h4_ h5_ h6_ h7_ h8_ h9_
  have HO288:=n0_
  have HO295:=n1_
  have HO301:=n2_
  have HO312:=n3_
  have HA_HO312:=n4_
  have BK285:=n5_
  have BK303:=n6_
  have HI0:=n7_
  have HK:=n8_
  have HB:=n9_
  clear n0_ n1_ n2_ n3_ n4_ n5_ n6_ n7_ n8_ n9_
  have hHeld:w33.cell? ⟨gb303,0,none⟩ = some (.int .i64 t298) ∧ w33.cell? ⟨gb303,1,none⟩ = some (.slice Ao25 t299.length co25):=hS_
  obtain⟨co34,eo34⟩:=HA_HO312.out
  clear HA_HO312
  subst eo34
  refine norm_ (a':=?_) ?_ ?_
  rotate_left
  ·simp only [putAll,Act.put,sA,sO,sS]
   rfl
  refine pure_ (i:=11) (N:=some 31) (v:=?_) (a':=?_) spec_l01Cur_mins.m13 rfl rfl (any_of HT_.out (by kernel_rfl)) (fun _ _ _ h=>h) (Or.inl ⟨by rfl,?_⟩) ?_ ?_
  rotate_left
  ·intro w'
   go_simp
   with_reducible rfl
  rotate_left
  ·simp only [Act.put,sA,sO,sS,i64_w,i32_w]
   rfl
  refine one_ (i:=12) (N:=some 32) spec_l01Cur_mins.m14 rfl rfl (one_of HT_.out (by kernel_rfl)) (by decide) (fun K hK=>?_)
  (have p316:0 ≤ (t313:Int):=of_decide_eq_true (by first|(with_reducible assumption)|assumption);have q316:t313 < (y310.length:Int):=of_decide_eq_true (by first|(with_reducible assumption)|assumption);obtain⟨ad316,e316,hx316_0⟩:=Kd.at_int (Kd.R_reads' HO312.out).2.2 t313 p316 q316;obtain rfl:adz_v311 = ad316:=(by injection e316))
  refine value_ (w1:=?_) (v:=?_) (by rfl) rfl ?_ ?_
  rotate_left 2
  ·go_simp
   constructor
   ·rfl
   ·rfl
  clear hx316_0
  refine hK.out _ _ ⟨(blk_cell BK303.out 0).trans rfl,(blk_cell BK303.out 1).trans rfl⟩ (fun hHeld=>?_)
  clear hK K
  refine norm_ (a':=?_) ?_ ?_
  rotate_left
  ·show Act.put _ (some 32) _ = _
   simp only [Act.put,sA,sO,sS,i64_w,i32_w]
   rfl
  refine pure_ (i:=13) (N:=some 33) (v:=?_) (a':=?_) spec_l01Cur_mins.m15 rfl rfl (any_of HT_.out (by kernel_rfl)) (fun _ _ _ h=>h) (Or.inl ⟨by rfl,?_⟩) ?_ ?_
  rotate_left
  ·intro w'
   go_simp
   with_reducible rfl
  rotate_left
  ·simp only [Act.put,sA,sO,sS,i64_w,i32_w]
   rfl
  refine last_ (i:=14) (N:=none) spec_l01Cur_mins.m16 rfl rfl (one_of HT_.out (by kernel_rfl)) (by decide) (fun K hK=>?_)
  have hs35:w33.cell? ⟨gb303,0,none⟩ = some (.int .i64 t298):=(blk_cell BK303.out 0).trans rfl
  have hfs35:=blk_frozen BK303.out 0
  have hns35_0:=NB285_303.out
  have hms35_0:=NB303_285.out
  refine skip_ (w1:=?_) (by rfl) rfl ?_ ?_
  rotate_left
  ·go_simp
   rfl
  refine hK.out _ _ ?_
  clear hK K
  refine done_ (done_of HT_.out (by kernel_rfl)) ?_
  have hcz36_0:w33.cell? ⟨gb303,0,none⟩ = some (.int .i64 t298):=(blk_cell BK303.out 0).trans rfl
  have hcz36_1:w33.cell? ⟨gb303,1,none⟩ = some (.slice Ao25 t299.length co25):=(blk_cell BK303.out 1).trans rfl
  have hfz36_0:=blk_frozen BK303.out 0
  have hfz36_1:=blk_frozen BK303.out 1
  have hnb37:=NB285_0.out
  have hnc37:=NB0_285.out
  have hcz38_0:w33.cell? ⟨gb285,0,none⟩ = some (.int .i64 0):=(blk_cell BK285.out 0).trans rfl
  have hcz38_1:w33.cell? ⟨gb285,1,none⟩ = some (.slice none 0 0):=(blk_cell BK285.out 1).trans rfl
  have hfz38_0:=blk_frozen BK285.out 0
  have hfz38_1:=blk_frozen BK285.out 1
  try go_wp2
  refine bodyPost_ret (results_cell_row rfl _ _ gb285 24 #[.int .i64 (rd y310 t313),.slice Ao25 t299.length co25] (0,0) _ rfl (by (with_reducible repeat (first|apply nB|apply dB|apply aB));refine blk_put (cs:=#[.int .i64 (rd y310 t313),.slice none 0 0]) ?_ 1 _ rfl;(with_reducible repeat (first|apply nB|apply dB|apply aB));refine blk_put (cs:=#[.int .i64 0,.slice none 0 0]) ?_ 0 _ rfl;(with_reducible repeat (first|apply nB|apply dB|apply aB));refine blk_far ?_ NB285_303.out _;(with_reducible repeat (first|apply nB|apply dB|apply aB));exact BK285.out) Try.underlying24 rfl (by kernel_rfl)) rfl ?_
  exact⟨_,by first|rfl|(simp [errW_none,errW_some] <;> rfl)|(simp [*,errW_none,errW_some] <;> rfl),by (with_reducible repeat (first|apply aR|apply nR|apply dR));exact Kd.R_mono (Kd.R_far (p:=⟨gb285,1,none⟩) (Kd.R_far (p:=⟨gb285,0,none⟩) (Kd.R_far (p:=⟨gb303,0,none⟩) (Kd.R_types (Kd.R_types HO301.out BK303.out (by decide)) BK285.out (by decide)) (fun _ hk=>hk.1.2) (.int .i64 (rd y310 t313))) (fun _ hk=>hk.2) (.int .i64 (rd y310 t313))) (fun _ hk=>hk.2) (.slice Ao25 t299.length co25)) (fun _ hk=>trivial),by repeat (first|(with_reducible first|exact HI0.out|apply IsS62.alloc|apply IsS62.drewN|apply IsS62.drew|apply IsS62.set_1|apply IsS62.set_2|refine IsS62.far ?_ NB0_285.out _|refine IsS62.far ?_ NB0_303.out _)|exact HI0.out),by repeat (first|(with_reducible first|exact HB.out|apply aZ|apply nZ|apply dZ|refine sZ ?_ (IsS62.ge HI0.out)|refine sZ ?_ GE285.out|refine sZ ?_ GE303.out)|exact HB.out),by repeat (first|(with_reducible first|exact HK.out|apply KeepBut.set_|apply keep_drewN|apply keep_drew|apply keep_alloc|refine keep_far ?_ GW285.out _|refine keep_far ?_ GW303.out _)|exact HK.out)⟩
 rw [if_neg c8] at H
 have c8b0:(t304 == 0) = false:=beq_eq_false_iff_ne.mpr c8
 have c8b1:(t304 != 0) = true:=bne_iff_ne.mpr c8
 by_cases c39:t304 = 1
 rotate_left
 ·rw [if_neg c39] at H
  have c39b0:(t304 == 1) = false:=beq_eq_false_iff_ne.mpr c39
  have c39b1:(t304 != 1) = true:=bne_iff_ne.mpr c39
  by_cases c78:t304 = 2
  rotate_left
  ·rw [if_neg c78] at H
   have c78b0:(t304 == 2) = false:=beq_eq_false_iff_ne.mpr c78
   have c78b1:(t304 != 2) = true:=bne_iff_ne.mpr c78
   simp only [Option.some.injEq,Prod.mk.injEq] at H
   obtain⟨rfl,rfl,rfl,rfl⟩:=H
   go_enter Try.func50,Try.ntmps50
   go_wp2_with (first|((with_reducible refine gate_dst (N:=2) rfl ?_);refine box_event ?hg (N:=2) ?hd (cs:=#[.int .i64 0,.slice none 0 0]) (t:=24) ?hr ?_;(case hd=>rfl);(case hg=>rfl);(case hr=>first|(go_simp;done)|(go_simp;rfl));intro gb285 hg w100 hbox hb;have n0_:=mk0 (IsS62.below (by repeat (first|(with_reducible first|exact HI0.out|apply IsS62.alloc|apply IsS62.drewN|apply IsS62.drew|apply IsS62.set_1|apply IsS62.set_2)|exact HI0.out)) hb);have n1_:=mk0 (KeepBut.trans (by repeat (first|(with_reducible first|exact HK.out|apply KeepBut.set_|apply keep_drewN|apply keep_drew|apply keep_alloc)|exact HK.out)) (KeepBut.of_below hb g none) (.inl rfl));have n2_:=mk0 (below_step (by repeat (first|(with_reducible first|exact HB.out|apply aZ|apply nZ|apply dZ|refine sZ ?_ (IsS62.ge HI0.out))|exact HB.out)) hb);have n3_:=mk0 (hbox);have n4_:=mk0 ((by rw [hg];exact (keep_size (w:=w) (g:=g) (row:=none) (by repeat (first|(with_reducible first|exact HK.out|apply KeepBut.set_|apply keep_drewN|apply keep_drew|apply keep_alloc)|exact HK.out))):w.heap.size ≤ gb285));have n5_:=mk0 ((Nat.le_trans HW0.out (by rw [hg];exact (keep_size (w:=w) (g:=g) (row:=none) (by repeat (first|(with_reducible first|exact HK.out|apply KeepBut.set_|apply keep_drewN|apply keep_drew|apply keep_alloc)|exact HK.out))):w.heap.size ≤ gb285):w0.heap.size ≤ gb285));have n6_:=mk0 ((by rw [hg];exact Nat.ne_of_lt (IsS62.lt (show IsS62 w0 _ g s0_0 s0_1 s0_2 from by repeat (first|(with_reducible first|exact HI0.out|apply IsS62.alloc|apply IsS62.drewN|apply IsS62.drew|apply IsS62.set_1|apply IsS62.set_2)|exact HI0.out))):g ≠ gb285));have n7_:=mk0 ((by rw [hg];exact Nat.ne_of_gt (IsS62.lt (show IsS62 w0 _ g s0_0 s0_1 s0_2 from by repeat (first|(with_reducible first|exact HI0.out|apply IsS62.alloc|apply IsS62.drewN|apply IsS62.drew|apply IsS62.set_1|apply IsS62.set_2)|exact HI0.out))):gb285 ≠ g));clear HI0 HK HB;have HI0:=n0_;have HK:=n1_;have HB:=n2_;have BK285:=n3_;have GW285:=n4_;have GE285:=n5_;have NB0_285:=n6_;have NB285_0:=n7_;clear n0_ n1_ n2_ n3_ n4_ n5_ n6_ n7_ hb hbox hg)|((with_reducible refine gate_dst (N:=7) rfl ?_);refine Kd.R_lit (Kd.int .i64) _ 3 ?hg (N:=7) ?hd (xs:=([3,30,1000]:List Int)) (inner:=[.int .i64 3,.int .i64 30,.int .i64 1000]) (ok:=fun _=>True) (okp:=fun _=>True) ?hr ?hp (fun _ hk=>hk) trivial (Below.refl _ _) (Nat.le_refl _) (by simp) ?_;(case hd=>rfl);(case hg=>rfl);(case hr=>first|(go_simp;done)|(go_simp;rfl));(case hp=>exact (Reps.one (show Kd.M (Kd.int .i64) _ _ _ 3 [.int .i64 3] from rfl) (Reps.one (show Kd.M (Kd.int .i64) _ _ _ 30 [.int .i64 30] from rfl) (Reps.one (show Kd.M (Kd.int .i64) _ _ _ 1000 [.int .i64 1000] from rfl) (Reps.none _ _)))));intro v287 w101 ho102 hb hg_ hnew_;clear hg_ hnew_;(first|rw [← Ny286.out] at ho102|(simp only [Int.reduceToNat] at ho102;rw [← Ny286.out] at ho102));have n0_:=mk0 (Kd.R_lower ho102 (keep_size (w:=w) (g:=g) (row:=none) (by repeat (first|(with_reducible first|exact HK.out|apply KeepBut.set_|apply keep_drewN|apply keep_drew|apply keep_alloc|refine keep_far ?_ GW285.out _)|exact HK.out))));have n1_:=mk0 (IsS62.below (by repeat (first|(with_reducible first|exact HI0.out|apply IsS62.alloc|apply IsS62.drewN|apply IsS62.drew|apply IsS62.set_1|apply IsS62.set_2|refine IsS62.far ?_ NB0_285.out _)|exact HI0.out)) hb);have n2_:=mk0 (blk_below (g:=gb285) (o:=.cells #[.int .i64 0,.slice none 0 0] 24 (0,0)) (by (with_reducible repeat (first|apply nB|apply dB|apply aB));exact BK285.out) hb);have n3_:=mk0 (KeepBut.trans (by repeat (first|(with_reducible first|exact HK.out|apply KeepBut.set_|apply keep_drewN|apply keep_drew|apply keep_alloc|refine keep_far ?_ GW285.out _)|exact HK.out)) (KeepBut.of_below hb g none) (.inl rfl));have n4_:=mk0 (below_step (by repeat (first|(with_reducible first|exact HB.out|apply aZ|apply nZ|apply dZ|refine sZ ?_ (IsS62.ge HI0.out)|refine sZ ?_ GE285.out)|exact HB.out)) hb);clear HI0 BK285 HK HB;have HO288:=n0_;have HI0:=n1_;have BK285:=n2_;have HK:=n3_;have HB:=n4_;clear n0_ n1_ n2_ n3_ n4_ hb ho102)|((with_reducible refine gate_callee (f:=52) rfl ?_);refine goesL_ (some 9) rfl rfl Try.func52 (by kernel_rfl) rfl #[.pointer (some ⟨g,0,none⟩),.int .i64 3] rfl (by (try simp only [mA,mC,mN]);first|done|rfl|(simp only [List.length_drop,List.length_take];rfl)) ?_;(with_reducible refine (spec_l01Cur_pick.calls g s0_0 s0_1 s0_2 3 t289 t290 t291 w0 _ ?side1 ?side2 A2.out).mono ?_);(case side1=>repeat (first|(with_reducible first|exact HI0.out|apply IsS62.alloc|apply IsS62.drewN|apply IsS62.drew|apply IsS62.set_1|apply IsS62.set_2|refine IsS62.far ?_ NB0_285.out _)|exact HI0.out));(case side2=>repeat (first|(with_reducible first|exact HB.out|apply aZ|apply nZ|apply dZ|refine sZ ?_ (IsS62.ge HI0.out)|refine sZ ?_ GE285.out)|exact HB.out));rintro e w103 ⟨rfl,hi,hb,hk⟩;refine⟨_,rfl,?_⟩;have n0_:=mk0 (KeepBut.blk hk (g':=gb285) (o:=.cells #[.int .i64 0,.slice none 0 0] 24 (0,0)) (by (with_reducible repeat (first|apply nB|apply dB|apply aB));exact BK285.out) NB285_0.out (by simp));have n1_:=mk0 (Kd.R_mono (Kd.R_keep (IsS62.apart (show IsS62 w0 _ g s0_0 s0_1 s0_2 from by repeat (first|(with_reducible first|exact HI0.out|apply IsS62.alloc|apply IsS62.drewN|apply IsS62.drew|apply IsS62.set_1|apply IsS62.set_2|refine IsS62.far ?_ NB0_285.out _)|exact HI0.out)) (by (with_reducible repeat (first|apply aR|apply nR|apply dR));exact HO288.out) (by decide)) hk (fun _ h=>h.2)) (fun _ h=>h.1));have n2_:=mk0 (KeepBut.trans (by repeat (first|(with_reducible first|exact HK.out|apply KeepBut.set_|apply keep_drewN|apply keep_drew|apply keep_alloc|refine keep_far ?_ GW285.out _)|exact HK.out)) hk (.inl rfl));have n3_:=mk0 (hb);have n4_:=mk0 (hi);clear BK285 HO288 HK HB HI0;have BK285:=n0_;have HO288:=n1_;have HK:=n2_;have HB:=n3_;have HI0:=n4_;clear n0_ n1_ n2_ n3_ n4_;(try clear hb);(try clear hb2);(try clear hk);(try clear hi);obtain⟨Ao104,co104,eo104⟩:=Kd.R_slice HO288.out;subst eo104;have p292:0 ≤ (t289:Int):=of_decide_eq_true (by first|(with_reducible assumption)|assumption);have q292:t289 < (y286.length:Int):=of_decide_eq_true (by first|(with_reducible assumption)|assumption);obtain⟨ad292,e292,hx292_0⟩:=Kd.at_int (Kd.R_reads' HO288.out).2.2 t289 p292 q292;cases e292;replace p292:=eq_true p292;replace q292:=eq_true q292)|((with_reducible refine gate_callee (f:=60) rfl ?_);refine goesL_ (some 12) rfl rfl Try.func60 (by kernel_rfl) rfl #[.pointer (some ⟨g,0,none⟩),.int .i64 20,.int .i64 (rd y286 t289)] rfl (by (try simp only [mA,mC,mN]);first|done|rfl|(simp only [List.length_drop,List.length_take];rfl)) ?_;(with_reducible refine (spec_l01Cur_numbers.calls k g s0_0 t290 t291 20 (rd y286 t289) t293 t296 t297 w0 _ ?side1 ?side2 A5.out).mono ?_);(case side1=>repeat (first|(with_reducible first|exact HI0.out|apply IsS62.alloc|apply IsS62.drewN|apply IsS62.drew|apply IsS62.set_1|apply IsS62.set_2|refine IsS62.far ?_ NB0_285.out _)|exact HI0.out));(case side2=>repeat (first|(with_reducible first|exact HB.out|apply aZ|apply nZ|apply dZ|refine sZ ?_ (IsS62.ge HI0.out)|refine sZ ?_ GE285.out)|exact HB.out));rintro e w105 ⟨v294,rfl,ho0,hi,hb,hk⟩;refine⟨_,rfl,?_⟩;have n0_:=mk0 (KeepBut.blk hk (g':=gb285) (o:=.cells #[.int .i64 0,.slice none 0 0] 24 (0,0)) (by (with_reducible repeat (first|apply nB|apply dB|apply aB));exact BK285.out) NB285_0.out (by simp));have n1_:=mk0 (Kd.R_mono (Kd.R_told (Kd.R_oldK (IsS62.apart (show IsS62 w0 _ g s0_0 t290 t291 from by repeat (first|(with_reducible first|exact HI0.out|apply IsS62.alloc|apply IsS62.drewN|apply IsS62.drew|apply IsS62.set_1|apply IsS62.set_2|refine IsS62.far ?_ NB0_285.out _)|exact HI0.out)) (by (with_reducible repeat (first|apply aR|apply nR|apply dR));exact HO288.out) (by decide)) hk) (Kd.R_base ho0)) (fun _ h_=>h_.1));have n2_:=mk0 (Kd.R_lower (Kd.R_new' ho0 (Kd.R_lt (by (with_reducible repeat (first|apply aR|apply nR|apply dR));exact HO288.out))) (keep_size (w:=w) (g:=g) (row:=none) (by repeat (first|(with_reducible first|exact HK.out|apply KeepBut.set_|apply keep_drewN|apply keep_drew|apply keep_alloc|refine keep_far ?_ GW285.out _)|exact HK.out))));have n3_:=mk0 (KeepBut.trans (by repeat (first|(with_reducible first|exact HK.out|apply KeepBut.set_|apply keep_drewN|apply keep_drew|apply keep_alloc|refine keep_far ?_ GW285.out _)|exact HK.out)) hk (.inl rfl));have n4_:=mk0 (hb);have n5_:=mk0 (hi);clear BK285 HO288 HK HB HI0;have BK285:=n0_;have HO288:=n1_;have HO295:=n2_;have HK:=n3_;have HB:=n4_;have HI0:=n5_;clear n0_ n1_ n2_ n3_ n4_ n5_;(try clear hb);(try clear hb2);(try clear hk);(try clear hi);(try clear ho0);obtain⟨Ao106,co106,eo106⟩:=Kd.R_slice HO295.out;subst eo106)|((with_reducible refine gate_callee (f:=11) rfl ?_);refine goesL_ (some 13) rfl rfl Try.func11 (by kernel_rfl) rfl #[.slice Ao106 t293.length co106] rfl (by (try simp only [mA,mC,mN]);first|done|rfl|(simp only [List.length_drop,List.length_take];rfl)) ?_;(with_reducible refine (spec_MinsOf.calls k _ _ t293 t298 t299 t302 _ ?side1 ?side2 A6.out).mono ?_);(case side1=>repeat (first|exact (Kd.R_reads' HO295.out).2.2|(with_reducible first|apply aC|apply nC|apply dC)));(case side2=>exact (Kd.R_reads' HO295.out).2.1);rintro e w107 ⟨v300,rfl,ho0,hb⟩;refine⟨_,rfl,?_⟩;have n0_:=mk0 (Kd.R_elder' (by (with_reducible repeat (first|apply aR|apply nR|apply dR));exact HO288.out) (Kd.R_base ho0) hb);have n1_:=mk0 (Kd.R_elder' (by (with_reducible repeat (first|apply aR|apply nR|apply dR));exact HO295.out) (Kd.R_base ho0) hb);have n2_:=mk0 (Kd.R_lower (Kd.R_new' (Kd.R_new' ho0 (Kd.R_lt (by (with_reducible repeat (first|apply aR|apply nR|apply dR));exact HO288.out))) (Kd.R_lt (by (with_reducible repeat (first|apply aR|apply nR|apply dR));exact HO295.out))) (keep_size (w:=w) (g:=g) (row:=none) (by repeat (first|(with_reducible first|exact HK.out|apply KeepBut.set_|apply keep_drewN|apply keep_drew|apply keep_alloc|refine keep_far ?_ GW285.out _)|exact HK.out))));have n3_:=mk0 (IsS62.below (by repeat (first|(with_reducible first|exact HI0.out|apply IsS62.alloc|apply IsS62.drewN|apply IsS62.drew|apply IsS62.set_1|apply IsS62.set_2|refine IsS62.far ?_ NB0_285.out _)|exact HI0.out)) hb);have n4_:=mk0 (blk_below (g:=gb285) (o:=.cells #[.int .i64 0,.slice none 0 0] 24 (0,0)) (by (with_reducible repeat (first|apply nB|apply dB|apply aB));exact BK285.out) hb);have n5_:=mk0 (KeepBut.trans (by repeat (first|(with_reducible first|exact HK.out|apply KeepBut.set_|apply keep_drewN|apply keep_drew|apply keep_alloc|refine keep_far ?_ GW285.out _)|exact HK.out)) (KeepBut.of_below hb g none) (.inl rfl));have n6_:=mk0 (below_step (by repeat (first|(with_reducible first|exact HB.out|apply aZ|apply nZ|apply dZ|refine sZ ?_ (IsS62.ge HI0.out)|refine sZ ?_ GE285.out)|exact HB.out)) hb);clear HO288 HO295 HI0 BK285 HK HB;have HO288:=n0_;have HO295:=n1_;have HO301:=n2_;have HI0:=n3_;have BK285:=n4_;have HK:=n5_;have HB:=n6_;clear n0_ n1_ n2_ n3_ n4_ n5_ n6_;(try clear hb);(try clear hb2);(try clear hk);(try clear hi);(try clear ho0))|((with_reducible refine gate_dst (N:=3) rfl ?_);refine box_event ?hg (N:=3) ?hd (cs:=#[.int .i64 0,.slice none 0 0]) (t:=24) ?hr ?_;(case hd=>rfl);(case hg=>rfl);(case hr=>first|(go_simp;done)|(go_simp;rfl));intro gb303 hg w108 hbox hb;have n0_:=mk0 (Kd.R_below (by (with_reducible repeat (first|apply aR|apply nR|apply dR));exact HO288.out) hb);have n1_:=mk0 (Kd.R_below (by (with_reducible repeat (first|apply aR|apply nR|apply dR));exact HO295.out) hb);have n2_:=mk0 (Kd.R_below (by (with_reducible repeat (first|apply aR|apply nR|apply dR));exact HO301.out) hb);have n3_:=mk0 (IsS62.below (by repeat (first|(with_reducible first|exact HI0.out|apply IsS62.alloc|apply IsS62.drewN|apply IsS62.drew|apply IsS62.set_1|apply IsS62.set_2|refine IsS62.far ?_ NB0_285.out _)|exact HI0.out)) hb);have n4_:=mk0 (blk_below (g:=gb285) (o:=.cells #[.int .i64 0,.slice none 0 0] 24 (0,0)) (by (with_reducible repeat (first|apply nB|apply dB|apply aB));exact BK285.out) hb);have n5_:=mk0 (KeepBut.trans (by repeat (first|(with_reducible first|exact HK.out|apply KeepBut.set_|apply keep_drewN|apply keep_drew|apply keep_alloc|refine keep_far ?_ GW285.out _)|exact HK.out)) (KeepBut.of_below hb g none) (.inl rfl));have n6_:=mk0 (below_step (by repeat (first|(with_reducible first|exact HB.out|apply aZ|apply nZ|apply dZ|refine sZ ?_ (IsS62.ge HI0.out)|refine sZ ?_ GE285.out)|exact HB.out)) hb);have n7_:=mk0 (hbox);have n8_:=mk0 ((by rw [hg];exact (keep_size (w:=w) (g:=g) (row:=none) (by repeat (first|(with_reducible first|exact HK.out|apply KeepBut.set_|apply keep_drewN|apply keep_drew|apply keep_alloc|refine keep_far ?_ GW285.out _)|exact HK.out))):w.heap.size ≤ gb303));have n9_:=mk0 ((Nat.le_trans HW0.out (by rw [hg];exact (keep_size (w:=w) (g:=g) (row:=none) (by repeat (first|(with_reducible first|exact HK.out|apply KeepBut.set_|apply keep_drewN|apply keep_drew|apply keep_alloc|refine keep_far ?_ GW285.out _)|exact HK.out))):w.heap.size ≤ gb303):w0.heap.size ≤ gb303));have n10_:=mk0 ((by rw [hg];exact Nat.ne_of_lt (blk_lt (g:=gb285) (o:=.cells #[.int .i64 0,.slice none 0 0] 24 (0,0)) (by (with_reducible repeat (first|apply nB|apply dB|apply aB));exact BK285.out)):gb285 ≠ gb303));have n11_:=mk0 ((by rw [hg];exact Nat.ne_of_gt (blk_lt (g:=gb285) (o:=.cells #[.int .i64 0,.slice none 0 0] 24 (0,0)) (by (with_reducible repeat (first|apply nB|apply dB|apply aB));exact BK285.out)):gb303 ≠ gb285));have n12_:=mk0 ((by rw [hg];exact Nat.ne_of_lt (IsS62.lt (show IsS62 w0 _ g s0_0 t296 t297 from by repeat (first|(with_reducible first|exact HI0.out|apply IsS62.alloc|apply IsS62.drewN|apply IsS62.drew|apply IsS62.set_1|apply IsS62.set_2|refine IsS62.far ?_ NB0_285.out _)|exact HI0.out))):g ≠ gb303));have n13_:=mk0 ((by rw [hg];exact Nat.ne_of_gt (IsS62.lt (show IsS62 w0 _ g s0_0 t296 t297 from by repeat (first|(with_reducible first|exact HI0.out|apply IsS62.alloc|apply IsS62.drewN|apply IsS62.drew|apply IsS62.set_1|apply IsS62.set_2|refine IsS62.far ?_ NB0_285.out _)|exact HI0.out))):gb303 ≠ g));clear HO288 HO295 HO301 HI0 BK285 HK HB;have HO288:=n0_;have HO295:=n1_;have HO301:=n2_;have HI0:=n3_;have BK285:=n4_;have HK:=n5_;have HB:=n6_;have BK303:=n7_;have GW303:=n8_;have GE303:=n9_;have NB285_303:=n10_;have NB303_285:=n11_;have NB0_303:=n12_;have NB303_0:=n13_;clear n0_ n1_ n2_ n3_ n4_ n5_ n6_ n7_ n8_ n9_ n10_ n11_ n12_ n13_ hb hbox hg;have hnb109:=NB303_285.out;have hnc109:=NB285_303.out;have hnb110:=NB303_0.out;have hnc110:=NB0_303.out;have hcz111_0:w108.cell? ⟨gb303,0,none⟩ = some (.int .i64 0):=(blk_cell BK303.out 0).trans rfl;have hcz111_1:w108.cell? ⟨gb303,1,none⟩ = some (.slice none 0 0):=(blk_cell BK303.out 1).trans rfl;have hfz111_0:=blk_frozen BK303.out 0;have hfz111_1:=blk_frozen BK303.out 1;obtain⟨Ao112,co112,eo112⟩:=Kd.R_slice HO301.out;subst eo112)|((with_reducible refine gate_callee (f:=52) rfl ?_);refine goesL_ (some 17) rfl rfl Try.func52 (by kernel_rfl) rfl #[.pointer (some ⟨g,0,none⟩),.int .i64 12] rfl (by (try simp only [mA,mC,mN]);first|done|rfl|(simp only [List.length_drop,List.length_take];rfl)) ?_;(with_reducible refine (spec_l01Cur_pick.calls g s0_0 t296 t297 12 t304 t305 t306 w0 _ ?side1 ?side2 A7.out).mono ?_);(case side1=>repeat (first|(with_reducible first|exact HI0.out|apply IsS62.alloc|apply IsS62.drewN|apply IsS62.drew|apply IsS62.set_1|apply IsS62.set_2|refine IsS62.far ?_ NB0_285.out _|refine IsS62.far ?_ NB0_303.out _)|exact HI0.out));(case side2=>repeat (first|(with_reducible first|exact HB.out|apply aZ|apply nZ|apply dZ|refine sZ ?_ (IsS62.ge HI0.out)|refine sZ ?_ GE285.out|refine sZ ?_ GE303.out)|exact HB.out));rintro e w113 ⟨rfl,hi,hb,hk⟩;refine⟨_,rfl,?_⟩;have n0_:=mk0 (KeepBut.blk hk (g':=gb285) (o:=.cells #[.int .i64 0,.slice none 0 0] 24 (0,0)) (by (with_reducible repeat (first|apply nB|apply dB|apply aB));refine blk_far ?_ NB285_303.out _;(with_reducible repeat (first|apply nB|apply dB|apply aB));refine blk_far ?_ NB285_303.out _;(with_reducible repeat (first|apply nB|apply dB|apply aB));exact BK285.out) NB285_0.out (by simp));have n1_:=mk0 (Kd.R_mono (Kd.R_keep (IsS62.apart (show IsS62 w0 _ g s0_0 t296 t297 from by repeat (first|(with_reducible first|exact HI0.out|apply IsS62.alloc|apply IsS62.drewN|apply IsS62.drew|apply IsS62.set_1|apply IsS62.set_2|refine IsS62.far ?_ NB0_285.out _|refine IsS62.far ?_ NB0_303.out _)|exact HI0.out)) (by (with_reducible repeat (first|apply aR|apply nR|apply dR));exact (Kd.R_mono (Kd.R_far (p:=⟨gb303,1,none⟩) (Kd.R_far (p:=⟨gb303,0,none⟩) (Kd.R_types HO288.out BK303.out (by decide)) (fun _ hk=>hk.2) (.int .i64 t298)) (fun _ hk=>hk.2) (.slice Ao112 t299.length co112)) (fun _ h_=>h_.1))) (by decide)) hk (fun _ h=>h.2)) (fun _ h=>h.1));have n2_:=mk0 (Kd.R_mono (Kd.R_keep (IsS62.apart (show IsS62 w0 _ g s0_0 t296 t297 from by repeat (first|(with_reducible first|exact HI0.out|apply IsS62.alloc|apply IsS62.drewN|apply IsS62.drew|apply IsS62.set_1|apply IsS62.set_2|refine IsS62.far ?_ NB0_285.out _|refine IsS62.far ?_ NB0_303.out _)|exact HI0.out)) (by (with_reducible repeat (first|apply aR|apply nR|apply dR));exact (Kd.R_mono (Kd.R_far (p:=⟨gb303,1,none⟩) (Kd.R_far (p:=⟨gb303,0,none⟩) (Kd.R_types HO295.out BK303.out (by decide)) (fun _ hk=>hk.2) (.int .i64 t298)) (fun _ hk=>hk.2) (.slice Ao112 t299.length co112)) (fun _ h_=>h_.1))) (by decide)) hk (fun _ h=>h.2)) (fun _ h=>h.1));have n3_:=mk0 (Kd.R_mono (Kd.R_keep (IsS62.apart (show IsS62 w0 _ g s0_0 t296 t297 from by repeat (first|(with_reducible first|exact HI0.out|apply IsS62.alloc|apply IsS62.drewN|apply IsS62.drew|apply IsS62.set_1|apply IsS62.set_2|refine IsS62.far ?_ NB0_285.out _|refine IsS62.far ?_ NB0_303.out _)|exact HI0.out)) (by (with_reducible repeat (first|apply aR|apply nR|apply dR));exact (Kd.R_mono (Kd.R_far (p:=⟨gb303,1,none⟩) (Kd.R_far (p:=⟨gb303,0,none⟩) (Kd.R_types HO301.out BK303.out (by decide)) (fun _ hk=>hk.2) (.int .i64 t298)) (fun _ hk=>hk.2) (.slice Ao112 t299.length co112)) (fun _ h_=>h_.1))) (by decide)) hk (fun _ h=>h.2)) (fun _ h=>h.1));have n4_:=mk0 (KeepBut.blk hk (g':=gb303) (o:=.cells #[.int .i64 t298,.slice Ao112 t299.length co112] 24 (0,0)) (by (with_reducible repeat (first|apply nB|apply dB|apply aB));refine blk_put (cs:=#[.int .i64 t298,.slice none 0 0]) ?_ 1 _ rfl;(with_reducible repeat (first|apply nB|apply dB|apply aB));refine blk_put (cs:=#[.int .i64 0,.slice none 0 0]) ?_ 0 _ rfl;(with_reducible repeat (first|apply nB|apply dB|apply aB));exact BK303.out) NB303_0.out (by simp));have n5_:=mk0 (KeepBut.trans (by repeat (first|(with_reducible first|exact HK.out|apply KeepBut.set_|apply keep_drewN|apply keep_drew|apply keep_alloc|refine keep_far ?_ GW285.out _|refine keep_far ?_ GW303.out _)|exact HK.out)) hk (.inl rfl));have n6_:=mk0 (hb);have n7_:=mk0 (hi);clear BK285 HO288 HO295 HO301 BK303 HK HB HI0;have BK285:=n0_;have HO288:=n1_;have HO295:=n2_;have HO301:=n3_;have BK303:=n4_;have HK:=n5_;have HB:=n6_;have HI0:=n7_;clear n0_ n1_ n2_ n3_ n4_ n5_ n6_ n7_;(try clear hb);(try clear hb2);(try clear hk);(try clear hi);have hcz114_0:w113.cell? ⟨gb303,0,none⟩ = some (.int .i64 t298):=(blk_cell BK303.out 0).trans rfl;have hcz114_1:w113.cell? ⟨gb303,1,none⟩ = some (.slice Ao112 t299.length co112):=(blk_cell BK303.out 1).trans rfl;have hfz114_0:=blk_frozen BK303.out 0;have hfz114_1:=blk_frozen BK303.out 1;have hnb115:=NB285_0.out;have hnc115:=NB0_285.out;have hcz116_0:w113.cell? ⟨gb285,0,none⟩ = some (.int .i64 0):=(blk_cell BK285.out 0).trans rfl;have hcz116_1:w113.cell? ⟨gb285,1,none⟩ = some (.slice none 0 0):=(blk_cell BK285.out 1).trans rfl;have hfz116_0:=blk_frozen BK285.out 0;have hfz116_1:=blk_frozen BK285.out 1))
   refine bodyPost_ret (results_cell_row rfl _ _ gb285 24 #[.int .i64 t298,.slice Ao112 t299.length co112] (0,0) _ rfl (by (with_reducible repeat (first|apply nB|apply dB|apply aB));refine blk_put (cs:=#[.int .i64 t298,.slice none 0 0]) ?_ 1 _ rfl;(with_reducible repeat (first|apply nB|apply dB|apply aB));refine blk_put (cs:=#[.int .i64 0,.slice none 0 0]) ?_ 0 _ rfl;(with_reducible repeat (first|apply nB|apply dB|apply aB));exact BK285.out) Try.underlying24 rfl (by kernel_rfl)) rfl ?_
   exact⟨_,by first|rfl|(simp [errW_none,errW_some] <;> rfl)|(simp [*,errW_none,errW_some] <;> rfl),by (with_reducible repeat (first|apply aR|apply nR|apply dR));exact Kd.R_mono (Kd.R_far (p:=⟨gb285,1,none⟩) (Kd.R_far (p:=⟨gb285,0,none⟩) (Kd.R_types HO301.out BK285.out (by decide)) (fun _ hk=>hk.2) (.int .i64 t298)) (fun _ hk=>hk.2) (.slice Ao112 t299.length co112)) (fun _ hk=>trivial),by repeat (first|(with_reducible first|exact HI0.out|apply IsS62.alloc|apply IsS62.drewN|apply IsS62.drew|apply IsS62.set_1|apply IsS62.set_2|refine IsS62.far ?_ NB0_285.out _|refine IsS62.far ?_ NB0_303.out _)|exact HI0.out),by repeat (first|(with_reducible first|exact HB.out|apply aZ|apply nZ|apply dZ|refine sZ ?_ (IsS62.ge HI0.out)|refine sZ ?_ GE285.out|refine sZ ?_ GE303.out)|exact HB.out),by repeat (first|(with_reducible first|exact HK.out|apply KeepBut.set_|apply keep_drewN|apply keep_drew|apply keep_alloc|refine keep_far ?_ GW285.out _|refine keep_far ?_ GW303.out _)|exact HK.out)⟩
  rw [if_pos c78] at H
  have c78b0:(t304 == 2) = true:=beq_iff_eq.mpr c78
  have c78b1:(t304 != 2) = false:=bne_eq_false_iff_eq.mpr c78
  clear c78
  by_cases c79:t299.length < 17592186044416
  rotate_left
  ·rw [if_neg c79] at H
   exact absurd H (by simp)
  rw [if_pos c79] at H
  have LMc79:=mk0 c79
  clear c79
  obtain⟨y334,hy334⟩:∃ y_:List Int,y_ = (t299 ++ [0]):=⟨_,rfl⟩
  replace H:(some (t298,y334,t305,t306)) = some (r1,r2,r3,r4):=by first|(rw [hy334];with_reducible exact H)|(have H2_:=(Option.bind_some _ _).symm.trans H;rw [hy334];with_reducible exact H2_)|(have H2_:=(Option.bind_some _ _).symm.trans H;with_reducible exact H2_)|with_reducible exact H|(rw [hy334];exact H)|exact H
  have Ny334:=mk0 hy334
  clear hy334
  simp only [Option.some.injEq,Prod.mk.injEq] at H
  obtain⟨rfl,rfl,rfl,rfl⟩:=H
  go_enter Try.func50,Try.ntmps50
  go_wp2_with (first|((with_reducible refine gate_dst (N:=2) rfl ?_);refine box_event ?hg (N:=2) ?hd (cs:=#[.int .i64 0,.slice none 0 0]) (t:=24) ?hr ?_;(case hd=>rfl);(case hg=>rfl);(case hr=>first|(go_simp;done)|(go_simp;rfl));intro gb285 hg w80 hbox hb;have n0_:=mk0 (IsS62.below (by repeat (first|(with_reducible first|exact HI0.out|apply IsS62.alloc|apply IsS62.drewN|apply IsS62.drew|apply IsS62.set_1|apply IsS62.set_2)|exact HI0.out)) hb);have n1_:=mk0 (KeepBut.trans (by repeat (first|(with_reducible first|exact HK.out|apply KeepBut.set_|apply keep_drewN|apply keep_drew|apply keep_alloc)|exact HK.out)) (KeepBut.of_below hb g none) (.inl rfl));have n2_:=mk0 (below_step (by repeat (first|(with_reducible first|exact HB.out|apply aZ|apply nZ|apply dZ|refine sZ ?_ (IsS62.ge HI0.out))|exact HB.out)) hb);have n3_:=mk0 (hbox);have n4_:=mk0 ((by rw [hg];exact (keep_size (w:=w) (g:=g) (row:=none) (by repeat (first|(with_reducible first|exact HK.out|apply KeepBut.set_|apply keep_drewN|apply keep_drew|apply keep_alloc)|exact HK.out))):w.heap.size ≤ gb285));have n5_:=mk0 ((Nat.le_trans HW0.out (by rw [hg];exact (keep_size (w:=w) (g:=g) (row:=none) (by repeat (first|(with_reducible first|exact HK.out|apply KeepBut.set_|apply keep_drewN|apply keep_drew|apply keep_alloc)|exact HK.out))):w.heap.size ≤ gb285):w0.heap.size ≤ gb285));have n6_:=mk0 ((by rw [hg];exact Nat.ne_of_lt (IsS62.lt (show IsS62 w0 _ g s0_0 s0_1 s0_2 from by repeat (first|(with_reducible first|exact HI0.out|apply IsS62.alloc|apply IsS62.drewN|apply IsS62.drew|apply IsS62.set_1|apply IsS62.set_2)|exact HI0.out))):g ≠ gb285));have n7_:=mk0 ((by rw [hg];exact Nat.ne_of_gt (IsS62.lt (show IsS62 w0 _ g s0_0 s0_1 s0_2 from by repeat (first|(with_reducible first|exact HI0.out|apply IsS62.alloc|apply IsS62.drewN|apply IsS62.drew|apply IsS62.set_1|apply IsS62.set_2)|exact HI0.out))):gb285 ≠ g));clear HI0 HK HB;have HI0:=n0_;have HK:=n1_;have HB:=n2_;have BK285:=n3_;have GW285:=n4_;have GE285:=n5_;have NB0_285:=n6_;have NB285_0:=n7_;clear n0_ n1_ n2_ n3_ n4_ n5_ n6_ n7_ hb hbox hg)|((with_reducible refine gate_dst (N:=7) rfl ?_);refine Kd.R_lit (Kd.int .i64) _ 3 ?hg (N:=7) ?hd (xs:=([3,30,1000]:List Int)) (inner:=[.int .i64 3,.int .i64 30,.int .i64 1000]) (ok:=fun _=>True) (okp:=fun _=>True) ?hr ?hp (fun _ hk=>hk) trivial (Below.refl _ _) (Nat.le_refl _) (by simp) ?_;(case hd=>rfl);(case hg=>rfl);(case hr=>first|(go_simp;done)|(go_simp;rfl));(case hp=>exact (Reps.one (show Kd.M (Kd.int .i64) _ _ _ 3 [.int .i64 3] from rfl) (Reps.one (show Kd.M (Kd.int .i64) _ _ _ 30 [.int .i64 30] from rfl) (Reps.one (show Kd.M (Kd.int .i64) _ _ _ 1000 [.int .i64 1000] from rfl) (Reps.none _ _)))));intro v287 w81 ho82 hb hg_ hnew_;clear hg_ hnew_;(first|rw [← Ny286.out] at ho82|(simp only [Int.reduceToNat] at ho82;rw [← Ny286.out] at ho82));have n0_:=mk0 (Kd.R_lower ho82 (keep_size (w:=w) (g:=g) (row:=none) (by repeat (first|(with_reducible first|exact HK.out|apply KeepBut.set_|apply keep_drewN|apply keep_drew|apply keep_alloc|refine keep_far ?_ GW285.out _)|exact HK.out))));have n1_:=mk0 (IsS62.below (by repeat (first|(with_reducible first|exact HI0.out|apply IsS62.alloc|apply IsS62.drewN|apply IsS62.drew|apply IsS62.set_1|apply IsS62.set_2|refine IsS62.far ?_ NB0_285.out _)|exact HI0.out)) hb);have n2_:=mk0 (blk_below (g:=gb285) (o:=.cells #[.int .i64 0,.slice none 0 0] 24 (0,0)) (by (with_reducible repeat (first|apply nB|apply dB|apply aB));exact BK285.out) hb);have n3_:=mk0 (KeepBut.trans (by repeat (first|(with_reducible first|exact HK.out|apply KeepBut.set_|apply keep_drewN|apply keep_drew|apply keep_alloc|refine keep_far ?_ GW285.out _)|exact HK.out)) (KeepBut.of_below hb g none) (.inl rfl));have n4_:=mk0 (below_step (by repeat (first|(with_reducible first|exact HB.out|apply aZ|apply nZ|apply dZ|refine sZ ?_ (IsS62.ge HI0.out)|refine sZ ?_ GE285.out)|exact HB.out)) hb);clear HI0 BK285 HK HB;have HO288:=n0_;have HI0:=n1_;have BK285:=n2_;have HK:=n3_;have HB:=n4_;clear n0_ n1_ n2_ n3_ n4_ hb ho82)|((with_reducible refine gate_callee (f:=52) rfl ?_);refine goesL_ (some 9) rfl rfl Try.func52 (by kernel_rfl) rfl #[.pointer (some ⟨g,0,none⟩),.int .i64 3] rfl (by (try simp only [mA,mC,mN]);first|done|rfl|(simp only [List.length_drop,List.length_take];rfl)) ?_;(with_reducible refine (spec_l01Cur_pick.calls g s0_0 s0_1 s0_2 3 t289 t290 t291 w0 _ ?side1 ?side2 A2.out).mono ?_);(case side1=>repeat (first|(with_reducible first|exact HI0.out|apply IsS62.alloc|apply IsS62.drewN|apply IsS62.drew|apply IsS62.set_1|apply IsS62.set_2|refine IsS62.far ?_ NB0_285.out _)|exact HI0.out));(case side2=>repeat (first|(with_reducible first|exact HB.out|apply aZ|apply nZ|apply dZ|refine sZ ?_ (IsS62.ge HI0.out)|refine sZ ?_ GE285.out)|exact HB.out));rintro e w83 ⟨rfl,hi,hb,hk⟩;refine⟨_,rfl,?_⟩;have n0_:=mk0 (KeepBut.blk hk (g':=gb285) (o:=.cells #[.int .i64 0,.slice none 0 0] 24 (0,0)) (by (with_reducible repeat (first|apply nB|apply dB|apply aB));exact BK285.out) NB285_0.out (by simp));have n1_:=mk0 (Kd.R_mono (Kd.R_keep (IsS62.apart (show IsS62 w0 _ g s0_0 s0_1 s0_2 from by repeat (first|(with_reducible first|exact HI0.out|apply IsS62.alloc|apply IsS62.drewN|apply IsS62.drew|apply IsS62.set_1|apply IsS62.set_2|refine IsS62.far ?_ NB0_285.out _)|exact HI0.out)) (by (with_reducible repeat (first|apply aR|apply nR|apply dR));exact HO288.out) (by decide)) hk (fun _ h=>h.2)) (fun _ h=>h.1));have n2_:=mk0 (KeepBut.trans (by repeat (first|(with_reducible first|exact HK.out|apply KeepBut.set_|apply keep_drewN|apply keep_drew|apply keep_alloc|refine keep_far ?_ GW285.out _)|exact HK.out)) hk (.inl rfl));have n3_:=mk0 (hb);have n4_:=mk0 (hi);clear BK285 HO288 HK HB HI0;have BK285:=n0_;have HO288:=n1_;have HK:=n2_;have HB:=n3_;have HI0:=n4_;clear n0_ n1_ n2_ n3_ n4_;(try clear hb);(try clear hb2);(try clear hk);(try clear hi);obtain⟨Ao84,co84,eo84⟩:=Kd.R_slice HO288.out;subst eo84;have p292:0 ≤ (t289:Int):=of_decide_eq_true (by first|(with_reducible assumption)|assumption);have q292:t289 < (y286.length:Int):=of_decide_eq_true (by first|(with_reducible assumption)|assumption);obtain⟨ad292,e292,hx292_0⟩:=Kd.at_int (Kd.R_reads' HO288.out).2.2 t289 p292 q292;cases e292;replace p292:=eq_true p292;replace q292:=eq_true q292)|((with_reducible refine gate_callee (f:=60) rfl ?_);refine goesL_ (some 12) rfl rfl Try.func60 (by kernel_rfl) rfl #[.pointer (some ⟨g,0,none⟩),.int .i64 20,.int .i64 (rd y286 t289)] rfl (by (try simp only [mA,mC,mN]);first|done|rfl|(simp only [List.length_drop,List.length_take];rfl)) ?_;(with_reducible refine (spec_l01Cur_numbers.calls k g s0_0 t290 t291 20 (rd y286 t289) t293 t296 t297 w0 _ ?side1 ?side2 A5.out).mono ?_);(case side1=>repeat (first|(with_reducible first|exact HI0.out|apply IsS62.alloc|apply IsS62.drewN|apply IsS62.drew|apply IsS62.set_1|apply IsS62.set_2|refine IsS62.far ?_ NB0_285.out _)|exact HI0.out));(case side2=>repeat (first|(with_reducible first|exact HB.out|apply aZ|apply nZ|apply dZ|refine sZ ?_ (IsS62.ge HI0.out)|refine sZ ?_ GE285.out)|exact HB.out));rintro e w85 ⟨v294,rfl,ho0,hi,hb,hk⟩;refine⟨_,rfl,?_⟩;have n0_:=mk0 (KeepBut.blk hk (g':=gb285) (o:=.cells #[.int .i64 0,.slice none 0 0] 24 (0,0)) (by (with_reducible repeat (first|apply nB|apply dB|apply aB));exact BK285.out) NB285_0.out (by simp));have n1_:=mk0 (Kd.R_mono (Kd.R_told (Kd.R_oldK (IsS62.apart (show IsS62 w0 _ g s0_0 t290 t291 from by repeat (first|(with_reducible first|exact HI0.out|apply IsS62.alloc|apply IsS62.drewN|apply IsS62.drew|apply IsS62.set_1|apply IsS62.set_2|refine IsS62.far ?_ NB0_285.out _)|exact HI0.out)) (by (with_reducible repeat (first|apply aR|apply nR|apply dR));exact HO288.out) (by decide)) hk) (Kd.R_base ho0)) (fun _ h_=>h_.1));have n2_:=mk0 (Kd.R_lower (Kd.R_new' ho0 (Kd.R_lt (by (with_reducible repeat (first|apply aR|apply nR|apply dR));exact HO288.out))) (keep_size (w:=w) (g:=g) (row:=none) (by repeat (first|(with_reducible first|exact HK.out|apply KeepBut.set_|apply keep_drewN|apply keep_drew|apply keep_alloc|refine keep_far ?_ GW285.out _)|exact HK.out))));have n3_:=mk0 (KeepBut.trans (by repeat (first|(with_reducible first|exact HK.out|apply KeepBut.set_|apply keep_drewN|apply keep_drew|apply keep_alloc|refine keep_far ?_ GW285.out _)|exact HK.out)) hk (.inl rfl));have n4_:=mk0 (hb);have n5_:=mk0 (hi);clear BK285 HO288 HK HB HI0;have BK285:=n0_;have HO288:=n1_;have HO295:=n2_;have HK:=n3_;have HB:=n4_;have HI0:=n5_;clear n0_ n1_ n2_ n3_ n4_ n5_;(try clear hb);(try clear hb2);(try clear hk);(try clear hi);(try clear ho0);obtain⟨Ao86,co86,eo86⟩:=Kd.R_slice HO295.out;subst eo86)|((with_reducible refine gate_callee (f:=11) rfl ?_);refine goesL_ (some 13) rfl rfl Try.func11 (by kernel_rfl) rfl #[.slice Ao86 t293.length co86] rfl (by (try simp only [mA,mC,mN]);first|done|rfl|(simp only [List.length_drop,List.length_take];rfl)) ?_;(with_reducible refine (spec_MinsOf.calls k _ _ t293 t298 t299 t302 _ ?side1 ?side2 A6.out).mono ?_);(case side1=>repeat (first|exact (Kd.R_reads' HO295.out).2.2|(with_reducible first|apply aC|apply nC|apply dC)));(case side2=>exact (Kd.R_reads' HO295.out).2.1);rintro e w87 ⟨v300,rfl,ho0,hb⟩;refine⟨_,rfl,?_⟩;have n0_:=mk0 (Kd.R_elder' (by (with_reducible repeat (first|apply aR|apply nR|apply dR));exact HO288.out) (Kd.R_base ho0) hb);have n1_:=mk0 (Kd.R_elder' (by (with_reducible repeat (first|apply aR|apply nR|apply dR));exact HO295.out) (Kd.R_base ho0) hb);have n2_:=mk0 (Kd.R_lower (Kd.R_new' (Kd.R_new' ho0 (Kd.R_lt (by (with_reducible repeat (first|apply aR|apply nR|apply dR));exact HO288.out))) (Kd.R_lt (by (with_reducible repeat (first|apply aR|apply nR|apply dR));exact HO295.out))) (keep_size (w:=w) (g:=g) (row:=none) (by repeat (first|(with_reducible first|exact HK.out|apply KeepBut.set_|apply keep_drewN|apply keep_drew|apply keep_alloc|refine keep_far ?_ GW285.out _)|exact HK.out))));have n3_:=mk0 (IsS62.below (by repeat (first|(with_reducible first|exact HI0.out|apply IsS62.alloc|apply IsS62.drewN|apply IsS62.drew|apply IsS62.set_1|apply IsS62.set_2|refine IsS62.far ?_ NB0_285.out _)|exact HI0.out)) hb);have n4_:=mk0 (blk_below (g:=gb285) (o:=.cells #[.int .i64 0,.slice none 0 0] 24 (0,0)) (by (with_reducible repeat (first|apply nB|apply dB|apply aB));exact BK285.out) hb);have n5_:=mk0 (KeepBut.trans (by repeat (first|(with_reducible first|exact HK.out|apply KeepBut.set_|apply keep_drewN|apply keep_drew|apply keep_alloc|refine keep_far ?_ GW285.out _)|exact HK.out)) (KeepBut.of_below hb g none) (.inl rfl));have n6_:=mk0 (below_step (by repeat (first|(with_reducible first|exact HB.out|apply aZ|apply nZ|apply dZ|refine sZ ?_ (IsS62.ge HI0.out)|refine sZ ?_ GE285.out)|exact HB.out)) hb);clear HO288 HO295 HI0 BK285 HK HB;have HO288:=n0_;have HO295:=n1_;have HO301:=n2_;have HI0:=n3_;have BK285:=n4_;have HK:=n5_;have HB:=n6_;clear n0_ n1_ n2_ n3_ n4_ n5_ n6_;(try clear hb);(try clear hb2);(try clear hk);(try clear hi);(try clear ho0))|((with_reducible refine gate_dst (N:=3) rfl ?_);refine box_event ?hg (N:=3) ?hd (cs:=#[.int .i64 0,.slice none 0 0]) (t:=24) ?hr ?_;(case hd=>rfl);(case hg=>rfl);(case hr=>first|(go_simp;done)|(go_simp;rfl));intro gb303 hg w88 hbox hb;have n0_:=mk0 (Kd.R_below (by (with_reducible repeat (first|apply aR|apply nR|apply dR));exact HO288.out) hb);have n1_:=mk0 (Kd.R_below (by (with_reducible repeat (first|apply aR|apply nR|apply dR));exact HO295.out) hb);have n2_:=mk0 (Kd.R_below (by (with_reducible repeat (first|apply aR|apply nR|apply dR));exact HO301.out) hb);have n3_:=mk0 (IsS62.below (by repeat (first|(with_reducible first|exact HI0.out|apply IsS62.alloc|apply IsS62.drewN|apply IsS62.drew|apply IsS62.set_1|apply IsS62.set_2|refine IsS62.far ?_ NB0_285.out _)|exact HI0.out)) hb);have n4_:=mk0 (blk_below (g:=gb285) (o:=.cells #[.int .i64 0,.slice none 0 0] 24 (0,0)) (by (with_reducible repeat (first|apply nB|apply dB|apply aB));exact BK285.out) hb);have n5_:=mk0 (KeepBut.trans (by repeat (first|(with_reducible first|exact HK.out|apply KeepBut.set_|apply keep_drewN|apply keep_drew|apply keep_alloc|refine keep_far ?_ GW285.out _)|exact HK.out)) (KeepBut.of_below hb g none) (.inl rfl));have n6_:=mk0 (below_step (by repeat (first|(with_reducible first|exact HB.out|apply aZ|apply nZ|apply dZ|refine sZ ?_ (IsS62.ge HI0.out)|refine sZ ?_ GE285.out)|exact HB.out)) hb);have n7_:=mk0 (hbox);have n8_:=mk0 ((by rw [hg];exact (keep_size (w:=w) (g:=g) (row:=none) (by repeat (first|(with_reducible first|exact HK.out|apply KeepBut.set_|apply keep_drewN|apply keep_drew|apply keep_alloc|refine keep_far ?_ GW285.out _)|exact HK.out))):w.heap.size ≤ gb303));have n9_:=mk0 ((Nat.le_trans HW0.out (by rw [hg];exact (keep_size (w:=w) (g:=g) (row:=none) (by repeat (first|(with_reducible first|exact HK.out|apply KeepBut.set_|apply keep_drewN|apply keep_drew|apply keep_alloc|refine keep_far ?_ GW285.out _)|exact HK.out))):w.heap.size ≤ gb303):w0.heap.size ≤ gb303));have n10_:=mk0 ((by rw [hg];exact Nat.ne_of_lt (blk_lt (g:=gb285) (o:=.cells #[.int .i64 0,.slice none 0 0] 24 (0,0)) (by (with_reducible repeat (first|apply nB|apply dB|apply aB));exact BK285.out)):gb285 ≠ gb303));have n11_:=mk0 ((by rw [hg];exact Nat.ne_of_gt (blk_lt (g:=gb285) (o:=.cells #[.int .i64 0,.slice none 0 0] 24 (0,0)) (by (with_reducible repeat (first|apply nB|apply dB|apply aB));exact BK285.out)):gb303 ≠ gb285));have n12_:=mk0 ((by rw [hg];exact Nat.ne_of_lt (IsS62.lt (show IsS62 w0 _ g s0_0 t296 t297 from by repeat (first|(with_reducible first|exact HI0.out|apply IsS62.alloc|apply IsS62.drewN|apply IsS62.drew|apply IsS62.set_1|apply IsS62.set_2|refine IsS62.far ?_ NB0_285.out _)|exact HI0.out))):g ≠ gb303));have n13_:=mk0 ((by rw [hg];exact Nat.ne_of_gt (IsS62.lt (show IsS62 w0 _ g s0_0 t296 t297 from by repeat (first|(with_reducible first|exact HI0.out|apply IsS62.alloc|apply IsS62.drewN|apply IsS62.drew|apply IsS62.set_1|apply IsS62.set_2|refine IsS62.far ?_ NB0_285.out _)|exact HI0.out))):gb303 ≠ g));clear HO288 HO295 HO301 HI0 BK285 HK HB;have HO288:=n0_;have HO295:=n1_;have HO301:=n2_;have HI0:=n3_;have BK285:=n4_;have HK:=n5_;have HB:=n6_;have BK303:=n7_;have GW303:=n8_;have GE303:=n9_;have NB285_303:=n10_;have NB303_285:=n11_;have NB0_303:=n12_;have NB303_0:=n13_;clear n0_ n1_ n2_ n3_ n4_ n5_ n6_ n7_ n8_ n9_ n10_ n11_ n12_ n13_ hb hbox hg;have hnb89:=NB303_285.out;have hnc89:=NB285_303.out;have hnb90:=NB303_0.out;have hnc90:=NB0_303.out;have hcz91_0:w88.cell? ⟨gb303,0,none⟩ = some (.int .i64 0):=(blk_cell BK303.out 0).trans rfl;have hcz91_1:w88.cell? ⟨gb303,1,none⟩ = some (.slice none 0 0):=(blk_cell BK303.out 1).trans rfl;have hfz91_0:=blk_frozen BK303.out 0;have hfz91_1:=blk_frozen BK303.out 1;obtain⟨Ao92,co92,eo92⟩:=Kd.R_slice HO301.out;subst eo92)|((with_reducible refine gate_callee (f:=52) rfl ?_);refine goesL_ (some 17) rfl rfl Try.func52 (by kernel_rfl) rfl #[.pointer (some ⟨g,0,none⟩),.int .i64 12] rfl (by (try simp only [mA,mC,mN]);first|done|rfl|(simp only [List.length_drop,List.length_take];rfl)) ?_;(with_reducible refine (spec_l01Cur_pick.calls g s0_0 t296 t297 12 t304 t305 t306 w0 _ ?side1 ?side2 A7.out).mono ?_);(case side1=>repeat (first|(with_reducible first|exact HI0.out|apply IsS62.alloc|apply IsS62.drewN|apply IsS62.drew|apply IsS62.set_1|apply IsS62.set_2|refine IsS62.far ?_ NB0_285.out _|refine IsS62.far ?_ NB0_303.out _)|exact HI0.out));(case side2=>repeat (first|(with_reducible first|exact HB.out|apply aZ|apply nZ|apply dZ|refine sZ ?_ (IsS62.ge HI0.out)|refine sZ ?_ GE285.out|refine sZ ?_ GE303.out)|exact HB.out));rintro e w93 ⟨rfl,hi,hb,hk⟩;refine⟨_,rfl,?_⟩;have n0_:=mk0 (KeepBut.blk hk (g':=gb285) (o:=.cells #[.int .i64 0,.slice none 0 0] 24 (0,0)) (by (with_reducible repeat (first|apply nB|apply dB|apply aB));refine blk_far ?_ NB285_303.out _;(with_reducible repeat (first|apply nB|apply dB|apply aB));refine blk_far ?_ NB285_303.out _;(with_reducible repeat (first|apply nB|apply dB|apply aB));exact BK285.out) NB285_0.out (by simp));have n1_:=mk0 (Kd.R_mono (Kd.R_keep (IsS62.apart (show IsS62 w0 _ g s0_0 t296 t297 from by repeat (first|(with_reducible first|exact HI0.out|apply IsS62.alloc|apply IsS62.drewN|apply IsS62.drew|apply IsS62.set_1|apply IsS62.set_2|refine IsS62.far ?_ NB0_285.out _|refine IsS62.far ?_ NB0_303.out _)|exact HI0.out)) (by (with_reducible repeat (first|apply aR|apply nR|apply dR));exact (Kd.R_mono (Kd.R_far (p:=⟨gb303,1,none⟩) (Kd.R_far (p:=⟨gb303,0,none⟩) (Kd.R_types HO288.out BK303.out (by decide)) (fun _ hk=>hk.2) (.int .i64 t298)) (fun _ hk=>hk.2) (.slice Ao92 t299.length co92)) (fun _ h_=>h_.1))) (by decide)) hk (fun _ h=>h.2)) (fun _ h=>h.1));have n2_:=mk0 (Kd.R_mono (Kd.R_keep (IsS62.apart (show IsS62 w0 _ g s0_0 t296 t297 from by repeat (first|(with_reducible first|exact HI0.out|apply IsS62.alloc|apply IsS62.drewN|apply IsS62.drew|apply IsS62.set_1|apply IsS62.set_2|refine IsS62.far ?_ NB0_285.out _|refine IsS62.far ?_ NB0_303.out _)|exact HI0.out)) (by (with_reducible repeat (first|apply aR|apply nR|apply dR));exact (Kd.R_mono (Kd.R_far (p:=⟨gb303,1,none⟩) (Kd.R_far (p:=⟨gb303,0,none⟩) (Kd.R_types HO295.out BK303.out (by decide)) (fun _ hk=>hk.2) (.int .i64 t298)) (fun _ hk=>hk.2) (.slice Ao92 t299.length co92)) (fun _ h_=>h_.1))) (by decide)) hk (fun _ h=>h.2)) (fun _ h=>h.1));have n3_:=mk0 (Kd.R_mono (Kd.R_keep (IsS62.apart (show IsS62 w0 _ g s0_0 t296 t297 from by repeat (first|(with_reducible first|exact HI0.out|apply IsS62.alloc|apply IsS62.drewN|apply IsS62.drew|apply IsS62.set_1|apply IsS62.set_2|refine IsS62.far ?_ NB0_285.out _|refine IsS62.far ?_ NB0_303.out _)|exact HI0.out)) (by (with_reducible repeat (first|apply aR|apply nR|apply dR));exact (Kd.R_mono (Kd.R_far (p:=⟨gb303,1,none⟩) (Kd.R_far (p:=⟨gb303,0,none⟩) (Kd.R_types HO301.out BK303.out (by decide)) (fun _ hk=>hk.2) (.int .i64 t298)) (fun _ hk=>hk.2) (.slice Ao92 t299.length co92)) (fun _ h_=>h_.1))) (by decide)) hk (fun _ h=>h.2)) (fun _ h=>h.1));have n4_:=mk0 (KeepBut.blk hk (g':=gb303) (o:=.cells #[.int .i64 t298,.slice Ao92 t299.length co92] 24 (0,0)) (by (with_reducible repeat (first|apply nB|apply dB|apply aB));refine blk_put (cs:=#[.int .i64 t298,.slice none 0 0]) ?_ 1 _ rfl;(with_reducible repeat (first|apply nB|apply dB|apply aB));refine blk_put (cs:=#[.int .i64 0,.slice none 0 0]) ?_ 0 _ rfl;(with_reducible repeat (first|apply nB|apply dB|apply aB));exact BK303.out) NB303_0.out (by simp));have n5_:=mk0 (KeepBut.trans (by repeat (first|(with_reducible first|exact HK.out|apply KeepBut.set_|apply keep_drewN|apply keep_drew|apply keep_alloc|refine keep_far ?_ GW285.out _|refine keep_far ?_ GW303.out _)|exact HK.out)) hk (.inl rfl));have n6_:=mk0 (hb);have n7_:=mk0 (hi);clear BK285 HO288 HO295 HO301 BK303 HK HB HI0;have BK285:=n0_;have HO288:=n1_;have HO295:=n2_;have HO301:=n3_;have BK303:=n4_;have HK:=n5_;have HB:=n6_;have HI0:=n7_;clear n0_ n1_ n2_ n3_ n4_ n5_ n6_ n7_;(try clear hb);(try clear hb2);(try clear hk);(try clear hi);have hcz94_0:w93.cell? ⟨gb303,0,none⟩ = some (.int .i64 t298):=(blk_cell BK303.out 0).trans rfl;have hcz94_1:w93.cell? ⟨gb303,1,none⟩ = some (.slice Ao92 t299.length co92):=(blk_cell BK303.out 1).trans rfl;have hfz94_0:=blk_frozen BK303.out 0;have hfz94_1:=blk_frozen BK303.out 1)|((with_reducible refine gate_builtin (b:=.append) (xs:=#[.tmp 56,.tmp 57]) rfl ?_);at_builtin;refine Kd.R_append (Kd.int .i64) w.heap.size rfl (.tmp 56) (.tmp 57) 22 3 (.int .i64 0) 8 rfl Try.underlying22 info3 rfl (by decide) (by omega) (.slice Ao92 t299.length co92) t299 0 [.int .i64 0] (fun k_=>some k_ ≠ (.slice (some ad292) y286.length co84:Value).ownBlock ∧ some k_ ≠ (.slice Ao86 t293.length co86:Value).ownBlock) (fun _=>False) rfl rfl ?aP (fun _ hk=>hk.elim) ?aF ?aO (Below.refl _ _) ?aS ?aL ?_;(case aP=>exact rfl);(case aF=>exact (fun k_ hk=>⟨Kd.fresh' (Kd.R_lt (by (with_reducible repeat (first|apply aR|apply nR|apply dR));exact HO288.out)) k_ hk,Kd.fresh' (Kd.R_lt (by (with_reducible repeat (first|apply aR|apply nR|apply dR));exact HO295.out)) k_ hk⟩));(case aO=>exact (by (with_reducible repeat (first|apply aR|apply nR|apply dR));exact Kd.R_mono HO301.out (fun _ hk=>⟨hk.1.2,hk.2⟩)));(case aS=>exact (keep_size (w:=w) (g:=g) (row:=none) (by repeat (first|(with_reducible first|exact HK.out|apply KeepBut.set_|apply keep_drewN|apply keep_drew|apply keep_alloc|refine keep_far ?_ GW285.out _|refine keep_far ?_ GW303.out _)|exact HK.out))));(case aL=>have:=LMc79.out;omega);intro v335 w95 ho hb hg hat;rw [← Ny334.out] at ho;have n0_:=mk0 (IsS62.grown (by repeat (first|(with_reducible first|exact HI0.out|apply IsS62.alloc|apply IsS62.drewN|apply IsS62.drew|apply IsS62.set_1|apply IsS62.set_2|refine IsS62.far ?_ NB0_285.out _|refine IsS62.far ?_ NB0_303.out _)|exact HI0.out)) hg (IsS62.own_ne HI0.out HO301.out (by decide)));have n1_:=mk0 (blk_grown (g:=gb285) (o:=.cells #[.int .i64 0,.slice none 0 0] 24 (0,0)) (by (with_reducible repeat (first|apply nB|apply dB|apply aB));exact BK285.out) hg (Kd.R_ne HO301.out BK285.out (by decide)));have n2_:=mk0 (Kd.R_after (ok:=(fun k_=>some k_ ≠ (.slice Ao86 t293.length co86:Value).ownBlock)) (by (with_reducible repeat (first|apply aR|apply nR|apply dR));exact Kd.R_mono HO288.out (fun _ hk=>⟨hk.1.2,hk.2⟩)) hg hat);have n3_:=mk0 (Kd.R_after (ok:=(fun k_=>some k_ ≠ (.slice (some ad292) y286.length co84:Value).ownBlock)) (by (with_reducible repeat (first|apply aR|apply nR|apply dR));exact Kd.R_mono HO295.out (fun _ hk=>⟨hk.1.2,hk.2⟩)) hg hat);have n4_:=mk0 (blk_grown (g:=gb303) (o:=.cells #[.int .i64 t298,.slice Ao92 t299.length co92] 24 (0,0)) (by (with_reducible repeat (first|apply nB|apply dB|apply aB));exact BK303.out) hg (Kd.R_ne HO301.out BK303.out (by decide)));have n5_:=mk0 (below_weaken (by repeat (first|(with_reducible first|exact HB.out|apply aZ|apply nZ|apply dZ|refine sZ ?_ (IsS62.ge HI0.out)|refine sZ ?_ GE285.out|refine sZ ?_ GE303.out)|exact HB.out)) HL.out hb);have n6_:=mk0 (KeepBut.trans (by repeat (first|(with_reducible first|exact HK.out|apply KeepBut.set_|apply keep_drewN|apply keep_drew|apply keep_alloc|refine keep_far ?_ GW285.out _|refine keep_far ?_ GW303.out _)|exact HK.out)) (KeepBut.of_grown hg g) (Kd.R_base2 HO301.out));have n7_:=mk0 (ho);clear HI0 BK285 HO288 HO295 BK303 HB HK HO301;have HI0:=n0_;have BK285:=n1_;have HO288:=n2_;have HO295:=n3_;have BK303:=n4_;have HB:=n5_;have HK:=n6_;have HO336:=n7_;clear n0_ n1_ n2_ n3_ n4_ n5_ n6_ n7_ ho hb hg hat;obtain⟨Ao96,co96,eo96⟩:=Kd.R_slice HO336.out;subst eo96;have hcz97_0:w95.cell? ⟨gb303,0,none⟩ = some (.int .i64 t298):=(blk_cell BK303.out 0).trans rfl;have hcz97_1:w95.cell? ⟨gb303,1,none⟩ = some (.slice Ao92 t299.length co92):=(blk_cell BK303.out 1).trans rfl;have hfz97_0:=blk_frozen BK303.out 0;have hfz97_1:=blk_frozen BK303.out 1;have hnb98:=NB285_0.out;have hnc98:=NB0_285.out;have hcz99_0:w95.cell? ⟨gb285,0,none⟩ = some (.int .i64 0):=(blk_cell BK285.out 0).trans rfl;have hcz99_1:w95.cell? ⟨gb285,1,none⟩ = some (.slice none 0 0):=(blk_cell BK285.out 1).trans rfl;have hfz99_0:=blk_frozen BK285.out 0;have hfz99_1:=blk_frozen BK285.out 1))
  refine bodyPost_ret (results_cell_row rfl _ _ gb285 24 #[.int .i64 t298,.slice Ao96 y334.length co96] (0,0) _ rfl (by (with_reducible repeat (first|apply nB|apply dB|apply aB));refine blk_put (cs:=#[.int .i64 t298,.slice none 0 0]) ?_ 1 _ rfl;(with_reducible repeat (first|apply nB|apply dB|apply aB));refine blk_put (cs:=#[.int .i64 0,.slice none 0 0]) ?_ 0 _ rfl;(with_reducible repeat (first|apply nB|apply dB|apply aB));refine blk_far ?_ NB285_303.out _;(with_reducible repeat (first|apply nB|apply dB|apply aB));exact BK285.out) Try.underlying24 rfl (by kernel_rfl)) rfl ?_
  exact⟨_,by first|rfl|(simp [errW_none,errW_some] <;> rfl)|(simp [*,errW_none,errW_some] <;> rfl),by (with_reducible repeat (first|apply aR|apply nR|apply dR));exact Kd.R_mono (Kd.R_far (p:=⟨gb285,1,none⟩) (Kd.R_far (p:=⟨gb285,0,none⟩) (Kd.R_far (p:=⟨gb303,1,none⟩) (Kd.R_types (Kd.R_types HO336.out BK303.out (by decide)) BK285.out (by decide)) (fun _ hk=>hk.1.2) (.slice Ao96 y334.length co96)) (fun _ hk=>hk.2) (.int .i64 t298)) (fun _ hk=>hk.2) (.slice Ao96 y334.length co96)) (fun _ hk=>trivial),by repeat (first|(with_reducible first|exact HI0.out|apply IsS62.alloc|apply IsS62.drewN|apply IsS62.drew|apply IsS62.set_1|apply IsS62.set_2|refine IsS62.far ?_ NB0_285.out _|refine IsS62.far ?_ NB0_303.out _)|exact HI0.out),by repeat (first|(with_reducible first|exact HB.out|apply aZ|apply nZ|apply dZ|refine sZ ?_ (IsS62.ge HI0.out)|refine sZ ?_ GE285.out|refine sZ ?_ GE303.out)|exact HB.out),by repeat (first|(with_reducible first|exact HK.out|apply KeepBut.set_|apply keep_drewN|apply keep_drew|apply keep_alloc|refine keep_far ?_ GW285.out _|refine keep_far ?_ GW303.out _)|exact HK.out)⟩
 rw [if_pos c39] at H
 have c39b0:(t304 == 1) = true:=beq_iff_eq.mpr c39
 have c39b1:(t304 != 1) = false:=bne_eq_false_iff_eq.mpr c39
 clear c39
 replace H:=Option.bind_eq_some_iff.mp H
 obtain⟨⟨t317,t318,t319⟩,A400,H⟩:=H
 replace H:((spec_l01Cur_pick.f s0_0 t318 t319 9).bind fun bt320=>((spec_l01Cur_raw.f s0_0 bt320.2.1 bt320.2.2).bind fun bt323=>((some (([bt320.1,bt323.1,1000000000]:List Int):List Int)).bind fun y326=>((spec_l01Cur_pick.f s0_0 bt323.2.1 bt323.2.2 3).bind fun bt329=>(if 0 ≤ bt329.1 then (if bt329.1 < (y326.length:Int) then (if 0 ≤ t317 then (if t317 < (t299.length:Int) then (some (t298,(t299.set (t317:Int).toNat (rd y326 bt329.1)),bt329.2.1,bt329.2.2)) else (none)) else (none)) else (none)) else (none)))))) = some (r1,r2,r3,r4):=H
 have A40:=mk0 A400
 clear A400
 replace H:=Option.bind_eq_some_iff.mp H
 obtain⟨⟨t320,t321,t322⟩,A410,H⟩:=H
 replace H:((spec_l01Cur_raw.f s0_0 t321 t322).bind fun bt323=>((some (([t320,bt323.1,1000000000]:List Int):List Int)).bind fun y326=>((spec_l01Cur_pick.f s0_0 bt323.2.1 bt323.2.2 3).bind fun bt329=>(if 0 ≤ bt329.1 then (if bt329.1 < (y326.length:Int) then (if 0 ≤ t317 then (if t317 < (t299.length:Int) then (some (t298,(t299.set (t317:Int).toNat (rd y326 bt329.1)),bt329.2.1,bt329.2.2)) else (none)) else (none)) else (none)) else (none))))) = some (r1,r2,r3,r4):=H
 have A41:=mk0 A410
 clear A410
 replace H:=Option.bind_eq_some_iff.mp H
 obtain⟨⟨t323,t324,t325⟩,A420,H⟩:=H
 replace H:((some (([t320,t323,1000000000]:List Int):List Int)).bind fun y326=>((spec_l01Cur_pick.f s0_0 t324 t325 3).bind fun bt329=>(if 0 ≤ bt329.1 then (if bt329.1 < (y326.length:Int) then (if 0 ≤ t317 then (if t317 < (t299.length:Int) then (some (t298,(t299.set (t317:Int).toNat (rd y326 bt329.1)),bt329.2.1,bt329.2.2)) else (none)) else (none)) else (none)) else (none)))) = some (r1,r2,r3,r4):=H
 have A42:=mk0 A420
 clear A420
 obtain⟨y326,hy326⟩:∃ y_:List Int,y_ = (([t320,t323,1000000000]:List Int)):=⟨_,rfl⟩
 replace H:((spec_l01Cur_pick.f s0_0 t324 t325 3).bind fun bt329=>(if 0 ≤ bt329.1 then (if bt329.1 < (y326.length:Int) then (if 0 ≤ t317 then (if t317 < (t299.length:Int) then (some (t298,(t299.set (t317:Int).toNat (rd y326 bt329.1)),bt329.2.1,bt329.2.2)) else (none)) else (none)) else (none)) else (none))) = some (r1,r2,r3,r4):=by first|(rw [hy326];with_reducible exact H)|(have H2_:=(Option.bind_some _ _).symm.trans H;rw [hy326];with_reducible exact H2_)|(have H2_:=(Option.bind_some _ _).symm.trans H;with_reducible exact H2_)|with_reducible exact H|(rw [hy326];exact H)|exact H
 have Ny326:=mk0 hy326
 clear hy326
 replace H:=Option.bind_eq_some_iff.mp H
 obtain⟨⟨t329,t330,t331⟩,A430,H⟩:=H
 replace H:(if 0 ≤ t329 then (if t329 < (y326.length:Int) then (if 0 ≤ t317 then (if t317 < (t299.length:Int) then (some (t298,(t299.set (t317:Int).toNat (rd y326 t329)),t330,t331)) else (none)) else (none)) else (none)) else (none)) = some (r1,r2,r3,r4):=H
 have A43:=mk0 A430
 clear A430
 by_cases c44:0 ≤ t329
 rotate_left
 ·rw [if_neg c44] at H
  exact absurd H (by simp)
 rw [if_pos c44] at H
 have c44b0:decide (0 ≤ t329) = true:=decide_eq_true c44
 clear c44
 by_cases c45:t329 < (y326.length:Int)
 rotate_left
 ·rw [if_neg c45] at H
  exact absurd H (by simp)
 rw [if_pos c45] at H
 have c45b0:decide (t329 < (y326.length:Int)) = true:=decide_eq_true c45
 clear c45
 by_cases c46:0 ≤ t317
 rotate_left
 ·rw [if_neg c46] at H
  exact absurd H (by simp)
 rw [if_pos c46] at H
 have c46b0:decide (0 ≤ t317) = true:=decide_eq_true c46
 clear c46
 by_cases c47:t317 < (t299.length:Int)
 rotate_left
 ·rw [if_neg c47] at H
  exact absurd H (by simp)
 rw [if_pos c47] at H
 have c47b0:decide (t317 < (t299.length:Int)) = true:=decide_eq_true c47
 clear c47
 obtain⟨y333,hy333⟩:∃ y_:List Int,y_ = (t299.set (t317:Int).toNat (rd y326 t329)):=⟨_,rfl⟩
 replace H:(some (t298,y333,t330,t331)) = some (r1,r2,r3,r4):=by first|(rw [hy333];with_reducible exact H)|(have H2_:=(Option.bind_some _ _).symm.trans H;rw [hy333];with_reducible exact H2_)|(have H2_:=(Option.bind_some _ _).symm.trans H;with_reducible exact H2_)|with_reducible exact H|(rw [hy333];exact H)|exact H
 have Ny333:=mk0 hy333
 clear hy333
 simp only [Option.some.injEq,Prod.mk.injEq] at H
 obtain⟨rfl,rfl,rfl,rfl⟩:=H
 go_enter Try.func50,Try.ntmps50
 try go_wp2_with (first|((with_reducible refine gate_dst (N:=2) rfl ?_);refine box_event ?hg (N:=2) ?hd (cs:=#[.int .i64 0,.slice none 0 0]) (t:=24) ?hr ?_;(case hd=>rfl);(case hg=>rfl);(case hr=>first|(go_simp;done)|(go_simp;rfl));intro gb285 hg w49 hbox hb;have n0_:=mk0 (IsS62.below (by repeat (first|(with_reducible first|exact HI0.out|apply IsS62.alloc|apply IsS62.drewN|apply IsS62.drew|apply IsS62.set_1|apply IsS62.set_2)|exact HI0.out)) hb);have n1_:=mk0 (KeepBut.trans (by repeat (first|(with_reducible first|exact HK.out|apply KeepBut.set_|apply keep_drewN|apply keep_drew|apply keep_alloc)|exact HK.out)) (KeepBut.of_below hb g none) (.inl rfl));have n2_:=mk0 (below_step (by repeat (first|(with_reducible first|exact HB.out|apply aZ|apply nZ|apply dZ|refine sZ ?_ (IsS62.ge HI0.out))|exact HB.out)) hb);have n3_:=mk0 (hbox);have n4_:=mk0 ((by rw [hg];exact (keep_size (w:=w) (g:=g) (row:=none) (by repeat (first|(with_reducible first|exact HK.out|apply KeepBut.set_|apply keep_drewN|apply keep_drew|apply keep_alloc)|exact HK.out))):w.heap.size ≤ gb285));have n5_:=mk0 ((Nat.le_trans HW0.out (by rw [hg];exact (keep_size (w:=w) (g:=g) (row:=none) (by repeat (first|(with_reducible first|exact HK.out|apply KeepBut.set_|apply keep_drewN|apply keep_drew|apply keep_alloc)|exact HK.out))):w.heap.size ≤ gb285):w0.heap.size ≤ gb285));have n6_:=mk0 ((by rw [hg];exact Nat.ne_of_lt (IsS62.lt (show IsS62 w0 _ g s0_0 s0_1 s0_2 from by repeat (first|(with_reducible first|exact HI0.out|apply IsS62.alloc|apply IsS62.drewN|apply IsS62.drew|apply IsS62.set_1|apply IsS62.set_2)|exact HI0.out))):g ≠ gb285));have n7_:=mk0 ((by rw [hg];exact Nat.ne_of_gt (IsS62.lt (show IsS62 w0 _ g s0_0 s0_1 s0_2 from by repeat (first|(with_reducible first|exact HI0.out|apply IsS62.alloc|apply IsS62.drewN|apply IsS62.drew|apply IsS62.set_1|apply IsS62.set_2)|exact HI0.out))):gb285 ≠ g));clear HI0 HK HB;have HI0:=n0_;have HK:=n1_;have HB:=n2_;have BK285:=n3_;have GW285:=n4_;have GE285:=n5_;have NB0_285:=n6_;have NB285_0:=n7_;clear n0_ n1_ n2_ n3_ n4_ n5_ n6_ n7_ hb hbox hg)|((with_reducible refine gate_dst (N:=7) rfl ?_);refine Kd.R_lit (Kd.int .i64) _ 3 ?hg (N:=7) ?hd (xs:=([3,30,1000]:List Int)) (inner:=[.int .i64 3,.int .i64 30,.int .i64 1000]) (ok:=fun _=>True) (okp:=fun _=>True) ?hr ?hp (fun _ hk=>hk) trivial (Below.refl _ _) (Nat.le_refl _) (by simp) ?_;(case hd=>rfl);(case hg=>rfl);(case hr=>first|(go_simp;done)|(go_simp;rfl));(case hp=>exact (Reps.one (show Kd.M (Kd.int .i64) _ _ _ 3 [.int .i64 3] from rfl) (Reps.one (show Kd.M (Kd.int .i64) _ _ _ 30 [.int .i64 30] from rfl) (Reps.one (show Kd.M (Kd.int .i64) _ _ _ 1000 [.int .i64 1000] from rfl) (Reps.none _ _)))));intro v287 w50 ho51 hb hg_ hnew_;clear hg_ hnew_;(first|rw [← Ny286.out] at ho51|(simp only [Int.reduceToNat] at ho51;rw [← Ny286.out] at ho51));have n0_:=mk0 (Kd.R_lower ho51 (keep_size (w:=w) (g:=g) (row:=none) (by repeat (first|(with_reducible first|exact HK.out|apply KeepBut.set_|apply keep_drewN|apply keep_drew|apply keep_alloc|refine keep_far ?_ GW285.out _)|exact HK.out))));have n1_:=mk0 (IsS62.below (by repeat (first|(with_reducible first|exact HI0.out|apply IsS62.alloc|apply IsS62.drewN|apply IsS62.drew|apply IsS62.set_1|apply IsS62.set_2|refine IsS62.far ?_ NB0_285.out _)|exact HI0.out)) hb);have n2_:=mk0 (blk_below (g:=gb285) (o:=.cells #[.int .i64 0,.slice none 0 0] 24 (0,0)) (by (with_reducible repeat (first|apply nB|apply dB|apply aB));exact BK285.out) hb);have n3_:=mk0 (KeepBut.trans (by repeat (first|(with_reducible first|exact HK.out|apply KeepBut.set_|apply keep_drewN|apply keep_drew|apply keep_alloc|refine keep_far ?_ GW285.out _)|exact HK.out)) (KeepBut.of_below hb g none) (.inl rfl));have n4_:=mk0 (below_step (by repeat (first|(with_reducible first|exact HB.out|apply aZ|apply nZ|apply dZ|refine sZ ?_ (IsS62.ge HI0.out)|refine sZ ?_ GE285.out)|exact HB.out)) hb);clear HI0 BK285 HK HB;have HO288:=n0_;have HI0:=n1_;have BK285:=n2_;have HK:=n3_;have HB:=n4_;clear n0_ n1_ n2_ n3_ n4_ hb ho51)|((with_reducible refine gate_callee (f:=52) rfl ?_);refine goesL_ (some 9) rfl rfl Try.func52 (by kernel_rfl) rfl #[.pointer (some ⟨g,0,none⟩),.int .i64 3] rfl (by (try simp only [mA,mC,mN]);first|done|rfl|(simp only [List.length_drop,List.length_take];rfl)) ?_;(with_reducible refine (spec_l01Cur_pick.calls g s0_0 s0_1 s0_2 3 t289 t290 t291 w0 _ ?side1 ?side2 A2.out).mono ?_);(case side1=>repeat (first|(with_reducible first|exact HI0.out|apply IsS62.alloc|apply IsS62.drewN|apply IsS62.drew|apply IsS62.set_1|apply IsS62.set_2|refine IsS62.far ?_ NB0_285.out _)|exact HI0.out));(case side2=>repeat (first|(with_reducible first|exact HB.out|apply aZ|apply nZ|apply dZ|refine sZ ?_ (IsS62.ge HI0.out)|refine sZ ?_ GE285.out)|exact HB.out));rintro e w52 ⟨rfl,hi,hb,hk⟩;refine⟨_,rfl,?_⟩;have n0_:=mk0 (KeepBut.blk hk (g':=gb285) (o:=.cells #[.int .i64 0,.slice none 0 0] 24 (0,0)) (by (with_reducible repeat (first|apply nB|apply dB|apply aB));exact BK285.out) NB285_0.out (by simp));have n1_:=mk0 (Kd.R_mono (Kd.R_keep (IsS62.apart (show IsS62 w0 _ g s0_0 s0_1 s0_2 from by repeat (first|(with_reducible first|exact HI0.out|apply IsS62.alloc|apply IsS62.drewN|apply IsS62.drew|apply IsS62.set_1|apply IsS62.set_2|refine IsS62.far ?_ NB0_285.out _)|exact HI0.out)) (by (with_reducible repeat (first|apply aR|apply nR|apply dR));exact HO288.out) (by decide)) hk (fun _ h=>h.2)) (fun _ h=>h.1));have n2_:=mk0 (KeepBut.trans (by repeat (first|(with_reducible first|exact HK.out|apply KeepBut.set_|apply keep_drewN|apply keep_drew|apply keep_alloc|refine keep_far ?_ GW285.out _)|exact HK.out)) hk (.inl rfl));have n3_:=mk0 (hb);have n4_:=mk0 (hi);clear BK285 HO288 HK HB HI0;have BK285:=n0_;have HO288:=n1_;have HK:=n2_;have HB:=n3_;have HI0:=n4_;clear n0_ n1_ n2_ n3_ n4_;(try clear hb);(try clear hb2);(try clear hk);(try clear hi);obtain⟨Ao53,co53,eo53⟩:=Kd.R_slice HO288.out;subst eo53;have p292:0 ≤ (t289:Int):=of_decide_eq_true (by first|(with_reducible assumption)|assumption);have q292:t289 < (y286.length:Int):=of_decide_eq_true (by first|(with_reducible assumption)|assumption);obtain⟨ad292,e292,hx292_0⟩:=Kd.at_int (Kd.R_reads' HO288.out).2.2 t289 p292 q292;cases e292;replace p292:=eq_true p292;replace q292:=eq_true q292)|((with_reducible refine gate_callee (f:=60) rfl ?_);refine goesL_ (some 12) rfl rfl Try.func60 (by kernel_rfl) rfl #[.pointer (some ⟨g,0,none⟩),.int .i64 20,.int .i64 (rd y286 t289)] rfl (by (try simp only [mA,mC,mN]);first|done|rfl|(simp only [List.length_drop,List.length_take];rfl)) ?_;(with_reducible refine (spec_l01Cur_numbers.calls k g s0_0 t290 t291 20 (rd y286 t289) t293 t296 t297 w0 _ ?side1 ?side2 A5.out).mono ?_);(case side1=>repeat (first|(with_reducible first|exact HI0.out|apply IsS62.alloc|apply IsS62.drewN|apply IsS62.drew|apply IsS62.set_1|apply IsS62.set_2|refine IsS62.far ?_ NB0_285.out _)|exact HI0.out));(case side2=>repeat (first|(with_reducible first|exact HB.out|apply aZ|apply nZ|apply dZ|refine sZ ?_ (IsS62.ge HI0.out)|refine sZ ?_ GE285.out)|exact HB.out));rintro e w54 ⟨v294,rfl,ho0,hi,hb,hk⟩;refine⟨_,rfl,?_⟩;have n0_:=mk0 (KeepBut.blk hk (g':=gb285) (o:=.cells #[.int .i64 0,.slice none 0 0] 24 (0,0)) (by (with_reducible repeat (first|apply nB|apply dB|apply aB));exact BK285.out) NB285_0.out (by simp));have n1_:=mk0 (Kd.R_mono (Kd.R_told (Kd.R_oldK (IsS62.apart (show IsS62 w0 _ g s0_0 t290 t291 from by repeat (first|(with_reducible first|exact HI0.out|apply IsS62.alloc|apply IsS62.drewN|apply IsS62.drew|apply IsS62.set_1|apply IsS62.set_2|refine IsS62.far ?_ NB0_285.out _)|exact HI0.out)) (by (with_reducible repeat (first|apply aR|apply nR|apply dR));exact HO288.out) (by decide)) hk) (Kd.R_base ho0)) (fun _ h_=>h_.1));have n2_:=mk0 (Kd.R_lower (Kd.R_new' ho0 (Kd.R_lt (by (with_reducible repeat (first|apply aR|apply nR|apply dR));exact HO288.out))) (keep_size (w:=w) (g:=g) (row:=none) (by repeat (first|(with_reducible first|exact HK.out|apply KeepBut.set_|apply keep_drewN|apply keep_drew|apply keep_alloc|refine keep_far ?_ GW285.out _)|exact HK.out))));have n3_:=mk0 (KeepBut.trans (by repeat (first|(with_reducible first|exact HK.out|apply KeepBut.set_|apply keep_drewN|apply keep_drew|apply keep_alloc|refine keep_far ?_ GW285.out _)|exact HK.out)) hk (.inl rfl));have n4_:=mk0 (hb);have n5_:=mk0 (hi);clear BK285 HO288 HK HB HI0;have BK285:=n0_;have HO288:=n1_;have HO295:=n2_;have HK:=n3_;have HB:=n4_;have HI0:=n5_;clear n0_ n1_ n2_ n3_ n4_ n5_;(try clear hb);(try clear hb2);(try clear hk);(try clear hi);(try clear ho0);obtain⟨Ao55,co55,eo55⟩:=Kd.R_slice HO295.out;subst eo55)|((with_reducible refine gate_callee (f:=11) rfl ?_);refine goesL_ (some 13) rfl rfl Try.func11 (by kernel_rfl) rfl #[.slice Ao55 t293.length co55] rfl (by (try simp only [mA,mC,mN]);first|done|rfl|(simp only [List.length_drop,List.length_take];rfl)) ?_;(with_reducible refine (spec_MinsOf.calls k _ _ t293 t298 t299 t302 _ ?side1 ?side2 A6.out).mono ?_);(case side1=>repeat (first|exact (Kd.R_reads' HO295.out).2.2|(with_reducible first|apply aC|apply nC|apply dC)));(case side2=>exact (Kd.R_reads' HO295.out).2.1);rintro e w56 ⟨v300,rfl,ho0,hb⟩;refine⟨_,rfl,?_⟩;have n0_:=mk0 (Kd.R_elder' (by (with_reducible repeat (first|apply aR|apply nR|apply dR));exact HO288.out) (Kd.R_base ho0) hb);have n1_:=mk0 (Kd.R_elder' (by (with_reducible repeat (first|apply aR|apply nR|apply dR));exact HO295.out) (Kd.R_base ho0) hb);have n2_:=mk0 (Kd.R_lower (Kd.R_new' (Kd.R_new' ho0 (Kd.R_lt (by (with_reducible repeat (first|apply aR|apply nR|apply dR));exact HO288.out))) (Kd.R_lt (by (with_reducible repeat (first|apply aR|apply nR|apply dR));exact HO295.out))) (keep_size (w:=w) (g:=g) (row:=none) (by repeat (first|(with_reducible first|exact HK.out|apply KeepBut.set_|apply keep_drewN|apply keep_drew|apply keep_alloc|refine keep_far ?_ GW285.out _)|exact HK.out))));have n3_:=mk0 (IsS62.below (by repeat (first|(with_reducible first|exact HI0.out|apply IsS62.alloc|apply IsS62.drewN|apply IsS62.drew|apply IsS62.set_1|apply IsS62.set_2|refine IsS62.far ?_ NB0_285.out _)|exact HI0.out)) hb);have n4_:=mk0 (blk_below (g:=gb285) (o:=.cells #[.int .i64 0,.slice none 0 0] 24 (0,0)) (by (with_reducible repeat (first|apply nB|apply dB|apply aB));exact BK285.out) hb);have n5_:=mk0 (KeepBut.trans (by repeat (first|(with_reducible first|exact HK.out|apply KeepBut.set_|apply keep_drewN|apply keep_drew|apply keep_alloc|refine keep_far ?_ GW285.out _)|exact HK.out)) (KeepBut.of_below hb g none) (.inl rfl));have n6_:=mk0 (below_step (by repeat (first|(with_reducible first|exact HB.out|apply aZ|apply nZ|apply dZ|refine sZ ?_ (IsS62.ge HI0.out)|refine sZ ?_ GE285.out)|exact HB.out)) hb);clear HO288 HO295 HI0 BK285 HK HB;have HO288:=n0_;have HO295:=n1_;have HO301:=n2_;have HI0:=n3_;have BK285:=n4_;have HK:=n5_;have HB:=n6_;clear n0_ n1_ n2_ n3_ n4_ n5_ n6_;(try clear hb);(try clear hb2);(try clear hk);(try clear hi);(try clear ho0))|((with_reducible refine gate_dst (N:=3) rfl ?_);refine box_event ?hg (N:=3) ?hd (cs:=#[.int .i64 0,.slice none 0 0]) (t:=24) ?hr ?_;(case hd=>rfl);(case hg=>rfl);(case hr=>first|(go_simp;done)|(go_simp;rfl));intro gb303 hg w57 hbox hb;have n0_:=mk0 (Kd.R_below (by (with_reducible repeat (first|apply aR|apply nR|apply dR));exact HO288.out) hb);have n1_:=mk0 (Kd.R_below (by (with_reducible repeat (first|apply aR|apply nR|apply dR));exact HO295.out) hb);have n2_:=mk0 (Kd.R_below (by (with_reducible repeat (first|apply aR|apply nR|apply dR));exact HO301.out) hb);have n3_:=mk0 (IsS62.below (by repeat (first|(with_reducible first|exact HI0.out|apply IsS62.alloc|apply IsS62.drewN|apply IsS62.drew|apply IsS62.set_1|apply IsS62.set_2|refine IsS62.far ?_ NB0_285.out _)|exact HI0.out)) hb);have n4_:=mk0 (blk_below (g:=gb285) (o:=.cells #[.int .i64 0,.slice none 0 0] 24 (0,0)) (by (with_reducible repeat (first|apply nB|apply dB|apply aB));exact BK285.out) hb);have n5_:=mk0 (KeepBut.trans (by repeat (first|(with_reducible first|exact HK.out|apply KeepBut.set_|apply keep_drewN|apply keep_drew|apply keep_alloc|refine keep_far ?_ GW285.out _)|exact HK.out)) (KeepBut.of_below hb g none) (.inl rfl));have n6_:=mk0 (below_step (by repeat (first|(with_reducible first|exact HB.out|apply aZ|apply nZ|apply dZ|refine sZ ?_ (IsS62.ge HI0.out)|refine sZ ?_ GE285.out)|exact HB.out)) hb);have n7_:=mk0 (hbox);have n8_:=mk0 ((by rw [hg];exact (keep_size (w:=w) (g:=g) (row:=none) (by repeat (first|(with_reducible first|exact HK.out|apply KeepBut.set_|apply keep_drewN|apply keep_drew|apply keep_alloc|refine keep_far ?_ GW285.out _)|exact HK.out))):w.heap.size ≤ gb303));have n9_:=mk0 ((Nat.le_trans HW0.out (by rw [hg];exact (keep_size (w:=w) (g:=g) (row:=none) (by repeat (first|(with_reducible first|exact HK.out|apply KeepBut.set_|apply keep_drewN|apply keep_drew|apply keep_alloc|refine keep_far ?_ GW285.out _)|exact HK.out))):w.heap.size ≤ gb303):w0.heap.size ≤ gb303));have n10_:=mk0 ((by rw [hg];exact Nat.ne_of_lt (blk_lt (g:=gb285) (o:=.cells #[.int .i64 0,.slice none 0 0] 24 (0,0)) (by (with_reducible repeat (first|apply nB|apply dB|apply aB));exact BK285.out)):gb285 ≠ gb303));have n11_:=mk0 ((by rw [hg];exact Nat.ne_of_gt (blk_lt (g:=gb285) (o:=.cells #[.int .i64 0,.slice none 0 0] 24 (0,0)) (by (with_reducible repeat (first|apply nB|apply dB|apply aB));exact BK285.out)):gb303 ≠ gb285));have n12_:=mk0 ((by rw [hg];exact Nat.ne_of_lt (IsS62.lt (show IsS62 w0 _ g s0_0 t296 t297 from by repeat (first|(with_reducible first|exact HI0.out|apply IsS62.alloc|apply IsS62.drewN|apply IsS62.drew|apply IsS62.set_1|apply IsS62.set_2|refine IsS62.far ?_ NB0_285.out _)|exact HI0.out))):g ≠ gb303));have n13_:=mk0 ((by rw [hg];exact Nat.ne_of_gt (IsS62.lt (show IsS62 w0 _ g s0_0 t296 t297 from by repeat (first|(with_reducible first|exact HI0.out|apply IsS62.alloc|apply IsS62.drewN|apply IsS62.drew|apply IsS62.set_1|apply IsS62.set_2|refine IsS62.far ?_ NB0_285.out _)|exact HI0.out))):gb303 ≠ g));clear HO288 HO295 HO301 HI0 BK285 HK HB;have HO288:=n0_;have HO295:=n1_;have HO301:=n2_;have HI0:=n3_;have BK285:=n4_;have HK:=n5_;have HB:=n6_;have BK303:=n7_;have GW303:=n8_;have GE303:=n9_;have NB285_303:=n10_;have NB303_285:=n11_;have NB0_303:=n12_;have NB303_0:=n13_;clear n0_ n1_ n2_ n3_ n4_ n5_ n6_ n7_ n8_ n9_ n10_ n11_ n12_ n13_ hb hbox hg;have hnb58:=NB303_285.out;have hnc58:=NB285_303.out;have hnb59:=NB303_0.out;have hnc59:=NB0_303.out;have hcz60_0:w57.cell? ⟨gb303,0,none⟩ = some (.int .i64 0):=(blk_cell BK303.out 0).trans rfl;have hcz60_1:w57.cell? ⟨gb303,1,none⟩ = some (.slice none 0 0):=(blk_cell BK303.out 1).trans rfl;have hfz60_0:=blk_frozen BK303.out 0;have hfz60_1:=blk_frozen BK303.out 1;obtain⟨Ao61,co61,eo61⟩:=Kd.R_slice HO301.out;subst eo61)|((with_reducible refine gate_callee (f:=52) rfl ?_);refine goesL_ (some 17) rfl rfl Try.func52 (by kernel_rfl) rfl #[.pointer (some ⟨g,0,none⟩),.int .i64 12] rfl (by (try simp only [mA,mC,mN]);first|done|rfl|(simp only [List.length_drop,List.length_take];rfl)) ?_;(with_reducible refine (spec_l01Cur_pick.calls g s0_0 t296 t297 12 t304 t305 t306 w0 _ ?side1 ?side2 A7.out).mono ?_);(case side1=>repeat (first|(with_reducible first|exact HI0.out|apply IsS62.alloc|apply IsS62.drewN|apply IsS62.drew|apply IsS62.set_1|apply IsS62.set_2|refine IsS62.far ?_ NB0_285.out _|refine IsS62.far ?_ NB0_303.out _)|exact HI0.out));(case side2=>repeat (first|(with_reducible first|exact HB.out|apply aZ|apply nZ|apply dZ|refine sZ ?_ (IsS62.ge HI0.out)|refine sZ ?_ GE285.out|refine sZ ?_ GE303.out)|exact HB.out));rintro e w62 ⟨rfl,hi,hb,hk⟩;refine⟨_,rfl,?_⟩;have n0_:=mk0 (KeepBut.blk hk (g':=gb285) (o:=.cells #[.int .i64 0,.slice none 0 0] 24 (0,0)) (by (with_reducible repeat (first|apply nB|apply dB|apply aB));refine blk_far ?_ NB285_303.out _;(with_reducible repeat (first|apply nB|apply dB|apply aB));refine blk_far ?_ NB285_303.out _;(with_reducible repeat (first|apply nB|apply dB|apply aB));exact BK285.out) NB285_0.out (by simp));have n1_:=mk0 (Kd.R_mono (Kd.R_keep (IsS62.apart (show IsS62 w0 _ g s0_0 t296 t297 from by repeat (first|(with_reducible first|exact HI0.out|apply IsS62.alloc|apply IsS62.drewN|apply IsS62.drew|apply IsS62.set_1|apply IsS62.set_2|refine IsS62.far ?_ NB0_285.out _|refine IsS62.far ?_ NB0_303.out _)|exact HI0.out)) (by (with_reducible repeat (first|apply aR|apply nR|apply dR));exact (Kd.R_mono (Kd.R_far (p:=⟨gb303,1,none⟩) (Kd.R_far (p:=⟨gb303,0,none⟩) (Kd.R_types HO288.out BK303.out (by decide)) (fun _ hk=>hk.2) (.int .i64 t298)) (fun _ hk=>hk.2) (.slice Ao61 t299.length co61)) (fun _ h_=>h_.1))) (by decide)) hk (fun _ h=>h.2)) (fun _ h=>h.1));have n2_:=mk0 (Kd.R_mono (Kd.R_keep (IsS62.apart (show IsS62 w0 _ g s0_0 t296 t297 from by repeat (first|(with_reducible first|exact HI0.out|apply IsS62.alloc|apply IsS62.drewN|apply IsS62.drew|apply IsS62.set_1|apply IsS62.set_2|refine IsS62.far ?_ NB0_285.out _|refine IsS62.far ?_ NB0_303.out _)|exact HI0.out)) (by (with_reducible repeat (first|apply aR|apply nR|apply dR));exact (Kd.R_mono (Kd.R_far (p:=⟨gb303,1,none⟩) (Kd.R_far (p:=⟨gb303,0,none⟩) (Kd.R_types HO295.out BK303.out (by decide)) (fun _ hk=>hk.2) (.int .i64 t298)) (fun _ hk=>hk.2) (.slice Ao61 t299.length co61)) (fun _ h_=>h_.1))) (by decide)) hk (fun _ h=>h.2)) (fun _ h=>h.1));have n3_:=mk0 (Kd.R_mono (Kd.R_keep (IsS62.apart (show IsS62 w0 _ g s0_0 t296 t297 from by repeat (first|(with_reducible first|exact HI0.out|apply IsS62.alloc|apply IsS62.drewN|apply IsS62.drew|apply IsS62.set_1|apply IsS62.set_2|refine IsS62.far ?_ NB0_285.out _|refine IsS62.far ?_ NB0_303.out _)|exact HI0.out)) (by (with_reducible repeat (first|apply aR|apply nR|apply dR));exact (Kd.R_mono (Kd.R_far (p:=⟨gb303,1,none⟩) (Kd.R_far (p:=⟨gb303,0,none⟩) (Kd.R_types HO301.out BK303.out (by decide)) (fun _ hk=>hk.2) (.int .i64 t298)) (fun _ hk=>hk.2) (.slice Ao61 t299.length co61)) (fun _ h_=>h_.1))) (by decide)) hk (fun _ h=>h.2)) (fun _ h=>h.1));have n4_:=mk0 (KeepBut.blk hk (g':=gb303) (o:=.cells #[.int .i64 t298,.slice Ao61 t299.length co61] 24 (0,0)) (by (with_reducible repeat (first|apply nB|apply dB|apply aB));refine blk_put (cs:=#[.int .i64 t298,.slice none 0 0]) ?_ 1 _ rfl;(with_reducible repeat (first|apply nB|apply dB|apply aB));refine blk_put (cs:=#[.int .i64 0,.slice none 0 0]) ?_ 0 _ rfl;(with_reducible repeat (first|apply nB|apply dB|apply aB));exact BK303.out) NB303_0.out (by simp));have n5_:=mk0 (KeepBut.trans (by repeat (first|(with_reducible first|exact HK.out|apply KeepBut.set_|apply keep_drewN|apply keep_drew|apply keep_alloc|refine keep_far ?_ GW285.out _|refine keep_far ?_ GW303.out _)|exact HK.out)) hk (.inl rfl));have n6_:=mk0 (hb);have n7_:=mk0 (hi);clear BK285 HO288 HO295 HO301 BK303 HK HB HI0;have BK285:=n0_;have HO288:=n1_;have HO295:=n2_;have HO301:=n3_;have BK303:=n4_;have HK:=n5_;have HB:=n6_;have HI0:=n7_;clear n0_ n1_ n2_ n3_ n4_ n5_ n6_ n7_;(try clear hb);(try clear hb2);(try clear hk);(try clear hi)))
 have pi332:(0 ≤ (t329:Int)) = True:=eq_true (of_decide_eq_true (by first|(with_reducible assumption)|assumption))
 have qi332:(t329 < (y326.length:Int)) = True:=eq_true (of_decide_eq_true (by first|(with_reducible assumption)|assumption))
 have n0_:=mk0 (dR HO288.out)
 have n1_:=mk0 (dR HO295.out)
 have n2_:=mk0 (dR HO301.out)
 have n3_:=mk0 (dB BK285.out)
 have n4_:=mk0 (dB BK303.out)
 have n5_:=mk0 (IsS62.drew HI0.out)
 have n6_:=mk0 (keep_drew HK.out)
 have n7_:=mk0 (dZ HB.out)
 clear HO288
 clear HO295
 clear HO301
 clear BK285
 clear BK303
 clear HI0
 clear HK
 clear HB
 have HO288:=n0_
 have HO295:=n1_
 have HO301:=n2_
 have BK285:=n3_
 have BK303:=n4_
 have HI0:=n5_
 have HK:=n6_
 have HB:=n7_
 clear n0_ n1_ n2_ n3_ n4_ n5_ n6_ n7_
 refine start_ (n:=18) (S:=fun w'=>w'.cell? ⟨gb303,0,none⟩ = some (.int .i64 t298) ∧ w'.cell? ⟨gb303,1,none⟩ = some (.slice Ao61 t299.length co61)) (ds:=[17]) spec_l01Cur_mins.m17 (by kernel_rfl) rfl rfl ⟨(blk_cell BK303.out 0).trans rfl,(blk_cell BK303.out 1).trans rfl⟩ (fun hHeld=>?_);refine with_tabW spec_l01Cur_mins.tab6 spec_l01Cur_mins.bits6 (fun HT_ HW_=>?_)
 generalize w62.drew = w63 at HO288 HO295 HO301 BK285 BK303 HI0 HK HB hHeld ⊢
 refine pure_ (i:=0) (N:=some 36) (v:=?_) (a':=?_) spec_l01Cur_mins.m18 rfl rfl (any_of HT_.out (by kernel_rfl)) (fun _ _ _ h=>h) (Or.inl ⟨by rfl,?_⟩) ?_ ?_
 rotate_left
 ·intro w'
  go_simp
  with_reducible rfl
 rotate_left
 ·simp only [Act.put,sA,sO,sS,i64_w,i32_w]
  rfl
 refine pure_ (i:=2) (N:=some 38) (v:=?_) (a':=?_) spec_l01Cur_mins.m19 rfl rfl (any_of HT_.out (by kernel_rfl)) (fun _ _ _ h=>h) (Or.inl ⟨by rfl,?_⟩) ?_ ?_
 rotate_left
 ·intro w'
  go_simp
  with_reducible rfl
 rotate_left
 ·simp only [Act.put,sA,sO,sS,i64_w,i32_w]
  rfl
 refine pure_ (i:=3) (N:=some 39) (v:=?_) (a':=?_) spec_l01Cur_mins.m20 rfl rfl (any_of HT_.out (by kernel_rfl)) (fun _ _ _ h=>h) (Or.inl ⟨by rfl,?_⟩) ?_ ?_
 rotate_left
 ·intro w'
  go_simp
  with_reducible rfl
 rotate_left
 ·simp only [Act.put,sA,sO,sS,i64_w,i32_w]
  rfl
 refine pure_ (i:=7) (N:=some 43) (v:=?_) (a':=?_) spec_l01Cur_mins.m21 rfl rfl (any_of HT_.out (by kernel_rfl)) (fun _ _ _ h=>h) (Or.inl ⟨by rfl,?_⟩) ?_ ?_
 rotate_left
 ·intro w'
  go_simp
  with_reducible rfl
 rotate_left
 ·simp only [Act.put,sA,sO,sS,i64_w,i32_w]
  rfl
 refine pure_ (i:=9) (N:=some 45) (v:=?_) (a':=?_) spec_l01Cur_mins.m22 rfl rfl (any_of HT_.out (by kernel_rfl)) (fun _ _ _ h=>h) (Or.inl ⟨by rfl,?_⟩) ?_ ?_
 rotate_left
 ·intro w'
  go_simp
  with_reducible rfl
 rotate_left
 ·simp only [Act.put,sA,sO,sS,i64_w,i32_w]
  rfl
 refine pure_ (i:=12) (N:=some 48) (v:=?_) (a':=?_) spec_l01Cur_mins.m23 rfl rfl (any_of HT_.out (by kernel_rfl)) (fun _ _ _ h=>h) (Or.inl ⟨by rfl,?_⟩) ?_ ?_
 rotate_left
 ·intro w'
  go_simp
  with_reducible rfl
 rotate_left
 ·simp only [Act.put,sA,sO,sS,i64_w,i32_w]
  rfl
 refine take_ (i:=1) (N:=some 37) (v:=?_) (a':=?_) spec_l01Cur_mins.m24 rfl rfl (take_ofW HT_.out HW_.out (by kernel_rfl)) (fun _ _ _ h=>h) (Or.inl ⟨by rfl,?_⟩) hHeld ?_ ?_
 rotate_left
 ·rintro w' ⟨s0,s1⟩
  go_simp
  with_reducible rfl
 rotate_left
 ·simp only [Act.put,sA,sO,sS,i64_w,i32_w]
  rfl
 refine take_ (i:=4) (N:=some 40) (v:=?_) (a':=?_) spec_l01Cur_mins.m25 rfl rfl (take_ofW HT_.out HW_.out (by kernel_rfl)) (fun _ _ _ h=>h) (Or.inl ⟨by rfl,?_⟩) hHeld ?_ ?_
 rotate_left
 ·rintro w' ⟨s0,s1⟩
  go_simp
  with_reducible rfl
 rotate_left
 ·simp only [Act.put,sA,sO,sS,i64_w,i32_w]
  rfl
 refine pure_ (i:=5) (N:=some 41) (v:=?_) (a':=?_) spec_l01Cur_mins.m26 rfl rfl (any_of HT_.out (by kernel_rfl)) (fun _ _ _ h=>h) (Or.inl ⟨by rfl,?_⟩) ?_ ?_
 rotate_left
 ·intro w'
  go_simp
  with_reducible rfl
 rotate_left
 ·simp only [Act.put,sA,sO,sS,i64_w,i32_w]
  rfl
 refine one_ (i:=6) (N:=some 42) spec_l01Cur_mins.m27 rfl rfl (one_of HT_.out (by kernel_rfl)) (by decide) (fun K hK=>?_)
 refine goes_ Try.func52 (by kernel_rfl) rfl #[.pointer (some ⟨g,0,none⟩),.int .i64 (t299.length:Int)] (by rfl) rfl rfl (by (try simp only [mA,mC,mN]);first|done|rfl|(simp only [List.length_drop,List.length_take];rfl)) ?_
 with_reducible refine (spec_l01Cur_pick.calls g s0_0 t305 t306 (t299.length:Int) t317 t318 t319 w0 _ ?side1 ?side2 A40.out).mono ?_
 (case side1=>repeat (first|(with_reducible first|exact HI0.out|apply IsS62.alloc|apply IsS62.drewN|apply IsS62.drew|apply IsS62.set_1|apply IsS62.set_2|refine IsS62.far ?_ NB0_285.out _|refine IsS62.far ?_ NB0_303.out _)|exact HI0.out))
 (case side2=>repeat (first|(with_reducible first|exact HB.out|apply aZ|apply nZ|apply dZ|refine sZ ?_ (IsS62.ge HI0.out)|refine sZ ?_ GE285.out|refine sZ ?_ GE303.out)|exact HB.out))
 rintro e w64 ⟨rfl,hi,hb,hk⟩
 refine⟨_,rfl,?_⟩
 have n0_:=mk0 (KeepBut.blk hk (g':=gb285) (o:=.cells #[.int .i64 0,.slice none 0 0] 24 (0,0)) (by (with_reducible repeat (first|apply nB|apply dB|apply aB));exact BK285.out) NB285_0.out (by simp))
 have n1_:=mk0 (Kd.R_mono (Kd.R_keep (IsS62.apart (show IsS62 w0 _ g s0_0 t305 t306 from by repeat (first|(with_reducible first|exact HI0.out|apply IsS62.alloc|apply IsS62.drewN|apply IsS62.drew|apply IsS62.set_1|apply IsS62.set_2|refine IsS62.far ?_ NB0_285.out _|refine IsS62.far ?_ NB0_303.out _)|exact HI0.out)) (by (with_reducible repeat (first|apply aR|apply nR|apply dR));exact HO288.out) (by decide)) hk (fun _ h=>h.2)) (fun _ h=>h.1))
 have n2_:=mk0 (Kd.R_mono (Kd.R_keep (IsS62.apart (show IsS62 w0 _ g s0_0 t305 t306 from by repeat (first|(with_reducible first|exact HI0.out|apply IsS62.alloc|apply IsS62.drewN|apply IsS62.drew|apply IsS62.set_1|apply IsS62.set_2|refine IsS62.far ?_ NB0_285.out _|refine IsS62.far ?_ NB0_303.out _)|exact HI0.out)) (by (with_reducible repeat (first|apply aR|apply nR|apply dR));exact HO295.out) (by decide)) hk (fun _ h=>h.2)) (fun _ h=>h.1))
 have n3_:=mk0 (Kd.R_mono (Kd.R_keep (IsS62.apart (show IsS62 w0 _ g s0_0 t305 t306 from by repeat (first|(with_reducible first|exact HI0.out|apply IsS62.alloc|apply IsS62.drewN|apply IsS62.drew|apply IsS62.set_1|apply IsS62.set_2|refine IsS62.far ?_ NB0_285.out _|refine IsS62.far ?_ NB0_303.out _)|exact HI0.out)) (by (with_reducible repeat (first|apply aR|apply nR|apply dR));exact HO301.out) (by decide)) hk (fun _ h=>h.2)) (fun _ h=>h.1))
 have n4_:=mk0 (KeepBut.blk hk (g':=gb303) (o:=.cells #[.int .i64 t298,.slice Ao61 t299.length co61] 24 (0,0)) (by (with_reducible repeat (first|apply nB|apply dB|apply aB));exact BK303.out) NB303_0.out (by simp))
 have n5_:=mk0 (KeepBut.trans (by repeat (first|(with_reducible first|exact HK.out|apply KeepBut.set_|apply keep_drewN|apply keep_drew|apply keep_alloc|refine keep_far ?_ GW285.out _|refine keep_far ?_ GW303.out _)|exact HK.out)) hk (.inl rfl))
 have n6_:=mk0 (hb)
 have n7_:=mk0 (hi)
 clear BK285
 clear HO288
 clear HO295
 clear HO301
 clear BK303
 clear HK
 clear HB
 clear HI0
 have BK285:=n0_
 have HO288:=n1_
 have HO295:=n2_
 have HO301:=n3_
 have BK303:=n4_
 have HK:=n5_
 have HB:=n6_
 have HI0:=n7_
 clear n0_ n1_ n2_ n3_ n4_ n5_ n6_ n7_
 (try clear hb)
 (try clear hb2)
 (try clear hk)
 (try clear hi)
 refine hK.out _ _ ⟨(blk_cell BK303.out 0).trans rfl,(blk_cell BK303.out 1).trans rfl⟩ (fun hHeld=>?_)
 clear hK K
 refine norm_ (a':=?_) ?_ ?_
 rotate_left
 ·show Act.put _ (some 42) _ = _
  simp only [Act.put,sA,sO,sS,i64_w,i32_w]
  rfl
 refine one_ (i:=8) (N:=some 44) spec_l01Cur_mins.m28 rfl rfl (one_of HT_.out (by kernel_rfl)) (by decide) (fun K hK=>?_)
 refine goes_ Try.func52 (by kernel_rfl) rfl #[.pointer (some ⟨g,0,none⟩),.int .i64 9] (by rfl) rfl rfl (by (try simp only [mA,mC,mN]);first|done|rfl|(simp only [List.length_drop,List.length_take];rfl)) ?_
 with_reducible refine (spec_l01Cur_pick.calls g s0_0 t318 t319 9 t320 t321 t322 w0 _ ?side1 ?side2 A41.out).mono ?_
 (case side1=>repeat (first|(with_reducible first|exact HI0.out|apply IsS62.alloc|apply IsS62.drewN|apply IsS62.drew|apply IsS62.set_1|apply IsS62.set_2|refine IsS62.far ?_ NB0_285.out _|refine IsS62.far ?_ NB0_303.out _)|exact HI0.out))
 (case side2=>repeat (first|(with_reducible first|exact HB.out|apply aZ|apply nZ|apply dZ|refine sZ ?_ (IsS62.ge HI0.out)|refine sZ ?_ GE285.out|refine sZ ?_ GE303.out)|exact HB.out))
 rintro e w65 ⟨rfl,hi,hb,hk⟩
 refine⟨_,rfl,?_⟩
 have n0_:=mk0 (KeepBut.blk hk (g':=gb285) (o:=.cells #[.int .i64 0,.slice none 0 0] 24 (0,0)) (by (with_reducible repeat (first|apply nB|apply dB|apply aB));exact BK285.out) NB285_0.out (by simp))
 have n1_:=mk0 (Kd.R_mono (Kd.R_keep (IsS62.apart (show IsS62 w0 _ g s0_0 t318 t319 from by repeat (first|(with_reducible first|exact HI0.out|apply IsS62.alloc|apply IsS62.drewN|apply IsS62.drew|apply IsS62.set_1|apply IsS62.set_2|refine IsS62.far ?_ NB0_285.out _|refine IsS62.far ?_ NB0_303.out _)|exact HI0.out)) (by (with_reducible repeat (first|apply aR|apply nR|apply dR));exact HO288.out) (by decide)) hk (fun _ h=>h.2)) (fun _ h=>h.1))
 have n2_:=mk0 (Kd.R_mono (Kd.R_keep (IsS62.apart (show IsS62 w0 _ g s0_0 t318 t319 from by repeat (first|(with_reducible first|exact HI0.out|apply IsS62.alloc|apply IsS62.drewN|apply IsS62.drew|apply IsS62.set_1|apply IsS62.set_2|refine IsS62.far ?_ NB0_285.out _|refine IsS62.far ?_ NB0_303.out _)|exact HI0.out)) (by (with_reducible repeat (first|apply aR|apply nR|apply dR));exact HO295.out) (by decide)) hk (fun _ h=>h.2)) (fun _ h=>h.1))
 have n3_:=mk0 (Kd.R_mono (Kd.R_keep (IsS62.apart (show IsS62 w0 _ g s0_0 t318 t319 from by repeat (first|(with_reducible first|exact HI0.out|apply IsS62.alloc|apply IsS62.drewN|apply IsS62.drew|apply IsS62.set_1|apply IsS62.set_2|refine IsS62.far ?_ NB0_285.out _|refine IsS62.far ?_ NB0_303.out _)|exact HI0.out)) (by (with_reducible repeat (first|apply aR|apply nR|apply dR));exact HO301.out) (by decide)) hk (fun _ h=>h.2)) (fun _ h=>h.1))
 have n4_:=mk0 (KeepBut.blk hk (g':=gb303) (o:=.cells #[.int .i64 t298,.slice Ao61 t299.length co61] 24 (0,0)) (by (with_reducible repeat (first|apply nB|apply dB|apply aB));exact BK303.out) NB303_0.out (by simp))
 have n5_:=mk0 (KeepBut.trans (by repeat (first|(with_reducible first|exact HK.out|apply KeepBut.set_|apply keep_drewN|apply keep_drew|apply keep_alloc|refine keep_far ?_ GW285.out _|refine keep_far ?_ GW303.out _)|exact HK.out)) hk (.inl rfl))
 have n6_:=mk0 (hb)
 have n7_:=mk0 (hi)
 clear BK285
 clear HO288
 clear HO295
 clear HO301
 clear BK303
 clear HK
 clear HB
 clear HI0
 have BK285:=n0_
 have HO288:=n1_
 have HO295:=n2_
 have HO301:=n3_
 have BK303:=n4_
 have HK:=n5_
 have HB:=n6_
 have HI0:=n7_
 clear n0_ n1_ n2_ n3_ n4_ n5_ n6_ n7_
 (try clear hb)
 (try clear hb2)
 (try clear hk)
 (try clear hi)
 refine hK.out _ _ ⟨(blk_cell BK303.out 0).trans rfl,(blk_cell BK303.out 1).trans rfl⟩ (fun hHeld=>?_)
 clear hK K
 refine norm_ (a':=?_) ?_ ?_
 rotate_left
 ·show Act.put _ (some 44) _ = _
  simp only [Act.put,sA,sO,sS,i64_w,i32_w]
  rfl
 refine one_ (i:=10) (N:=some 46) spec_l01Cur_mins.m29 rfl rfl (one_of HT_.out (by kernel_rfl)) (by decide) (fun K hK=>?_)
 refine goes_ Try.func53 (by kernel_rfl) rfl #[.pointer (some ⟨g,0,none⟩)] (by rfl) rfl rfl (by (try simp only [mA,mC,mN]);first|done|rfl|(simp only [List.length_drop,List.length_take];rfl)) ?_
 with_reducible refine (spec_l01Cur_raw.calls g s0_0 t321 t322 t323 t324 t325 w0 _ ?side1 ?side2 A42.out).mono ?_
 (case side1=>repeat (first|(with_reducible first|exact HI0.out|apply IsS62.alloc|apply IsS62.drewN|apply IsS62.drew|apply IsS62.set_1|apply IsS62.set_2|refine IsS62.far ?_ NB0_285.out _|refine IsS62.far ?_ NB0_303.out _)|exact HI0.out))
 (case side2=>repeat (first|(with_reducible first|exact HB.out|apply aZ|apply nZ|apply dZ|refine sZ ?_ (IsS62.ge HI0.out)|refine sZ ?_ GE285.out|refine sZ ?_ GE303.out)|exact HB.out))
 rintro e w66 ⟨rfl,hi,hb,hk⟩
 refine⟨_,rfl,?_⟩
 have n0_:=mk0 (KeepBut.blk hk (g':=gb285) (o:=.cells #[.int .i64 0,.slice none 0 0] 24 (0,0)) (by (with_reducible repeat (first|apply nB|apply dB|apply aB));exact BK285.out) NB285_0.out (by simp))
 have n1_:=mk0 (Kd.R_mono (Kd.R_keep (IsS62.apart (show IsS62 w0 _ g s0_0 t321 t322 from by repeat (first|(with_reducible first|exact HI0.out|apply IsS62.alloc|apply IsS62.drewN|apply IsS62.drew|apply IsS62.set_1|apply IsS62.set_2|refine IsS62.far ?_ NB0_285.out _|refine IsS62.far ?_ NB0_303.out _)|exact HI0.out)) (by (with_reducible repeat (first|apply aR|apply nR|apply dR));exact HO288.out) (by decide)) hk (fun _ h=>h.2)) (fun _ h=>h.1))
 have n2_:=mk0 (Kd.R_mono (Kd.R_keep (IsS62.apart (show IsS62 w0 _ g s0_0 t321 t322 from by repeat (first|(with_reducible first|exact HI0.out|apply IsS62.alloc|apply IsS62.drewN|apply IsS62.drew|apply IsS62.set_1|apply IsS62.set_2|refine IsS62.far ?_ NB0_285.out _|refine IsS62.far ?_ NB0_303.out _)|exact HI0.out)) (by (with_reducible repeat (first|apply aR|apply nR|apply dR));exact HO295.out) (by decide)) hk (fun _ h=>h.2)) (fun _ h=>h.1))
 have n3_:=mk0 (Kd.R_mono (Kd.R_keep (IsS62.apart (show IsS62 w0 _ g s0_0 t321 t322 from by repeat (first|(with_reducible first|exact HI0.out|apply IsS62.alloc|apply IsS62.drewN|apply IsS62.drew|apply IsS62.set_1|apply IsS62.set_2|refine IsS62.far ?_ NB0_285.out _|refine IsS62.far ?_ NB0_303.out _)|exact HI0.out)) (by (with_reducible repeat (first|apply aR|apply nR|apply dR));exact HO301.out) (by decide)) hk (fun _ h=>h.2)) (fun _ h=>h.1))
 have n4_:=mk0 (KeepBut.blk hk (g':=gb303) (o:=.cells #[.int .i64 t298,.slice Ao61 t299.length co61] 24 (0,0)) (by (with_reducible repeat (first|apply nB|apply dB|apply aB));exact BK303.out) NB303_0.out (by simp))
 have n5_:=mk0 (KeepBut.trans (by repeat (first|(with_reducible first|exact HK.out|apply KeepBut.set_|apply keep_drewN|apply keep_drew|apply keep_alloc|refine keep_far ?_ GW285.out _|refine keep_far ?_ GW303.out _)|exact HK.out)) hk (.inl rfl))
 have n6_:=mk0 (hb)
 have n7_:=mk0 (hi)
 clear BK285
 clear HO288
 clear HO295
 clear HO301
 clear BK303
 clear HK
 clear HB
 clear HI0
 have BK285:=n0_
 have HO288:=n1_
 have HO295:=n2_
 have HO301:=n3_
 have BK303:=n4_
 have HK:=n5_
 have HB:=n6_
 have HI0:=n7_
 clear n0_ n1_ n2_ n3_ n4_ n5_ n6_ n7_
 (try clear hb)
 (try clear hb2)
 (try clear hk)
 (try clear hi)
 refine hK.out _ _ ⟨(blk_cell BK303.out 0).trans rfl,(blk_cell BK303.out 1).trans rfl⟩ (fun hHeld=>?_)
 clear hK K
 refine norm_ (a':=?_) ?_ ?_
 rotate_left
 ·show Act.put _ (some 46) _ = _
  simp only [Act.put,sA,sO,sS,i64_w,i32_w]
  rfl
 refine join_ (σ:=Value × Addr) 4 spec_l01Cur_mins.m30 (fun s_=>[(47,s_.1),(49,.int .i64 t329)]) (fun s_ w'=>(w'.cell? ⟨gb303,0,none⟩ = some (.int .i64 t298) ∧ w'.cell? ⟨gb303,1,none⟩ = some (.slice Ao61 t299.length co61)) ∧ (Kd.R (Kd.int .i64) 3 w' w.heap.size (fun k_=>some k_ ≠ (.slice Ao55 t293.length co55:Value).ownBlock ∧ some k_ ≠ (.slice Ao61 t299.length co61:Value).ownBlock ∧ some k_ ≠ (s_.1:Value).ownBlock) (.slice (some ad292) y286.length co53) y286) ∧ (Kd.R (Kd.int .i64) 3 w' w.heap.size (fun k_=>some k_ ≠ (.slice (some ad292) y286.length co53:Value).ownBlock ∧ some k_ ≠ (.slice Ao61 t299.length co61:Value).ownBlock ∧ some k_ ≠ (s_.1:Value).ownBlock) (.slice Ao55 t293.length co55) t293) ∧ (Kd.R (Kd.int .i64) 3 w' w.heap.size (fun k_=>some k_ ≠ (.slice (some ad292) y286.length co53:Value).ownBlock ∧ some k_ ≠ (.slice Ao55 t293.length co55:Value).ownBlock ∧ some k_ ≠ (s_.1:Value).ownBlock) (.slice Ao61 t299.length co61) t299) ∧ (Kd.R (Kd.int .i64) 3 w' w.heap.size (fun k_=>some k_ ≠ (.slice (some ad292) y286.length co53:Value).ownBlock ∧ some k_ ≠ (.slice Ao55 t293.length co55:Value).ownBlock ∧ some k_ ≠ (.slice Ao61 t299.length co61:Value).ownBlock) s_.1 y326) ∧ (∃ c_,(s_.1:Value) = .slice (some s_.2) y326.length c_) ∧ (w'.heap[gb285]? = some (.cells #[.int .i64 0,.slice none 0 0] 24 (0,0))) ∧ (w'.heap[gb303]? = some (.cells #[.int .i64 t298,.slice Ao61 t299.length co61] 24 (0,0))) ∧ (IsS62 w0 w' g s0_0 t330 t331) ∧ (KeepBut w w' g none) ∧ (Below w0.heap.size w0 w')) ?_ ?_
 rotate_left
 ·intro hCont
  refine two_ (i:=11) (j:=13) (Ni:=some 47) (Nj:=some 49) spec_l01Cur_mins.m31 spec_l01Cur_mins.m32 rfl rfl rfl rfl (two_of HT_.out (by kernel_rfl)) (by decide) (by decide) (fun K hK=>?_) (fun K hK=>?_)
  ·skip
   refine Kd.R_lit_step (Kd.int .i64) _ 3 ?hg (N:=47) ?hd (xs:=([t320,t323,1000000000]:List Int)) (inner:=[.int .i64 t320,.int .i64 t323,.int .i64 1000000000]) (ok:=fun _=>True) (okp:=fun _=>True) ?hr ?hp (fun _ hk=>hk) trivial (Below.refl _ _) (Nat.le_refl _) (by simp) ?_;(case hd=>rfl);(case hg=>rfl);(case hr=>first|(go_simp;done)|(go_simp;rfl));(case hp=>exact (Reps.one (show Kd.M (Kd.int .i64) _ _ _ t320 [.int .i64 t320] from rfl) (Reps.one (show Kd.M (Kd.int .i64) _ _ _ t323 [.int .i64 t323] from rfl) (Reps.one (show Kd.M (Kd.int .i64) _ _ _ 1000000000 [.int .i64 1000000000] from rfl) (Reps.none _ _)))))
   intro v327 w67 ho68 hb hg_ hnew_
   clear hg_ hnew_
   (first|rw [← Ny326.out] at ho68|(simp only [Int.reduceToNat] at ho68;rw [← Ny326.out] at ho68))
   have n0_:=mk0 (Kd.R_elder' (by (with_reducible repeat (first|apply aR|apply nR|apply dR));exact HO288.out) (Kd.R_base ho68) hb)
   have n1_:=mk0 (Kd.R_elder' (by (with_reducible repeat (first|apply aR|apply nR|apply dR));exact HO295.out) (Kd.R_base ho68) hb)
   have n2_:=mk0 (Kd.R_elder' (by (with_reducible repeat (first|apply aR|apply nR|apply dR));exact HO301.out) (Kd.R_base ho68) hb)
   have n3_:=mk0 (Kd.R_lower (Kd.R_new' (Kd.R_new' (Kd.R_new' ho68 (Kd.R_lt (by (with_reducible repeat (first|apply aR|apply nR|apply dR));exact HO288.out))) (Kd.R_lt (by (with_reducible repeat (first|apply aR|apply nR|apply dR));exact HO295.out))) (Kd.R_lt (by (with_reducible repeat (first|apply aR|apply nR|apply dR));exact HO301.out))) (keep_size (w:=w) (g:=g) (row:=none) (by repeat (first|(with_reducible first|exact HK.out|apply KeepBut.set_|apply keep_drewN|apply keep_drew|apply keep_alloc|refine keep_far ?_ GW285.out _|refine keep_far ?_ GW303.out _)|exact HK.out))))
   have n4_:=mk0 (IsS62.below (by repeat (first|(with_reducible first|exact HI0.out|apply IsS62.alloc|apply IsS62.drewN|apply IsS62.drew|apply IsS62.set_1|apply IsS62.set_2|refine IsS62.far ?_ NB0_285.out _|refine IsS62.far ?_ NB0_303.out _)|exact HI0.out)) hb)
   have n5_:=mk0 (blk_below (g:=gb285) (o:=.cells #[.int .i64 0,.slice none 0 0] 24 (0,0)) (by (with_reducible repeat (first|apply nB|apply dB|apply aB));exact BK285.out) hb)
   have n6_:=mk0 (blk_below (g:=gb303) (o:=.cells #[.int .i64 t298,.slice Ao61 t299.length co61] 24 (0,0)) (by (with_reducible repeat (first|apply nB|apply dB|apply aB));exact BK303.out) hb)
   have n7_:=mk0 (KeepBut.trans (by repeat (first|(with_reducible first|exact HK.out|apply KeepBut.set_|apply keep_drewN|apply keep_drew|apply keep_alloc|refine keep_far ?_ GW285.out _|refine keep_far ?_ GW303.out _)|exact HK.out)) (KeepBut.of_below hb g none) (.inl rfl))
   have n8_:=mk0 (below_step (by repeat (first|(with_reducible first|exact HB.out|apply aZ|apply nZ|apply dZ|refine sZ ?_ (IsS62.ge HI0.out)|refine sZ ?_ GE285.out|refine sZ ?_ GE303.out)|exact HB.out)) hb)
   clear HO288
   clear HO295
   clear HO301
   clear HI0
   clear BK285
   clear BK303
   clear HK
   clear HB
   have HO288:=n0_
   have HO295:=n1_
   have HO301:=n2_
   have HO328:=n3_
   have HI0:=n4_
   have BK285:=n5_
   have BK303:=n6_
   have HK:=n7_
   have HB:=n8_
   clear n0_ n1_ n2_ n3_ n4_ n5_ n6_ n7_ n8_
   clear hb ho68
   obtain⟨Ao69,co69,eo69⟩:=Kd.R_slice HO328.out
   subst eo69
   obtain⟨ado69,fo69,_⟩:=Kd.at_int (Kd.R_reads' HO328.out).2.2 0 (by decide) (by rw [Ny326.out];simp)
   cases fo69
   refine hK.out _ _ ⟨(blk_cell BK303.out 0).trans rfl,(blk_cell BK303.out 1).trans rfl⟩ (fun hHeld=>?_)
   clear hK K
   refine norm_ (a':=?_) ?_ ?_
   rotate_left
   ·show Act.put _ (some 47) _ = _
    simp only [Act.put,sA,sO,sS,i64_w,i32_w]
    rfl
   refine one_ (i:=13) (N:=some 49) spec_l01Cur_mins.m30 rfl rfl (one_of HT_.out (by kernel_rfl)) (by decide) (fun K hK=>?_)
   refine goes_ Try.func52 (by kernel_rfl) rfl #[.pointer (some ⟨g,0,none⟩),.int .i64 3] (by rfl) rfl rfl (by (try simp only [mA,mC,mN]);first|done|rfl|(simp only [List.length_drop,List.length_take];rfl)) ?_
   with_reducible refine (spec_l01Cur_pick.calls g s0_0 t324 t325 3 t329 t330 t331 w0 _ ?side1 ?side2 A43.out).mono ?_
   (case side1=>repeat (first|(with_reducible first|exact HI0.out|apply IsS62.alloc|apply IsS62.drewN|apply IsS62.drew|apply IsS62.set_1|apply IsS62.set_2|refine IsS62.far ?_ NB0_285.out _|refine IsS62.far ?_ NB0_303.out _)|exact HI0.out))
   (case side2=>repeat (first|(with_reducible first|exact HB.out|apply aZ|apply nZ|apply dZ|refine sZ ?_ (IsS62.ge HI0.out)|refine sZ ?_ GE285.out|refine sZ ?_ GE303.out)|exact HB.out))
   rintro e w70 ⟨rfl,hi,hb,hk⟩
   refine⟨_,rfl,?_⟩
   have n0_:=mk0 (KeepBut.blk hk (g':=gb285) (o:=.cells #[.int .i64 0,.slice none 0 0] 24 (0,0)) (by (with_reducible repeat (first|apply nB|apply dB|apply aB));exact BK285.out) NB285_0.out (by simp))
   have n1_:=mk0 (Kd.R_mono (Kd.R_keep (IsS62.apart (show IsS62 w0 _ g s0_0 t324 t325 from by repeat (first|(with_reducible first|exact HI0.out|apply IsS62.alloc|apply IsS62.drewN|apply IsS62.drew|apply IsS62.set_1|apply IsS62.set_2|refine IsS62.far ?_ NB0_285.out _|refine IsS62.far ?_ NB0_303.out _)|exact HI0.out)) (by (with_reducible repeat (first|apply aR|apply nR|apply dR));exact HO288.out) (by decide)) hk (fun _ h=>h.2)) (fun _ h=>h.1))
   have n2_:=mk0 (Kd.R_mono (Kd.R_keep (IsS62.apart (show IsS62 w0 _ g s0_0 t324 t325 from by repeat (first|(with_reducible first|exact HI0.out|apply IsS62.alloc|apply IsS62.drewN|apply IsS62.drew|apply IsS62.set_1|apply IsS62.set_2|refine IsS62.far ?_ NB0_285.out _|refine IsS62.far ?_ NB0_303.out _)|exact HI0.out)) (by (with_reducible repeat (first|apply aR|apply nR|apply dR));exact HO295.out) (by decide)) hk (fun _ h=>h.2)) (fun _ h=>h.1))
   have n3_:=mk0 (Kd.R_mono (Kd.R_keep (IsS62.apart (show IsS62 w0 _ g s0_0 t324 t325 from by repeat (first|(with_reducible first|exact HI0.out|apply IsS62.alloc|apply IsS62.drewN|apply IsS62.drew|apply IsS62.set_1|apply IsS62.set_2|refine IsS62.far ?_ NB0_285.out _|refine IsS62.far ?_ NB0_303.out _)|exact HI0.out)) (by (with_reducible repeat (first|apply aR|apply nR|apply dR));exact HO301.out) (by decide)) hk (fun _ h=>h.2)) (fun _ h=>h.1))
   have n4_:=mk0 (KeepBut.blk hk (g':=gb303) (o:=.cells #[.int .i64 t298,.slice Ao61 t299.length co61] 24 (0,0)) (by (with_reducible repeat (first|apply nB|apply dB|apply aB));exact BK303.out) NB303_0.out (by simp))
   have n5_:=mk0 (Kd.R_mono (Kd.R_keep (IsS62.apart (show IsS62 w0 _ g s0_0 t324 t325 from by repeat (first|(with_reducible first|exact HI0.out|apply IsS62.alloc|apply IsS62.drewN|apply IsS62.drew|apply IsS62.set_1|apply IsS62.set_2|refine IsS62.far ?_ NB0_285.out _|refine IsS62.far ?_ NB0_303.out _)|exact HI0.out)) (by (with_reducible repeat (first|apply aR|apply nR|apply dR));exact HO328.out) (by decide)) hk (fun _ h=>h.2)) (fun _ h=>h.1))
   have n6_:=mk0 (KeepBut.trans (by repeat (first|(with_reducible first|exact HK.out|apply KeepBut.set_|apply keep_drewN|apply keep_drew|apply keep_alloc|refine keep_far ?_ GW285.out _|refine keep_far ?_ GW303.out _)|exact HK.out)) hk (.inl rfl))
   have n7_:=mk0 (hb)
   have n8_:=mk0 (hi)
   clear BK285
   clear HO288
   clear HO295
   clear HO301
   clear BK303
   clear HO328
   clear HK
   clear HB
   clear HI0
   have BK285:=n0_
   have HO288:=n1_
   have HO295:=n2_
   have HO301:=n3_
   have BK303:=n4_
   have HO328:=n5_
   have HK:=n6_
   have HB:=n7_
   have HI0:=n8_
   clear n0_ n1_ n2_ n3_ n4_ n5_ n6_ n7_ n8_
   (try clear hb)
   (try clear hb2)
   (try clear hk)
   (try clear hi)
   refine hK.out _ _ ⟨(blk_cell BK303.out 0).trans rfl,(blk_cell BK303.out 1).trans rfl⟩ (fun hHeld=>?_)
   clear hK K
   refine norm_ (a':=?_) ?_ ?_
   rotate_left
   ·show Act.put _ (some 49) _ = _
    simp only [Act.put,sA,sO,sS,i64_w,i32_w]
    rfl
   exact norm_ (by simp only [putAll,Act.put,sA,sO,sS]) (hCont (.slice (some ado69) y326.length co69,ado69) _ ⟨hHeld,(by (with_reducible repeat (first|apply aR|apply nR|apply dR));exact Kd.R_mono HO288.out (fun _ hk=>⟨hk.1.1.2,⟨hk.1.2,hk.2⟩⟩)),(by (with_reducible repeat (first|apply aR|apply nR|apply dR));exact Kd.R_mono HO295.out (fun _ hk=>⟨hk.1.1.2,⟨hk.1.2,hk.2⟩⟩)),(by (with_reducible repeat (first|apply aR|apply nR|apply dR));exact Kd.R_mono HO301.out (fun _ hk=>⟨hk.1.1.2,⟨hk.1.2,hk.2⟩⟩)),(by (with_reducible repeat (first|apply aR|apply nR|apply dR));exact Kd.R_mono HO328.out (fun _ hk=>⟨hk.1.1.2,⟨hk.1.2,hk.2⟩⟩)),⟨_,rfl⟩,(by (with_reducible repeat (first|apply nB|apply dB|apply aB));exact BK285.out),(by (with_reducible repeat (first|apply nB|apply dB|apply aB));exact BK303.out),(by repeat (first|(with_reducible first|exact HI0.out|apply IsS62.alloc|apply IsS62.drewN|apply IsS62.drew|apply IsS62.set_1|apply IsS62.set_2|refine IsS62.far ?_ NB0_285.out _|refine IsS62.far ?_ NB0_303.out _)|exact HI0.out)),(by repeat (first|(with_reducible first|exact HK.out|apply KeepBut.set_|apply keep_drewN|apply keep_drew|apply keep_alloc|refine keep_far ?_ GW285.out _|refine keep_far ?_ GW303.out _)|exact HK.out)),(by repeat (first|(with_reducible first|exact HB.out|apply aZ|apply nZ|apply dZ|refine sZ ?_ (IsS62.ge HI0.out)|refine sZ ?_ GE285.out|refine sZ ?_ GE303.out)|exact HB.out))⟩)
  ·skip
   refine goes_ Try.func52 (by kernel_rfl) rfl #[.pointer (some ⟨g,0,none⟩),.int .i64 3] (by rfl) rfl rfl (by (try simp only [mA,mC,mN]);first|done|rfl|(simp only [List.length_drop,List.length_take];rfl)) ?_
   with_reducible refine (spec_l01Cur_pick.calls g s0_0 t324 t325 3 t329 t330 t331 w0 _ ?side1 ?side2 A43.out).mono ?_
   (case side1=>repeat (first|(with_reducible first|exact HI0.out|apply IsS62.alloc|apply IsS62.drewN|apply IsS62.drew|apply IsS62.set_1|apply IsS62.set_2|refine IsS62.far ?_ NB0_285.out _|refine IsS62.far ?_ NB0_303.out _)|exact HI0.out))
   (case side2=>repeat (first|(with_reducible first|exact HB.out|apply aZ|apply nZ|apply dZ|refine sZ ?_ (IsS62.ge HI0.out)|refine sZ ?_ GE285.out|refine sZ ?_ GE303.out)|exact HB.out))
   rintro e w67 ⟨rfl,hi,hb,hk⟩
   refine⟨_,rfl,?_⟩
   have n0_:=mk0 (KeepBut.blk hk (g':=gb285) (o:=.cells #[.int .i64 0,.slice none 0 0] 24 (0,0)) (by (with_reducible repeat (first|apply nB|apply dB|apply aB));exact BK285.out) NB285_0.out (by simp))
   have n1_:=mk0 (Kd.R_mono (Kd.R_keep (IsS62.apart (show IsS62 w0 _ g s0_0 t324 t325 from by repeat (first|(with_reducible first|exact HI0.out|apply IsS62.alloc|apply IsS62.drewN|apply IsS62.drew|apply IsS62.set_1|apply IsS62.set_2|refine IsS62.far ?_ NB0_285.out _|refine IsS62.far ?_ NB0_303.out _)|exact HI0.out)) (by (with_reducible repeat (first|apply aR|apply nR|apply dR));exact HO288.out) (by decide)) hk (fun _ h=>h.2)) (fun _ h=>h.1))
   have n2_:=mk0 (Kd.R_mono (Kd.R_keep (IsS62.apart (show IsS62 w0 _ g s0_0 t324 t325 from by repeat (first|(with_reducible first|exact HI0.out|apply IsS62.alloc|apply IsS62.drewN|apply IsS62.drew|apply IsS62.set_1|apply IsS62.set_2|refine IsS62.far ?_ NB0_285.out _|refine IsS62.far ?_ NB0_303.out _)|exact HI0.out)) (by (with_reducible repeat (first|apply aR|apply nR|apply dR));exact HO295.out) (by decide)) hk (fun _ h=>h.2)) (fun _ h=>h.1))
   have n3_:=mk0 (Kd.R_mono (Kd.R_keep (IsS62.apart (show IsS62 w0 _ g s0_0 t324 t325 from by repeat (first|(with_reducible first|exact HI0.out|apply IsS62.alloc|apply IsS62.drewN|apply IsS62.drew|apply IsS62.set_1|apply IsS62.set_2|refine IsS62.far ?_ NB0_285.out _|refine IsS62.far ?_ NB0_303.out _)|exact HI0.out)) (by (with_reducible repeat (first|apply aR|apply nR|apply dR));exact HO301.out) (by decide)) hk (fun _ h=>h.2)) (fun _ h=>h.1))
   have n4_:=mk0 (KeepBut.blk hk (g':=gb303) (o:=.cells #[.int .i64 t298,.slice Ao61 t299.length co61] 24 (0,0)) (by (with_reducible repeat (first|apply nB|apply dB|apply aB));exact BK303.out) NB303_0.out (by simp))
   have n5_:=mk0 (KeepBut.trans (by repeat (first|(with_reducible first|exact HK.out|apply KeepBut.set_|apply keep_drewN|apply keep_drew|apply keep_alloc|refine keep_far ?_ GW285.out _|refine keep_far ?_ GW303.out _)|exact HK.out)) hk (.inl rfl))
   have n6_:=mk0 (hb)
   have n7_:=mk0 (hi)
   clear BK285
   clear HO288
   clear HO295
   clear HO301
   clear BK303
   clear HK
   clear HB
   clear HI0
   have BK285:=n0_
   have HO288:=n1_
   have HO295:=n2_
   have HO301:=n3_
   have BK303:=n4_
   have HK:=n5_
   have HB:=n6_
   have HI0:=n7_
   clear n0_ n1_ n2_ n3_ n4_ n5_ n6_ n7_
   (try clear hb)
   (try clear hb2)
   (try clear hk)
   (try clear hi)
   refine hK.out _ _ ⟨(blk_cell BK303.out 0).trans rfl,(blk_cell BK303.out 1).trans rfl⟩ (fun hHeld=>?_)
   clear hK K
   refine norm_ (a':=?_) ?_ ?_
   rotate_left
   ·show Act.put _ (some 49) _ = _
    simp only [Act.put,sA,sO,sS,i64_w,i32_w]
    rfl
   refine one_ (i:=11) (N:=some 47) spec_l01Cur_mins.m30 rfl rfl (one_of HT_.out (by kernel_rfl)) (by decide) (fun K hK=>?_)
   refine Kd.R_lit_step (Kd.int .i64) _ 3 ?hg (N:=47) ?hd (xs:=([t320,t323,1000000000]:List Int)) (inner:=[.int .i64 t320,.int .i64 t323,.int .i64 1000000000]) (ok:=fun _=>True) (okp:=fun _=>True) ?hr ?hp (fun _ hk=>hk) trivial (Below.refl _ _) (Nat.le_refl _) (by simp) ?_;(case hd=>rfl);(case hg=>rfl);(case hr=>first|(go_simp;done)|(go_simp;rfl));(case hp=>exact (Reps.one (show Kd.M (Kd.int .i64) _ _ _ t320 [.int .i64 t320] from rfl) (Reps.one (show Kd.M (Kd.int .i64) _ _ _ t323 [.int .i64 t323] from rfl) (Reps.one (show Kd.M (Kd.int .i64) _ _ _ 1000000000 [.int .i64 1000000000] from rfl) (Reps.none _ _)))))
   intro v327 w68 ho69 hb hg_ hnew_
   clear hg_ hnew_
   (first|rw [← Ny326.out] at ho69|(simp only [Int.reduceToNat] at ho69;rw [← Ny326.out] at ho69))
   have n0_:=mk0 (Kd.R_elder' (by (with_reducible repeat (first|apply aR|apply nR|apply dR));exact HO288.out) (Kd.R_base ho69) hb)
   have n1_:=mk0 (Kd.R_elder' (by (with_reducible repeat (first|apply aR|apply nR|apply dR));exact HO295.out) (Kd.R_base ho69) hb)
   have n2_:=mk0 (Kd.R_elder' (by (with_reducible repeat (first|apply aR|apply nR|apply dR));exact HO301.out) (Kd.R_base ho69) hb)
   have n3_:=mk0 (Kd.R_lower (Kd.R_new' (Kd.R_new' (Kd.R_new' ho69 (Kd.R_lt (by (with_reducible repeat (first|apply aR|apply nR|apply dR));exact HO288.out))) (Kd.R_lt (by (with_reducible repeat (first|apply aR|apply nR|apply dR));exact HO295.out))) (Kd.R_lt (by (with_reducible repeat (first|apply aR|apply nR|apply dR));exact HO301.out))) (keep_size (w:=w) (g:=g) (row:=none) (by repeat (first|(with_reducible first|exact HK.out|apply KeepBut.set_|apply keep_drewN|apply keep_drew|apply keep_alloc|refine keep_far ?_ GW285.out _|refine keep_far ?_ GW303.out _)|exact HK.out))))
   have n4_:=mk0 (IsS62.below (by repeat (first|(with_reducible first|exact HI0.out|apply IsS62.alloc|apply IsS62.drewN|apply IsS62.drew|apply IsS62.set_1|apply IsS62.set_2|refine IsS62.far ?_ NB0_285.out _|refine IsS62.far ?_ NB0_303.out _)|exact HI0.out)) hb)
   have n5_:=mk0 (blk_below (g:=gb285) (o:=.cells #[.int .i64 0,.slice none 0 0] 24 (0,0)) (by (with_reducible repeat (first|apply nB|apply dB|apply aB));exact BK285.out) hb)
   have n6_:=mk0 (blk_below (g:=gb303) (o:=.cells #[.int .i64 t298,.slice Ao61 t299.length co61] 24 (0,0)) (by (with_reducible repeat (first|apply nB|apply dB|apply aB));exact BK303.out) hb)
   have n7_:=mk0 (KeepBut.trans (by repeat (first|(with_reducible first|exact HK.out|apply KeepBut.set_|apply keep_drewN|apply keep_drew|apply keep_alloc|refine keep_far ?_ GW285.out _|refine keep_far ?_ GW303.out _)|exact HK.out)) (KeepBut.of_below hb g none) (.inl rfl))
   have n8_:=mk0 (below_step (by repeat (first|(with_reducible first|exact HB.out|apply aZ|apply nZ|apply dZ|refine sZ ?_ (IsS62.ge HI0.out)|refine sZ ?_ GE285.out|refine sZ ?_ GE303.out)|exact HB.out)) hb)
   clear HO288
   clear HO295
   clear HO301
   clear HI0
   clear BK285
   clear BK303
   clear HK
   clear HB
   have HO288:=n0_
   have HO295:=n1_
   have HO301:=n2_
   have HO328:=n3_
   have HI0:=n4_
   have BK285:=n5_
   have BK303:=n6_
   have HK:=n7_
   have HB:=n8_
   clear n0_ n1_ n2_ n3_ n4_ n5_ n6_ n7_ n8_
   clear hb ho69
   obtain⟨Ao70,co70,eo70⟩:=Kd.R_slice HO328.out
   subst eo70
   obtain⟨ado70,fo70,_⟩:=Kd.at_int (Kd.R_reads' HO328.out).2.2 0 (by decide) (by rw [Ny326.out];simp)
   cases fo70
   refine hK.out _ _ ⟨(blk_cell BK303.out 0).trans rfl,(blk_cell BK303.out 1).trans rfl⟩ (fun hHeld=>?_)
   clear hK K
   refine norm_ (a':=?_) ?_ ?_
   rotate_left
   ·show Act.put _ (some 47) _ = _
    simp only [Act.put,sA,sO,sS,i64_w,i32_w]
    rfl
   exact norm_ (by simp only [putAll,Act.put,sA,sO,sS]) (hCont (.slice (some ado70) y326.length co70,ado70) _ ⟨hHeld,(by (with_reducible repeat (first|apply aR|apply nR|apply dR));exact Kd.R_mono HO288.out (fun _ hk=>⟨hk.1.1.2,⟨hk.1.2,hk.2⟩⟩)),(by (with_reducible repeat (first|apply aR|apply nR|apply dR));exact Kd.R_mono HO295.out (fun _ hk=>⟨hk.1.1.2,⟨hk.1.2,hk.2⟩⟩)),(by (with_reducible repeat (first|apply aR|apply nR|apply dR));exact Kd.R_mono HO301.out (fun _ hk=>⟨hk.1.1.2,⟨hk.1.2,hk.2⟩⟩)),(by (with_reducible repeat (first|apply aR|apply nR|apply dR));exact Kd.R_mono HO328.out (fun _ hk=>⟨hk.1.1.2,⟨hk.1.2,hk.2⟩⟩)),⟨_,rfl⟩,(by (with_reducible repeat (first|apply nB|apply dB|apply aB));exact BK285.out),(by (with_reducible repeat (first|apply nB|apply dB|apply aB));exact BK303.out),(by repeat (first|(with_reducible first|exact HI0.out|apply IsS62.alloc|apply IsS62.drewN|apply IsS62.drew|apply IsS62.set_1|apply IsS62.set_2|refine IsS62.far ?_ NB0_285.out _|refine IsS62.far ?_ NB0_303.out _)|exact HI0.out)),(by repeat (first|(with_reducible first|exact HK.out|apply KeepBut.set_|apply keep_drewN|apply keep_drew|apply keep_alloc|refine keep_far ?_ GW285.out _|refine keep_far ?_ GW303.out _)|exact HK.out)),(by repeat (first|(with_reducible first|exact HB.out|apply aZ|apply nZ|apply dZ|refine sZ ?_ (IsS62.ge HI0.out)|refine sZ ?_ GE285.out|refine sZ ?_ GE303.out)|exact HB.out))⟩)
 rintro⟨v327,adz_v327⟩ w71 ⟨hS_,h0_,h1_,h2_,h3_,h4_,h5_,h6_,h7_,h8_,h9_⟩
 have n0_:Aside0 (Kd.R (Kd.int .i64) 3 w71 w.heap.size (fun k_=>some k_ ≠ (.slice Ao55 t293.length co55:Value).ownBlock ∧ some k_ ≠ (.slice Ao61 t299.length co61:Value).ownBlock ∧ some k_ ≠ (v327:Value).ownBlock) (.slice (some ad292) y286.length co53) y286):=⟨h0_⟩
 have n1_:Aside0 (Kd.R (Kd.int .i64) 3 w71 w.heap.size (fun k_=>some k_ ≠ (.slice (some ad292) y286.length co53:Value).ownBlock ∧ some k_ ≠ (.slice Ao61 t299.length co61:Value).ownBlock ∧ some k_ ≠ (v327:Value).ownBlock) (.slice Ao55 t293.length co55) t293):=⟨h1_⟩
 have n2_:Aside0 (Kd.R (Kd.int .i64) 3 w71 w.heap.size (fun k_=>some k_ ≠ (.slice (some ad292) y286.length co53:Value).ownBlock ∧ some k_ ≠ (.slice Ao55 t293.length co55:Value).ownBlock ∧ some k_ ≠ (v327:Value).ownBlock) (.slice Ao61 t299.length co61) t299):=⟨h2_⟩
 have n3_:Aside0 (Kd.R (Kd.int .i64) 3 w71 w.heap.size (fun k_=>some k_ ≠ (.slice (some ad292) y286.length co53:Value).ownBlock ∧ some k_ ≠ (.slice Ao55 t293.length co55:Value).ownBlock ∧ some k_ ≠ (.slice Ao61 t299.length co61:Value).ownBlock) v327 y326):=⟨h3_⟩
 have n4_:Aside0 (∃ c_,(v327:Value) = .slice (some adz_v327) y326.length c_):=⟨h4_⟩
 have n5_:Aside0 (w71.heap[gb285]? = some (.cells #[.int .i64 0,.slice none 0 0] 24 (0,0))):=⟨h5_⟩
 have n6_:Aside0 (w71.heap[gb303]? = some (.cells #[.int .i64 t298,.slice Ao61 t299.length co61] 24 (0,0))):=⟨h6_⟩
 have n7_:Aside0 (IsS62 w0 w71 g s0_0 t330 t331):=⟨h7_⟩
 have n8_:Aside0 (KeepBut w w71 g none):=⟨h8_⟩
 have n9_:Aside0 (Below w0.heap.size w0 w71):=⟨h9_⟩
 clear HO288
 clear HO295
 clear HO301
 clear BK285
 clear BK303
 clear HI0
 clear HK
 clear HB
 clear h0_ h1_ h2_ h3_ h4_ h5_ h6_ h7_ h8_ h9_
 have HO288:=n0_
 have HO295:=n1_
 have HO301:=n2_
 have HO328:=n3_
 have HA_HO328:=n4_
 have BK285:=n5_
 have BK303:=n6_
 have HI0:=n7_
 have HK:=n8_
 have HB:=n9_
 clear n0_ n1_ n2_ n3_ n4_ n5_ n6_ n7_ n8_ n9_
 have hHeld:w71.cell? ⟨gb303,0,none⟩ = some (.int .i64 t298) ∧ w71.cell? ⟨gb303,1,none⟩ = some (.slice Ao61 t299.length co61):=hS_
 obtain⟨co72,eo72⟩:=HA_HO328.out
 clear HA_HO328
 subst eo72
 have p48:0 ≤ (t317:Int):=of_decide_eq_true (by first|(with_reducible assumption)|assumption)
 have q48:(t317:Int) < ((t299.length:Int):Int):=of_decide_eq_true (by first|(with_reducible assumption)|assumption)
 obtain⟨go48,co48,eo48,gb48,gl48,cl48,HG48⟩:=Kd.R_form HO301.out (by omega)
 (first|cases eo48|(injection eo48 with ea_ en_ ec_;(first|subst ea_|(injection ea_ with ea_;subst ea_));subst ec_;clear en_))
 have GB48:=mk0 gb48
 have GG48:=mk0 HG48
 clear gb48 gl48 HG48
 obtain⟨hx48_0,hf48_0⟩:=Kd.R_celln 0 HO301.out (t317:Int) p48 q48
 replace p48:=eq_true p48
 replace q48:=eq_true q48
 have HN0_go48:=mk0 (show g ≠ go48 from by have h_:=IsS62.own_ne HI0.out HO301.out (by decide);intro e_;exact h_ (by rw [e_];rfl))
 have HP73:=Kd.R_putn HO301.out (t317:Int) (rd y326 t329)
 rw [← Ny333.out] at HP73
 have HQ73:=mk0 HP73
 clear HP73
 refine norm_ (a':=?_) ?_ ?_
 rotate_left
 ·simp only [putAll,Act.put,sA,sO,sS]
  rfl
 refine pure_ (i:=14) (N:=some 50) (v:=?_) (a':=?_) spec_l01Cur_mins.m33 rfl rfl (any_of HT_.out (by kernel_rfl)) (fun _ _ _ h=>h) (Or.inl ⟨by rfl,?_⟩) ?_ ?_
 rotate_left
 ·intro w'
  go_simp
  with_reducible rfl
 rotate_left
 ·simp only [Act.put,sA,sO,sS,i64_w,i32_w]
  rfl
 refine one_ (i:=15) (N:=some 51) spec_l01Cur_mins.m34 rfl rfl (one_of HT_.out (by kernel_rfl)) (by decide) (fun K hK=>?_)
 (have p332:0 ≤ (t329:Int):=of_decide_eq_true (by first|(with_reducible assumption)|assumption);have q332:t329 < (y326.length:Int):=of_decide_eq_true (by first|(with_reducible assumption)|assumption);obtain⟨ad332,e332,hx332_0⟩:=Kd.at_int (Kd.R_reads' HO328.out).2.2 t329 p332 q332;obtain rfl:adz_v327 = ad332:=(by injection e332))
 refine value_ (w1:=?_) (v:=?_) (by rfl) rfl ?_ ?_
 rotate_left 2
 ·go_simp
  constructor
  ·rfl
  ·rfl
 clear hx332_0
 refine hK.out _ _ ⟨(blk_cell BK303.out 0).trans rfl,(blk_cell BK303.out 1).trans rfl⟩ (fun hHeld=>?_)
 clear hK K
 refine norm_ (a':=?_) ?_ ?_
 rotate_left
 ·show Act.put _ (some 51) _ = _
  simp only [Act.put,sA,sO,sS,i64_w,i32_w]
  rfl
 refine pure_ (i:=16) (N:=some 52) (v:=?_) (a':=?_) spec_l01Cur_mins.m35 rfl rfl (any_of HT_.out (by kernel_rfl)) (fun _ _ _ h=>h) (Or.inl ⟨by rfl,?_⟩) ?_ ?_
 rotate_left
 ·intro w'
  go_simp
  with_reducible rfl
 rotate_left
 ·simp only [Act.put,sA,sO,sS,i64_w,i32_w]
  rfl
 refine last_ (i:=17) (N:=none) spec_l01Cur_mins.m36 rfl rfl (one_of HT_.out (by kernel_rfl)) (by decide) (fun K hK=>?_)
 refine skip_ (w1:=?_) (by rfl) rfl ?_ ?_
 rotate_left
 ·go_simp
  rfl
 refine hK.out _ _ ?_
 clear hK K
 refine done_ (done_of HT_.out (by kernel_rfl)) ?_
 have n0_:Aside0 (Kd.R (Kd.int .i64) 3 (w71.setCell ⟨go48,(t317:Int).toNat,none⟩ (.int .i64 (rd y326 t329))) w.heap.size (fun k_=>some k_ ≠ (.slice Ao55 t293.length co55:Value).ownBlock ∧ some k_ ≠ (.slice (some ⟨go48,0,none⟩) t299.length co61:Value).ownBlock ∧ some k_ ≠ (.slice (some adz_v327) y326.length co72:Value).ownBlock) (.slice (some ad292) y286.length co53) y286):=⟨by (with_reducible repeat (first|apply aR|apply nR|apply dR));exact Kd.R_mono (Kd.R_far (p:=⟨go48,(t317:Int).toNat,none⟩) (Kd.R_mono HO288.out (fun k_ hk=>(⟨hk,fun e_=>hk.2.1 (by rw [e_];rfl)⟩:_ ∧ k_ ≠ go48))) (fun _ hk=>hk.2) (.int .i64 (rd y326 t329))) (fun _ hk=>⟨hk.1.1,⟨hk.1.2.1,hk.1.2.2⟩⟩)⟩
 have n1_:Aside0 (Kd.R (Kd.int .i64) 3 (w71.setCell ⟨go48,(t317:Int).toNat,none⟩ (.int .i64 (rd y326 t329))) w.heap.size (fun k_=>some k_ ≠ (.slice (some ad292) y286.length co53:Value).ownBlock ∧ some k_ ≠ (.slice (some ⟨go48,0,none⟩) t299.length co61:Value).ownBlock ∧ some k_ ≠ (.slice (some adz_v327) y326.length co72:Value).ownBlock) (.slice Ao55 t293.length co55) t293):=⟨by (with_reducible repeat (first|apply aR|apply nR|apply dR));exact Kd.R_mono (Kd.R_far (p:=⟨go48,(t317:Int).toNat,none⟩) (Kd.R_mono HO295.out (fun k_ hk=>(⟨hk,fun e_=>hk.2.1 (by rw [e_];rfl)⟩:_ ∧ k_ ≠ go48))) (fun _ hk=>hk.2) (.int .i64 (rd y326 t329))) (fun _ hk=>⟨hk.1.1,⟨hk.1.2.1,hk.1.2.2⟩⟩)⟩
 have n2_:Aside0 (Kd.R (Kd.int .i64) 3 (w71.setCell ⟨go48,(t317:Int).toNat,none⟩ (.int .i64 (rd y326 t329))) w.heap.size (fun k_=>some k_ ≠ (.slice (some ad292) y286.length co53:Value).ownBlock ∧ some k_ ≠ (.slice Ao55 t293.length co55:Value).ownBlock ∧ some k_ ≠ (.slice (some adz_v327) y326.length co72:Value).ownBlock) (.slice (some ⟨go48,0,none⟩) t299.length co61) y333):=⟨by (with_reducible repeat (first|apply aR|apply nR|apply dR));exact HQ73.out⟩
 have n3_:Aside0 (Kd.R (Kd.int .i64) 3 (w71.setCell ⟨go48,(t317:Int).toNat,none⟩ (.int .i64 (rd y326 t329))) w.heap.size (fun k_=>some k_ ≠ (.slice (some ad292) y286.length co53:Value).ownBlock ∧ some k_ ≠ (.slice Ao55 t293.length co55:Value).ownBlock ∧ some k_ ≠ (.slice (some ⟨go48,0,none⟩) t299.length co61:Value).ownBlock) (.slice (some adz_v327) y326.length co72) y326):=⟨by (with_reducible repeat (first|apply aR|apply nR|apply dR));exact Kd.R_mono (Kd.R_far (p:=⟨go48,(t317:Int).toNat,none⟩) (Kd.R_mono HO328.out (fun k_ hk=>(⟨hk,fun e_=>hk.2.2 (by rw [e_];rfl)⟩:_ ∧ k_ ≠ go48))) (fun _ hk=>hk.2) (.int .i64 (rd y326 t329))) (fun _ hk=>⟨hk.1.1,⟨hk.1.2.1,hk.1.2.2⟩⟩)⟩
 have n4_:Aside0 ((w71.setCell ⟨go48,(t317:Int).toNat,none⟩ (.int .i64 (rd y326 t329))).heap[gb285]? = some (.cells #[.int .i64 0,.slice none 0 0] 24 (0,0))):=⟨by (with_reducible repeat (first|apply nB|apply dB|apply aB));refine blk_far ?_ (by have h_:=Kd.R_ne HO301.out BK285.out (by decide);intro e_;exact h_ (by rw [e_];rfl)) _;(with_reducible repeat (first|apply nB|apply dB|apply aB));exact BK285.out⟩
 have n5_:Aside0 ((w71.setCell ⟨go48,(t317:Int).toNat,none⟩ (.int .i64 (rd y326 t329))).heap[gb303]? = some (.cells #[.int .i64 t298,.slice (some ⟨go48,0,none⟩) t299.length co61] 24 (0,0))):=⟨by (with_reducible repeat (first|apply nB|apply dB|apply aB));refine blk_far ?_ (by have h_:=Kd.R_ne HO301.out BK303.out (by decide);intro e_;exact h_ (by rw [e_];rfl)) _;(with_reducible repeat (first|apply nB|apply dB|apply aB));exact BK303.out⟩
 have n6_:Aside0 (IsS62 w0 (w71.setCell ⟨go48,(t317:Int).toNat,none⟩ (.int .i64 (rd y326 t329))) g s0_0 t330 t331):=⟨by repeat (first|(with_reducible first|exact HI0.out|apply IsS62.alloc|apply IsS62.drewN|apply IsS62.drew|apply IsS62.set_1|apply IsS62.set_2|refine IsS62.far ?_ HN0_go48.out _|refine IsS62.far ?_ NB0_285.out _|refine IsS62.far ?_ NB0_303.out _)|exact HI0.out)⟩
 have n7_:Aside0 (KeepBut w (w71.setCell ⟨go48,(t317:Int).toNat,none⟩ (.int .i64 (rd y326 t329))) g none):=⟨by repeat (first|(with_reducible first|exact HK.out|apply KeepBut.set_|apply keep_drewN|apply keep_drew|apply keep_alloc|refine keep_far ?_ GB48.out _|refine keep_far ?_ GW285.out _|refine keep_far ?_ GW303.out _)|exact HK.out)⟩
 have n8_:Aside0 (Below w0.heap.size w0 (w71.setCell ⟨go48,(t317:Int).toNat,none⟩ (.int .i64 (rd y326 t329)))):=⟨by repeat (first|(with_reducible first|exact HB.out|apply aZ|apply nZ|apply dZ|refine sZ ?_ (Nat.le_trans HL.out GB48.out)|refine sZ ?_ (IsS62.ge HI0.out)|refine sZ ?_ GE285.out|refine sZ ?_ GE303.out)|exact HB.out)⟩
 (try clear HO288)
 (try clear HO295)
 (try clear HO301)
 (try clear HO328)
 (try clear BK285)
 (try clear BK303)
 (try clear HI0)
 (try clear HK)
 (try clear HB)
 generalize (w71.setCell ⟨go48,(t317:Int).toNat,none⟩ (.int .i64 (rd y326 t329))) = w74 at n0_ n1_ n2_ n3_ n4_ n5_ n6_ n7_ n8_ ⊢
 have HO288:=n0_
 have HO295:=n1_
 have HO301:=n2_
 have HO328:=n3_
 have BK285:=n4_
 have BK303:=n5_
 have HI0:=n6_
 have HK:=n7_
 have HB:=n8_
 clear n0_ n1_ n2_ n3_ n4_ n5_ n6_ n7_ n8_
 have hcz75_0:w74.cell? ⟨gb303,0,none⟩ = some (.int .i64 t298):=(blk_cell BK303.out 0).trans rfl
 have hcz75_1:w74.cell? ⟨gb303,1,none⟩ = some (.slice (some ⟨go48,0,none⟩) t299.length co61):=(blk_cell BK303.out 1).trans rfl
 have hfz75_0:=blk_frozen BK303.out 0
 have hfz75_1:=blk_frozen BK303.out 1
 have hnb76:=NB285_0.out
 have hnc76:=NB0_285.out
 have hcz77_0:w74.cell? ⟨gb285,0,none⟩ = some (.int .i64 0):=(blk_cell BK285.out 0).trans rfl
 have hcz77_1:w74.cell? ⟨gb285,1,none⟩ = some (.slice none 0 0):=(blk_cell BK285.out 1).trans rfl
 have hfz77_0:=blk_frozen BK285.out 0
 have hfz77_1:=blk_frozen BK285.out 1
 try go_wp2
 refine bodyPost_ret (results_cell_row rfl _ _ gb285 24 #[.int .i64 t298,.slice (some ⟨go48,0,none⟩) t299.length co61] (0,0) _ rfl (by (with_reducible repeat (first|apply nB|apply dB|apply aB));refine blk_put (cs:=#[.int .i64 t298,.slice none 0 0]) ?_ 1 _ rfl;(with_reducible repeat (first|apply nB|apply dB|apply aB));refine blk_put (cs:=#[.int .i64 0,.slice none 0 0]) ?_ 0 _ rfl;(with_reducible repeat (first|apply nB|apply dB|apply aB));exact BK285.out) Try.underlying24 rfl (by kernel_rfl)) rfl ?_
 exact⟨_,by first|rfl|(simp [errW_none,errW_some] <;> rfl)|(simp [*,errW_none,errW_some] <;> rfl),by (with_reducible repeat (first|apply aR|apply nR|apply dR));exact Kd.R_mono (Kd.R_far (p:=⟨gb285,1,none⟩) (Kd.R_far (p:=⟨gb285,0,none⟩) (Kd.R_types HO301.out BK285.out (by decide)) (fun _ hk=>hk.2) (.int .i64 t298)) (fun _ hk=>hk.2) (.slice (some ⟨go48,0,none⟩) t299.length co61)) (fun _ hk=>trivial),by repeat (first|(with_reducible first|exact HI0.out|apply IsS62.alloc|apply IsS62.drewN|apply IsS62.drew|apply IsS62.set_1|apply IsS62.set_2|refine IsS62.far ?_ NB0_285.out _|refine IsS62.far ?_ NB0_303.out _)|exact HI0.out),by repeat (first|(with_reducible first|exact HB.out|apply aZ|apply nZ|apply dZ|refine sZ ?_ (IsS62.ge HI0.out)|refine sZ ?_ GE285.out|refine sZ ?_ GE303.out)|exact HB.out),by repeat (first|(with_reducible first|exact HK.out|apply KeepBut.set_|apply keep_drewN|apply keep_drew|apply keep_alloc|refine keep_far ?_ GW285.out _|refine keep_far ?_ GW303.out _)|exact HK.out)⟩
end Go.Proofs.Ytpheodpcppclaaa.QFnMinsSet
