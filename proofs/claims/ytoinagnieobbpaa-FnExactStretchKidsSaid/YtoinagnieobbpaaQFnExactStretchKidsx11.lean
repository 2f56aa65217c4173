-- A walk, made by walk.py, a program of this session's.
import Derived.Test.YtoinagnieobbpaaQFnExactStretchKidsx0
import Derived.Test.YtoinagnieobbpaaQFnExactStretchKidsx10
namespace Go.Proofs.Ytoinagnieobbpaa.QFnExactStretchKids
open Go.RowKit Go.Proofs.YtoinagnieobbpaaW.PrintWords Go.Proofs.YtoinagnieobbpaaW.PrintLast Go.Proofs.YtoinagnieobbpaaW.PrintMore
attribute [local go_sem] max2_int min2_int max_two min_two max_three min_three max_four min_four   -- for this text's walks alone
set_option linter.unusedVariables false
set_option linter.unusedSimpArgs false

/-! ### cmp_Or_int: function 90 -/
def cmp_Or_int.l0 : Nat → Int → List Int → Int → Int → Option (Int)
 | 0, _, _, _, _ => none
 | k + 1, x3, x6, x7, x8 => if x8 < x7 then (if 0 ≤ x8 then (if x8 < (x6.length : Int) then (if (rd x6 x8) = x3 then (cmp_Or_int.l0 k x3 x6 x7 (wrap64 (x8 + 1))) else (some (rd x6 x8))) else (none)) else (none)) else (some x3)
def cmp_Or_int.f (k : Nat) (l0 : List Int) : Option (Int) := cmp_Or_int.l0 k 0 l0 (l0.length : Int) 0
theorem cmp_Or_int.mono_l : ∀ k, (∀ y0 y1 y2 y3, LeO (cmp_Or_int.l0 k y0 y1 y2 y3) (cmp_Or_int.l0 (k + 1) y0 y1 y2 y3))
 | 0 => fun _ _ _ _ r h => by simp [cmp_Or_int.l0] at h
 | k + 1 => by
  have ih0 := cmp_Or_int.mono_l k
  ·intro y0 y1 y2 y3
   unfold cmp_Or_int.l0
   repeat' first|(with_reducible first|exact ih0 _ _ _ _|exact LeO.refl _|exact LeO.none _|refine LeO.ite ?_ ?_|refine LeO.bind ?_ (fun _ => ?_))|exact LeO.none _|refine LeO.ite ?_ ?_|refine LeO.bind ?_ (fun _ => ?_)
theorem cmp_Or_int.mono : ∀ a0 k, LeO (cmp_Or_int.f k a0) (cmp_Or_int.f (k + 1) a0) := by
 intro a0 k
 have ih0 := cmp_Or_int.mono_l k
 unfold cmp_Or_int.f
 repeat' first|(with_reducible first|exact ih0 _ _ _ _|exact LeO.refl _|exact LeO.none _|refine LeO.ite ?_ ?_|refine LeO.bind ?_ (fun _ => ?_))|exact LeO.none _|refine LeO.ite ?_ ?_|refine LeO.bind ?_ (fun _ => ?_)
set_option maxHeartbeats 8000000 in
set_option maxRecDepth 100000 in
theorem cmp_Or_int.calls (k : Nat) (A0 : Option Addr) (c0 : Nat) (l0 : List Int) (r : Int) (w : World) (hr0 : Kd.C (Kd.int .i64) w A0 l0.length l0) (hc0 : l0.length ≤ c0) (h : cmp_Or_int.f k l0 = some r) :
  Calls Try.prog 90 #[.slice A0 l0.length c0] w fun e w' => e = .returned (.int .i64 r) ∧ Drawn0 w w' := by
 have HR0:=mk0 hr0
 have HC0:=mk0 hc0
 clear hr0 hc0
 have H:(cmp_Or_int.l0 k 0 l0 (l0.length:Int) 0) = some r:=h
 clear h
 have H':=mk0 H
 clear H
 go_enter Try.func90,Try.ntmps90
 go_wp2
 go_loopg [8] k (fun kq v8 w'=>∃ (x8_1:Int),v8 = .int .i64 x8_1 ∧ Aside0 (cmp_Or_int.l0 kq 0 l0 (l0.length:Int) x8_1 = some r) ∧ Aside0 (kq ≤ k) ∧ Drawn0 w w')
 case atStart=>exact⟨(0),(by first|rfl|(simp;done)|(simp [*];done)),H',⟨Nat.le_refl _⟩,by repeat (first|exact Drawn0.refl _|apply Drawn0.step)⟩
 case round =>
  clear H'
  obtain⟨x8_1,rfl,HA,HK1,⟨m1,rfl⟩⟩:=hrel
  cases gk with
  | zero=>exact absurd HA.out (by simp [cmp_Or_int.l0])
  | succ k1 =>
   have H:=HA.out
   clear HA
   simp only [cmp_Or_int.l0] at H
   by_cases c2:x8_1 < (l0.length:Int)
   ·rw [if_pos c2] at H
    have c2b0:decide (x8_1 < (l0.length:Int)) = true:=decide_eq_true c2
    clear c2
    by_cases c3:0 ≤ x8_1
    ·rw [if_pos c3] at H
     have c3b0:decide (0 ≤ x8_1) = true:=decide_eq_true c3
     clear c3
     by_cases c4:x8_1 < (l0.length:Int)
     ·rw [if_pos c4] at H
      have c4b0:decide (x8_1 < (l0.length:Int)) = true:=decide_eq_true c4
      clear c4
      by_cases c5:(rd l0 x8_1) = 0
      ·rw [if_pos c5] at H
       have c5b0:((rd l0 x8_1) == 0) = true:=beq_iff_eq.mpr c5
       have c5b1:((rd l0 x8_1) != 0) = false:=bne_eq_false_iff_eq.mpr c5
       clear c5
       have H':=mk0 H
       clear H
       have p283:0 ≤ (x8_1:Int):=of_decide_eq_true (by first|(with_reducible assumption)|assumption)
       have q283:x8_1 < (l0.length:Int):=of_decide_eq_true (by first|(with_reducible assumption)|assumption)
       obtain⟨ad283,e283,hx283_0⟩:=Kd.at_int HR0.out x8_1 p283 q283
       cases e283
       replace p283:=eq_true p283
       replace q283:=eq_true q283
       go_wp2
       go_roundg k1
       case measure=>have:=HK1.out;omega
       case rel=>exact⟨(wrap64 (x8_1 + 1)),(by first|rfl|(simp;done)|(simp [*];done)),H',⟨by have:=HK1.out;omega⟩,by repeat (first|exact Drawn0.refl _|apply Drawn0.step)⟩
      ·rw [if_neg c5] at H
       have c5b0:((rd l0 x8_1) == 0) = false:=beq_eq_false_iff_ne.mpr c5
       have c5b1:((rd l0 x8_1) != 0) = true:=bne_iff_ne.mpr c5
       obtain rfl:=Option.some.inj H
       have p283:0 ≤ (x8_1:Int):=of_decide_eq_true (by first|(with_reducible assumption)|assumption)
       have q283:x8_1 < (l0.length:Int):=of_decide_eq_true (by first|(with_reducible assumption)|assumption)
       obtain⟨ad283,e283,hx283_0⟩:=Kd.at_int HR0.out x8_1 p283 q283
       cases e283
       replace p283:=eq_true p283
       replace q283:=eq_true q283
       go_wp2
       go_ret
       exact⟨by first|rfl|(simp;done)|(simp [*];done),by repeat (first|exact Drawn0.refl _|apply Drawn0.step)⟩
     ·rw [if_neg c4] at H
      exact absurd H (by simp)
    ·rw [if_neg c3] at H
     exact absurd H (by simp)
   ·rw [if_neg c2] at H
    have c2b0:decide (x8_1 < (l0.length:Int)) = false:=decide_eq_false c2
    clear c2
    obtain rfl:=Option.some.inj H
    go_wp2
    go_ret
    exact⟨by first|rfl|(simp;done)|(simp [*];done),by repeat (first|exact Drawn0.refl _|apply Drawn0.step)⟩

/-! ### cmp_isNaN_int: function 112 -/
def cmp_isNaN_int.f (a0 : Int) : Option (Bool) := some (a0 != a0)
set_option maxHeartbeats 8000000 in
set_option maxRecDepth 100000 in
theorem cmp_isNaN_int.calls (a0 : Int) (r : Bool) (w : World) (h : cmp_isNaN_int.f a0 = some r) :
  Calls Try.prog 112 #[.int .i64 a0] w fun e w' => e = .returned (.bool r) ∧ Drawn0 w w' := by
 have H:(some (a0 != a0)) = some r:=h
 clear h
 obtain rfl:=Option.some.inj H
 go_enter Try.func112,Try.ntmps112
 go_wp2
 go_ret
 exact⟨by first|rfl|(simp;done)|(simp [*];done),by repeat (first|exact Drawn0.refl _|apply Drawn0.step)⟩

/-! ### cmp_Compare_int: function 91 -/
def cmp_Compare_int.f (a0 : Int) (a1 : Int) : Option (Int) := (cmp_isNaN_int.f a0).bind fun t284 => ((cmp_isNaN_int.f a1).bind fun t285 => (if t284 = true then (if t285 = true then (some 0) else (some (-1))) else (if t285 = true then (some 1) else (if a0 < a1 then (some (-1)) else (if a0 > a1 then (some 1) else (some 0))))))
set_option maxHeartbeats 8000000 in
set_option maxRecDepth 100000 in
theorem cmp_Compare_int.calls (a0 : Int) (a1 : Int) (r : Int) (w : World) (h : cmp_Compare_int.f a0 a1 = some r) :
  Calls Try.prog 91 #[.int .i64 a0, .int .i64 a1] w fun e w' => e = .returned (.int .i64 r) ∧ Drawn0 w w' := by
 have H:((cmp_isNaN_int.f a0).bind fun t284=>((cmp_isNaN_int.f a1).bind fun t285=>(if t284 = true then (if t285 = true then (some 0) else (some (-1))) else (if t285 = true then (some 1) else (if a0 < a1 then (some (-1)) else (if a0 > a1 then (some 1) else (some 0))))))) = some r:=h
 clear h
 replace H:=Option.bind_eq_some_iff.mp H
 obtain⟨t284,A30,H⟩:=H
 replace H:((cmp_isNaN_int.f a1).bind fun t285=>(if t284 = true then (if t285 = true then (some 0) else (some (-1))) else (if t285 = true then (some 1) else (if a0 < a1 then (some (-1)) else (if a0 > a1 then (some 1) else (some 0)))))) = some r:=H
 have A3:=mk0 A30
 clear A30
 replace H:=Option.bind_eq_some_iff.mp H
 obtain⟨t285,A40,H⟩:=H
 replace H:(if t284 = true then (if t285 = true then (some 0) else (some (-1))) else (if t285 = true then (some 1) else (if a0 < a1 then (some (-1)) else (if a0 > a1 then (some 1) else (some 0))))) = some r:=H
 have A4:=mk0 A40
 clear A40
 by_cases c5:t284 = true
 ·subst c5
  have H1:(if t285 = true then (some 0) else (some (-1))) = some r:=by rw [if_pos rfl] at H;exact H
  clear H
  have H:=H1
  clear H1
  by_cases c6:t285 = true
  ·subst c6
   have H1:(some 0) = some r:=by rw [if_pos rfl] at H;exact H
   clear H
   have H:=H1
   clear H1
   obtain rfl:=Option.some.inj H
   go_enter Try.func91,Try.ntmps91
   go_wp2_with (first|((with_reducible refine gate_callee (f:=112) rfl ?_);refine goesL_ (some 8) rfl rfl Try.func112 (by kernel_rfl) rfl #[.int .i64 a0] rfl (by (try simp only [mA,mC,mN]);first|done|rfl|(simp only [List.length_drop,List.length_take];done)|(simp only [List.length_drop,List.length_take];rfl)) ?_;(with_reducible refine (cmp_isNaN_int.calls a0 true _ A3.out).mono ?_);rintro e w' ⟨rfl,⟨nd,rfl⟩⟩;refine⟨_,rfl,?_⟩)|((with_reducible refine gate_callee (f:=112) rfl ?_);refine goesL_ (some 10) rfl rfl Try.func112 (by kernel_rfl) rfl #[.int .i64 a1] rfl (by (try simp only [mA,mC,mN]);first|done|rfl|(simp only [List.length_drop,List.length_take];done)|(simp only [List.length_drop,List.length_take];rfl)) ?_;(with_reducible refine (cmp_isNaN_int.calls a1 true _ A4.out).mono ?_);rintro e w' ⟨rfl,⟨nd,rfl⟩⟩;refine⟨_,rfl,?_⟩))
   go_ret
   exact⟨by first|rfl|(simp;done)|(simp [*];done),by repeat (first|exact Drawn0.refl _|apply Drawn0.step)⟩
  ·replace c6:=Bool.eq_false_iff.mpr c6
   subst c6
   have H1:(some (-1)) = some r:=by rw [if_neg (show ¬ (false = true) by decide)] at H;exact H
   clear H
   have H:=H1
   clear H1
   obtain rfl:=Option.some.inj H
   go_enter Try.func91,Try.ntmps91
   go_wp2_with (first|((with_reducible refine gate_callee (f:=112) rfl ?_);refine goesL_ (some 8) rfl rfl Try.func112 (by kernel_rfl) rfl #[.int .i64 a0] rfl (by (try simp only [mA,mC,mN]);first|done|rfl|(simp only [List.length_drop,List.length_take];done)|(simp only [List.length_drop,List.length_take];rfl)) ?_;(with_reducible refine (cmp_isNaN_int.calls a0 true _ A3.out).mono ?_);rintro e w' ⟨rfl,⟨nd,rfl⟩⟩;refine⟨_,rfl,?_⟩)|((with_reducible refine gate_callee (f:=112) rfl ?_);refine goesL_ (some 10) rfl rfl Try.func112 (by kernel_rfl) rfl #[.int .i64 a1] rfl (by (try simp only [mA,mC,mN]);first|done|rfl|(simp only [List.length_drop,List.length_take];done)|(simp only [List.length_drop,List.length_take];rfl)) ?_;(with_reducible refine (cmp_isNaN_int.calls a1 false _ A4.out).mono ?_);rintro e w' ⟨rfl,⟨nd,rfl⟩⟩;refine⟨_,rfl,?_⟩))
   go_ret
   exact⟨by first|rfl|(simp;done)|(simp [*];done),by repeat (first|exact Drawn0.refl _|apply Drawn0.step)⟩
 ·replace c5:=Bool.eq_false_iff.mpr c5
  subst c5
  have H1:(if t285 = true then (some 1) else (if a0 < a1 then (some (-1)) else (if a0 > a1 then (some 1) else (some 0)))) = some r:=by rw [if_neg (show ¬ (false = true) by decide)] at H;exact H
  clear H
  have H:=H1
  clear H1
  by_cases c7:t285 = true
  ·subst c7
   have H1:(some 1) = some r:=by rw [if_pos rfl] at H;exact H
   clear H
   have H:=H1
   clear H1
   obtain rfl:=Option.some.inj H
   go_enter Try.func91,Try.ntmps91
   go_wp2_with (first|((with_reducible refine gate_callee (f:=112) rfl ?_);refine goesL_ (some 8) rfl rfl Try.func112 (by kernel_rfl) rfl #[.int .i64 a0] rfl (by (try simp only [mA,mC,mN]);first|done|rfl|(simp only [List.length_drop,List.length_take];done)|(simp only [List.length_drop,List.length_take];rfl)) ?_;(with_reducible refine (cmp_isNaN_int.calls a0 false _ A3.out).mono ?_);rintro e w' ⟨rfl,⟨nd,rfl⟩⟩;refine⟨_,rfl,?_⟩)|((with_reducible refine gate_callee (f:=112) rfl ?_);refine goesL_ (some 10) rfl rfl Try.func112 (by kernel_rfl) rfl #[.int .i64 a1] rfl (by (try simp only [mA,mC,mN]);first|done|rfl|(simp only [List.length_drop,List.length_take];done)|(simp only [List.length_drop,List.length_take];rfl)) ?_;(with_reducible refine (cmp_isNaN_int.calls a1 true _ A4.out).mono ?_);rintro e w' ⟨rfl,⟨nd,rfl⟩⟩;refine⟨_,rfl,?_⟩))
   go_ret
   exact⟨by first|rfl|(simp;done)|(simp [*];done),by repeat (first|exact Drawn0.refl _|apply Drawn0.step)⟩
  ·replace c7:=Bool.eq_false_iff.mpr c7
   subst c7
   have H1:(if a0 < a1 then (some (-1)) else (if a0 > a1 then (some 1) else (some 0))) = some r:=by rw [if_neg (show ¬ (false = true) by decide)] at H;exact H
   clear H
   have H:=H1
   clear H1
   by_cases c8:a0 < a1
   ·rw [if_pos c8] at H
    have c8b0:decide (a0 < a1) = true:=decide_eq_true c8
    clear c8
    obtain rfl:=Option.some.inj H
    go_enter Try.func91,Try.ntmps91
    go_wp2_with (first|((with_reducible refine gate_callee (f:=112) rfl ?_);refine goesL_ (some 8) rfl rfl Try.func112 (by kernel_rfl) rfl #[.int .i64 a0] rfl (by (try simp only [mA,mC,mN]);first|done|rfl|(simp only [List.length_drop,List.length_take];done)|(simp only [List.length_drop,List.length_take];rfl)) ?_;(with_reducible refine (cmp_isNaN_int.calls a0 false _ A3.out).mono ?_);rintro e w' ⟨rfl,⟨nd,rfl⟩⟩;refine⟨_,rfl,?_⟩)|((with_reducible refine gate_callee (f:=112) rfl ?_);refine goesL_ (some 10) rfl rfl Try.func112 (by kernel_rfl) rfl #[.int .i64 a1] rfl (by (try simp only [mA,mC,mN]);first|done|rfl|(simp only [List.length_drop,List.length_take];done)|(simp only [List.length_drop,List.length_take];rfl)) ?_;(with_reducible refine (cmp_isNaN_int.calls a1 false _ A4.out).mono ?_);rintro e w' ⟨rfl,⟨nd,rfl⟩⟩;refine⟨_,rfl,?_⟩))
    go_ret
    exact⟨by first|rfl|(simp;done)|(simp [*];done),by repeat (first|exact Drawn0.refl _|apply Drawn0.step)⟩
   ·rw [if_neg c8] at H
    have c8b0:decide (a0 < a1) = false:=decide_eq_false c8
    clear c8
    by_cases c9:a0 > a1
    ·rw [if_pos c9] at H
     have c9b0:decide (a1 < a0) = true:=decide_eq_true c9
     clear c9
     obtain rfl:=Option.some.inj H
     go_enter Try.func91,Try.ntmps91
     go_wp2_with (first|((with_reducible refine gate_callee (f:=112) rfl ?_);refine goesL_ (some 8) rfl rfl Try.func112 (by kernel_rfl) rfl #[.int .i64 a0] rfl (by (try simp only [mA,mC,mN]);first|done|rfl|(simp only [List.length_drop,List.length_take];done)|(simp only [List.length_drop,List.length_take];rfl)) ?_;(with_reducible refine (cmp_isNaN_int.calls a0 false _ A3.out).mono ?_);rintro e w' ⟨rfl,⟨nd,rfl⟩⟩;refine⟨_,rfl,?_⟩)|((with_reducible refine gate_callee (f:=112) rfl ?_);refine goesL_ (some 10) rfl rfl Try.func112 (by kernel_rfl) rfl #[.int .i64 a1] rfl (by (try simp only [mA,mC,mN]);first|done|rfl|(simp only [List.length_drop,List.length_take];done)|(simp only [List.length_drop,List.length_take];rfl)) ?_;(with_reducible refine (cmp_isNaN_int.calls a1 false _ A4.out).mono ?_);rintro e w' ⟨rfl,⟨nd,rfl⟩⟩;refine⟨_,rfl,?_⟩))
     go_ret
     exact⟨by first|rfl|(simp;done)|(simp [*];done),by repeat (first|exact Drawn0.refl _|apply Drawn0.step)⟩
    ·rw [if_neg c9] at H
     have c9b0:decide (a1 < a0) = false:=decide_eq_false c9
     clear c9
     obtain rfl:=Option.some.inj H
     go_enter Try.func91,Try.ntmps91
     go_wp2_with (first|((with_reducible refine gate_callee (f:=112) rfl ?_);refine goesL_ (some 8) rfl rfl Try.func112 (by kernel_rfl) rfl #[.int .i64 a0] rfl (by (try simp only [mA,mC,mN]);first|done|rfl|(simp only [List.length_drop,List.length_take];done)|(simp only [List.length_drop,List.length_take];rfl)) ?_;(with_reducible refine (cmp_isNaN_int.calls a0 false _ A3.out).mono ?_);rintro e w' ⟨rfl,⟨nd,rfl⟩⟩;refine⟨_,rfl,?_⟩)|((with_reducible refine gate_callee (f:=112) rfl ?_);refine goesL_ (some 10) rfl rfl Try.func112 (by kernel_rfl) rfl #[.int .i64 a1] rfl (by (try simp only [mA,mC,mN]);first|done|rfl|(simp only [List.length_drop,List.length_take];done)|(simp only [List.length_drop,List.length_take];rfl)) ?_;(with_reducible refine (cmp_isNaN_int.calls a1 false _ A4.out).mono ?_);rintro e w' ⟨rfl,⟨nd,rfl⟩⟩;refine⟨_,rfl,?_⟩))
     go_ret
     exact⟨by first|rfl|(simp;done)|(simp [*];done),by repeat (first|exact Drawn0.refl _|apply Drawn0.step)⟩

/-! ### impl_compareStretches: function 72 -/
def impl_compareStretches.f (k : Nat) (a0_0 : Int) (a0_1 : Int) (a0_2 : Int) (a1_0 : Int) (a1_1 : Int) (a1_2 : Int) : Option (Int) := (cmp_Compare_int.f a0_0 a1_0).bind fun t288 => ((cmp_Compare_int.f a1_1 a0_1).bind fun t289 => ((cmp_Or_int.f k (([t288, t289] : List Int))).bind fun t293 => (some t293)))
theorem impl_compareStretches.mono : ∀ a0 a1 a2 a3 a4 a5 k, LeO (impl_compareStretches.f k a0 a1 a2 a3 a4 a5) (impl_compareStretches.f (k + 1) a0 a1 a2 a3 a4 a5) := by
 intro a0 a1 a2 a3 a4 a5 k
 unfold impl_compareStretches.f
 repeat' first|(with_reducible first|exact cmp_Or_int.mono _ _|exact LeO.refl _|exact LeO.none _|refine LeO.ite ?_ ?_|refine LeO.bind ?_ (fun _ => ?_))|exact LeO.none _|refine LeO.ite ?_ ?_|refine LeO.bind ?_ (fun _ => ?_)
def impl_compareStretches.T1 : Bool × List (List Nat × List Nat) := (true, [([], []), ([0], [0]), ([], []), ([2], [2]), ([1, 3], [1, 3]), ([], []), ([5], [5]), ([], []), ([7], [7]), ([6, 8, 4], [6, 8]), ([4, 9], [4, 9]), ([10, 9], [10]), ([11, 11, 0, 1, 2, 3, 4, 5, 6, 7, 8, 9, 10, 11], [11])])
def impl_compareStretches.B1 : List Nat := [0, 1, 0, 4, 15, 0, 32, 0, 128, 511, 1023, 2047, 4095]
theorem impl_compareStretches.tab1 : rtab .any (opsOf Try.f72 1) = impl_compareStretches.T1 := by kernel_rfl
theorem impl_compareStretches.bits1 : waitsOk impl_compareStretches.T1.2 impl_compareStretches.B1 = true := by kernel_rfl
abbrev impl_compareStretches.m0 : Array Bool := #[F,F,F,F,F,F,F,F,F,F,F,F,F]
abbrev impl_compareStretches.m1 : Array Bool := #[T,F,F,F,F,F,F,F,F,F,F,F,F]
abbrev impl_compareStretches.m2 : Array Bool := #[T,F,T,F,F,F,F,F,F,F,F,F,F]
abbrev impl_compareStretches.m3 : Array Bool := #[T,F,T,F,F,T,F,F,F,F,F,F,F]
abbrev impl_compareStretches.m4 : Array Bool := #[T,F,T,F,F,T,F,T,F,F,F,F,F]
abbrev impl_compareStretches.m5 : Array Bool := #[T,T,T,F,F,T,F,T,F,F,F,F,F]
abbrev impl_compareStretches.m6 : Array Bool := #[T,T,T,T,F,T,F,T,F,F,F,F,F]
abbrev impl_compareStretches.m7 : Array Bool := #[T,T,T,T,F,T,T,T,F,F,F,F,F]
abbrev impl_compareStretches.m8 : Array Bool := #[T,T,T,T,F,T,T,T,T,F,F,F,F]
abbrev impl_compareStretches.m9 : Array Bool := #[T,T,T,T,T,T,T,T,T,F,F,F,F]
abbrev impl_compareStretches.m10 : Array Bool := #[T,T,T,T,T,T,T,T,T,T,F,F,F]
abbrev impl_compareStretches.m11 : Array Bool := #[T,T,T,T,T,T,T,T,T,T,T,F,F]
abbrev impl_compareStretches.m12 : Array Bool := #[T,T,T,T,T,T,T,T,T,T,T,T,F]
abbrev impl_compareStretches.m13 : Array Bool := #[T,T,T,T,T,T,T,T,T,T,T,T,T]
set_option maxHeartbeats 8000000 in
set_option maxRecDepth 100000 in
theorem impl_compareStretches.calls (k : Nat) (a0_0 : Int) (a0_1 : Int) (a0_2 : Int) (a1_0 : Int) (a1_1 : Int) (a1_2 : Int) (r : Int) (w : World) (h : impl_compareStretches.f k a0_0 a0_1 a0_2 a1_0 a1_1 a1_2 = some r) :
  Calls Try.prog 72 #[.agg #[.int .i64 a0_0, .int .i64 a0_1, .int .i64 a0_2], .agg #[.int .i64 a1_0, .int .i64 a1_1, .int .i64 a1_2]] w fun e w' => e = .returned (.int .i64 r) ∧ Below w.heap.size w w' := by
 have hu27:=Try.underlying27
 have HB:=mk0 (Below.refl w.heap.size w)
 have H:((cmp_Compare_int.f a0_0 a1_0).bind fun t288=>((cmp_Compare_int.f a1_1 a0_1).bind fun t289=>((cmp_Or_int.f k (([t288,t289]:List Int))).bind fun t293=>(some t293)))) = some r:=h
 clear h
 replace H:=Option.bind_eq_some_iff.mp H
 obtain⟨t288,A30,H⟩:=H
 replace H:((cmp_Compare_int.f a1_1 a0_1).bind fun t289=>((cmp_Or_int.f k (([t288,t289]:List Int))).bind fun t293=>(some t293))) = some r:=H
 have A3:=mk0 A30
 clear A30
 replace H:=Option.bind_eq_some_iff.mp H
 obtain⟨t289,A40,H⟩:=H
 replace H:((cmp_Or_int.f k (([t288,t289]:List Int))).bind fun t293=>(some t293)) = some r:=H
 have A4:=mk0 A40
 clear A40
 obtain⟨y290,hy290⟩:∃ y_:List Int,y_ = (([t288,t289]:List Int)):=⟨_,rfl⟩
 replace H:((cmp_Or_int.f k y290).bind fun t293=>(some t293)) = some r:=by first|(rw [hy290];with_reducible exact H)|(have H2_:=(Option.bind_some _ _).symm.trans H;rw [hy290];with_reducible exact H2_)|(have H2_:=(Option.bind_some _ _).symm.trans H;with_reducible exact H2_)|with_reducible exact H|(rw [hy290];exact H)|exact H
 have Ny290:=mk0 hy290
 clear hy290
 replace H:=Option.bind_eq_some_iff.mp H
 obtain⟨t293,A50,H⟩:=H
 replace H:(some t293) = some r:=H
 have A5:=mk0 A50
 clear A50
 obtain rfl:=Option.some.inj H
 go_enter Try.func72,Try.ntmps72
 try go_wp2_with (first|((with_reducible refine gate_dst (N:=2) rfl ?_);refine box_event ?hg (N:=2) ?hd (cs:=#[.int .i64 a0_0,.int .i64 a0_1,.int .i64 a0_2]) (t:=27) ?hr ?_;(case hd=>rfl);(case hg=>rfl);(case hr=>first|(go_simp;done)|(go_simp;rfl));intro gb286 hg w6 hbox hb;have BK286:=mk0 (hbox);have GW286:=mk0 ((by rw [hg];exact (kZ HB.out):w.heap.size ≤ gb286));have GE286:=mk0 ((by rw [hg];exact (kZ HB.out):w.heap.size ≤ gb286));replace HB:=mk0 (kS HB.out hb);clear hb hbox hg)|((with_reducible refine gate_dst (N:=3) rfl ?_);refine box_event ?hg (N:=3) ?hd (cs:=#[.int .i64 a1_0,.int .i64 a1_1,.int .i64 a1_2]) (t:=27) ?hr ?_;(case hd=>rfl);(case hg=>rfl);(case hr=>first|(go_simp;done)|(go_simp;rfl));intro gb287 hg w7 hbox hb;have BK287:=mk0 (hbox);have GW287:=mk0 ((by rw [hg];exact (kZ HB.out):w.heap.size ≤ gb287));have GE287:=mk0 ((by rw [hg];exact (kZ HB.out):w.heap.size ≤ gb287));replace HB:=mk0 (kS HB.out hb);have NB286_287:=mk0 ((by rw [hg];exact Nat.ne_of_lt (kL BK286.out):gb286 ≠ gb287));have NB287_286:=mk0 ((by rw [hg];exact Nat.ne_of_gt (kL BK286.out):gb287 ≠ gb286));replace BK286:=mk0 (kK BK286.out hb);clear hb hbox hg))
 replace BK286:=mk0 (dB BK286.out)
 replace BK287:=mk0 (dB BK287.out)
 replace HB:=mk0 (dZ HB.out)
 refine start_ (n:=13) (S:=fun w'=>w'.cell? ⟨gb286,0,none⟩ = some (.int .i64 a0_0) ∧ w'.cell? ⟨gb286,1,none⟩ = some (.int .i64 a0_1) ∧ w'.cell? ⟨gb286,2,none⟩ = some (.int .i64 a0_2) ∧ w'.cell? ⟨gb287,0,none⟩ = some (.int .i64 a1_0) ∧ w'.cell? ⟨gb287,1,none⟩ = some (.int .i64 a1_1) ∧ w'.cell? ⟨gb287,2,none⟩ = some (.int .i64 a1_2)) (ds:=[]) impl_compareStretches.m0 (by kernel_rfl) rfl rfl ⟨(blk_cell BK286.out 0).trans rfl,(blk_cell BK286.out 1).trans rfl,(blk_cell BK286.out 2).trans rfl,(blk_cell BK287.out 0).trans rfl,(blk_cell BK287.out 1).trans rfl,(blk_cell BK287.out 2).trans rfl⟩ (fun hHeld=>?_);refine with_tabW impl_compareStretches.tab1 impl_compareStretches.bits1 (fun HT_ HW_=>?_)
 generalize w7.drew = w8 at BK286 BK287 HB hHeld ⊢
 refine pure_ (i:=0) (N:=some 5) (v:=?_) (a':=?_) impl_compareStretches.m1 rfl rfl (any_of HT_.out (by kernel_rfl)) (fun _ _ _ h=>h) (Or.inl ⟨by rfl,?_⟩) ?_ ?_
 rotate_left
 ·intro w'
  go_simp
  with_reducible rfl
 rotate_left
 ·simp only [Act.put,sA,sO,sS,i64_w,i32_w]
  rfl
 refine pure_ (i:=2) (N:=some 7) (v:=?_) (a':=?_) impl_compareStretches.m2 rfl rfl (any_of HT_.out (by kernel_rfl)) (fun _ _ _ h=>h) (Or.inl ⟨by rfl,?_⟩) ?_ ?_
 rotate_left
 ·intro w'
  go_simp
  with_reducible rfl
 rotate_left
 ·simp only [Act.put,sA,sO,sS,i64_w,i32_w]
  rfl
 refine pure_ (i:=5) (N:=some 10) (v:=?_) (a':=?_) impl_compareStretches.m3 rfl rfl (any_of HT_.out (by kernel_rfl)) (fun _ _ _ h=>h) (Or.inl ⟨by rfl,?_⟩) ?_ ?_
 rotate_left
 ·intro w'
  go_simp
  with_reducible rfl
 rotate_left
 ·simp only [Act.put,sA,sO,sS,i64_w,i32_w]
  rfl
 refine pure_ (i:=7) (N:=some 12) (v:=?_) (a':=?_) impl_compareStretches.m4 rfl rfl (any_of HT_.out (by kernel_rfl)) (fun _ _ _ h=>h) (Or.inl ⟨by rfl,?_⟩) ?_ ?_
 rotate_left
 ·intro w'
  go_simp
  with_reducible rfl
 rotate_left
 ·simp only [Act.put,sA,sO,sS,i64_w,i32_w]
  rfl
 refine take_ (i:=1) (N:=some 6) (v:=?_) (a':=?_) impl_compareStretches.m5 rfl rfl (take_ofW HT_.out HW_.out (by kernel_rfl)) (fun _ _ _ h=>h) (Or.inl ⟨by rfl,?_⟩) hHeld ?_ ?_
 rotate_left
 ·rintro w' ⟨s0,s1,s2,s3,s4,s5⟩
  go_simp
  with_reducible rfl
 rotate_left
 ·simp only [Act.put,sA,sO,sS,i64_w,i32_w]
  rfl
 refine take_ (i:=3) (N:=some 8) (v:=?_) (a':=?_) impl_compareStretches.m6 rfl rfl (take_ofW HT_.out HW_.out (by kernel_rfl)) (fun _ _ _ h=>h) (Or.inl ⟨by rfl,?_⟩) hHeld ?_ ?_
 rotate_left
 ·rintro w' ⟨s0,s1,s2,s3,s4,s5⟩
  go_simp
  with_reducible rfl
 rotate_left
 ·simp only [Act.put,sA,sO,sS,i64_w,i32_w]
  rfl
 refine take_ (i:=6) (N:=some 11) (v:=?_) (a':=?_) impl_compareStretches.m7 rfl rfl (take_ofW HT_.out HW_.out (by kernel_rfl)) (fun _ _ _ h=>h) (Or.inl ⟨by rfl,?_⟩) hHeld ?_ ?_
 rotate_left
 ·rintro w' ⟨s0,s1,s2,s3,s4,s5⟩
  go_simp
  with_reducible rfl
 rotate_left
 ·simp only [Act.put,sA,sO,sS,i64_w,i32_w]
  rfl
 refine take_ (i:=8) (N:=some 13) (v:=?_) (a':=?_) impl_compareStretches.m8 rfl rfl (take_ofW HT_.out HW_.out (by kernel_rfl)) (fun _ _ _ h=>h) (Or.inl ⟨by rfl,?_⟩) hHeld ?_ ?_
 rotate_left
 ·rintro w' ⟨s0,s1,s2,s3,s4,s5⟩
  go_simp
  with_reducible rfl
 rotate_left
 ·simp only [Act.put,sA,sO,sS,i64_w,i32_w]
  rfl
 refine one_ (i:=4) (N:=some 9) impl_compareStretches.m9 rfl rfl (one_of HT_.out (by kernel_rfl)) (by decide) (fun K hK=>?_)
 refine goes_ Try.func91 (by kernel_rfl) rfl #[.int .i64 a0_0,.int .i64 a1_0] (by rfl) rfl rfl (by (try simp only [mA,mC,mN]);first|done|rfl|(simp only [List.length_drop,List.length_take];done)|(simp only [List.length_drop,List.length_take];rfl)) ?_
 with_reducible refine (cmp_Compare_int.calls a0_0 a1_0 t288 _ A3.out).mono ?_
 rintro e w' ⟨rfl,⟨nd,rfl⟩⟩
 refine⟨_,rfl,?_⟩
 refine hK.out _ _ ⟨(blk_cell BK286.out 0).trans rfl,(blk_cell BK286.out 1).trans rfl,(blk_cell BK286.out 2).trans rfl,(blk_cell BK287.out 0).trans rfl,(blk_cell BK287.out 1).trans rfl,(blk_cell BK287.out 2).trans rfl⟩ (fun hHeld=>?_)
 clear hK K
 refine norm_ (a':=?_) ?_ ?_
 rotate_left
 ·show Act.put _ (some 9) _ = _
  simp only [Act.put,sA,sO,sS,i64_w,i32_w]
  rfl
 refine one_ (i:=9) (N:=some 14) impl_compareStretches.m10 rfl rfl (one_of HT_.out (by kernel_rfl)) (by decide) (fun K hK=>?_)
 refine goes_ Try.func91 (by kernel_rfl) rfl #[.int .i64 a1_1,.int .i64 a0_1] (by rfl) rfl rfl (by (try simp only [mA,mC,mN]);first|done|rfl|(simp only [List.length_drop,List.length_take];done)|(simp only [List.length_drop,List.length_take];rfl)) ?_
 with_reducible refine (cmp_Compare_int.calls a1_1 a0_1 t289 _ A4.out).mono ?_
 rintro e w' ⟨rfl,⟨nd,rfl⟩⟩
 refine⟨_,rfl,?_⟩
 refine hK.out _ _ ⟨(blk_cell BK286.out 0).trans rfl,(blk_cell BK286.out 1).trans rfl,(blk_cell BK286.out 2).trans rfl,(blk_cell BK287.out 0).trans rfl,(blk_cell BK287.out 1).trans rfl,(blk_cell BK287.out 2).trans rfl⟩ (fun hHeld=>?_)
 clear hK K
 refine norm_ (a':=?_) ?_ ?_
 rotate_left
 ·show Act.put _ (some 14) _ = _
  simp only [Act.put,sA,sO,sS,i64_w,i32_w]
  rfl
 refine one_ (i:=10) (N:=some 15) impl_compareStretches.m11 rfl rfl (one_of HT_.out (by kernel_rfl)) (by decide) (fun K hK=>?_)
 refine Kd.R_lit_step (Kd.int .i64) _ 3 ?hg (N:=15) ?hd (xs:=([t288,t289]:List Int)) (inner:=[.int .i64 t288,.int .i64 t289]) (ok:=fun _=>True) (okp:=fun _=>True) ?hr ?hp (fun _ hk=>hk) trivial (Below.refl _ _) (Nat.le_refl _) (by simp) ?_;(case hd=>rfl);(case hg=>rfl);(case hr=>first|(go_simp;done)|(go_simp;rfl));(case hp=>exact (Reps.one (show Kd.M (Kd.int .i64) _ _ _ t288 [.int .i64 t288] from rfl) (Reps.one (show Kd.M (Kd.int .i64) _ _ _ t289 [.int .i64 t289] from rfl) (Reps.none _ _))))
 intro v291 w9 ho10 hb hg_ hnew_
 clear hg_ hnew_
 (first|rw [← Ny290.out] at ho10|(simp only [Int.reduceToNat] at ho10;rw [← Ny290.out] at ho10))
 have HO292:=mk0 (Kd.R_lower ho10 (kZ HB.out))
 replace BK286:=mk0 (kK BK286.out hb)
 replace BK287:=mk0 (kK BK287.out hb)
 replace HB:=mk0 (kS HB.out hb)
 clear hb ho10
 obtain⟨Ao11,co11,eo11⟩:=Kd.R_slice HO292.out
 (first|subst eo11|(injection eo11 with f1_ f2_ f3_;have f4_:=f1_.symm;have f5_:=f3_.symm;clear f1_ f2_ f3_;subst f4_;subst f5_))
 refine hK.out _ _ ⟨(blk_cell BK286.out 0).trans rfl,(blk_cell BK286.out 1).trans rfl,(blk_cell BK286.out 2).trans rfl,(blk_cell BK287.out 0).trans rfl,(blk_cell BK287.out 1).trans rfl,(blk_cell BK287.out 2).trans rfl⟩ (fun hHeld=>?_)
 clear hK K
 refine norm_ (a':=?_) ?_ ?_
 rotate_left
 ·show Act.put _ (some 15) _ = _
  simp only [Act.put,sA,sO,sS,i64_w,i32_w]
  rfl
 refine one_ (i:=11) (N:=some 16) impl_compareStretches.m12 rfl rfl (one_of HT_.out (by kernel_rfl)) (by decide) (fun K hK=>?_)
 refine goes_ Try.func90 (by kernel_rfl) rfl #[.slice Ao11 y290.length co11] (by rfl) rfl rfl (by (try simp only [mA,mC,mN]);first|done|rfl|(simp only [List.length_drop,List.length_take];done)|(simp only [List.length_drop,List.length_take];rfl)) ?_
 with_reducible refine (cmp_Or_int.calls k _ _ y290 t293 _ ?side1 ?side2 A5.out).mono ?_
 (case side1=>exact kC (Kd.R_reads' HO292.out).2.2)
 (case side2=>exact (Kd.R_reads' HO292.out).2.1)
 rintro e w' ⟨rfl,⟨nd,rfl⟩⟩
 refine⟨_,rfl,?_⟩
 refine hK.out _ _ ⟨(blk_cell BK286.out 0).trans rfl,(blk_cell BK286.out 1).trans rfl,(blk_cell BK286.out 2).trans rfl,(blk_cell BK287.out 0).trans rfl,(blk_cell BK287.out 1).trans rfl,(blk_cell BK287.out 2).trans rfl⟩ (fun hHeld=>?_)
 clear hK K
 refine norm_ (a':=?_) ?_ ?_
 rotate_left
 ·show Act.put _ (some 16) _ = _
  simp only [Act.put,sA,sO,sS,i64_w,i32_w]
  rfl
 refine pure_ (i:=12) (N:=some 4) (v:=?_) (a':=?_) impl_compareStretches.m13 rfl rfl (any_of HT_.out (by kernel_rfl)) (fun _ _ _ h=>h) (Or.inl ⟨by rfl,?_⟩) ?_ ?_
 rotate_left
 ·intro w'
  go_simp
  with_reducible rfl
 rotate_left
 ·simp only [Act.put,sA,sO,sS,i64_w,i32_w]
  rfl
 refine done_ (done_of HT_.out (by kernel_rfl)) ?_
 try go_wp2
 go_ret
 exact⟨by first|rfl|(simp [errW_none,errW_some] <;> rfl)|(simp [*,errW_none,errW_some] <;> rfl),kB HB.out⟩


/-! ### impl_Stretch_73: function 73 (by hand) -/
def impl_Stretch_73.f (l0 : List S27) : Option (List S27) := if l0.length ≤ 4611686018427387904 then some ((Go.Lib.compact (l0.map fun x : S27 => (x.f0, x.f1, x.f2))).map fun t : Int × Int × Int => (⟨t.1, t.2.1, t.2.2⟩ : S27)) else none
theorem impl_Stretch_73.calls (P0_ : Nat → Prop) (u9000_ : Value) (l0 : List S27) (r : List S27) (w0 w : World) (hB : Below w0.heap.size w0 w) (ho0 : Kd.R k27 27 w w0.heap.size P0_ u9000_ l0) (h : impl_Stretch_73.f l0 = some r) :
    Calls Try.prog 73 #[u9000_] w fun e w' => ∃ v0_ : Value, e = .returned (v0_) ∧ Kd.R k27 27 w' w0.heap.size (fun k_ => (P0_ k_ ∨ w.heap.size ≤ k_)) v0_ r ∧ Below w0.heap.size w0 w' ∧ Kept w w' (fun k_ => P0_ k_) := by
  unfold impl_Stretch_73.f at h
  split at h
  · rename_i hc
    obtain rfl := Option.some.inj h
    exact Str.compactStr k27 (fun x : S27 => (x.f0, x.f1, x.f2)) (fun t => ⟨t.1, t.2.1, t.2.2⟩) (fun _ => rfl) rfl (fun _ _ _ _ _ h => k27_openM h) (fun w b ok x => k27_mkM w b ok x) P0_ u9000_ l0 w0 w hB ho0 hc
  · exact absurd h (by simp)


/-! ### slices_SortFunc_72: slices.SortFunc at compareStretches -/
def slices_SortFunc_72.f (l0 : List S27) : Option (List S27) := if (Str.okP (l0.map fun x : S27 => (x.f0, x.f1, x.f2)) && decide (l0.length < 4611686018427387904)) = true then some (l0.mergeSort (Str.le3 fun x : S27 => (x.f0, x.f1, x.f2))) else none
theorem slices_SortFunc_72.calls (P0_ : Nat → Prop) (u9000_ : Value) (l0 : List S27) (r : List S27) (w0 w : World) (hB : Below w0.heap.size w0 w) (ho0 : Kd.R k27 27 w w0.heap.size P0_ u9000_ l0) (h : slices_SortFunc_72.f l0 = some r) :
    Calls Try.prog 71 #[u9000_, .func (.func 72) #[] #[]] w fun e w' => e = .returned (.tuple #[]) ∧ Kd.R k27 27 w' w0.heap.size (fun k_ => (P0_ k_ ∨ w.heap.size ≤ k_)) u9000_ r ∧ Below w0.heap.size w0 w' ∧ Kept w w' (fun k_ => P0_ k_) := by
  unfold slices_SortFunc_72.f at h
  split at h
  · rename_i hc
    obtain rfl := Option.some.inj h
    rw [Bool.and_eq_true, decide_eq_true_eq] at hc
    exact Str.sortStr' k27 (fun x : S27 => (x.f0, x.f1, x.f2)) (fun t => ⟨t.1, t.2.1, t.2.2⟩) (fun _ => rfl) rfl (fun _ _ _ _ _ h => k27_openM h) (fun w b ok x => k27_mkM w b ok x) P0_ u9000_ l0 w0 w hB ho0 hc.1 hc.2
  · exact absurd h (by simp)

/-! ### impl_stretches: function 53 -/
mutual
def impl_stretches.l0 : Nat → List (S27) → Int → List Int → Option ((List (S27)))
 | 0, _, _, _ => none
 | k + 1, x4, x5, x8 => if x5 < (x8.length : Int) then (if 0 ≤ x5 then (impl_stretches.l1 k x4 x5 x8 (wrap64 (x5 - 1)) (wrap64 (x5 + 1)) (rd x8 x5)) else (none)) else ((slices_SortFunc_72.f x4).bind fun t307 => ((impl_Stretch_73.f t307).bind fun t308 => (some t308)))
def impl_stretches.j2 : Nat → List Int → List (S27) → Int → Int → Int → Int → Option ((List (S27)))
 | 0, _, _, _, _, _, _ => none
 | k + 1, x3, x4, x5, x299000, x299001, x299002 => impl_stretches.l2 k x3 x4 x5 x299000 x299001 x299002
def impl_stretches.l2 : Nat → List Int → List (S27) → Int → Int → Int → Int → Option ((List (S27)))
 | 0, _, _, _, _, _, _ => none
 | k + 1, x3, x4, x5, x299000, x299001, x299002 => if x299001 < (x3.length : Int) then (if 0 ≤ x299001 then (if (rd x3 x299001) ≥ x299002 then (impl_stretches.l2 k x3 x4 x5 x299000 (wrap64 (x299001 + 1)) x299002) else (if x4.length < 5864062014805 then (impl_stretches.l0 k (x4 ++ [(⟨x299000, x299001, x299002⟩ : S27)]) (wrap64 (x5 + 1)) x3) else (none))) else (none)) else (if x4.length < 5864062014805 then (impl_stretches.l0 k (x4 ++ [(⟨x299000, x299001, x299002⟩ : S27)]) (wrap64 (x5 + 1)) x3) else (none))
def impl_stretches.l1 : Nat → List (S27) → Int → List Int → Int → Int → Int → Option ((List (S27)))
 | 0, _, _, _, _, _, _ => none
 | k + 1, x4, x5, x8, x299000, x299001, x299002 => if x299000 > 0 then (if 0 ≤ x299000 then (if x299000 < (x8.length : Int) then (if (rd x8 x299000) ≥ x299002 then (impl_stretches.l1 k x4 x5 x8 (wrap64 (x299000 - 1)) x299001 x299002) else (impl_stretches.j2 k x8 x4 x5 x299000 x299001 x299002)) else (none)) else (none)) else (impl_stretches.j2 k x8 x4 x5 x299000 x299001 x299002)
end
def impl_stretches.f (k : Nat) (l0 : List Int) : Option ((List (S27))) := (impl_lcpRows.f k l0).bind fun t294 => (impl_stretches.l0 k ([] : List (S27)) 1 t294)
theorem impl_stretches.mono_l : ∀ k, (∀ y0 y1 y2, LeO (impl_stretches.l0 k y0 y1 y2) (impl_stretches.l0 (k + 1) y0 y1 y2)) ∧ (∀ y0 y1 y2 y3 y4 y5, LeO (impl_stretches.j2 k y0 y1 y2 y3 y4 y5) (impl_stretches.j2 (k + 1) y0 y1 y2 y3 y4 y5)) ∧ (∀ y0 y1 y2 y3 y4 y5, LeO (impl_stretches.l2 k y0 y1 y2 y3 y4 y5) (impl_stretches.l2 (k + 1) y0 y1 y2 y3 y4 y5)) ∧ (∀ y0 y1 y2 y3 y4 y5, LeO (impl_stretches.l1 k y0 y1 y2 y3 y4 y5) (impl_stretches.l1 (k + 1) y0 y1 y2 y3 y4 y5))
 | 0 => ⟨fun _ _ _ r h => by simp [impl_stretches.l0] at h, fun _ _ _ _ _ _ r h => by simp [impl_stretches.j2] at h, fun _ _ _ _ _ _ r h => by simp [impl_stretches.l2] at h, fun _ _ _ _ _ _ r h => by simp [impl_stretches.l1] at h⟩
 | k + 1 => by
  obtain ⟨ih0, ih1, ih2, ih3⟩ := impl_stretches.mono_l k
  refine ⟨?_, ?_, ?_, ?_⟩
  ·intro y0 y1 y2
   unfold impl_stretches.l0
   repeat' first|(with_reducible first|exact ih0 _ _ _|exact ih1 _ _ _ _ _ _|exact ih2 _ _ _ _ _ _|exact ih3 _ _ _ _ _ _|exact impl_lcpRows.mono _ _|exact LeO.refl _|exact LeO.none _|refine LeO.ite ?_ ?_|refine LeO.bind ?_ (fun _ => ?_))|exact LeO.none _|refine LeO.ite ?_ ?_|refine LeO.bind ?_ (fun _ => ?_)
  ·intro y0 y1 y2 y3 y4 y5
   unfold impl_stretches.j2
   repeat' first|(with_reducible first|exact ih0 _ _ _|exact ih1 _ _ _ _ _ _|exact ih2 _ _ _ _ _ _|exact ih3 _ _ _ _ _ _|exact impl_lcpRows.mono _ _|exact LeO.refl _|exact LeO.none _|refine LeO.ite ?_ ?_|refine LeO.bind ?_ (fun _ => ?_))|exact LeO.none _|refine LeO.ite ?_ ?_|refine LeO.bind ?_ (fun _ => ?_)
  ·intro y0 y1 y2 y3 y4 y5
   unfold impl_stretches.l2
   repeat' first|(with_reducible first|exact ih0 _ _ _|exact ih1 _ _ _ _ _ _|exact ih2 _ _ _ _ _ _|exact ih3 _ _ _ _ _ _|exact impl_lcpRows.mono _ _|exact LeO.refl _|exact LeO.none _|refine LeO.ite ?_ ?_|refine LeO.bind ?_ (fun _ => ?_))|exact LeO.none _|refine LeO.ite ?_ ?_|refine LeO.bind ?_ (fun _ => ?_)
  ·intro y0 y1 y2 y3 y4 y5
   unfold impl_stretches.l1
   repeat' first|(with_reducible first|exact ih0 _ _ _|exact ih1 _ _ _ _ _ _|exact ih2 _ _ _ _ _ _|exact ih3 _ _ _ _ _ _|exact impl_lcpRows.mono _ _|exact LeO.refl _|exact LeO.none _|refine LeO.ite ?_ ?_|refine LeO.bind ?_ (fun _ => ?_))|exact LeO.none _|refine LeO.ite ?_ ?_|refine LeO.bind ?_ (fun _ => ?_)
theorem impl_stretches.mono : ∀ a0 k, LeO (impl_stretches.f k a0) (impl_stretches.f (k + 1) a0) := by
 intro a0 k
 obtain ⟨ih0, ih1, ih2, ih3⟩ := impl_stretches.mono_l k
 unfold impl_stretches.f
 repeat' first|(with_reducible first|exact ih0 _ _ _|exact ih1 _ _ _ _ _ _|exact ih2 _ _ _ _ _ _|exact ih3 _ _ _ _ _ _|exact impl_lcpRows.mono _ _|exact LeO.refl _|exact LeO.none _|refine LeO.ite ?_ ?_|refine LeO.bind ?_ (fun _ => ?_))|exact LeO.none _|refine LeO.ite ?_ ?_|refine LeO.bind ?_ (fun _ => ?_)
set_option maxHeartbeats 8000000 in
set_option maxRecDepth 100000 in
theorem impl_stretches.calls (k : Nat) (A0 : Option Addr) (c0 : Nat) (l0 : List Int) (r : List (S27)) (w : World) (hr0 : Kd.C (Kd.int .u8) w A0 l0.length l0) (hc0 : l0.length ≤ c0) (h : impl_stretches.f k l0 = some r) :
  Calls Try.prog 53 #[.slice A0 l0.length c0] w fun e w' => ∃ v0_ : Value, e = .returned (v0_) ∧ Kd.R k27 27 w' w.heap.size (fun _ => True) v0_ r ∧ Below w.heap.size w w' := by
 have hu27:=Try.underlying27
 have HR0:=mk0 hr0
 have HC0:=mk0 hc0
 clear hr0 hc0
 have HB:=mk0 (Below.refl w.heap.size w)
 have H:((impl_lcpRows.f k l0).bind fun t294=>(impl_stretches.l0 k ([]:List (S27)) 1 t294)) = some r:=h
 clear h
 replace H:=Option.bind_eq_some_iff.mp H
 obtain⟨t294,A20,H⟩:=H
 replace H:(impl_stretches.l0 k ([]:List (S27)) 1 t294) = some r:=H
 have A2:=mk0 A20
 clear A20
 have H':=mk0 H
 clear H
 go_enter Try.func53,Try.ntmps53
 go_wp2_with (first|(go_at_call 41;(with_reducible refine (impl_lcpRows.calls k _ _ l0 t294 _ ?side1 ?side2 A2.out).mono ?_);(case side1=>repeat (first|exact HR0.out|(with_reducible first|apply aC|apply nC|apply dC)));(case side2=>exact HC0.out);rintro e w3 ⟨v295,rfl,ho0,hb⟩;have HO296:=mk0 (Kd.R_lower ho0 (kZ HB.out));replace HB:=mk0 (kS HB.out hb);(try clear hb);(try clear ho0)))
 repeat (go_quiet (first|(go_at_call 41;(with_reducible refine (impl_lcpRows.calls k _ _ l0 t294 _ ?side1 ?side2 A2.out).mono ?_);(case side1=>repeat (first|exact HR0.out|(with_reducible first|apply aC|apply nC|apply dC)));(case side2=>exact HC0.out);rintro e w3 ⟨v295,rfl,ho0,hb⟩;have HO296:=mk0 (Kd.R_lower ho0 (kZ HB.out));replace HB:=mk0 (kS HB.out hb);(try clear hb);(try clear ho0)));try go_wp2_with (first|(go_at_call 41;(with_reducible refine (impl_lcpRows.calls k _ _ l0 t294 _ ?side1 ?side2 A2.out).mono ?_);(case side1=>repeat (first|exact HR0.out|(with_reducible first|apply aC|apply nC|apply dC)));(case side2=>exact HC0.out);rintro e w3 ⟨v295,rfl,ho0,hb⟩;have HO296:=mk0 (Kd.R_lower ho0 (kZ HB.out));replace HB:=mk0 (kS HB.out hb);(try clear hb);(try clear ho0))))
 go_loopg [4,5] k (fun kq v4 v5 w'=>∃ (x4_1:List (S27)) (x5_1:Int),v5 = .int .i64 x5_1 ∧ Aside0 (impl_stretches.l0 kq x4_1 x5_1 t294 = some r) ∧ Aside0 (kq ≤ k) ∧ Aside0 (Kd.R k27 27 w' w.heap.size (fun _=>True) v4 x4_1) ∧ Aside0 (Kd.R (Kd.int .i64) 3 w' w.heap.size (fun _=>True) v295 t294) ∧ Aside0 (Below w.heap.size w w'))
 case atStart=>exact⟨(([]:List (S27))),(1),(by first|rfl|(simp;done)|(simp [*];done)),H',⟨Nat.le_refl _⟩,⟨by first|exact Kd.R_nil _ _ _ _ _|exact Kd.N_nil _ _ _ _ _|exact Kd.V_nil _ _ _ _ _|exact Kd.Q_nil _ _ _ _ _|exact Kd.S_nil _ _ _ _ _⟩,⟨rR HO296.out⟩,⟨kB HB.out⟩⟩
 case round =>
  clear H'
  try clear p2
  obtain⟨x4_1,x5_1,rfl,HA,HK1,HO_4,HO_8,HB⟩:=hrel
  cases gk with
  | zero=>exact absurd HA.out (by simp [impl_stretches.l0])
  | succ k1 =>
   have H:=HA.out
   clear HA
   simp only [impl_stretches.l0] at H
   by_cases c4:x5_1 < (t294.length:Int)
   rotate_left
   ·rw [if_neg c4] at H
    have c4b0:decide (x5_1 < (t294.length:Int)) = false:=decide_eq_false c4
    clear c4
    replace H:=Option.bind_eq_some_iff.mp H
    obtain⟨t307,A270,H⟩:=H
    replace H:((impl_Stretch_73.f t307).bind fun t308=>(some t308)) = some r:=H
    have A27:=mk0 A270
    clear A270
    replace H:=Option.bind_eq_some_iff.mp H
    obtain⟨t308,A280,H⟩:=H
    replace H:(some t308) = some r:=H
    have A28:=mk0 A280
    clear A280
    obtain rfl:=Option.some.inj H
    obtain⟨Ao29,co29,eo29⟩:=Kd.R_slice HO_8.out
    subst eo29
    obtain⟨Ao30,co30,eo30⟩:=Kd.R_slice HO_4.out
    subst eo30
    go_wp2_with (first|(go_at_call 71;(with_reducible refine (slices_SortFunc_72.calls (fun k_=>some k_ = (.slice Ao30 x4_1.length co30:Value).ownBlock) (.slice Ao30 x4_1.length co30) x4_1 t307 w _ ?side1 ?side2 A27.out).mono ?_);(case side1=>repeat (first|(with_reducible first|exact HB.out|apply aZ|apply nZ|apply dZ)|exact HB.out));(case side2=>exact Kd.R_tight rfl HO_4.out);rintro e w31 ⟨rfl,hy0,hb,hkp⟩;replace HO_8:=mk0 (Kd.R_mono (ok':=fun k_=>True) (Kd.R_keptB ((Kd.R_apart' HO_8.out (Kd.R_typed HO_4.out) (by decide))) hkp (fun k_ hk_ hs_=>(hk_.2) hs_)) (fun k_ hk_=>trivial));replace HO_4:=mk0 (Kd.R_reok rfl hy0 (fun k_ e_=>HO_4.out.1 k_ e_));replace HB:=mk0 (hb);(try clear hb);(try clear hkp);(try clear hy0))|(go_at_call 73;(with_reducible refine (impl_Stretch_73.calls (fun k_=>some k_ = (.slice Ao30 x4_1.length co30:Value).ownBlock) (.slice Ao30 x4_1.length co30) t307 t308 w _ ?side1 ?side2 A28.out).mono ?_);(case side1=>repeat (first|(with_reducible first|exact HB.out|apply aZ|apply nZ|apply dZ)|exact HB.out));(case side2=>exact Kd.R_tight rfl HO_4.out);rintro e w32 ⟨v309,rfl,ho0,hb,hkp⟩;replace HO_8:=mk0 (Kd.R_mono (ok':=fun k_=>True) (Kd.R_keptB ((Kd.R_apart' HO_8.out (Kd.R_typed HO_4.out) (by decide))) hkp (fun k_ hk_ hs_=>(hk_.2) hs_)) (fun k_ hk_=>trivial));have HO310:=mk0 (Kd.R_mono (ok':=fun k_=>True) ho0 (fun k_ hk_=>trivial));replace HB:=mk0 (hb);clear HO_4;(try clear hb);(try clear hkp);(try clear ho0)))
    repeat (go_quiet (first|(go_at_call 71;(with_reducible refine (slices_SortFunc_72.calls (fun k_=>some k_ = (.slice Ao30 x4_1.length co30:Value).ownBlock) (.slice Ao30 x4_1.length co30) x4_1 t307 w _ ?side1 ?side2 A27.out).mono ?_);(case side1=>repeat (first|(with_reducible first|exact HB.out|apply aZ|apply nZ|apply dZ)|exact HB.out));(case side2=>exact Kd.R_tight rfl HO_4.out);rintro e w31 ⟨rfl,hy0,hb,hkp⟩;replace HO_8:=mk0 (Kd.R_mono (ok':=fun k_=>True) (Kd.R_keptB ((Kd.R_apart' HO_8.out (Kd.R_typed HO_4.out) (by decide))) hkp (fun k_ hk_ hs_=>(hk_.2) hs_)) (fun k_ hk_=>trivial));replace HO_4:=mk0 (Kd.R_reok rfl hy0 (fun k_ e_=>HO_4.out.1 k_ e_));replace HB:=mk0 (hb);(try clear hb);(try clear hkp);(try clear hy0))|(go_at_call 73;(with_reducible refine (impl_Stretch_73.calls (fun k_=>some k_ = (.slice Ao30 x4_1.length co30:Value).ownBlock) (.slice Ao30 x4_1.length co30) t307 t308 w _ ?side1 ?side2 A28.out).mono ?_);(case side1=>repeat (first|(with_reducible first|exact HB.out|apply aZ|apply nZ|apply dZ)|exact HB.out));(case side2=>exact Kd.R_tight rfl HO_4.out);rintro e w32 ⟨v309,rfl,ho0,hb,hkp⟩;replace HO_8:=mk0 (Kd.R_mono (ok':=fun k_=>True) (Kd.R_keptB ((Kd.R_apart' HO_8.out (Kd.R_typed HO_4.out) (by decide))) hkp (fun k_ hk_ hs_=>(hk_.2) hs_)) (fun k_ hk_=>trivial));have HO310:=mk0 (Kd.R_mono (ok':=fun k_=>True) ho0 (fun k_ hk_=>trivial));replace HB:=mk0 (hb);clear HO_4;(try clear hb);(try clear hkp);(try clear ho0)));try go_wp2_with (first|(go_at_call 71;(with_reducible refine (slices_SortFunc_72.calls (fun k_=>some k_ = (.slice Ao30 x4_1.length co30:Value).ownBlock) (.slice Ao30 x4_1.length co30) x4_1 t307 w _ ?side1 ?side2 A27.out).mono ?_);(case side1=>repeat (first|(with_reducible first|exact HB.out|apply aZ|apply nZ|apply dZ)|exact HB.out));(case side2=>exact Kd.R_tight rfl HO_4.out);rintro e w31 ⟨rfl,hy0,hb,hkp⟩;replace HO_8:=mk0 (Kd.R_mono (ok':=fun k_=>True) (Kd.R_keptB ((Kd.R_apart' HO_8.out (Kd.R_typed HO_4.out) (by decide))) hkp (fun k_ hk_ hs_=>(hk_.2) hs_)) (fun k_ hk_=>trivial));replace HO_4:=mk0 (Kd.R_reok rfl hy0 (fun k_ e_=>HO_4.out.1 k_ e_));replace HB:=mk0 (hb);(try clear hb);(try clear hkp);(try clear hy0))|(go_at_call 73;(with_reducible refine (impl_Stretch_73.calls (fun k_=>some k_ = (.slice Ao30 x4_1.length co30:Value).ownBlock) (.slice Ao30 x4_1.length co30) t307 t308 w _ ?side1 ?side2 A28.out).mono ?_);(case side1=>repeat (first|(with_reducible first|exact HB.out|apply aZ|apply nZ|apply dZ)|exact HB.out));(case side2=>exact Kd.R_tight rfl HO_4.out);rintro e w32 ⟨v309,rfl,ho0,hb,hkp⟩;replace HO_8:=mk0 (Kd.R_mono (ok':=fun k_=>True) (Kd.R_keptB ((Kd.R_apart' HO_8.out (Kd.R_typed HO_4.out) (by decide))) hkp (fun k_ hk_ hs_=>(hk_.2) hs_)) (fun k_ hk_=>trivial));have HO310:=mk0 (Kd.R_mono (ok':=fun k_=>True) ho0 (fun k_ hk_=>trivial));replace HB:=mk0 (hb);clear HO_4;(try clear hb);(try clear hkp);(try clear ho0))))
    go_ret
    exact⟨_,by first|rfl|(simp [errW_none,errW_some] <;> rfl)|(simp [*,errW_none,errW_some] <;> rfl),rR HO310.out,kB HB.out⟩

   rw [if_pos c4] at H
   have c4b0:decide (x5_1 < (t294.length:Int)) = true:=decide_eq_true c4
   clear c4
   by_cases c5:0 ≤ x5_1
   rotate_left
   ·rw [if_neg c5] at H
    exact absurd H (by simp)
   rw [if_pos c5] at H
   have c5b0:decide (0 ≤ x5_1) = true:=decide_eq_true c5
   clear c5
   have HC6:=mk0 H
   clear H
   obtain⟨Ao7,co7,eo7⟩:=Kd.R_slice HO_8.out
   subst eo7
   have p297:0 ≤ (x5_1:Int):=of_decide_eq_true (by first|(with_reducible assumption)|assumption)
   have q297:x5_1 < (t294.length:Int):=of_decide_eq_true (by first|(with_reducible assumption)|assumption)
   obtain⟨ad297,e297,hx297_0⟩:=Kd.at_int (Kd.R_reads' HO_8.out).2.2 x5_1 p297 q297
   cases e297
   replace p297:=eq_true p297
   replace q297:=eq_true q297
   go_upto_block 2 with (first|((with_reducible refine gate_dst (N:=6) rfl ?_);refine box_event ?hg (N:=6) ?hd (cs:=#[.int .i64 0,.int .i64 0,.int .i64 0]) (t:=27) ?hr ?_;(case hd=>rfl);(case hg=>rfl);(case hr=>first|(go_simp;done)|(go_simp;rfl));intro gb298 hg w8 hbox hb;replace HO_4:=mk0 (Kd.R_below (Kd.R_elderB (rR HO_4.out) gb298 (Nat.le_of_eq hg.symm)) hb);replace HO_8:=mk0 (bR HO_8.out hb);have BK298:=mk0 (hbox);have GW298:=mk0 ((by rw [hg];exact (kZ HB.out):w.heap.size ≤ gb298));have GE298:=mk0 ((by rw [hg];exact (kZ HB.out):w.heap.size ≤ gb298));replace HB:=mk0 (kS HB.out hb);clear hb hbox hg;obtain⟨hcz9_0,hcz9_1,hcz9_2,hfz9_0,hfz9_1,hfz9_2⟩:=cz3 BK298.out))
   repeat (go_quiet (first|((with_reducible refine gate_dst (N:=6) rfl ?_);refine box_event ?hg (N:=6) ?hd (cs:=#[.int .i64 0,.int .i64 0,.int .i64 0]) (t:=27) ?hr ?_;(case hd=>rfl);(case hg=>rfl);(case hr=>first|(go_simp;done)|(go_simp;rfl));intro gb298 hg w8 hbox hb;replace HO_4:=mk0 (Kd.R_below (Kd.R_elderB (rR HO_4.out) gb298 (Nat.le_of_eq hg.symm)) hb);replace HO_8:=mk0 (bR HO_8.out hb);have BK298:=mk0 (hbox);have GW298:=mk0 ((by rw [hg];exact (kZ HB.out):w.heap.size ≤ gb298));have GE298:=mk0 ((by rw [hg];exact (kZ HB.out):w.heap.size ≤ gb298));replace HB:=mk0 (kS HB.out hb);clear hb hbox hg;obtain⟨hcz9_0,hcz9_1,hcz9_2,hfz9_0,hfz9_1,hfz9_2⟩:=cz3 BK298.out));go_upto_block 2 with (first|((with_reducible refine gate_dst (N:=6) rfl ?_);refine box_event ?hg (N:=6) ?hd (cs:=#[.int .i64 0,.int .i64 0,.int .i64 0]) (t:=27) ?hr ?_;(case hd=>rfl);(case hg=>rfl);(case hr=>first|(go_simp;done)|(go_simp;rfl));intro gb298 hg w8 hbox hb;replace HO_4:=mk0 (Kd.R_below (Kd.R_elderB (rR HO_4.out) gb298 (Nat.le_of_eq hg.symm)) hb);replace HO_8:=mk0 (bR HO_8.out hb);have BK298:=mk0 (hbox);have GW298:=mk0 ((by rw [hg];exact (kZ HB.out):w.heap.size ≤ gb298));have GE298:=mk0 ((by rw [hg];exact (kZ HB.out):w.heap.size ≤ gb298));replace HB:=mk0 (kS HB.out hb);clear hb hbox hg;obtain⟨hcz9_0,hcz9_1,hcz9_2,hfz9_0,hfz9_1,hfz9_2⟩:=cz3 BK298.out)))
   (try simp only [Act.put,sA,sO,sS])
   go_cut [] (fun wc=>∃ (kq:Nat) (x299000_5:Int),Aside0 (impl_stretches.j2 kq t294 x4_1 x5_1 x299000_5 (wrap64 (x5_1 + 1)) (rd t294 x5_1) = some r) ∧ Aside0 (kq ≤ k1) ∧ Aside0 (Kd.R (Kd.int .i64) 3 wc w.heap.size (fun _=>True) (.slice (some ad297) t294.length co7) t294) ∧ Aside0 (Kd.R k27 27 wc w.heap.size (fun k_=>k_ ≠ gb298) u4 x4_1) ∧ Aside0 (wc.heap[gb298]? = some (.cells #[.int .i64 x299000_5,.int .i64 (wrap64 (x5_1 + 1)),.int .i64 (rd t294 x5_1)] 27 (0,0))) ∧ Aside0 (Below w.heap.size w wc))
   case first =>
    have H:=HC6.out
    clear HC6
    have H':=mk0 H
    clear H
    go_wp2
    repeat (go_quiet (fail);try go_wp2)
    go_loopg [] k1 (fun kq w'=>∃ (x299000_2:Int),Aside0 (impl_stretches.l1 kq x4_1 x5_1 t294 x299000_2 (wrap64 (x5_1 + 1)) (rd t294 x5_1) = some r) ∧ Aside0 (kq ≤ k1) ∧ Aside0 (Kd.R k27 27 w' w.heap.size (fun k_=>k_ ≠ gb298) u4 x4_1) ∧ Aside0 (Kd.R (Kd.int .i64) 3 w' w.heap.size (fun _=>True) (.slice (some ad297) t294.length co7) t294) ∧ Aside0 (w'.heap[gb298]? = some (.cells #[.int .i64 x299000_2,.int .i64 (wrap64 (x5_1 + 1)),.int .i64 (rd t294 x5_1)] 27 (0,0))) ∧ Aside0 (Below w.heap.size w w'))
    case atStart=>exact⟨(wrap64 (x5_1 - 1)),H',⟨Nat.le_refl _⟩,⟨by (with_reducible repeat (first|apply aR|apply nR|apply dR));exact Kd.R_mono (Kd.R_far (p:=⟨gb298,2,none⟩) (Kd.R_far (p:=⟨gb298,1,none⟩) (Kd.R_far (p:=⟨gb298,0,none⟩) (Kd.R_mono HO_4.out (fun k_ hk=>(⟨hk,hk.2⟩:_ ∧ k_ ≠ gb298))) (fun _ hk=>hk.2) (.int .i64 (wrap64 (x5_1 - 1)))) (fun _ hk=>hk.2) (.int .i64 (wrap64 (x5_1 + 1)))) (fun _ hk=>hk.2) (.int .i64 (rd t294 x5_1))) (fun _ hk=>hk.1.2)⟩,⟨by (with_reducible repeat (first|apply aR|apply nR|apply dR));exact Kd.R_mono (Kd.R_far (p:=⟨gb298,2,none⟩) (Kd.R_far (p:=⟨gb298,1,none⟩) (Kd.R_far (p:=⟨gb298,0,none⟩) (Kd.R_types HO_8.out BK298.out (by decide)) (fun _ hk=>hk.2) (.int .i64 (wrap64 (x5_1 - 1)))) (fun _ hk=>hk.2) (.int .i64 (wrap64 (x5_1 + 1)))) (fun _ hk=>hk.2) (.int .i64 (rd t294 x5_1))) (fun _ hk=>trivial)⟩,⟨by (with_reducible repeat (first|apply nB|apply dB|apply aB));refine blk_put (cs:=#[.int .i64 (wrap64 (x5_1 - 1)),.int .i64 (wrap64 (x5_1 + 1)),.int .i64 0]) ?_ 2 _ rfl;(with_reducible repeat (first|apply nB|apply dB|apply aB));refine blk_put (cs:=#[.int .i64 (wrap64 (x5_1 - 1)),.int .i64 0,.int .i64 0]) ?_ 1 _ rfl;(with_reducible repeat (first|apply nB|apply dB|apply aB));refine blk_put (cs:=#[.int .i64 0,.int .i64 0,.int .i64 0]) ?_ 0 _ rfl;(with_reducible repeat (first|apply nB|apply dB|apply aB));exact BK298.out⟩,⟨kB HB.out⟩⟩
    case round =>
     clear H'
     try clear p2
     try clear q2
     try clear hx2
     try clear c4
     try clear c4b0
     try clear c5
     try clear c5b0
     try clear p6
     try clear hcz9_0
     try clear hcz9_1
     try clear hcz9_2
     try clear hfz9_0
     try clear hfz9_1
     try clear hfz9_2
     try clear hx297_0
     try clear p2
     try clear p297
     try clear q297
     obtain⟨x299000_2,HA,HK2,HO_4,HO_8,BK298,HB⟩:=hrel
     cases gk with
     | zero=>exact absurd HA.out (by simp [impl_stretches.l1])
     | succ k2 =>
      have H:=HA.out
      clear HA
      simp only [impl_stretches.l1] at H
      by_cases c10:x299000_2 > 0
      rotate_left
      ·rw [if_neg c10] at H
       have c10b0:decide (0 < x299000_2) = false:=decide_eq_false c10
       clear c10
       (first|rw [c10b0]|(simp only [i64_w,i32_w];rw [c10b0])|skip)
       have H':=mk0 H
       clear H
       obtain⟨hcz16_0,hcz16_1,hcz16_2,hfz16_0,hfz16_1,hfz16_2⟩:=cz3 BK298.out
       go_wp2
       repeat (go_quiet (fail);try go_wp2)
       go_meet
       case rel=>exact⟨_,(x299000_2),H',⟨by have:=HK1.out;have:=HK2.out;first|omega|exact Nat.le_refl _⟩,⟨rR HO_8.out⟩,⟨rR HO_4.out⟩,⟨kN BK298.out⟩,⟨kB HB.out⟩⟩
      rw [if_pos c10] at H
      have c10b0:decide (0 < x299000_2) = true:=decide_eq_true c10
      clear c10
      (first|rw [c10b0]|(simp only [i64_w,i32_w];rw [c10b0])|skip)
      by_cases c11:0 ≤ x299000_2
      rotate_left
      ·rw [if_neg c11] at H
       exact absurd H (by simp)
      rw [if_pos c11] at H
      have c11b0:decide (0 ≤ x299000_2) = true:=decide_eq_true c11
      clear c11
      by_cases c12:x299000_2 < (t294.length:Int)
      rotate_left
      ·rw [if_neg c12] at H
       exact absurd H (by simp)
      rw [if_pos c12] at H
      have c12b0:decide (x299000_2 < (t294.length:Int)) = true:=decide_eq_true c12
      clear c12
      by_cases c13:(rd t294 x299000_2) ≥ (rd t294 x5_1)
      rotate_left
      ·rw [if_neg c13] at H
       have c13b0:decide ((rd t294 x5_1) ≤ (rd t294 x299000_2)) = false:=decide_eq_false c13
       clear c13
       have H':=mk0 H
       clear H
       obtain⟨hcz15_0,hcz15_1,hcz15_2,hfz15_0,hfz15_1,hfz15_2⟩:=cz3 BK298.out
       have p299:0 ≤ (x299000_2:Int):=of_decide_eq_true (by first|(with_reducible assumption)|assumption)
       have q299:x299000_2 < (t294.length:Int):=of_decide_eq_true (by first|(with_reducible assumption)|assumption)
       obtain⟨ad299,e299,hx299_0⟩:=Kd.at_int (Kd.R_reads' HO_8.out).2.2 x299000_2 p299 q299
       obtain rfl:ad297 = ad299:=(by injection e299)
       replace p299:=eq_true p299
       replace q299:=eq_true q299
       go_wp2
       repeat (go_quiet (fail);try go_wp2)
       go_meet
       case rel=>exact⟨_,(x299000_2),H',⟨by have:=HK1.out;have:=HK2.out;first|omega|exact Nat.le_refl _⟩,⟨rR HO_8.out⟩,⟨rR HO_4.out⟩,⟨kN BK298.out⟩,⟨kB HB.out⟩⟩
      rw [if_pos c13] at H
      have c13b0:decide ((rd t294 x5_1) ≤ (rd t294 x299000_2)) = true:=decide_eq_true c13
      clear c13
      have H':=mk0 H
      clear H
      obtain⟨hcz14_0,hcz14_1,hcz14_2,hfz14_0,hfz14_1,hfz14_2⟩:=cz3 BK298.out
      have p299:0 ≤ (x299000_2:Int):=of_decide_eq_true (by first|(with_reducible assumption)|assumption)
      have q299:x299000_2 < (t294.length:Int):=of_decide_eq_true (by first|(with_reducible assumption)|assumption)
      obtain⟨ad299,e299,hx299_0⟩:=Kd.at_int (Kd.R_reads' HO_8.out).2.2 x299000_2 p299 q299
      obtain rfl:ad297 = ad299:=(by injection e299)
      replace p299:=eq_true p299
      replace q299:=eq_true q299
      go_wp2
      repeat (go_quiet (fail);try go_wp2)
      go_roundg k2
      case measure=>have:=HK1.out;have:=HK2.out;omega
      case rel=>exact⟨(wrap64 (x299000_2 - 1)),H',⟨by have:=HK1.out;have:=HK2.out;omega⟩,⟨by (with_reducible repeat (first|apply aR|apply nR|apply dR));exact Kd.R_mono (Kd.R_far (p:=⟨gb298,0,none⟩) (Kd.R_mono HO_4.out (fun k_ hk=>(⟨hk,hk⟩:_ ∧ k_ ≠ gb298))) (fun _ hk=>hk.2) (.int .i64 (wrap64 (x299000_2 - 1)))) (fun _ hk=>hk.1)⟩,⟨by (with_reducible repeat (first|apply aR|apply nR|apply dR));exact Kd.R_mono (Kd.R_far (p:=⟨gb298,0,none⟩) (Kd.R_types HO_8.out BK298.out (by decide)) (fun _ hk=>hk.2) (.int .i64 (wrap64 (x299000_2 - 1)))) (fun _ hk=>trivial)⟩,⟨by (with_reducible repeat (first|apply nB|apply dB|apply aB));refine blk_put (cs:=#[.int .i64 x299000_2,.int .i64 (wrap64 (x5_1 + 1)),.int .i64 (rd t294 x5_1)]) ?_ 0 _ rfl;(with_reducible repeat (first|apply nB|apply dB|apply aB));exact BK298.out⟩,⟨kB HB.out⟩⟩
   case rest =>
    clear HC6
    try clear c1
    try clear p2
    try clear q2
    try clear hx2
    try clear c4
    try clear c4b0
    try clear c5
    try clear c5b0
    try clear p6
    try clear c10
    try clear c10b0
    try clear c11
    try clear c11b0
    try clear c12
    try clear c12b0
    try clear c13
    try clear c13b0
    try clear hcz14_0
    try clear hcz14_1
    try clear hcz14_2
    try clear hcz15_0
    try clear hcz15_1
    try clear hcz15_2
    try clear hcz16_0
    try clear hcz16_1
    try clear hcz16_2
    try clear hcz9_0
    try clear hcz9_1
    try clear hcz9_2
    try clear hfz14_0
    try clear hfz14_1
    try clear hfz14_2
    try clear hfz15_0
    try clear hfz15_1
    try clear hfz15_2
    try clear hfz16_0
    try clear hfz16_1
    try clear hfz16_2
    try clear hfz9_0
    try clear hfz9_1
    try clear hfz9_2
    try clear hx297_0
    try clear hx299_0
    try clear p2
    try clear p297
    try clear p299
    try clear p6
    try clear q2
    try clear q297
    try clear q299
    obtain⟨kq,x299000_5,HA,HJ5,HO_3,HO_4,BK298,HB⟩:=hcut
    cases kq with
    | zero=>exact absurd HA.out (by simp [impl_stretches.j2])
    | succ kj5 =>
     have H:=HA.out
     clear HA
     simp only [impl_stretches.j2] at H
     have H':=mk0 H
     clear H
     go_wp2
     repeat (go_quiet (fail);try go_wp2)
     go_loopg [] kj5 (fun kq w'=>∃ (x299001_3:Int),Aside0 (impl_stretches.l2 kq t294 x4_1 x5_1 x299000_5 x299001_3 (rd t294 x5_1) = some r) ∧ Aside0 (kq ≤ kj5) ∧ Aside0 (Kd.R (Kd.int .i64) 3 w' w.heap.size (fun _=>True) (.slice (some ad297) t294.length co7) t294) ∧ Aside0 (Kd.R k27 27 w' w.heap.size (fun k_=>k_ ≠ gb298) u4 x4_1) ∧ Aside0 (w'.heap[gb298]? = some (.cells #[.int .i64 x299000_5,.int .i64 x299001_3,.int .i64 (rd t294 x5_1)] 27 (0,0))) ∧ Aside0 (Below w.heap.size w w'))
     case atStart=>exact⟨((wrap64 (x5_1 + 1))),H',⟨Nat.le_refl _⟩,⟨rR HO_3.out⟩,⟨rR HO_4.out⟩,⟨kN BK298.out⟩,⟨kB HB.out⟩⟩
     case round =>
      clear H'
      try clear c1
      try clear p2
      try clear q2
      try clear hx2
      try clear c4
      try clear c4b0
      try clear c5
      try clear c5b0
      try clear p6
      try clear c10
      try clear c10b0
      try clear c11
      try clear c11b0
      try clear c12
      try clear c12b0
      try clear c13
      try clear c13b0
      try clear hcz14_0
      try clear hcz14_1
      try clear hcz14_2
      try clear hcz15_0
      try clear hcz15_1
      try clear hcz15_2
      try clear hcz16_0
      try clear hcz16_1
      try clear hcz16_2
      try clear hcz9_0
      try clear hcz9_1
      try clear hcz9_2
      try clear hfz14_0
      try clear hfz14_1
      try clear hfz14_2
      try clear hfz15_0
      try clear hfz15_1
      try clear hfz15_2
      try clear hfz16_0
      try clear hfz16_1
      try clear hfz16_2
      try clear hfz9_0
      try clear hfz9_1
      try clear hfz9_2
      try clear hx297_0
      try clear hx299_0
      try clear p2
      try clear p297
      try clear p299
      try clear p6
      try clear q2
      try clear q297
      try clear q299
      obtain⟨x299001_3,HA,HK3,HO_3,HO_4,BK298,HB⟩:=hrel
      cases gk with
      | zero=>exact absurd HA.out (by simp [impl_stretches.l2])
      | succ k3 =>
       have H:=HA.out
       clear HA
       simp only [impl_stretches.l2] at H
       by_cases c17:x299001_3 < (t294.length:Int)
       rotate_left
       ·rw [if_neg c17] at H
        have c17b0:decide (x299001_3 < (t294.length:Int)) = false:=decide_eq_false c17
        clear c17
        by_cases c24:x4_1.length < 5864062014805
        rotate_left
        ·rw [if_neg c24] at H
         exact absurd H (by simp)
        rw [if_pos c24] at H
        have LMc24:=mk0 c24
        clear c24
        obtain⟨y304,hy304⟩:∃ y_:List (S27),y_ = (x4_1 ++ [(⟨x299000_5,x299001_3,(rd t294 x5_1)⟩:S27)]):=⟨_,rfl⟩
        replace H:(impl_stretches.l0 k3 y304 (wrap64 (x5_1 + 1)) t294) = some r:=by first|(rw [hy304];with_reducible exact H)|(have H2_:=(Option.bind_some _ _).symm.trans H;rw [hy304];with_reducible exact H2_)|(have H2_:=(Option.bind_some _ _).symm.trans H;with_reducible exact H2_)|with_reducible exact H|(rw [hy304];exact H)|exact H
        have Ny304:=mk0 hy304
        clear hy304
        have H':=mk0 H
        clear H
        obtain⟨hcz25_0,hcz25_1,hcz25_2,hfz25_0,hfz25_1,hfz25_2⟩:=cz3 BK298.out
        go_wp2_with (first|((with_reducible refine gate_builtin (b:=.append) (xs:=#[.tmp 60,.tmp 62]) rfl ?_);at_builtin;refine Kd.R_append k27 (w0:=w) w.heap.size rfl (.tmp 60) (.tmp 62) 39 27 (.agg #[(.int .i64 0),(.int .i64 0),(.int .i64 0)]) 24 rfl Try.underlying39 info27 rfl (by decide) (by omega) u4 x4_1 (⟨x299000_5,x299001_3,(rd t294 x5_1)⟩:S27) [.int .i64 x299000_5,.int .i64 x299001_3,.int .i64 (rd t294 x5_1)] (fun k_=>k_ ≠ gb298) (fun _=>False) rfl rfl ?aP (fun _ hk=>hk.elim) ?aF ?aO ?aB ?aS ?aL ?_;(case aP=>exact k27_mkM _ _ _ (⟨x299000_5,x299001_3,(rd t294 x5_1)⟩:S27));(case aB=>exact (kB HB.out));(case aF=>exact (fun k_ hk=>Kd.freshB (g:=gb298) (kN BK298.out) k_ hk));(case aO=>exact (rR HO_4.out));(case aS=>exact (kZ HB.out));(case aL=>have:=LMc24.out;omega);intro v305 w26 ho hb hg hat;rw [← Ny304.out] at ho;replace HO_3:=mk0 (Kd.R_over' (rR HO_3.out) (Kd.R_typed (rR HO_4.out)) (by decide) hg);replace BK298:=mk0 (blk_grown (kN BK298.out) hg (Kd.R_away HO_4.out (fun _ hk=>hk)));replace HB:=mk0 (hb);have HO306:=mk0 (ho);clear HO_4 ho hb hg hat))
        repeat (go_quiet (first|((with_reducible refine gate_builtin (b:=.append) (xs:=#[.tmp 60,.tmp 62]) rfl ?_);at_builtin;refine Kd.R_append k27 (w0:=w) w.heap.size rfl (.tmp 60) (.tmp 62) 39 27 (.agg #[(.int .i64 0),(.int .i64 0),(.int .i64 0)]) 24 rfl Try.underlying39 info27 rfl (by decide) (by omega) u4 x4_1 (⟨x299000_5,x299001_3,(rd t294 x5_1)⟩:S27) [.int .i64 x299000_5,.int .i64 x299001_3,.int .i64 (rd t294 x5_1)] (fun k_=>k_ ≠ gb298) (fun _=>False) rfl rfl ?aP (fun _ hk=>hk.elim) ?aF ?aO ?aB ?aS ?aL ?_;(case aP=>exact k27_mkM _ _ _ (⟨x299000_5,x299001_3,(rd t294 x5_1)⟩:S27));(case aB=>exact (kB HB.out));(case aF=>exact (fun k_ hk=>Kd.freshB (g:=gb298) (kN BK298.out) k_ hk));(case aO=>exact (rR HO_4.out));(case aS=>exact (kZ HB.out));(case aL=>have:=LMc24.out;omega);intro v305 w26 ho hb hg hat;rw [← Ny304.out] at ho;replace HO_3:=mk0 (Kd.R_over' (rR HO_3.out) (Kd.R_typed (rR HO_4.out)) (by decide) hg);replace BK298:=mk0 (blk_grown (kN BK298.out) hg (Kd.R_away HO_4.out (fun _ hk=>hk)));replace HB:=mk0 (hb);have HO306:=mk0 (ho);clear HO_4 ho hb hg hat));try go_wp2_with (first|((with_reducible refine gate_builtin (b:=.append) (xs:=#[.tmp 60,.tmp 62]) rfl ?_);at_builtin;refine Kd.R_append k27 (w0:=w) w.heap.size rfl (.tmp 60) (.tmp 62) 39 27 (.agg #[(.int .i64 0),(.int .i64 0),(.int .i64 0)]) 24 rfl Try.underlying39 info27 rfl (by decide) (by omega) u4 x4_1 (⟨x299000_5,x299001_3,(rd t294 x5_1)⟩:S27) [.int .i64 x299000_5,.int .i64 x299001_3,.int .i64 (rd t294 x5_1)] (fun k_=>k_ ≠ gb298) (fun _=>False) rfl rfl ?aP (fun _ hk=>hk.elim) ?aF ?aO ?aB ?aS ?aL ?_;(case aP=>exact k27_mkM _ _ _ (⟨x299000_5,x299001_3,(rd t294 x5_1)⟩:S27));(case aB=>exact (kB HB.out));(case aF=>exact (fun k_ hk=>Kd.freshB (g:=gb298) (kN BK298.out) k_ hk));(case aO=>exact (rR HO_4.out));(case aS=>exact (kZ HB.out));(case aL=>have:=LMc24.out;omega);intro v305 w26 ho hb hg hat;rw [← Ny304.out] at ho;replace HO_3:=mk0 (Kd.R_over' (rR HO_3.out) (Kd.R_typed (rR HO_4.out)) (by decide) hg);replace BK298:=mk0 (blk_grown (kN BK298.out) hg (Kd.R_away HO_4.out (fun _ hk=>hk)));replace HB:=mk0 (hb);have HO306:=mk0 (ho);clear HO_4 ho hb hg hat)))
        go_roundg k3
        case measure=>have:=HK1.out;have:=HJ5.out;have:=HK3.out;omega
        case rel=>exact⟨(y304),(wrap64 (x5_1 + 1)),(by first|rfl|(simp;done)|(simp [*];done)),H',⟨by have:=HK1.out;have:=HJ5.out;have:=HK3.out;omega⟩,⟨rR (Kd.R_mono HO306.out (fun _ hk=>trivial))⟩,⟨rR HO_3.out⟩,⟨kB HB.out⟩⟩
       rw [if_pos c17] at H
       have c17b0:decide (x299001_3 < (t294.length:Int)) = true:=decide_eq_true c17
       clear c17
       by_cases c18:0 ≤ x299001_3
       rotate_left
       ·rw [if_neg c18] at H
        exact absurd H (by simp)
       rw [if_pos c18] at H
       have c18b0:decide (0 ≤ x299001_3) = true:=decide_eq_true c18
       clear c18
       by_cases c19:(rd t294 x299001_3) ≥ (rd t294 x5_1)
       ·rw [if_pos c19] at H
        have c19b0:decide ((rd t294 x5_1) ≤ (rd t294 x299001_3)) = true:=decide_eq_true c19
        clear c19
        have H':=mk0 H
        clear H
        obtain⟨hcz20_0,hcz20_1,hcz20_2,hfz20_0,hfz20_1,hfz20_2⟩:=cz3 BK298.out
        have p300:0 ≤ (x299001_3:Int):=of_decide_eq_true (by first|(with_reducible assumption)|assumption)
        have q300:x299001_3 < (t294.length:Int):=of_decide_eq_true (by first|(with_reducible assumption)|assumption)
        obtain⟨ad300,e300,hx300_0⟩:=Kd.at_int (Kd.R_reads' HO_3.out).2.2 x299001_3 p300 q300
        obtain rfl:ad297 = ad300:=(by injection e300)
        replace p300:=eq_true p300
        replace q300:=eq_true q300
        go_wp2
        repeat (go_quiet (fail);try go_wp2)
        go_roundg k3
        case measure=>have:=HK1.out;have:=HJ5.out;have:=HK3.out;omega
        case rel=>exact⟨(wrap64 (x299001_3 + 1)),H',⟨by have:=HK1.out;have:=HJ5.out;have:=HK3.out;omega⟩,⟨by (with_reducible repeat (first|apply aR|apply nR|apply dR));exact Kd.R_mono (Kd.R_far (p:=⟨gb298,1,none⟩) (Kd.R_types HO_3.out BK298.out (by decide)) (fun _ hk=>hk.2) (.int .i64 (wrap64 (x299001_3 + 1)))) (fun _ hk=>trivial)⟩,⟨by (with_reducible repeat (first|apply aR|apply nR|apply dR));exact Kd.R_mono (Kd.R_far (p:=⟨gb298,1,none⟩) (Kd.R_mono HO_4.out (fun k_ hk=>(⟨hk,hk⟩:_ ∧ k_ ≠ gb298))) (fun _ hk=>hk.2) (.int .i64 (wrap64 (x299001_3 + 1)))) (fun _ hk=>hk.1)⟩,⟨by (with_reducible repeat (first|apply nB|apply dB|apply aB));refine blk_put (cs:=#[.int .i64 x299000_5,.int .i64 x299001_3,.int .i64 (rd t294 x5_1)]) ?_ 1 _ rfl;(with_reducible repeat (first|apply nB|apply dB|apply aB));exact BK298.out⟩,⟨kB HB.out⟩⟩
       rw [if_neg c19] at H
       have c19b0:decide ((rd t294 x5_1) ≤ (rd t294 x299001_3)) = false:=decide_eq_false c19
       clear c19
       by_cases c21:x4_1.length < 5864062014805
       rotate_left
       ·rw [if_neg c21] at H
        exact absurd H (by simp)
       rw [if_pos c21] at H
       have LMc21:=mk0 c21
       clear c21
       obtain⟨y301,hy301⟩:∃ y_:List (S27),y_ = (x4_1 ++ [(⟨x299000_5,x299001_3,(rd t294 x5_1)⟩:S27)]):=⟨_,rfl⟩
       replace H:(impl_stretches.l0 k3 y301 (wrap64 (x5_1 + 1)) t294) = some r:=by first|(rw [hy301];with_reducible exact H)|(have H2_:=(Option.bind_some _ _).symm.trans H;rw [hy301];with_reducible exact H2_)|(have H2_:=(Option.bind_some _ _).symm.trans H;with_reducible exact H2_)|with_reducible exact H|(rw [hy301];exact H)|exact H
       have Ny301:=mk0 hy301
       clear hy301
       have H':=mk0 H
       clear H
       obtain⟨hcz22_0,hcz22_1,hcz22_2,hfz22_0,hfz22_1,hfz22_2⟩:=cz3 BK298.out
       have p300:0 ≤ (x299001_3:Int):=of_decide_eq_true (by first|(with_reducible assumption)|assumption)
       have q300:x299001_3 < (t294.length:Int):=of_decide_eq_true (by first|(with_reducible assumption)|assumption)
       obtain⟨ad300,e300,hx300_0⟩:=Kd.at_int (Kd.R_reads' HO_3.out).2.2 x299001_3 p300 q300
       obtain rfl:ad297 = ad300:=(by injection e300)
       replace p300:=eq_true p300
       replace q300:=eq_true q300
       go_wp2_with (first|((with_reducible refine gate_builtin (b:=.append) (xs:=#[.tmp 60,.tmp 62]) rfl ?_);at_builtin;refine Kd.R_append k27 (w0:=w) w.heap.size rfl (.tmp 60) (.tmp 62) 39 27 (.agg #[(.int .i64 0),(.int .i64 0),(.int .i64 0)]) 24 rfl Try.underlying39 info27 rfl (by decide) (by omega) u4 x4_1 (⟨x299000_5,x299001_3,(rd t294 x5_1)⟩:S27) [.int .i64 x299000_5,.int .i64 x299001_3,.int .i64 (rd t294 x5_1)] (fun k_=>k_ ≠ gb298) (fun _=>False) rfl rfl ?aP (fun _ hk=>hk.elim) ?aF ?aO ?aB ?aS ?aL ?_;(case aP=>exact k27_mkM _ _ _ (⟨x299000_5,x299001_3,(rd t294 x5_1)⟩:S27));(case aB=>exact (kB HB.out));(case aF=>exact (fun k_ hk=>Kd.freshB (g:=gb298) (kN BK298.out) k_ hk));(case aO=>exact (rR HO_4.out));(case aS=>exact (kZ HB.out));(case aL=>have:=LMc21.out;omega);intro v302 w23 ho hb hg hat;rw [← Ny301.out] at ho;replace HO_3:=mk0 (Kd.R_over' (rR HO_3.out) (Kd.R_typed (rR HO_4.out)) (by decide) hg);replace BK298:=mk0 (blk_grown (kN BK298.out) hg (Kd.R_away HO_4.out (fun _ hk=>hk)));replace HB:=mk0 (hb);have HO303:=mk0 (ho);clear HO_4 ho hb hg hat))
       repeat (go_quiet (first|((with_reducible refine gate_builtin (b:=.append) (xs:=#[.tmp 60,.tmp 62]) rfl ?_);at_builtin;refine Kd.R_append k27 (w0:=w) w.heap.size rfl (.tmp 60) (.tmp 62) 39 27 (.agg #[(.int .i64 0),(.int .i64 0),(.int .i64 0)]) 24 rfl Try.underlying39 info27 rfl (by decide) (by omega) u4 x4_1 (⟨x299000_5,x299001_3,(rd t294 x5_1)⟩:S27) [.int .i64 x299000_5,.int .i64 x299001_3,.int .i64 (rd t294 x5_1)] (fun k_=>k_ ≠ gb298) (fun _=>False) rfl rfl ?aP (fun _ hk=>hk.elim) ?aF ?aO ?aB ?aS ?aL ?_;(case aP=>exact k27_mkM _ _ _ (⟨x299000_5,x299001_3,(rd t294 x5_1)⟩:S27));(case aB=>exact (kB HB.out));(case aF=>exact (fun k_ hk=>Kd.freshB (g:=gb298) (kN BK298.out) k_ hk));(case aO=>exact (rR HO_4.out));(case aS=>exact (kZ HB.out));(case aL=>have:=LMc21.out;omega);intro v302 w23 ho hb hg hat;rw [← Ny301.out] at ho;replace HO_3:=mk0 (Kd.R_over' (rR HO_3.out) (Kd.R_typed (rR HO_4.out)) (by decide) hg);replace BK298:=mk0 (blk_grown (kN BK298.out) hg (Kd.R_away HO_4.out (fun _ hk=>hk)));replace HB:=mk0 (hb);have HO303:=mk0 (ho);clear HO_4 ho hb hg hat));try go_wp2_with (first|((with_reducible refine gate_builtin (b:=.append) (xs:=#[.tmp 60,.tmp 62]) rfl ?_);at_builtin;refine Kd.R_append k27 (w0:=w) w.heap.size rfl (.tmp 60) (.tmp 62) 39 27 (.agg #[(.int .i64 0),(.int .i64 0),(.int .i64 0)]) 24 rfl Try.underlying39 info27 rfl (by decide) (by omega) u4 x4_1 (⟨x299000_5,x299001_3,(rd t294 x5_1)⟩:S27) [.int .i64 x299000_5,.int .i64 x299001_3,.int .i64 (rd t294 x5_1)] (fun k_=>k_ ≠ gb298) (fun _=>False) rfl rfl ?aP (fun _ hk=>hk.elim) ?aF ?aO ?aB ?aS ?aL ?_;(case aP=>exact k27_mkM _ _ _ (⟨x299000_5,x299001_3,(rd t294 x5_1)⟩:S27));(case aB=>exact (kB HB.out));(case aF=>exact (fun k_ hk=>Kd.freshB (g:=gb298) (kN BK298.out) k_ hk));(case aO=>exact (rR HO_4.out));(case aS=>exact (kZ HB.out));(case aL=>have:=LMc21.out;omega);intro v302 w23 ho hb hg hat;rw [← Ny301.out] at ho;replace HO_3:=mk0 (Kd.R_over' (rR HO_3.out) (Kd.R_typed (rR HO_4.out)) (by decide) hg);replace BK298:=mk0 (blk_grown (kN BK298.out) hg (Kd.R_away HO_4.out (fun _ hk=>hk)));replace HB:=mk0 (hb);have HO303:=mk0 (ho);clear HO_4 ho hb hg hat)))
       go_roundg k3
       case measure=>have:=HK1.out;have:=HJ5.out;have:=HK3.out;omega
       case rel=>exact⟨(y301),(wrap64 (x5_1 + 1)),(by first|rfl|(simp;done)|(simp [*];done)),H',⟨by have:=HK1.out;have:=HJ5.out;have:=HK3.out;omega⟩,⟨rR (Kd.R_mono HO303.out (fun _ hk=>trivial))⟩,⟨rR HO_3.out⟩,⟨kB HB.out⟩⟩
end Go.Proofs.Ytoinagnieobbpaa.QFnExactStretchKids
