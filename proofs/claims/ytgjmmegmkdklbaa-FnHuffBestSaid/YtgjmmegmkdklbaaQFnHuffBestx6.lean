-- A walk, made by walk.py, a program of this session's.
import Derived.Test.YtgjmmegmkdklbaaQFnHuffBestx0
import Derived.Test.YtgjmmegmkdklbaaQFnHuffBestx1
import Derived.Test.YtgjmmegmkdklbaaQFnHuffBestx5
namespace Go.Proofs.Ytgjmmegmkdklbaa.QFnHuffBest
open Go.RowKit Go.Proofs.YtgjmmegmkdklbaaW.PrintWords Go.Proofs.YtgjmmegmkdklbaaW.PrintLast Go.Proofs.YtgjmmegmkdklbaaW.PrintMore
attribute [local go_sem] max2_int min2_int max_two min_two max_three min_three max_four min_four   -- for this text's walks alone
set_option linter.unusedVariables false
set_option linter.unusedSimpArgs false

/-! ### spec_HuffOk: function 11 -/
mutual
def spec_HuffOk.l0 : Nat → List Int → Int → Int → Int → Int → Option (Bool)
 | 0, _, _, _, _, _ => none
 | k + 1, x0, x3, x4, x5, x6 => if x6 < (x0.length : Int) then (if 0 ≤ x6 then (if (rd x0 x6) < 0 then (spec_HuffOk.j1 k x0 x3 x4 x5 x6 true) else (spec_HuffOk.j1 k x0 x3 x4 x5 x6 (decide ((rd x0 x6) > 60)))) else (none)) else (if x3 = 1 then (if x5 = 1 then (some true) else ((spec_l02Pow.f k 60).bind fun t339 => (some (x4 == t339)))) else ((spec_l02Pow.f k 60).bind fun t340 => (some (x4 == t340))))
def spec_HuffOk.j1 : Nat → List Int → Int → Int → Int → Int → Bool → Option (Bool)
 | 0, _, _, _, _, _, _ => none
 | k + 1, x0, x3, x4, x5, x6, x27 => if x27 = true then (some false) else (if 0 ≤ x6 then (if x6 < (x0.length : Int) then (if (rd x0 x6) > 0 then ((spec_l02Pow.f k (wrap64 (60 - (rd x0 x6)))).bind fun t337 => ((spec_l02Pow.f k 60).bind fun t338 => (if (wrap64 (x4 + t337)) > t338 then (some false) else (spec_HuffOk.l0 k x0 (wrap64 (x3 + 1)) (wrap64 (x4 + t337)) (rd x0 x6) (wrap64 (x6 + 1)))))) else (spec_HuffOk.l0 k x0 x3 x4 x5 (wrap64 (x6 + 1)))) else (none)) else (none))
end
def spec_HuffOk.f (k : Nat) (l0 : List Int) : Option (Bool) := if (l0.length : Int) > 300 then (some false) else (spec_HuffOk.l0 k l0 0 0 0 0)
theorem spec_HuffOk.mono_l : ∀ k, (∀ y0 y1 y2 y3 y4, LeO (spec_HuffOk.l0 k y0 y1 y2 y3 y4) (spec_HuffOk.l0 (k + 1) y0 y1 y2 y3 y4)) ∧ (∀ y0 y1 y2 y3 y4 y5, LeO (spec_HuffOk.j1 k y0 y1 y2 y3 y4 y5) (spec_HuffOk.j1 (k + 1) y0 y1 y2 y3 y4 y5))
 | 0 => ⟨fun _ _ _ _ _ r h => by simp [spec_HuffOk.l0] at h, fun _ _ _ _ _ _ r h => by simp [spec_HuffOk.j1] at h⟩
 | k + 1 => by
  obtain ⟨ih0, ih1⟩ := spec_HuffOk.mono_l k
  refine ⟨?_, ?_⟩
  ·intro y0 y1 y2 y3 y4
   unfold spec_HuffOk.l0
   repeat' first|(with_reducible first|exact ih0 _ _ _ _ _|exact ih1 _ _ _ _ _ _|exact spec_l02Pow.mono _ _|exact LeO.refl _|exact LeO.none _|refine LeO.ite ?_ ?_|refine LeO.bind ?_ (fun _ => ?_))|exact LeO.none _|refine LeO.ite ?_ ?_|refine LeO.bind ?_ (fun _ => ?_)
  ·intro y0 y1 y2 y3 y4 y5
   unfold spec_HuffOk.j1
   repeat' first|(with_reducible first|exact ih0 _ _ _ _ _|exact ih1 _ _ _ _ _ _|exact spec_l02Pow.mono _ _|exact LeO.refl _|exact LeO.none _|refine LeO.ite ?_ ?_|refine LeO.bind ?_ (fun _ => ?_))|exact LeO.none _|refine LeO.ite ?_ ?_|refine LeO.bind ?_ (fun _ => ?_)
theorem spec_HuffOk.mono : ∀ a0 k, LeO (spec_HuffOk.f k a0) (spec_HuffOk.f (k + 1) a0) := by
 intro a0 k
 obtain ⟨ih0, ih1⟩ := spec_HuffOk.mono_l k
 unfold spec_HuffOk.f
 repeat' first|(with_reducible first|exact ih0 _ _ _ _ _|exact ih1 _ _ _ _ _ _|exact spec_l02Pow.mono _ _|exact LeO.refl _|exact LeO.none _|refine LeO.ite ?_ ?_|refine LeO.bind ?_ (fun _ => ?_))|exact LeO.none _|refine LeO.ite ?_ ?_|refine LeO.bind ?_ (fun _ => ?_)
set_option maxHeartbeats 8000000 in
set_option maxRecDepth 100000 in
theorem spec_HuffOk.calls (k : Nat) (A0 : Option Addr) (c0 : Nat) (l0 : List Int) (r : Bool) (w : World) (hr0 : Kd.C (Kd.int .i64) w A0 l0.length l0) (hc0 : l0.length ≤ c0) (h : spec_HuffOk.f k l0 = some r) :
  Calls Try.prog 11 #[.slice A0 l0.length c0] w fun e w' => e = .returned (.bool r) ∧ Drawn0 w w' := by
 have HR0:=mk0 hr0
 have HC0:=mk0 hc0
 clear hr0 hc0
 have H:(if (l0.length:Int) > 300 then (some false) else (spec_HuffOk.l0 k l0 0 0 0 0)) = some r:=h
 clear h
 by_cases c2:(l0.length:Int) > 300
 ·rw [if_pos c2] at H
  have c2b0:decide (300 < (l0.length:Int)) = true:=decide_eq_true c2
  have c2b1:decide (300 < l0.length) = true:=decide_eq_true (by omega)
  clear c2
  obtain rfl:=Option.some.inj H
  go_enter Try.func11,Try.ntmps11
  go_wp2
  go_ret
  exact⟨by first|rfl|(simp;done)|(simp [*];done),by repeat (first|exact Drawn0.refl _|apply Drawn0.step)⟩
 rw [if_neg c2] at H
 have c2b0:decide (300 < (l0.length:Int)) = false:=decide_eq_false c2
 have c2b1:decide (300 < l0.length) = false:=decide_eq_false (by omega)
 clear c2
 have H':=mk0 H
 clear H
 go_enter Try.func11,Try.ntmps11
 go_wp2
 go_loopg [3,4,5,6] k (fun kq v3 v4 v5 v6 w'=>∃ (x3_1:Int) (x4_1:Int) (x5_1:Int) (x6_1:Int),v3 = .int .i64 x3_1 ∧ v4 = .int .i64 x4_1 ∧ v5 = .int .i64 x5_1 ∧ v6 = .int .i64 x6_1 ∧ Aside0 (spec_HuffOk.l0 kq l0 x3_1 x4_1 x5_1 x6_1 = some r) ∧ Aside0 (kq ≤ k) ∧ Drawn0 w w')
 case atStart=>exact⟨(0),(0),(0),(0),(by first|rfl|(simp;done)|(simp [*];done)),(by first|rfl|(simp;done)|(simp [*];done)),(by first|rfl|(simp;done)|(simp [*];done)),(by first|rfl|(simp;done)|(simp [*];done)),H',⟨Nat.le_refl _⟩,by repeat (first|exact Drawn0.refl _|apply Drawn0.step)⟩
 case round =>
  clear H'
  try clear c1
  try clear c2
  try clear c2b0
  try clear c2b1
  try clear p2
  obtain⟨x3_1,x4_1,x5_1,x6_1,rfl,rfl,rfl,rfl,HA,HK1,⟨m1,rfl⟩⟩:=hrel
  cases gk with
  | zero=>exact absurd HA.out (by simp [spec_HuffOk.l0])
  | succ k1 =>
   have H:=HA.out
   clear HA
   simp only [spec_HuffOk.l0] at H
   by_cases c3:x6_1 < (l0.length:Int)
   rotate_left
   ·rw [if_neg c3] at H
    have c3b0:decide (x6_1 < (l0.length:Int)) = false:=decide_eq_false c3
    clear c3
    by_cases c14:x3_1 = 1
    rotate_left
    ·rw [if_neg c14] at H
     have c14b0:(x3_1 == 1) = false:=beq_eq_false_iff_ne.mpr c14
     have c14b1:(x3_1 != 1) = true:=bne_iff_ne.mpr c14
     replace H:=Option.bind_eq_some_iff.mp H
     obtain⟨t340,A170,H⟩:=H
     replace H:(some (x4_1 == t340)) = some r:=H
     have A17:=mk0 A170
     clear A170
     obtain rfl:=Option.some.inj H
     go_wp2_with (first|(go_at_call 37;(with_reducible refine (spec_l02Pow.calls k1 60 t340 _ A17.out).mono ?_);rintro e w' ⟨rfl,⟨nd,rfl⟩⟩))
     go_ret
     exact⟨by first|rfl|(simp;done)|(simp [*];done),by repeat (first|exact Drawn0.refl _|apply Drawn0.step)⟩

    rw [if_pos c14] at H
    have c14b0:(x3_1 == 1) = true:=beq_iff_eq.mpr c14
    have c14b1:(x3_1 != 1) = false:=bne_eq_false_iff_eq.mpr c14
    clear c14
    by_cases c15:x5_1 = 1
    ·rw [if_pos c15] at H
     have c15b0:(x5_1 == 1) = true:=beq_iff_eq.mpr c15
     have c15b1:(x5_1 != 1) = false:=bne_eq_false_iff_eq.mpr c15
     clear c15
     obtain rfl:=Option.some.inj H
     go_wp2
     go_ret
     exact⟨by first|rfl|(simp;done)|(simp [*];done),by repeat (first|exact Drawn0.refl _|apply Drawn0.step)⟩
    rw [if_neg c15] at H
    have c15b0:(x5_1 == 1) = false:=beq_eq_false_iff_ne.mpr c15
    have c15b1:(x5_1 != 1) = true:=bne_iff_ne.mpr c15
    replace H:=Option.bind_eq_some_iff.mp H
    obtain⟨t339,A160,H⟩:=H
    replace H:(some (x4_1 == t339)) = some r:=H
    have A16:=mk0 A160
    clear A160
    obtain rfl:=Option.some.inj H
    go_wp2_with (first|(go_at_call 37;(with_reducible refine (spec_l02Pow.calls k1 60 t339 _ A16.out).mono ?_);rintro e w' ⟨rfl,⟨nd,rfl⟩⟩))
    go_ret
    exact⟨by first|rfl|(simp;done)|(simp [*];done),by repeat (first|exact Drawn0.refl _|apply Drawn0.step)⟩
   rw [if_pos c3] at H
   have c3b0:decide (x6_1 < (l0.length:Int)) = true:=decide_eq_true c3
   clear c3
   have HC4:=mk0 H
   clear H
   go_upto_region 9 with (fail)
   go_cut [27] (fun v27 wc=>∃ (kq:Nat) (x27_3:Bool),v27 = .bool x27_3 ∧ Aside0 (spec_HuffOk.j1 kq l0 x3_1 x4_1 x5_1 x6_1 x27_3 = some r) ∧ Aside0 (kq ≤ k1) ∧ Drawn0 w wc)
   case first =>
    have H:=HC4.out
    clear HC4
    by_cases c5:0 ≤ x6_1
    rotate_left
    ·rw [if_neg c5] at H
     exact absurd H (by simp)
    rw [if_pos c5] at H
    have c5b0:decide (0 ≤ x6_1) = true:=decide_eq_true c5
    clear c5
    (first|rw [c5b0]|(simp only [i64_w,i32_w];rw [c5b0])|skip)
    by_cases c6:(rd l0 x6_1) < 0
    ·rw [if_pos c6] at H
     have c6b0:decide ((rd l0 x6_1) < 0) = true:=decide_eq_true c6
     clear c6
     have H':=mk0 H
     clear H
     have p332:0 ≤ (x6_1:Int):=of_decide_eq_true (by first|(with_reducible assumption)|assumption)
     have q332:x6_1 < (l0.length:Int):=of_decide_eq_true (by first|(with_reducible assumption)|assumption)
     obtain⟨ad332,e332,hx332_0⟩:=Kd.at_int HR0.out x6_1 p332 q332
     cases e332
     replace p332:=eq_true p332
     replace q332:=eq_true q332
     go_wp2
     go_meet
     case rel=>exact⟨_,(true),(by first|rfl|(simp;done)|(simp [*];done)),H',⟨by have:=HK1.out;first|omega|exact Nat.le_refl _⟩,by repeat (first|exact Drawn0.refl _|apply Drawn0.step)⟩
    rw [if_neg c6] at H
    have c6b0:decide ((rd l0 x6_1) < 0) = false:=decide_eq_false c6
    clear c6
    have H':=mk0 H
    clear H
    have p332:0 ≤ (x6_1:Int):=of_decide_eq_true (by first|(with_reducible assumption)|assumption)
    have q332:x6_1 < (l0.length:Int):=of_decide_eq_true (by first|(with_reducible assumption)|assumption)
    obtain⟨ad332,e332,hx332_0⟩:=Kd.at_int HR0.out x6_1 p332 q332
    cases e332
    replace p332:=eq_true p332
    replace q332:=eq_true q332
    have p333:0 ≤ (x6_1:Int):=of_decide_eq_true (by first|(with_reducible assumption)|assumption)
    have q333:x6_1 < (l0.length:Int):=of_decide_eq_true (by first|(with_reducible assumption)|assumption)
    obtain⟨ad333,e333,hx333_0⟩:=Kd.at_int HR0.out x6_1 p333 q333
    obtain rfl:ad332 = ad333:=(by injection e333)
    replace p333:=eq_true p333
    replace q333:=eq_true q333
    go_wp2
    go_meet
    case rel=>exact⟨_,(decide ((rd l0 x6_1) > 60)),(by first|rfl|(simp;done)|(simp [*];done)),H',⟨by have:=HK1.out;first|omega|exact Nat.le_refl _⟩,by repeat (first|exact Drawn0.refl _|apply Drawn0.step)⟩
   case rest =>
    clear HC4
    try clear c1
    try clear c2
    try clear c2b0
    try clear c2b1
    try clear p2
    try clear c3
    try clear c3b0
    try clear p3
    try clear q3
    try clear hx3
    try clear c5
    try clear c5b0
    try clear c6
    try clear c6b0
    try clear hx332_0
    try clear hx333_0
    try clear p2
    try clear p332
    try clear p333
    try clear q332
    try clear q333
    obtain⟨kq,x27_3,rfl,HA,HJ3,⟨mc3,rfl⟩⟩:=hcut
    cases kq with
    | zero=>exact absurd HA.out (by simp [spec_HuffOk.j1])
    | succ kj3 =>
     have H:=HA.out
     clear HA
     simp only [spec_HuffOk.j1] at H
     by_cases c7:x27_3 = true
     ·subst c7
      have H1:(some false) = some r:=by rw [if_pos rfl] at H;exact H
      clear H
      have H:=H1
      clear H1
      obtain rfl:=Option.some.inj H
      go_wp2
      go_ret
      exact⟨by first|rfl|(simp;done)|(simp [*];done),by repeat (first|exact Drawn0.refl _|apply Drawn0.step)⟩
     replace c7:=Bool.eq_false_iff.mpr c7
     subst c7
     have H1:(if 0 ≤ x6_1 then (if x6_1 < (l0.length:Int) then (if (rd l0 x6_1) > 0 then ((spec_l02Pow.f kj3 (wrap64 (60 - (rd l0 x6_1)))).bind fun t337=>((spec_l02Pow.f kj3 60).bind fun t338=>(if (wrap64 (x4_1 + t337)) > t338 then (some false) else (spec_HuffOk.l0 kj3 l0 (wrap64 (x3_1 + 1)) (wrap64 (x4_1 + t337)) (rd l0 x6_1) (wrap64 (x6_1 + 1)))))) else (spec_HuffOk.l0 kj3 l0 x3_1 x4_1 x5_1 (wrap64 (x6_1 + 1)))) else (none)) else (none)) = some r:=by rw [if_neg (show ¬ (false = true) by decide)] at H;exact H
     clear H
     have H:=H1
     clear H1
     by_cases c8:0 ≤ x6_1
     rotate_left
     ·rw [if_neg c8] at H
      exact absurd H (by simp)
     rw [if_pos c8] at H
     have c8b0:decide (0 ≤ x6_1) = true:=decide_eq_true c8
     clear c8
     by_cases c9:x6_1 < (l0.length:Int)
     rotate_left
     ·rw [if_neg c9] at H
      exact absurd H (by simp)
     rw [if_pos c9] at H
     have c9b0:decide (x6_1 < (l0.length:Int)) = true:=decide_eq_true c9
     clear c9
     by_cases c10:(rd l0 x6_1) > 0
     rotate_left
     ·rw [if_neg c10] at H
      have c10b0:decide (0 < (rd l0 x6_1)) = false:=decide_eq_false c10
      clear c10
      have H':=mk0 H
      clear H
      have p334:0 ≤ (x6_1:Int):=of_decide_eq_true (by first|(with_reducible assumption)|assumption)
      have q334:x6_1 < (l0.length:Int):=of_decide_eq_true (by first|(with_reducible assumption)|assumption)
      obtain⟨ad334,e334,hx334_0⟩:=Kd.at_int HR0.out x6_1 p334 q334
      cases e334
      replace p334:=eq_true p334
      replace q334:=eq_true q334
      go_wp2
      go_roundg kj3
      case measure=>have:=HK1.out;have:=HJ3.out;omega
      case rel=>exact⟨(x3_1),(x4_1),(x5_1),(wrap64 (x6_1 + 1)),(by first|rfl|(simp;done)|(simp [*];done)),(by first|rfl|(simp;done)|(simp [*];done)),(by first|rfl|(simp;done)|(simp [*];done)),(by first|rfl|(simp;done)|(simp [*];done)),H',⟨by have:=HK1.out;have:=HJ3.out;omega⟩,by repeat (first|exact Drawn0.refl _|apply Drawn0.step)⟩
     rw [if_pos c10] at H
     have c10b0:decide (0 < (rd l0 x6_1)) = true:=decide_eq_true c10
     clear c10
     replace H:=Option.bind_eq_some_iff.mp H
     obtain⟨t337,A110,H⟩:=H
     replace H:((spec_l02Pow.f kj3 60).bind fun t338=>(if (wrap64 (x4_1 + t337)) > t338 then (some false) else (spec_HuffOk.l0 kj3 l0 (wrap64 (x3_1 + 1)) (wrap64 (x4_1 + t337)) (rd l0 x6_1) (wrap64 (x6_1 + 1))))) = some r:=H
     have A11:=mk0 A110
     clear A110
     replace H:=Option.bind_eq_some_iff.mp H
     obtain⟨t338,A120,H⟩:=H
     replace H:(if (wrap64 (x4_1 + t337)) > t338 then (some false) else (spec_HuffOk.l0 kj3 l0 (wrap64 (x3_1 + 1)) (wrap64 (x4_1 + t337)) (rd l0 x6_1) (wrap64 (x6_1 + 1)))) = some r:=H
     have A12:=mk0 A120
     clear A120
     by_cases c13:(wrap64 (x4_1 + t337)) > t338
     ·rw [if_pos c13] at H
      have c13b0:decide (t338 < (wrap64 (x4_1 + t337))) = true:=decide_eq_true c13
      clear c13
      obtain rfl:=Option.some.inj H
      have p334:0 ≤ (x6_1:Int):=of_decide_eq_true (by first|(with_reducible assumption)|assumption)
      have q334:x6_1 < (l0.length:Int):=of_decide_eq_true (by first|(with_reducible assumption)|assumption)
      obtain⟨ad334,e334,hx334_0⟩:=Kd.at_int HR0.out x6_1 p334 q334
      cases e334
      replace p334:=eq_true p334
      replace q334:=eq_true q334
      have p335:0 ≤ (x6_1:Int):=of_decide_eq_true (by first|(with_reducible assumption)|assumption)
      have q335:x6_1 < (l0.length:Int):=of_decide_eq_true (by first|(with_reducible assumption)|assumption)
      obtain⟨ad335,e335,hx335_0⟩:=Kd.at_int HR0.out x6_1 p335 q335
      obtain rfl:ad334 = ad335:=(by injection e335)
      replace p335:=eq_true p335
      replace q335:=eq_true q335
      have p336:0 ≤ (x6_1:Int):=of_decide_eq_true (by first|(with_reducible assumption)|assumption)
      have q336:x6_1 < (l0.length:Int):=of_decide_eq_true (by first|(with_reducible assumption)|assumption)
      obtain⟨ad336,e336,hx336_0⟩:=Kd.at_int HR0.out x6_1 p336 q336
      obtain rfl:ad334 = ad336:=(by injection e336)
      replace p336:=eq_true p336
      replace q336:=eq_true q336
      go_wp2_with (first|((with_reducible refine gate_callee (f:=37) rfl ?_);refine goesL_ (some 45) rfl rfl Try.func37 (by kernel_rfl) rfl #[.int .i64 (wrap64 (60 - (rd l0 x6_1)))] rfl (by (try simp only [mA,mC,mN]);first|done|rfl|(simp only [List.length_drop,List.length_take];done)|(simp only [List.length_drop,List.length_take];rfl)) ?_;(with_reducible refine (spec_l02Pow.calls kj3 (wrap64 (60 - (rd l0 x6_1))) t337 _ A11.out).mono ?_);rintro e w' ⟨rfl,⟨nd,rfl⟩⟩;refine⟨_,rfl,?_⟩)|((with_reducible refine gate_callee (f:=37) rfl ?_);refine goesL_ (some 48) rfl rfl Try.func37 (by kernel_rfl) rfl #[.int .i64 60] rfl (by (try simp only [mA,mC,mN]);first|done|rfl|(simp only [List.length_drop,List.length_take];done)|(simp only [List.length_drop,List.length_take];rfl)) ?_;(with_reducible refine (spec_l02Pow.calls kj3 60 t338 _ A12.out).mono ?_);rintro e w' ⟨rfl,⟨nd,rfl⟩⟩;refine⟨_,rfl,?_⟩))
      go_ret
      exact⟨by first|rfl|(simp;done)|(simp [*];done),by repeat (first|exact Drawn0.refl _|apply Drawn0.step)⟩
     rw [if_neg c13] at H
     have c13b0:decide (t338 < (wrap64 (x4_1 + t337))) = false:=decide_eq_false c13
     clear c13
     have H':=mk0 H
     clear H
     have p334:0 ≤ (x6_1:Int):=of_decide_eq_true (by first|(with_reducible assumption)|assumption)
     have q334:x6_1 < (l0.length:Int):=of_decide_eq_true (by first|(with_reducible assumption)|assumption)
     obtain⟨ad334,e334,hx334_0⟩:=Kd.at_int HR0.out x6_1 p334 q334
     cases e334
     replace p334:=eq_true p334
     replace q334:=eq_true q334
     have p335:0 ≤ (x6_1:Int):=of_decide_eq_true (by first|(with_reducible assumption)|assumption)
     have q335:x6_1 < (l0.length:Int):=of_decide_eq_true (by first|(with_reducible assumption)|assumption)
     obtain⟨ad335,e335,hx335_0⟩:=Kd.at_int HR0.out x6_1 p335 q335
     obtain rfl:ad334 = ad335:=(by injection e335)
     replace p335:=eq_true p335
     replace q335:=eq_true q335
     have p336:0 ≤ (x6_1:Int):=of_decide_eq_true (by first|(with_reducible assumption)|assumption)
     have q336:x6_1 < (l0.length:Int):=of_decide_eq_true (by first|(with_reducible assumption)|assumption)
     obtain⟨ad336,e336,hx336_0⟩:=Kd.at_int HR0.out x6_1 p336 q336
     obtain rfl:ad334 = ad336:=(by injection e336)
     replace p336:=eq_true p336
     replace q336:=eq_true q336
     go_wp2_with (first|((with_reducible refine gate_callee (f:=37) rfl ?_);refine goesL_ (some 45) rfl rfl Try.func37 (by kernel_rfl) rfl #[.int .i64 (wrap64 (60 - (rd l0 x6_1)))] rfl (by (try simp only [mA,mC,mN]);first|done|rfl|(simp only [List.length_drop,List.length_take];done)|(simp only [List.length_drop,List.length_take];rfl)) ?_;(with_reducible refine (spec_l02Pow.calls kj3 (wrap64 (60 - (rd l0 x6_1))) t337 _ A11.out).mono ?_);rintro e w' ⟨rfl,⟨nd,rfl⟩⟩;refine⟨_,rfl,?_⟩)|((with_reducible refine gate_callee (f:=37) rfl ?_);refine goesL_ (some 48) rfl rfl Try.func37 (by kernel_rfl) rfl #[.int .i64 60] rfl (by (try simp only [mA,mC,mN]);first|done|rfl|(simp only [List.length_drop,List.length_take];done)|(simp only [List.length_drop,List.length_take];rfl)) ?_;(with_reducible refine (spec_l02Pow.calls kj3 60 t338 _ A12.out).mono ?_);rintro e w' ⟨rfl,⟨nd,rfl⟩⟩;refine⟨_,rfl,?_⟩))
     go_roundg kj3
     case measure=>have:=HK1.out;have:=HJ3.out;omega
     case rel=>exact⟨(wrap64 (x3_1 + 1)),(wrap64 (x4_1 + t337)),(rd l0 x6_1),(wrap64 (x6_1 + 1)),(by first|rfl|(simp;done)|(simp [*];done)),(by first|rfl|(simp;done)|(simp [*];done)),(by first|rfl|(simp;done)|(simp [*];done)),(by first|rfl|(simp;done)|(simp [*];done)),H',⟨by have:=HK1.out;have:=HJ3.out;omega⟩,by repeat (first|exact Drawn0.refl _|apply Drawn0.step)⟩
/-! ### spec_HuffSize: function 25 -/
mutual
def spec_HuffSize.j0 : Nat → List Int → List Int → Bool → Option (Int)
 | 0, _, _, _ => none
 | k + 1, x0, x1, x21 => if x21 = true then (some (-1)) else (spec_HuffSize.l0 k x0 x1 0 0)
def spec_HuffSize.l0 : Nat → List Int → List Int → Int → Int → Option (Int)
 | 0, _, _, _, _ => none
 | k + 1, x0, x1, x5, x6 => if x6 < (x0.length : Int) then (if 0 ≤ x6 then (if (rd x0 x6) > 0 then (if x6 < (x1.length : Int) then (if (rd x1 x6) = 0 then (some (-1)) else (spec_HuffSize.l0 k x0 x1 (wrap64 (x5 + (wrap64 ((rd x0 x6) * (rd x1 x6))))) (wrap64 (x6 + 1)))) else (none)) else (if x6 < (x1.length : Int) then (spec_HuffSize.l0 k x0 x1 (wrap64 (x5 + (wrap64 ((rd x0 x6) * (rd x1 x6))))) (wrap64 (x6 + 1))) else (none))) else (none)) else (some x5)
end
def spec_HuffSize.f (k : Nat) (l0 : List Int) (l1 : List Int) : Option (Int) := if (l0.length : Int) = (l1.length : Int) then ((spec_HuffOk.f k l1).bind fun t341 => (if t341 = true then ((spec_l08Counts.f k l0).bind fun t342 => (spec_HuffSize.j0 k l0 l1 (!t342))) else (spec_HuffSize.j0 k l0 l1 true))) else (spec_HuffSize.j0 k l0 l1 true)
theorem spec_HuffSize.mono_l : ∀ k, (∀ y0 y1 y2, LeO (spec_HuffSize.j0 k y0 y1 y2) (spec_HuffSize.j0 (k + 1) y0 y1 y2)) ∧ (∀ y0 y1 y2 y3, LeO (spec_HuffSize.l0 k y0 y1 y2 y3) (spec_HuffSize.l0 (k + 1) y0 y1 y2 y3))
 | 0 => ⟨fun _ _ _ r h => by simp [spec_HuffSize.j0] at h, fun _ _ _ _ r h => by simp [spec_HuffSize.l0] at h⟩
 | k + 1 => by
  obtain ⟨ih0, ih1⟩ := spec_HuffSize.mono_l k
  refine ⟨?_, ?_⟩
  ·intro y0 y1 y2
   unfold spec_HuffSize.j0
   repeat' first|(with_reducible first|exact ih0 _ _ _|exact ih1 _ _ _ _|exact spec_HuffOk.mono _ _|exact spec_l08Counts.mono _ _|exact LeO.refl _|exact LeO.none _|refine LeO.ite ?_ ?_|refine LeO.bind ?_ (fun _ => ?_))|exact LeO.none _|refine LeO.ite ?_ ?_|refine LeO.bind ?_ (fun _ => ?_)
  ·intro y0 y1 y2 y3
   unfold spec_HuffSize.l0
   repeat' first|(with_reducible first|exact ih0 _ _ _|exact ih1 _ _ _ _|exact spec_HuffOk.mono _ _|exact spec_l08Counts.mono _ _|exact LeO.refl _|exact LeO.none _|refine LeO.ite ?_ ?_|refine LeO.bind ?_ (fun _ => ?_))|exact LeO.none _|refine LeO.ite ?_ ?_|refine LeO.bind ?_ (fun _ => ?_)
theorem spec_HuffSize.mono : ∀ a0 a1 k, LeO (spec_HuffSize.f k a0 a1) (spec_HuffSize.f (k + 1) a0 a1) := by
 intro a0 a1 k
 obtain ⟨ih0, ih1⟩ := spec_HuffSize.mono_l k
 unfold spec_HuffSize.f
 repeat' first|(with_reducible first|exact ih0 _ _ _|exact ih1 _ _ _ _|exact spec_HuffOk.mono _ _|exact spec_l08Counts.mono _ _|exact LeO.refl _|exact LeO.none _|refine LeO.ite ?_ ?_|refine LeO.bind ?_ (fun _ => ?_))|exact LeO.none _|refine LeO.ite ?_ ?_|refine LeO.bind ?_ (fun _ => ?_)
set_option maxHeartbeats 8000000 in
set_option maxRecDepth 100000 in
theorem spec_HuffSize.calls (k : Nat) (A0 : Option Addr) (c0 : Nat) (l0 : List Int) (A1 : Option Addr) (c1 : Nat) (l1 : List Int) (r : Int) (w : World) (hr0 : Kd.C (Kd.int .i64) w A0 l0.length l0) (hc0 : l0.length ≤ c0) (hr1 : Kd.C (Kd.int .i64) w A1 l1.length l1) (hc1 : l1.length ≤ c1) (h : spec_HuffSize.f k l0 l1 = some r) :
  Calls Try.prog 25 #[.slice A0 l0.length c0, .slice A1 l1.length c1] w fun e w' => e = .returned (.int .i64 r) ∧ Drawn0 w w' := by
 have HR0:=mk0 hr0
 have HC0:=mk0 hc0
 clear hr0 hc0
 have HR1:=mk0 hr1
 have HC1:=mk0 hc1
 clear hr1 hc1
 have H:(if (l0.length:Int) = (l1.length:Int) then ((spec_HuffOk.f k l1).bind fun t341=>(if t341 = true then ((spec_l08Counts.f k l0).bind fun t342=>(spec_HuffSize.j0 k l0 l1 (!t342))) else (spec_HuffSize.j0 k l0 l1 true))) else (spec_HuffSize.j0 k l0 l1 true)) = some r:=h
 clear h
 have HC3:=mk0 H
 clear H
 go_enter Try.func25,Try.ntmps25
 go_upto_region 1 with (fail)
 repeat (go_quiet (fail);go_upto_region 1 with (fail))
 go_cut [21] (fun v21 wc=>∃ (kq:Nat) (x21_2:Bool),v21 = .bool x21_2 ∧ Aside0 (spec_HuffSize.j0 kq l0 l1 x21_2 = some r) ∧ Aside0 (kq ≤ k) ∧ Drawn0 w wc)
 case first =>
  have H:=HC3.out
  clear HC3
  by_cases c4:(l0.length:Int) = (l1.length:Int)
  rotate_left
  ·rw [if_neg c4] at H
   have c4b0:((l0.length:Int) == (l1.length:Int)) = false:=beq_eq_false_iff_ne.mpr c4
   have c4b1:((l0.length:Int) != (l1.length:Int)) = true:=bne_iff_ne.mpr c4
   have c4b2:(l0.length == l1.length) = false:=by first|simpa using c4|(simp at c4 ⊢;omega)
   (first|rw [c4b0]|(simp only [i64_w,i32_w];rw [c4b0])|skip)
   have H':=mk0 H
   clear H
   go_wp2
   repeat (go_quiet (fail);try go_wp2)
   go_meet
   case rel=>exact⟨_,(true),(by first|rfl|(simp;done)|(simp [*];done)),H',⟨by first|omega|exact Nat.le_refl _⟩,by repeat (first|exact Drawn0.refl _|apply Drawn0.step)⟩
  rw [if_pos c4] at H
  have c4b0:((l0.length:Int) == (l1.length:Int)) = true:=beq_iff_eq.mpr c4
  have c4b1:((l0.length:Int) != (l1.length:Int)) = false:=bne_eq_false_iff_eq.mpr c4
  have c4b2:(l0.length == l1.length) = true:=by first|simpa using c4|(simp at c4 ⊢;omega)
  clear c4
  (first|rw [c4b0]|(simp only [i64_w,i32_w];rw [c4b0])|skip)
  replace H:=Option.bind_eq_some_iff.mp H
  obtain⟨t341,A50,H⟩:=H
  replace H:(if t341 = true then ((spec_l08Counts.f k l0).bind fun t342=>(spec_HuffSize.j0 k l0 l1 (!t342))) else (spec_HuffSize.j0 k l0 l1 true)) = some r:=H
  have A5:=mk0 A50
  clear A50
  by_cases c6:t341 = true
  rotate_left
  ·replace c6:=Bool.eq_false_iff.mpr c6
   subst c6
   have H1:(spec_HuffSize.j0 k l0 l1 true) = some r:=by rw [if_neg (show ¬ (false = true) by decide)] at H;exact H
   clear H
   have H:=H1
   clear H1
   have H':=mk0 H
   clear H
   go_wp2_with (first|(go_at_call 11;(with_reducible refine (spec_HuffOk.calls k _ _ l1 false _ ?side1 ?side2 A5.out).mono ?_);(case side1=>repeat (first|exact HR1.out|(with_reducible first|apply aC|apply nC|apply dC)));(case side2=>exact HC1.out);rintro e w' ⟨rfl,⟨nd,rfl⟩⟩;(try first|exact⟨rfl,_,World.drewN_drewN _ _ _⟩|exact⟨rfl,_,Eq.trans (World.drewN_drewN _ _ _) (congrArg (World.drewN _) (Nat.add_assoc _ _ _))⟩)))
   repeat (go_quiet (first|(go_at_call 11;(with_reducible refine (spec_HuffOk.calls k _ _ l1 false _ ?side1 ?side2 A5.out).mono ?_);(case side1=>repeat (first|exact HR1.out|(with_reducible first|apply aC|apply nC|apply dC)));(case side2=>exact HC1.out);rintro e w' ⟨rfl,⟨nd,rfl⟩⟩;(try first|exact⟨rfl,_,World.drewN_drewN _ _ _⟩|exact⟨rfl,_,Eq.trans (World.drewN_drewN _ _ _) (congrArg (World.drewN _) (Nat.add_assoc _ _ _))⟩)));try go_wp2_with (first|(go_at_call 11;(with_reducible refine (spec_HuffOk.calls k _ _ l1 false _ ?side1 ?side2 A5.out).mono ?_);(case side1=>repeat (first|exact HR1.out|(with_reducible first|apply aC|apply nC|apply dC)));(case side2=>exact HC1.out);rintro e w' ⟨rfl,⟨nd,rfl⟩⟩;(try first|exact⟨rfl,_,World.drewN_drewN _ _ _⟩|exact⟨rfl,_,Eq.trans (World.drewN_drewN _ _ _) (congrArg (World.drewN _) (Nat.add_assoc _ _ _))⟩))))
   go_meet
   case rel=>exact⟨_,(true),(by first|rfl|(simp;done)|(simp [*];done)),H',⟨by first|omega|exact Nat.le_refl _⟩,by repeat (first|exact Drawn0.refl _|apply Drawn0.step)⟩
  subst c6
  have H1:((spec_l08Counts.f k l0).bind fun t342=>(spec_HuffSize.j0 k l0 l1 (!t342))) = some r:=by rw [if_pos rfl] at H;exact H
  clear H
  have H:=H1
  clear H1
  replace H:=Option.bind_eq_some_iff.mp H
  obtain⟨t342,A70,H⟩:=H
  replace H:(spec_HuffSize.j0 k l0 l1 (!t342)) = some r:=H
  have A7:=mk0 A70
  clear A70
  have H':=mk0 H
  clear H
  go_wp2_with (first|(go_at_call 11;(with_reducible refine (spec_HuffOk.calls k _ _ l1 true _ ?side1 ?side2 A5.out).mono ?_);(case side1=>repeat (first|exact HR1.out|(with_reducible first|apply aC|apply nC|apply dC)));(case side2=>exact HC1.out);rintro e w' ⟨rfl,⟨nd,rfl⟩⟩;(try first|exact⟨rfl,_,World.drewN_drewN _ _ _⟩|exact⟨rfl,_,Eq.trans (World.drewN_drewN _ _ _) (congrArg (World.drewN _) (Nat.add_assoc _ _ _))⟩))|(go_at_call 50;(with_reducible refine (spec_l08Counts.calls k _ _ l0 t342 _ ?side1 ?side2 A7.out).mono ?_);(case side1=>repeat (first|exact HR0.out|(with_reducible first|apply aC|apply nC|apply dC)));(case side2=>exact HC0.out);rintro e w' ⟨rfl,⟨nd,rfl⟩⟩;(try first|exact⟨rfl,_,World.drewN_drewN _ _ _⟩|exact⟨rfl,_,Eq.trans (World.drewN_drewN _ _ _) (congrArg (World.drewN _) (Nat.add_assoc _ _ _))⟩)))
  repeat (go_quiet (first|(go_at_call 11;(with_reducible refine (spec_HuffOk.calls k _ _ l1 true _ ?side1 ?side2 A5.out).mono ?_);(case side1=>repeat (first|exact HR1.out|(with_reducible first|apply aC|apply nC|apply dC)));(case side2=>exact HC1.out);rintro e w' ⟨rfl,⟨nd,rfl⟩⟩;(try first|exact⟨rfl,_,World.drewN_drewN _ _ _⟩|exact⟨rfl,_,Eq.trans (World.drewN_drewN _ _ _) (congrArg (World.drewN _) (Nat.add_assoc _ _ _))⟩))|(go_at_call 50;(with_reducible refine (spec_l08Counts.calls k _ _ l0 t342 _ ?side1 ?side2 A7.out).mono ?_);(case side1=>repeat (first|exact HR0.out|(with_reducible first|apply aC|apply nC|apply dC)));(case side2=>exact HC0.out);rintro e w' ⟨rfl,⟨nd,rfl⟩⟩;(try first|exact⟨rfl,_,World.drewN_drewN _ _ _⟩|exact⟨rfl,_,Eq.trans (World.drewN_drewN _ _ _) (congrArg (World.drewN _) (Nat.add_assoc _ _ _))⟩)));try go_wp2_with (first|(go_at_call 11;(with_reducible refine (spec_HuffOk.calls k _ _ l1 true _ ?side1 ?side2 A5.out).mono ?_);(case side1=>repeat (first|exact HR1.out|(with_reducible first|apply aC|apply nC|apply dC)));(case side2=>exact HC1.out);rintro e w' ⟨rfl,⟨nd,rfl⟩⟩;(try first|exact⟨rfl,_,World.drewN_drewN _ _ _⟩|exact⟨rfl,_,Eq.trans (World.drewN_drewN _ _ _) (congrArg (World.drewN _) (Nat.add_assoc _ _ _))⟩))|(go_at_call 50;(with_reducible refine (spec_l08Counts.calls k _ _ l0 t342 _ ?side1 ?side2 A7.out).mono ?_);(case side1=>repeat (first|exact HR0.out|(with_reducible first|apply aC|apply nC|apply dC)));(case side2=>exact HC0.out);rintro e w' ⟨rfl,⟨nd,rfl⟩⟩;(try first|exact⟨rfl,_,World.drewN_drewN _ _ _⟩|exact⟨rfl,_,Eq.trans (World.drewN_drewN _ _ _) (congrArg (World.drewN _) (Nat.add_assoc _ _ _))⟩))))
  go_meet
  case rel=>exact⟨_,(!t342),(by first|rfl|(simp;done)|(simp [*];done)),H',⟨by first|omega|exact Nat.le_refl _⟩,by repeat (first|exact Drawn0.refl _|apply Drawn0.step)⟩
 case rest =>
  clear HC3
  try clear c1
  try clear c2
  try clear p2
  try clear c4
  try clear c4b0
  try clear c4b1
  try clear c4b2
  try clear c6
  obtain⟨kq,x21_2,rfl,HA,HJ2,⟨mc2,rfl⟩⟩:=hcut
  cases kq with
  | zero=>exact absurd HA.out (by simp [spec_HuffSize.j0])
  | succ kj2 =>
   have H:=HA.out
   clear HA
   simp only [spec_HuffSize.j0] at H
   by_cases c8:x21_2 = true
   ·subst c8
    have H1:(some (-1)) = some r:=by rw [if_pos rfl] at H;exact H
    clear H
    have H:=H1
    clear H1
    obtain rfl:=Option.some.inj H
    go_wp2
    repeat (go_quiet (fail);try go_wp2)
    go_ret
    exact⟨by first|rfl|(simp;done)|(simp [*];done),by repeat (first|exact Drawn0.refl _|apply Drawn0.step)⟩
   replace c8:=Bool.eq_false_iff.mpr c8
   subst c8
   have H1:(spec_HuffSize.l0 kj2 l0 l1 0 0) = some r:=by rw [if_neg (show ¬ (false = true) by decide)] at H;exact H
   clear H
   have H:=H1
   clear H1
   have H':=mk0 H
   clear H
   go_wp2
   repeat (go_quiet (fail);try go_wp2)
   go_loopg [5,6] kj2 (fun kq v5 v6 w'=>∃ (x5_2:Int) (x6_2:Int),v5 = .int .i64 x5_2 ∧ v6 = .int .i64 x6_2 ∧ Aside0 (spec_HuffSize.l0 kq l0 l1 x5_2 x6_2 = some r) ∧ Aside0 (kq ≤ kj2) ∧ Drawn0 w w')
   case atStart=>exact⟨(0),(0),(by first|rfl|(simp;done)|(simp [*];done)),(by first|rfl|(simp;done)|(simp [*];done)),H',⟨Nat.le_refl _⟩,by repeat (first|exact Drawn0.refl _|apply Drawn0.step)⟩
   case round =>
    clear H'
    try clear c1
    try clear c2
    try clear p2
    try clear c4
    try clear c4b0
    try clear c4b1
    try clear c4b2
    try clear c6
    try clear c8
    try clear p2
    obtain⟨x5_2,x6_2,rfl,rfl,HA,HK2,⟨m2,rfl⟩⟩:=hrel
    cases gk with
    | zero=>exact absurd HA.out (by simp [spec_HuffSize.l0])
    | succ k2 =>
     have H:=HA.out
     clear HA
     simp only [spec_HuffSize.l0] at H
     by_cases c9:x6_2 < (l0.length:Int)
     rotate_left
     ·rw [if_neg c9] at H
      have c9b0:decide (x6_2 < (l0.length:Int)) = false:=decide_eq_false c9
      clear c9
      obtain rfl:=Option.some.inj H
      go_wp2
      repeat (go_quiet (fail);try go_wp2)
      go_ret
      exact⟨by first|rfl|(simp;done)|(simp [*];done),by repeat (first|exact Drawn0.refl _|apply Drawn0.step)⟩

     rw [if_pos c9] at H
     have c9b0:decide (x6_2 < (l0.length:Int)) = true:=decide_eq_true c9
     clear c9
     by_cases c10:0 ≤ x6_2
     rotate_left
     ·rw [if_neg c10] at H
      exact absurd H (by simp)
     rw [if_pos c10] at H
     have c10b0:decide (0 ≤ x6_2) = true:=decide_eq_true c10
     clear c10
     by_cases c11:(rd l0 x6_2) > 0
     rotate_left
     ·rw [if_neg c11] at H
      have c11b0:decide (0 < (rd l0 x6_2)) = false:=decide_eq_false c11
      clear c11
      by_cases c14:x6_2 < (l1.length:Int)
      rotate_left
      ·rw [if_neg c14] at H
       exact absurd H (by simp)
      rw [if_pos c14] at H
      have c14b0:decide (x6_2 < (l1.length:Int)) = true:=decide_eq_true c14
      clear c14
      have H':=mk0 H
      clear H
      have p343:0 ≤ (x6_2:Int):=of_decide_eq_true (by first|(with_reducible assumption)|assumption)
      have q343:x6_2 < (l0.length:Int):=of_decide_eq_true (by first|(with_reducible assumption)|assumption)
      obtain⟨ad343,e343,hx343_0⟩:=Kd.at_int HR0.out x6_2 p343 q343
      cases e343
      replace p343:=eq_true p343
      replace q343:=eq_true q343
      have p347:0 ≤ (x6_2:Int):=of_decide_eq_true (by first|(with_reducible assumption)|assumption)
      have q347:x6_2 < (l0.length:Int):=of_decide_eq_true (by first|(with_reducible assumption)|assumption)
      obtain⟨ad347,e347,hx347_0⟩:=Kd.at_int HR0.out x6_2 p347 q347
      obtain rfl:ad343 = ad347:=(by injection e347)
      replace p347:=eq_true p347
      replace q347:=eq_true q347
      have p348:0 ≤ (x6_2:Int):=of_decide_eq_true (by first|(with_reducible assumption)|assumption)
      have q348:x6_2 < (l1.length:Int):=of_decide_eq_true (by first|(with_reducible assumption)|assumption)
      obtain⟨ad348,e348,hx348_0⟩:=Kd.at_int HR1.out x6_2 p348 q348
      cases e348
      replace p348:=eq_true p348
      replace q348:=eq_true q348
      go_wp2
      repeat (go_quiet (fail);try go_wp2)
      go_roundg k2
      case measure=>have:=HJ2.out;have:=HK2.out;omega
      case rel=>exact⟨(wrap64 (x5_2 + (wrap64 ((rd l0 x6_2) * (rd l1 x6_2))))),(wrap64 (x6_2 + 1)),(by first|rfl|(simp;done)|(simp [*];done)),(by first|rfl|(simp;done)|(simp [*];done)),H',⟨by have:=HJ2.out;have:=HK2.out;omega⟩,by repeat (first|exact Drawn0.refl _|apply Drawn0.step)⟩
     rw [if_pos c11] at H
     have c11b0:decide (0 < (rd l0 x6_2)) = true:=decide_eq_true c11
     clear c11
     by_cases c12:x6_2 < (l1.length:Int)
     rotate_left
     ·rw [if_neg c12] at H
      exact absurd H (by simp)
     rw [if_pos c12] at H
     have c12b0:decide (x6_2 < (l1.length:Int)) = true:=decide_eq_true c12
     clear c12
     by_cases c13:(rd l1 x6_2) = 0
     ·rw [if_pos c13] at H
      have c13b0:((rd l1 x6_2) == 0) = true:=beq_iff_eq.mpr c13
      have c13b1:((rd l1 x6_2) != 0) = false:=bne_eq_false_iff_eq.mpr c13
      clear c13
      obtain rfl:=Option.some.inj H
      have p343:0 ≤ (x6_2:Int):=of_decide_eq_true (by first|(with_reducible assumption)|assumption)
      have q343:x6_2 < (l0.length:Int):=of_decide_eq_true (by first|(with_reducible assumption)|assumption)
      obtain⟨ad343,e343,hx343_0⟩:=Kd.at_int HR0.out x6_2 p343 q343
      cases e343
      replace p343:=eq_true p343
      replace q343:=eq_true q343
      have p344:0 ≤ (x6_2:Int):=of_decide_eq_true (by first|(with_reducible assumption)|assumption)
      have q344:x6_2 < (l1.length:Int):=of_decide_eq_true (by first|(with_reducible assumption)|assumption)
      obtain⟨ad344,e344,hx344_0⟩:=Kd.at_int HR1.out x6_2 p344 q344
      cases e344
      replace p344:=eq_true p344
      replace q344:=eq_true q344
      go_wp2
      repeat (go_quiet (fail);try go_wp2)
      go_ret
      exact⟨by first|rfl|(simp;done)|(simp [*];done),by repeat (first|exact Drawn0.refl _|apply Drawn0.step)⟩
     rw [if_neg c13] at H
     have c13b0:((rd l1 x6_2) == 0) = false:=beq_eq_false_iff_ne.mpr c13
     have c13b1:((rd l1 x6_2) != 0) = true:=bne_iff_ne.mpr c13
     have H':=mk0 H
     clear H
     have p343:0 ≤ (x6_2:Int):=of_decide_eq_true (by first|(with_reducible assumption)|assumption)
     have q343:x6_2 < (l0.length:Int):=of_decide_eq_true (by first|(with_reducible assumption)|assumption)
     obtain⟨ad343,e343,hx343_0⟩:=Kd.at_int HR0.out x6_2 p343 q343
     cases e343
     replace p343:=eq_true p343
     replace q343:=eq_true q343
     have p344:0 ≤ (x6_2:Int):=of_decide_eq_true (by first|(with_reducible assumption)|assumption)
     have q344:x6_2 < (l1.length:Int):=of_decide_eq_true (by first|(with_reducible assumption)|assumption)
     obtain⟨ad344,e344,hx344_0⟩:=Kd.at_int HR1.out x6_2 p344 q344
     cases e344
     replace p344:=eq_true p344
     replace q344:=eq_true q344
     have p345:0 ≤ (x6_2:Int):=of_decide_eq_true (by first|(with_reducible assumption)|assumption)
     have q345:x6_2 < (l0.length:Int):=of_decide_eq_true (by first|(with_reducible assumption)|assumption)
     obtain⟨ad345,e345,hx345_0⟩:=Kd.at_int HR0.out x6_2 p345 q345
     obtain rfl:ad343 = ad345:=(by injection e345)
     replace p345:=eq_true p345
     replace q345:=eq_true q345
     have p346:0 ≤ (x6_2:Int):=of_decide_eq_true (by first|(with_reducible assumption)|assumption)
     have q346:x6_2 < (l1.length:Int):=of_decide_eq_true (by first|(with_reducible assumption)|assumption)
     obtain⟨ad346,e346,hx346_0⟩:=Kd.at_int HR1.out x6_2 p346 q346
     obtain rfl:ad344 = ad346:=(by injection e346)
     replace p346:=eq_true p346
     replace q346:=eq_true q346
     go_wp2
     repeat (go_quiet (fail);try go_wp2)
     go_roundg k2
     case measure=>have:=HJ2.out;have:=HK2.out;omega
     case rel=>exact⟨(wrap64 (x5_2 + (wrap64 ((rd l0 x6_2) * (rd l1 x6_2))))),(wrap64 (x6_2 + 1)),(by first|rfl|(simp;done)|(simp [*];done)),(by first|rfl|(simp;done)|(simp [*];done)),H',⟨by have:=HJ2.out;have:=HK2.out;omega⟩,by repeat (first|exact Drawn0.refl _|apply Drawn0.step)⟩
/-! ### laws_lastUsed: function 26 -/
def laws_lastUsed.l0 : Nat → List Int → Int → Int → Option (Int)
 | 0, _, _, _ => none
 | k + 1, x0, x3, x4 => if x4 < (x0.length : Int) then (if 0 ≤ x4 then (if (rd x0 x4) > 0 then (laws_lastUsed.l0 k x0 x4 (wrap64 (x4 + 1))) else (laws_lastUsed.l0 k x0 x3 (wrap64 (x4 + 1)))) else (none)) else (some x3)
def laws_lastUsed.f (k : Nat) (l0 : List Int) : Option (Int) := laws_lastUsed.l0 k l0 (-1) 0
theorem laws_lastUsed.mono_l : ∀ k, (∀ y0 y1 y2, LeO (laws_lastUsed.l0 k y0 y1 y2) (laws_lastUsed.l0 (k + 1) y0 y1 y2))
 | 0 => fun _ _ _ r h => by simp [laws_lastUsed.l0] at h
 | k + 1 => by
  have ih0 := laws_lastUsed.mono_l k
  ·intro y0 y1 y2
   unfold laws_lastUsed.l0
   repeat' first|(with_reducible first|exact ih0 _ _ _|exact LeO.refl _|exact LeO.none _|refine LeO.ite ?_ ?_|refine LeO.bind ?_ (fun _ => ?_))|exact LeO.none _|refine LeO.ite ?_ ?_|refine LeO.bind ?_ (fun _ => ?_)
theorem laws_lastUsed.mono : ∀ a0 k, LeO (laws_lastUsed.f k a0) (laws_lastUsed.f (k + 1) a0) := by
 intro a0 k
 have ih0 := laws_lastUsed.mono_l k
 unfold laws_lastUsed.f
 repeat' first|(with_reducible first|exact ih0 _ _ _|exact LeO.refl _|exact LeO.none _|refine LeO.ite ?_ ?_|refine LeO.bind ?_ (fun _ => ?_))|exact LeO.none _|refine LeO.ite ?_ ?_|refine LeO.bind ?_ (fun _ => ?_)
set_option maxHeartbeats 8000000 in
set_option maxRecDepth 100000 in
theorem laws_lastUsed.calls (k : Nat) (A0 : Option Addr) (c0 : Nat) (l0 : List Int) (r : Int) (w : World) (hr0 : Kd.C (Kd.int .i64) w A0 l0.length l0) (hc0 : l0.length ≤ c0) (h : laws_lastUsed.f k l0 = some r) :
  Calls Try.prog 26 #[.slice A0 l0.length c0] w fun e w' => e = .returned (.int .i64 r) ∧ Drawn0 w w' := by
 have HR0:=mk0 hr0
 have HC0:=mk0 hc0
 clear hr0 hc0
 have H:(laws_lastUsed.l0 k l0 (-1) 0) = some r:=h
 clear h
 have H':=mk0 H
 clear H
 go_enter Try.func26,Try.ntmps26
 go_wp2
 go_loopg [3,4] k (fun kq v3 v4 w'=>∃ (x3_1:Int) (x4_1:Int),v3 = .int .i64 x3_1 ∧ v4 = .int .i64 x4_1 ∧ Aside0 (laws_lastUsed.l0 kq l0 x3_1 x4_1 = some r) ∧ Aside0 (kq ≤ k) ∧ Drawn0 w w')
 case atStart=>exact⟨((-1)),(0),(by first|rfl|(simp;done)|(simp [*];done)),(by first|rfl|(simp;done)|(simp [*];done)),H',⟨Nat.le_refl _⟩,by repeat (first|exact Drawn0.refl _|apply Drawn0.step)⟩
 case round =>
  clear H'
  obtain⟨x3_1,x4_1,rfl,rfl,HA,HK1,⟨m1,rfl⟩⟩:=hrel
  cases gk with
  | zero=>exact absurd HA.out (by simp [laws_lastUsed.l0])
  | succ k1 =>
   have H:=HA.out
   clear HA
   simp only [laws_lastUsed.l0] at H
   by_cases c2:x4_1 < (l0.length:Int)
   ·rw [if_pos c2] at H
    have c2b0:decide (x4_1 < (l0.length:Int)) = true:=decide_eq_true c2
    clear c2
    by_cases c3:0 ≤ x4_1
    ·rw [if_pos c3] at H
     have c3b0:decide (0 ≤ x4_1) = true:=decide_eq_true c3
     clear c3
     by_cases c4:(rd l0 x4_1) > 0
     ·rw [if_pos c4] at H
      have c4b0:decide (0 < (rd l0 x4_1)) = true:=decide_eq_true c4
      clear c4
      have H':=mk0 H
      clear H
      have p349:0 ≤ (x4_1:Int):=of_decide_eq_true (by first|(with_reducible assumption)|assumption)
      have q349:x4_1 < (l0.length:Int):=of_decide_eq_true (by first|(with_reducible assumption)|assumption)
      obtain⟨ad349,e349,hx349_0⟩:=Kd.at_int HR0.out x4_1 p349 q349
      cases e349
      replace p349:=eq_true p349
      replace q349:=eq_true q349
      go_wp2
      go_roundg k1
      case measure=>have:=HK1.out;omega
      case rel=>exact⟨(x4_1),(wrap64 (x4_1 + 1)),(by first|rfl|(simp;done)|(simp [*];done)),(by first|rfl|(simp;done)|(simp [*];done)),H',⟨by have:=HK1.out;omega⟩,by repeat (first|exact Drawn0.refl _|apply Drawn0.step)⟩
     ·rw [if_neg c4] at H
      have c4b0:decide (0 < (rd l0 x4_1)) = false:=decide_eq_false c4
      clear c4
      have H':=mk0 H
      clear H
      have p349:0 ≤ (x4_1:Int):=of_decide_eq_true (by first|(with_reducible assumption)|assumption)
      have q349:x4_1 < (l0.length:Int):=of_decide_eq_true (by first|(with_reducible assumption)|assumption)
      obtain⟨ad349,e349,hx349_0⟩:=Kd.at_int HR0.out x4_1 p349 q349
      cases e349
      replace p349:=eq_true p349
      replace q349:=eq_true q349
      go_wp2
      go_roundg k1
      case measure=>have:=HK1.out;omega
      case rel=>exact⟨(x3_1),(wrap64 (x4_1 + 1)),(by first|rfl|(simp;done)|(simp [*];done)),(by first|rfl|(simp;done)|(simp [*];done)),H',⟨by have:=HK1.out;omega⟩,by repeat (first|exact Drawn0.refl _|apply Drawn0.step)⟩
    ·rw [if_neg c3] at H
     exact absurd H (by simp)
   ·rw [if_neg c2] at H
    have c2b0:decide (x4_1 < (l0.length:Int)) = false:=decide_eq_false c2
    clear c2
    obtain rfl:=Option.some.inj H
    go_wp2
    go_ret
    exact⟨by first|rfl|(simp;done)|(simp [*];done),by repeat (first|exact Drawn0.refl _|apply Drawn0.step)⟩

end Go.Proofs.Ytgjmmegmkdklbaa.QFnHuffBest
