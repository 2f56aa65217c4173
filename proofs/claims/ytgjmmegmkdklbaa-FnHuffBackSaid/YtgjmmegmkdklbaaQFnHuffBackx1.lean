-- A walk, made by walk.py, a program of this session's.
import Derived.Test.YtgjmmegmkdklbaaQFnHuffBackx0
namespace Go.Proofs.Ytgjmmegmkdklbaa.QFnHuffBack
open Go.RowKit Go.Proofs.YtgjmmegmkdklbaaW.PrintWords Go.Proofs.YtgjmmegmkdklbaaW.PrintLast Go.Proofs.YtgjmmegmkdklbaaW.PrintMore
attribute [local go_sem] max2_int min2_int max_two min_two max_three min_three max_four min_four   -- for this text's walks alone
set_option linter.unusedVariables false
set_option linter.unusedSimpArgs false

/-! ### laws_big: function 8 -/
def laws_big.f (l0 : List Int) : Option (Bool) := some (decide ((l0.length : Int) > 1048576))
set_option maxHeartbeats 8000000 in
set_option maxRecDepth 100000 in
theorem laws_big.calls (A0 : Option Addr) (c0 : Nat) (l0 : List Int) (r : Bool) (w : World) (hr0 : Kd.C (Kd.int .u8) w A0 l0.length l0) (hc0 : l0.length ≤ c0) (h : laws_big.f l0 = some r) :
  Calls Try.prog 8 #[.slice A0 l0.length c0] w fun e w' => e = .returned (.bool r) ∧ Drawn0 w w' := by
 have HR0:=mk0 hr0
 have HC0:=mk0 hc0
 clear hr0 hc0
 have H:(some (decide ((l0.length:Int) > 1048576))) = some r:=h
 clear h
 obtain rfl:=Option.some.inj H
 go_enter Try.func8,Try.ntmps8
 go_wp2
 go_ret
 exact⟨by first|rfl|(simp;done)|(simp [*];done),by repeat (first|exact Drawn0.refl _|apply Drawn0.step)⟩

/-! ### spec_l02Pow: function 37 -/
def spec_l02Pow.l0 : Nat → Int → Int → Option (Int)
 | 0, _, _ => none
 | k + 1, x0, x3 => if x0 > 0 then (spec_l02Pow.l0 k (wrap64 (x0 - 1)) (wrap64 (2 * x3))) else (some x3)
def spec_l02Pow.f (k : Nat) (a0 : Int) : Option (Int) := spec_l02Pow.l0 k a0 1
theorem spec_l02Pow.mono_l : ∀ k, (∀ y0 y1, LeO (spec_l02Pow.l0 k y0 y1) (spec_l02Pow.l0 (k + 1) y0 y1))
 | 0 => fun _ _ r h => by simp [spec_l02Pow.l0] at h
 | k + 1 => by
  have ih0 := spec_l02Pow.mono_l k
  ·intro y0 y1
   unfold spec_l02Pow.l0
   repeat' first|(with_reducible first|exact ih0 _ _|exact LeO.refl _|exact LeO.none _|refine LeO.ite ?_ ?_|refine LeO.bind ?_ (fun _ => ?_))|exact LeO.none _|refine LeO.ite ?_ ?_|refine LeO.bind ?_ (fun _ => ?_)
theorem spec_l02Pow.mono : ∀ a0 k, LeO (spec_l02Pow.f k a0) (spec_l02Pow.f (k + 1) a0) := by
 intro a0 k
 have ih0 := spec_l02Pow.mono_l k
 unfold spec_l02Pow.f
 repeat' first|(with_reducible first|exact ih0 _ _|exact LeO.refl _|exact LeO.none _|refine LeO.ite ?_ ?_|refine LeO.bind ?_ (fun _ => ?_))|exact LeO.none _|refine LeO.ite ?_ ?_|refine LeO.bind ?_ (fun _ => ?_)
set_option maxHeartbeats 8000000 in
set_option maxRecDepth 100000 in
theorem spec_l02Pow.calls (k : Nat) (a0 : Int) (r : Int) (w : World) (h : spec_l02Pow.f k a0 = some r) :
  Calls Try.prog 37 #[.int .i64 a0] w fun e w' => e = .returned (.int .i64 r) ∧ Drawn0 w w' := by
 have H:(spec_l02Pow.l0 k a0 1) = some r:=h
 clear h
 have H':=mk0 H
 clear H
 go_enter Try.func37,Try.ntmps37
 go_wp2
 go_loopg [0,3] k (fun kq v0 v3 w'=>∃ (x0_1:Int) (x3_1:Int),v0 = .int .i64 x0_1 ∧ v3 = .int .i64 x3_1 ∧ Aside0 (spec_l02Pow.l0 kq x0_1 x3_1 = some r) ∧ Aside0 (kq ≤ k) ∧ Drawn0 w w')
 case atStart=>exact⟨(a0),(1),(by first|rfl|(simp;done)|(simp [*];done)),(by first|rfl|(simp;done)|(simp [*];done)),H',⟨Nat.le_refl _⟩,by repeat (first|exact Drawn0.refl _|apply Drawn0.step)⟩
 case round =>
  clear H'
  obtain⟨x0_1,x3_1,rfl,rfl,HA,HK1,⟨m1,rfl⟩⟩:=hrel
  cases gk with
  | zero=>exact absurd HA.out (by simp [spec_l02Pow.l0])
  | succ k1 =>
   have H:=HA.out
   clear HA
   simp only [spec_l02Pow.l0] at H
   by_cases c2:x0_1 > 0
   ·rw [if_pos c2] at H
    have c2b0:decide (0 < x0_1) = true:=decide_eq_true c2
    clear c2
    have H':=mk0 H
    clear H
    go_wp2
    go_roundg k1
    case measure=>have:=HK1.out;omega
    case rel=>exact⟨(wrap64 (x0_1 - 1)),(wrap64 (2 * x3_1)),(by first|rfl|(simp;done)|(simp [*];done)),(by first|rfl|(simp;done)|(simp [*];done)),H',⟨by have:=HK1.out;omega⟩,by repeat (first|exact Drawn0.refl _|apply Drawn0.step)⟩
   ·rw [if_neg c2] at H
    have c2b0:decide (0 < x0_1) = false:=decide_eq_false c2
    clear c2
    obtain rfl:=Option.some.inj H
    go_wp2
    go_ret
    exact⟨by first|rfl|(simp;done)|(simp [*];done),by repeat (first|exact Drawn0.refl _|apply Drawn0.step)⟩

/-! ### spec_HuffOk: function 11 -/
mutual
def spec_HuffOk.l0 : Nat → List Int → Int → Int → Int → Int → Option (Bool)
 | 0, _, _, _, _, _ => none
 | k + 1, x0, x3, x4, x5, x6 => if x6 < (x0.length : Int) then (if 0 ≤ x6 then (if (rd x0 x6) < 0 then (spec_HuffOk.j1 k x0 x3 x4 x5 x6 true) else (spec_HuffOk.j1 k x0 x3 x4 x5 x6 (decide ((rd x0 x6) > 60)))) else (none)) else (if x3 = 1 then (if x5 = 1 then (some true) else ((spec_l02Pow.f k 60).bind fun t108 => (some (x4 == t108)))) else ((spec_l02Pow.f k 60).bind fun t109 => (some (x4 == t109))))
def spec_HuffOk.j1 : Nat → List Int → Int → Int → Int → Int → Bool → Option (Bool)
 | 0, _, _, _, _, _, _ => none
 | k + 1, x0, x3, x4, x5, x6, x27 => if x27 = true then (some false) else (if 0 ≤ x6 then (if x6 < (x0.length : Int) then (if (rd x0 x6) > 0 then ((spec_l02Pow.f k (wrap64 (60 - (rd x0 x6)))).bind fun t106 => ((spec_l02Pow.f k 60).bind fun t107 => (if (wrap64 (x4 + t106)) > t107 then (some false) else (spec_HuffOk.l0 k x0 (wrap64 (x3 + 1)) (wrap64 (x4 + t106)) (rd x0 x6) (wrap64 (x6 + 1)))))) else (spec_HuffOk.l0 k x0 x3 x4 x5 (wrap64 (x6 + 1)))) else (none)) else (none))
end
def spec_HuffOk.f (k : Nat) (l0 : List Int) : Option (Bool) := if (l0.length : Int) > 300 then (some false) else (spec_HuffOk.l0 k l0 0 0 0 0)
theorem spec_HuffOk.mono_l : ∀ k, (∀ y0 y1 y2 y3 y4, LeO (spec_HuffOk.l0 k y0 y1 y2 y3 y4) (spec_HuffOk.l0 (k + 1) y0 y1 y2 y3 y4)) ∧ (∀ y0 y1 y2 y3 y4 y5, LeO (spec_HuffOk.j1 k y0 y1 y2 y3 y4 y5) (spec_HuffOk.j1 (k + 1) y0 y1 y2 y3 y4 y5))
 | 0 => ⟨fun _ _ _ _ _ r h => by simp [spec_HuffOk.l0] at h, fun _ _ _ _ _ _ r h => by simp [spec_HuffOk.j1] at h⟩
 | k + 1 => by
  obtain ⟨ih0, ih1⟩ := spec_HuffOk.mono_l k
  refine ⟨?_, ?_⟩
  ·intro y0 y1 y2 y3 y4
   unfold spec_HuffOk.l0
   repeat' first|(with_reducible first|exact ih0 _ _ _ _ _|exact ih1 _ _ _ _ _ _|exact spec_l02Pow.mono _ _|exact LeO.refl _|exact LeO.none _|refine LeO.ite ?_ ?_|refine LeO.bind ?_ (fun _ => ?_))|exact LeO.none _|refine LeO.ite ?_ ?_|refine LeO.bind ?_ (fun _ => ?_)
  ·intro y0 y1 y2 y3 y4 y5
   unfold spec_HuffOk.j1
   repeat' first|(with_reducible first|exact ih0 _ _ _ _ _|exact ih1 _ _ _ _ _ _|exact spec_l02Pow.mono _ _|exact LeO.refl _|exact LeO.none _|refine LeO.ite ?_ ?_|refine LeO.bind ?_ (fun _ => ?_))|exact LeO.none _|refine LeO.ite ?_ ?_|refine LeO.bind ?_ (fun _ => ?_)
theorem spec_HuffOk.mono : ∀ a0 k, LeO (spec_HuffOk.f k a0) (spec_HuffOk.f (k + 1) a0) := by
 intro a0 k
 obtain ⟨ih0, ih1⟩ := spec_HuffOk.mono_l k
 unfold spec_HuffOk.f
 repeat' first|(with_reducible first|exact ih0 _ _ _ _ _|exact ih1 _ _ _ _ _ _|exact spec_l02Pow.mono _ _|exact LeO.refl _|exact LeO.none _|refine LeO.ite ?_ ?_|refine LeO.bind ?_ (fun _ => ?_))|exact LeO.none _|refine LeO.ite ?_ ?_|refine LeO.bind ?_ (fun _ => ?_)
set_option maxHeartbeats 8000000 in
set_option maxRecDepth 100000 in
theorem spec_HuffOk.calls (k : Nat) (A0 : Option Addr) (c0 : Nat) (l0 : List Int) (r : Bool) (w : World) (hr0 : Kd.C (Kd.int .i64) w A0 l0.length l0) (hc0 : l0.length ≤ c0) (h : spec_HuffOk.f k l0 = some r) :
  Calls Try.prog 11 #[.slice A0 l0.length c0] w fun e w' => e = .returned (.bool r) ∧ Drawn0 w w' := by
 have HR0:=mk0 hr0
 have HC0:=mk0 hc0
 clear hr0 hc0
 have H:(if (l0.length:Int) > 300 then (some false) else (spec_HuffOk.l0 k l0 0 0 0 0)) = some r:=h
 clear h
 by_cases c2:(l0.length:Int) > 300
 ·rw [if_pos c2] at H
  have c2b0:decide (300 < (l0.length:Int)) = true:=decide_eq_true c2
  have c2b1:decide (300 < l0.length) = true:=decide_eq_true (by omega)
  clear c2
  obtain rfl:=Option.some.inj H
  go_enter Try.func11,Try.ntmps11
  go_wp2
  go_ret
  exact⟨by first|rfl|(simp;done)|(simp [*];done),by repeat (first|exact Drawn0.refl _|apply Drawn0.step)⟩
 rw [if_neg c2] at H
 have c2b0:decide (300 < (l0.length:Int)) = false:=decide_eq_false c2
 have c2b1:decide (300 < l0.length) = false:=decide_eq_false (by omega)
 clear c2
 have H':=mk0 H
 clear H
 go_enter Try.func11,Try.ntmps11
 go_wp2
 go_loopg [3,4,5,6] k (fun kq v3 v4 v5 v6 w'=>∃ (x3_1:Int) (x4_1:Int) (x5_1:Int) (x6_1:Int),v3 = .int .i64 x3_1 ∧ v4 = .int .i64 x4_1 ∧ v5 = .int .i64 x5_1 ∧ v6 = .int .i64 x6_1 ∧ Aside0 (spec_HuffOk.l0 kq l0 x3_1 x4_1 x5_1 x6_1 = some r) ∧ Aside0 (kq ≤ k) ∧ Drawn0 w w')
 case atStart=>exact⟨(0),(0),(0),(0),(by first|rfl|(simp;done)|(simp [*];done)),(by first|rfl|(simp;done)|(simp [*];done)),(by first|rfl|(simp;done)|(simp [*];done)),(by first|rfl|(simp;done)|(simp [*];done)),H',⟨Nat.le_refl _⟩,by repeat (first|exact Drawn0.refl _|apply Drawn0.step)⟩
 case round =>
  clear H'
  try clear c1
  try clear c2
  try clear c2b0
  try clear c2b1
  try clear p2
  obtain⟨x3_1,x4_1,x5_1,x6_1,rfl,rfl,rfl,rfl,HA,HK1,⟨m1,rfl⟩⟩:=hrel
  cases gk with
  | zero=>exact absurd HA.out (by simp [spec_HuffOk.l0])
  | succ k1 =>
   have H:=HA.out
   clear HA
   simp only [spec_HuffOk.l0] at H
   by_cases c3:x6_1 < (l0.length:Int)
   rotate_left
   ·rw [if_neg c3] at H
    have c3b0:decide (x6_1 < (l0.length:Int)) = false:=decide_eq_false c3
    clear c3
    by_cases c14:x3_1 = 1
    rotate_left
    ·rw [if_neg c14] at H
     have c14b0:(x3_1 == 1) = false:=beq_eq_false_iff_ne.mpr c14
     have c14b1:(x3_1 != 1) = true:=bne_iff_ne.mpr c14
     replace H:=Option.bind_eq_some_iff.mp H
     obtain⟨t109,A170,H⟩:=H
     replace H:(some (x4_1 == t109)) = some r:=H
     have A17:=mk0 A170
     clear A170
     obtain rfl:=Option.some.inj H
     go_wp2_with (first|(go_at_call 37;(with_reducible refine (spec_l02Pow.calls k1 60 t109 _ A17.out).mono ?_);rintro e w' ⟨rfl,⟨nd,rfl⟩⟩))
     go_ret
     exact⟨by first|rfl|(simp;done)|(simp [*];done),by repeat (first|exact Drawn0.refl _|apply Drawn0.step)⟩

    rw [if_pos c14] at H
    have c14b0:(x3_1 == 1) = true:=beq_iff_eq.mpr c14
    have c14b1:(x3_1 != 1) = false:=bne_eq_false_iff_eq.mpr c14
    clear c14
    by_cases c15:x5_1 = 1
    ·rw [if_pos c15] at H
     have c15b0:(x5_1 == 1) = true:=beq_iff_eq.mpr c15
     have c15b1:(x5_1 != 1) = false:=bne_eq_false_iff_eq.mpr c15
     clear c15
     obtain rfl:=Option.some.inj H
     go_wp2
     go_ret
     exact⟨by first|rfl|(simp;done)|(simp [*];done),by repeat (first|exact Drawn0.refl _|apply Drawn0.step)⟩
    rw [if_neg c15] at H
    have c15b0:(x5_1 == 1) = false:=beq_eq_false_iff_ne.mpr c15
    have c15b1:(x5_1 != 1) = true:=bne_iff_ne.mpr c15
    replace H:=Option.bind_eq_some_iff.mp H
    obtain⟨t108,A160,H⟩:=H
    replace H:(some (x4_1 == t108)) = some r:=H
    have A16:=mk0 A160
    clear A160
    obtain rfl:=Option.some.inj H
    go_wp2_with (first|(go_at_call 37;(with_reducible refine (spec_l02Pow.calls k1 60 t108 _ A16.out).mono ?_);rintro e w' ⟨rfl,⟨nd,rfl⟩⟩))
    go_ret
    exact⟨by first|rfl|(simp;done)|(simp [*];done),by repeat (first|exact Drawn0.refl _|apply Drawn0.step)⟩
   rw [if_pos c3] at H
   have c3b0:decide (x6_1 < (l0.length:Int)) = true:=decide_eq_true c3
   clear c3
   have HC4:=mk0 H
   clear H
   go_upto_region 9 with (fail)
   go_cut [27] (fun v27 wc=>∃ (kq:Nat) (x27_3:Bool),v27 = .bool x27_3 ∧ Aside0 (spec_HuffOk.j1 kq l0 x3_1 x4_1 x5_1 x6_1 x27_3 = some r) ∧ Aside0 (kq ≤ k1) ∧ Drawn0 w wc)
   case first =>
    have H:=HC4.out
    clear HC4
    by_cases c5:0 ≤ x6_1
    rotate_left
    ·rw [if_neg c5] at H
     exact absurd H (by simp)
    rw [if_pos c5] at H
    have c5b0:decide (0 ≤ x6_1) = true:=decide_eq_true c5
    clear c5
    (first|rw [c5b0]|(simp only [i64_w,i32_w];rw [c5b0])|skip)
    by_cases c6:(rd l0 x6_1) < 0
    ·rw [if_pos c6] at H
     have c6b0:decide ((rd l0 x6_1) < 0) = true:=decide_eq_true c6
     clear c6
     have H':=mk0 H
     clear H
     have p101:0 ≤ (x6_1:Int):=of_decide_eq_true (by first|(with_reducible assumption)|assumption)
     have q101:x6_1 < (l0.length:Int):=of_decide_eq_true (by first|(with_reducible assumption)|assumption)
     obtain⟨ad101,e101,hx101_0⟩:=Kd.at_int HR0.out x6_1 p101 q101
     cases e101
     replace p101:=eq_true p101
     replace q101:=eq_true q101
     go_wp2
     go_meet
     case rel=>exact⟨_,(true),(by first|rfl|(simp;done)|(simp [*];done)),H',⟨by have:=HK1.out;first|omega|exact Nat.le_refl _⟩,by repeat (first|exact Drawn0.refl _|apply Drawn0.step)⟩
    rw [if_neg c6] at H
    have c6b0:decide ((rd l0 x6_1) < 0) = false:=decide_eq_false c6
    clear c6
    have H':=mk0 H
    clear H
    have p101:0 ≤ (x6_1:Int):=of_decide_eq_true (by first|(with_reducible assumption)|assumption)
    have q101:x6_1 < (l0.length:Int):=of_decide_eq_true (by first|(with_reducible assumption)|assumption)
    obtain⟨ad101,e101,hx101_0⟩:=Kd.at_int HR0.out x6_1 p101 q101
    cases e101
    replace p101:=eq_true p101
    replace q101:=eq_true q101
    have p102:0 ≤ (x6_1:Int):=of_decide_eq_true (by first|(with_reducible assumption)|assumption)
    have q102:x6_1 < (l0.length:Int):=of_decide_eq_true (by first|(with_reducible assumption)|assumption)
    obtain⟨ad102,e102,hx102_0⟩:=Kd.at_int HR0.out x6_1 p102 q102
    obtain rfl:ad101 = ad102:=(by injection e102)
    replace p102:=eq_true p102
    replace q102:=eq_true q102
    go_wp2
    go_meet
    case rel=>exact⟨_,(decide ((rd l0 x6_1) > 60)),(by first|rfl|(simp;done)|(simp [*];done)),H',⟨by have:=HK1.out;first|omega|exact Nat.le_refl _⟩,by repeat (first|exact Drawn0.refl _|apply Drawn0.step)⟩
   case rest =>
    clear HC4
    try clear c1
    try clear p1
    try clear q1
    try clear hx1
    try clear c2
    try clear c2b0
    try clear c2b1
    try clear p2
    try clear c3
    try clear c3b0
    try clear c5
    try clear c5b0
    try clear c6
    try clear c6b0
    try clear hx101_0
    try clear hx102_0
    try clear p101
    try clear p102
    try clear p2
    try clear q101
    try clear q102
    obtain⟨kq,x27_3,rfl,HA,HJ3,⟨mc3,rfl⟩⟩:=hcut
    cases kq with
    | zero=>exact absurd HA.out (by simp [spec_HuffOk.j1])
    | succ kj3 =>
     have H:=HA.out
     clear HA
     simp only [spec_HuffOk.j1] at H
     by_cases c7:x27_3 = true
     ·subst c7
      have H1:(some false) = some r:=by rw [if_pos rfl] at H;exact H
      clear H
      have H:=H1
      clear H1
      obtain rfl:=Option.some.inj H
      go_wp2
      go_ret
      exact⟨by first|rfl|(simp;done)|(simp [*];done),by repeat (first|exact Drawn0.refl _|apply Drawn0.step)⟩
     replace c7:=Bool.eq_false_iff.mpr c7
     subst c7
     have H1:(if 0 ≤ x6_1 then (if x6_1 < (l0.length:Int) then (if (rd l0 x6_1) > 0 then ((spec_l02Pow.f kj3 (wrap64 (60 - (rd l0 x6_1)))).bind fun t106=>((spec_l02Pow.f kj3 60).bind fun t107=>(if (wrap64 (x4_1 + t106)) > t107 then (some false) else (spec_HuffOk.l0 kj3 l0 (wrap64 (x3_1 + 1)) (wrap64 (x4_1 + t106)) (rd l0 x6_1) (wrap64 (x6_1 + 1)))))) else (spec_HuffOk.l0 kj3 l0 x3_1 x4_1 x5_1 (wrap64 (x6_1 + 1)))) else (none)) else (none)) = some r:=by rw [if_neg (show ¬ (false = true) by decide)] at H;exact H
     clear H
     have H:=H1
     clear H1
     by_cases c8:0 ≤ x6_1
     rotate_left
     ·rw [if_neg c8] at H
      exact absurd H (by simp)
     rw [if_pos c8] at H
     have c8b0:decide (0 ≤ x6_1) = true:=decide_eq_true c8
     clear c8
     by_cases c9:x6_1 < (l0.length:Int)
     rotate_left
     ·rw [if_neg c9] at H
      exact absurd H (by simp)
     rw [if_pos c9] at H
     have c9b0:decide (x6_1 < (l0.length:Int)) = true:=decide_eq_true c9
     clear c9
     by_cases c10:(rd l0 x6_1) > 0
     rotate_left
     ·rw [if_neg c10] at H
      have c10b0:decide (0 < (rd l0 x6_1)) = false:=decide_eq_false c10
      clear c10
      have H':=mk0 H
      clear H
      have p103:0 ≤ (x6_1:Int):=of_decide_eq_true (by first|(with_reducible assumption)|assumption)
      have q103:x6_1 < (l0.length:Int):=of_decide_eq_true (by first|(with_reducible assumption)|assumption)
      obtain⟨ad103,e103,hx103_0⟩:=Kd.at_int HR0.out x6_1 p103 q103
      cases e103
      replace p103:=eq_true p103
      replace q103:=eq_true q103
      go_wp2
      go_roundg kj3
      case measure=>have:=HK1.out;have:=HJ3.out;omega
      case rel=>exact⟨(x3_1),(x4_1),(x5_1),(wrap64 (x6_1 + 1)),(by first|rfl|(simp;done)|(simp [*];done)),(by first|rfl|(simp;done)|(simp [*];done)),(by first|rfl|(simp;done)|(simp [*];done)),(by first|rfl|(simp;done)|(simp [*];done)),H',⟨by have:=HK1.out;have:=HJ3.out;omega⟩,by repeat (first|exact Drawn0.refl _|apply Drawn0.step)⟩
     rw [if_pos c10] at H
     have c10b0:decide (0 < (rd l0 x6_1)) = true:=decide_eq_true c10
     clear c10
     replace H:=Option.bind_eq_some_iff.mp H
     obtain⟨t106,A110,H⟩:=H
     replace H:((spec_l02Pow.f kj3 60).bind fun t107=>(if (wrap64 (x4_1 + t106)) > t107 then (some false) else (spec_HuffOk.l0 kj3 l0 (wrap64 (x3_1 + 1)) (wrap64 (x4_1 + t106)) (rd l0 x6_1) (wrap64 (x6_1 + 1))))) = some r:=H
     have A11:=mk0 A110
     clear A110
     replace H:=Option.bind_eq_some_iff.mp H
     obtain⟨t107,A120,H⟩:=H
     replace H:(if (wrap64 (x4_1 + t106)) > t107 then (some false) else (spec_HuffOk.l0 kj3 l0 (wrap64 (x3_1 + 1)) (wrap64 (x4_1 + t106)) (rd l0 x6_1) (wrap64 (x6_1 + 1)))) = some r:=H
     have A12:=mk0 A120
     clear A120
     by_cases c13:(wrap64 (x4_1 + t106)) > t107
     ·rw [if_pos c13] at H
      have c13b0:decide (t107 < (wrap64 (x4_1 + t106))) = true:=decide_eq_true c13
      clear c13
      obtain rfl:=Option.some.inj H
      have p103:0 ≤ (x6_1:Int):=of_decide_eq_true (by first|(with_reducible assumption)|assumption)
      have q103:x6_1 < (l0.length:Int):=of_decide_eq_true (by first|(with_reducible assumption)|assumption)
      obtain⟨ad103,e103,hx103_0⟩:=Kd.at_int HR0.out x6_1 p103 q103
      cases e103
      replace p103:=eq_true p103
      replace q103:=eq_true q103
      have p104:0 ≤ (x6_1:Int):=of_decide_eq_true (by first|(with_reducible assumption)|assumption)
      have q104:x6_1 < (l0.length:Int):=of_decide_eq_true (by first|(with_reducible assumption)|assumption)
      obtain⟨ad104,e104,hx104_0⟩:=Kd.at_int HR0.out x6_1 p104 q104
      obtain rfl:ad103 = ad104:=(by injection e104)
      replace p104:=eq_true p104
      replace q104:=eq_true q104
      have p105:0 ≤ (x6_1:Int):=of_decide_eq_true (by first|(with_reducible assumption)|assumption)
      have q105:x6_1 < (l0.length:Int):=of_decide_eq_true (by first|(with_reducible assumption)|assumption)
      obtain⟨ad105,e105,hx105_0⟩:=Kd.at_int HR0.out x6_1 p105 q105
      obtain rfl:ad103 = ad105:=(by injection e105)
      replace p105:=eq_true p105
      replace q105:=eq_true q105
      go_wp2_with (first|((with_reducible refine gate_callee (f:=37) rfl ?_);refine goesL_ (some 45) rfl rfl Try.func37 (by kernel_rfl) rfl #[.int .i64 (wrap64 (60 - (rd l0 x6_1)))] rfl (by (try simp only [mA,mC,mN]);first|done|rfl|(simp only [List.length_drop,List.length_take];done)|(simp only [List.length_drop,List.length_take];rfl)) ?_;(with_reducible refine (spec_l02Pow.calls kj3 (wrap64 (60 - (rd l0 x6_1))) t106 _ A11.out).mono ?_);rintro e w' ⟨rfl,⟨nd,rfl⟩⟩;refine⟨_,rfl,?_⟩)|((with_reducible refine gate_callee (f:=37) rfl ?_);refine goesL_ (some 48) rfl rfl Try.func37 (by kernel_rfl) rfl #[.int .i64 60] rfl (by (try simp only [mA,mC,mN]);first|done|rfl|(simp only [List.length_drop,List.length_take];done)|(simp only [List.length_drop,List.length_take];rfl)) ?_;(with_reducible refine (spec_l02Pow.calls kj3 60 t107 _ A12.out).mono ?_);rintro e w' ⟨rfl,⟨nd,rfl⟩⟩;refine⟨_,rfl,?_⟩))
      go_ret
      exact⟨by first|rfl|(simp;done)|(simp [*];done),by repeat (first|exact Drawn0.refl _|apply Drawn0.step)⟩
     rw [if_neg c13] at H
     have c13b0:decide (t107 < (wrap64 (x4_1 + t106))) = false:=decide_eq_false c13
     clear c13
     have H':=mk0 H
     clear H
     have p103:0 ≤ (x6_1:Int):=of_decide_eq_true (by first|(with_reducible assumption)|assumption)
     have q103:x6_1 < (l0.length:Int):=of_decide_eq_true (by first|(with_reducible assumption)|assumption)
     obtain⟨ad103,e103,hx103_0⟩:=Kd.at_int HR0.out x6_1 p103 q103
     cases e103
     replace p103:=eq_true p103
     replace q103:=eq_true q103
     have p104:0 ≤ (x6_1:Int):=of_decide_eq_true (by first|(with_reducible assumption)|assumption)
     have q104:x6_1 < (l0.length:Int):=of_decide_eq_true (by first|(with_reducible assumption)|assumption)
     obtain⟨ad104,e104,hx104_0⟩:=Kd.at_int HR0.out x6_1 p104 q104
     obtain rfl:ad103 = ad104:=(by injection e104)
     replace p104:=eq_true p104
     replace q104:=eq_true q104
     have p105:0 ≤ (x6_1:Int):=of_decide_eq_true (by first|(with_reducible assumption)|assumption)
     have q105:x6_1 < (l0.length:Int):=of_decide_eq_true (by first|(with_reducible assumption)|assumption)
     obtain⟨ad105,e105,hx105_0⟩:=Kd.at_int HR0.out x6_1 p105 q105
     obtain rfl:ad103 = ad105:=(by injection e105)
     replace p105:=eq_true p105
     replace q105:=eq_true q105
     go_wp2_with (first|((with_reducible refine gate_callee (f:=37) rfl ?_);refine goesL_ (some 45) rfl rfl Try.func37 (by kernel_rfl) rfl #[.int .i64 (wrap64 (60 - (rd l0 x6_1)))] rfl (by (try simp only [mA,mC,mN]);first|done|rfl|(simp only [List.length_drop,List.length_take];done)|(simp only [List.length_drop,List.length_take];rfl)) ?_;(with_reducible refine (spec_l02Pow.calls kj3 (wrap64 (60 - (rd l0 x6_1))) t106 _ A11.out).mono ?_);rintro e w' ⟨rfl,⟨nd,rfl⟩⟩;refine⟨_,rfl,?_⟩)|((with_reducible refine gate_callee (f:=37) rfl ?_);refine goesL_ (some 48) rfl rfl Try.func37 (by kernel_rfl) rfl #[.int .i64 60] rfl (by (try simp only [mA,mC,mN]);first|done|rfl|(simp only [List.length_drop,List.length_take];done)|(simp only [List.length_drop,List.length_take];rfl)) ?_;(with_reducible refine (spec_l02Pow.calls kj3 60 t107 _ A12.out).mono ?_);rintro e w' ⟨rfl,⟨nd,rfl⟩⟩;refine⟨_,rfl,?_⟩))
     go_roundg kj3
     case measure=>have:=HK1.out;have:=HJ3.out;omega
     case rel=>exact⟨(wrap64 (x3_1 + 1)),(wrap64 (x4_1 + t106)),(rd l0 x6_1),(wrap64 (x6_1 + 1)),(by first|rfl|(simp;done)|(simp [*];done)),(by first|rfl|(simp;done)|(simp [*];done)),(by first|rfl|(simp;done)|(simp [*];done)),(by first|rfl|(simp;done)|(simp [*];done)),H',⟨by have:=HK1.out;have:=HJ3.out;omega⟩,by repeat (first|exact Drawn0.refl _|apply Drawn0.step)⟩
/-! ### spec_HuffCodes: function 38 -/
mutual
def spec_HuffCodes.l0 : Nat → List Int → Int → Int → Int → List Int → Option (List Int)
 | 0, _, _, _, _, _ => none
 | k + 1, x0, x4, x5, x6, x13 => if x6 ≤ 60 then (spec_HuffCodes.l1 k x0 x4 x5 x6 0 x13) else (some x13)
def spec_HuffCodes.l1 : Nat → List Int → Int → Int → Int → Int → List Int → Option (List Int)
 | 0, _, _, _, _, _, _ => none
 | k + 1, x0, x4, x5, x6, x7, x13 => if x7 < (x0.length : Int) then (if 0 ≤ x7 then (if (rd x0 x7) = x6 then (if x5 > 0 then ((spec_l02Pow.f k (wrap64 (x6 - x5))).bind fun t115 => (if x7 < (x13.length : Int) then (spec_HuffCodes.l1 k x0 (wrap64 ((wrap64 (x4 + 1)) * t115)) x6 x6 (wrap64 (x7 + 1)) (x13.set (x7 : Int).toNat (wrap64 ((wrap64 (x4 + 1)) * t115)))) else (none))) else (if x7 < (x13.length : Int) then (spec_HuffCodes.l1 k x0 x4 x6 x6 (wrap64 (x7 + 1)) (x13.set (x7 : Int).toNat x4)) else (none))) else (spec_HuffCodes.l1 k x0 x4 x5 x6 (wrap64 (x7 + 1)) x13)) else (none)) else (spec_HuffCodes.l0 k x0 x4 x5 (wrap64 (x6 + 1)) x13)
end
def spec_HuffCodes.f (k : Nat) (l0 : List Int) : Option (List Int) := (spec_HuffOk.f k l0).bind fun t110 => (if t110 = true then (if 0 ≤ (l0.length : Int) then (if ((l0.length : Int) : Int).toNat ≤ 35184372088832 then (spec_HuffCodes.l0 k l0 0 0 1 (List.replicate ((l0.length : Int) : Int).toNat 0)) else (none)) else (none)) else (some ([] : List Int)))
theorem spec_HuffCodes.mono_l : ∀ k, (∀ y0 y1 y2 y3 y4, LeO (spec_HuffCodes.l0 k y0 y1 y2 y3 y4) (spec_HuffCodes.l0 (k + 1) y0 y1 y2 y3 y4)) ∧ (∀ y0 y1 y2 y3 y4 y5, LeO (spec_HuffCodes.l1 k y0 y1 y2 y3 y4 y5) (spec_HuffCodes.l1 (k + 1) y0 y1 y2 y3 y4 y5))
 | 0 => ⟨fun _ _ _ _ _ r h => by simp [spec_HuffCodes.l0] at h, fun _ _ _ _ _ _ r h => by simp [spec_HuffCodes.l1] at h⟩
 | k + 1 => by
  obtain ⟨ih0, ih1⟩ := spec_HuffCodes.mono_l k
  refine ⟨?_, ?_⟩
  ·intro y0 y1 y2 y3 y4
   unfold spec_HuffCodes.l0
   repeat' first|(with_reducible first|exact ih0 _ _ _ _ _|exact ih1 _ _ _ _ _ _|exact spec_HuffOk.mono _ _|exact spec_l02Pow.mono _ _|exact LeO.refl _|exact LeO.none _|refine LeO.ite ?_ ?_|refine LeO.bind ?_ (fun _ => ?_))|exact LeO.none _|refine LeO.ite ?_ ?_|refine LeO.bind ?_ (fun _ => ?_)
  ·intro y0 y1 y2 y3 y4 y5
   unfold spec_HuffCodes.l1
   repeat' first|(with_reducible first|exact ih0 _ _ _ _ _|exact ih1 _ _ _ _ _ _|exact spec_HuffOk.mono _ _|exact spec_l02Pow.mono _ _|exact LeO.refl _|exact LeO.none _|refine LeO.ite ?_ ?_|refine LeO.bind ?_ (fun _ => ?_))|exact LeO.none _|refine LeO.ite ?_ ?_|refine LeO.bind ?_ (fun _ => ?_)
theorem spec_HuffCodes.mono : ∀ a0 k, LeO (spec_HuffCodes.f k a0) (spec_HuffCodes.f (k + 1) a0) := by
 intro a0 k
 obtain ⟨ih0, ih1⟩ := spec_HuffCodes.mono_l k
 unfold spec_HuffCodes.f
 repeat' first|(with_reducible first|exact ih0 _ _ _ _ _|exact ih1 _ _ _ _ _ _|exact spec_HuffOk.mono _ _|exact spec_l02Pow.mono _ _|exact LeO.refl _|exact LeO.none _|refine LeO.ite ?_ ?_|refine LeO.bind ?_ (fun _ => ?_))|exact LeO.none _|refine LeO.ite ?_ ?_|refine LeO.bind ?_ (fun _ => ?_)
set_option maxHeartbeats 8000000 in
set_option maxRecDepth 100000 in
theorem spec_HuffCodes.calls (k : Nat) (A0 : Option Addr) (c0 : Nat) (l0 : List Int) (r : List Int) (w : World) (hr0 : Kd.C (Kd.int .i64) w A0 l0.length l0) (hc0 : l0.length ≤ c0) (h : spec_HuffCodes.f k l0 = some r) :
  Calls Try.prog 38 #[.slice A0 l0.length c0] w fun e w' => ∃ v0_ : Value, e = .returned (v0_) ∧ Kd.R (Kd.int .i64) 3 w' w.heap.size (fun _ => True) v0_ r ∧ Below w.heap.size w w' := by
 have HR0:=mk0 hr0
 have HC0:=mk0 hc0
 clear hr0 hc0
 have HB:=mk0 (Below.refl w.heap.size w)
 have H:((spec_HuffOk.f k l0).bind fun t110=>(if t110 = true then (if 0 ≤ (l0.length:Int) then (if ((l0.length:Int):Int).toNat ≤ 35184372088832 then (spec_HuffCodes.l0 k l0 0 0 1 (List.replicate ((l0.length:Int):Int).toNat 0)) else (none)) else (none)) else (some ([]:List Int)))) = some r:=h
 clear h
 replace H:=Option.bind_eq_some_iff.mp H
 obtain⟨t110,A20,H⟩:=H
 replace H:(if t110 = true then (if 0 ≤ (l0.length:Int) then (if ((l0.length:Int):Int).toNat ≤ 35184372088832 then (spec_HuffCodes.l0 k l0 0 0 1 (List.replicate ((l0.length:Int):Int).toNat 0)) else (none)) else (none)) else (some ([]:List Int))) = some r:=H
 have A2:=mk0 A20
 clear A20
 by_cases c3:t110 = true
 rotate_left
 ·replace c3:=Bool.eq_false_iff.mpr c3
  subst c3
  have H1:(some ([]:List Int)) = some r:=by rw [if_neg (show ¬ (false = true) by decide)] at H;exact H
  clear H
  have H:=H1
  clear H1
  obtain rfl:=Option.some.inj H
  go_enter Try.func38,Try.ntmps38
  go_wp2_with (first|((with_reducible refine gate_callee (f:=11) rfl ?_);refine goesL_ (some 9) rfl rfl Try.func11 (by kernel_rfl) rfl #[.slice A0 l0.length c0] rfl (by (try simp only [mA,mC,mN]);first|done|rfl|(simp only [List.length_drop,List.length_take];done)|(simp only [List.length_drop,List.length_take];rfl)) ?_;(with_reducible refine (spec_HuffOk.calls k _ _ l0 false _ ?side1 ?side2 A2.out).mono ?_);(case side1=>repeat (first|exact HR0.out|(with_reducible first|apply aC|apply nC|apply dC)));(case side2=>exact HC0.out);rintro e w' ⟨rfl,⟨nd,rfl⟩⟩;refine⟨_,rfl,?_⟩))
  go_ret
  exact⟨_,by first|rfl|(simp [errW_none,errW_some] <;> rfl)|(simp [*,errW_none,errW_some] <;> rfl),by first|exact Kd.R_nil _ _ _ _ _|exact Kd.N_nil _ _ _ _ _|exact Kd.V_nil _ _ _ _ _|exact Kd.Q_nil _ _ _ _ _|exact Kd.S_nil _ _ _ _ _,kB HB.out⟩

 subst c3
 have H1:(if 0 ≤ (l0.length:Int) then (if ((l0.length:Int):Int).toNat ≤ 35184372088832 then (spec_HuffCodes.l0 k l0 0 0 1 (List.replicate ((l0.length:Int):Int).toNat 0)) else (none)) else (none)) = some r:=by rw [if_pos rfl] at H;exact H
 clear H
 have H:=H1
 clear H1
 by_cases c4:0 ≤ (l0.length:Int)
 rotate_left
 ·rw [if_neg c4] at H
  exact absurd H (by simp)
 rw [if_pos c4] at H
 have c4b0:=eq_true c4
 have c4b1:decide (0 ≤ (l0.length:Int)) = true:=decide_eq_true c4
 clear c4
 by_cases c5:((l0.length:Int):Int).toNat ≤ 35184372088832
 rotate_left
 ·rw [if_neg c5] at H
  exact absurd H (by simp)
 rw [if_pos c5] at H
 have c5b0:=eq_true c5
 have c5b1:decide (((l0.length:Int):Int).toNat ≤ 35184372088832) = true:=decide_eq_true c5
 clear c5
 obtain⟨y111,hy111⟩:∃ y_:List Int,y_ = (List.replicate ((l0.length:Int):Int).toNat 0):=⟨_,rfl⟩
 replace H:(spec_HuffCodes.l0 k l0 0 0 1 y111) = some r:=by first|(rw [hy111];with_reducible exact H)|(have H2_:=(Option.bind_some _ _).symm.trans H;rw [hy111];with_reducible exact H2_)|(have H2_:=(Option.bind_some _ _).symm.trans H;with_reducible exact H2_)|with_reducible exact H|(rw [hy111];exact H)|exact H
 have Ny111:=mk0 hy111
 clear hy111
 have H':=mk0 H
 clear H
 go_enter Try.func38,Try.ntmps38
 go_wp2_with (first|((with_reducible refine gate_callee (f:=11) rfl ?_);refine goesL_ (some 9) rfl rfl Try.func11 (by kernel_rfl) rfl #[.slice A0 l0.length c0] rfl (by (try simp only [mA,mC,mN]);first|done|rfl|(simp only [List.length_drop,List.length_take];done)|(simp only [List.length_drop,List.length_take];rfl)) ?_;(with_reducible refine (spec_HuffOk.calls k _ _ l0 true _ ?side1 ?side2 A2.out).mono ?_);(case side1=>repeat (first|exact HR0.out|(with_reducible first|apply aC|apply nC|apply dC)));(case side2=>exact HC0.out);rintro e w' ⟨rfl,⟨nd,rfl⟩⟩;refine⟨_,rfl,?_⟩)|((with_reducible refine gate_dst (N:=13) rfl ?_);refine Kd.R_make (Kd.int .i64) _ 3 rfl (N:=13) rfl 24 _ _ rfl (l0.length:Int) rfl rfl Try.underlying24 (.int .i64 0) 8 info3 rfl (by decide) (by omega) 0 (ok:=fun _=>True) (okp:=fun _=>True) rfl (fun _ hk=>hk) trivial (of_decide_eq_true (by first|(with_reducible assumption)|assumption)) (Nat.le_trans (Nat.mul_le_mul_right _ (of_decide_eq_true (by first|(with_reducible assumption)|assumption):(l0.length:Int).toNat ≤ 35184372088832)) (by omega)) (Below.refl _ _) (Nat.le_refl _) ?_;intro v112 w6 ho7 hb hg_ hnew_;clear hg_ hnew_;(first|rw [← Ny111.out] at ho7|(simp only [Int.reduceToNat] at ho7;rw [← Ny111.out] at ho7));have HO113:=mk0 (Kd.R_lower ho7 (kZ HB.out));replace HB:=mk0 (kS HB.out hb);clear hb ho7))
 go_loopg [4,5,6] k (fun kq v4 v5 v6 w'=>∃ (x4_1:Int) (x5_1:Int) (x6_1:Int) (x13_1:List Int),v4 = .int .i64 x4_1 ∧ v5 = .int .i64 x5_1 ∧ v6 = .int .i64 x6_1 ∧ Aside0 (spec_HuffCodes.l0 kq l0 x4_1 x5_1 x6_1 x13_1 = some r) ∧ Aside0 (kq ≤ k) ∧ Aside0 (Kd.R (Kd.int .i64) 3 w' w.heap.size (fun _=>True) v112 x13_1) ∧ Aside0 (Below w.heap.size w w'))
 case atStart=>exact⟨(0),(0),(1),(y111),(by first|rfl|(simp;done)|(simp [*];done)),(by first|rfl|(simp;done)|(simp [*];done)),(by first|rfl|(simp;done)|(simp [*];done)),H',⟨Nat.le_refl _⟩,⟨rR HO113.out⟩,⟨kB HB.out⟩⟩
 case round =>
  clear H'
  try clear c1
  try clear p2
  try clear c3
  try clear c4
  try clear c4b0
  try clear c4b1
  try clear c5
  try clear c5b0
  try clear c5b1
  obtain⟨x4_1,x5_1,x6_1,x13_1,rfl,rfl,rfl,HA,HK1,HO_13,HB⟩:=hrel
  cases gk with
  | zero=>exact absurd HA.out (by simp [spec_HuffCodes.l0])
  | succ k1 =>
   have H:=HA.out
   clear HA
   simp only [spec_HuffCodes.l0] at H
   by_cases c8:x6_1 ≤ 60
   rotate_left
   ·rw [if_neg c8] at H
    have c8b0:decide (x6_1 ≤ 60) = false:=decide_eq_false c8
    clear c8
    obtain rfl:=Option.some.inj H
    go_wp2
    go_ret
    exact⟨_,by first|rfl|(simp [errW_none,errW_some] <;> rfl)|(simp [*,errW_none,errW_some] <;> rfl),rR HO_13.out,kB HB.out⟩
   rw [if_pos c8] at H
   have c8b0:decide (x6_1 ≤ 60) = true:=decide_eq_true c8
   clear c8
   have H':=mk0 H
   clear H
   go_wp2
   go_loopg [4,5,7] k1 (fun kq v4 v5 v7 w'=>∃ (x4_2:Int) (x5_2:Int) (x7_2:Int) (x13_2:List Int),v4 = .int .i64 x4_2 ∧ v5 = .int .i64 x5_2 ∧ v7 = .int .i64 x7_2 ∧ Aside0 (spec_HuffCodes.l1 kq l0 x4_2 x5_2 x6_1 x7_2 x13_2 = some r) ∧ Aside0 (kq ≤ k1) ∧ Aside0 (Kd.R (Kd.int .i64) 3 w' w.heap.size (fun _=>True) v112 x13_2) ∧ Aside0 (Below w.heap.size w w'))
   case atStart=>exact⟨(x4_1),(x5_1),(0),(x13_1),(by first|rfl|(simp;done)|(simp [*];done)),(by first|rfl|(simp;done)|(simp [*];done)),(by first|rfl|(simp;done)|(simp [*];done)),H',⟨Nat.le_refl _⟩,⟨rR HO_13.out⟩,⟨kB HB.out⟩⟩
   case round =>
    clear H'
    try clear c1
    try clear p2
    try clear c3
    try clear c4
    try clear c4b0
    try clear c4b1
    try clear c5
    try clear c5b0
    try clear c5b1
    try clear c8
    try clear c8b0
    try clear p2
    obtain⟨x4_2,x5_2,x7_2,x13_2,rfl,rfl,rfl,HA,HK2,HO_13,HB⟩:=hrel
    cases gk with
    | zero=>exact absurd HA.out (by simp [spec_HuffCodes.l1])
    | succ k2 =>
     have H:=HA.out
     clear HA
     simp only [spec_HuffCodes.l1] at H
     by_cases c9:x7_2 < (l0.length:Int)
     rotate_left
     ·rw [if_neg c9] at H
      have c9b0:decide (x7_2 < (l0.length:Int)) = false:=decide_eq_false c9
      clear c9
      have H':=mk0 H
      clear H
      go_wp2
      go_roundg k2
      case measure=>have:=HK1.out;have:=HK2.out;omega
      case rel=>exact⟨(x4_2),(x5_2),(wrap64 (x6_1 + 1)),(x13_2),(by first|rfl|(simp;done)|(simp [*];done)),(by first|rfl|(simp;done)|(simp [*];done)),(by first|rfl|(simp;done)|(simp [*];done)),H',⟨by have:=HK1.out;have:=HK2.out;omega⟩,⟨rR HO_13.out⟩,⟨kB HB.out⟩⟩
     rw [if_pos c9] at H
     have c9b0:decide (x7_2 < (l0.length:Int)) = true:=decide_eq_true c9
     clear c9
     by_cases c10:0 ≤ x7_2
     rotate_left
     ·rw [if_neg c10] at H
      exact absurd H (by simp)
     rw [if_pos c10] at H
     have c10b0:decide (0 ≤ x7_2) = true:=decide_eq_true c10
     clear c10
     by_cases c11:(rd l0 x7_2) = x6_1
     rotate_left
     ·rw [if_neg c11] at H
      have c11b0:((rd l0 x7_2) == x6_1) = false:=beq_eq_false_iff_ne.mpr c11
      have c11b1:((rd l0 x7_2) != x6_1) = true:=bne_iff_ne.mpr c11
      have H':=mk0 H
      clear H
      have p114:0 ≤ (x7_2:Int):=of_decide_eq_true (by first|(with_reducible assumption)|assumption)
      have q114:x7_2 < (l0.length:Int):=of_decide_eq_true (by first|(with_reducible assumption)|assumption)
      obtain⟨ad114,e114,hx114_0⟩:=Kd.at_int HR0.out x7_2 p114 q114
      cases e114
      replace hx114_0:=(HB.out.cell (World.block_lt_of_cell? w _ hx114_0)).trans hx114_0
      replace p114:=eq_true p114
      replace q114:=eq_true q114
      go_wp2
      go_roundg k2
      case measure=>have:=HK1.out;have:=HK2.out;omega
      case rel=>exact⟨(x4_2),(x5_2),(wrap64 (x7_2 + 1)),(x13_2),(by first|rfl|(simp;done)|(simp [*];done)),(by first|rfl|(simp;done)|(simp [*];done)),(by first|rfl|(simp;done)|(simp [*];done)),H',⟨by have:=HK1.out;have:=HK2.out;omega⟩,⟨rR HO_13.out⟩,⟨kB HB.out⟩⟩
     rw [if_pos c11] at H
     have c11b0:((rd l0 x7_2) == x6_1) = true:=beq_iff_eq.mpr c11
     have c11b1:((rd l0 x7_2) != x6_1) = false:=bne_eq_false_iff_eq.mpr c11
     clear c11
     by_cases c12:x5_2 > 0
     rotate_left
     ·rw [if_neg c12] at H
      have c12b0:decide (0 < x5_2) = false:=decide_eq_false c12
      clear c12
      by_cases c18:x7_2 < (x13_2.length:Int)
      rotate_left
      ·rw [if_neg c18] at H
       exact absurd H (by simp)
      rw [if_pos c18] at H
      have c18b0:decide (x7_2 < (x13_2.length:Int)) = true:=decide_eq_true c18
      clear c18
      obtain⟨y117,hy117⟩:∃ y_:List Int,y_ = (x13_2.set (x7_2:Int).toNat x4_2):=⟨_,rfl⟩
      replace H:(spec_HuffCodes.l1 k2 l0 x4_2 x6_1 x6_1 (wrap64 (x7_2 + 1)) y117) = some r:=by first|(rw [hy117];with_reducible exact H)|(have H2_:=(Option.bind_some _ _).symm.trans H;rw [hy117];with_reducible exact H2_)|(have H2_:=(Option.bind_some _ _).symm.trans H;with_reducible exact H2_)|with_reducible exact H|(rw [hy117];exact H)|exact H
      have Ny117:=mk0 hy117
      clear hy117
      have H':=mk0 H
      clear H
      have p114:0 ≤ (x7_2:Int):=of_decide_eq_true (by first|(with_reducible assumption)|assumption)
      have q114:x7_2 < (l0.length:Int):=of_decide_eq_true (by first|(with_reducible assumption)|assumption)
      obtain⟨ad114,e114,hx114_0⟩:=Kd.at_int HR0.out x7_2 p114 q114
      cases e114
      replace hx114_0:=(HB.out.cell (World.block_lt_of_cell? w _ hx114_0)).trans hx114_0
      replace p114:=eq_true p114
      replace q114:=eq_true q114
      have p19:0 ≤ (x7_2:Int):=of_decide_eq_true (by first|(with_reducible assumption)|assumption)
      have q19:(x7_2:Int) < ((x13_2.length:Int):Int):=of_decide_eq_true (by first|(with_reducible assumption)|assumption)
      obtain⟨go19,co19,eo19,gb19,gl19,cl19,HG19⟩:=Kd.R_form HO_13.out (by omega)
      (first|cases eo19|(injection eo19 with ea_ en_ ec_;(first|subst ea_|(injection ea_ with ea_;subst ea_));subst ec_;clear en_))
      have GB19:=mk0 gb19
      have GG19:=mk0 HG19
      clear gb19 gl19 HG19
      obtain⟨hx19_0,hf19_0⟩:=Kd.R_celln 0 HO_13.out (x7_2:Int) p19 q19
      replace p19:=eq_true p19
      replace q19:=eq_true q19
      have HP20:=Kd.R_putg HO_13.out (x7_2:Int) x4_2
      go_wp2_with (first|((with_reducible refine gate_store (t:=3) (p:=42) rfl ?_);refine store_event (t:=3) (p:=42) (v:=?vo_w21) (w1:=(wr.setCell ⟨go19,(x7_2:Int).toNat,none⟩ (.int .i64 x4_2))) ?hg ?ho ?hn ?hr ?_;(case ho=>rfl);(case hg=>rfl);(case hn=>rfl);(case hr=>first|(go_simp;done)|(go_simp;rfl));intro w21 hw;have hg:wr.grownBy w21 (some go19):=(by rw [hw];exact HP20.2);have hp_:Kd.R (Kd.int .i64) 3 w21 w.heap.size (fun _=>True) (.slice (some ⟨go19,0,none⟩) x13_2.length co19) y117:=(by rw [hw,Ny117.out];exact HP20.1);clear HP20;replace HO_13:=mk0 (hp_);replace HB:=mk0 ((by rw [hw];exact sZ (HB.out) GB19.out:Below w.heap.size w w21));clear hg hw hp_))
      go_roundg k2
      case measure=>have:=HK1.out;have:=HK2.out;omega
      case rel=>exact⟨(x4_2),(x6_1),(wrap64 (x7_2 + 1)),(y117),(by first|rfl|(simp;done)|(simp [*];done)),(by first|rfl|(simp;done)|(simp [*];done)),(by first|rfl|(simp;done)|(simp [*];done)),H',⟨by have:=HK1.out;have:=HK2.out;omega⟩,⟨rR HO_13.out⟩,⟨kB HB.out⟩⟩
     rw [if_pos c12] at H
     have c12b0:decide (0 < x5_2) = true:=decide_eq_true c12
     clear c12
     replace H:=Option.bind_eq_some_iff.mp H
     obtain⟨t115,A130,H⟩:=H
     replace H:(if x7_2 < (x13_2.length:Int) then (spec_HuffCodes.l1 k2 l0 (wrap64 ((wrap64 (x4_2 + 1)) * t115)) x6_1 x6_1 (wrap64 (x7_2 + 1)) (x13_2.set (x7_2:Int).toNat (wrap64 ((wrap64 (x4_2 + 1)) * t115)))) else (none)) = some r:=H
     have A13:=mk0 A130
     clear A130
     by_cases c14:x7_2 < (x13_2.length:Int)
     rotate_left
     ·rw [if_neg c14] at H
      exact absurd H (by simp)
     rw [if_pos c14] at H
     have c14b0:decide (x7_2 < (x13_2.length:Int)) = true:=decide_eq_true c14
     clear c14
     obtain⟨y116,hy116⟩:∃ y_:List Int,y_ = (x13_2.set (x7_2:Int).toNat (wrap64 ((wrap64 (x4_2 + 1)) * t115))):=⟨_,rfl⟩
     replace H:(spec_HuffCodes.l1 k2 l0 (wrap64 ((wrap64 (x4_2 + 1)) * t115)) x6_1 x6_1 (wrap64 (x7_2 + 1)) y116) = some r:=by first|(rw [hy116];with_reducible exact H)|(have H2_:=(Option.bind_some _ _).symm.trans H;rw [hy116];with_reducible exact H2_)|(have H2_:=(Option.bind_some _ _).symm.trans H;with_reducible exact H2_)|with_reducible exact H|(rw [hy116];exact H)|exact H
     have Ny116:=mk0 hy116
     clear hy116
     have H':=mk0 H
     clear H
     have p114:0 ≤ (x7_2:Int):=of_decide_eq_true (by first|(with_reducible assumption)|assumption)
     have q114:x7_2 < (l0.length:Int):=of_decide_eq_true (by first|(with_reducible assumption)|assumption)
     obtain⟨ad114,e114,hx114_0⟩:=Kd.at_int HR0.out x7_2 p114 q114
     cases e114
     replace hx114_0:=(HB.out.cell (World.block_lt_of_cell? w _ hx114_0)).trans hx114_0
     replace p114:=eq_true p114
     replace q114:=eq_true q114
     go_wp2_with (first|((with_reducible refine gate_callee (f:=37) rfl ?_);refine goesL_ (some 37) rfl rfl Try.func37 (by kernel_rfl) rfl #[.int .i64 (wrap64 (x6_1 - x5_2))] rfl (by (try simp only [mA,mC,mN]);first|done|rfl|(simp only [List.length_drop,List.length_take];done)|(simp only [List.length_drop,List.length_take];rfl)) ?_;(with_reducible refine (spec_l02Pow.calls k2 (wrap64 (x6_1 - x5_2)) t115 _ A13.out).mono ?_);rintro e w' ⟨rfl,⟨nd,rfl⟩⟩;refine⟨_,rfl,?_⟩;(try (rw [drewN_self wr];generalize hq_:World.drewN wr _ = wr;have n0_:Aside0 (Kd.R (Kd.int .i64) 3 wr w.heap.size (fun _=>True) v112 x13_2):=⟨by rw [← hq_];exact (rR HO_13.out)⟩;have n1_:Aside0 (Below w.heap.size w wr):=⟨by rw [← hq_];exact (kB HB.out)⟩;clear HO_13 HB hq_;have HO_13:=n0_;have HB:=n1_;clear n0_ n1_));have p15:0 ≤ (x7_2:Int):=of_decide_eq_true (by first|(with_reducible assumption)|assumption);have q15:(x7_2:Int) < ((x13_2.length:Int):Int):=of_decide_eq_true (by first|(with_reducible assumption)|assumption);obtain⟨go15,co15,eo15,gb15,gl15,cl15,HG15⟩:=Kd.R_form HO_13.out (by omega);(first|cases eo15|(injection eo15 with ea_ en_ ec_;(first|subst ea_|(injection ea_ with ea_;subst ea_));subst ec_;clear en_));have GB15:=mk0 gb15;have GG15:=mk0 HG15;clear gb15 gl15 HG15;obtain⟨hx15_0,hf15_0⟩:=Kd.R_celln 0 HO_13.out (x7_2:Int) p15 q15;replace p15:=eq_true p15;replace q15:=eq_true q15;obtain⟨hy16_,hz16_⟩:=Kd.R_celln 0 HO_13.out (x7_2:Int) (of_decide_eq_true (by first|(with_reducible assumption)|assumption)) (of_decide_eq_true (by first|(with_reducible assumption)|assumption));have HP16:=Kd.R_putg HO_13.out (x7_2:Int) (wrap64 ((wrap64 (x4_2 + 1)) * t115)))|((with_reducible refine gate_store (t:=3) (p:=42) rfl ?_);refine store_event (t:=3) (p:=42) (v:=?vo_w17) (w1:=(wr.setCell ⟨go15,(x7_2:Int).toNat,none⟩ (.int .i64 (wrap64 ((wrap64 (x4_2 + 1)) * t115))))) ?hg ?ho ?hn ?hr ?_;(case ho=>rfl);(case hg=>rfl);(case hn=>rfl);(case hr=>first|(go_simp;done)|(go_simp;rfl));intro w17 hw;have hg:wr.grownBy w17 (some go15):=(by rw [hw];exact HP16.2);have hp_:Kd.R (Kd.int .i64) 3 w17 w.heap.size (fun _=>True) (.slice (some ⟨go15,0,none⟩) x13_2.length co15) y116:=(by rw [hw,Ny116.out];exact HP16.1);clear HP16;replace HO_13:=mk0 (hp_);replace HB:=mk0 ((by rw [hw];exact sZ (HB.out) GB15.out:Below w.heap.size w w17));clear hg hw hp_))
     go_roundg k2
     case measure=>have:=HK1.out;have:=HK2.out;omega
     case rel=>exact⟨(wrap64 ((wrap64 (x4_2 + 1)) * t115)),(x6_1),(wrap64 (x7_2 + 1)),(y116),(by first|rfl|(simp;done)|(simp [*];done)),(by first|rfl|(simp;done)|(simp [*];done)),(by first|rfl|(simp;done)|(simp [*];done)),H',⟨by have:=HK1.out;have:=HK2.out;omega⟩,⟨rR HO_13.out⟩,⟨kB HB.out⟩⟩
/-! ### spec_l08Code: function 39 -/
def spec_l08Code.l0 : Nat → Int → List Int → Int → Option (List Int)
 | 0, _, _, _ => none
 | k + 1, x0, x5, x6 => if x6 ≥ 0 then ((spec_l02Pow.f k x6).bind fun t121 => (if t121 = 0 then (none) else (if x5.length < 17592186044416 then (spec_l08Code.l0 k x0 (x5 ++ [Int.tmod (wrap64 (Int.tdiv x0 t121)) 2]) (wrap64 (x6 - 1))) else (none)))) else (some x5)
def spec_l08Code.f (k : Nat) (a0 : Int) (a1 : Int) : Option (List Int) := spec_l08Code.l0 k a0 (([] : List Int)) (wrap64 (a1 - 1))
theorem spec_l08Code.mono_l : ∀ k, (∀ y0 y1 y2, LeO (spec_l08Code.l0 k y0 y1 y2) (spec_l08Code.l0 (k + 1) y0 y1 y2))
 | 0 => fun _ _ _ r h => by simp [spec_l08Code.l0] at h
 | k + 1 => by
  have ih0 := spec_l08Code.mono_l k
  ·intro y0 y1 y2
   unfold spec_l08Code.l0
   repeat' first|(with_reducible first|exact ih0 _ _ _|exact spec_l02Pow.mono _ _|exact LeO.refl _|exact LeO.none _|refine LeO.ite ?_ ?_|refine LeO.bind ?_ (fun _ => ?_))|exact LeO.none _|refine LeO.ite ?_ ?_|refine LeO.bind ?_ (fun _ => ?_)
theorem spec_l08Code.mono : ∀ a0 a1 k, LeO (spec_l08Code.f k a0 a1) (spec_l08Code.f (k + 1) a0 a1) := by
 intro a0 a1 k
 have ih0 := spec_l08Code.mono_l k
 unfold spec_l08Code.f
 repeat' first|(with_reducible first|exact ih0 _ _ _|exact spec_l02Pow.mono _ _|exact LeO.refl _|exact LeO.none _|refine LeO.ite ?_ ?_|refine LeO.bind ?_ (fun _ => ?_))|exact LeO.none _|refine LeO.ite ?_ ?_|refine LeO.bind ?_ (fun _ => ?_)
set_option maxHeartbeats 8000000 in
set_option maxRecDepth 100000 in
theorem spec_l08Code.calls (k : Nat) (a0 : Int) (a1 : Int) (r : List Int) (w : World) (h : spec_l08Code.f k a0 a1 = some r) :
  Calls Try.prog 39 #[.int .i64 a0, .int .i64 a1] w fun e w' => ∃ v0_ : Value, e = .returned (v0_) ∧ Kd.R (Kd.int .i64) 3 w' w.heap.size (fun _ => True) v0_ r ∧ Below w.heap.size w w' := by
 have HB:=mk0 (Below.refl w.heap.size w)
 have H:(spec_l08Code.l0 k a0 (([]:List Int)) (wrap64 (a1 - 1))) = some r:=h
 clear h
 obtain⟨y118,hy118⟩:∃ y_:List Int,y_ = (([]:List Int)):=⟨_,rfl⟩
 replace H:(spec_l08Code.l0 k a0 y118 (wrap64 (a1 - 1))) = some r:=by first|(rw [hy118];with_reducible exact H)|(have H2_:=(Option.bind_some _ _).symm.trans H;rw [hy118];with_reducible exact H2_)|(have H2_:=(Option.bind_some _ _).symm.trans H;with_reducible exact H2_)|with_reducible exact H|(rw [hy118];exact H)|exact H
 have Ny118:=mk0 hy118
 clear hy118
 have H':=mk0 H
 clear H
 go_enter Try.func39,Try.ntmps39
 go_wp2_with (first|((with_reducible refine gate_dst (N:=7) rfl ?_);refine Kd.R_lit (Kd.int .i64) _ 3 ?hg (N:=7) ?hd (xs:=([]:List Int)) (inner:=[]) (ok:=fun _=>True) (okp:=fun _=>True) ?hr ?hp (fun _ hk=>hk) trivial (Below.refl _ _) (Nat.le_refl _) (by simp) ?_;(case hd=>rfl);(case hg=>rfl);(case hr=>first|(go_simp;done)|(go_simp;rfl));(case hp=>exact (Reps.none _ _));intro v119 w3 ho4 hb hg_ hnew_;clear hg_ hnew_;(first|rw [← Ny118.out] at ho4|(simp only [Int.reduceToNat] at ho4;rw [← Ny118.out] at ho4));have HO120:=mk0 (Kd.R_lower ho4 (kZ HB.out));replace HB:=mk0 (kS HB.out hb);clear hb ho4))
 go_loopg [5,6] k (fun kq v5 v6 w'=>∃ (x5_1:List Int) (x6_1:Int),v6 = .int .i64 x6_1 ∧ Aside0 (spec_l08Code.l0 kq a0 x5_1 x6_1 = some r) ∧ Aside0 (kq ≤ k) ∧ Aside0 (Kd.R (Kd.int .i64) 3 w' w.heap.size (fun _=>True) v5 x5_1) ∧ Aside0 (Below w.heap.size w w'))
 case atStart=>exact⟨(y118),(wrap64 (a1 - 1)),(by first|rfl|(simp;done)|(simp [*];done)),H',⟨Nat.le_refl _⟩,⟨rR HO120.out⟩,⟨kB HB.out⟩⟩
 case round =>
  clear H'
  try clear p2
  try clear c3
  obtain⟨x5_1,x6_1,rfl,HA,HK1,HO_5,HB⟩:=hrel
  cases gk with
  | zero=>exact absurd HA.out (by simp [spec_l08Code.l0])
  | succ k1 =>
   have H:=HA.out
   clear HA
   simp only [spec_l08Code.l0] at H
   by_cases c5:x6_1 ≥ 0
   ·rw [if_pos c5] at H
    have c5b0:decide (0 ≤ x6_1) = true:=decide_eq_true c5
    clear c5
    replace H:=Option.bind_eq_some_iff.mp H
    obtain⟨t121,A60,H⟩:=H
    replace H:(if t121 = 0 then (none) else (if x5_1.length < 17592186044416 then (spec_l08Code.l0 k1 a0 (x5_1 ++ [Int.tmod (wrap64 (Int.tdiv a0 t121)) 2]) (wrap64 (x6_1 - 1))) else (none))) = some r:=H
    have A6:=mk0 A60
    clear A60
    by_cases c7:t121 = 0
    ·rw [if_pos c7] at H
     exact absurd H (by simp)
    ·rw [if_neg c7] at H
     have c7b0:(t121 == 0) = false:=beq_eq_false_iff_ne.mpr c7
     have c7b1:(t121 != 0) = true:=bne_iff_ne.mpr c7
     by_cases c8:x5_1.length < 17592186044416
     ·rw [if_pos c8] at H
      have LMc8:=mk0 c8
      clear c8
      obtain⟨y122,hy122⟩:∃ y_:List Int,y_ = (x5_1 ++ [Int.tmod (wrap64 (Int.tdiv a0 t121)) 2]):=⟨_,rfl⟩
      replace H:(spec_l08Code.l0 k1 a0 y122 (wrap64 (x6_1 - 1))) = some r:=by first|(rw [hy122];with_reducible exact H)|(have H2_:=(Option.bind_some _ _).symm.trans H;rw [hy122];with_reducible exact H2_)|(have H2_:=(Option.bind_some _ _).symm.trans H;with_reducible exact H2_)|with_reducible exact H|(rw [hy122];exact H)|exact H
      have Ny122:=mk0 hy122
      clear hy122
      have H':=mk0 H
      clear H
      go_wp2_with (first|((with_reducible refine gate_callee (f:=37) rfl ?_);refine goesL_ (some 17) rfl rfl Try.func37 (by kernel_rfl) rfl #[.int .i64 x6_1] rfl (by (try simp only [mA,mC,mN]);first|done|rfl|(simp only [List.length_drop,List.length_take];done)|(simp only [List.length_drop,List.length_take];rfl)) ?_;(with_reducible refine (spec_l02Pow.calls k1 x6_1 t121 _ A6.out).mono ?_);rintro e w' ⟨rfl,⟨nd,rfl⟩⟩;refine⟨_,rfl,?_⟩)|((with_reducible refine gate_builtin (b:=.append) (xs:=#[.tmp 14,.tmp 20]) rfl ?_);at_builtin;refine Kd.R_append (Kd.int .i64) (w0:=w) w.heap.size rfl (.tmp 14) (.tmp 20) 24 3 (.int .i64 0) 8 rfl Try.underlying24 info3 rfl (by decide) (by omega) u5 x5_1 (Int.tmod (wrap64 (Int.tdiv a0 t121)) 2) [.int .i64 (Int.tmod (wrap64 (Int.tdiv a0 t121)) 2)] (fun _=>True) (fun _=>False) rfl rfl ?aP (fun _ hk=>hk.elim) ?aF ?aO ?aB ?aS ?aL ?_;(case aP=>exact rfl);(case aB=>exact (kB HB.out));(case aF=>exact (fun _ _=>trivial));(case aO=>exact (rR HO_5.out));(case aS=>exact (kZ HB.out));(case aL=>have:=LMc8.out;omega);intro v123 w9 ho hb hg hat;rw [← Ny122.out] at ho;replace HB:=mk0 (hb);have HO124:=mk0 (ho);clear HO_5 ho hb hg hat))
      go_roundg k1
      case measure=>have:=HK1.out;omega
      case rel=>exact⟨(y122),(wrap64 (x6_1 - 1)),(by first|rfl|(simp;done)|(simp [*];done)),H',⟨by have:=HK1.out;omega⟩,⟨rR HO124.out⟩,⟨kB HB.out⟩⟩
     ·rw [if_neg c8] at H
      exact absurd H (by simp)
   ·rw [if_neg c5] at H
    have c5b0:decide (0 ≤ x6_1) = false:=decide_eq_false c5
    clear c5
    obtain rfl:=Option.some.inj H
    go_wp2
    go_ret
    exact⟨_,by first|rfl|(simp [errW_none,errW_some] <;> rfl)|(simp [*,errW_none,errW_some] <;> rfl),rR HO_5.out,kB HB.out⟩

/-! ### spec_l01Power: function 69 -/
def spec_l01Power.l0 : Nat → Int → Int → Option (Int)
 | 0, _, _ => none
 | k + 1, x0, x3 => if x0 > 0 then (spec_l01Power.l0 k (wrap64 (x0 - 1)) (IntKind.u64.wrap (2 * x3))) else (some x3)
def spec_l01Power.f (k : Nat) (a0 : Int) : Option (Int) := spec_l01Power.l0 k a0 1
theorem spec_l01Power.mono_l : ∀ k, (∀ y0 y1, LeO (spec_l01Power.l0 k y0 y1) (spec_l01Power.l0 (k + 1) y0 y1))
 | 0 => fun _ _ r h => by simp [spec_l01Power.l0] at h
 | k + 1 => by
  have ih0 := spec_l01Power.mono_l k
  ·intro y0 y1
   unfold spec_l01Power.l0
   repeat' first|(with_reducible first|exact ih0 _ _|exact LeO.refl _|exact LeO.none _|refine LeO.ite ?_ ?_|refine LeO.bind ?_ (fun _ => ?_))|exact LeO.none _|refine LeO.ite ?_ ?_|refine LeO.bind ?_ (fun _ => ?_)
theorem spec_l01Power.mono : ∀ a0 k, LeO (spec_l01Power.f k a0) (spec_l01Power.f (k + 1) a0) := by
 intro a0 k
 have ih0 := spec_l01Power.mono_l k
 unfold spec_l01Power.f
 repeat' first|(with_reducible first|exact ih0 _ _|exact LeO.refl _|exact LeO.none _|refine LeO.ite ?_ ?_|refine LeO.bind ?_ (fun _ => ?_))|exact LeO.none _|refine LeO.ite ?_ ?_|refine LeO.bind ?_ (fun _ => ?_)
set_option maxHeartbeats 8000000 in
set_option maxRecDepth 100000 in
theorem spec_l01Power.calls (k : Nat) (a0 : Int) (r : Int) (w : World) (h : spec_l01Power.f k a0 = some r) :
  Calls Try.prog 69 #[.int .i64 a0] w fun e w' => e = .returned (.int .u64 r) ∧ Drawn0 w w' := by
 have H:(spec_l01Power.l0 k a0 1) = some r:=h
 clear h
 have H':=mk0 H
 clear H
 go_enter Try.func69,Try.ntmps69
 go_wp2
 go_loopg [0,3] k (fun kq v0 v3 w'=>∃ (x0_1:Int) (x3_1:Int),v0 = .int .i64 x0_1 ∧ v3 = .int .u64 x3_1 ∧ Aside0 (spec_l01Power.l0 kq x0_1 x3_1 = some r) ∧ Aside0 (kq ≤ k) ∧ Drawn0 w w')
 case atStart=>exact⟨(a0),(1),(by first|rfl|(simp;done)|(simp [*];done)),(by first|rfl|(simp;done)|(simp [*];done)),H',⟨Nat.le_refl _⟩,by repeat (first|exact Drawn0.refl _|apply Drawn0.step)⟩
 case round =>
  clear H'
  obtain⟨x0_1,x3_1,rfl,rfl,HA,HK1,⟨m1,rfl⟩⟩:=hrel
  cases gk with
  | zero=>exact absurd HA.out (by simp [spec_l01Power.l0])
  | succ k1 =>
   have H:=HA.out
   clear HA
   simp only [spec_l01Power.l0] at H
   by_cases c2:x0_1 > 0
   ·rw [if_pos c2] at H
    have c2b0:decide (0 < x0_1) = true:=decide_eq_true c2
    clear c2
    have H':=mk0 H
    clear H
    go_wp2
    go_roundg k1
    case measure=>have:=HK1.out;omega
    case rel=>exact⟨(wrap64 (x0_1 - 1)),(IntKind.u64.wrap (2 * x3_1)),(by first|rfl|(simp;done)|(simp [*];done)),(by first|rfl|(simp;done)|(simp [*];done)),H',⟨by have:=HK1.out;omega⟩,by repeat (first|exact Drawn0.refl _|apply Drawn0.step)⟩
   ·rw [if_neg c2] at H
    have c2b0:decide (0 < x0_1) = false:=decide_eq_false c2
    clear c2
    obtain rfl:=Option.some.inj H
    go_wp2
    go_ret
    exact⟨by first|rfl|(simp;done)|(simp [*];done),by repeat (first|exact Drawn0.refl _|apply Drawn0.step)⟩

end Go.Proofs.Ytgjmmegmkdklbaa.QFnHuffBack
