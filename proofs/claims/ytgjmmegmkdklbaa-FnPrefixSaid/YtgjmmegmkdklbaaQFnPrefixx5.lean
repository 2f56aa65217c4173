-- A walk, made by walk.py, a program of this session's.
import Derived.Test.YtgjmmegmkdklbaaQFnPrefixx0
import Derived.Test.YtgjmmegmkdklbaaQFnPrefixx4
namespace Go.Proofs.Ytgjmmegmkdklbaa.QFnPrefix
open Go.RowKit Go.Proofs.YtgjmmegmkdklbaaW.PrintWords Go.Proofs.YtgjmmegmkdklbaaW.PrintLast Go.Proofs.YtgjmmegmkdklbaaW.PrintMore
attribute [local go_sem] max2_int min2_int max_two min_two max_three min_three max_four min_four   -- for this text's walks alone
set_option linter.unusedVariables false
set_option linter.unusedSimpArgs false

/-! ### spec_HuffOk: function 11 -/
mutual
def spec_HuffOk.l0 : Nat → List Int → Int → Int → Int → Int → Option (Bool)
 | 0, _, _, _, _, _ => none
 | k + 1, x0, x3, x4, x5, x6 => if x6 < (x0.length : Int) then (if 0 ≤ x6 then (if (rd x0 x6) < 0 then (spec_HuffOk.j1 k x0 x3 x4 x5 x6 true) else (spec_HuffOk.j1 k x0 x3 x4 x5 x6 (decide ((rd x0 x6) > 60)))) else (none)) else (if x3 = 1 then (if x5 = 1 then (some true) else ((spec_l02Pow.f k 60).bind fun t320 => (some (x4 == t320)))) else ((spec_l02Pow.f k 60).bind fun t321 => (some (x4 == t321))))
def spec_HuffOk.j1 : Nat → List Int → Int → Int → Int → Int → Bool → Option (Bool)
 | 0, _, _, _, _, _, _ => none
 | k + 1, x0, x3, x4, x5, x6, x27 => if x27 = true then (some false) else (if 0 ≤ x6 then (if x6 < (x0.length : Int) then (if (rd x0 x6) > 0 then ((spec_l02Pow.f k (wrap64 (60 - (rd x0 x6)))).bind fun t318 => ((spec_l02Pow.f k 60).bind fun t319 => (if (wrap64 (x4 + t318)) > t319 then (some false) else (spec_HuffOk.l0 k x0 (wrap64 (x3 + 1)) (wrap64 (x4 + t318)) (rd x0 x6) (wrap64 (x6 + 1)))))) else (spec_HuffOk.l0 k x0 x3 x4 x5 (wrap64 (x6 + 1)))) else (none)) else (none))
end
def spec_HuffOk.f (k : Nat) (l0 : List Int) : Option (Bool) := if (l0.length : Int) > 300 then (some false) else (spec_HuffOk.l0 k l0 0 0 0 0)
theorem spec_HuffOk.mono_l : ∀ k, (∀ y0 y1 y2 y3 y4, LeO (spec_HuffOk.l0 k y0 y1 y2 y3 y4) (spec_HuffOk.l0 (k + 1) y0 y1 y2 y3 y4)) ∧ (∀ y0 y1 y2 y3 y4 y5, LeO (spec_HuffOk.j1 k y0 y1 y2 y3 y4 y5) (spec_HuffOk.j1 (k + 1) y0 y1 y2 y3 y4 y5))
 | 0 => ⟨fun _ _ _ _ _ r h => by simp [spec_HuffOk.l0] at h, fun _ _ _ _ _ _ r h => by simp [spec_HuffOk.j1] at h⟩
 | k + 1 => by
  obtain ⟨ih0, ih1⟩ := spec_HuffOk.mono_l k
  refine ⟨?_, ?_⟩
  ·intro y0 y1 y2 y3 y4
   unfold spec_HuffOk.l0
   repeat' first|(with_reducible first|exact ih0 _ _ _ _ _|exact ih1 _ _ _ _ _ _|exact spec_l02Pow.mono _ _|exact LeO.refl _|exact LeO.none _|refine LeO.ite ?_ ?_|refine LeO.bind ?_ (fun _ => ?_))|exact LeO.none _|refine LeO.ite ?_ ?_|refine LeO.bind ?_ (fun _ => ?_)
  ·intro y0 y1 y2 y3 y4 y5
   unfold spec_HuffOk.j1
   repeat' first|(with_reducible first|exact ih0 _ _ _ _ _|exact ih1 _ _ _ _ _ _|exact spec_l02Pow.mono _ _|exact LeO.refl _|exact LeO.none _|refine LeO.ite ?_ ?_|refine LeO.bind ?_ (fun _ => ?_))|exact LeO.none _|refine LeO.ite ?_ ?_|refine LeO.bind ?_ (fun _ => ?_)
theorem spec_HuffOk.mono : ∀ a0 k, LeO (spec_HuffOk.f k a0) (spec_HuffOk.f (k + 1) a0) := by
 intro a0 k
 obtain ⟨ih0, ih1⟩ := spec_HuffOk.mono_l k
 unfold spec_HuffOk.f
 repeat' first|(with_reducible first|exact ih0 _ _ _ _ _|exact ih1 _ _ _ _ _ _|exact spec_l02Pow.mono _ _|exact LeO.refl _|exact LeO.none _|refine LeO.ite ?_ ?_|refine LeO.bind ?_ (fun _ => ?_))|exact LeO.none _|refine LeO.ite ?_ ?_|refine LeO.bind ?_ (fun _ => ?_)
set_option maxHeartbeats 8000000 in
set_option maxRecDepth 100000 in
theorem spec_HuffOk.calls (k : Nat) (A0 : Option Addr) (c0 : Nat) (l0 : List Int) (r : Bool) (w : World) (hr0 : Kd.C (Kd.int .i64) w A0 l0.length l0) (hc0 : l0.length ≤ c0) (h : spec_HuffOk.f k l0 = some r) :
  Calls Try.prog 11 #[.slice A0 l0.length c0] w fun e w' => e = .returned (.bool r) ∧ Drawn0 w w' := by
 have HR0:=mk0 hr0
 have HC0:=mk0 hc0
 clear hr0 hc0
 have H:(if (l0.length:Int) > 300 then (some false) else (spec_HuffOk.l0 k l0 0 0 0 0)) = some r:=h
 clear h
 by_cases c2:(l0.length:Int) > 300
 ·rw [if_pos c2] at H
  have c2b0:decide (300 < (l0.length:Int)) = true:=decide_eq_true c2
  have c2b1:decide (300 < l0.length) = true:=decide_eq_true (by omega)
  clear c2
  obtain rfl:=Option.some.inj H
  go_enter Try.func11,Try.ntmps11
  go_wp2
  go_ret
  exact⟨by first|rfl|(simp;done)|(simp [*];done),by repeat (first|exact Drawn0.refl _|apply Drawn0.step)⟩
 rw [if_neg c2] at H
 have c2b0:decide (300 < (l0.length:Int)) = false:=decide_eq_false c2
 have c2b1:decide (300 < l0.length) = false:=decide_eq_false (by omega)
 clear c2
 have H':=mk0 H
 clear H
 go_enter Try.func11,Try.ntmps11
 go_wp2
 go_loopg [3,4,5,6] k (fun kq v3 v4 v5 v6 w'=>∃ (x3_1:Int) (x4_1:Int) (x5_1:Int) (x6_1:Int),v3 = .int .i64 x3_1 ∧ v4 = .int .i64 x4_1 ∧ v5 = .int .i64 x5_1 ∧ v6 = .int .i64 x6_1 ∧ Aside0 (spec_HuffOk.l0 kq l0 x3_1 x4_1 x5_1 x6_1 = some r) ∧ Aside0 (kq ≤ k) ∧ Drawn0 w w')
 case atStart=>exact⟨(0),(0),(0),(0),(by first|rfl|(simp;done)|(simp [*];done)),(by first|rfl|(simp;done)|(simp [*];done)),(by first|rfl|(simp;done)|(simp [*];done)),(by first|rfl|(simp;done)|(simp [*];done)),H',⟨Nat.le_refl _⟩,by repeat (first|exact Drawn0.refl _|apply Drawn0.step)⟩
 case round =>
  clear H'
  try clear c1
  try clear c2
  try clear c2b0
  try clear c2b1
  try clear p2
  obtain⟨x3_1,x4_1,x5_1,x6_1,rfl,rfl,rfl,rfl,HA,HK1,⟨m1,rfl⟩⟩:=hrel
  cases gk with
  | zero=>exact absurd HA.out (by simp [spec_HuffOk.l0])
  | succ k1 =>
   have H:=HA.out
   clear HA
   simp only [spec_HuffOk.l0] at H
   by_cases c3:x6_1 < (l0.length:Int)
   rotate_left
   ·rw [if_neg c3] at H
    have c3b0:decide (x6_1 < (l0.length:Int)) = false:=decide_eq_false c3
    clear c3
    by_cases c14:x3_1 = 1
    rotate_left
    ·rw [if_neg c14] at H
     have c14b0:(x3_1 == 1) = false:=beq_eq_false_iff_ne.mpr c14
     have c14b1:(x3_1 != 1) = true:=bne_iff_ne.mpr c14
     replace H:=Option.bind_eq_some_iff.mp H
     obtain⟨t321,A170,H⟩:=H
     replace H:(some (x4_1 == t321)) = some r:=H
     have A17:=mk0 A170
     clear A170
     obtain rfl:=Option.some.inj H
     go_wp2_with (first|(go_at_call 37;(with_reducible refine (spec_l02Pow.calls k1 60 t321 _ A17.out).mono ?_);rintro e w' ⟨rfl,⟨nd,rfl⟩⟩))
     go_ret
     exact⟨by first|rfl|(simp;done)|(simp [*];done),by repeat (first|exact Drawn0.refl _|apply Drawn0.step)⟩

    rw [if_pos c14] at H
    have c14b0:(x3_1 == 1) = true:=beq_iff_eq.mpr c14
    have c14b1:(x3_1 != 1) = false:=bne_eq_false_iff_eq.mpr c14
    clear c14
    by_cases c15:x5_1 = 1
    ·rw [if_pos c15] at H
     have c15b0:(x5_1 == 1) = true:=beq_iff_eq.mpr c15
     have c15b1:(x5_1 != 1) = false:=bne_eq_false_iff_eq.mpr c15
     clear c15
     obtain rfl:=Option.some.inj H
     go_wp2
     go_ret
     exact⟨by first|rfl|(simp;done)|(simp [*];done),by repeat (first|exact Drawn0.refl _|apply Drawn0.step)⟩
    rw [if_neg c15] at H
    have c15b0:(x5_1 == 1) = false:=beq_eq_false_iff_ne.mpr c15
    have c15b1:(x5_1 != 1) = true:=bne_iff_ne.mpr c15
    replace H:=Option.bind_eq_some_iff.mp H
    obtain⟨t320,A160,H⟩:=H
    replace H:(some (x4_1 == t320)) = some r:=H
    have A16:=mk0 A160
    clear A160
    obtain rfl:=Option.some.inj H
    go_wp2_with (first|(go_at_call 37;(with_reducible refine (spec_l02Pow.calls k1 60 t320 _ A16.out).mono ?_);rintro e w' ⟨rfl,⟨nd,rfl⟩⟩))
    go_ret
    exact⟨by first|rfl|(simp;done)|(simp [*];done),by repeat (first|exact Drawn0.refl _|apply Drawn0.step)⟩
   rw [if_pos c3] at H
   have c3b0:decide (x6_1 < (l0.length:Int)) = true:=decide_eq_true c3
   clear c3
   have HC4:=mk0 H
   clear H
   go_upto_region 9 with (fail)
   go_cut [27] (fun v27 wc=>∃ (kq:Nat) (x27_3:Bool),v27 = .bool x27_3 ∧ Aside0 (spec_HuffOk.j1 kq l0 x3_1 x4_1 x5_1 x6_1 x27_3 = some r) ∧ Aside0 (kq ≤ k1) ∧ Drawn0 w wc)
   case first =>
    have H:=HC4.out
    clear HC4
    by_cases c5:0 ≤ x6_1
    rotate_left
    ·rw [if_neg c5] at H
     exact absurd H (by simp)
    rw [if_pos c5] at H
    have c5b0:decide (0 ≤ x6_1) = true:=decide_eq_true c5
    clear c5
    (first|rw [c5b0]|(simp only [i64_w,i32_w];rw [c5b0])|skip)
    by_cases c6:(rd l0 x6_1) < 0
    ·rw [if_pos c6] at H
     have c6b0:decide ((rd l0 x6_1) < 0) = true:=decide_eq_true c6
     clear c6
     have H':=mk0 H
     clear H
     have p313:0 ≤ (x6_1:Int):=of_decide_eq_true (by first|(with_reducible assumption)|assumption)
     have q313:x6_1 < (l0.length:Int):=of_decide_eq_true (by first|(with_reducible assumption)|assumption)
     obtain⟨ad313,e313,hx313_0⟩:=Kd.at_int HR0.out x6_1 p313 q313
     cases e313
     replace p313:=eq_true p313
     replace q313:=eq_true q313
     go_wp2
     go_meet
     case rel=>exact⟨_,(true),(by first|rfl|(simp;done)|(simp [*];done)),H',⟨by have:=HK1.out;first|omega|exact Nat.le_refl _⟩,by repeat (first|exact Drawn0.refl _|apply Drawn0.step)⟩
    rw [if_neg c6] at H
    have c6b0:decide ((rd l0 x6_1) < 0) = false:=decide_eq_false c6
    clear c6
    have H':=mk0 H
    clear H
    have p313:0 ≤ (x6_1:Int):=of_decide_eq_true (by first|(with_reducible assumption)|assumption)
    have q313:x6_1 < (l0.length:Int):=of_decide_eq_true (by first|(with_reducible assumption)|assumption)
    obtain⟨ad313,e313,hx313_0⟩:=Kd.at_int HR0.out x6_1 p313 q313
    cases e313
    replace p313:=eq_true p313
    replace q313:=eq_true q313
    have p314:0 ≤ (x6_1:Int):=of_decide_eq_true (by first|(with_reducible assumption)|assumption)
    have q314:x6_1 < (l0.length:Int):=of_decide_eq_true (by first|(with_reducible assumption)|assumption)
    obtain⟨ad314,e314,hx314_0⟩:=Kd.at_int HR0.out x6_1 p314 q314
    obtain rfl:ad313 = ad314:=(by injection e314)
    replace p314:=eq_true p314
    replace q314:=eq_true q314
    go_wp2
    go_meet
    case rel=>exact⟨_,(decide ((rd l0 x6_1) > 60)),(by first|rfl|(simp;done)|(simp [*];done)),H',⟨by have:=HK1.out;first|omega|exact Nat.le_refl _⟩,by repeat (first|exact Drawn0.refl _|apply Drawn0.step)⟩
   case rest =>
    clear HC4
    try clear c1
    try clear c2
    try clear c2b0
    try clear c2b1
    try clear p2
    try clear c3
    try clear c3b0
    try clear p3
    try clear q3
    try clear hx3
    try clear c5
    try clear c5b0
    try clear c6
    try clear c6b0
    try clear hx313_0
    try clear hx314_0
    try clear p2
    try clear p313
    try clear p314
    try clear q313
    try clear q314
    obtain⟨kq,x27_3,rfl,HA,HJ3,⟨mc3,rfl⟩⟩:=hcut
    cases kq with
    | zero=>exact absurd HA.out (by simp [spec_HuffOk.j1])
    | succ kj3 =>
     have H:=HA.out
     clear HA
     simp only [spec_HuffOk.j1] at H
     by_cases c7:x27_3 = true
     ·subst c7
      have H1:(some false) = some r:=by rw [if_pos rfl] at H;exact H
      clear H
      have H:=H1
      clear H1
      obtain rfl:=Option.some.inj H
      go_wp2
      go_ret
      exact⟨by first|rfl|(simp;done)|(simp [*];done),by repeat (first|exact Drawn0.refl _|apply Drawn0.step)⟩
     replace c7:=Bool.eq_false_iff.mpr c7
     subst c7
     have H1:(if 0 ≤ x6_1 then (if x6_1 < (l0.length:Int) then (if (rd l0 x6_1) > 0 then ((spec_l02Pow.f kj3 (wrap64 (60 - (rd l0 x6_1)))).bind fun t318=>((spec_l02Pow.f kj3 60).bind fun t319=>(if (wrap64 (x4_1 + t318)) > t319 then (some false) else (spec_HuffOk.l0 kj3 l0 (wrap64 (x3_1 + 1)) (wrap64 (x4_1 + t318)) (rd l0 x6_1) (wrap64 (x6_1 + 1)))))) else (spec_HuffOk.l0 kj3 l0 x3_1 x4_1 x5_1 (wrap64 (x6_1 + 1)))) else (none)) else (none)) = some r:=by rw [if_neg (show ¬ (false = true) by decide)] at H;exact H
     clear H
     have H:=H1
     clear H1
     by_cases c8:0 ≤ x6_1
     rotate_left
     ·rw [if_neg c8] at H
      exact absurd H (by simp)
     rw [if_pos c8] at H
     have c8b0:decide (0 ≤ x6_1) = true:=decide_eq_true c8
     clear c8
     by_cases c9:x6_1 < (l0.length:Int)
     rotate_left
     ·rw [if_neg c9] at H
      exact absurd H (by simp)
     rw [if_pos c9] at H
     have c9b0:decide (x6_1 < (l0.length:Int)) = true:=decide_eq_true c9
     clear c9
     by_cases c10:(rd l0 x6_1) > 0
     rotate_left
     ·rw [if_neg c10] at H
      have c10b0:decide (0 < (rd l0 x6_1)) = false:=decide_eq_false c10
      clear c10
      have H':=mk0 H
      clear H
      have p315:0 ≤ (x6_1:Int):=of_decide_eq_true (by first|(with_reducible assumption)|assumption)
      have q315:x6_1 < (l0.length:Int):=of_decide_eq_true (by first|(with_reducible assumption)|assumption)
      obtain⟨ad315,e315,hx315_0⟩:=Kd.at_int HR0.out x6_1 p315 q315
      cases e315
      replace p315:=eq_true p315
      replace q315:=eq_true q315
      go_wp2
      go_roundg kj3
      case measure=>have:=HK1.out;have:=HJ3.out;omega
      case rel=>exact⟨(x3_1),(x4_1),(x5_1),(wrap64 (x6_1 + 1)),(by first|rfl|(simp;done)|(simp [*];done)),(by first|rfl|(simp;done)|(simp [*];done)),(by first|rfl|(simp;done)|(simp [*];done)),(by first|rfl|(simp;done)|(simp [*];done)),H',⟨by have:=HK1.out;have:=HJ3.out;omega⟩,by repeat (first|exact Drawn0.refl _|apply Drawn0.step)⟩
     rw [if_pos c10] at H
     have c10b0:decide (0 < (rd l0 x6_1)) = true:=decide_eq_true c10
     clear c10
     replace H:=Option.bind_eq_some_iff.mp H
     obtain⟨t318,A110,H⟩:=H
     replace H:((spec_l02Pow.f kj3 60).bind fun t319=>(if (wrap64 (x4_1 + t318)) > t319 then (some false) else (spec_HuffOk.l0 kj3 l0 (wrap64 (x3_1 + 1)) (wrap64 (x4_1 + t318)) (rd l0 x6_1) (wrap64 (x6_1 + 1))))) = some r:=H
     have A11:=mk0 A110
     clear A110
     replace H:=Option.bind_eq_some_iff.mp H
     obtain⟨t319,A120,H⟩:=H
     replace H:(if (wrap64 (x4_1 + t318)) > t319 then (some false) else (spec_HuffOk.l0 kj3 l0 (wrap64 (x3_1 + 1)) (wrap64 (x4_1 + t318)) (rd l0 x6_1) (wrap64 (x6_1 + 1)))) = some r:=H
     have A12:=mk0 A120
     clear A120
     by_cases c13:(wrap64 (x4_1 + t318)) > t319
     ·rw [if_pos c13] at H
      have c13b0:decide (t319 < (wrap64 (x4_1 + t318))) = true:=decide_eq_true c13
      clear c13
      obtain rfl:=Option.some.inj H
      have p315:0 ≤ (x6_1:Int):=of_decide_eq_true (by first|(with_reducible assumption)|assumption)
      have q315:x6_1 < (l0.length:Int):=of_decide_eq_true (by first|(with_reducible assumption)|assumption)
      obtain⟨ad315,e315,hx315_0⟩:=Kd.at_int HR0.out x6_1 p315 q315
      cases e315
      replace p315:=eq_true p315
      replace q315:=eq_true q315
      have p316:0 ≤ (x6_1:Int):=of_decide_eq_true (by first|(with_reducible assumption)|assumption)
      have q316:x6_1 < (l0.length:Int):=of_decide_eq_true (by first|(with_reducible assumption)|assumption)
      obtain⟨ad316,e316,hx316_0⟩:=Kd.at_int HR0.out x6_1 p316 q316
      obtain rfl:ad315 = ad316:=(by injection e316)
      replace p316:=eq_true p316
      replace q316:=eq_true q316
      have p317:0 ≤ (x6_1:Int):=of_decide_eq_true (by first|(with_reducible assumption)|assumption)
      have q317:x6_1 < (l0.length:Int):=of_decide_eq_true (by first|(with_reducible assumption)|assumption)
      obtain⟨ad317,e317,hx317_0⟩:=Kd.at_int HR0.out x6_1 p317 q317
      obtain rfl:ad315 = ad317:=(by injection e317)
      replace p317:=eq_true p317
      replace q317:=eq_true q317
      go_wp2_with (first|((with_reducible refine gate_callee (f:=37) rfl ?_);refine goesL_ (some 45) rfl rfl Try.func37 (by kernel_rfl) rfl #[.int .i64 (wrap64 (60 - (rd l0 x6_1)))] rfl (by (try simp only [mA,mC,mN]);first|done|rfl|(simp only [List.length_drop,List.length_take];done)|(simp only [List.length_drop,List.length_take];rfl)) ?_;(with_reducible refine (spec_l02Pow.calls kj3 (wrap64 (60 - (rd l0 x6_1))) t318 _ A11.out).mono ?_);rintro e w' ⟨rfl,⟨nd,rfl⟩⟩;refine⟨_,rfl,?_⟩)|((with_reducible refine gate_callee (f:=37) rfl ?_);refine goesL_ (some 48) rfl rfl Try.func37 (by kernel_rfl) rfl #[.int .i64 60] rfl (by (try simp only [mA,mC,mN]);first|done|rfl|(simp only [List.length_drop,List.length_take];done)|(simp only [List.length_drop,List.length_take];rfl)) ?_;(with_reducible refine (spec_l02Pow.calls kj3 60 t319 _ A12.out).mono ?_);rintro e w' ⟨rfl,⟨nd,rfl⟩⟩;refine⟨_,rfl,?_⟩))
      go_ret
      exact⟨by first|rfl|(simp;done)|(simp [*];done),by repeat (first|exact Drawn0.refl _|apply Drawn0.step)⟩
     rw [if_neg c13] at H
     have c13b0:decide (t319 < (wrap64 (x4_1 + t318))) = false:=decide_eq_false c13
     clear c13
     have H':=mk0 H
     clear H
     have p315:0 ≤ (x6_1:Int):=of_decide_eq_true (by first|(with_reducible assumption)|assumption)
     have q315:x6_1 < (l0.length:Int):=of_decide_eq_true (by first|(with_reducible assumption)|assumption)
     obtain⟨ad315,e315,hx315_0⟩:=Kd.at_int HR0.out x6_1 p315 q315
     cases e315
     replace p315:=eq_true p315
     replace q315:=eq_true q315
     have p316:0 ≤ (x6_1:Int):=of_decide_eq_true (by first|(with_reducible assumption)|assumption)
     have q316:x6_1 < (l0.length:Int):=of_decide_eq_true (by first|(with_reducible assumption)|assumption)
     obtain⟨ad316,e316,hx316_0⟩:=Kd.at_int HR0.out x6_1 p316 q316
     obtain rfl:ad315 = ad316:=(by injection e316)
     replace p316:=eq_true p316
     replace q316:=eq_true q316
     have p317:0 ≤ (x6_1:Int):=of_decide_eq_true (by first|(with_reducible assumption)|assumption)
     have q317:x6_1 < (l0.length:Int):=of_decide_eq_true (by first|(with_reducible assumption)|assumption)
     obtain⟨ad317,e317,hx317_0⟩:=Kd.at_int HR0.out x6_1 p317 q317
     obtain rfl:ad315 = ad317:=(by injection e317)
     replace p317:=eq_true p317
     replace q317:=eq_true q317
     go_wp2_with (first|((with_reducible refine gate_callee (f:=37) rfl ?_);refine goesL_ (some 45) rfl rfl Try.func37 (by kernel_rfl) rfl #[.int .i64 (wrap64 (60 - (rd l0 x6_1)))] rfl (by (try simp only [mA,mC,mN]);first|done|rfl|(simp only [List.length_drop,List.length_take];done)|(simp only [List.length_drop,List.length_take];rfl)) ?_;(with_reducible refine (spec_l02Pow.calls kj3 (wrap64 (60 - (rd l0 x6_1))) t318 _ A11.out).mono ?_);rintro e w' ⟨rfl,⟨nd,rfl⟩⟩;refine⟨_,rfl,?_⟩)|((with_reducible refine gate_callee (f:=37) rfl ?_);refine goesL_ (some 48) rfl rfl Try.func37 (by kernel_rfl) rfl #[.int .i64 60] rfl (by (try simp only [mA,mC,mN]);first|done|rfl|(simp only [List.length_drop,List.length_take];done)|(simp only [List.length_drop,List.length_take];rfl)) ?_;(with_reducible refine (spec_l02Pow.calls kj3 60 t319 _ A12.out).mono ?_);rintro e w' ⟨rfl,⟨nd,rfl⟩⟩;refine⟨_,rfl,?_⟩))
     go_roundg kj3
     case measure=>have:=HK1.out;have:=HJ3.out;omega
     case rel=>exact⟨(wrap64 (x3_1 + 1)),(wrap64 (x4_1 + t318)),(rd l0 x6_1),(wrap64 (x6_1 + 1)),(by first|rfl|(simp;done)|(simp [*];done)),(by first|rfl|(simp;done)|(simp [*];done)),(by first|rfl|(simp;done)|(simp [*];done)),(by first|rfl|(simp;done)|(simp [*];done)),H',⟨by have:=HK1.out;have:=HJ3.out;omega⟩,by repeat (first|exact Drawn0.refl _|apply Drawn0.step)⟩
end Go.Proofs.Ytgjmmegmkdklbaa.QFnPrefix
