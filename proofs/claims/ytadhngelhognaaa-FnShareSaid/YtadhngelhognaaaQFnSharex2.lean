-- A walk, made by walk.py, a program of this session's.
import Derived.Test.YtadhngelhognaaaQFnSharex0
import Derived.Test.YtadhngelhognaaaQFnSharex1
namespace Go.Proofs.Ytadhngelhognaaa.QFnShare
open Go.RowKit Go.Proofs.YtadhngelhognaaaW.PrintWords Go.Proofs.YtadhngelhognaaaW.PrintLast Go.Proofs.YtadhngelhognaaaW.PrintMore
attribute [local go_sem] max2_int min2_int max_two min_two max_three min_three max_four min_four   -- for this text's walks alone
set_option linter.unusedVariables false
set_option linter.unusedSimpArgs false
/-! ### spec_l13Span: function 54 -/
mutual
def spec_l13Span.l0 : Nat → List (List Int) → List Int → Int → Int → Int → Option (Int × Int)
 | 0, _, _, _, _, _ => none
 | k + 1, x0, x1, x6, x7, x8 => if x8 < (x0.length : Int) then (if 0 ≤ x8 then ((spec_l05Cmp.f k (rd_L2 x0 x8) x1).bind fun t157 => (if t157 < 0 then (spec_l13Span.j1 k x0 x1 (wrap64 (x6 + 1)) x7 x8 t157) else (spec_l13Span.j1 k x0 x1 x6 x7 x8 t157))) else (none)) else (some (x6, x7))
def spec_l13Span.j1 : Nat → List (List Int) → List Int → Int → Int → Int → Int → Option (Int × Int)
 | 0, _, _, _, _, _, _ => none
 | k + 1, x0, x1, x6, x7, x8, x9 => if x9 ≤ 0 then (spec_l13Span.l0 k x0 x1 x6 (wrap64 (x7 + 1)) (wrap64 (x8 + 1))) else (spec_l13Span.l0 k x0 x1 x6 x7 (wrap64 (x8 + 1)))
end
def spec_l13Span.f (k : Nat) (l0 : List (List Int)) (l1 : List Int) : Option (Int × Int) := spec_l13Span.l0 k l0 l1 0 0 0
set_option maxHeartbeats 8000000 in
set_option maxRecDepth 100000 in
theorem spec_l13Span.calls (k : Nat) (A0 : Option Addr) (c0 : Nat) (l0 : List (List Int)) (A1 : Option Addr) (c1 : Nat) (l1 : List Int) (r1 : Int) (r2 : Int) (w : World) (hr0 : Kd.C (Kd.slice 5 (Kd.int .u8)) w A0 l0.length l0) (hc0 : l0.length ≤ c0) (hr1 : Kd.C (Kd.int .u8) w A1 l1.length l1) (hc1 : l1.length ≤ c1) (h : spec_l13Span.f k l0 l1 = some (r1, r2)) :
  Calls Try.prog 54 #[.slice A0 l0.length c0, .slice A1 l1.length c1] w fun e w' => e = .returned (.tuple #[.int .i64 r1, .int .i64 r2]) ∧ Drawn0 w w' := by
 have HR0:=mk0 hr0
 have HC0:=mk0 hc0
 clear hr0 hc0
 have HR1:=mk0 hr1
 have HC1:=mk0 hc1
 clear hr1 hc1
 have H:(spec_l13Span.l0 k l0 l1 0 0 0) = some (r1,r2):=h
 clear h
 have H':=mk0 H
 clear H
 go_enter Try.func54,Try.ntmps54
 go_wp2
 go_loopg [6,7,8] k (fun kq v6 v7 v8 w'=>∃ (x6_1:Int) (x7_1:Int) (x8_1:Int),v6 = .int .i64 x6_1 ∧ v7 = .int .i64 x7_1 ∧ v8 = .int .i64 x8_1 ∧ Aside0 (spec_l13Span.l0 kq l0 l1 x6_1 x7_1 x8_1 = some (r1,r2)) ∧ Aside0 (kq ≤ k) ∧ Drawn0 w w')
 case atStart=>exact⟨(0),(0),(0),eS,eS,eS,H',⟨Nat.le_refl _⟩,by repeat (first|exact Drawn0.refl _|apply Drawn0.step)⟩
 case round =>
  clear H'
  try clear c1
  try clear p2
  obtain⟨x6_1,x7_1,x8_1,rfl,rfl,rfl,HA,HK1,⟨m1,rfl⟩⟩:=hrel
  cases gk with
  | zero=>exact absurd HA.out (by simp [spec_l13Span.l0])
  | succ k1 =>
   have H:=HA.out
   clear HA
   simp only [spec_l13Span.l0] at H
   by_cases c3:x8_1 < (l0.length:Int)
   ·rw [if_pos c3] at H
    have c3b0:decide (x8_1 < (l0.length:Int)) = true:=decide_eq_true c3
    (try simp only [hl156_0] at c3b0)
    clear c3
    by_cases c4:0 ≤ x8_1
    ·rw [if_pos c4] at H
     have c4b0:decide (0 ≤ x8_1) = true:=decide_eq_true c4
     clear c4
     replace H:=bE H
     obtain⟨t157,A5,H⟩:=H
     have HC6:=mk0 H
     clear H
     have p156:0 ≤ (x8_1:Int):=oD
     have q156:x8_1 < (l0.length:Int):=oD
     obtain⟨ad156,A156_0,c156_0,e156,hx156_0,hl156_0,hi156_0⟩:=at_L2 HR0.out x8_1 p156 q156
     cases e156
     have HR156_0:=mk0 hi156_0
     have HC156_0:=mk0 hl156_0
     clear hi156_0 hl156_0
     replace p156:=eq_true p156
     replace q156:=eq_true q156
     go_upto_if 23 with (first|((with_reducible refine gate_callee (f:=53) rfl ?_);refine gL (some 21) Try.func53 #[.slice A156_0 (rd_L2 l0 x8_1).length c156_0,.slice A1 l1.length c1] ?_;(with_reducible refine (spec_l05Cmp.calls k1 _ _ (rd_L2 l0 x8_1) _ _ l1 t157 _ ?side1 ?side2 ?side3 ?side4 A5.out).mono ?_);(case side1=>exact kC HR156_0.out);(case side2=>exact HC156_0.out);(case side3=>exact kC HR1.out);(case side4=>exact HC1.out);rintro e w' ⟨rfl,⟨nd,rfl⟩⟩;refine⟨_,rfl,?_⟩))
     (try simp only [Act.put,sA,sO,sS])
     go_cut [6] (fun v6 wc=>∃ (kq:Nat) (x6_5:Int),v6 = .int .i64 x6_5 ∧ Aside0 (spec_l13Span.j1 kq l0 l1 x6_5 x7_1 x8_1 t157 = some (r1,r2)) ∧ Aside0 (kq ≤ k1) ∧ Drawn0 w wc)
     case first =>
      have H:=HC6.out
      clear HC6
      by_cases c7:t157 < 0
      ·rw [if_pos c7] at H
       have c7b0:decide (t157 < 0) = true:=decide_eq_true c7
       clear c7
       (first|rw [c7b0]|(simp only [i64_w,i32_w];rw [c7b0])|skip)
       have H':=mk0 H
       clear H
       go_wp2
       go_meet
       case rel=>exact⟨_,(wrap64 (x6_1 + 1)),eS,H',⟨by have:=HK1.out;first|omega|exact Nat.le_refl _⟩,by repeat (first|exact Drawn0.refl _|apply Drawn0.step)⟩
      ·rw [if_neg c7] at H
       have c7b0:decide (t157 < 0) = false:=decide_eq_false c7
       clear c7
       (first|rw [c7b0]|(simp only [i64_w,i32_w];rw [c7b0])|skip)
       have H':=mk0 H
       clear H
       go_wp2
       go_meet
       case rel=>exact⟨_,(x6_1),eS,H',⟨by have:=HK1.out;first|omega|exact Nat.le_refl _⟩,by repeat (first|exact Drawn0.refl _|apply Drawn0.step)⟩
     case rest =>
      clear HC6
      try clear c1
      try clear p1
      try clear q1
      try clear hx1
      try clear p2
      try clear c3
      try clear c3b0
      try clear c4
      try clear c4b0
      try clear c5
      try clear p6
      try clear c7
      try clear c7b0
      try clear hx156_0
      try clear p156
      try clear p2
      try clear q156
      obtain⟨kq,x6_5,rfl,HA,HJ5,⟨mc5,rfl⟩⟩:=hcut
      cases kq with
      | zero=>exact absurd HA.out (by simp [spec_l13Span.j1])
      | succ kj5 =>
       have H:=HA.out
       clear HA
       simp only [spec_l13Span.j1] at H
       by_cases c8:t157 ≤ 0
       ·rw [if_pos c8] at H
        have c8b0:decide (t157 ≤ 0) = true:=decide_eq_true c8
        clear c8
        have H':=mk0 H
        clear H
        go_wp2
        go_roundg kj5
        case measure=>have:=HK1.out;have:=HJ5.out;omega
        case rel=>exact⟨(x6_5),(wrap64 (x7_1 + 1)),(wrap64 (x8_1 + 1)),eS,eS,eS,H',⟨by have:=HK1.out;have:=HJ5.out;omega⟩,by repeat (first|exact Drawn0.refl _|apply Drawn0.step)⟩
       ·rw [if_neg c8] at H
        have c8b0:decide (t157 ≤ 0) = false:=decide_eq_false c8
        clear c8
        have H':=mk0 H
        clear H
        go_wp2
        go_roundg kj5
        case measure=>have:=HK1.out;have:=HJ5.out;omega
        case rel=>exact⟨(x6_5),(x7_1),(wrap64 (x8_1 + 1)),eS,eS,eS,H',⟨by have:=HK1.out;have:=HJ5.out;omega⟩,by repeat (first|exact Drawn0.refl _|apply Drawn0.step)⟩
    ·rw [if_neg c4] at H
     exact nn H
   ·rw [if_neg c3] at H
    have c3b0:decide (x8_1 < (l0.length:Int)) = false:=decide_eq_false c3
    (try simp only [hl156_0] at c3b0)
    clear c3
    simp only [Option.some.injEq,Prod.mk.injEq] at H
    obtain⟨rfl,rfl⟩:=H
    go_wp2
    go_ret2
    exact⟨by first|rfl|(simp;done)|(simp [*];done),by repeat (first|exact Drawn0.refl _|apply Drawn0.step)⟩
end Go.Proofs.Ytadhngelhognaaa.QFnShare
