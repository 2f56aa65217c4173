-- A walk, made by walk.py, a program of this session's.
import Derived.Test.YtadhngelhognaaaQFnSharex0
namespace Go.Proofs.Ytadhngelhognaaa.QFnShare
open Go.RowKit Go.Proofs.YtadhngelhognaaaW.PrintWords Go.Proofs.YtadhngelhognaaaW.PrintLast Go.Proofs.YtadhngelhognaaaW.PrintMore
attribute [local go_sem] max2_int min2_int max_two min_two max_three min_three max_four min_four   -- for this text's walks alone
set_option linter.unusedVariables false
set_option linter.unusedSimpArgs false
/-! ### spec_TextOk: function 48 -/
def spec_TextOk.f (l0 : List Int) : Option (Bool) := some (decide ((l0.length : Int) ≤ 300))
set_option maxHeartbeats 8000000 in
set_option maxRecDepth 100000 in
theorem spec_TextOk.calls (A0 : Option Addr) (c0 : Nat) (l0 : List Int) (r : Bool) (w : World) (hr0 : Kd.C (Kd.int .u8) w A0 l0.length l0) (hc0 : l0.length ≤ c0) (h : spec_TextOk.f l0 = some r) :
  Calls Try.prog 48 #[.slice A0 l0.length c0] w fun e w' => e = .returned (.bool r) ∧ Drawn0 w w' := by
 have HR0:=mk0 hr0
 have HC0:=mk0 hc0
 clear hr0 hc0
 have H:(some (decide ((l0.length:Int) ≤ 300))) = some r:=h
 clear h
 obtain rfl:=Option.some.inj H
 go_enter Try.func48,Try.ntmps48
 go_wp2
 go_ret
 exact⟨by first|rfl|(simp;done)|(simp [*];done),by repeat (first|exact Drawn0.refl _|apply Drawn0.step)⟩
/-! ### spec_l13Fit: function 35 -/
def spec_l13Fit.f (l0 : List Int) (l1 : List Int) (a2 : Int) : Option (Bool) := (spec_TextOk.f l0).bind fun t101 => (if t101 = true then ((spec_TextOk.f l1).bind fun t102 => (if t102 = true then (if a2 ≥ 0 then (some (decide (a2 ≤ 8))) else (some false)) else (some false))) else (some false))
set_option maxHeartbeats 8000000 in
set_option maxRecDepth 100000 in
theorem spec_l13Fit.calls (A0 : Option Addr) (c0 : Nat) (l0 : List Int) (A1 : Option Addr) (c1 : Nat) (l1 : List Int) (a2 : Int) (r : Bool) (w : World) (hr0 : Kd.C (Kd.int .u8) w A0 l0.length l0) (hc0 : l0.length ≤ c0) (hr1 : Kd.C (Kd.int .u8) w A1 l1.length l1) (hc1 : l1.length ≤ c1) (h : spec_l13Fit.f l0 l1 a2 = some r) :
  Calls Try.prog 35 #[.slice A0 l0.length c0, .slice A1 l1.length c1, .int .i64 a2] w fun e w' => e = .returned (.bool r) ∧ Drawn0 w w' := by
 have HR0:=mk0 hr0
 have HC0:=mk0 hc0
 clear hr0 hc0
 have HR1:=mk0 hr1
 have HC1:=mk0 hc1
 clear hr1 hc1
 have H:((spec_TextOk.f l0).bind fun t101=>(if t101 = true then ((spec_TextOk.f l1).bind fun t102=>(if t102 = true then (if a2 ≥ 0 then (some (decide (a2 ≤ 8))) else (some false)) else (some false))) else (some false))) = some r:=h
 clear h
 replace H:=bE H
 obtain⟨t101,A4,H⟩:=H
 by_cases c5:t101 = true
 ·subst c5
  replace H:=iT H
  replace H:=bE H
  obtain⟨t102,A6,H⟩:=H
  by_cases c7:t102 = true
  ·subst c7
   replace H:=iT H
   by_cases c8:a2 ≥ 0
   ·rw [if_pos c8] at H
    have c8b0:decide (0 ≤ a2) = true:=decide_eq_true c8
    clear c8
    obtain rfl:=Option.some.inj H
    go_enter Try.func35,Try.ntmps35
    go_wp2_with (first|((with_reducible refine gate_callee (f:=48) rfl ?_);refine gL (some 8) Try.func48 #[.slice A0 l0.length c0] ?_;(with_reducible refine (spec_TextOk.calls _ _ l0 true _ ?side1 ?side2 A4.out).mono ?_);(case side1=>exact kC HR0.out);(case side2=>exact HC0.out);rintro e w' ⟨rfl,⟨nd,rfl⟩⟩;refine⟨_,rfl,?_⟩)|(go_at_call 48;(with_reducible refine (spec_TextOk.calls _ _ l1 true _ ?side1 ?side2 A6.out).mono ?_);(case side1=>exact kC HR1.out);(case side2=>exact HC1.out);rintro e w' ⟨rfl,⟨nd,rfl⟩⟩))
    go_ret
    exact⟨by first|rfl|(simp;done)|(simp [*];done),by repeat (first|exact Drawn0.refl _|apply Drawn0.step)⟩
   ·rw [if_neg c8] at H
    have c8b0:decide (0 ≤ a2) = false:=decide_eq_false c8
    clear c8
    obtain rfl:=Option.some.inj H
    go_enter Try.func35,Try.ntmps35
    go_wp2_with (first|((with_reducible refine gate_callee (f:=48) rfl ?_);refine gL (some 8) Try.func48 #[.slice A0 l0.length c0] ?_;(with_reducible refine (spec_TextOk.calls _ _ l0 true _ ?side1 ?side2 A4.out).mono ?_);(case side1=>exact kC HR0.out);(case side2=>exact HC0.out);rintro e w' ⟨rfl,⟨nd,rfl⟩⟩;refine⟨_,rfl,?_⟩)|(go_at_call 48;(with_reducible refine (spec_TextOk.calls _ _ l1 true _ ?side1 ?side2 A6.out).mono ?_);(case side1=>exact kC HR1.out);(case side2=>exact HC1.out);rintro e w' ⟨rfl,⟨nd,rfl⟩⟩))
    go_ret
    exact⟨by first|rfl|(simp;done)|(simp [*];done),by repeat (first|exact Drawn0.refl _|apply Drawn0.step)⟩
  ·replace c7:=Bool.eq_false_iff.mpr c7
   subst c7
   replace H:=iF H
   obtain rfl:=Option.some.inj H
   go_enter Try.func35,Try.ntmps35
   go_wp2_with (first|((with_reducible refine gate_callee (f:=48) rfl ?_);refine gL (some 8) Try.func48 #[.slice A0 l0.length c0] ?_;(with_reducible refine (spec_TextOk.calls _ _ l0 true _ ?side1 ?side2 A4.out).mono ?_);(case side1=>exact kC HR0.out);(case side2=>exact HC0.out);rintro e w' ⟨rfl,⟨nd,rfl⟩⟩;refine⟨_,rfl,?_⟩)|(go_at_call 48;(with_reducible refine (spec_TextOk.calls _ _ l1 false _ ?side1 ?side2 A6.out).mono ?_);(case side1=>exact kC HR1.out);(case side2=>exact HC1.out);rintro e w' ⟨rfl,⟨nd,rfl⟩⟩))
   go_ret
   exact⟨by first|rfl|(simp;done)|(simp [*];done),by repeat (first|exact Drawn0.refl _|apply Drawn0.step)⟩
 ·replace c5:=Bool.eq_false_iff.mpr c5
  subst c5
  replace H:=iF H
  obtain rfl:=Option.some.inj H
  go_enter Try.func35,Try.ntmps35
  go_wp2_with (first|((with_reducible refine gate_callee (f:=48) rfl ?_);refine gL (some 8) Try.func48 #[.slice A0 l0.length c0] ?_;(with_reducible refine (spec_TextOk.calls _ _ l0 false _ ?side1 ?side2 A4.out).mono ?_);(case side1=>exact kC HR0.out);(case side2=>exact HC0.out);rintro e w' ⟨rfl,⟨nd,rfl⟩⟩;refine⟨_,rfl,?_⟩))
  go_ret
  exact⟨by first|rfl|(simp;done)|(simp [*];done),by repeat (first|exact Drawn0.refl _|apply Drawn0.step)⟩
/-! ### spec_l05Cmp: function 53 -/
mutual
def spec_l05Cmp.l0 : Nat → List Int → List Int → Int → Option (Int)
 | 0, _, _, _ => none
 | k + 1, x0, x1, x5 => if x5 < (x0.length : Int) then (spec_l05Cmp.j1 k x0 x1 x5 (decide (x5 < (x1.length : Int)))) else (spec_l05Cmp.j1 k x0 x1 x5 false)
def spec_l05Cmp.j1 : Nat → List Int → List Int → Int → Bool → Option (Int)
 | 0, _, _, _, _ => none
 | k + 1, x0, x1, x5, x15 => if x15 = true then (if 0 ≤ x5 then (if x5 < (x0.length : Int) then (if x5 < (x1.length : Int) then (if (rd x0 x5) < (rd x1 x5) then (some (-1)) else (if (rd x0 x5) > (rd x1 x5) then (some 1) else (spec_l05Cmp.l0 k x0 x1 (wrap64 (x5 + 1))))) else (none)) else (none)) else (none)) else (if (x0.length : Int) < (x1.length : Int) then (some (-1)) else (if (x0.length : Int) > (x1.length : Int) then (some 1) else (some 0)))
end
def spec_l05Cmp.f (k : Nat) (l0 : List Int) (l1 : List Int) : Option (Int) := spec_l05Cmp.l0 k l0 l1 0
set_option maxHeartbeats 8000000 in
set_option maxRecDepth 100000 in
theorem spec_l05Cmp.calls (k : Nat) (A0 : Option Addr) (c0 : Nat) (l0 : List Int) (A1 : Option Addr) (c1 : Nat) (l1 : List Int) (r : Int) (w : World) (hr0 : Kd.C (Kd.int .u8) w A0 l0.length l0) (hc0 : l0.length ≤ c0) (hr1 : Kd.C (Kd.int .u8) w A1 l1.length l1) (hc1 : l1.length ≤ c1) (h : spec_l05Cmp.f k l0 l1 = some r) :
  Calls Try.prog 53 #[.slice A0 l0.length c0, .slice A1 l1.length c1] w fun e w' => e = .returned (.int .i64 r) ∧ Drawn0 w w' := by
 have HR0:=mk0 hr0
 have HC0:=mk0 hc0
 clear hr0 hc0
 have HR1:=mk0 hr1
 have HC1:=mk0 hc1
 clear hr1 hc1
 have H:(spec_l05Cmp.l0 k l0 l1 0) = some r:=h
 clear h
 have H':=mk0 H
 clear H
 go_enter Try.func53,Try.ntmps53
 go_wp2
 repeat (go_quiet (fail);try go_wp2)
 go_loopg [5] k (fun kq v5 w'=>∃ (x5_1:Int),v5 = .int .i64 x5_1 ∧ Aside0 (spec_l05Cmp.l0 kq l0 l1 x5_1 = some r) ∧ Aside0 (kq ≤ k) ∧ Drawn0 w w')
 case atStart=>exact⟨(0),eS,H',⟨Nat.le_refl _⟩,by repeat (first|exact Drawn0.refl _|apply Drawn0.step)⟩
 case round =>
  clear H'
  try clear c1
  try clear p2
  obtain⟨x5_1,rfl,HA,HK1,⟨m1,rfl⟩⟩:=hrel
  cases gk with
  | zero=>exact absurd HA.out (by simp [spec_l05Cmp.l0])
  | succ k1 =>
   have H:=HA.out
   clear HA
   simp only [spec_l05Cmp.l0] at H
   have HC3:=mk0 H
   clear H
   go_upto_region 2 with (fail)
   repeat (go_quiet (fail);go_upto_region 2 with (fail))
   go_cut [15] (fun v15 wc=>∃ (kq:Nat) (x15_2:Bool),v15 = .bool x15_2 ∧ Aside0 (spec_l05Cmp.j1 kq l0 l1 x5_1 x15_2 = some r) ∧ Aside0 (kq ≤ k1) ∧ Drawn0 w wc)
   case first =>
    have H:=HC3.out
    clear HC3
    by_cases c4:x5_1 < (l0.length:Int)
    ·rw [if_pos c4] at H
     have c4b0:decide (x5_1 < (l0.length:Int)) = true:=decide_eq_true c4
     clear c4
     (first|rw [c4b0]|(simp only [i64_w,i32_w];rw [c4b0])|skip)
     have H':=mk0 H
     clear H
     go_wp2
     repeat (go_quiet (fail);try go_wp2)
     go_meet
     case rel=>exact⟨_,(decide (x5_1 < (l1.length:Int))),eS,H',⟨by have:=HK1.out;first|omega|exact Nat.le_refl _⟩,by repeat (first|exact Drawn0.refl _|apply Drawn0.step)⟩
    ·rw [if_neg c4] at H
     have c4b0:decide (x5_1 < (l0.length:Int)) = false:=decide_eq_false c4
     clear c4
     (first|rw [c4b0]|(simp only [i64_w,i32_w];rw [c4b0])|skip)
     have H':=mk0 H
     clear H
     go_wp2
     repeat (go_quiet (fail);try go_wp2)
     go_meet
     case rel=>exact⟨_,(false),eS,H',⟨by have:=HK1.out;first|omega|exact Nat.le_refl _⟩,by repeat (first|exact Drawn0.refl _|apply Drawn0.step)⟩
   case rest =>
    clear HC3
    try clear c1
    try clear p2
    try clear c4
    try clear c4b0
    try clear p2
    obtain⟨kq,x15_2,rfl,HA,HJ2,⟨mc2,rfl⟩⟩:=hcut
    cases kq with
    | zero=>exact absurd HA.out (by simp [spec_l05Cmp.j1])
    | succ kj2 =>
     have H:=HA.out
     clear HA
     simp only [spec_l05Cmp.j1] at H
     by_cases c5:x15_2 = true
     ·subst c5
      replace H:=iT H
      by_cases c6:0 ≤ x5_1
      ·rw [if_pos c6] at H
       have c6b0:decide (0 ≤ x5_1) = true:=decide_eq_true c6
       clear c6
       by_cases c7:x5_1 < (l0.length:Int)
       ·rw [if_pos c7] at H
        have c7b0:decide (x5_1 < (l0.length:Int)) = true:=decide_eq_true c7
        clear c7
        by_cases c8:x5_1 < (l1.length:Int)
        ·rw [if_pos c8] at H
         have c8b0:decide (x5_1 < (l1.length:Int)) = true:=decide_eq_true c8
         clear c8
         by_cases c9:(rd l0 x5_1) < (rd l1 x5_1)
         ·rw [if_pos c9] at H
          have c9b0:decide ((rd l0 x5_1) < (rd l1 x5_1)) = true:=decide_eq_true c9
          clear c9
          obtain rfl:=Option.some.inj H
          have p103:0 ≤ (x5_1:Int):=oD
          have q103:x5_1 < (l0.length:Int):=oD
          obtain⟨ad103,e103,hx103_0⟩:=Kd.at_int HR0.out x5_1 p103 q103
          cases e103
          replace p103:=eq_true p103
          replace q103:=eq_true q103
          have p104:0 ≤ (x5_1:Int):=oD
          have q104:x5_1 < (l1.length:Int):=oD
          obtain⟨ad104,e104,hx104_0⟩:=Kd.at_int HR1.out x5_1 p104 q104
          cases e104
          replace p104:=eq_true p104
          replace q104:=eq_true q104
          go_wp2
          repeat (go_quiet (fail);try go_wp2)
          go_ret
          exact⟨by first|rfl|(simp;done)|(simp [*];done),by repeat (first|exact Drawn0.refl _|apply Drawn0.step)⟩
         ·rw [if_neg c9] at H
          have c9b0:decide ((rd l0 x5_1) < (rd l1 x5_1)) = false:=decide_eq_false c9
          clear c9
          by_cases c10:(rd l0 x5_1) > (rd l1 x5_1)
          ·rw [if_pos c10] at H
           have c10b0:decide ((rd l1 x5_1) < (rd l0 x5_1)) = true:=decide_eq_true c10
           clear c10
           obtain rfl:=Option.some.inj H
           have p103:0 ≤ (x5_1:Int):=oD
           have q103:x5_1 < (l0.length:Int):=oD
           obtain⟨ad103,e103,hx103_0⟩:=Kd.at_int HR0.out x5_1 p103 q103
           cases e103
           replace p103:=eq_true p103
           replace q103:=eq_true q103
           have p104:0 ≤ (x5_1:Int):=oD
           have q104:x5_1 < (l1.length:Int):=oD
           obtain⟨ad104,e104,hx104_0⟩:=Kd.at_int HR1.out x5_1 p104 q104
           cases e104
           replace p104:=eq_true p104
           replace q104:=eq_true q104
           have p105:0 ≤ (x5_1:Int):=oD
           have q105:x5_1 < (l0.length:Int):=oD
           obtain⟨ad105,e105,hx105_0⟩:=Kd.at_int HR0.out x5_1 p105 q105
           obtain rfl:ad103 = ad105:=(by injection e105)
           replace p105:=eq_true p105
           replace q105:=eq_true q105
           have p106:0 ≤ (x5_1:Int):=oD
           have q106:x5_1 < (l1.length:Int):=oD
           obtain⟨ad106,e106,hx106_0⟩:=Kd.at_int HR1.out x5_1 p106 q106
           obtain rfl:ad104 = ad106:=(by injection e106)
           replace p106:=eq_true p106
           replace q106:=eq_true q106
           go_wp2
           repeat (go_quiet (fail);try go_wp2)
           go_ret
           exact⟨by first|rfl|(simp;done)|(simp [*];done),by repeat (first|exact Drawn0.refl _|apply Drawn0.step)⟩
          ·rw [if_neg c10] at H
           have c10b0:decide ((rd l1 x5_1) < (rd l0 x5_1)) = false:=decide_eq_false c10
           clear c10
           have H':=mk0 H
           clear H
           have p103:0 ≤ (x5_1:Int):=oD
           have q103:x5_1 < (l0.length:Int):=oD
           obtain⟨ad103,e103,hx103_0⟩:=Kd.at_int HR0.out x5_1 p103 q103
           cases e103
           replace p103:=eq_true p103
           replace q103:=eq_true q103
           have p104:0 ≤ (x5_1:Int):=oD
           have q104:x5_1 < (l1.length:Int):=oD
           obtain⟨ad104,e104,hx104_0⟩:=Kd.at_int HR1.out x5_1 p104 q104
           cases e104
           replace p104:=eq_true p104
           replace q104:=eq_true q104
           have p105:0 ≤ (x5_1:Int):=oD
           have q105:x5_1 < (l0.length:Int):=oD
           obtain⟨ad105,e105,hx105_0⟩:=Kd.at_int HR0.out x5_1 p105 q105
           obtain rfl:ad103 = ad105:=(by injection e105)
           replace p105:=eq_true p105
           replace q105:=eq_true q105
           have p106:0 ≤ (x5_1:Int):=oD
           have q106:x5_1 < (l1.length:Int):=oD
           obtain⟨ad106,e106,hx106_0⟩:=Kd.at_int HR1.out x5_1 p106 q106
           obtain rfl:ad104 = ad106:=(by injection e106)
           replace p106:=eq_true p106
           replace q106:=eq_true q106
           go_wp2
           repeat (go_quiet (fail);try go_wp2)
           go_roundg kj2
           case measure=>have:=HK1.out;have:=HJ2.out;omega
           case rel=>exact⟨(wrap64 (x5_1 + 1)),eS,H',⟨by have:=HK1.out;have:=HJ2.out;omega⟩,by repeat (first|exact Drawn0.refl _|apply Drawn0.step)⟩
        ·rw [if_neg c8] at H
         exact nn H
       ·rw [if_neg c7] at H
        exact nn H
      ·rw [if_neg c6] at H
       exact nn H
     ·replace c5:=Bool.eq_false_iff.mpr c5
      subst c5
      replace H:=iF H
      by_cases c11:(l0.length:Int) < (l1.length:Int)
      ·rw [if_pos c11] at H
       have c11b0:decide ((l0.length:Int) < (l1.length:Int)) = true:=decide_eq_true c11
       have c11b1:decide (l0.length < l1.length) = true:=decide_eq_true (Int.ofNat_lt.mp c11)
       clear c11
       obtain rfl:=Option.some.inj H
       go_wp2
       repeat (go_quiet (fail);try go_wp2)
       go_ret
       exact⟨by first|rfl|(simp;done)|(simp [*];done),by repeat (first|exact Drawn0.refl _|apply Drawn0.step)⟩
      ·rw [if_neg c11] at H
       have c11b0:decide ((l0.length:Int) < (l1.length:Int)) = false:=decide_eq_false c11
       have c11b1:decide (l0.length < l1.length) = false:=decide_eq_false (fun h=>c11 (Int.ofNat_lt.mpr h))
       clear c11
       by_cases c12:(l0.length:Int) > (l1.length:Int)
       ·rw [if_pos c12] at H
        have c12b0:decide ((l1.length:Int) < (l0.length:Int)) = true:=decide_eq_true c12
        have c12b1:decide (l1.length < l0.length) = true:=decide_eq_true (Int.ofNat_lt.mp c12)
        clear c12
        obtain rfl:=Option.some.inj H
        go_wp2
        repeat (go_quiet (fail);try go_wp2)
        go_ret
        exact⟨by first|rfl|(simp;done)|(simp [*];done),by repeat (first|exact Drawn0.refl _|apply Drawn0.step)⟩
       ·rw [if_neg c12] at H
        have c12b0:decide ((l1.length:Int) < (l0.length:Int)) = false:=decide_eq_false c12
        have c12b1:decide (l1.length < l0.length) = false:=decide_eq_false (fun h=>c12 (Int.ofNat_lt.mpr h))
        clear c12
        obtain rfl:=Option.some.inj H
        go_wp2
        repeat (go_quiet (fail);try go_wp2)
        go_ret
        exact⟨by first|rfl|(simp;done)|(simp [*];done),by repeat (first|exact Drawn0.refl _|apply Drawn0.step)⟩
/-! ### spec_SuffixRows: function 30 -/
mutual
def spec_SuffixRows.l0 : Nat → List Int → List Int → Int → Option (List Int)
 | 0, _, _, _ => none
 | k + 1, x0, x3, x4 => if x4 ≥ 0 then (spec_SuffixRows.l1 k x0 x3 x4 0 (x3.length : Int)) else (some x3)
def spec_SuffixRows.l1 : Nat → List Int → List Int → Int → Int → Int → Option (List Int)
 | 0, _, _, _, _, _ => none
 | k + 1, x0, x3, x4, x5, x6 => if x5 < x6 then (if 0 ≤ (wrap64 (Int.tdiv (wrap64 (x5 + x6)) 2)) then (if (wrap64 (Int.tdiv (wrap64 (x5 + x6)) 2)) < (x3.length : Int) then (if 0 ≤ (rd x3 (wrap64 (Int.tdiv (wrap64 (x5 + x6)) 2))) then (if (rd x3 (wrap64 (Int.tdiv (wrap64 (x5 + x6)) 2))) ≤ (x0.length : Int) then (if 0 ≤ x4 then (if x4 ≤ (x0.length : Int) then ((spec_l05Cmp.f k (x0.drop ((rd x3 (wrap64 (Int.tdiv (wrap64 (x5 + x6)) 2))) : Int).toNat) (x0.drop (x4 : Int).toNat)).bind fun t137 => (if t137 < 0 then (spec_SuffixRows.l1 k x0 x3 x4 (wrap64 ((wrap64 (Int.tdiv (wrap64 (x5 + x6)) 2)) + 1)) x6) else (spec_SuffixRows.l1 k x0 x3 x4 x5 (wrap64 (Int.tdiv (wrap64 (x5 + x6)) 2))))) else (none)) else (none)) else (none)) else (none)) else (none)) else (none)) else ((some (([x4] : List Int) : List Int)).bind fun y111 => (if 0 ≤ x5 then (if x5 ≤ (x3.length : Int) then ((some (x3.drop (x5 : Int).toNat : List Int)).bind fun y114 => (if y111.length + y114.length < 17592186044416 then ((some (y111 ++ y114 : List Int)).bind fun y118 => ((some (([] : List Int) : List Int)).bind fun y121 => ((some (x3.take (x5 : Int).toNat : List Int)).bind fun y124 => (if y121.length + y124.length < 17592186044416 then ((some (y121 ++ y124 : List Int)).bind fun y128 => (if y128.length + y118.length < 17592186044416 then (spec_SuffixRows.l0 k x0 (y128 ++ y118) (wrap64 (x4 - 1))) else (none))) else (none))))) else (none))) else (none)) else (none)))
end
def spec_SuffixRows.f (k : Nat) (l0 : List Int) : Option (List Int) := (spec_TextOk.f l0).bind fun t107 => (if t107 = true then (spec_SuffixRows.l0 k l0 (([] : List Int)) (l0.length : Int)) else (some ([] : List Int)))
set_option maxHeartbeats 8000000 in
set_option maxRecDepth 100000 in
theorem spec_SuffixRows.calls (k : Nat) (A0 : Option Addr) (c0 : Nat) (l0 : List Int) (r : List Int) (w : World) (hr0 : Kd.C (Kd.int .u8) w A0 l0.length l0) (hc0 : l0.length ≤ c0) (h : spec_SuffixRows.f k l0 = some r) :
  Calls Try.prog 30 #[.slice A0 l0.length c0] w fun e w' => ∃ v0_ : Value, e = .returned (v0_) ∧ Kd.R (Kd.int .i64) 3 w' w.heap.size (fun _ => True) v0_ r ∧ Below w.heap.size w w' := by
 have HR0:=mk0 hr0
 have HC0:=mk0 hc0
 clear hr0 hc0
 have HB:=mk0 (Below.refl w.heap.size w)
 have H:((spec_TextOk.f l0).bind fun t107=>(if t107 = true then (spec_SuffixRows.l0 k l0 (([]:List Int)) (l0.length:Int)) else (some ([]:List Int)))) = some r:=h
 clear h
 replace H:=bE H
 obtain⟨t107,A2,H⟩:=H
 by_cases c3:t107 = true
 rotate_left
 ·replace c3:=Bool.eq_false_iff.mpr c3
  subst c3
  replace H:=iF H
  obtain rfl:=Option.some.inj H
  go_enter Try.func30,Try.ntmps30
  go_wp2_with (first|(go_at_call 48;(with_reducible refine (spec_TextOk.calls _ _ l0 false _ ?side1 ?side2 A2.out).mono ?_);(case side1=>exact kC HR0.out);(case side2=>exact HC0.out);rintro e w' ⟨rfl,⟨nd,rfl⟩⟩;(try first|exact⟨rfl,_,World.drewN_drewN _ _ _⟩|exact⟨rfl,_,Eq.trans (World.drewN_drewN _ _ _) (congrArg (World.drewN _) (Nat.add_assoc _ _ _))⟩)))
  repeat (go_quiet (first|(go_at_call 48;(with_reducible refine (spec_TextOk.calls _ _ l0 false _ ?side1 ?side2 A2.out).mono ?_);(case side1=>exact kC HR0.out);(case side2=>exact HC0.out);rintro e w' ⟨rfl,⟨nd,rfl⟩⟩;(try first|exact⟨rfl,_,World.drewN_drewN _ _ _⟩|exact⟨rfl,_,Eq.trans (World.drewN_drewN _ _ _) (congrArg (World.drewN _) (Nat.add_assoc _ _ _))⟩)));try go_wp2_with (first|(go_at_call 48;(with_reducible refine (spec_TextOk.calls _ _ l0 false _ ?side1 ?side2 A2.out).mono ?_);(case side1=>exact kC HR0.out);(case side2=>exact HC0.out);rintro e w' ⟨rfl,⟨nd,rfl⟩⟩;(try first|exact⟨rfl,_,World.drewN_drewN _ _ _⟩|exact⟨rfl,_,Eq.trans (World.drewN_drewN _ _ _) (congrArg (World.drewN _) (Nat.add_assoc _ _ _))⟩))))
  go_ret
  exact⟨_,eR,by first|exact Kd.R_nil _ _ _ _ _|exact Kd.N_nil _ _ _ _ _|exact Kd.V_nil _ _ _ _ _|exact Kd.Q_nil _ _ _ _ _|exact Kd.S_nil _ _ _ _ _,kB HB.out⟩
 subst c3
 replace H:=iT H
 obtain⟨y108,hy108⟩:∃ y_:List Int,y_ = (([]:List Int)):=⟨_,rfl⟩
 first|(with_reducible replace H:=yB hy108 H)|rw [← hy108] at H|skip
 have Ny108:=mk0 hy108
 clear hy108
 have H':=mk0 H
 clear H
 go_enter Try.func30,Try.ntmps30
 go_wp2_with (first|(go_at_call 48;(with_reducible refine (spec_TextOk.calls _ _ l0 true _ ?side1 ?side2 A2.out).mono ?_);(case side1=>exact kC HR0.out);(case side2=>exact HC0.out);rintro e w' ⟨rfl,⟨nd,rfl⟩⟩;(try first|exact⟨rfl,_,World.drewN_drewN _ _ _⟩|exact⟨rfl,_,Eq.trans (World.drewN_drewN _ _ _) (congrArg (World.drewN _) (Nat.add_assoc _ _ _))⟩))|((with_reducible refine gate_dst (N:=12) rfl ?_);refine Kd.R_lit (Kd.int .i64) _ 3 ?hg (N:=12) ?hd (xs:=([]:List Int)) (inner:=[]) (ok:=fun _=>True) (okp:=fun _=>True) ?hr ?hp (fun _ hk=>hk) trivial (Below.refl _ _) (Nat.le_refl _) (by simp) ?_;(case hd=>rfl);(case hg=>rfl);(case hr=>first|(go_simp;done)|(go_simp;rfl));(case hp=>exact (Reps.none _ _));intro v109 w4 ho5 hb hg_ hnew_;clear hg_ hnew_;(first|rw [← Ny108.out] at ho5|(simp only [Int.reduceToNat] at ho5;rw [← Ny108.out] at ho5));have HO110:=mk0 (Kd.R_lower ho5 (kZ HB.out));replace HB:=mk0 (kS HB.out hb);clear hb ho5))
 repeat (go_quiet (first|(go_at_call 48;(with_reducible refine (spec_TextOk.calls _ _ l0 true _ ?side1 ?side2 A2.out).mono ?_);(case side1=>exact kC HR0.out);(case side2=>exact HC0.out);rintro e w' ⟨rfl,⟨nd,rfl⟩⟩;(try first|exact⟨rfl,_,World.drewN_drewN _ _ _⟩|exact⟨rfl,_,Eq.trans (World.drewN_drewN _ _ _) (congrArg (World.drewN _) (Nat.add_assoc _ _ _))⟩))|((with_reducible refine gate_dst (N:=12) rfl ?_);refine Kd.R_lit (Kd.int .i64) _ 3 ?hg (N:=12) ?hd (xs:=([]:List Int)) (inner:=[]) (ok:=fun _=>True) (okp:=fun _=>True) ?hr ?hp (fun _ hk=>hk) trivial (Below.refl _ _) (Nat.le_refl _) (by simp) ?_;(case hd=>rfl);(case hg=>rfl);(case hr=>first|(go_simp;done)|(go_simp;rfl));(case hp=>exact (Reps.none _ _));intro v109 w4 ho5 hb hg_ hnew_;clear hg_ hnew_;(first|rw [← Ny108.out] at ho5|(simp only [Int.reduceToNat] at ho5;rw [← Ny108.out] at ho5));have HO110:=mk0 (Kd.R_lower ho5 (kZ HB.out));replace HB:=mk0 (kS HB.out hb);clear hb ho5));try go_wp2_with (first|(go_at_call 48;(with_reducible refine (spec_TextOk.calls _ _ l0 true _ ?side1 ?side2 A2.out).mono ?_);(case side1=>exact kC HR0.out);(case side2=>exact HC0.out);rintro e w' ⟨rfl,⟨nd,rfl⟩⟩;(try first|exact⟨rfl,_,World.drewN_drewN _ _ _⟩|exact⟨rfl,_,Eq.trans (World.drewN_drewN _ _ _) (congrArg (World.drewN _) (Nat.add_assoc _ _ _))⟩))|((with_reducible refine gate_dst (N:=12) rfl ?_);refine Kd.R_lit (Kd.int .i64) _ 3 ?hg (N:=12) ?hd (xs:=([]:List Int)) (inner:=[]) (ok:=fun _=>True) (okp:=fun _=>True) ?hr ?hp (fun _ hk=>hk) trivial (Below.refl _ _) (Nat.le_refl _) (by simp) ?_;(case hd=>rfl);(case hg=>rfl);(case hr=>first|(go_simp;done)|(go_simp;rfl));(case hp=>exact (Reps.none _ _));intro v109 w4 ho5 hb hg_ hnew_;clear hg_ hnew_;(first|rw [← Ny108.out] at ho5|(simp only [Int.reduceToNat] at ho5;rw [← Ny108.out] at ho5));have HO110:=mk0 (Kd.R_lower ho5 (kZ HB.out));replace HB:=mk0 (kS HB.out hb);clear hb ho5)))
 go_loopg [3,4] k (fun kq v3 v4 w'=>∃ (x3_1:List Int) (x4_1:Int),v4 = .int .i64 x4_1 ∧ Aside0 (spec_SuffixRows.l0 kq l0 x3_1 x4_1 = some r) ∧ Aside0 (kq ≤ k) ∧ Aside0 (Kd.R (Kd.int .i64) 3 w' w.heap.size (fun _=>True) v3 x3_1) ∧ Aside0 (Below w.heap.size w w'))
 case atStart=>exact⟨(y108),((l0.length:Int)),eS,H',⟨Nat.le_refl _⟩,⟨rR HO110.out⟩,⟨kB HB.out⟩⟩
 case round =>
  clear H'
  try clear p2
  try clear c3
  obtain⟨x3_1,x4_1,rfl,HA,HK1,HO_3,HB⟩:=hrel
  cases gk with
  | zero=>exact absurd HA.out (by simp [spec_SuffixRows.l0])
  | succ k1 =>
   have H:=HA.out
   clear HA
   simp only [spec_SuffixRows.l0] at H
   by_cases c6:x4_1 ≥ 0
   rotate_left
   ·rw [if_neg c6] at H
    have c6b0:decide (0 ≤ x4_1) = false:=decide_eq_false c6
    clear c6
    obtain rfl:=Option.some.inj H
    go_wp2
    repeat (go_quiet (fail);try go_wp2)
    go_ret
    exact⟨_,eR,rR HO_3.out,kB HB.out⟩
   rw [if_pos c6] at H
   have c6b0:decide (0 ≤ x4_1) = true:=decide_eq_true c6
   clear c6
   have H':=mk0 H
   clear H
   obtain⟨Ao7,co7,eo7⟩:=Kd.R_slice HO_3.out
   subst eo7
   go_wp2
   repeat (go_quiet (fail);try go_wp2)
   go_loopg [5,6] k1 (fun kq v5 v6 w'=>∃ (x5_2:Int) (x6_2:Int),v5 = .int .i64 x5_2 ∧ v6 = .int .i64 x6_2 ∧ Aside0 (spec_SuffixRows.l1 kq l0 x3_1 x4_1 x5_2 x6_2 = some r) ∧ Aside0 (kq ≤ k1) ∧ Aside0 (Kd.R (Kd.int .i64) 3 w' w.heap.size (fun _=>True) (.slice Ao7 x3_1.length co7) x3_1) ∧ Aside0 (Below w.heap.size w w'))
   case atStart=>exact⟨(0),((x3_1.length:Int)),eS,eS,H',⟨Nat.le_refl _⟩,⟨rR HO_3.out⟩,⟨kB HB.out⟩⟩
   case round =>
    clear H'
    try clear p2
    try clear c3
    try clear c6
    try clear c6b0
    try clear p2
    obtain⟨x5_2,x6_2,rfl,rfl,HA,HK2,HO_3,HB⟩:=hrel
    cases gk with
    | zero=>exact absurd HA.out (by simp [spec_SuffixRows.l1])
    | succ k2 =>
     have H:=HA.out
     clear HA
     simp only [spec_SuffixRows.l1] at H
     by_cases c8:x5_2 < x6_2
     ·rw [if_pos c8] at H
      have c8b0:decide (x5_2 < x6_2) = true:=decide_eq_true c8
      clear c8
      obtain⟨ji9,hji9⟩:∃ j_:Int,(wrap64 (Int.tdiv (wrap64 (x5_2 + x6_2)) 2)) = j_:=⟨_,rfl⟩
      first|rw [hji9] at H|simp only [hji9] at H
      have hji9w:(IntKind.i64.wrap (Int.tdiv (wrap64 (x5_2 + x6_2)) 2)) = ji9:=(i64_w _).trans hji9
      by_cases c10:0 ≤ (ji9)
      rotate_left
      ·rw [if_neg c10] at H
       exact nn H
      rw [if_pos c10] at H
      have c10b0:decide (0 ≤ (ji9)) = true:=decide_eq_true c10
      clear c10
      by_cases c11:(ji9) < (x3_1.length:Int)
      rotate_left
      ·rw [if_neg c11] at H
       exact nn H
      rw [if_pos c11] at H
      have c11b0:decide ((ji9) < (x3_1.length:Int)) = true:=decide_eq_true c11
      clear c11
      by_cases c12:0 ≤ (rd x3_1 (ji9))
      rotate_left
      ·rw [if_neg c12] at H
       exact nn H
      rw [if_pos c12] at H
      have c12b0:=eq_true c12
      have c12b1:decide (0 ≤ (rd x3_1 (ji9))) = true:=decide_eq_true c12
      clear c12
      by_cases c13:(rd x3_1 (ji9)) ≤ (l0.length:Int)
      rotate_left
      ·rw [if_neg c13] at H
       exact nn H
      rw [if_pos c13] at H
      have c13b0:=eq_true c13
      have c13b1:decide ((rd x3_1 (ji9)) ≤ (l0.length:Int)) = true:=decide_eq_true c13
      clear c13
      by_cases c14:0 ≤ x4_1
      rotate_left
      ·rw [if_neg c14] at H
       exact nn H
      rw [if_pos c14] at H
      have c14b0:=eq_true c14
      have c14b1:decide (0 ≤ x4_1) = true:=decide_eq_true c14
      clear c14
      by_cases c15:x4_1 ≤ (l0.length:Int)
      rotate_left
      ·rw [if_neg c15] at H
       exact nn H
      rw [if_pos c15] at H
      have c15b0:=eq_true c15
      have c15b1:decide (x4_1 ≤ (l0.length:Int)) = true:=decide_eq_true c15
      clear c15
      replace H:=bE H
      obtain⟨t137,A16,H⟩:=H
      by_cases c17:t137 < 0
      rotate_left
      ·rw [if_neg c17] at H
       have c17b0:decide (t137 < 0) = false:=decide_eq_false c17
       clear c17
       have H':=mk0 H
       clear H
       have p134:0 ≤ ((ji9):Int):=oD
       have q134:(ji9) < (x3_1.length:Int):=oD
       obtain⟨ad134,e134,hx134_0⟩:=Kd.at_int (Kd.R_reads' HO_3.out).2.2 (ji9) p134 q134
       cases e134
       replace p134:=eq_true p134
       replace q134:=eq_true q134
       obtain⟨i020,hi020,_,hsz20,_⟩:=info_parts info5
       obtain⟨A20,hcut20,hA20,hC20⟩:=print_drop_of (P:=Try.prog) (Value.int .u8) 0 22 5 .i64 Try.underlying22 hi020 hsz20 A0 c0 l0 (rd x3_1 (ji9)) (oD) (oD) HC0.out
       have HR135:=mk0 (Kd.C_of_reads (h1:=fun _=>rfl) (hA20 _ (Kd.reads_of_C HR0.out)))
       have HC135:=mk0 hC20
       clear hA20 hC20 hi020 hsz20
       obtain⟨i021,hi021,_,hsz21,_⟩:=info_parts info5
       obtain⟨A21,hcut21,hA21,hC21⟩:=print_drop_of (P:=Try.prog) (Value.int .u8) 0 22 5 .i64 Try.underlying22 hi021 hsz21 A0 c0 l0 x4_1 (oD) (oD) HC0.out
       have HR136:=mk0 (Kd.C_of_reads (h1:=fun _=>rfl) (hA21 _ (Kd.reads_of_C HR0.out)))
       have HC136:=mk0 hC21
       clear hA21 hC21 hi021 hsz21
       go_wp2_with (first|(go_at_call 53;refine calls_of_args (args':=#[.slice A20 (l0.drop ((rd x3_1 (ji9)):Int).toNat).length (c0 - (rd x3_1 (ji9)).toNat),.slice A21 (l0.drop (x4_1:Int).toNat).length (c0 - x4_1.toNat)]) (by first|(rw [show (l0.drop ((rd x3_1 (ji9)):Int).toNat).length = (l0.length - (rd x3_1 (ji9)).toNat) from List.length_drop] <;> rfl)|(rw [show (l0.drop (x4_1:Int).toNat).length = (l0.length - x4_1.toNat) from List.length_drop] <;> rfl)|rfl|(simp only [List.length_drop,List.length_take];done)|(simp only [List.length_drop,List.length_take];rfl)) ?_;(with_reducible refine (spec_l05Cmp.calls k2 _ _ (l0.drop ((rd x3_1 (ji9)):Int).toNat) _ _ (l0.drop (x4_1:Int).toNat) t137 _ ?side1 ?side2 ?side3 ?side4 A16.out).mono ?_);(case side1=>exact kC (Kd.C_below HR135.out HB.out));(case side2=>exact HC135.out);(case side3=>exact kC (Kd.C_below HR136.out HB.out));(case side4=>exact HC136.out);rintro e w' ⟨rfl,⟨nd,rfl⟩⟩;(try first|exact⟨rfl,_,World.drewN_drewN _ _ _⟩|exact⟨rfl,_,Eq.trans (World.drewN_drewN _ _ _) (congrArg (World.drewN _) (Nat.add_assoc _ _ _))⟩)))
       repeat (go_quiet (first|(go_at_call 53;refine calls_of_args (args':=#[.slice A20 (l0.drop ((rd x3_1 (ji9)):Int).toNat).length (c0 - (rd x3_1 (ji9)).toNat),.slice A21 (l0.drop (x4_1:Int).toNat).length (c0 - x4_1.toNat)]) (by first|(rw [show (l0.drop ((rd x3_1 (ji9)):Int).toNat).length = (l0.length - (rd x3_1 (ji9)).toNat) from List.length_drop] <;> rfl)|(rw [show (l0.drop (x4_1:Int).toNat).length = (l0.length - x4_1.toNat) from List.length_drop] <;> rfl)|rfl|(simp only [List.length_drop,List.length_take];done)|(simp only [List.length_drop,List.length_take];rfl)) ?_;(with_reducible refine (spec_l05Cmp.calls k2 _ _ (l0.drop ((rd x3_1 (ji9)):Int).toNat) _ _ (l0.drop (x4_1:Int).toNat) t137 _ ?side1 ?side2 ?side3 ?side4 A16.out).mono ?_);(case side1=>exact kC (Kd.C_below HR135.out HB.out));(case side2=>exact HC135.out);(case side3=>exact kC (Kd.C_below HR136.out HB.out));(case side4=>exact HC136.out);rintro e w' ⟨rfl,⟨nd,rfl⟩⟩;(try first|exact⟨rfl,_,World.drewN_drewN _ _ _⟩|exact⟨rfl,_,Eq.trans (World.drewN_drewN _ _ _) (congrArg (World.drewN _) (Nat.add_assoc _ _ _))⟩)));try go_wp2_with (first|(go_at_call 53;refine calls_of_args (args':=#[.slice A20 (l0.drop ((rd x3_1 (ji9)):Int).toNat).length (c0 - (rd x3_1 (ji9)).toNat),.slice A21 (l0.drop (x4_1:Int).toNat).length (c0 - x4_1.toNat)]) (by first|(rw [show (l0.drop ((rd x3_1 (ji9)):Int).toNat).length = (l0.length - (rd x3_1 (ji9)).toNat) from List.length_drop] <;> rfl)|(rw [show (l0.drop (x4_1:Int).toNat).length = (l0.length - x4_1.toNat) from List.length_drop] <;> rfl)|rfl|(simp only [List.length_drop,List.length_take];done)|(simp only [List.length_drop,List.length_take];rfl)) ?_;(with_reducible refine (spec_l05Cmp.calls k2 _ _ (l0.drop ((rd x3_1 (ji9)):Int).toNat) _ _ (l0.drop (x4_1:Int).toNat) t137 _ ?side1 ?side2 ?side3 ?side4 A16.out).mono ?_);(case side1=>exact kC (Kd.C_below HR135.out HB.out));(case side2=>exact HC135.out);(case side3=>exact kC (Kd.C_below HR136.out HB.out));(case side4=>exact HC136.out);rintro e w' ⟨rfl,⟨nd,rfl⟩⟩;(try first|exact⟨rfl,_,World.drewN_drewN _ _ _⟩|exact⟨rfl,_,Eq.trans (World.drewN_drewN _ _ _) (congrArg (World.drewN _) (Nat.add_assoc _ _ _))⟩))))
       go_roundg k2
       case measure=>have:=HK1.out;have:=HK2.out;omega
       case rel=>exact⟨(x5_2),(ji9),eS,(by first|rfl|(simp;done)|(simp only [← hji9] <;> (first|rfl|simp))|(simp [*];done)),H',⟨by have:=HK1.out;have:=HK2.out;omega⟩,⟨rR HO_3.out⟩,⟨kB HB.out⟩⟩
      rw [if_pos c17] at H
      have c17b0:decide (t137 < 0) = true:=decide_eq_true c17
      clear c17
      have H':=mk0 H
      clear H
      have p134:0 ≤ ((ji9):Int):=oD
      have q134:(ji9) < (x3_1.length:Int):=oD
      obtain⟨ad134,e134,hx134_0⟩:=Kd.at_int (Kd.R_reads' HO_3.out).2.2 (ji9) p134 q134
      cases e134
      replace p134:=eq_true p134
      replace q134:=eq_true q134
      obtain⟨i018,hi018,_,hsz18,_⟩:=info_parts info5
      obtain⟨A18,hcut18,hA18,hC18⟩:=print_drop_of (P:=Try.prog) (Value.int .u8) 0 22 5 .i64 Try.underlying22 hi018 hsz18 A0 c0 l0 (rd x3_1 (ji9)) (oD) (oD) HC0.out
      have HR135:=mk0 (Kd.C_of_reads (h1:=fun _=>rfl) (hA18 _ (Kd.reads_of_C HR0.out)))
      have HC135:=mk0 hC18
      clear hA18 hC18 hi018 hsz18
      obtain⟨i019,hi019,_,hsz19,_⟩:=info_parts info5
      obtain⟨A19,hcut19,hA19,hC19⟩:=print_drop_of (P:=Try.prog) (Value.int .u8) 0 22 5 .i64 Try.underlying22 hi019 hsz19 A0 c0 l0 x4_1 (oD) (oD) HC0.out
      have HR136:=mk0 (Kd.C_of_reads (h1:=fun _=>rfl) (hA19 _ (Kd.reads_of_C HR0.out)))
      have HC136:=mk0 hC19
      clear hA19 hC19 hi019 hsz19
      go_wp2_with (first|(go_at_call 53;refine calls_of_args (args':=#[.slice A18 (l0.drop ((rd x3_1 (ji9)):Int).toNat).length (c0 - (rd x3_1 (ji9)).toNat),.slice A19 (l0.drop (x4_1:Int).toNat).length (c0 - x4_1.toNat)]) (by first|(rw [show (l0.drop ((rd x3_1 (ji9)):Int).toNat).length = (l0.length - (rd x3_1 (ji9)).toNat) from List.length_drop] <;> rfl)|(rw [show (l0.drop (x4_1:Int).toNat).length = (l0.length - x4_1.toNat) from List.length_drop] <;> rfl)|rfl|(simp only [List.length_drop,List.length_take];done)|(simp only [List.length_drop,List.length_take];rfl)) ?_;(with_reducible refine (spec_l05Cmp.calls k2 _ _ (l0.drop ((rd x3_1 (ji9)):Int).toNat) _ _ (l0.drop (x4_1:Int).toNat) t137 _ ?side1 ?side2 ?side3 ?side4 A16.out).mono ?_);(case side1=>exact kC (Kd.C_below HR135.out HB.out));(case side2=>exact HC135.out);(case side3=>exact kC (Kd.C_below HR136.out HB.out));(case side4=>exact HC136.out);rintro e w' ⟨rfl,⟨nd,rfl⟩⟩;(try first|exact⟨rfl,_,World.drewN_drewN _ _ _⟩|exact⟨rfl,_,Eq.trans (World.drewN_drewN _ _ _) (congrArg (World.drewN _) (Nat.add_assoc _ _ _))⟩)))
      repeat (go_quiet (first|(go_at_call 53;refine calls_of_args (args':=#[.slice A18 (l0.drop ((rd x3_1 (ji9)):Int).toNat).length (c0 - (rd x3_1 (ji9)).toNat),.slice A19 (l0.drop (x4_1:Int).toNat).length (c0 - x4_1.toNat)]) (by first|(rw [show (l0.drop ((rd x3_1 (ji9)):Int).toNat).length = (l0.length - (rd x3_1 (ji9)).toNat) from List.length_drop] <;> rfl)|(rw [show (l0.drop (x4_1:Int).toNat).length = (l0.length - x4_1.toNat) from List.length_drop] <;> rfl)|rfl|(simp only [List.length_drop,List.length_take];done)|(simp only [List.length_drop,List.length_take];rfl)) ?_;(with_reducible refine (spec_l05Cmp.calls k2 _ _ (l0.drop ((rd x3_1 (ji9)):Int).toNat) _ _ (l0.drop (x4_1:Int).toNat) t137 _ ?side1 ?side2 ?side3 ?side4 A16.out).mono ?_);(case side1=>exact kC (Kd.C_below HR135.out HB.out));(case side2=>exact HC135.out);(case side3=>exact kC (Kd.C_below HR136.out HB.out));(case side4=>exact HC136.out);rintro e w' ⟨rfl,⟨nd,rfl⟩⟩;(try first|exact⟨rfl,_,World.drewN_drewN _ _ _⟩|exact⟨rfl,_,Eq.trans (World.drewN_drewN _ _ _) (congrArg (World.drewN _) (Nat.add_assoc _ _ _))⟩)));try go_wp2_with (first|(go_at_call 53;refine calls_of_args (args':=#[.slice A18 (l0.drop ((rd x3_1 (ji9)):Int).toNat).length (c0 - (rd x3_1 (ji9)).toNat),.slice A19 (l0.drop (x4_1:Int).toNat).length (c0 - x4_1.toNat)]) (by first|(rw [show (l0.drop ((rd x3_1 (ji9)):Int).toNat).length = (l0.length - (rd x3_1 (ji9)).toNat) from List.length_drop] <;> rfl)|(rw [show (l0.drop (x4_1:Int).toNat).length = (l0.length - x4_1.toNat) from List.length_drop] <;> rfl)|rfl|(simp only [List.length_drop,List.length_take];done)|(simp only [List.length_drop,List.length_take];rfl)) ?_;(with_reducible refine (spec_l05Cmp.calls k2 _ _ (l0.drop ((rd x3_1 (ji9)):Int).toNat) _ _ (l0.drop (x4_1:Int).toNat) t137 _ ?side1 ?side2 ?side3 ?side4 A16.out).mono ?_);(case side1=>exact kC (Kd.C_below HR135.out HB.out));(case side2=>exact HC135.out);(case side3=>exact kC (Kd.C_below HR136.out HB.out));(case side4=>exact HC136.out);rintro e w' ⟨rfl,⟨nd,rfl⟩⟩;(try first|exact⟨rfl,_,World.drewN_drewN _ _ _⟩|exact⟨rfl,_,Eq.trans (World.drewN_drewN _ _ _) (congrArg (World.drewN _) (Nat.add_assoc _ _ _))⟩))))
      go_roundg k2
      case measure=>have:=HK1.out;have:=HK2.out;omega
      case rel=>exact⟨(wrap64 ((ji9) + 1)),(x6_2),(by first|rfl|(simp;done)|(simp only [← hji9] <;> (first|rfl|simp))|(simp [*];done)),eS,H',⟨by have:=HK1.out;have:=HK2.out;omega⟩,⟨rR HO_3.out⟩,⟨kB HB.out⟩⟩
     rw [if_neg c8] at H
     have c8b0:decide (x5_2 < x6_2) = false:=decide_eq_false c8
     clear c8
     obtain⟨y111,hy111⟩:∃ y_:List Int,y_ = (([x4_1]:List Int)):=⟨_,rfl⟩
     first|(with_reducible replace H:=yB hy111 H)|rw [← hy111] at H|skip
     have Ny111:=mk0 hy111
     clear hy111
     by_cases c22:0 ≤ x5_2
     rotate_left
     ·rw [if_neg c22] at H
      exact nn H
     rw [if_pos c22] at H
     have c22b0:=eq_true c22
     have c22b1:decide (0 ≤ x5_2) = true:=decide_eq_true c22
     clear c22
     by_cases c23:x5_2 ≤ (x3_1.length:Int)
     rotate_left
     ·rw [if_neg c23] at H
      exact nn H
     rw [if_pos c23] at H
     have c23b0:=eq_true c23
     have c23b1:decide (x5_2 ≤ (x3_1.length:Int)) = true:=decide_eq_true c23
     clear c23
     obtain⟨y114,hy114⟩:∃ y_:List Int,y_ = (x3_1.drop (x5_2:Int).toNat):=⟨_,rfl⟩
     first|(with_reducible replace H:=yB hy114 H)|rw [← hy114] at H|skip
     have Ny114:=mk0 hy114
     clear hy114
     by_cases c24:y111.length + y114.length < 17592186044416
     rotate_left
     ·rw [if_neg c24] at H
      exact nn H
     rw [if_pos c24] at H
     have LMc24:=mk0 c24
     clear c24
     obtain⟨y118,hy118⟩:∃ y_:List Int,y_ = (y111 ++ y114):=⟨_,rfl⟩
     first|(with_reducible replace H:=yB hy118 H)|rw [← hy118] at H|skip
     have Ny118:=mk0 hy118
     clear hy118
     obtain⟨y121,hy121⟩:∃ y_:List Int,y_ = (([]:List Int)):=⟨_,rfl⟩
     first|(with_reducible replace H:=yB hy121 H)|rw [← hy121] at H|skip
     have Ny121:=mk0 hy121
     clear hy121
     have c25b0:=eq_true (oD:0 ≤ x5_2)
     have c26b0:=eq_true (oD:x5_2 ≤ (x3_1.length:Int))
     obtain⟨y124,hy124⟩:∃ y_:List Int,y_ = (x3_1.take (x5_2:Int).toNat):=⟨_,rfl⟩
     first|(with_reducible replace H:=yB hy124 H)|rw [← hy124] at H|skip
     have Ny124:=mk0 hy124
     clear hy124
     by_cases c27:y121.length + y124.length < 17592186044416
     rotate_left
     ·rw [if_neg c27] at H
      exact nn H
     rw [if_pos c27] at H
     have LMc27:=mk0 c27
     clear c27
     obtain⟨y128,hy128⟩:∃ y_:List Int,y_ = (y121 ++ y124):=⟨_,rfl⟩
     first|(with_reducible replace H:=yB hy128 H)|rw [← hy128] at H|skip
     have Ny128:=mk0 hy128
     clear hy128
     by_cases c28:y128.length + y118.length < 17592186044416
     rotate_left
     ·rw [if_neg c28] at H
      exact nn H
     rw [if_pos c28] at H
     have LMc28:=mk0 c28
     clear c28
     obtain⟨y131,hy131⟩:∃ y_:List Int,y_ = (y128 ++ y118):=⟨_,rfl⟩
     first|(with_reducible replace H:=yB hy131 H)|rw [← hy131] at H|skip
     have Ny131:=mk0 hy131
     clear hy131
     have H':=mk0 H
     clear H
     go_wp2_with (first|((with_reducible refine gate_dst (N:=43) rfl ?_);refine Kd.R_lit (Kd.int .i64) _ 3 ?hg (N:=43) ?hd (xs:=([x4_1]:List Int)) (inner:=[.int .i64 x4_1]) (ok:=fun _=>True) (okp:=fun _=>True) ?hr ?hp (fun _ hk=>hk) trivial (Below.refl _ _) (Nat.le_refl _) (by simp) ?_;(case hd=>rfl);(case hg=>rfl);(case hr=>first|(go_simp;done)|(go_simp;rfl));(case hp=>exact (Reps.one (show Kd.M (Kd.int .i64) _ _ _ x4_1 [.int .i64 x4_1] from rfl) (Reps.none _ _)));intro v112 w29 ho30 hb hg_ hnew_;clear hg_ hnew_;(first|rw [← Ny111.out] at ho30|(simp only [Int.reduceToNat] at ho30;rw [← Ny111.out] at ho30));have HO113:=mk0 (Kd.R_lower (Kd.R_new' ho30 (Kd.R_lt (rR HO_3.out))) (kZ HB.out));replace HO_3:=mk0 (Kd.R_elder' (rR HO_3.out) (Kd.R_base ho30) hb);replace HB:=mk0 (kS HB.out hb);clear hb ho30;have q31:(x5_2:Int) ≤ ((x3_1.length:Int):Int):=oD;obtain⟨i031,hi031,_,hsz31,_⟩:=info_parts info3;have hroom31:x3_1.length ≤ co7:=(Kd.R_reads' HO_3.out).2.1;have hC31:Kd.C (Kd.int .i64) _ Ao7 x3_1.length x3_1:=(Kd.R_reads' HO_3.out).2.2;have q031:(0:Int) ≤ (x5_2:Int):=oD;have hcut31:=cut_from (P:=Try.prog) 45 3 .i64 Try.underlying45 hi031 1 hsz31 Ao7 x3_1.length co7 x5_2 q031 q31;have hr31:=Kd.C_drop (m:=(x5_2:Int).toNat) (c:=co7) hC31 (by omega) hroom31;obtain⟨A31,hA31⟩:∃ A1,A1 = (if co7 = (x5_2:Int).toNat then Ao7 else (Ao7:Option Addr).map (·.add ((x5_2:Int).toNat * 1))):=⟨_,rfl⟩;obtain⟨c31,hc31⟩:∃ c1,c1 = co7 - (x5_2:Int).toNat:=⟨_,rfl⟩;have hy31:y114.length = x3_1.length - (x5_2:Int).toNat:=(by rw [Ny114.out,List.length_drop] <;> omega);rw [show (x3_1).drop (x5_2:Int).toNat = y114 from Ny114.out.symm] at hr31;replace hr31:Kd.C (Kd.int .i64) _ A31 y114.length y114:=(by rw [hA31];exact hr31);rw [← hy31, ← hA31, ← hc31] at hcut31;have HR117:=mk0 hr31;have HC117:=mk0 (show y114.length ≤ c31 from by rw [hy31,hc31];exact Nat.sub_le_sub_right hroom31 _);clear hr31 hC31 hroom31 hi031 hsz31 hc31;have KY31:=mk0 hy31;have KA31:=mk0 hA31;clear hy31 hA31;have KL31:=mk0 (show (x5_2:Int).toNat ≤ x3_1.length from by omega);replace q31:=eq_true q31)|((with_reducible refine gate_builtin (b:=.append) (xs:=#[.tmp 43,.tmp 46]) rfl ?_);at_builtin;refine Kd.R_append_rows (Kd.int .i64) (w0:=w) w.heap.size rfl (.tmp 43) (.tmp 46) 45 3 (.int .i64 0) 8 rfl Try.underlying45 info3 rfl (by decide) (by omega) v112 y111 y114 _ _ _ (fun k_=>some k_ ≠ (.slice Ao7 x3_1.length co7:Value).ownBlock) (fun _=>False) rfl rfl ?aO ?aR (fun _ _ h=>h) (fun _ h=>h.elim) ?aF ?aB ?aS ?aL ?_;(case aR=>repeat (first|exact (by repeat (first|(with_reducible exact HR117.out)|(with_reducible first|apply aC|apply nC|apply dC)|exact HR117.out))|(with_reducible first|apply aC|apply nC|apply dC)));(case aB=>exact (kB HB.out));(case aF=>exact (fun k_ hk=>Kd.fresh' (Kd.R_lt (rR HO_3.out)) k_ hk));(case aO=>exact (rR (Kd.R_mono HO113.out (fun _ hk=>hk.2))));(case aS=>exact (kZ HB.out));(case aL=>have:=LMc24.out;omega);intro v119 w32 ho hb hg hat;rw [← Ny118.out] at ho;replace HB:=mk0 (hb);replace HR117:=mk0 ((show Kd.C (Kd.int .i64) w32 A31 y114.length y114 from by rw [Ny114.out,KA31.out];exact Kd.C_drop (m:=(x5_2:Int).toNat) (c:=co7) ((Kd.R_reads' (Kd.R_after (ok:=(fun _=>True)) (rR HO_3.out) hg hat)).2.2) KL31.out ((Kd.R_reads' (Kd.R_after (ok:=(fun _=>True)) (rR HO_3.out) hg hat)).2.1)));replace HO_3:=mk0 (Kd.R_after (ok:=(fun _=>True)) (rR HO_3.out) hg hat);have HO120:=mk0 (ho);clear HO113 ho hb hg hat)|((with_reducible refine gate_dst (N:=48) rfl ?_);refine Kd.R_lit (Kd.int .i64) _ 3 ?hg (N:=48) ?hd (xs:=([]:List Int)) (inner:=[]) (ok:=fun _=>True) (okp:=fun _=>True) ?hr ?hp (fun _ hk=>hk) trivial (Below.refl _ _) (Nat.le_refl _) (by simp) ?_;(case hd=>rfl);(case hg=>rfl);(case hr=>first|(go_simp;done)|(go_simp;rfl));(case hp=>exact (Reps.none _ _));intro v122 w33 ho34 hb hg_ hnew_;clear hg_ hnew_;(first|rw [← Ny121.out] at ho34|(simp only [Int.reduceToNat] at ho34;rw [← Ny121.out] at ho34));have HO123:=mk0 (Kd.R_lower (Kd.R_new' (Kd.R_new' ho34 (Kd.R_lt (rR HO_3.out))) (Kd.R_lt (rR HO120.out))) (kZ HB.out));replace HO_3:=mk0 (Kd.R_elder' (rR HO_3.out) (Kd.R_base ho34) hb);replace HO120:=mk0 (Kd.R_elder' (rR HO120.out) (Kd.R_base ho34) hb);replace HR117:=mk0 (Kd.C_below (by repeat (first|(with_reducible exact HR117.out)|(with_reducible first|apply aC|apply nC|apply dC)|exact HR117.out)) hb);replace HB:=mk0 (kS HB.out hb);clear hb ho34;have q35:(x5_2:Int) ≤ ((x3_1.length:Int):Int):=oD;obtain⟨i035,hi035,_,hsz35,_⟩:=info_parts info3;have hroom35:x3_1.length ≤ co7:=(Kd.R_reads' HO_3.out).2.1;have hC35:Kd.C (Kd.int .i64) _ Ao7 x3_1.length x3_1:=(Kd.R_reads' HO_3.out).2.2;have hcut35:=cut_to (P:=Try.prog) 45 3 .i64 Try.underlying45 hi035 Ao7 x3_1.length co7 x5_2 (oD) q35 hroom35;have hr35:=Kd.C_take (m:=(x5_2:Int).toNat) hC35 (by omega);have hy35:y124.length = (x5_2:Int).toNat:=(by rw [Ny124.out,List.length_take];omega);rw [← Ny124.out] at hr35;rw [← hy35] at hcut35;have HR127:=mk0 hr35;have HC127:=mk0 (show y124.length ≤ co7 from by omega);clear hr35 hC35 hroom35 hi035 hsz35;have KY35:=mk0 hy35;clear hy35;have KL35:=mk0 (show (x5_2:Int).toNat ≤ x3_1.length from by omega);replace q35:=eq_true q35)|((with_reducible refine gate_builtin (b:=.append) (xs:=#[.tmp 48,.tmp 51]) rfl ?_);at_builtin;refine Kd.R_append_rows (Kd.int .i64) (w0:=w) w.heap.size rfl (.tmp 48) (.tmp 51) 45 3 (.int .i64 0) 8 rfl Try.underlying45 info3 rfl (by decide) (by omega) v122 y121 y124 _ _ _ (fun k_=>some k_ ≠ (.slice Ao7 x3_1.length co7:Value).ownBlock ∧ some k_ ≠ (v119:Value).ownBlock) (fun _=>False) rfl rfl ?aO ?aR (fun _ _ h=>h) (fun _ h=>h.elim) ?aF ?aB ?aS ?aL ?_;(case aR=>repeat (first|exact (by repeat (first|(with_reducible exact HR127.out)|(with_reducible first|apply aC|apply nC|apply dC)|exact HR127.out))|(with_reducible first|apply aC|apply nC|apply dC)));(case aB=>exact (kB HB.out));(case aF=>exact (fun k_ hk=>⟨Kd.fresh' (Kd.R_lt (rR HO_3.out)) k_ hk,Kd.fresh' (Kd.R_lt (rR HO120.out)) k_ hk⟩));(case aO=>exact (rR (Kd.R_mono HO123.out (fun _ hk=>⟨hk.1.2,hk.2⟩))));(case aS=>exact (kZ HB.out));(case aL=>have:=LMc27.out;omega);intro v129 w36 ho hb hg hat;rw [← Ny128.out] at ho;replace HO120:=mk0 (Kd.R_after (ok:=(fun k_=>some k_ ≠ (.slice Ao7 x3_1.length co7:Value).ownBlock)) (rR HO120.out) hg hat);replace HB:=mk0 (hb);replace HR117:=mk0 ((show Kd.C (Kd.int .i64) w36 A31 y114.length y114 from by rw [Ny114.out,KA31.out];exact Kd.C_drop (m:=(x5_2:Int).toNat) (c:=co7) ((Kd.R_reads' (Kd.R_after (ok:=(fun k_=>some k_ ≠ (v119:Value).ownBlock)) (rR (Kd.R_mono HO_3.out (fun _ hk=>⟨hk.1.2,hk.2⟩))) hg hat)).2.2) KL31.out ((Kd.R_reads' (Kd.R_after (ok:=(fun k_=>some k_ ≠ (v119:Value).ownBlock)) (rR (Kd.R_mono HO_3.out (fun _ hk=>⟨hk.1.2,hk.2⟩))) hg hat)).2.1)));replace HR127:=mk0 ((show Kd.C (Kd.int .i64) w36 Ao7 y124.length y124 from by rw [Ny124.out];exact Kd.C_take (m:=(x5_2:Int).toNat) ((Kd.R_reads' (Kd.R_after (ok:=(fun k_=>some k_ ≠ (v119:Value).ownBlock)) (rR (Kd.R_mono HO_3.out (fun _ hk=>⟨hk.1.2,hk.2⟩))) hg hat)).2.2) KL35.out));replace HO_3:=mk0 (Kd.R_after (ok:=(fun k_=>some k_ ≠ (v119:Value).ownBlock)) (rR (Kd.R_mono HO_3.out (fun _ hk=>⟨hk.1.2,hk.2⟩))) hg hat);have HO130:=mk0 (ho);clear HO123 ho hb hg hat;obtain⟨Ao38,co38,eo38⟩:=Kd.R_slice HO120.out;subst eo38)|((with_reducible refine gate_builtin (b:=.append) (xs:=#[.tmp 52,.tmp 53]) rfl ?_);at_builtin;refine Kd.R_append_rows (Kd.int .i64) (w0:=w) w.heap.size rfl (.tmp 52) (.tmp 53) 45 3 (.int .i64 0) 8 rfl Try.underlying45 info3 rfl (by decide) (by omega) v129 y128 y118 _ _ _ (fun k_=>some k_ ≠ (.slice Ao7 x3_1.length co7:Value).ownBlock ∧ some k_ ≠ (.slice Ao38 y118.length co38:Value).ownBlock) (fun _=>False) rfl rfl ?aO ?aR (fun _ _ h=>h) (fun _ h=>h.elim) ?aF ?aB ?aS ?aL ?_;(case aR=>repeat (first|exact (Kd.R_reads' HO120.out).2.2|(with_reducible first|apply aC|apply nC|apply dC)));(case aB=>exact (kB HB.out));(case aF=>exact (fun k_ hk=>⟨Kd.fresh' (Kd.R_lt (rR HO_3.out)) k_ hk,Kd.fresh' (Kd.R_lt (rR HO120.out)) k_ hk⟩));(case aO=>exact (rR HO130.out));(case aS=>exact (kZ HB.out));(case aL=>have:=LMc28.out;omega);intro v132 w37 ho hb hg hat;rw [← Ny131.out] at ho;replace HO120:=mk0 (Kd.R_after (ok:=(fun k_=>some k_ ≠ (.slice Ao7 x3_1.length co7:Value).ownBlock)) (rR HO120.out) hg hat);replace HB:=mk0 (hb);replace HR117:=mk0 ((show Kd.C (Kd.int .i64) w37 A31 y114.length y114 from by rw [Ny114.out,KA31.out];exact Kd.C_drop (m:=(x5_2:Int).toNat) (c:=co7) ((Kd.R_reads' (Kd.R_after (ok:=(fun k_=>some k_ ≠ (.slice Ao38 y118.length co38:Value).ownBlock)) (rR HO_3.out) hg hat)).2.2) KL31.out ((Kd.R_reads' (Kd.R_after (ok:=(fun k_=>some k_ ≠ (.slice Ao38 y118.length co38:Value).ownBlock)) (rR HO_3.out) hg hat)).2.1)));replace HR127:=mk0 ((show Kd.C (Kd.int .i64) w37 Ao7 y124.length y124 from by rw [Ny124.out];exact Kd.C_take (m:=(x5_2:Int).toNat) ((Kd.R_reads' (Kd.R_after (ok:=(fun k_=>some k_ ≠ (.slice Ao38 y118.length co38:Value).ownBlock)) (rR HO_3.out) hg hat)).2.2) KL35.out));replace HO_3:=mk0 (Kd.R_after (ok:=(fun k_=>some k_ ≠ (.slice Ao38 y118.length co38:Value).ownBlock)) (rR HO_3.out) hg hat);have HO133:=mk0 (ho);clear HO130 ho hb hg hat))
     repeat (go_quiet (first|((with_reducible refine gate_dst (N:=43) rfl ?_);refine Kd.R_lit (Kd.int .i64) _ 3 ?hg (N:=43) ?hd (xs:=([x4_1]:List Int)) (inner:=[.int .i64 x4_1]) (ok:=fun _=>True) (okp:=fun _=>True) ?hr ?hp (fun _ hk=>hk) trivial (Below.refl _ _) (Nat.le_refl _) (by simp) ?_;(case hd=>rfl);(case hg=>rfl);(case hr=>first|(go_simp;done)|(go_simp;rfl));(case hp=>exact (Reps.one (show Kd.M (Kd.int .i64) _ _ _ x4_1 [.int .i64 x4_1] from rfl) (Reps.none _ _)));intro v112 w29 ho30 hb hg_ hnew_;clear hg_ hnew_;(first|rw [← Ny111.out] at ho30|(simp only [Int.reduceToNat] at ho30;rw [← Ny111.out] at ho30));have HO113:=mk0 (Kd.R_lower (Kd.R_new' ho30 (Kd.R_lt (rR HO_3.out))) (kZ HB.out));replace HO_3:=mk0 (Kd.R_elder' (rR HO_3.out) (Kd.R_base ho30) hb);replace HB:=mk0 (kS HB.out hb);clear hb ho30;have q31:(x5_2:Int) ≤ ((x3_1.length:Int):Int):=oD;obtain⟨i031,hi031,_,hsz31,_⟩:=info_parts info3;have hroom31:x3_1.length ≤ co7:=(Kd.R_reads' HO_3.out).2.1;have hC31:Kd.C (Kd.int .i64) _ Ao7 x3_1.length x3_1:=(Kd.R_reads' HO_3.out).2.2;have q031:(0:Int) ≤ (x5_2:Int):=oD;have hcut31:=cut_from (P:=Try.prog) 45 3 .i64 Try.underlying45 hi031 1 hsz31 Ao7 x3_1.length co7 x5_2 q031 q31;have hr31:=Kd.C_drop (m:=(x5_2:Int).toNat) (c:=co7) hC31 (by omega) hroom31;obtain⟨A31,hA31⟩:∃ A1,A1 = (if co7 = (x5_2:Int).toNat then Ao7 else (Ao7:Option Addr).map (·.add ((x5_2:Int).toNat * 1))):=⟨_,rfl⟩;obtain⟨c31,hc31⟩:∃ c1,c1 = co7 - (x5_2:Int).toNat:=⟨_,rfl⟩;have hy31:y114.length = x3_1.length - (x5_2:Int).toNat:=(by rw [Ny114.out,List.length_drop] <;> omega);rw [show (x3_1).drop (x5_2:Int).toNat = y114 from Ny114.out.symm] at hr31;replace hr31:Kd.C (Kd.int .i64) _ A31 y114.length y114:=(by rw [hA31];exact hr31);rw [← hy31, ← hA31, ← hc31] at hcut31;have HR117:=mk0 hr31;have HC117:=mk0 (show y114.length ≤ c31 from by rw [hy31,hc31];exact Nat.sub_le_sub_right hroom31 _);clear hr31 hC31 hroom31 hi031 hsz31 hc31;have KY31:=mk0 hy31;have KA31:=mk0 hA31;clear hy31 hA31;have KL31:=mk0 (show (x5_2:Int).toNat ≤ x3_1.length from by omega);replace q31:=eq_true q31)|((with_reducible refine gate_builtin (b:=.append) (xs:=#[.tmp 43,.tmp 46]) rfl ?_);at_builtin;refine Kd.R_append_rows (Kd.int .i64) (w0:=w) w.heap.size rfl (.tmp 43) (.tmp 46) 45 3 (.int .i64 0) 8 rfl Try.underlying45 info3 rfl (by decide) (by omega) v112 y111 y114 _ _ _ (fun k_=>some k_ ≠ (.slice Ao7 x3_1.length co7:Value).ownBlock) (fun _=>False) rfl rfl ?aO ?aR (fun _ _ h=>h) (fun _ h=>h.elim) ?aF ?aB ?aS ?aL ?_;(case aR=>repeat (first|exact (by repeat (first|(with_reducible exact HR117.out)|(with_reducible first|apply aC|apply nC|apply dC)|exact HR117.out))|(with_reducible first|apply aC|apply nC|apply dC)));(case aB=>exact (kB HB.out));(case aF=>exact (fun k_ hk=>Kd.fresh' (Kd.R_lt (rR HO_3.out)) k_ hk));(case aO=>exact (rR (Kd.R_mono HO113.out (fun _ hk=>hk.2))));(case aS=>exact (kZ HB.out));(case aL=>have:=LMc24.out;omega);intro v119 w32 ho hb hg hat;rw [← Ny118.out] at ho;replace HB:=mk0 (hb);replace HR117:=mk0 ((show Kd.C (Kd.int .i64) w32 A31 y114.length y114 from by rw [Ny114.out,KA31.out];exact Kd.C_drop (m:=(x5_2:Int).toNat) (c:=co7) ((Kd.R_reads' (Kd.R_after (ok:=(fun _=>True)) (rR HO_3.out) hg hat)).2.2) KL31.out ((Kd.R_reads' (Kd.R_after (ok:=(fun _=>True)) (rR HO_3.out) hg hat)).2.1)));replace HO_3:=mk0 (Kd.R_after (ok:=(fun _=>True)) (rR HO_3.out) hg hat);have HO120:=mk0 (ho);clear HO113 ho hb hg hat)|((with_reducible refine gate_dst (N:=48) rfl ?_);refine Kd.R_lit (Kd.int .i64) _ 3 ?hg (N:=48) ?hd (xs:=([]:List Int)) (inner:=[]) (ok:=fun _=>True) (okp:=fun _=>True) ?hr ?hp (fun _ hk=>hk) trivial (Below.refl _ _) (Nat.le_refl _) (by simp) ?_;(case hd=>rfl);(case hg=>rfl);(case hr=>first|(go_simp;done)|(go_simp;rfl));(case hp=>exact (Reps.none _ _));intro v122 w33 ho34 hb hg_ hnew_;clear hg_ hnew_;(first|rw [← Ny121.out] at ho34|(simp only [Int.reduceToNat] at ho34;rw [← Ny121.out] at ho34));have HO123:=mk0 (Kd.R_lower (Kd.R_new' (Kd.R_new' ho34 (Kd.R_lt (rR HO_3.out))) (Kd.R_lt (rR HO120.out))) (kZ HB.out));replace HO_3:=mk0 (Kd.R_elder' (rR HO_3.out) (Kd.R_base ho34) hb);replace HO120:=mk0 (Kd.R_elder' (rR HO120.out) (Kd.R_base ho34) hb);replace HR117:=mk0 (Kd.C_below (by repeat (first|(with_reducible exact HR117.out)|(with_reducible first|apply aC|apply nC|apply dC)|exact HR117.out)) hb);replace HB:=mk0 (kS HB.out hb);clear hb ho34;have q35:(x5_2:Int) ≤ ((x3_1.length:Int):Int):=oD;obtain⟨i035,hi035,_,hsz35,_⟩:=info_parts info3;have hroom35:x3_1.length ≤ co7:=(Kd.R_reads' HO_3.out).2.1;have hC35:Kd.C (Kd.int .i64) _ Ao7 x3_1.length x3_1:=(Kd.R_reads' HO_3.out).2.2;have hcut35:=cut_to (P:=Try.prog) 45 3 .i64 Try.underlying45 hi035 Ao7 x3_1.length co7 x5_2 (oD) q35 hroom35;have hr35:=Kd.C_take (m:=(x5_2:Int).toNat) hC35 (by omega);have hy35:y124.length = (x5_2:Int).toNat:=(by rw [Ny124.out,List.length_take];omega);rw [← Ny124.out] at hr35;rw [← hy35] at hcut35;have HR127:=mk0 hr35;have HC127:=mk0 (show y124.length ≤ co7 from by omega);clear hr35 hC35 hroom35 hi035 hsz35;have KY35:=mk0 hy35;clear hy35;have KL35:=mk0 (show (x5_2:Int).toNat ≤ x3_1.length from by omega);replace q35:=eq_true q35)|((with_reducible refine gate_builtin (b:=.append) (xs:=#[.tmp 48,.tmp 51]) rfl ?_);at_builtin;refine Kd.R_append_rows (Kd.int .i64) (w0:=w) w.heap.size rfl (.tmp 48) (.tmp 51) 45 3 (.int .i64 0) 8 rfl Try.underlying45 info3 rfl (by decide) (by omega) v122 y121 y124 _ _ _ (fun k_=>some k_ ≠ (.slice Ao7 x3_1.length co7:Value).ownBlock ∧ some k_ ≠ (v119:Value).ownBlock) (fun _=>False) rfl rfl ?aO ?aR (fun _ _ h=>h) (fun _ h=>h.elim) ?aF ?aB ?aS ?aL ?_;(case aR=>repeat (first|exact (by repeat (first|(with_reducible exact HR127.out)|(with_reducible first|apply aC|apply nC|apply dC)|exact HR127.out))|(with_reducible first|apply aC|apply nC|apply dC)));(case aB=>exact (kB HB.out));(case aF=>exact (fun k_ hk=>⟨Kd.fresh' (Kd.R_lt (rR HO_3.out)) k_ hk,Kd.fresh' (Kd.R_lt (rR HO120.out)) k_ hk⟩));(case aO=>exact (rR (Kd.R_mono HO123.out (fun _ hk=>⟨hk.1.2,hk.2⟩))));(case aS=>exact (kZ HB.out));(case aL=>have:=LMc27.out;omega);intro v129 w36 ho hb hg hat;rw [← Ny128.out] at ho;replace HO120:=mk0 (Kd.R_after (ok:=(fun k_=>some k_ ≠ (.slice Ao7 x3_1.length co7:Value).ownBlock)) (rR HO120.out) hg hat);replace HB:=mk0 (hb);replace HR117:=mk0 ((show Kd.C (Kd.int .i64) w36 A31 y114.length y114 from by rw [Ny114.out,KA31.out];exact Kd.C_drop (m:=(x5_2:Int).toNat) (c:=co7) ((Kd.R_reads' (Kd.R_after (ok:=(fun k_=>some k_ ≠ (v119:Value).ownBlock)) (rR (Kd.R_mono HO_3.out (fun _ hk=>⟨hk.1.2,hk.2⟩))) hg hat)).2.2) KL31.out ((Kd.R_reads' (Kd.R_after (ok:=(fun k_=>some k_ ≠ (v119:Value).ownBlock)) (rR (Kd.R_mono HO_3.out (fun _ hk=>⟨hk.1.2,hk.2⟩))) hg hat)).2.1)));replace HR127:=mk0 ((show Kd.C (Kd.int .i64) w36 Ao7 y124.length y124 from by rw [Ny124.out];exact Kd.C_take (m:=(x5_2:Int).toNat) ((Kd.R_reads' (Kd.R_after (ok:=(fun k_=>some k_ ≠ (v119:Value).ownBlock)) (rR (Kd.R_mono HO_3.out (fun _ hk=>⟨hk.1.2,hk.2⟩))) hg hat)).2.2) KL35.out));replace HO_3:=mk0 (Kd.R_after (ok:=(fun k_=>some k_ ≠ (v119:Value).ownBlock)) (rR (Kd.R_mono HO_3.out (fun _ hk=>⟨hk.1.2,hk.2⟩))) hg hat);have HO130:=mk0 (ho);clear HO123 ho hb hg hat;obtain⟨Ao38,co38,eo38⟩:=Kd.R_slice HO120.out;subst eo38)|((with_reducible refine gate_builtin (b:=.append) (xs:=#[.tmp 52,.tmp 53]) rfl ?_);at_builtin;refine Kd.R_append_rows (Kd.int .i64) (w0:=w) w.heap.size rfl (.tmp 52) (.tmp 53) 45 3 (.int .i64 0) 8 rfl Try.underlying45 info3 rfl (by decide) (by omega) v129 y128 y118 _ _ _ (fun k_=>some k_ ≠ (.slice Ao7 x3_1.length co7:Value).ownBlock ∧ some k_ ≠ (.slice Ao38 y118.length co38:Value).ownBlock) (fun _=>False) rfl rfl ?aO ?aR (fun _ _ h=>h) (fun _ h=>h.elim) ?aF ?aB ?aS ?aL ?_;(case aR=>repeat (first|exact (Kd.R_reads' HO120.out).2.2|(with_reducible first|apply aC|apply nC|apply dC)));(case aB=>exact (kB HB.out));(case aF=>exact (fun k_ hk=>⟨Kd.fresh' (Kd.R_lt (rR HO_3.out)) k_ hk,Kd.fresh' (Kd.R_lt (rR HO120.out)) k_ hk⟩));(case aO=>exact (rR HO130.out));(case aS=>exact (kZ HB.out));(case aL=>have:=LMc28.out;omega);intro v132 w37 ho hb hg hat;rw [← Ny131.out] at ho;replace HO120:=mk0 (Kd.R_after (ok:=(fun k_=>some k_ ≠ (.slice Ao7 x3_1.length co7:Value).ownBlock)) (rR HO120.out) hg hat);replace HB:=mk0 (hb);replace HR117:=mk0 ((show Kd.C (Kd.int .i64) w37 A31 y114.length y114 from by rw [Ny114.out,KA31.out];exact Kd.C_drop (m:=(x5_2:Int).toNat) (c:=co7) ((Kd.R_reads' (Kd.R_after (ok:=(fun k_=>some k_ ≠ (.slice Ao38 y118.length co38:Value).ownBlock)) (rR HO_3.out) hg hat)).2.2) KL31.out ((Kd.R_reads' (Kd.R_after (ok:=(fun k_=>some k_ ≠ (.slice Ao38 y118.length co38:Value).ownBlock)) (rR HO_3.out) hg hat)).2.1)));replace HR127:=mk0 ((show Kd.C (Kd.int .i64) w37 Ao7 y124.length y124 from by rw [Ny124.out];exact Kd.C_take (m:=(x5_2:Int).toNat) ((Kd.R_reads' (Kd.R_after (ok:=(fun k_=>some k_ ≠ (.slice Ao38 y118.length co38:Value).ownBlock)) (rR HO_3.out) hg hat)).2.2) KL35.out));replace HO_3:=mk0 (Kd.R_after (ok:=(fun k_=>some k_ ≠ (.slice Ao38 y118.length co38:Value).ownBlock)) (rR HO_3.out) hg hat);have HO133:=mk0 (ho);clear HO130 ho hb hg hat));try go_wp2_with (first|((with_reducible refine gate_dst (N:=43) rfl ?_);refine Kd.R_lit (Kd.int .i64) _ 3 ?hg (N:=43) ?hd (xs:=([x4_1]:List Int)) (inner:=[.int .i64 x4_1]) (ok:=fun _=>True) (okp:=fun _=>True) ?hr ?hp (fun _ hk=>hk) trivial (Below.refl _ _) (Nat.le_refl _) (by simp) ?_;(case hd=>rfl);(case hg=>rfl);(case hr=>first|(go_simp;done)|(go_simp;rfl));(case hp=>exact (Reps.one (show Kd.M (Kd.int .i64) _ _ _ x4_1 [.int .i64 x4_1] from rfl) (Reps.none _ _)));intro v112 w29 ho30 hb hg_ hnew_;clear hg_ hnew_;(first|rw [← Ny111.out] at ho30|(simp only [Int.reduceToNat] at ho30;rw [← Ny111.out] at ho30));have HO113:=mk0 (Kd.R_lower (Kd.R_new' ho30 (Kd.R_lt (rR HO_3.out))) (kZ HB.out));replace HO_3:=mk0 (Kd.R_elder' (rR HO_3.out) (Kd.R_base ho30) hb);replace HB:=mk0 (kS HB.out hb);clear hb ho30;have q31:(x5_2:Int) ≤ ((x3_1.length:Int):Int):=oD;obtain⟨i031,hi031,_,hsz31,_⟩:=info_parts info3;have hroom31:x3_1.length ≤ co7:=(Kd.R_reads' HO_3.out).2.1;have hC31:Kd.C (Kd.int .i64) _ Ao7 x3_1.length x3_1:=(Kd.R_reads' HO_3.out).2.2;have q031:(0:Int) ≤ (x5_2:Int):=oD;have hcut31:=cut_from (P:=Try.prog) 45 3 .i64 Try.underlying45 hi031 1 hsz31 Ao7 x3_1.length co7 x5_2 q031 q31;have hr31:=Kd.C_drop (m:=(x5_2:Int).toNat) (c:=co7) hC31 (by omega) hroom31;obtain⟨A31,hA31⟩:∃ A1,A1 = (if co7 = (x5_2:Int).toNat then Ao7 else (Ao7:Option Addr).map (·.add ((x5_2:Int).toNat * 1))):=⟨_,rfl⟩;obtain⟨c31,hc31⟩:∃ c1,c1 = co7 - (x5_2:Int).toNat:=⟨_,rfl⟩;have hy31:y114.length = x3_1.length - (x5_2:Int).toNat:=(by rw [Ny114.out,List.length_drop] <;> omega);rw [show (x3_1).drop (x5_2:Int).toNat = y114 from Ny114.out.symm] at hr31;replace hr31:Kd.C (Kd.int .i64) _ A31 y114.length y114:=(by rw [hA31];exact hr31);rw [← hy31, ← hA31, ← hc31] at hcut31;have HR117:=mk0 hr31;have HC117:=mk0 (show y114.length ≤ c31 from by rw [hy31,hc31];exact Nat.sub_le_sub_right hroom31 _);clear hr31 hC31 hroom31 hi031 hsz31 hc31;have KY31:=mk0 hy31;have KA31:=mk0 hA31;clear hy31 hA31;have KL31:=mk0 (show (x5_2:Int).toNat ≤ x3_1.length from by omega);replace q31:=eq_true q31)|((with_reducible refine gate_builtin (b:=.append) (xs:=#[.tmp 43,.tmp 46]) rfl ?_);at_builtin;refine Kd.R_append_rows (Kd.int .i64) (w0:=w) w.heap.size rfl (.tmp 43) (.tmp 46) 45 3 (.int .i64 0) 8 rfl Try.underlying45 info3 rfl (by decide) (by omega) v112 y111 y114 _ _ _ (fun k_=>some k_ ≠ (.slice Ao7 x3_1.length co7:Value).ownBlock) (fun _=>False) rfl rfl ?aO ?aR (fun _ _ h=>h) (fun _ h=>h.elim) ?aF ?aB ?aS ?aL ?_;(case aR=>repeat (first|exact (by repeat (first|(with_reducible exact HR117.out)|(with_reducible first|apply aC|apply nC|apply dC)|exact HR117.out))|(with_reducible first|apply aC|apply nC|apply dC)));(case aB=>exact (kB HB.out));(case aF=>exact (fun k_ hk=>Kd.fresh' (Kd.R_lt (rR HO_3.out)) k_ hk));(case aO=>exact (rR (Kd.R_mono HO113.out (fun _ hk=>hk.2))));(case aS=>exact (kZ HB.out));(case aL=>have:=LMc24.out;omega);intro v119 w32 ho hb hg hat;rw [← Ny118.out] at ho;replace HB:=mk0 (hb);replace HR117:=mk0 ((show Kd.C (Kd.int .i64) w32 A31 y114.length y114 from by rw [Ny114.out,KA31.out];exact Kd.C_drop (m:=(x5_2:Int).toNat) (c:=co7) ((Kd.R_reads' (Kd.R_after (ok:=(fun _=>True)) (rR HO_3.out) hg hat)).2.2) KL31.out ((Kd.R_reads' (Kd.R_after (ok:=(fun _=>True)) (rR HO_3.out) hg hat)).2.1)));replace HO_3:=mk0 (Kd.R_after (ok:=(fun _=>True)) (rR HO_3.out) hg hat);have HO120:=mk0 (ho);clear HO113 ho hb hg hat)|((with_reducible refine gate_dst (N:=48) rfl ?_);refine Kd.R_lit (Kd.int .i64) _ 3 ?hg (N:=48) ?hd (xs:=([]:List Int)) (inner:=[]) (ok:=fun _=>True) (okp:=fun _=>True) ?hr ?hp (fun _ hk=>hk) trivial (Below.refl _ _) (Nat.le_refl _) (by simp) ?_;(case hd=>rfl);(case hg=>rfl);(case hr=>first|(go_simp;done)|(go_simp;rfl));(case hp=>exact (Reps.none _ _));intro v122 w33 ho34 hb hg_ hnew_;clear hg_ hnew_;(first|rw [← Ny121.out] at ho34|(simp only [Int.reduceToNat] at ho34;rw [← Ny121.out] at ho34));have HO123:=mk0 (Kd.R_lower (Kd.R_new' (Kd.R_new' ho34 (Kd.R_lt (rR HO_3.out))) (Kd.R_lt (rR HO120.out))) (kZ HB.out));replace HO_3:=mk0 (Kd.R_elder' (rR HO_3.out) (Kd.R_base ho34) hb);replace HO120:=mk0 (Kd.R_elder' (rR HO120.out) (Kd.R_base ho34) hb);replace HR117:=mk0 (Kd.C_below (by repeat (first|(with_reducible exact HR117.out)|(with_reducible first|apply aC|apply nC|apply dC)|exact HR117.out)) hb);replace HB:=mk0 (kS HB.out hb);clear hb ho34;have q35:(x5_2:Int) ≤ ((x3_1.length:Int):Int):=oD;obtain⟨i035,hi035,_,hsz35,_⟩:=info_parts info3;have hroom35:x3_1.length ≤ co7:=(Kd.R_reads' HO_3.out).2.1;have hC35:Kd.C (Kd.int .i64) _ Ao7 x3_1.length x3_1:=(Kd.R_reads' HO_3.out).2.2;have hcut35:=cut_to (P:=Try.prog) 45 3 .i64 Try.underlying45 hi035 Ao7 x3_1.length co7 x5_2 (oD) q35 hroom35;have hr35:=Kd.C_take (m:=(x5_2:Int).toNat) hC35 (by omega);have hy35:y124.length = (x5_2:Int).toNat:=(by rw [Ny124.out,List.length_take];omega);rw [← Ny124.out] at hr35;rw [← hy35] at hcut35;have HR127:=mk0 hr35;have HC127:=mk0 (show y124.length ≤ co7 from by omega);clear hr35 hC35 hroom35 hi035 hsz35;have KY35:=mk0 hy35;clear hy35;have KL35:=mk0 (show (x5_2:Int).toNat ≤ x3_1.length from by omega);replace q35:=eq_true q35)|((with_reducible refine gate_builtin (b:=.append) (xs:=#[.tmp 48,.tmp 51]) rfl ?_);at_builtin;refine Kd.R_append_rows (Kd.int .i64) (w0:=w) w.heap.size rfl (.tmp 48) (.tmp 51) 45 3 (.int .i64 0) 8 rfl Try.underlying45 info3 rfl (by decide) (by omega) v122 y121 y124 _ _ _ (fun k_=>some k_ ≠ (.slice Ao7 x3_1.length co7:Value).ownBlock ∧ some k_ ≠ (v119:Value).ownBlock) (fun _=>False) rfl rfl ?aO ?aR (fun _ _ h=>h) (fun _ h=>h.elim) ?aF ?aB ?aS ?aL ?_;(case aR=>repeat (first|exact (by repeat (first|(with_reducible exact HR127.out)|(with_reducible first|apply aC|apply nC|apply dC)|exact HR127.out))|(with_reducible first|apply aC|apply nC|apply dC)));(case aB=>exact (kB HB.out));(case aF=>exact (fun k_ hk=>⟨Kd.fresh' (Kd.R_lt (rR HO_3.out)) k_ hk,Kd.fresh' (Kd.R_lt (rR HO120.out)) k_ hk⟩));(case aO=>exact (rR (Kd.R_mono HO123.out (fun _ hk=>⟨hk.1.2,hk.2⟩))));(case aS=>exact (kZ HB.out));(case aL=>have:=LMc27.out;omega);intro v129 w36 ho hb hg hat;rw [← Ny128.out] at ho;replace HO120:=mk0 (Kd.R_after (ok:=(fun k_=>some k_ ≠ (.slice Ao7 x3_1.length co7:Value).ownBlock)) (rR HO120.out) hg hat);replace HB:=mk0 (hb);replace HR117:=mk0 ((show Kd.C (Kd.int .i64) w36 A31 y114.length y114 from by rw [Ny114.out,KA31.out];exact Kd.C_drop (m:=(x5_2:Int).toNat) (c:=co7) ((Kd.R_reads' (Kd.R_after (ok:=(fun k_=>some k_ ≠ (v119:Value).ownBlock)) (rR (Kd.R_mono HO_3.out (fun _ hk=>⟨hk.1.2,hk.2⟩))) hg hat)).2.2) KL31.out ((Kd.R_reads' (Kd.R_after (ok:=(fun k_=>some k_ ≠ (v119:Value).ownBlock)) (rR (Kd.R_mono HO_3.out (fun _ hk=>⟨hk.1.2,hk.2⟩))) hg hat)).2.1)));replace HR127:=mk0 ((show Kd.C (Kd.int .i64) w36 Ao7 y124.length y124 from by rw [Ny124.out];exact Kd.C_take (m:=(x5_2:Int).toNat) ((Kd.R_reads' (Kd.R_after (ok:=(fun k_=>some k_ ≠ (v119:Value).ownBlock)) (rR (Kd.R_mono HO_3.out (fun _ hk=>⟨hk.1.2,hk.2⟩))) hg hat)).2.2) KL35.out));replace HO_3:=mk0 (Kd.R_after (ok:=(fun k_=>some k_ ≠ (v119:Value).ownBlock)) (rR (Kd.R_mono HO_3.out (fun _ hk=>⟨hk.1.2,hk.2⟩))) hg hat);have HO130:=mk0 (ho);clear HO123 ho hb hg hat;obtain⟨Ao38,co38,eo38⟩:=Kd.R_slice HO120.out;subst eo38)|((with_reducible refine gate_builtin (b:=.append) (xs:=#[.tmp 52,.tmp 53]) rfl ?_);at_builtin;refine Kd.R_append_rows (Kd.int .i64) (w0:=w) w.heap.size rfl (.tmp 52) (.tmp 53) 45 3 (.int .i64 0) 8 rfl Try.underlying45 info3 rfl (by decide) (by omega) v129 y128 y118 _ _ _ (fun k_=>some k_ ≠ (.slice Ao7 x3_1.length co7:Value).ownBlock ∧ some k_ ≠ (.slice Ao38 y118.length co38:Value).ownBlock) (fun _=>False) rfl rfl ?aO ?aR (fun _ _ h=>h) (fun _ h=>h.elim) ?aF ?aB ?aS ?aL ?_;(case aR=>repeat (first|exact (Kd.R_reads' HO120.out).2.2|(with_reducible first|apply aC|apply nC|apply dC)));(case aB=>exact (kB HB.out));(case aF=>exact (fun k_ hk=>⟨Kd.fresh' (Kd.R_lt (rR HO_3.out)) k_ hk,Kd.fresh' (Kd.R_lt (rR HO120.out)) k_ hk⟩));(case aO=>exact (rR HO130.out));(case aS=>exact (kZ HB.out));(case aL=>have:=LMc28.out;omega);intro v132 w37 ho hb hg hat;rw [← Ny131.out] at ho;replace HO120:=mk0 (Kd.R_after (ok:=(fun k_=>some k_ ≠ (.slice Ao7 x3_1.length co7:Value).ownBlock)) (rR HO120.out) hg hat);replace HB:=mk0 (hb);replace HR117:=mk0 ((show Kd.C (Kd.int .i64) w37 A31 y114.length y114 from by rw [Ny114.out,KA31.out];exact Kd.C_drop (m:=(x5_2:Int).toNat) (c:=co7) ((Kd.R_reads' (Kd.R_after (ok:=(fun k_=>some k_ ≠ (.slice Ao38 y118.length co38:Value).ownBlock)) (rR HO_3.out) hg hat)).2.2) KL31.out ((Kd.R_reads' (Kd.R_after (ok:=(fun k_=>some k_ ≠ (.slice Ao38 y118.length co38:Value).ownBlock)) (rR HO_3.out) hg hat)).2.1)));replace HR127:=mk0 ((show Kd.C (Kd.int .i64) w37 Ao7 y124.length y124 from by rw [Ny124.out];exact Kd.C_take (m:=(x5_2:Int).toNat) ((Kd.R_reads' (Kd.R_after (ok:=(fun k_=>some k_ ≠ (.slice Ao38 y118.length co38:Value).ownBlock)) (rR HO_3.out) hg hat)).2.2) KL35.out));replace HO_3:=mk0 (Kd.R_after (ok:=(fun k_=>some k_ ≠ (.slice Ao38 y118.length co38:Value).ownBlock)) (rR HO_3.out) hg hat);have HO133:=mk0 (ho);clear HO130 ho hb hg hat)))
     go_roundg k2
     case measure=>have:=HK1.out;have:=HK2.out;omega
     case rel=>exact⟨(y131),(wrap64 (x4_1 - 1)),eS,H',⟨by have:=HK1.out;have:=HK2.out;omega⟩,⟨rR (Kd.R_mono HO133.out (fun _ hk=>trivial))⟩,⟨kB HB.out⟩⟩
/-! ### spec_l13Head: function 71 -/
def spec_l13Head.f (l0 : List Int) (a1 : Int) (a2 : Int) : Option (List Int) := if 0 ≤ a1 then (if a1 ≤ (mn (l0.length : Int) (wrap64 (a1 + a2))) then (if (mn (l0.length : Int) (wrap64 (a1 + a2))) ≤ (l0.length : Int) then (some ((l0.take ((mn (l0.length : Int) (wrap64 (a1 + a2))) : Int).toNat).drop (a1 : Int).toNat)) else (none)) else (none)) else (none)
set_option maxHeartbeats 8000000 in
set_option maxRecDepth 100000 in
theorem spec_l13Head.calls (P0_ : Nat → Prop) (A0 : Option Addr) (c0 : Nat) (l0 : List Int) (a1 : Int) (a2 : Int) (r : List Int) (w : World) (hs0 : Kd.V (Kd.int .u8) 5 w w.heap.size (fun k_ => P0_ k_) (.slice A0 l0.length c0) l0) (h : spec_l13Head.f l0 a1 a2 = some r) :
  Calls Try.prog 71 #[.slice A0 l0.length c0, .int .i64 a1, .int .i64 a2] w fun e w' => ∃ v0_ : Value, e = .returned (v0_) ∧ Kd.V (Kd.int .u8) 5 w' w.heap.size (fun k_ => (P0_ k_ ∨ w.heap.size ≤ k_)) v0_ r ∧ Below w.heap.size w w' := by
 have HO0:=mk0 (show Kd.V (Kd.int .u8) 5 w w.heap.size (fun k_=>(P0_ k_ ∨ w.heap.size ≤ k_)) (.slice A0 l0.length c0) l0 from Kd.V_mono hs0 (fun k_ hk=>.inl hk))
 have HB:=mk0 (Below.refl w.heap.size w)
 have H:(if 0 ≤ a1 then (if a1 ≤ (mn (l0.length:Int) (wrap64 (a1 + a2))) then (if (mn (l0.length:Int) (wrap64 (a1 + a2))) ≤ (l0.length:Int) then (some ((l0.take ((mn (l0.length:Int) (wrap64 (a1 + a2))):Int).toNat).drop (a1:Int).toNat)) else (none)) else (none)) else (none)) = some r:=h
 clear h
 obtain⟨ji4,hji4⟩:∃ j_:Int,(mn (l0.length:Int) (wrap64 (a1 + a2))) = j_:=⟨_,rfl⟩
 first|rw [hji4] at H|simp only [hji4] at H
 have hji4_:(if (wrap64 (a1 + a2)) < (l0.length:Int) then (wrap64 (a1 + a2)) else (l0.length:Int)) = ji4:=hji4
 by_cases c5:0 ≤ a1
 ·rw [if_pos c5] at H
  have c5b0:=eq_true c5
  have c5b1:decide (0 ≤ a1) = true:=decide_eq_true c5
  clear c5
  by_cases c6:a1 ≤ (ji4)
  ·rw [if_pos c6] at H
   have c6b0:=eq_true c6
   have c6b1:decide (a1 ≤ (ji4)) = true:=decide_eq_true c6
   clear c6
   by_cases c7:(ji4) ≤ (l0.length:Int)
   ·rw [if_pos c7] at H
    have c7b0:=eq_true c7
    have c7b1:decide ((ji4) ≤ (l0.length:Int)) = true:=decide_eq_true c7
    clear c7
    obtain⟨y138,hy138⟩:∃ y_:List Int,y_ = ((l0.take ((ji4):Int).toNat).drop (a1:Int).toNat):=⟨_,rfl⟩
    first|(with_reducible replace H:=yB hy138 H)|rw [← hy138] at H|skip
    have Ny138:=mk0 hy138
    clear hy138
    obtain rfl:=Option.some.inj H
    have q8:((ji4):Int) ≤ ((l0.length:Int):Int):=oD
    obtain⟨i08,hi08,_,hsz8,_⟩:=info_parts info5
    have hroom8:l0.length ≤ c0:=(Kd.V_reads' HO0.out).2.1
    have hC8:Kd.F (Kd.int .u8) _ _ A0 l0.length l0:=(Kd.V_at (base:=w.heap.size) HO0.out).2.2
    have ql8:(a1:Int) ≤ ((ji4):Int):=oD
    have q08:(0:Int) ≤ (a1:Int):=oD
    have hcut8:=cut_mid (P:=Try.prog) 22 5 .i64 .i64 Try.underlying22 hi08 1 hsz8 A0 l0.length c0 a1 (ji4) q08 ql8 q8 hroom8
    have hr8:=Kd.F_mid (lo:=(a1:Int).toNat) (hi:=((ji4):Int).toNat) (c:=c0) hC8 (by omega) (by omega) hroom8
    obtain⟨A8,hA8⟩:∃ A1,A1 = (if c0 = (a1:Int).toNat then A0 else (A0:Option Addr).map (·.add ((a1:Int).toNat * 1))):=⟨_,rfl⟩
    obtain⟨c8,hc8⟩:∃ c1,c1 = c0 - (a1:Int).toNat:=⟨_,rfl⟩
    have hy8:y138.length = ((ji4):Int).toNat - (a1:Int).toNat:=(by rw [Ny138.out,List.length_drop,List.length_take] <;> omega)
    rw [show ((l0).take ((ji4):Int).toNat).drop (a1:Int).toNat = y138 from Ny138.out.symm] at hr8
    replace hr8:Kd.F (Kd.int .u8) _ _ A8 y138.length y138:=(by rw [hA8];exact hr8)
    rw [← hy8, ← hA8, ← hc8] at hcut8
    have HO142:=mk0 (show Kd.V (Kd.int .u8) 5 _ w.heap.size _ (.slice A8 y138.length c8) y138 from Kd.V_mk (by rw [hy8,hc8];exact Nat.sub_le_sub_right (Nat.le_trans (by omega) hroom8) _) hr8)
    have HC142:=mk0 (show y138.length ≤ c8 from by rw [hy8,hc8];exact Nat.sub_le_sub_right (Nat.le_trans (by omega) hroom8) _)
    clear hr8 hC8 hroom8 hi08 hsz8 hc8
    have KY8:=mk0 hy8
    have KA8:=mk0 hA8
    clear hy8 hA8
    replace q8:=eq_true q8
    go_enter Try.func71,Try.ntmps71
    go_wp2
    go_ret
    exact⟨_,by first|rfl|(simp [errW_none,errW_some] <;> rfl)|(simp only [← hji4];first|rfl|(simp [errW_none,errW_some] <;> rfl))|(simp [*,errW_none,errW_some] <;> rfl),rV HO142.out,kB HB.out⟩
   ·rw [if_neg c7] at H
    exact nn H
  ·rw [if_neg c6] at H
   exact nn H
 ·rw [if_neg c5] at H
  exact nn H
/-! ### spec_l13Heads: function 52 -/
def spec_l13Heads.l0 : Nat → List Int → Int → List (List Int) → Int → List Int → Option ((List (List Int)))
 | 0, _, _, _, _, _ => none
 | k + 1, x0, x1, x6, x7, x9 => if x7 < (x9.length : Int) then (if 0 ≤ x7 then ((spec_l13Head.f x0 (rd x9 x7) x1).bind fun t150 => (if x6.length < 5864062014805 then (spec_l13Heads.l0 k x0 x1 (x6 ++ [t150]) (wrap64 (x7 + 1)) x9) else (none))) else (none)) else (some x6)
def spec_l13Heads.f (k : Nat) (l0 : List Int) (a1 : Int) : Option ((List (List Int))) := (spec_SuffixRows.f k l0).bind fun t143 => (spec_l13Heads.l0 k l0 a1 (([] : List (List Int))) 0 t143)
set_option maxHeartbeats 8000000 in
set_option maxRecDepth 100000 in
theorem spec_l13Heads.calls (k : Nat) (P0_ : Nat → Prop) (A0 : Option Addr) (c0 : Nat) (l0 : List Int) (a1 : Int) (r : List (List Int)) (w : World) (hs0 : Kd.V (Kd.int .u8) 5 w w.heap.size (fun k_ => P0_ k_) (.slice A0 l0.length c0) l0) (h : spec_l13Heads.f k l0 a1 = some r) :
  Calls Try.prog 52 #[.slice A0 l0.length c0, .int .i64 a1] w fun e w' => ∃ v0_ : Value, e = .returned (v0_) ∧ Kd.N (Kd.slice 5 (Kd.int .u8)) 22 w' w.heap.size (fun k_ => (P0_ k_ ∨ w.heap.size ≤ k_)) v0_ r ∧ Below w.heap.size w w' := by
 have HO0:=mk0 (show Kd.V (Kd.int .u8) 5 w w.heap.size (fun k_=>(P0_ k_ ∨ w.heap.size ≤ k_)) (.slice A0 l0.length c0) l0 from Kd.V_mono hs0 (fun k_ hk=>.inl hk))
 have HB:=mk0 (Below.refl w.heap.size w)
 have H:((spec_SuffixRows.f k l0).bind fun t143=>(spec_l13Heads.l0 k l0 a1 (([]:List (List Int))) 0 t143)) = some r:=h
 clear h
 replace H:=bE H
 obtain⟨t143,A3,H⟩:=H
 obtain⟨y146,hy146⟩:∃ y_:List (List Int),y_ = (([]:List (List Int))):=⟨_,rfl⟩
 first|(with_reducible replace H:=yB hy146 H)|rw [← hy146] at H|skip
 have Ny146:=mk0 hy146
 clear hy146
 have H':=mk0 H
 clear H
 go_enter Try.func52,Try.ntmps52
 go_wp2_with (first|((with_reducible refine gate_callee (f:=30) rfl ?_);refine gL (some 9) Try.func30 #[.slice A0 l0.length c0] ?_;(with_reducible refine (spec_SuffixRows.calls k _ _ l0 t143 _ ?side1 ?side2 A3.out).mono ?_);(case side1=>exact kC (Kd.V_reads' HO0.out).2.2);(case side2=>exact (Kd.V_reads' HO0.out).2.1);rintro e w4 ⟨v144,rfl,ho0,hb⟩;refine⟨_,rfl,?_⟩;replace HO0:=mk0 (Kd.V_elder' (rV HO0.out) (Kd.R_base ho0) hb);have HO145:=mk0 (Kd.R_lower (Kd.R_newM (M:=fun k_=>(w.heap.size ≤ k_)) ho0 (kZ HB.out) (fun k_ h_=>h_)) (kZ HB.out));replace HB:=mk0 (kS HB.out hb);(try clear hb);(try clear ho0))|((with_reducible refine gate_dst (N:=10) rfl ?_);refine Kd.N_lit (Kd.slice 5 (Kd.int .u8)) _ 22 ?hg (N':=10) ?hd (xs:=([]:List (List Int))) (inner:=[]) (ok:=(fun k_=>(P0_ k_ ∨ w.heap.size ≤ k_) ∧ some k_ ≠ (v144:Value).ownBlock)) (okp:=(fun k_=>(P0_ k_ ∨ w.heap.size ≤ k_) ∧ some k_ ≠ (v144:Value).ownBlock)) ?hr ?hp (fun _ hk=>hk) ((show ∀ k_,w4.heap.size ≤ k_ → (fun k_=>(P0_ k_ ∨ w.heap.size ≤ k_) ∧ some k_ ≠ (v144:Value).ownBlock) k_ from fun k_ hk=>⟨(.inr (Nat.le_trans (kZ HB.out) hk)),Kd.fresh' (Kd.R_lt (rR HO145.out)) k_ hk⟩) _ (Nat.le_refl _)) (Below.refl _ _) (Nat.le_refl _) (by simp) ?_;(case hd=>rfl);(case hg=>rfl);(case hr=>first|(go_simp;done)|(go_simp;rfl));(case hp=>exact (Reps.none _ _));intro v147 w5 ho6 hb hg_ hnew_;clear hg_ hnew_;(first|rw [← Ny146.out] at ho6|(simp only [Int.reduceToNat] at ho6;rw [← Ny146.out] at ho6));replace HO0:=mk0 (Kd.V_elder' (rV HO0.out) (Kd.N_base ho6) hb);replace HO145:=mk0 (bR HO145.out hb);have HO148:=mk0 (Kd.N_lower ho6 (kZ HB.out));replace HB:=mk0 (kS HB.out hb);clear hb ho6))
 go_loopg [6,7] k (fun kq v6 v7 w'=>∃ (x6_1:List (List Int)) (x7_1:Int),v7 = .int .i64 x7_1 ∧ Aside0 (spec_l13Heads.l0 kq l0 a1 x6_1 x7_1 t143 = some r) ∧ Aside0 (kq ≤ k) ∧ Aside0 (Kd.V (Kd.int .u8) 5 w' w.heap.size (fun k_=>(P0_ k_ ∨ w.heap.size ≤ k_) ∧ some k_ ≠ (v6:Value).ownBlock ∧ some k_ ≠ (v144:Value).ownBlock) (.slice A0 l0.length c0) l0) ∧ Aside0 (Kd.N (Kd.slice 5 (Kd.int .u8)) 22 w' w.heap.size (fun k_=>(P0_ k_ ∨ w.heap.size ≤ k_) ∧ some k_ ≠ (v144:Value).ownBlock) v6 x6_1) ∧ Aside0 (Kd.R (Kd.int .i64) 3 w' w.heap.size (fun k_=>(w.heap.size ≤ k_)) v144 t143) ∧ Aside0 (Below w.heap.size w w'))
 case atStart=>exact⟨(y146),(0),eS,H',⟨Nat.le_refl _⟩,⟨rV (Kd.V_mono HO0.out (fun _ hk=>⟨hk.1.1,⟨hk.2,hk.1.2⟩⟩))⟩,⟨rN HO148.out⟩,⟨rR (Kd.R_mono HO145.out (fun _ hk=>hk.1))⟩,⟨kB HB.out⟩⟩
 case round =>
  clear H'
  try clear p2
  try clear c3
  try clear c5
  obtain⟨x6_1,x7_1,rfl,HA,HK1,HO_0,HO_6,HO_9,HB⟩:=hrel
  cases gk with
  | zero=>exact absurd HA.out (by simp [spec_l13Heads.l0])
  | succ k1 =>
   have H:=HA.out
   clear HA
   simp only [spec_l13Heads.l0] at H
   by_cases c7:x7_1 < (t143.length:Int)
   ·rw [if_pos c7] at H
    have c7b0:decide (x7_1 < (t143.length:Int)) = true:=decide_eq_true c7
    clear c7
    by_cases c8:0 ≤ x7_1
    ·rw [if_pos c8] at H
     have c8b0:decide (0 ≤ x7_1) = true:=decide_eq_true c8
     clear c8
     replace H:=bE H
     obtain⟨t150,A9,H⟩:=H
     by_cases c10:x6_1.length < 5864062014805
     ·rw [if_pos c10] at H
      have LMc10:=mk0 c10
      clear c10
      obtain⟨y153,hy153⟩:∃ y_:List (List Int),y_ = (x6_1 ++ [t150]):=⟨_,rfl⟩
      first|(with_reducible replace H:=yB hy153 H)|rw [← hy153] at H|skip
      have Ny153:=mk0 hy153
      clear hy153
      have H':=mk0 H
      clear H
      obtain⟨Ao11,co11,eo11⟩:=Kd.R_slice HO_9.out
      subst eo11
      have p149:0 ≤ (x7_1:Int):=oD
      have q149:x7_1 < (t143.length:Int):=oD
      obtain⟨ad149,e149,hx149_0⟩:=Kd.at_int (Kd.R_reads' HO_9.out).2.2 x7_1 p149 q149
      cases e149
      replace p149:=eq_true p149
      replace q149:=eq_true q149
      go_wp2_with (first|((with_reducible refine gate_callee (f:=71) rfl ?_);refine gL (some 24) Try.func71 #[.slice A0 l0.length c0,.int .i64 (rd t143 x7_1),.int .i64 a1] ?_;(with_reducible refine (spec_l13Head.calls (fun k_=>((P0_ k_ ∨ w.heap.size ≤ k_) ∧ (some k_ ≠ (u6:Value).ownBlock ∧ some k_ ≠ (.slice (some ad149) t143.length co11:Value).ownBlock))) _ _ l0 (rd t143 x7_1) a1 t150 _ ?side1 A9.out).mono ?_);(case side1=>exact HO_0.out);rintro e w12 ⟨v151,rfl,ho0,hb⟩;refine⟨_,rfl,?_⟩;replace HO_0:=mk0 (bV HO_0.out hb);have HO152:=mk0 (Kd.V_lower (Kd.V_mono (ok':=fun k_=>(P0_ k_ ∨ w.heap.size ≤ k_) ∧ some k_ ≠ (u6:Value).ownBlock ∧ some k_ ≠ (.slice (some ad149) t143.length co11:Value).ownBlock) ho0 (fun k_ hk_=>⟨Or.elim hk_ (fun hs_=>hs_.1) (fun hn_=>(.inr (Nat.le_trans (kZ HB.out) hn_))),Or.elim hk_ (fun hs_=>hs_.2.1) (fun hn_=>(Kd.fresh' (Kd.N_lt (rN HO_6.out)) k_ hn_)),Or.elim hk_ (fun hs_=>hs_.2.2) (fun hn_=>(Kd.fresh' (Kd.R_lt (rR HO_9.out)) k_ hn_))⟩)) (kZ HB.out));replace HO_6:=mk0 (bN HO_6.out hb);replace HO_9:=mk0 (bR HO_9.out hb);replace HB:=mk0 (kS HB.out hb);(try clear hb);(try clear ho0);obtain⟨Ao14,co14,eo14⟩:=Kd.V_slice HO152.out;subst eo14)|((with_reducible refine gate_builtin (b:=.append) (xs:=#[.tmp 17,.tmp 25]) rfl ?_);at_builtin;refine Kd.N_append (Kd.slice 5 (Kd.int .u8)) (w0:=w) w.heap.size rfl (.tmp 17) (.tmp 25) 66 22 (.slice none 0 0) 24 rfl Try.underlying66 info22 rfl (by decide) (by omega) u6 x6_1 t150 [.slice Ao14 t150.length co14] (fun k_=>(P0_ k_ ∨ w.heap.size ≤ k_) ∧ some k_ ≠ (.slice (some ad149) t143.length co11:Value).ownBlock) (fun k_=>((fun k_=>(P0_ k_ ∨ w.heap.size ≤ k_) ∧ some k_ ≠ (.slice (some ad149) t143.length co11:Value).ownBlock)) k_ ∧ some k_ ≠ (u6:Value).ownBlock) rfl rfl ?aP (fun _ hk=>hk) ?aF ?aO ?aB ?aS ?aL ?_;(case aP=>exact (Kd.FK_slice_mk (Kd.V_reads' (Kd.V_mono (ok':=(fun k_=>((fun k_=>(P0_ k_ ∨ w.heap.size ≤ k_) ∧ some k_ ≠ (.slice (some ad149) t143.length co11:Value).ownBlock)) k_ ∧ some k_ ≠ (u6:Value).ownBlock)) (HO152.out) (fun k_ hk=>⟨⟨hk.1,hk.2.2⟩,hk.2.1⟩))).2.1 (Kd.V_F (Kd.V_mono (ok':=(fun k_=>((fun k_=>(P0_ k_ ∨ w.heap.size ≤ k_) ∧ some k_ ≠ (.slice (some ad149) t143.length co11:Value).ownBlock)) k_ ∧ some k_ ≠ (u6:Value).ownBlock)) (HO152.out) (fun k_ hk=>⟨⟨hk.1,hk.2.2⟩,hk.2.1⟩)))));(case aB=>exact (kB HB.out));(case aF=>exact (fun k_ hk=>⟨(.inr (Nat.le_trans (kZ HB.out) hk)),Kd.fresh' (Kd.R_lt (rR HO_9.out)) k_ hk⟩));(case aO=>exact (rN HO_6.out));(case aS=>exact (kZ HB.out));(case aL=>have:=LMc10.out;omega);intro v154 w13 ho hb hg hat;rw [← Ny153.out] at ho;replace HO_0:=mk0 (Kd.V_afterv (ok:=(fun k_=>(P0_ k_ ∨ w.heap.size ≤ k_) ∧ some k_ ≠ (.slice (some ad149) t143.length co11:Value).ownBlock)) (rV (Kd.V_mono HO_0.out (fun _ hk=>⟨⟨hk.1,hk.2.2⟩,hk.2.1⟩))) hg hat);replace HO_9:=mk0 (Kd.R_over' (rR HO_9.out) (Kd.N_typed (rN HO_6.out)) (by decide) hg);replace HO152:=mk0 (Kd.V_afterv (ok:=(fun k_=>(P0_ k_ ∨ w.heap.size ≤ k_) ∧ some k_ ≠ (.slice (some ad149) t143.length co11:Value).ownBlock)) (rV (Kd.V_mono HO152.out (fun _ hk=>⟨⟨hk.1,hk.2.2⟩,hk.2.1⟩))) hg hat);replace HB:=mk0 (hb);have HO155:=mk0 (ho);clear HO_6 ho hb hg hat))
      go_roundg k1
      case measure=>have:=HK1.out;omega
      case rel=>exact⟨(y153),(wrap64 (x7_1 + 1)),eS,H',⟨by have:=HK1.out;omega⟩,⟨rV (Kd.V_mono HO_0.out (fun _ hk=>⟨hk.1.1,⟨hk.2,hk.1.2⟩⟩))⟩,⟨rN HO155.out⟩,⟨rR HO_9.out⟩,⟨kB HB.out⟩⟩
     ·rw [if_neg c10] at H
      exact nn H
    ·rw [if_neg c8] at H
     exact nn H
   ·rw [if_neg c7] at H
    have c7b0:decide (x7_1 < (t143.length:Int)) = false:=decide_eq_false c7
    clear c7
    obtain rfl:=Option.some.inj H
    obtain⟨Ao15,co15,eo15⟩:=Kd.R_slice HO_9.out
    subst eo15
    go_wp2
    go_ret
    exact⟨_,eR,rN (Kd.N_mono HO_6.out (fun _ hk=>hk.1)),kB HB.out⟩
end Go.Proofs.Ytadhngelhognaaa.QFnShare
