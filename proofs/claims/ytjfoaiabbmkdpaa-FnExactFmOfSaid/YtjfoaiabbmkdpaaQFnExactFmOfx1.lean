-- A walk, made by walk.py, a program of this session's.
import Derived.Test.YtjfoaiabbmkdpaaQFnExactFmOfx0
namespace Go.Proofs.Ytjfoaiabbmkdpaa.QFnExactFmOf
open Go.RowKit Go.Proofs.YtjfoaiabbmkdpaaW.PrintWords Go.Proofs.YtjfoaiabbmkdpaaW.PrintLast Go.Proofs.YtjfoaiabbmkdpaaW.PrintMore
attribute [local go_sem] max2_int min2_int max_two min_two max_three min_three max_four min_four   -- for this text's walks alone
set_option linter.unusedVariables false
set_option linter.unusedSimpArgs false
/-! ### spec_TextOk: function 12 -/
def spec_TextOk.f (l0 : List Int) : Option (Bool) := some (decide ((l0.length : Int) ≤ 300))
set_option maxHeartbeats 8000000 in
set_option maxRecDepth 100000 in
theorem spec_TextOk.calls (A0 : Option Addr) (c0 : Nat) (l0 : List Int) (r : Bool) (w : World) (hr0 : Kd.C (Kd.int .u8) w A0 l0.length l0) (hc0 : l0.length ≤ c0) (h : spec_TextOk.f l0 = some r) :
  Calls Try.prog 12 #[.slice A0 l0.length c0] w fun e w' => e = .returned (.bool r) ∧ Drawn0 w w' := by
 have HR0:=mk0 hr0
 have HC0:=mk0 hc0
 clear hr0 hc0
 have H:(some (decide ((l0.length:Int) ≤ 300))) = some r:=h
 clear h
 obtain rfl:=Option.some.inj H
 go_enter Try.func12,Try.ntmps12
 go_wp2
 go_ret
 exact⟨by first|rfl|(simp;done)|(simp [*];done),by repeat (first|exact Drawn0.refl _|apply Drawn0.step)⟩
/-! ### spec_l09Rate: function 13 -/
def spec_l09Rate.f (a0 : Int) : Option (Bool) := if a0 ≥ 1 then (some (decide (a0 ≤ 64))) else (some false)
set_option maxHeartbeats 8000000 in
set_option maxRecDepth 100000 in
theorem spec_l09Rate.calls (a0 : Int) (r : Bool) (w : World) (h : spec_l09Rate.f a0 = some r) :
  Calls Try.prog 13 #[.int .i64 a0] w fun e w' => e = .returned (.bool r) ∧ Drawn0 w w' := by
 have H:(if a0 ≥ 1 then (some (decide (a0 ≤ 64))) else (some false)) = some r:=h
 clear h
 by_cases c2:a0 ≥ 1
 ·rw [if_pos c2] at H
  have c2b0:decide (1 ≤ a0) = true:=decide_eq_true c2
  clear c2
  obtain rfl:=Option.some.inj H
  go_enter Try.func13,Try.ntmps13
  go_wp2
  go_ret
  exact⟨by first|rfl|(simp;done)|(simp [*];done),by repeat (first|exact Drawn0.refl _|apply Drawn0.step)⟩
 ·rw [if_neg c2] at H
  have c2b0:decide (1 ≤ a0) = false:=decide_eq_false c2
  clear c2
  obtain rfl:=Option.some.inj H
  go_enter Try.func13,Try.ntmps13
  go_wp2
  go_ret
  exact⟨by first|rfl|(simp;done)|(simp [*];done),by repeat (first|exact Drawn0.refl _|apply Drawn0.step)⟩
/-! ### spec_l05Cmp: function 38 -/
mutual
def spec_l05Cmp.l0 : Nat → List Int → List Int → Int → Option (Int)
 | 0, _, _, _ => none
 | k + 1, x0, x1, x5 => if x5 < (x0.length : Int) then (spec_l05Cmp.j1 k x0 x1 x5 (decide (x5 < (x1.length : Int)))) else (spec_l05Cmp.j1 k x0 x1 x5 false)
def spec_l05Cmp.j1 : Nat → List Int → List Int → Int → Bool → Option (Int)
 | 0, _, _, _, _ => none
 | k + 1, x0, x1, x5, x15 => if x15 = true then (if 0 ≤ x5 then (if x5 < (x0.length : Int) then (if x5 < (x1.length : Int) then (if (rd x0 x5) < (rd x1 x5) then (some (-1)) else (if (rd x0 x5) > (rd x1 x5) then (some 1) else (spec_l05Cmp.l0 k x0 x1 (wrap64 (x5 + 1))))) else (none)) else (none)) else (none)) else (if (x0.length : Int) < (x1.length : Int) then (some (-1)) else (if (x0.length : Int) > (x1.length : Int) then (some 1) else (some 0)))
end
def spec_l05Cmp.f (k : Nat) (l0 : List Int) (l1 : List Int) : Option (Int) := spec_l05Cmp.l0 k l0 l1 0
set_option maxHeartbeats 8000000 in
set_option maxRecDepth 100000 in
theorem spec_l05Cmp.calls (k : Nat) (A0 : Option Addr) (c0 : Nat) (l0 : List Int) (A1 : Option Addr) (c1 : Nat) (l1 : List Int) (r : Int) (w : World) (hr0 : Kd.C (Kd.int .u8) w A0 l0.length l0) (hc0 : l0.length ≤ c0) (hr1 : Kd.C (Kd.int .u8) w A1 l1.length l1) (hc1 : l1.length ≤ c1) (h : spec_l05Cmp.f k l0 l1 = some r) :
  Calls Try.prog 38 #[.slice A0 l0.length c0, .slice A1 l1.length c1] w fun e w' => e = .returned (.int .i64 r) ∧ Drawn0 w w' := by
 have HR0:=mk0 hr0
 have HC0:=mk0 hc0
 clear hr0 hc0
 have HR1:=mk0 hr1
 have HC1:=mk0 hc1
 clear hr1 hc1
 have H:(spec_l05Cmp.l0 k l0 l1 0) = some r:=h
 clear h
 have H':=mk0 H
 clear H
 go_enter Try.func38,Try.ntmps38
 go_wp2
 repeat (go_quiet (fail);try go_wp2)
 go_loopg [5] k (fun kq v5 w'=>∃ (x5_1:Int),v5 = .int .i64 x5_1 ∧ Aside0 (spec_l05Cmp.l0 kq l0 l1 x5_1 = some r) ∧ Aside0 (kq ≤ k) ∧ Drawn0 w w')
 case atStart=>exact⟨(0),eS,H',⟨Nat.le_refl _⟩,by repeat (first|exact Drawn0.refl _|apply Drawn0.step)⟩
 case round =>
  clear H'
  try clear c1
  try clear p2
  obtain⟨x5_1,rfl,HA,HK1,⟨m1,rfl⟩⟩:=hrel
  cases gk with
  | zero=>exact absurd HA.out (by simp [spec_l05Cmp.l0])
  | succ k1 =>
   have H:=HA.out
   clear HA
   simp only [spec_l05Cmp.l0] at H
   have HC3:=mk0 H
   clear H
   go_upto_region 2 with (fail)
   repeat (go_quiet (fail);go_upto_region 2 with (fail))
   go_cut [15] (fun v15 wc=>∃ (kq:Nat) (x15_2:Bool),v15 = .bool x15_2 ∧ Aside0 (spec_l05Cmp.j1 kq l0 l1 x5_1 x15_2 = some r) ∧ Aside0 (kq ≤ k1) ∧ Drawn0 w wc)
   case first =>
    have H:=HC3.out
    clear HC3
    by_cases c4:x5_1 < (l0.length:Int)
    ·rw [if_pos c4] at H
     have c4b0:decide (x5_1 < (l0.length:Int)) = true:=decide_eq_true c4
     clear c4
     (first|rw [c4b0]|(simp only [i64_w,i32_w];rw [c4b0])|skip)
     have H':=mk0 H
     clear H
     go_wp2
     repeat (go_quiet (fail);try go_wp2)
     go_meet
     case rel=>exact⟨_,(decide (x5_1 < (l1.length:Int))),eS,H',⟨by have:=HK1.out;first|omega|exact Nat.le_refl _⟩,by repeat (first|exact Drawn0.refl _|apply Drawn0.step)⟩
    ·rw [if_neg c4] at H
     have c4b0:decide (x5_1 < (l0.length:Int)) = false:=decide_eq_false c4
     clear c4
     (first|rw [c4b0]|(simp only [i64_w,i32_w];rw [c4b0])|skip)
     have H':=mk0 H
     clear H
     go_wp2
     repeat (go_quiet (fail);try go_wp2)
     go_meet
     case rel=>exact⟨_,(false),eS,H',⟨by have:=HK1.out;first|omega|exact Nat.le_refl _⟩,by repeat (first|exact Drawn0.refl _|apply Drawn0.step)⟩
   case rest =>
    clear HC3
    try clear c1
    try clear p2
    try clear c3
    try clear c4
    try clear c4b0
    try clear p2
    obtain⟨kq,x15_2,rfl,HA,HJ2,⟨mc2,rfl⟩⟩:=hcut
    cases kq with
    | zero=>exact absurd HA.out (by simp [spec_l05Cmp.j1])
    | succ kj2 =>
     have H:=HA.out
     clear HA
     simp only [spec_l05Cmp.j1] at H
     by_cases c5:x15_2 = true
     ·subst c5
      replace H:=iT H
      by_cases c6:0 ≤ x5_1
      ·rw [if_pos c6] at H
       have c6b0:decide (0 ≤ x5_1) = true:=decide_eq_true c6
       clear c6
       by_cases c7:x5_1 < (l0.length:Int)
       ·rw [if_pos c7] at H
        have c7b0:decide (x5_1 < (l0.length:Int)) = true:=decide_eq_true c7
        clear c7
        by_cases c8:x5_1 < (l1.length:Int)
        ·rw [if_pos c8] at H
         have c8b0:decide (x5_1 < (l1.length:Int)) = true:=decide_eq_true c8
         clear c8
         by_cases c9:(rd l0 x5_1) < (rd l1 x5_1)
         ·rw [if_pos c9] at H
          have c9b0:decide ((rd l0 x5_1) < (rd l1 x5_1)) = true:=decide_eq_true c9
          clear c9
          obtain rfl:=Option.some.inj H
          have p101:0 ≤ (x5_1:Int):=oD
          have q101:x5_1 < (l0.length:Int):=oD
          obtain⟨ad101,e101,hx101_0⟩:=Kd.at_int HR0.out x5_1 p101 q101
          cases e101
          replace p101:=eq_true p101
          replace q101:=eq_true q101
          have p102:0 ≤ (x5_1:Int):=oD
          have q102:x5_1 < (l1.length:Int):=oD
          obtain⟨ad102,e102,hx102_0⟩:=Kd.at_int HR1.out x5_1 p102 q102
          cases e102
          replace p102:=eq_true p102
          replace q102:=eq_true q102
          go_wp2
          repeat (go_quiet (fail);try go_wp2)
          go_ret
          exact⟨by first|rfl|(simp;done)|(simp [*];done),by repeat (first|exact Drawn0.refl _|apply Drawn0.step)⟩
         ·rw [if_neg c9] at H
          have c9b0:decide ((rd l0 x5_1) < (rd l1 x5_1)) = false:=decide_eq_false c9
          clear c9
          by_cases c10:(rd l0 x5_1) > (rd l1 x5_1)
          ·rw [if_pos c10] at H
           have c10b0:decide ((rd l1 x5_1) < (rd l0 x5_1)) = true:=decide_eq_true c10
           clear c10
           obtain rfl:=Option.some.inj H
           have p101:0 ≤ (x5_1:Int):=oD
           have q101:x5_1 < (l0.length:Int):=oD
           obtain⟨ad101,e101,hx101_0⟩:=Kd.at_int HR0.out x5_1 p101 q101
           cases e101
           replace p101:=eq_true p101
           replace q101:=eq_true q101
           have p102:0 ≤ (x5_1:Int):=oD
           have q102:x5_1 < (l1.length:Int):=oD
           obtain⟨ad102,e102,hx102_0⟩:=Kd.at_int HR1.out x5_1 p102 q102
           cases e102
           replace p102:=eq_true p102
           replace q102:=eq_true q102
           have p103:0 ≤ (x5_1:Int):=oD
           have q103:x5_1 < (l0.length:Int):=oD
           obtain⟨ad103,e103,hx103_0⟩:=Kd.at_int HR0.out x5_1 p103 q103
           obtain rfl:ad101 = ad103:=(by injection e103)
           replace p103:=eq_true p103
           replace q103:=eq_true q103
           have p104:0 ≤ (x5_1:Int):=oD
           have q104:x5_1 < (l1.length:Int):=oD
           obtain⟨ad104,e104,hx104_0⟩:=Kd.at_int HR1.out x5_1 p104 q104
           obtain rfl:ad102 = ad104:=(by injection e104)
           replace p104:=eq_true p104
           replace q104:=eq_true q104
           go_wp2
           repeat (go_quiet (fail);try go_wp2)
           go_ret
           exact⟨by first|rfl|(simp;done)|(simp [*];done),by repeat (first|exact Drawn0.refl _|apply Drawn0.step)⟩
          ·rw [if_neg c10] at H
           have c10b0:decide ((rd l1 x5_1) < (rd l0 x5_1)) = false:=decide_eq_false c10
           clear c10
           have H':=mk0 H
           clear H
           have p101:0 ≤ (x5_1:Int):=oD
           have q101:x5_1 < (l0.length:Int):=oD
           obtain⟨ad101,e101,hx101_0⟩:=Kd.at_int HR0.out x5_1 p101 q101
           cases e101
           replace p101:=eq_true p101
           replace q101:=eq_true q101
           have p102:0 ≤ (x5_1:Int):=oD
           have q102:x5_1 < (l1.length:Int):=oD
           obtain⟨ad102,e102,hx102_0⟩:=Kd.at_int HR1.out x5_1 p102 q102
           cases e102
           replace p102:=eq_true p102
           replace q102:=eq_true q102
           have p103:0 ≤ (x5_1:Int):=oD
           have q103:x5_1 < (l0.length:Int):=oD
           obtain⟨ad103,e103,hx103_0⟩:=Kd.at_int HR0.out x5_1 p103 q103
           obtain rfl:ad101 = ad103:=(by injection e103)
           replace p103:=eq_true p103
           replace q103:=eq_true q103
           have p104:0 ≤ (x5_1:Int):=oD
           have q104:x5_1 < (l1.length:Int):=oD
           obtain⟨ad104,e104,hx104_0⟩:=Kd.at_int HR1.out x5_1 p104 q104
           obtain rfl:ad102 = ad104:=(by injection e104)
           replace p104:=eq_true p104
           replace q104:=eq_true q104
           go_wp2
           repeat (go_quiet (fail);try go_wp2)
           go_roundg kj2
           case measure=>have:=HK1.out;have:=HJ2.out;omega
           case rel=>exact⟨(wrap64 (x5_1 + 1)),eS,H',⟨by have:=HK1.out;have:=HJ2.out;omega⟩,by repeat (first|exact Drawn0.refl _|apply Drawn0.step)⟩
        ·rw [if_neg c8] at H
         exact nn H
       ·rw [if_neg c7] at H
        exact nn H
      ·rw [if_neg c6] at H
       exact nn H
     ·replace c5:=Bool.eq_false_iff.mpr c5
      subst c5
      replace H:=iF H
      by_cases c11:(l0.length:Int) < (l1.length:Int)
      ·rw [if_pos c11] at H
       have c11b0:decide ((l0.length:Int) < (l1.length:Int)) = true:=decide_eq_true c11
       have c11b1:decide (l0.length < l1.length) = true:=decide_eq_true (Int.ofNat_lt.mp c11)
       clear c11
       obtain rfl:=Option.some.inj H
       go_wp2
       repeat (go_quiet (fail);try go_wp2)
       go_ret
       exact⟨by first|rfl|(simp;done)|(simp [*];done),by repeat (first|exact Drawn0.refl _|apply Drawn0.step)⟩
      ·rw [if_neg c11] at H
       have c11b0:decide ((l0.length:Int) < (l1.length:Int)) = false:=decide_eq_false c11
       have c11b1:decide (l0.length < l1.length) = false:=decide_eq_false (fun h=>c11 (Int.ofNat_lt.mpr h))
       clear c11
       by_cases c12:(l0.length:Int) > (l1.length:Int)
       ·rw [if_pos c12] at H
        have c12b0:decide ((l1.length:Int) < (l0.length:Int)) = true:=decide_eq_true c12
        have c12b1:decide (l1.length < l0.length) = true:=decide_eq_true (Int.ofNat_lt.mp c12)
        clear c12
        obtain rfl:=Option.some.inj H
        go_wp2
        repeat (go_quiet (fail);try go_wp2)
        go_ret
        exact⟨by first|rfl|(simp;done)|(simp [*];done),by repeat (first|exact Drawn0.refl _|apply Drawn0.step)⟩
       ·rw [if_neg c12] at H
        have c12b0:decide ((l1.length:Int) < (l0.length:Int)) = false:=decide_eq_false c12
        have c12b1:decide (l1.length < l0.length) = false:=decide_eq_false (fun h=>c12 (Int.ofNat_lt.mpr h))
        clear c12
        obtain rfl:=Option.some.inj H
        go_wp2
        repeat (go_quiet (fail);try go_wp2)
        go_ret
        exact⟨by first|rfl|(simp;done)|(simp [*];done),by repeat (first|exact Drawn0.refl _|apply Drawn0.step)⟩
/-! ### spec_SuffixRows: function 14 -/
mutual
def spec_SuffixRows.l0 : Nat → List Int → List Int → Int → Option (List Int)
 | 0, _, _, _ => none
 | k + 1, x0, x3, x4 => if x4 ≥ 0 then (spec_SuffixRows.l1 k x0 x3 x4 0 (x3.length : Int)) else (some x3)
def spec_SuffixRows.l1 : Nat → List Int → List Int → Int → Int → Int → Option (List Int)
 | 0, _, _, _, _, _ => none
 | k + 1, x0, x3, x4, x5, x6 => if x5 < x6 then (if 0 ≤ (wrap64 (Int.tdiv (wrap64 (x5 + x6)) 2)) then (if (wrap64 (Int.tdiv (wrap64 (x5 + x6)) 2)) < (x3.length : Int) then (if 0 ≤ (rd x3 (wrap64 (Int.tdiv (wrap64 (x5 + x6)) 2))) then (if (rd x3 (wrap64 (Int.tdiv (wrap64 (x5 + x6)) 2))) ≤ (x0.length : Int) then (if 0 ≤ x4 then (if x4 ≤ (x0.length : Int) then ((spec_l05Cmp.f k (x0.drop ((rd x3 (wrap64 (Int.tdiv (wrap64 (x5 + x6)) 2))) : Int).toNat) (x0.drop (x4 : Int).toNat)).bind fun t135 => (if t135 < 0 then (spec_SuffixRows.l1 k x0 x3 x4 (wrap64 ((wrap64 (Int.tdiv (wrap64 (x5 + x6)) 2)) + 1)) x6) else (spec_SuffixRows.l1 k x0 x3 x4 x5 (wrap64 (Int.tdiv (wrap64 (x5 + x6)) 2))))) else (none)) else (none)) else (none)) else (none)) else (none)) else (none)) else ((some (([x4] : List Int) : List Int)).bind fun y109 => (if 0 ≤ x5 then (if x5 ≤ (x3.length : Int) then ((some (x3.drop (x5 : Int).toNat : List Int)).bind fun y112 => (if y109.length + y112.length < 17592186044416 then ((some (y109 ++ y112 : List Int)).bind fun y116 => ((some (([] : List Int) : List Int)).bind fun y119 => ((some (x3.take (x5 : Int).toNat : List Int)).bind fun y122 => (if y119.length + y122.length < 17592186044416 then ((some (y119 ++ y122 : List Int)).bind fun y126 => (if y126.length + y116.length < 17592186044416 then (spec_SuffixRows.l0 k x0 (y126 ++ y116) (wrap64 (x4 - 1))) else (none))) else (none))))) else (none))) else (none)) else (none)))
end
def spec_SuffixRows.f (k : Nat) (l0 : List Int) : Option (List Int) := (spec_TextOk.f l0).bind fun t105 => (if t105 = true then (spec_SuffixRows.l0 k l0 (([] : List Int)) (l0.length : Int)) else (some ([] : List Int)))
set_option maxHeartbeats 8000000 in
set_option maxRecDepth 100000 in
theorem spec_SuffixRows.calls (k : Nat) (A0 : Option Addr) (c0 : Nat) (l0 : List Int) (r : List Int) (w : World) (hr0 : Kd.C (Kd.int .u8) w A0 l0.length l0) (hc0 : l0.length ≤ c0) (h : spec_SuffixRows.f k l0 = some r) :
  Calls Try.prog 14 #[.slice A0 l0.length c0] w fun e w' => ∃ v0_ : Value, e = .returned (v0_) ∧ Kd.R (Kd.int .i64) 3 w' w.heap.size (fun _ => True) v0_ r ∧ Below w.heap.size w w' := by
 have HR0:=mk0 hr0
 have HC0:=mk0 hc0
 clear hr0 hc0
 have HB:=mk0 (Below.refl w.heap.size w)
 have H:((spec_TextOk.f l0).bind fun t105=>(if t105 = true then (spec_SuffixRows.l0 k l0 (([]:List Int)) (l0.length:Int)) else (some ([]:List Int)))) = some r:=h
 clear h
 replace H:=bE H
 obtain⟨t105,A2,H⟩:=H
 by_cases c3:t105 = true
 rotate_left
 ·replace c3:=Bool.eq_false_iff.mpr c3
  subst c3
  replace H:=iF H
  obtain rfl:=Option.some.inj H
  go_enter Try.func14,Try.ntmps14
  go_wp2_with (first|(go_at_call 12;(with_reducible refine (spec_TextOk.calls _ _ l0 false _ ?side1 ?side2 A2.out).mono ?_);(case side1=>exact kC HR0.out);(case side2=>exact HC0.out);rintro e w' ⟨rfl,⟨nd,rfl⟩⟩;(try first|exact⟨rfl,_,World.drewN_drewN _ _ _⟩|exact⟨rfl,_,Eq.trans (World.drewN_drewN _ _ _) (congrArg (World.drewN _) (Nat.add_assoc _ _ _))⟩)))
  repeat (go_quiet (first|(go_at_call 12;(with_reducible refine (spec_TextOk.calls _ _ l0 false _ ?side1 ?side2 A2.out).mono ?_);(case side1=>exact kC HR0.out);(case side2=>exact HC0.out);rintro e w' ⟨rfl,⟨nd,rfl⟩⟩;(try first|exact⟨rfl,_,World.drewN_drewN _ _ _⟩|exact⟨rfl,_,Eq.trans (World.drewN_drewN _ _ _) (congrArg (World.drewN _) (Nat.add_assoc _ _ _))⟩)));try go_wp2_with (first|(go_at_call 12;(with_reducible refine (spec_TextOk.calls _ _ l0 false _ ?side1 ?side2 A2.out).mono ?_);(case side1=>exact kC HR0.out);(case side2=>exact HC0.out);rintro e w' ⟨rfl,⟨nd,rfl⟩⟩;(try first|exact⟨rfl,_,World.drewN_drewN _ _ _⟩|exact⟨rfl,_,Eq.trans (World.drewN_drewN _ _ _) (congrArg (World.drewN _) (Nat.add_assoc _ _ _))⟩))))
  go_ret
  exact⟨_,eR,by first|exact Kd.R_nil _ _ _ _ _|exact Kd.N_nil _ _ _ _ _|exact Kd.V_nil _ _ _ _ _|exact Kd.Q_nil _ _ _ _ _|exact Kd.S_nil _ _ _ _ _,kB HB.out⟩
 subst c3
 replace H:=iT H
 obtain⟨y106,hy106⟩:∃ y_:List Int,y_ = (([]:List Int)):=⟨_,rfl⟩
 first|(with_reducible replace H:=yB hy106 H)|rw [← hy106] at H|skip
 have Ny106:=mk0 hy106
 clear hy106
 have H':=mk0 H
 clear H
 go_enter Try.func14,Try.ntmps14
 go_wp2_with (first|(go_at_call 12;(with_reducible refine (spec_TextOk.calls _ _ l0 true _ ?side1 ?side2 A2.out).mono ?_);(case side1=>exact kC HR0.out);(case side2=>exact HC0.out);rintro e w' ⟨rfl,⟨nd,rfl⟩⟩;(try first|exact⟨rfl,_,World.drewN_drewN _ _ _⟩|exact⟨rfl,_,Eq.trans (World.drewN_drewN _ _ _) (congrArg (World.drewN _) (Nat.add_assoc _ _ _))⟩))|((with_reducible refine gate_dst (N:=12) rfl ?_);refine Kd.R_lit (Kd.int .i64) _ 3 ?hg (N:=12) ?hd (xs:=([]:List Int)) (inner:=[]) (ok:=fun _=>True) (okp:=fun _=>True) ?hr ?hp (fun _ hk=>hk) trivial (Below.refl _ _) (Nat.le_refl _) (by simp) ?_;(case hd=>rfl);(case hg=>rfl);(case hr=>first|(go_simp;done)|(go_simp;rfl));(case hp=>exact (Reps.none _ _));intro v107 w4 ho5 hb hg_ hnew_;clear hg_ hnew_;(first|rw [← Ny106.out] at ho5|(simp only [Int.reduceToNat] at ho5;rw [← Ny106.out] at ho5));have HO108:=mk0 (Kd.R_lower ho5 (kZ HB.out));replace HB:=mk0 (kS HB.out hb);clear hb ho5))
 repeat (go_quiet (first|(go_at_call 12;(with_reducible refine (spec_TextOk.calls _ _ l0 true _ ?side1 ?side2 A2.out).mono ?_);(case side1=>exact kC HR0.out);(case side2=>exact HC0.out);rintro e w' ⟨rfl,⟨nd,rfl⟩⟩;(try first|exact⟨rfl,_,World.drewN_drewN _ _ _⟩|exact⟨rfl,_,Eq.trans (World.drewN_drewN _ _ _) (congrArg (World.drewN _) (Nat.add_assoc _ _ _))⟩))|((with_reducible refine gate_dst (N:=12) rfl ?_);refine Kd.R_lit (Kd.int .i64) _ 3 ?hg (N:=12) ?hd (xs:=([]:List Int)) (inner:=[]) (ok:=fun _=>True) (okp:=fun _=>True) ?hr ?hp (fun _ hk=>hk) trivial (Below.refl _ _) (Nat.le_refl _) (by simp) ?_;(case hd=>rfl);(case hg=>rfl);(case hr=>first|(go_simp;done)|(go_simp;rfl));(case hp=>exact (Reps.none _ _));intro v107 w4 ho5 hb hg_ hnew_;clear hg_ hnew_;(first|rw [← Ny106.out] at ho5|(simp only [Int.reduceToNat] at ho5;rw [← Ny106.out] at ho5));have HO108:=mk0 (Kd.R_lower ho5 (kZ HB.out));replace HB:=mk0 (kS HB.out hb);clear hb ho5));try go_wp2_with (first|(go_at_call 12;(with_reducible refine (spec_TextOk.calls _ _ l0 true _ ?side1 ?side2 A2.out).mono ?_);(case side1=>exact kC HR0.out);(case side2=>exact HC0.out);rintro e w' ⟨rfl,⟨nd,rfl⟩⟩;(try first|exact⟨rfl,_,World.drewN_drewN _ _ _⟩|exact⟨rfl,_,Eq.trans (World.drewN_drewN _ _ _) (congrArg (World.drewN _) (Nat.add_assoc _ _ _))⟩))|((with_reducible refine gate_dst (N:=12) rfl ?_);refine Kd.R_lit (Kd.int .i64) _ 3 ?hg (N:=12) ?hd (xs:=([]:List Int)) (inner:=[]) (ok:=fun _=>True) (okp:=fun _=>True) ?hr ?hp (fun _ hk=>hk) trivial (Below.refl _ _) (Nat.le_refl _) (by simp) ?_;(case hd=>rfl);(case hg=>rfl);(case hr=>first|(go_simp;done)|(go_simp;rfl));(case hp=>exact (Reps.none _ _));intro v107 w4 ho5 hb hg_ hnew_;clear hg_ hnew_;(first|rw [← Ny106.out] at ho5|(simp only [Int.reduceToNat] at ho5;rw [← Ny106.out] at ho5));have HO108:=mk0 (Kd.R_lower ho5 (kZ HB.out));replace HB:=mk0 (kS HB.out hb);clear hb ho5)))
 go_loopg [3,4] k (fun kq v3 v4 w'=>∃ (x3_1:List Int) (x4_1:Int),v4 = .int .i64 x4_1 ∧ Aside0 (spec_SuffixRows.l0 kq l0 x3_1 x4_1 = some r) ∧ Aside0 (kq ≤ k) ∧ Aside0 (Kd.R (Kd.int .i64) 3 w' w.heap.size (fun _=>True) v3 x3_1) ∧ Aside0 (Below w.heap.size w w'))
 case atStart=>exact⟨(y106),((l0.length:Int)),eS,H',⟨Nat.le_refl _⟩,⟨rR HO108.out⟩,⟨kB HB.out⟩⟩
 case round =>
  clear H'
  try clear c1
  try clear p2
  try clear c3
  obtain⟨x3_1,x4_1,rfl,HA,HK1,HO_3,HB⟩:=hrel
  cases gk with
  | zero=>exact absurd HA.out (by simp [spec_SuffixRows.l0])
  | succ k1 =>
   have H:=HA.out
   clear HA
   simp only [spec_SuffixRows.l0] at H
   by_cases c6:x4_1 ≥ 0
   rotate_left
   ·rw [if_neg c6] at H
    have c6b0:decide (0 ≤ x4_1) = false:=decide_eq_false c6
    clear c6
    obtain rfl:=Option.some.inj H
    go_wp2
    repeat (go_quiet (fail);try go_wp2)
    go_ret
    exact⟨_,eR,rR HO_3.out,kB HB.out⟩
   rw [if_pos c6] at H
   have c6b0:decide (0 ≤ x4_1) = true:=decide_eq_true c6
   clear c6
   have H':=mk0 H
   clear H
   obtain⟨Ao7,co7,eo7⟩:=Kd.R_slice HO_3.out
   subst eo7
   go_wp2
   repeat (go_quiet (fail);try go_wp2)
   go_loopg [5,6] k1 (fun kq v5 v6 w'=>∃ (x5_2:Int) (x6_2:Int),v5 = .int .i64 x5_2 ∧ v6 = .int .i64 x6_2 ∧ Aside0 (spec_SuffixRows.l1 kq l0 x3_1 x4_1 x5_2 x6_2 = some r) ∧ Aside0 (kq ≤ k1) ∧ Aside0 (Kd.R (Kd.int .i64) 3 w' w.heap.size (fun _=>True) (.slice Ao7 x3_1.length co7) x3_1) ∧ Aside0 (Below w.heap.size w w'))
   case atStart=>exact⟨(0),((x3_1.length:Int)),eS,eS,H',⟨Nat.le_refl _⟩,⟨rR HO_3.out⟩,⟨kB HB.out⟩⟩
   case round =>
    clear H'
    try clear c1
    try clear p2
    try clear c3
    try clear c6
    try clear c6b0
    try clear p2
    obtain⟨x5_2,x6_2,rfl,rfl,HA,HK2,HO_3,HB⟩:=hrel
    cases gk with
    | zero=>exact absurd HA.out (by simp [spec_SuffixRows.l1])
    | succ k2 =>
     have H:=HA.out
     clear HA
     simp only [spec_SuffixRows.l1] at H
     by_cases c8:x5_2 < x6_2
     ·rw [if_pos c8] at H
      have c8b0:decide (x5_2 < x6_2) = true:=decide_eq_true c8
      clear c8
      obtain⟨ji9,hji9⟩:∃ j_:Int,(wrap64 (Int.tdiv (wrap64 (x5_2 + x6_2)) 2)) = j_:=⟨_,rfl⟩
      first|rw [hji9] at H|simp only [hji9] at H
      have hji9w:(IntKind.i64.wrap (Int.tdiv (wrap64 (x5_2 + x6_2)) 2)) = ji9:=(i64_w _).trans hji9
      by_cases c10:0 ≤ (ji9)
      rotate_left
      ·rw [if_neg c10] at H
       exact nn H
      rw [if_pos c10] at H
      have c10b0:decide (0 ≤ (ji9)) = true:=decide_eq_true c10
      clear c10
      by_cases c11:(ji9) < (x3_1.length:Int)
      rotate_left
      ·rw [if_neg c11] at H
       exact nn H
      rw [if_pos c11] at H
      have c11b0:decide ((ji9) < (x3_1.length:Int)) = true:=decide_eq_true c11
      clear c11
      by_cases c12:0 ≤ (rd x3_1 (ji9))
      rotate_left
      ·rw [if_neg c12] at H
       exact nn H
      rw [if_pos c12] at H
      have c12b0:=eq_true c12
      have c12b1:decide (0 ≤ (rd x3_1 (ji9))) = true:=decide_eq_true c12
      clear c12
      by_cases c13:(rd x3_1 (ji9)) ≤ (l0.length:Int)
      rotate_left
      ·rw [if_neg c13] at H
       exact nn H
      rw [if_pos c13] at H
      have c13b0:=eq_true c13
      have c13b1:decide ((rd x3_1 (ji9)) ≤ (l0.length:Int)) = true:=decide_eq_true c13
      clear c13
      by_cases c14:0 ≤ x4_1
      rotate_left
      ·rw [if_neg c14] at H
       exact nn H
      rw [if_pos c14] at H
      have c14b0:=eq_true c14
      have c14b1:decide (0 ≤ x4_1) = true:=decide_eq_true c14
      clear c14
      by_cases c15:x4_1 ≤ (l0.length:Int)
      rotate_left
      ·rw [if_neg c15] at H
       exact nn H
      rw [if_pos c15] at H
      have c15b0:=eq_true c15
      have c15b1:decide (x4_1 ≤ (l0.length:Int)) = true:=decide_eq_true c15
      clear c15
      replace H:=bE H
      obtain⟨t135,A16,H⟩:=H
      by_cases c17:t135 < 0
      rotate_left
      ·rw [if_neg c17] at H
       have c17b0:decide (t135 < 0) = false:=decide_eq_false c17
       clear c17
       have H':=mk0 H
       clear H
       have p132:0 ≤ ((ji9):Int):=oD
       have q132:(ji9) < (x3_1.length:Int):=oD
       obtain⟨ad132,e132,hx132_0⟩:=Kd.at_int (Kd.R_reads' HO_3.out).2.2 (ji9) p132 q132
       cases e132
       replace p132:=eq_true p132
       replace q132:=eq_true q132
       obtain⟨i020,hi020,_,hsz20,_⟩:=info_parts info5
       obtain⟨A20,hcut20,hA20,hC20⟩:=print_drop_of (P:=Try.prog) (Value.int .u8) 0 22 5 .i64 Try.underlying22 hi020 hsz20 A0 c0 l0 (rd x3_1 (ji9)) (oD) (oD) HC0.out
       have HR133:=mk0 (Kd.C_of_reads (h1:=fun _=>rfl) (hA20 _ (Kd.reads_of_C HR0.out)))
       have HC133:=mk0 hC20
       clear hA20 hC20 hi020 hsz20
       obtain⟨i021,hi021,_,hsz21,_⟩:=info_parts info5
       obtain⟨A21,hcut21,hA21,hC21⟩:=print_drop_of (P:=Try.prog) (Value.int .u8) 0 22 5 .i64 Try.underlying22 hi021 hsz21 A0 c0 l0 x4_1 (oD) (oD) HC0.out
       have HR134:=mk0 (Kd.C_of_reads (h1:=fun _=>rfl) (hA21 _ (Kd.reads_of_C HR0.out)))
       have HC134:=mk0 hC21
       clear hA21 hC21 hi021 hsz21
       go_wp2_with (first|(go_at_call 38;refine calls_of_args (args':=#[.slice A20 (l0.drop ((rd x3_1 (ji9)):Int).toNat).length (c0 - (rd x3_1 (ji9)).toNat),.slice A21 (l0.drop (x4_1:Int).toNat).length (c0 - x4_1.toNat)]) (by first|(rw [show (l0.drop ((rd x3_1 (ji9)):Int).toNat).length = (l0.length - (rd x3_1 (ji9)).toNat) from List.length_drop] <;> rfl)|(rw [show (l0.drop (x4_1:Int).toNat).length = (l0.length - x4_1.toNat) from List.length_drop] <;> rfl)|rfl|(simp only [List.length_drop,List.length_take];done)|(simp only [List.length_drop,List.length_take];rfl)) ?_;(with_reducible refine (spec_l05Cmp.calls k2 _ _ (l0.drop ((rd x3_1 (ji9)):Int).toNat) _ _ (l0.drop (x4_1:Int).toNat) t135 _ ?side1 ?side2 ?side3 ?side4 A16.out).mono ?_);(case side1=>exact kC (Kd.C_below HR133.out HB.out));(case side2=>exact HC133.out);(case side3=>exact kC (Kd.C_below HR134.out HB.out));(case side4=>exact HC134.out);rintro e w' ⟨rfl,⟨nd,rfl⟩⟩;(try first|exact⟨rfl,_,World.drewN_drewN _ _ _⟩|exact⟨rfl,_,Eq.trans (World.drewN_drewN _ _ _) (congrArg (World.drewN _) (Nat.add_assoc _ _ _))⟩)))
       repeat (go_quiet (first|(go_at_call 38;refine calls_of_args (args':=#[.slice A20 (l0.drop ((rd x3_1 (ji9)):Int).toNat).length (c0 - (rd x3_1 (ji9)).toNat),.slice A21 (l0.drop (x4_1:Int).toNat).length (c0 - x4_1.toNat)]) (by first|(rw [show (l0.drop ((rd x3_1 (ji9)):Int).toNat).length = (l0.length - (rd x3_1 (ji9)).toNat) from List.length_drop] <;> rfl)|(rw [show (l0.drop (x4_1:Int).toNat).length = (l0.length - x4_1.toNat) from List.length_drop] <;> rfl)|rfl|(simp only [List.length_drop,List.length_take];done)|(simp only [List.length_drop,List.length_take];rfl)) ?_;(with_reducible refine (spec_l05Cmp.calls k2 _ _ (l0.drop ((rd x3_1 (ji9)):Int).toNat) _ _ (l0.drop (x4_1:Int).toNat) t135 _ ?side1 ?side2 ?side3 ?side4 A16.out).mono ?_);(case side1=>exact kC (Kd.C_below HR133.out HB.out));(case side2=>exact HC133.out);(case side3=>exact kC (Kd.C_below HR134.out HB.out));(case side4=>exact HC134.out);rintro e w' ⟨rfl,⟨nd,rfl⟩⟩;(try first|exact⟨rfl,_,World.drewN_drewN _ _ _⟩|exact⟨rfl,_,Eq.trans (World.drewN_drewN _ _ _) (congrArg (World.drewN _) (Nat.add_assoc _ _ _))⟩)));try go_wp2_with (first|(go_at_call 38;refine calls_of_args (args':=#[.slice A20 (l0.drop ((rd x3_1 (ji9)):Int).toNat).length (c0 - (rd x3_1 (ji9)).toNat),.slice A21 (l0.drop (x4_1:Int).toNat).length (c0 - x4_1.toNat)]) (by first|(rw [show (l0.drop ((rd x3_1 (ji9)):Int).toNat).length = (l0.length - (rd x3_1 (ji9)).toNat) from List.length_drop] <;> rfl)|(rw [show (l0.drop (x4_1:Int).toNat).length = (l0.length - x4_1.toNat) from List.length_drop] <;> rfl)|rfl|(simp only [List.length_drop,List.length_take];done)|(simp only [List.length_drop,List.length_take];rfl)) ?_;(with_reducible refine (spec_l05Cmp.calls k2 _ _ (l0.drop ((rd x3_1 (ji9)):Int).toNat) _ _ (l0.drop (x4_1:Int).toNat) t135 _ ?side1 ?side2 ?side3 ?side4 A16.out).mono ?_);(case side1=>exact kC (Kd.C_below HR133.out HB.out));(case side2=>exact HC133.out);(case side3=>exact kC (Kd.C_below HR134.out HB.out));(case side4=>exact HC134.out);rintro e w' ⟨rfl,⟨nd,rfl⟩⟩;(try first|exact⟨rfl,_,World.drewN_drewN _ _ _⟩|exact⟨rfl,_,Eq.trans (World.drewN_drewN _ _ _) (congrArg (World.drewN _) (Nat.add_assoc _ _ _))⟩))))
       go_roundg k2
       case measure=>have:=HK1.out;have:=HK2.out;omega
       case rel=>exact⟨(x5_2),(ji9),eS,(by first|rfl|(simp;done)|(simp only [← hji9] <;> (first|rfl|simp))|(simp [*];done)),H',⟨by have:=HK1.out;have:=HK2.out;omega⟩,⟨rR HO_3.out⟩,⟨kB HB.out⟩⟩
      rw [if_pos c17] at H
      have c17b0:decide (t135 < 0) = true:=decide_eq_true c17
      clear c17
      have H':=mk0 H
      clear H
      have p132:0 ≤ ((ji9):Int):=oD
      have q132:(ji9) < (x3_1.length:Int):=oD
      obtain⟨ad132,e132,hx132_0⟩:=Kd.at_int (Kd.R_reads' HO_3.out).2.2 (ji9) p132 q132
      cases e132
      replace p132:=eq_true p132
      replace q132:=eq_true q132
      obtain⟨i018,hi018,_,hsz18,_⟩:=info_parts info5
      obtain⟨A18,hcut18,hA18,hC18⟩:=print_drop_of (P:=Try.prog) (Value.int .u8) 0 22 5 .i64 Try.underlying22 hi018 hsz18 A0 c0 l0 (rd x3_1 (ji9)) (oD) (oD) HC0.out
      have HR133:=mk0 (Kd.C_of_reads (h1:=fun _=>rfl) (hA18 _ (Kd.reads_of_C HR0.out)))
      have HC133:=mk0 hC18
      clear hA18 hC18 hi018 hsz18
      obtain⟨i019,hi019,_,hsz19,_⟩:=info_parts info5
      obtain⟨A19,hcut19,hA19,hC19⟩:=print_drop_of (P:=Try.prog) (Value.int .u8) 0 22 5 .i64 Try.underlying22 hi019 hsz19 A0 c0 l0 x4_1 (oD) (oD) HC0.out
      have HR134:=mk0 (Kd.C_of_reads (h1:=fun _=>rfl) (hA19 _ (Kd.reads_of_C HR0.out)))
      have HC134:=mk0 hC19
      clear hA19 hC19 hi019 hsz19
      go_wp2_with (first|(go_at_call 38;refine calls_of_args (args':=#[.slice A18 (l0.drop ((rd x3_1 (ji9)):Int).toNat).length (c0 - (rd x3_1 (ji9)).toNat),.slice A19 (l0.drop (x4_1:Int).toNat).length (c0 - x4_1.toNat)]) (by first|(rw [show (l0.drop ((rd x3_1 (ji9)):Int).toNat).length = (l0.length - (rd x3_1 (ji9)).toNat) from List.length_drop] <;> rfl)|(rw [show (l0.drop (x4_1:Int).toNat).length = (l0.length - x4_1.toNat) from List.length_drop] <;> rfl)|rfl|(simp only [List.length_drop,List.length_take];done)|(simp only [List.length_drop,List.length_take];rfl)) ?_;(with_reducible refine (spec_l05Cmp.calls k2 _ _ (l0.drop ((rd x3_1 (ji9)):Int).toNat) _ _ (l0.drop (x4_1:Int).toNat) t135 _ ?side1 ?side2 ?side3 ?side4 A16.out).mono ?_);(case side1=>exact kC (Kd.C_below HR133.out HB.out));(case side2=>exact HC133.out);(case side3=>exact kC (Kd.C_below HR134.out HB.out));(case side4=>exact HC134.out);rintro e w' ⟨rfl,⟨nd,rfl⟩⟩;(try first|exact⟨rfl,_,World.drewN_drewN _ _ _⟩|exact⟨rfl,_,Eq.trans (World.drewN_drewN _ _ _) (congrArg (World.drewN _) (Nat.add_assoc _ _ _))⟩)))
      repeat (go_quiet (first|(go_at_call 38;refine calls_of_args (args':=#[.slice A18 (l0.drop ((rd x3_1 (ji9)):Int).toNat).length (c0 - (rd x3_1 (ji9)).toNat),.slice A19 (l0.drop (x4_1:Int).toNat).length (c0 - x4_1.toNat)]) (by first|(rw [show (l0.drop ((rd x3_1 (ji9)):Int).toNat).length = (l0.length - (rd x3_1 (ji9)).toNat) from List.length_drop] <;> rfl)|(rw [show (l0.drop (x4_1:Int).toNat).length = (l0.length - x4_1.toNat) from List.length_drop] <;> rfl)|rfl|(simp only [List.length_drop,List.length_take];done)|(simp only [List.length_drop,List.length_take];rfl)) ?_;(with_reducible refine (spec_l05Cmp.calls k2 _ _ (l0.drop ((rd x3_1 (ji9)):Int).toNat) _ _ (l0.drop (x4_1:Int).toNat) t135 _ ?side1 ?side2 ?side3 ?side4 A16.out).mono ?_);(case side1=>exact kC (Kd.C_below HR133.out HB.out));(case side2=>exact HC133.out);(case side3=>exact kC (Kd.C_below HR134.out HB.out));(case side4=>exact HC134.out);rintro e w' ⟨rfl,⟨nd,rfl⟩⟩;(try first|exact⟨rfl,_,World.drewN_drewN _ _ _⟩|exact⟨rfl,_,Eq.trans (World.drewN_drewN _ _ _) (congrArg (World.drewN _) (Nat.add_assoc _ _ _))⟩)));try go_wp2_with (first|(go_at_call 38;refine calls_of_args (args':=#[.slice A18 (l0.drop ((rd x3_1 (ji9)):Int).toNat).length (c0 - (rd x3_1 (ji9)).toNat),.slice A19 (l0.drop (x4_1:Int).toNat).length (c0 - x4_1.toNat)]) (by first|(rw [show (l0.drop ((rd x3_1 (ji9)):Int).toNat).length = (l0.length - (rd x3_1 (ji9)).toNat) from List.length_drop] <;> rfl)|(rw [show (l0.drop (x4_1:Int).toNat).length = (l0.length - x4_1.toNat) from List.length_drop] <;> rfl)|rfl|(simp only [List.length_drop,List.length_take];done)|(simp only [List.length_drop,List.length_take];rfl)) ?_;(with_reducible refine (spec_l05Cmp.calls k2 _ _ (l0.drop ((rd x3_1 (ji9)):Int).toNat) _ _ (l0.drop (x4_1:Int).toNat) t135 _ ?side1 ?side2 ?side3 ?side4 A16.out).mono ?_);(case side1=>exact kC (Kd.C_below HR133.out HB.out));(case side2=>exact HC133.out);(case side3=>exact kC (Kd.C_below HR134.out HB.out));(case side4=>exact HC134.out);rintro e w' ⟨rfl,⟨nd,rfl⟩⟩;(try first|exact⟨rfl,_,World.drewN_drewN _ _ _⟩|exact⟨rfl,_,Eq.trans (World.drewN_drewN _ _ _) (congrArg (World.drewN _) (Nat.add_assoc _ _ _))⟩))))
      go_roundg k2
      case measure=>have:=HK1.out;have:=HK2.out;omega
      case rel=>exact⟨(wrap64 ((ji9) + 1)),(x6_2),(by first|rfl|(simp;done)|(simp only [← hji9] <;> (first|rfl|simp))|(simp [*];done)),eS,H',⟨by have:=HK1.out;have:=HK2.out;omega⟩,⟨rR HO_3.out⟩,⟨kB HB.out⟩⟩
     rw [if_neg c8] at H
     have c8b0:decide (x5_2 < x6_2) = false:=decide_eq_false c8
     clear c8
     obtain⟨y109,hy109⟩:∃ y_:List Int,y_ = (([x4_1]:List Int)):=⟨_,rfl⟩
     first|(with_reducible replace H:=yB hy109 H)|rw [← hy109] at H|skip
     have Ny109:=mk0 hy109
     clear hy109
     by_cases c22:0 ≤ x5_2
     rotate_left
     ·rw [if_neg c22] at H
      exact nn H
     rw [if_pos c22] at H
     have c22b0:=eq_true c22
     have c22b1:decide (0 ≤ x5_2) = true:=decide_eq_true c22
     clear c22
     by_cases c23:x5_2 ≤ (x3_1.length:Int)
     rotate_left
     ·rw [if_neg c23] at H
      exact nn H
     rw [if_pos c23] at H
     have c23b0:=eq_true c23
     have c23b1:decide (x5_2 ≤ (x3_1.length:Int)) = true:=decide_eq_true c23
     clear c23
     obtain⟨y112,hy112⟩:∃ y_:List Int,y_ = (x3_1.drop (x5_2:Int).toNat):=⟨_,rfl⟩
     first|(with_reducible replace H:=yB hy112 H)|rw [← hy112] at H|skip
     have Ny112:=mk0 hy112
     clear hy112
     by_cases c24:y109.length + y112.length < 17592186044416
     rotate_left
     ·rw [if_neg c24] at H
      exact nn H
     rw [if_pos c24] at H
     have LMc24:=mk0 c24
     clear c24
     obtain⟨y116,hy116⟩:∃ y_:List Int,y_ = (y109 ++ y112):=⟨_,rfl⟩
     first|(with_reducible replace H:=yB hy116 H)|rw [← hy116] at H|skip
     have Ny116:=mk0 hy116
     clear hy116
     obtain⟨y119,hy119⟩:∃ y_:List Int,y_ = (([]:List Int)):=⟨_,rfl⟩
     first|(with_reducible replace H:=yB hy119 H)|rw [← hy119] at H|skip
     have Ny119:=mk0 hy119
     clear hy119
     have c25b0:=eq_true (oD:0 ≤ x5_2)
     have c26b0:=eq_true (oD:x5_2 ≤ (x3_1.length:Int))
     obtain⟨y122,hy122⟩:∃ y_:List Int,y_ = (x3_1.take (x5_2:Int).toNat):=⟨_,rfl⟩
     first|(with_reducible replace H:=yB hy122 H)|rw [← hy122] at H|skip
     have Ny122:=mk0 hy122
     clear hy122
     by_cases c27:y119.length + y122.length < 17592186044416
     rotate_left
     ·rw [if_neg c27] at H
      exact nn H
     rw [if_pos c27] at H
     have LMc27:=mk0 c27
     clear c27
     obtain⟨y126,hy126⟩:∃ y_:List Int,y_ = (y119 ++ y122):=⟨_,rfl⟩
     first|(with_reducible replace H:=yB hy126 H)|rw [← hy126] at H|skip
     have Ny126:=mk0 hy126
     clear hy126
     by_cases c28:y126.length + y116.length < 17592186044416
     rotate_left
     ·rw [if_neg c28] at H
      exact nn H
     rw [if_pos c28] at H
     have LMc28:=mk0 c28
     clear c28
     obtain⟨y129,hy129⟩:∃ y_:List Int,y_ = (y126 ++ y116):=⟨_,rfl⟩
     first|(with_reducible replace H:=yB hy129 H)|rw [← hy129] at H|skip
     have Ny129:=mk0 hy129
     clear hy129
     have H':=mk0 H
     clear H
     go_wp2_with (first|((with_reducible refine gate_dst (N:=43) rfl ?_);refine Kd.R_lit (Kd.int .i64) _ 3 ?hg (N:=43) ?hd (xs:=([x4_1]:List Int)) (inner:=[.int .i64 x4_1]) (ok:=fun _=>True) (okp:=fun _=>True) ?hr ?hp (fun _ hk=>hk) trivial (Below.refl _ _) (Nat.le_refl _) (by simp) ?_;(case hd=>rfl);(case hg=>rfl);(case hr=>first|(go_simp;done)|(go_simp;rfl));(case hp=>exact (Reps.one (show Kd.M (Kd.int .i64) _ _ _ x4_1 [.int .i64 x4_1] from rfl) (Reps.none _ _)));intro v110 w29 ho30 hb hg_ hnew_;clear hg_ hnew_;(first|rw [← Ny109.out] at ho30|(simp only [Int.reduceToNat] at ho30;rw [← Ny109.out] at ho30));have HO111:=mk0 (Kd.R_lower (Kd.R_new' ho30 (Kd.R_lt (rR HO_3.out))) (kZ HB.out));replace HO_3:=mk0 (Kd.R_elder' (rR HO_3.out) (Kd.R_base ho30) hb);replace HB:=mk0 (kS HB.out hb);clear hb ho30;have q31:(x5_2:Int) ≤ ((x3_1.length:Int):Int):=oD;obtain⟨i031,hi031,_,hsz31,_⟩:=info_parts info3;have hroom31:x3_1.length ≤ co7:=(Kd.R_reads' HO_3.out).2.1;have hC31:Kd.C (Kd.int .i64) _ Ao7 x3_1.length x3_1:=(Kd.R_reads' HO_3.out).2.2;have q031:(0:Int) ≤ (x5_2:Int):=oD;have hcut31:=cut_from (P:=Try.prog) 23 3 .i64 Try.underlying23 hi031 1 hsz31 Ao7 x3_1.length co7 x5_2 q031 q31;have hr31:=Kd.C_drop (m:=(x5_2:Int).toNat) (c:=co7) hC31 (by omega) hroom31;obtain⟨A31,hA31⟩:∃ A1,A1 = (if co7 = (x5_2:Int).toNat then Ao7 else (Ao7:Option Addr).map (·.add ((x5_2:Int).toNat * 1))):=⟨_,rfl⟩;obtain⟨c31,hc31⟩:∃ c1,c1 = co7 - (x5_2:Int).toNat:=⟨_,rfl⟩;have hy31:y112.length = x3_1.length - (x5_2:Int).toNat:=(by rw [Ny112.out,List.length_drop] <;> omega);rw [show (x3_1).drop (x5_2:Int).toNat = y112 from Ny112.out.symm] at hr31;replace hr31:Kd.C (Kd.int .i64) _ A31 y112.length y112:=(by rw [hA31];exact hr31);rw [← hy31, ← hA31, ← hc31] at hcut31;have HR115:=mk0 hr31;have HC115:=mk0 (show y112.length ≤ c31 from by rw [hy31,hc31];exact Nat.sub_le_sub_right hroom31 _);clear hr31 hC31 hroom31 hi031 hsz31 hc31;have KY31:=mk0 hy31;have KA31:=mk0 hA31;clear hy31 hA31;have KL31:=mk0 (show (x5_2:Int).toNat ≤ x3_1.length from by omega);replace q31:=eq_true q31)|((with_reducible refine gate_builtin (b:=.append) (xs:=#[.tmp 43,.tmp 46]) rfl ?_);at_builtin;refine Kd.R_append_rows (Kd.int .i64) (w0:=w) w.heap.size rfl (.tmp 43) (.tmp 46) 23 3 (.int .i64 0) 8 rfl Try.underlying23 info3 rfl (by decide) (by omega) v110 y109 y112 _ _ _ (fun k_=>some k_ ≠ (.slice Ao7 x3_1.length co7:Value).ownBlock) (fun _=>False) rfl rfl ?aO ?aR (fun _ _ h=>h) (fun _ h=>h.elim) ?aF ?aB ?aS ?aL ?_;(case aR=>repeat (first|exact (by repeat (first|(with_reducible exact HR115.out)|(with_reducible first|apply aC|apply nC|apply dC)|exact HR115.out))|(with_reducible first|apply aC|apply nC|apply dC)));(case aB=>exact (kB HB.out));(case aF=>exact (fun k_ hk=>Kd.fresh' (Kd.R_lt (rR HO_3.out)) k_ hk));(case aO=>exact (rR (Kd.R_mono HO111.out (fun _ hk=>hk.2))));(case aS=>exact (kZ HB.out));(case aL=>have:=LMc24.out;omega);intro v117 w32 ho hb hg hat;rw [← Ny116.out] at ho;replace HB:=mk0 (hb);replace HR115:=mk0 ((show Kd.C (Kd.int .i64) w32 A31 y112.length y112 from by rw [Ny112.out,KA31.out];exact Kd.C_drop (m:=(x5_2:Int).toNat) (c:=co7) ((Kd.R_reads' (Kd.R_after (ok:=(fun _=>True)) (rR HO_3.out) hg hat)).2.2) KL31.out ((Kd.R_reads' (Kd.R_after (ok:=(fun _=>True)) (rR HO_3.out) hg hat)).2.1)));replace HO_3:=mk0 (Kd.R_after (ok:=(fun _=>True)) (rR HO_3.out) hg hat);have HO118:=mk0 (ho);clear HO111 ho hb hg hat)|((with_reducible refine gate_dst (N:=48) rfl ?_);refine Kd.R_lit (Kd.int .i64) _ 3 ?hg (N:=48) ?hd (xs:=([]:List Int)) (inner:=[]) (ok:=fun _=>True) (okp:=fun _=>True) ?hr ?hp (fun _ hk=>hk) trivial (Below.refl _ _) (Nat.le_refl _) (by simp) ?_;(case hd=>rfl);(case hg=>rfl);(case hr=>first|(go_simp;done)|(go_simp;rfl));(case hp=>exact (Reps.none _ _));intro v120 w33 ho34 hb hg_ hnew_;clear hg_ hnew_;(first|rw [← Ny119.out] at ho34|(simp only [Int.reduceToNat] at ho34;rw [← Ny119.out] at ho34));have HO121:=mk0 (Kd.R_lower (Kd.R_new' (Kd.R_new' ho34 (Kd.R_lt (rR HO_3.out))) (Kd.R_lt (rR HO118.out))) (kZ HB.out));replace HO_3:=mk0 (Kd.R_elder' (rR HO_3.out) (Kd.R_base ho34) hb);replace HO118:=mk0 (Kd.R_elder' (rR HO118.out) (Kd.R_base ho34) hb);replace HR115:=mk0 (Kd.C_below (by repeat (first|(with_reducible exact HR115.out)|(with_reducible first|apply aC|apply nC|apply dC)|exact HR115.out)) hb);replace HB:=mk0 (kS HB.out hb);clear hb ho34;have q35:(x5_2:Int) ≤ ((x3_1.length:Int):Int):=oD;obtain⟨i035,hi035,_,hsz35,_⟩:=info_parts info3;have hroom35:x3_1.length ≤ co7:=(Kd.R_reads' HO_3.out).2.1;have hC35:Kd.C (Kd.int .i64) _ Ao7 x3_1.length x3_1:=(Kd.R_reads' HO_3.out).2.2;have hcut35:=cut_to (P:=Try.prog) 23 3 .i64 Try.underlying23 hi035 Ao7 x3_1.length co7 x5_2 (oD) q35 hroom35;have hr35:=Kd.C_take (m:=(x5_2:Int).toNat) hC35 (by omega);have hy35:y122.length = (x5_2:Int).toNat:=(by rw [Ny122.out,List.length_take];omega);rw [← Ny122.out] at hr35;rw [← hy35] at hcut35;have HR125:=mk0 hr35;have HC125:=mk0 (show y122.length ≤ co7 from by omega);clear hr35 hC35 hroom35 hi035 hsz35;have KY35:=mk0 hy35;clear hy35;have KL35:=mk0 (show (x5_2:Int).toNat ≤ x3_1.length from by omega);replace q35:=eq_true q35)|((with_reducible refine gate_builtin (b:=.append) (xs:=#[.tmp 48,.tmp 51]) rfl ?_);at_builtin;refine Kd.R_append_rows (Kd.int .i64) (w0:=w) w.heap.size rfl (.tmp 48) (.tmp 51) 23 3 (.int .i64 0) 8 rfl Try.underlying23 info3 rfl (by decide) (by omega) v120 y119 y122 _ _ _ (fun k_=>some k_ ≠ (.slice Ao7 x3_1.length co7:Value).ownBlock ∧ some k_ ≠ (v117:Value).ownBlock) (fun _=>False) rfl rfl ?aO ?aR (fun _ _ h=>h) (fun _ h=>h.elim) ?aF ?aB ?aS ?aL ?_;(case aR=>repeat (first|exact (by repeat (first|(with_reducible exact HR125.out)|(with_reducible first|apply aC|apply nC|apply dC)|exact HR125.out))|(with_reducible first|apply aC|apply nC|apply dC)));(case aB=>exact (kB HB.out));(case aF=>exact (fun k_ hk=>⟨Kd.fresh' (Kd.R_lt (rR HO_3.out)) k_ hk,Kd.fresh' (Kd.R_lt (rR HO118.out)) k_ hk⟩));(case aO=>exact (rR (Kd.R_mono HO121.out (fun _ hk=>⟨hk.1.2,hk.2⟩))));(case aS=>exact (kZ HB.out));(case aL=>have:=LMc27.out;omega);intro v127 w36 ho hb hg hat;rw [← Ny126.out] at ho;replace HO118:=mk0 (Kd.R_after (ok:=(fun k_=>some k_ ≠ (.slice Ao7 x3_1.length co7:Value).ownBlock)) (rR HO118.out) hg hat);replace HB:=mk0 (hb);replace HR115:=mk0 ((show Kd.C (Kd.int .i64) w36 A31 y112.length y112 from by rw [Ny112.out,KA31.out];exact Kd.C_drop (m:=(x5_2:Int).toNat) (c:=co7) ((Kd.R_reads' (Kd.R_after (ok:=(fun k_=>some k_ ≠ (v117:Value).ownBlock)) (rR (Kd.R_mono HO_3.out (fun _ hk=>⟨hk.1.2,hk.2⟩))) hg hat)).2.2) KL31.out ((Kd.R_reads' (Kd.R_after (ok:=(fun k_=>some k_ ≠ (v117:Value).ownBlock)) (rR (Kd.R_mono HO_3.out (fun _ hk=>⟨hk.1.2,hk.2⟩))) hg hat)).2.1)));replace HR125:=mk0 ((show Kd.C (Kd.int .i64) w36 Ao7 y122.length y122 from by rw [Ny122.out];exact Kd.C_take (m:=(x5_2:Int).toNat) ((Kd.R_reads' (Kd.R_after (ok:=(fun k_=>some k_ ≠ (v117:Value).ownBlock)) (rR (Kd.R_mono HO_3.out (fun _ hk=>⟨hk.1.2,hk.2⟩))) hg hat)).2.2) KL35.out));replace HO_3:=mk0 (Kd.R_after (ok:=(fun k_=>some k_ ≠ (v117:Value).ownBlock)) (rR (Kd.R_mono HO_3.out (fun _ hk=>⟨hk.1.2,hk.2⟩))) hg hat);have HO128:=mk0 (ho);clear HO121 ho hb hg hat;obtain⟨Ao38,co38,eo38⟩:=Kd.R_slice HO118.out;subst eo38)|((with_reducible refine gate_builtin (b:=.append) (xs:=#[.tmp 52,.tmp 53]) rfl ?_);at_builtin;refine Kd.R_append_rows (Kd.int .i64) (w0:=w) w.heap.size rfl (.tmp 52) (.tmp 53) 23 3 (.int .i64 0) 8 rfl Try.underlying23 info3 rfl (by decide) (by omega) v127 y126 y116 _ _ _ (fun k_=>some k_ ≠ (.slice Ao7 x3_1.length co7:Value).ownBlock ∧ some k_ ≠ (.slice Ao38 y116.length co38:Value).ownBlock) (fun _=>False) rfl rfl ?aO ?aR (fun _ _ h=>h) (fun _ h=>h.elim) ?aF ?aB ?aS ?aL ?_;(case aR=>repeat (first|exact (Kd.R_reads' HO118.out).2.2|(with_reducible first|apply aC|apply nC|apply dC)));(case aB=>exact (kB HB.out));(case aF=>exact (fun k_ hk=>⟨Kd.fresh' (Kd.R_lt (rR HO_3.out)) k_ hk,Kd.fresh' (Kd.R_lt (rR HO118.out)) k_ hk⟩));(case aO=>exact (rR HO128.out));(case aS=>exact (kZ HB.out));(case aL=>have:=LMc28.out;omega);intro v130 w37 ho hb hg hat;rw [← Ny129.out] at ho;replace HO118:=mk0 (Kd.R_after (ok:=(fun k_=>some k_ ≠ (.slice Ao7 x3_1.length co7:Value).ownBlock)) (rR HO118.out) hg hat);replace HB:=mk0 (hb);replace HR115:=mk0 ((show Kd.C (Kd.int .i64) w37 A31 y112.length y112 from by rw [Ny112.out,KA31.out];exact Kd.C_drop (m:=(x5_2:Int).toNat) (c:=co7) ((Kd.R_reads' (Kd.R_after (ok:=(fun k_=>some k_ ≠ (.slice Ao38 y116.length co38:Value).ownBlock)) (rR HO_3.out) hg hat)).2.2) KL31.out ((Kd.R_reads' (Kd.R_after (ok:=(fun k_=>some k_ ≠ (.slice Ao38 y116.length co38:Value).ownBlock)) (rR HO_3.out) hg hat)).2.1)));replace HR125:=mk0 ((show Kd.C (Kd.int .i64) w37 Ao7 y122.length y122 from by rw [Ny122.out];exact Kd.C_take (m:=(x5_2:Int).toNat) ((Kd.R_reads' (Kd.R_after (ok:=(fun k_=>some k_ ≠ (.slice Ao38 y116.length co38:Value).ownBlock)) (rR HO_3.out) hg hat)).2.2) KL35.out));replace HO_3:=mk0 (Kd.R_after (ok:=(fun k_=>some k_ ≠ (.slice Ao38 y116.length co38:Value).ownBlock)) (rR HO_3.out) hg hat);have HO131:=mk0 (ho);clear HO128 ho hb hg hat))
     repeat (go_quiet (first|((with_reducible refine gate_dst (N:=43) rfl ?_);refine Kd.R_lit (Kd.int .i64) _ 3 ?hg (N:=43) ?hd (xs:=([x4_1]:List Int)) (inner:=[.int .i64 x4_1]) (ok:=fun _=>True) (okp:=fun _=>True) ?hr ?hp (fun _ hk=>hk) trivial (Below.refl _ _) (Nat.le_refl _) (by simp) ?_;(case hd=>rfl);(case hg=>rfl);(case hr=>first|(go_simp;done)|(go_simp;rfl));(case hp=>exact (Reps.one (show Kd.M (Kd.int .i64) _ _ _ x4_1 [.int .i64 x4_1] from rfl) (Reps.none _ _)));intro v110 w29 ho30 hb hg_ hnew_;clear hg_ hnew_;(first|rw [← Ny109.out] at ho30|(simp only [Int.reduceToNat] at ho30;rw [← Ny109.out] at ho30));have HO111:=mk0 (Kd.R_lower (Kd.R_new' ho30 (Kd.R_lt (rR HO_3.out))) (kZ HB.out));replace HO_3:=mk0 (Kd.R_elder' (rR HO_3.out) (Kd.R_base ho30) hb);replace HB:=mk0 (kS HB.out hb);clear hb ho30;have q31:(x5_2:Int) ≤ ((x3_1.length:Int):Int):=oD;obtain⟨i031,hi031,_,hsz31,_⟩:=info_parts info3;have hroom31:x3_1.length ≤ co7:=(Kd.R_reads' HO_3.out).2.1;have hC31:Kd.C (Kd.int .i64) _ Ao7 x3_1.length x3_1:=(Kd.R_reads' HO_3.out).2.2;have q031:(0:Int) ≤ (x5_2:Int):=oD;have hcut31:=cut_from (P:=Try.prog) 23 3 .i64 Try.underlying23 hi031 1 hsz31 Ao7 x3_1.length co7 x5_2 q031 q31;have hr31:=Kd.C_drop (m:=(x5_2:Int).toNat) (c:=co7) hC31 (by omega) hroom31;obtain⟨A31,hA31⟩:∃ A1,A1 = (if co7 = (x5_2:Int).toNat then Ao7 else (Ao7:Option Addr).map (·.add ((x5_2:Int).toNat * 1))):=⟨_,rfl⟩;obtain⟨c31,hc31⟩:∃ c1,c1 = co7 - (x5_2:Int).toNat:=⟨_,rfl⟩;have hy31:y112.length = x3_1.length - (x5_2:Int).toNat:=(by rw [Ny112.out,List.length_drop] <;> omega);rw [show (x3_1).drop (x5_2:Int).toNat = y112 from Ny112.out.symm] at hr31;replace hr31:Kd.C (Kd.int .i64) _ A31 y112.length y112:=(by rw [hA31];exact hr31);rw [← hy31, ← hA31, ← hc31] at hcut31;have HR115:=mk0 hr31;have HC115:=mk0 (show y112.length ≤ c31 from by rw [hy31,hc31];exact Nat.sub_le_sub_right hroom31 _);clear hr31 hC31 hroom31 hi031 hsz31 hc31;have KY31:=mk0 hy31;have KA31:=mk0 hA31;clear hy31 hA31;have KL31:=mk0 (show (x5_2:Int).toNat ≤ x3_1.length from by omega);replace q31:=eq_true q31)|((with_reducible refine gate_builtin (b:=.append) (xs:=#[.tmp 43,.tmp 46]) rfl ?_);at_builtin;refine Kd.R_append_rows (Kd.int .i64) (w0:=w) w.heap.size rfl (.tmp 43) (.tmp 46) 23 3 (.int .i64 0) 8 rfl Try.underlying23 info3 rfl (by decide) (by omega) v110 y109 y112 _ _ _ (fun k_=>some k_ ≠ (.slice Ao7 x3_1.length co7:Value).ownBlock) (fun _=>False) rfl rfl ?aO ?aR (fun _ _ h=>h) (fun _ h=>h.elim) ?aF ?aB ?aS ?aL ?_;(case aR=>repeat (first|exact (by repeat (first|(with_reducible exact HR115.out)|(with_reducible first|apply aC|apply nC|apply dC)|exact HR115.out))|(with_reducible first|apply aC|apply nC|apply dC)));(case aB=>exact (kB HB.out));(case aF=>exact (fun k_ hk=>Kd.fresh' (Kd.R_lt (rR HO_3.out)) k_ hk));(case aO=>exact (rR (Kd.R_mono HO111.out (fun _ hk=>hk.2))));(case aS=>exact (kZ HB.out));(case aL=>have:=LMc24.out;omega);intro v117 w32 ho hb hg hat;rw [← Ny116.out] at ho;replace HB:=mk0 (hb);replace HR115:=mk0 ((show Kd.C (Kd.int .i64) w32 A31 y112.length y112 from by rw [Ny112.out,KA31.out];exact Kd.C_drop (m:=(x5_2:Int).toNat) (c:=co7) ((Kd.R_reads' (Kd.R_after (ok:=(fun _=>True)) (rR HO_3.out) hg hat)).2.2) KL31.out ((Kd.R_reads' (Kd.R_after (ok:=(fun _=>True)) (rR HO_3.out) hg hat)).2.1)));replace HO_3:=mk0 (Kd.R_after (ok:=(fun _=>True)) (rR HO_3.out) hg hat);have HO118:=mk0 (ho);clear HO111 ho hb hg hat)|((with_reducible refine gate_dst (N:=48) rfl ?_);refine Kd.R_lit (Kd.int .i64) _ 3 ?hg (N:=48) ?hd (xs:=([]:List Int)) (inner:=[]) (ok:=fun _=>True) (okp:=fun _=>True) ?hr ?hp (fun _ hk=>hk) trivial (Below.refl _ _) (Nat.le_refl _) (by simp) ?_;(case hd=>rfl);(case hg=>rfl);(case hr=>first|(go_simp;done)|(go_simp;rfl));(case hp=>exact (Reps.none _ _));intro v120 w33 ho34 hb hg_ hnew_;clear hg_ hnew_;(first|rw [← Ny119.out] at ho34|(simp only [Int.reduceToNat] at ho34;rw [← Ny119.out] at ho34));have HO121:=mk0 (Kd.R_lower (Kd.R_new' (Kd.R_new' ho34 (Kd.R_lt (rR HO_3.out))) (Kd.R_lt (rR HO118.out))) (kZ HB.out));replace HO_3:=mk0 (Kd.R_elder' (rR HO_3.out) (Kd.R_base ho34) hb);replace HO118:=mk0 (Kd.R_elder' (rR HO118.out) (Kd.R_base ho34) hb);replace HR115:=mk0 (Kd.C_below (by repeat (first|(with_reducible exact HR115.out)|(with_reducible first|apply aC|apply nC|apply dC)|exact HR115.out)) hb);replace HB:=mk0 (kS HB.out hb);clear hb ho34;have q35:(x5_2:Int) ≤ ((x3_1.length:Int):Int):=oD;obtain⟨i035,hi035,_,hsz35,_⟩:=info_parts info3;have hroom35:x3_1.length ≤ co7:=(Kd.R_reads' HO_3.out).2.1;have hC35:Kd.C (Kd.int .i64) _ Ao7 x3_1.length x3_1:=(Kd.R_reads' HO_3.out).2.2;have hcut35:=cut_to (P:=Try.prog) 23 3 .i64 Try.underlying23 hi035 Ao7 x3_1.length co7 x5_2 (oD) q35 hroom35;have hr35:=Kd.C_take (m:=(x5_2:Int).toNat) hC35 (by omega);have hy35:y122.length = (x5_2:Int).toNat:=(by rw [Ny122.out,List.length_take];omega);rw [← Ny122.out] at hr35;rw [← hy35] at hcut35;have HR125:=mk0 hr35;have HC125:=mk0 (show y122.length ≤ co7 from by omega);clear hr35 hC35 hroom35 hi035 hsz35;have KY35:=mk0 hy35;clear hy35;have KL35:=mk0 (show (x5_2:Int).toNat ≤ x3_1.length from by omega);replace q35:=eq_true q35)|((with_reducible refine gate_builtin (b:=.append) (xs:=#[.tmp 48,.tmp 51]) rfl ?_);at_builtin;refine Kd.R_append_rows (Kd.int .i64) (w0:=w) w.heap.size rfl (.tmp 48) (.tmp 51) 23 3 (.int .i64 0) 8 rfl Try.underlying23 info3 rfl (by decide) (by omega) v120 y119 y122 _ _ _ (fun k_=>some k_ ≠ (.slice Ao7 x3_1.length co7:Value).ownBlock ∧ some k_ ≠ (v117:Value).ownBlock) (fun _=>False) rfl rfl ?aO ?aR (fun _ _ h=>h) (fun _ h=>h.elim) ?aF ?aB ?aS ?aL ?_;(case aR=>repeat (first|exact (by repeat (first|(with_reducible exact HR125.out)|(with_reducible first|apply aC|apply nC|apply dC)|exact HR125.out))|(with_reducible first|apply aC|apply nC|apply dC)));(case aB=>exact (kB HB.out));(case aF=>exact (fun k_ hk=>⟨Kd.fresh' (Kd.R_lt (rR HO_3.out)) k_ hk,Kd.fresh' (Kd.R_lt (rR HO118.out)) k_ hk⟩));(case aO=>exact (rR (Kd.R_mono HO121.out (fun _ hk=>⟨hk.1.2,hk.2⟩))));(case aS=>exact (kZ HB.out));(case aL=>have:=LMc27.out;omega);intro v127 w36 ho hb hg hat;rw [← Ny126.out] at ho;replace HO118:=mk0 (Kd.R_after (ok:=(fun k_=>some k_ ≠ (.slice Ao7 x3_1.length co7:Value).ownBlock)) (rR HO118.out) hg hat);replace HB:=mk0 (hb);replace HR115:=mk0 ((show Kd.C (Kd.int .i64) w36 A31 y112.length y112 from by rw [Ny112.out,KA31.out];exact Kd.C_drop (m:=(x5_2:Int).toNat) (c:=co7) ((Kd.R_reads' (Kd.R_after (ok:=(fun k_=>some k_ ≠ (v117:Value).ownBlock)) (rR (Kd.R_mono HO_3.out (fun _ hk=>⟨hk.1.2,hk.2⟩))) hg hat)).2.2) KL31.out ((Kd.R_reads' (Kd.R_after (ok:=(fun k_=>some k_ ≠ (v117:Value).ownBlock)) (rR (Kd.R_mono HO_3.out (fun _ hk=>⟨hk.1.2,hk.2⟩))) hg hat)).2.1)));replace HR125:=mk0 ((show Kd.C (Kd.int .i64) w36 Ao7 y122.length y122 from by rw [Ny122.out];exact Kd.C_take (m:=(x5_2:Int).toNat) ((Kd.R_reads' (Kd.R_after (ok:=(fun k_=>some k_ ≠ (v117:Value).ownBlock)) (rR (Kd.R_mono HO_3.out (fun _ hk=>⟨hk.1.2,hk.2⟩))) hg hat)).2.2) KL35.out));replace HO_3:=mk0 (Kd.R_after (ok:=(fun k_=>some k_ ≠ (v117:Value).ownBlock)) (rR (Kd.R_mono HO_3.out (fun _ hk=>⟨hk.1.2,hk.2⟩))) hg hat);have HO128:=mk0 (ho);clear HO121 ho hb hg hat;obtain⟨Ao38,co38,eo38⟩:=Kd.R_slice HO118.out;subst eo38)|((with_reducible refine gate_builtin (b:=.append) (xs:=#[.tmp 52,.tmp 53]) rfl ?_);at_builtin;refine Kd.R_append_rows (Kd.int .i64) (w0:=w) w.heap.size rfl (.tmp 52) (.tmp 53) 23 3 (.int .i64 0) 8 rfl Try.underlying23 info3 rfl (by decide) (by omega) v127 y126 y116 _ _ _ (fun k_=>some k_ ≠ (.slice Ao7 x3_1.length co7:Value).ownBlock ∧ some k_ ≠ (.slice Ao38 y116.length co38:Value).ownBlock) (fun _=>False) rfl rfl ?aO ?aR (fun _ _ h=>h) (fun _ h=>h.elim) ?aF ?aB ?aS ?aL ?_;(case aR=>repeat (first|exact (Kd.R_reads' HO118.out).2.2|(with_reducible first|apply aC|apply nC|apply dC)));(case aB=>exact (kB HB.out));(case aF=>exact (fun k_ hk=>⟨Kd.fresh' (Kd.R_lt (rR HO_3.out)) k_ hk,Kd.fresh' (Kd.R_lt (rR HO118.out)) k_ hk⟩));(case aO=>exact (rR HO128.out));(case aS=>exact (kZ HB.out));(case aL=>have:=LMc28.out;omega);intro v130 w37 ho hb hg hat;rw [← Ny129.out] at ho;replace HO118:=mk0 (Kd.R_after (ok:=(fun k_=>some k_ ≠ (.slice Ao7 x3_1.length co7:Value).ownBlock)) (rR HO118.out) hg hat);replace HB:=mk0 (hb);replace HR115:=mk0 ((show Kd.C (Kd.int .i64) w37 A31 y112.length y112 from by rw [Ny112.out,KA31.out];exact Kd.C_drop (m:=(x5_2:Int).toNat) (c:=co7) ((Kd.R_reads' (Kd.R_after (ok:=(fun k_=>some k_ ≠ (.slice Ao38 y116.length co38:Value).ownBlock)) (rR HO_3.out) hg hat)).2.2) KL31.out ((Kd.R_reads' (Kd.R_after (ok:=(fun k_=>some k_ ≠ (.slice Ao38 y116.length co38:Value).ownBlock)) (rR HO_3.out) hg hat)).2.1)));replace HR125:=mk0 ((show Kd.C (Kd.int .i64) w37 Ao7 y122.length y122 from by rw [Ny122.out];exact Kd.C_take (m:=(x5_2:Int).toNat) ((Kd.R_reads' (Kd.R_after (ok:=(fun k_=>some k_ ≠ (.slice Ao38 y116.length co38:Value).ownBlock)) (rR HO_3.out) hg hat)).2.2) KL35.out));replace HO_3:=mk0 (Kd.R_after (ok:=(fun k_=>some k_ ≠ (.slice Ao38 y116.length co38:Value).ownBlock)) (rR HO_3.out) hg hat);have HO131:=mk0 (ho);clear HO128 ho hb hg hat));try go_wp2_with (first|((with_reducible refine gate_dst (N:=43) rfl ?_);refine Kd.R_lit (Kd.int .i64) _ 3 ?hg (N:=43) ?hd (xs:=([x4_1]:List Int)) (inner:=[.int .i64 x4_1]) (ok:=fun _=>True) (okp:=fun _=>True) ?hr ?hp (fun _ hk=>hk) trivial (Below.refl _ _) (Nat.le_refl _) (by simp) ?_;(case hd=>rfl);(case hg=>rfl);(case hr=>first|(go_simp;done)|(go_simp;rfl));(case hp=>exact (Reps.one (show Kd.M (Kd.int .i64) _ _ _ x4_1 [.int .i64 x4_1] from rfl) (Reps.none _ _)));intro v110 w29 ho30 hb hg_ hnew_;clear hg_ hnew_;(first|rw [← Ny109.out] at ho30|(simp only [Int.reduceToNat] at ho30;rw [← Ny109.out] at ho30));have HO111:=mk0 (Kd.R_lower (Kd.R_new' ho30 (Kd.R_lt (rR HO_3.out))) (kZ HB.out));replace HO_3:=mk0 (Kd.R_elder' (rR HO_3.out) (Kd.R_base ho30) hb);replace HB:=mk0 (kS HB.out hb);clear hb ho30;have q31:(x5_2:Int) ≤ ((x3_1.length:Int):Int):=oD;obtain⟨i031,hi031,_,hsz31,_⟩:=info_parts info3;have hroom31:x3_1.length ≤ co7:=(Kd.R_reads' HO_3.out).2.1;have hC31:Kd.C (Kd.int .i64) _ Ao7 x3_1.length x3_1:=(Kd.R_reads' HO_3.out).2.2;have q031:(0:Int) ≤ (x5_2:Int):=oD;have hcut31:=cut_from (P:=Try.prog) 23 3 .i64 Try.underlying23 hi031 1 hsz31 Ao7 x3_1.length co7 x5_2 q031 q31;have hr31:=Kd.C_drop (m:=(x5_2:Int).toNat) (c:=co7) hC31 (by omega) hroom31;obtain⟨A31,hA31⟩:∃ A1,A1 = (if co7 = (x5_2:Int).toNat then Ao7 else (Ao7:Option Addr).map (·.add ((x5_2:Int).toNat * 1))):=⟨_,rfl⟩;obtain⟨c31,hc31⟩:∃ c1,c1 = co7 - (x5_2:Int).toNat:=⟨_,rfl⟩;have hy31:y112.length = x3_1.length - (x5_2:Int).toNat:=(by rw [Ny112.out,List.length_drop] <;> omega);rw [show (x3_1).drop (x5_2:Int).toNat = y112 from Ny112.out.symm] at hr31;replace hr31:Kd.C (Kd.int .i64) _ A31 y112.length y112:=(by rw [hA31];exact hr31);rw [← hy31, ← hA31, ← hc31] at hcut31;have HR115:=mk0 hr31;have HC115:=mk0 (show y112.length ≤ c31 from by rw [hy31,hc31];exact Nat.sub_le_sub_right hroom31 _);clear hr31 hC31 hroom31 hi031 hsz31 hc31;have KY31:=mk0 hy31;have KA31:=mk0 hA31;clear hy31 hA31;have KL31:=mk0 (show (x5_2:Int).toNat ≤ x3_1.length from by omega);replace q31:=eq_true q31)|((with_reducible refine gate_builtin (b:=.append) (xs:=#[.tmp 43,.tmp 46]) rfl ?_);at_builtin;refine Kd.R_append_rows (Kd.int .i64) (w0:=w) w.heap.size rfl (.tmp 43) (.tmp 46) 23 3 (.int .i64 0) 8 rfl Try.underlying23 info3 rfl (by decide) (by omega) v110 y109 y112 _ _ _ (fun k_=>some k_ ≠ (.slice Ao7 x3_1.length co7:Value).ownBlock) (fun _=>False) rfl rfl ?aO ?aR (fun _ _ h=>h) (fun _ h=>h.elim) ?aF ?aB ?aS ?aL ?_;(case aR=>repeat (first|exact (by repeat (first|(with_reducible exact HR115.out)|(with_reducible first|apply aC|apply nC|apply dC)|exact HR115.out))|(with_reducible first|apply aC|apply nC|apply dC)));(case aB=>exact (kB HB.out));(case aF=>exact (fun k_ hk=>Kd.fresh' (Kd.R_lt (rR HO_3.out)) k_ hk));(case aO=>exact (rR (Kd.R_mono HO111.out (fun _ hk=>hk.2))));(case aS=>exact (kZ HB.out));(case aL=>have:=LMc24.out;omega);intro v117 w32 ho hb hg hat;rw [← Ny116.out] at ho;replace HB:=mk0 (hb);replace HR115:=mk0 ((show Kd.C (Kd.int .i64) w32 A31 y112.length y112 from by rw [Ny112.out,KA31.out];exact Kd.C_drop (m:=(x5_2:Int).toNat) (c:=co7) ((Kd.R_reads' (Kd.R_after (ok:=(fun _=>True)) (rR HO_3.out) hg hat)).2.2) KL31.out ((Kd.R_reads' (Kd.R_after (ok:=(fun _=>True)) (rR HO_3.out) hg hat)).2.1)));replace HO_3:=mk0 (Kd.R_after (ok:=(fun _=>True)) (rR HO_3.out) hg hat);have HO118:=mk0 (ho);clear HO111 ho hb hg hat)|((with_reducible refine gate_dst (N:=48) rfl ?_);refine Kd.R_lit (Kd.int .i64) _ 3 ?hg (N:=48) ?hd (xs:=([]:List Int)) (inner:=[]) (ok:=fun _=>True) (okp:=fun _=>True) ?hr ?hp (fun _ hk=>hk) trivial (Below.refl _ _) (Nat.le_refl _) (by simp) ?_;(case hd=>rfl);(case hg=>rfl);(case hr=>first|(go_simp;done)|(go_simp;rfl));(case hp=>exact (Reps.none _ _));intro v120 w33 ho34 hb hg_ hnew_;clear hg_ hnew_;(first|rw [← Ny119.out] at ho34|(simp only [Int.reduceToNat] at ho34;rw [← Ny119.out] at ho34));have HO121:=mk0 (Kd.R_lower (Kd.R_new' (Kd.R_new' ho34 (Kd.R_lt (rR HO_3.out))) (Kd.R_lt (rR HO118.out))) (kZ HB.out));replace HO_3:=mk0 (Kd.R_elder' (rR HO_3.out) (Kd.R_base ho34) hb);replace HO118:=mk0 (Kd.R_elder' (rR HO118.out) (Kd.R_base ho34) hb);replace HR115:=mk0 (Kd.C_below (by repeat (first|(with_reducible exact HR115.out)|(with_reducible first|apply aC|apply nC|apply dC)|exact HR115.out)) hb);replace HB:=mk0 (kS HB.out hb);clear hb ho34;have q35:(x5_2:Int) ≤ ((x3_1.length:Int):Int):=oD;obtain⟨i035,hi035,_,hsz35,_⟩:=info_parts info3;have hroom35:x3_1.length ≤ co7:=(Kd.R_reads' HO_3.out).2.1;have hC35:Kd.C (Kd.int .i64) _ Ao7 x3_1.length x3_1:=(Kd.R_reads' HO_3.out).2.2;have hcut35:=cut_to (P:=Try.prog) 23 3 .i64 Try.underlying23 hi035 Ao7 x3_1.length co7 x5_2 (oD) q35 hroom35;have hr35:=Kd.C_take (m:=(x5_2:Int).toNat) hC35 (by omega);have hy35:y122.length = (x5_2:Int).toNat:=(by rw [Ny122.out,List.length_take];omega);rw [← Ny122.out] at hr35;rw [← hy35] at hcut35;have HR125:=mk0 hr35;have HC125:=mk0 (show y122.length ≤ co7 from by omega);clear hr35 hC35 hroom35 hi035 hsz35;have KY35:=mk0 hy35;clear hy35;have KL35:=mk0 (show (x5_2:Int).toNat ≤ x3_1.length from by omega);replace q35:=eq_true q35)|((with_reducible refine gate_builtin (b:=.append) (xs:=#[.tmp 48,.tmp 51]) rfl ?_);at_builtin;refine Kd.R_append_rows (Kd.int .i64) (w0:=w) w.heap.size rfl (.tmp 48) (.tmp 51) 23 3 (.int .i64 0) 8 rfl Try.underlying23 info3 rfl (by decide) (by omega) v120 y119 y122 _ _ _ (fun k_=>some k_ ≠ (.slice Ao7 x3_1.length co7:Value).ownBlock ∧ some k_ ≠ (v117:Value).ownBlock) (fun _=>False) rfl rfl ?aO ?aR (fun _ _ h=>h) (fun _ h=>h.elim) ?aF ?aB ?aS ?aL ?_;(case aR=>repeat (first|exact (by repeat (first|(with_reducible exact HR125.out)|(with_reducible first|apply aC|apply nC|apply dC)|exact HR125.out))|(with_reducible first|apply aC|apply nC|apply dC)));(case aB=>exact (kB HB.out));(case aF=>exact (fun k_ hk=>⟨Kd.fresh' (Kd.R_lt (rR HO_3.out)) k_ hk,Kd.fresh' (Kd.R_lt (rR HO118.out)) k_ hk⟩));(case aO=>exact (rR (Kd.R_mono HO121.out (fun _ hk=>⟨hk.1.2,hk.2⟩))));(case aS=>exact (kZ HB.out));(case aL=>have:=LMc27.out;omega);intro v127 w36 ho hb hg hat;rw [← Ny126.out] at ho;replace HO118:=mk0 (Kd.R_after (ok:=(fun k_=>some k_ ≠ (.slice Ao7 x3_1.length co7:Value).ownBlock)) (rR HO118.out) hg hat);replace HB:=mk0 (hb);replace HR115:=mk0 ((show Kd.C (Kd.int .i64) w36 A31 y112.length y112 from by rw [Ny112.out,KA31.out];exact Kd.C_drop (m:=(x5_2:Int).toNat) (c:=co7) ((Kd.R_reads' (Kd.R_after (ok:=(fun k_=>some k_ ≠ (v117:Value).ownBlock)) (rR (Kd.R_mono HO_3.out (fun _ hk=>⟨hk.1.2,hk.2⟩))) hg hat)).2.2) KL31.out ((Kd.R_reads' (Kd.R_after (ok:=(fun k_=>some k_ ≠ (v117:Value).ownBlock)) (rR (Kd.R_mono HO_3.out (fun _ hk=>⟨hk.1.2,hk.2⟩))) hg hat)).2.1)));replace HR125:=mk0 ((show Kd.C (Kd.int .i64) w36 Ao7 y122.length y122 from by rw [Ny122.out];exact Kd.C_take (m:=(x5_2:Int).toNat) ((Kd.R_reads' (Kd.R_after (ok:=(fun k_=>some k_ ≠ (v117:Value).ownBlock)) (rR (Kd.R_mono HO_3.out (fun _ hk=>⟨hk.1.2,hk.2⟩))) hg hat)).2.2) KL35.out));replace HO_3:=mk0 (Kd.R_after (ok:=(fun k_=>some k_ ≠ (v117:Value).ownBlock)) (rR (Kd.R_mono HO_3.out (fun _ hk=>⟨hk.1.2,hk.2⟩))) hg hat);have HO128:=mk0 (ho);clear HO121 ho hb hg hat;obtain⟨Ao38,co38,eo38⟩:=Kd.R_slice HO118.out;subst eo38)|((with_reducible refine gate_builtin (b:=.append) (xs:=#[.tmp 52,.tmp 53]) rfl ?_);at_builtin;refine Kd.R_append_rows (Kd.int .i64) (w0:=w) w.heap.size rfl (.tmp 52) (.tmp 53) 23 3 (.int .i64 0) 8 rfl Try.underlying23 info3 rfl (by decide) (by omega) v127 y126 y116 _ _ _ (fun k_=>some k_ ≠ (.slice Ao7 x3_1.length co7:Value).ownBlock ∧ some k_ ≠ (.slice Ao38 y116.length co38:Value).ownBlock) (fun _=>False) rfl rfl ?aO ?aR (fun _ _ h=>h) (fun _ h=>h.elim) ?aF ?aB ?aS ?aL ?_;(case aR=>repeat (first|exact (Kd.R_reads' HO118.out).2.2|(with_reducible first|apply aC|apply nC|apply dC)));(case aB=>exact (kB HB.out));(case aF=>exact (fun k_ hk=>⟨Kd.fresh' (Kd.R_lt (rR HO_3.out)) k_ hk,Kd.fresh' (Kd.R_lt (rR HO118.out)) k_ hk⟩));(case aO=>exact (rR HO128.out));(case aS=>exact (kZ HB.out));(case aL=>have:=LMc28.out;omega);intro v130 w37 ho hb hg hat;rw [← Ny129.out] at ho;replace HO118:=mk0 (Kd.R_after (ok:=(fun k_=>some k_ ≠ (.slice Ao7 x3_1.length co7:Value).ownBlock)) (rR HO118.out) hg hat);replace HB:=mk0 (hb);replace HR115:=mk0 ((show Kd.C (Kd.int .i64) w37 A31 y112.length y112 from by rw [Ny112.out,KA31.out];exact Kd.C_drop (m:=(x5_2:Int).toNat) (c:=co7) ((Kd.R_reads' (Kd.R_after (ok:=(fun k_=>some k_ ≠ (.slice Ao38 y116.length co38:Value).ownBlock)) (rR HO_3.out) hg hat)).2.2) KL31.out ((Kd.R_reads' (Kd.R_after (ok:=(fun k_=>some k_ ≠ (.slice Ao38 y116.length co38:Value).ownBlock)) (rR HO_3.out) hg hat)).2.1)));replace HR125:=mk0 ((show Kd.C (Kd.int .i64) w37 Ao7 y122.length y122 from by rw [Ny122.out];exact Kd.C_take (m:=(x5_2:Int).toNat) ((Kd.R_reads' (Kd.R_after (ok:=(fun k_=>some k_ ≠ (.slice Ao38 y116.length co38:Value).ownBlock)) (rR HO_3.out) hg hat)).2.2) KL35.out));replace HO_3:=mk0 (Kd.R_after (ok:=(fun k_=>some k_ ≠ (.slice Ao38 y116.length co38:Value).ownBlock)) (rR HO_3.out) hg hat);have HO131:=mk0 (ho);clear HO128 ho hb hg hat)))
     go_roundg k2
     case measure=>have:=HK1.out;have:=HK2.out;omega
     case rel=>exact⟨(y129),(wrap64 (x4_1 - 1)),eS,H',⟨by have:=HK1.out;have:=HK2.out;omega⟩,⟨rR (Kd.R_mono HO131.out (fun _ hk=>trivial))⟩,⟨kB HB.out⟩⟩
/-! ### spec_Inverse: function 15 -/
mutual
def spec_Inverse.l0 : Nat → List Int → List Int → Int → Option (List Int × Bool)
 | 0, _, _, _ => none
 | k + 1, x0, x4, x5 => if x5 < (x0.length : Int) then (spec_Inverse.l1 k x0 x4 x5 (-1) 0) else (some (x4, true))
def spec_Inverse.l1 : Nat → List Int → List Int → Int → Int → Int → Option (List Int × Bool)
 | 0, _, _, _, _, _ => none
 | k + 1, x0, x4, x5, x6, x7 => if x7 < (x0.length : Int) then (if 0 ≤ x7 then (if (rd x0 x7) = x5 then (spec_Inverse.l1 k x0 x4 x5 x7 (wrap64 (x7 + 1))) else (spec_Inverse.l1 k x0 x4 x5 x6 (wrap64 (x7 + 1)))) else (none)) else (if x6 < 0 then (some (([] : List Int), false)) else (if x4.length < 17592186044416 then (spec_Inverse.l0 k x0 (x4 ++ [x6]) (wrap64 (x5 + 1))) else (none)))
end
def spec_Inverse.f (k : Nat) (l0 : List Int) : Option (List Int × Bool) := if (l0.length : Int) > 301 then (some (([] : List Int), false)) else (spec_Inverse.l0 k l0 (([] : List Int)) 0)
set_option maxHeartbeats 8000000 in
set_option maxRecDepth 100000 in
theorem spec_Inverse.calls (k : Nat) (A0 : Option Addr) (c0 : Nat) (l0 : List Int) (r1 : List Int) (r2 : Bool) (w : World) (hr0 : Kd.C (Kd.int .i64) w A0 l0.length l0) (hc0 : l0.length ≤ c0) (h : spec_Inverse.f k l0 = some (r1, r2)) :
  Calls Try.prog 15 #[.slice A0 l0.length c0] w fun e w' => ∃ v0_ : Value, e = .returned (.tuple #[v0_, .bool r2]) ∧ Kd.R (Kd.int .i64) 3 w' w.heap.size (fun _ => True) v0_ r1 ∧ Below w.heap.size w w' := by
 have HR0:=mk0 hr0
 have HC0:=mk0 hc0
 clear hr0 hc0
 have HB:=mk0 (Below.refl w.heap.size w)
 have H:(if (l0.length:Int) > 301 then (some (([]:List Int),false)) else (spec_Inverse.l0 k l0 (([]:List Int)) 0)) = some (r1,r2):=h
 clear h
 by_cases c2:(l0.length:Int) > 301
 ·rw [if_pos c2] at H
  have c2b0:decide (301 < (l0.length:Int)) = true:=decide_eq_true c2
  have c2b1:decide (301 < l0.length) = true:=decide_eq_true (by omega)
  clear c2
  simp only [Option.some.injEq,Prod.mk.injEq] at H
  obtain⟨rfl,rfl⟩:=H
  go_enter Try.func15,Try.ntmps15
  go_wp2
  go_ret2
  exact⟨_,eR,by first|exact Kd.R_nil _ _ _ _ _|exact Kd.N_nil _ _ _ _ _|exact Kd.V_nil _ _ _ _ _|exact Kd.Q_nil _ _ _ _ _|exact Kd.S_nil _ _ _ _ _,kB HB.out⟩
 ·rw [if_neg c2] at H
  have c2b0:decide (301 < (l0.length:Int)) = false:=decide_eq_false c2
  have c2b1:decide (301 < l0.length) = false:=decide_eq_false (by omega)
  clear c2
  obtain⟨y136,hy136⟩:∃ y_:List Int,y_ = (([]:List Int)):=⟨_,rfl⟩
  first|(with_reducible replace H:=yB hy136 H)|rw [← hy136] at H|skip
  have Ny136:=mk0 hy136
  clear hy136
  have H':=mk0 H
  clear H
  go_enter Try.func15,Try.ntmps15
  go_wp2_with (first|((with_reducible refine gate_dst (N:=11) rfl ?_);refine Kd.R_lit (Kd.int .i64) _ 3 ?hg (N:=11) ?hd (xs:=([]:List Int)) (inner:=[]) (ok:=fun _=>True) (okp:=fun _=>True) ?hr ?hp (fun _ hk=>hk) trivial (Below.refl _ _) (Nat.le_refl _) (by simp) ?_;(case hd=>rfl);(case hg=>rfl);(case hr=>first|(go_simp;done)|(go_simp;rfl));(case hp=>exact (Reps.none _ _));intro v137 w3 ho4 hb hg_ hnew_;clear hg_ hnew_;(first|rw [← Ny136.out] at ho4|(simp only [Int.reduceToNat] at ho4;rw [← Ny136.out] at ho4));have HO138:=mk0 (Kd.R_lower ho4 (kZ HB.out));replace HB:=mk0 (kS HB.out hb);clear hb ho4))
  go_loopg [4,5] k (fun kq v4 v5 w'=>∃ (x4_1:List Int) (x5_1:Int),v5 = .int .i64 x5_1 ∧ Aside0 (spec_Inverse.l0 kq l0 x4_1 x5_1 = some (r1,r2)) ∧ Aside0 (kq ≤ k) ∧ Aside0 (Kd.R (Kd.int .i64) 3 w' w.heap.size (fun _=>True) v4 x4_1) ∧ Aside0 (Below w.heap.size w w'))
  case atStart=>exact⟨(y136),(0),eS,H',⟨Nat.le_refl _⟩,⟨rR HO138.out⟩,⟨kB HB.out⟩⟩
  case round =>
   clear H'
   try clear c1
   try clear c2
   try clear c2b0
   try clear c2b1
   try clear p2
   obtain⟨x4_1,x5_1,rfl,HA,HK1,HO_4,HB⟩:=hrel
   cases gk with
   | zero=>exact absurd HA.out (by simp [spec_Inverse.l0])
   | succ k1 =>
    have H:=HA.out
    clear HA
    simp only [spec_Inverse.l0] at H
    by_cases c5:x5_1 < (l0.length:Int)
    ·rw [if_pos c5] at H
     have c5b0:decide (x5_1 < (l0.length:Int)) = true:=decide_eq_true c5
     clear c5
     have H':=mk0 H
     clear H
     go_wp2
     go_loopg [6,7] k1 (fun kq v6 v7 w'=>∃ (x6_2:Int) (x7_2:Int),v6 = .int .i64 x6_2 ∧ v7 = .int .i64 x7_2 ∧ Aside0 (spec_Inverse.l1 kq l0 x4_1 x5_1 x6_2 x7_2 = some (r1,r2)) ∧ Aside0 (kq ≤ k1) ∧ Aside0 (Kd.R (Kd.int .i64) 3 w' w.heap.size (fun _=>True) u4 x4_1) ∧ Aside0 (Below w.heap.size w w'))
     case atStart=>exact⟨((-1)),(0),eS,eS,H',⟨Nat.le_refl _⟩,⟨rR HO_4.out⟩,⟨kB HB.out⟩⟩
     case round =>
      clear H'
      try clear c1
      try clear c2
      try clear c2b0
      try clear c2b1
      try clear p2
      try clear c5
      try clear c5b0
      try clear p2
      obtain⟨x6_2,x7_2,rfl,rfl,HA,HK2,HO_4,HB⟩:=hrel
      cases gk with
      | zero=>exact absurd HA.out (by simp [spec_Inverse.l1])
      | succ k2 =>
       have H:=HA.out
       clear HA
       simp only [spec_Inverse.l1] at H
       by_cases c6:x7_2 < (l0.length:Int)
       ·rw [if_pos c6] at H
        have c6b0:decide (x7_2 < (l0.length:Int)) = true:=decide_eq_true c6
        clear c6
        by_cases c7:0 ≤ x7_2
        ·rw [if_pos c7] at H
         have c7b0:decide (0 ≤ x7_2) = true:=decide_eq_true c7
         clear c7
         by_cases c8:(rd l0 x7_2) = x5_1
         ·rw [if_pos c8] at H
          have c8b0:((rd l0 x7_2) == x5_1) = true:=beq_iff_eq.mpr c8
          have c8b1:((rd l0 x7_2) != x5_1) = false:=bne_eq_false_iff_eq.mpr c8
          clear c8
          have H':=mk0 H
          clear H
          have p139:0 ≤ (x7_2:Int):=oD
          have q139:x7_2 < (l0.length:Int):=oD
          obtain⟨ad139,e139,hx139_0⟩:=Kd.at_int HR0.out x7_2 p139 q139
          cases e139
          replace hx139_0:=(HB.out.cell (World.block_lt_of_cell? w _ hx139_0)).trans hx139_0
          replace p139:=eq_true p139
          replace q139:=eq_true q139
          go_wp2
          go_roundg k2
          case measure=>have:=HK1.out;have:=HK2.out;omega
          case rel=>exact⟨(x7_2),(wrap64 (x7_2 + 1)),eS,eS,H',⟨by have:=HK1.out;have:=HK2.out;omega⟩,⟨rR HO_4.out⟩,⟨kB HB.out⟩⟩
         ·rw [if_neg c8] at H
          have c8b0:((rd l0 x7_2) == x5_1) = false:=beq_eq_false_iff_ne.mpr c8
          have c8b1:((rd l0 x7_2) != x5_1) = true:=bne_iff_ne.mpr c8
          have H':=mk0 H
          clear H
          have p139:0 ≤ (x7_2:Int):=oD
          have q139:x7_2 < (l0.length:Int):=oD
          obtain⟨ad139,e139,hx139_0⟩:=Kd.at_int HR0.out x7_2 p139 q139
          cases e139
          replace hx139_0:=(HB.out.cell (World.block_lt_of_cell? w _ hx139_0)).trans hx139_0
          replace p139:=eq_true p139
          replace q139:=eq_true q139
          go_wp2
          go_roundg k2
          case measure=>have:=HK1.out;have:=HK2.out;omega
          case rel=>exact⟨(x6_2),(wrap64 (x7_2 + 1)),eS,eS,H',⟨by have:=HK1.out;have:=HK2.out;omega⟩,⟨rR HO_4.out⟩,⟨kB HB.out⟩⟩
        ·rw [if_neg c7] at H
         exact nn H
       ·rw [if_neg c6] at H
        have c6b0:decide (x7_2 < (l0.length:Int)) = false:=decide_eq_false c6
        clear c6
        by_cases c9:x6_2 < 0
        ·rw [if_pos c9] at H
         have c9b0:decide (x6_2 < 0) = true:=decide_eq_true c9
         clear c9
         simp only [Option.some.injEq,Prod.mk.injEq] at H
         obtain⟨rfl,rfl⟩:=H
         go_wp2
         go_ret2
         exact⟨_,eR,by first|exact Kd.R_nil _ _ _ _ _|exact Kd.N_nil _ _ _ _ _|exact Kd.V_nil _ _ _ _ _|exact Kd.Q_nil _ _ _ _ _|exact Kd.S_nil _ _ _ _ _,kB HB.out⟩
        ·rw [if_neg c9] at H
         have c9b0:decide (x6_2 < 0) = false:=decide_eq_false c9
         clear c9
         by_cases c10:x4_1.length < 17592186044416
         ·rw [if_pos c10] at H
          have LMc10:=mk0 c10
          clear c10
          obtain⟨y140,hy140⟩:∃ y_:List Int,y_ = (x4_1 ++ [x6_2]):=⟨_,rfl⟩
          first|(with_reducible replace H:=yB hy140 H)|rw [← hy140] at H|skip
          have Ny140:=mk0 hy140
          clear hy140
          have H':=mk0 H
          clear H
          go_wp2_with (first|((with_reducible refine gate_builtin (b:=.append) (xs:=#[.tmp 33,.tmp 35]) rfl ?_);at_builtin;refine Kd.R_append (Kd.int .i64) (w0:=w) w.heap.size rfl (.tmp 33) (.tmp 35) 23 3 (.int .i64 0) 8 rfl Try.underlying23 info3 rfl (by decide) (by omega) u4 x4_1 x6_2 [.int .i64 x6_2] (fun _=>True) (fun _=>False) rfl rfl ?aP (fun _ hk=>hk.elim) ?aF ?aO ?aB ?aS ?aL ?_;(case aP=>exact rfl);(case aB=>exact (kB HB.out));(case aF=>exact (fun _ _=>trivial));(case aO=>exact (rR HO_4.out));(case aS=>exact (kZ HB.out));(case aL=>have:=LMc10.out;omega);intro v141 w11 ho hb hg hat;rw [← Ny140.out] at ho;replace HB:=mk0 (hb);have HO142:=mk0 (ho);clear HO_4 ho hb hg hat))
          go_roundg k2
          case measure=>have:=HK1.out;have:=HK2.out;omega
          case rel=>exact⟨(y140),(wrap64 (x5_1 + 1)),eS,H',⟨by have:=HK1.out;have:=HK2.out;omega⟩,⟨rR HO142.out⟩,⟨kB HB.out⟩⟩
         ·rw [if_neg c10] at H
          exact nn H
    ·rw [if_neg c5] at H
     have c5b0:decide (x5_1 < (l0.length:Int)) = false:=decide_eq_false c5
     clear c5
     simp only [Option.some.injEq,Prod.mk.injEq] at H
     obtain⟨rfl,rfl⟩:=H
     go_wp2
     go_ret2
     exact⟨_,eR,rR HO_4.out,kB HB.out⟩
end Go.Proofs.Ytjfoaiabbmkdpaa.QFnExactFmOf
