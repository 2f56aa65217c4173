-- A walk, made by walk.py, a program of this session's.
import Derived.Test.YtoinagnieobbpaaQFnStretchWordsx0
import Derived.Test.YtoinagnieobbpaaQFnStretchWordsx2
namespace Go.Proofs.Ytoinagnieobbpaa.QFnStretchWords
open Go.RowKit Go.Proofs.YtoinagnieobbpaaW.PrintWords Go.Proofs.YtoinagnieobbpaaW.PrintLast Go.Proofs.YtoinagnieobbpaaW.PrintMore
attribute [local go_sem] max2_int min2_int max_two min_two max_three min_three max_four min_four   -- for this text's walks alone
set_option linter.unusedVariables false
set_option linter.unusedSimpArgs false

/-! ### spec_l05Cmp: function 64 -/
mutual
def spec_l05Cmp.l0 : Nat → List Int → List Int → Int → Option (Int)
 | 0, _, _, _ => none
 | k + 1, x0, x1, x5 => if x5 < (x0.length : Int) then (spec_l05Cmp.j1 k x0 x1 x5 (decide (x5 < (x1.length : Int)))) else (spec_l05Cmp.j1 k x0 x1 x5 false)
def spec_l05Cmp.j1 : Nat → List Int → List Int → Int → Bool → Option (Int)
 | 0, _, _, _, _ => none
 | k + 1, x0, x1, x5, x15 => if x15 = true then (if 0 ≤ x5 then (if x5 < (x0.length : Int) then (if x5 < (x1.length : Int) then (if (rd x0 x5) < (rd x1 x5) then (some (-1)) else (if (rd x0 x5) > (rd x1 x5) then (some 1) else (spec_l05Cmp.l0 k x0 x1 (wrap64 (x5 + 1))))) else (none)) else (none)) else (none)) else (if (x0.length : Int) < (x1.length : Int) then (some (-1)) else (if (x0.length : Int) > (x1.length : Int) then (some 1) else (some 0)))
end
def spec_l05Cmp.f (k : Nat) (l0 : List Int) (l1 : List Int) : Option (Int) := spec_l05Cmp.l0 k l0 l1 0
theorem spec_l05Cmp.mono_l : ∀ k, (∀ y0 y1 y2, LeO (spec_l05Cmp.l0 k y0 y1 y2) (spec_l05Cmp.l0 (k + 1) y0 y1 y2)) ∧ (∀ y0 y1 y2 y3, LeO (spec_l05Cmp.j1 k y0 y1 y2 y3) (spec_l05Cmp.j1 (k + 1) y0 y1 y2 y3))
 | 0 => ⟨fun _ _ _ r h => by simp [spec_l05Cmp.l0] at h, fun _ _ _ _ r h => by simp [spec_l05Cmp.j1] at h⟩
 | k + 1 => by
  obtain ⟨ih0, ih1⟩ := spec_l05Cmp.mono_l k
  refine ⟨?_, ?_⟩
  ·intro y0 y1 y2
   unfold spec_l05Cmp.l0
   repeat' first|(with_reducible first|exact ih0 _ _ _|exact ih1 _ _ _ _|exact LeO.refl _|exact LeO.none _|refine LeO.ite ?_ ?_|refine LeO.bind ?_ (fun _ => ?_))|exact LeO.none _|refine LeO.ite ?_ ?_|refine LeO.bind ?_ (fun _ => ?_)
  ·intro y0 y1 y2 y3
   unfold spec_l05Cmp.j1
   repeat' first|(with_reducible first|exact ih0 _ _ _|exact ih1 _ _ _ _|exact LeO.refl _|exact LeO.none _|refine LeO.ite ?_ ?_|refine LeO.bind ?_ (fun _ => ?_))|exact LeO.none _|refine LeO.ite ?_ ?_|refine LeO.bind ?_ (fun _ => ?_)
theorem spec_l05Cmp.mono : ∀ a0 a1 k, LeO (spec_l05Cmp.f k a0 a1) (spec_l05Cmp.f (k + 1) a0 a1) := by
 intro a0 a1 k
 obtain ⟨ih0, ih1⟩ := spec_l05Cmp.mono_l k
 unfold spec_l05Cmp.f
 repeat' first|(with_reducible first|exact ih0 _ _ _|exact ih1 _ _ _ _|exact LeO.refl _|exact LeO.none _|refine LeO.ite ?_ ?_|refine LeO.bind ?_ (fun _ => ?_))|exact LeO.none _|refine LeO.ite ?_ ?_|refine LeO.bind ?_ (fun _ => ?_)
set_option maxHeartbeats 8000000 in
set_option maxRecDepth 100000 in
theorem spec_l05Cmp.calls (k : Nat) (A0 : Option Addr) (c0 : Nat) (l0 : List Int) (A1 : Option Addr) (c1 : Nat) (l1 : List Int) (r : Int) (w : World) (hr0 : Kd.C (Kd.int .u8) w A0 l0.length l0) (hc0 : l0.length ≤ c0) (hr1 : Kd.C (Kd.int .u8) w A1 l1.length l1) (hc1 : l1.length ≤ c1) (h : spec_l05Cmp.f k l0 l1 = some r) :
  Calls Try.prog 64 #[.slice A0 l0.length c0, .slice A1 l1.length c1] w fun e w' => e = .returned (.int .i64 r) ∧ Drawn0 w w' := by
 have HR0:=mk0 hr0
 have HC0:=mk0 hc0
 clear hr0 hc0
 have HR1:=mk0 hr1
 have HC1:=mk0 hc1
 clear hr1 hc1
 have H:(spec_l05Cmp.l0 k l0 l1 0) = some r:=h
 clear h
 have H':=mk0 H
 clear H
 go_enter Try.func64,Try.ntmps64
 go_wp2
 repeat (go_quiet (fail);try go_wp2)
 go_loopg [5] k (fun kq v5 w'=>∃ (x5_1:Int),v5 = .int .i64 x5_1 ∧ Aside0 (spec_l05Cmp.l0 kq l0 l1 x5_1 = some r) ∧ Aside0 (kq ≤ k) ∧ Drawn0 w w')
 case atStart=>exact⟨(0),(by first|rfl|(simp;done)|(simp [*];done)),H',⟨Nat.le_refl _⟩,by repeat (first|exact Drawn0.refl _|apply Drawn0.step)⟩
 case round =>
  clear H'
  try clear c1
  try clear p2
  obtain⟨x5_1,rfl,HA,HK1,⟨m1,rfl⟩⟩:=hrel
  cases gk with
  | zero=>exact absurd HA.out (by simp [spec_l05Cmp.l0])
  | succ k1 =>
   have H:=HA.out
   clear HA
   simp only [spec_l05Cmp.l0] at H
   have HC3:=mk0 H
   clear H
   go_upto_region 2 with (fail)
   repeat (go_quiet (fail);go_upto_region 2 with (fail))
   go_cut [15] (fun v15 wc=>∃ (kq:Nat) (x15_2:Bool),v15 = .bool x15_2 ∧ Aside0 (spec_l05Cmp.j1 kq l0 l1 x5_1 x15_2 = some r) ∧ Aside0 (kq ≤ k1) ∧ Drawn0 w wc)
   case first =>
    have H:=HC3.out
    clear HC3
    by_cases c4:x5_1 < (l0.length:Int)
    ·rw [if_pos c4] at H
     have c4b0:decide (x5_1 < (l0.length:Int)) = true:=decide_eq_true c4
     clear c4
     (first|rw [c4b0]|(simp only [i64_w,i32_w];rw [c4b0])|skip)
     have H':=mk0 H
     clear H
     go_wp2
     repeat (go_quiet (fail);try go_wp2)
     go_meet
     case rel=>exact⟨_,(decide (x5_1 < (l1.length:Int))),(by first|rfl|(simp;done)|(simp [*];done)),H',⟨by have:=HK1.out;first|omega|exact Nat.le_refl _⟩,by repeat (first|exact Drawn0.refl _|apply Drawn0.step)⟩
    ·rw [if_neg c4] at H
     have c4b0:decide (x5_1 < (l0.length:Int)) = false:=decide_eq_false c4
     clear c4
     (first|rw [c4b0]|(simp only [i64_w,i32_w];rw [c4b0])|skip)
     have H':=mk0 H
     clear H
     go_wp2
     repeat (go_quiet (fail);try go_wp2)
     go_meet
     case rel=>exact⟨_,(false),(by first|rfl|(simp;done)|(simp [*];done)),H',⟨by have:=HK1.out;first|omega|exact Nat.le_refl _⟩,by repeat (first|exact Drawn0.refl _|apply Drawn0.step)⟩
   case rest =>
    clear HC3
    try clear c1
    try clear p2
    try clear c4
    try clear c4b0
    try clear p2
    obtain⟨kq,x15_2,rfl,HA,HJ2,⟨mc2,rfl⟩⟩:=hcut
    cases kq with
    | zero=>exact absurd HA.out (by simp [spec_l05Cmp.j1])
    | succ kj2 =>
     have H:=HA.out
     clear HA
     simp only [spec_l05Cmp.j1] at H
     by_cases c5:x15_2 = true
     ·subst c5
      have H1:(if 0 ≤ x5_1 then (if x5_1 < (l0.length:Int) then (if x5_1 < (l1.length:Int) then (if (rd l0 x5_1) < (rd l1 x5_1) then (some (-1)) else (if (rd l0 x5_1) > (rd l1 x5_1) then (some 1) else (spec_l05Cmp.l0 kj2 l0 l1 (wrap64 (x5_1 + 1))))) else (none)) else (none)) else (none)) = some r:=by rw [if_pos rfl] at H;exact H
      clear H
      have H:=H1
      clear H1
      by_cases c6:0 ≤ x5_1
      ·rw [if_pos c6] at H
       have c6b0:decide (0 ≤ x5_1) = true:=decide_eq_true c6
       clear c6
       by_cases c7:x5_1 < (l0.length:Int)
       ·rw [if_pos c7] at H
        have c7b0:decide (x5_1 < (l0.length:Int)) = true:=decide_eq_true c7
        clear c7
        by_cases c8:x5_1 < (l1.length:Int)
        ·rw [if_pos c8] at H
         have c8b0:decide (x5_1 < (l1.length:Int)) = true:=decide_eq_true c8
         clear c8
         by_cases c9:(rd l0 x5_1) < (rd l1 x5_1)
         ·rw [if_pos c9] at H
          have c9b0:decide ((rd l0 x5_1) < (rd l1 x5_1)) = true:=decide_eq_true c9
          clear c9
          obtain rfl:=Option.some.inj H
          have p108:0 ≤ (x5_1:Int):=of_decide_eq_true (by first|(with_reducible assumption)|assumption)
          have q108:x5_1 < (l0.length:Int):=of_decide_eq_true (by first|(with_reducible assumption)|assumption)
          obtain⟨ad108,e108,hx108_0⟩:=Kd.at_int HR0.out x5_1 p108 q108
          cases e108
          replace p108:=eq_true p108
          replace q108:=eq_true q108
          have p109:0 ≤ (x5_1:Int):=of_decide_eq_true (by first|(with_reducible assumption)|assumption)
          have q109:x5_1 < (l1.length:Int):=of_decide_eq_true (by first|(with_reducible assumption)|assumption)
          obtain⟨ad109,e109,hx109_0⟩:=Kd.at_int HR1.out x5_1 p109 q109
          cases e109
          replace p109:=eq_true p109
          replace q109:=eq_true q109
          go_wp2
          repeat (go_quiet (fail);try go_wp2)
          go_ret
          exact⟨by first|rfl|(simp;done)|(simp [*];done),by repeat (first|exact Drawn0.refl _|apply Drawn0.step)⟩
         ·rw [if_neg c9] at H
          have c9b0:decide ((rd l0 x5_1) < (rd l1 x5_1)) = false:=decide_eq_false c9
          clear c9
          by_cases c10:(rd l0 x5_1) > (rd l1 x5_1)
          ·rw [if_pos c10] at H
           have c10b0:decide ((rd l1 x5_1) < (rd l0 x5_1)) = true:=decide_eq_true c10
           clear c10
           obtain rfl:=Option.some.inj H
           have p108:0 ≤ (x5_1:Int):=of_decide_eq_true (by first|(with_reducible assumption)|assumption)
           have q108:x5_1 < (l0.length:Int):=of_decide_eq_true (by first|(with_reducible assumption)|assumption)
           obtain⟨ad108,e108,hx108_0⟩:=Kd.at_int HR0.out x5_1 p108 q108
           cases e108
           replace p108:=eq_true p108
           replace q108:=eq_true q108
           have p109:0 ≤ (x5_1:Int):=of_decide_eq_true (by first|(with_reducible assumption)|assumption)
           have q109:x5_1 < (l1.length:Int):=of_decide_eq_true (by first|(with_reducible assumption)|assumption)
           obtain⟨ad109,e109,hx109_0⟩:=Kd.at_int HR1.out x5_1 p109 q109
           cases e109
           replace p109:=eq_true p109
           replace q109:=eq_true q109
           have p110:0 ≤ (x5_1:Int):=of_decide_eq_true (by first|(with_reducible assumption)|assumption)
           have q110:x5_1 < (l0.length:Int):=of_decide_eq_true (by first|(with_reducible assumption)|assumption)
           obtain⟨ad110,e110,hx110_0⟩:=Kd.at_int HR0.out x5_1 p110 q110
           obtain rfl:ad108 = ad110:=(by injection e110)
           replace p110:=eq_true p110
           replace q110:=eq_true q110
           have p111:0 ≤ (x5_1:Int):=of_decide_eq_true (by first|(with_reducible assumption)|assumption)
           have q111:x5_1 < (l1.length:Int):=of_decide_eq_true (by first|(with_reducible assumption)|assumption)
           obtain⟨ad111,e111,hx111_0⟩:=Kd.at_int HR1.out x5_1 p111 q111
           obtain rfl:ad109 = ad111:=(by injection e111)
           replace p111:=eq_true p111
           replace q111:=eq_true q111
           go_wp2
           repeat (go_quiet (fail);try go_wp2)
           go_ret
           exact⟨by first|rfl|(simp;done)|(simp [*];done),by repeat (first|exact Drawn0.refl _|apply Drawn0.step)⟩
          ·rw [if_neg c10] at H
           have c10b0:decide ((rd l1 x5_1) < (rd l0 x5_1)) = false:=decide_eq_false c10
           clear c10
           have H':=mk0 H
           clear H
           have p108:0 ≤ (x5_1:Int):=of_decide_eq_true (by first|(with_reducible assumption)|assumption)
           have q108:x5_1 < (l0.length:Int):=of_decide_eq_true (by first|(with_reducible assumption)|assumption)
           obtain⟨ad108,e108,hx108_0⟩:=Kd.at_int HR0.out x5_1 p108 q108
           cases e108
           replace p108:=eq_true p108
           replace q108:=eq_true q108
           have p109:0 ≤ (x5_1:Int):=of_decide_eq_true (by first|(with_reducible assumption)|assumption)
           have q109:x5_1 < (l1.length:Int):=of_decide_eq_true (by first|(with_reducible assumption)|assumption)
           obtain⟨ad109,e109,hx109_0⟩:=Kd.at_int HR1.out x5_1 p109 q109
           cases e109
           replace p109:=eq_true p109
           replace q109:=eq_true q109
           have p110:0 ≤ (x5_1:Int):=of_decide_eq_true (by first|(with_reducible assumption)|assumption)
           have q110:x5_1 < (l0.length:Int):=of_decide_eq_true (by first|(with_reducible assumption)|assumption)
           obtain⟨ad110,e110,hx110_0⟩:=Kd.at_int HR0.out x5_1 p110 q110
           obtain rfl:ad108 = ad110:=(by injection e110)
           replace p110:=eq_true p110
           replace q110:=eq_true q110
           have p111:0 ≤ (x5_1:Int):=of_decide_eq_true (by first|(with_reducible assumption)|assumption)
           have q111:x5_1 < (l1.length:Int):=of_decide_eq_true (by first|(with_reducible assumption)|assumption)
           obtain⟨ad111,e111,hx111_0⟩:=Kd.at_int HR1.out x5_1 p111 q111
           obtain rfl:ad109 = ad111:=(by injection e111)
           replace p111:=eq_true p111
           replace q111:=eq_true q111
           go_wp2
           repeat (go_quiet (fail);try go_wp2)
           go_roundg kj2
           case measure=>have:=HK1.out;have:=HJ2.out;omega
           case rel=>exact⟨(wrap64 (x5_1 + 1)),(by first|rfl|(simp;done)|(simp [*];done)),H',⟨by have:=HK1.out;have:=HJ2.out;omega⟩,by repeat (first|exact Drawn0.refl _|apply Drawn0.step)⟩
        ·rw [if_neg c8] at H
         exact absurd H (by simp)
       ·rw [if_neg c7] at H
        exact absurd H (by simp)
      ·rw [if_neg c6] at H
       exact absurd H (by simp)
     ·replace c5:=Bool.eq_false_iff.mpr c5
      subst c5
      have H1:(if (l0.length:Int) < (l1.length:Int) then (some (-1)) else (if (l0.length:Int) > (l1.length:Int) then (some 1) else (some 0))) = some r:=by rw [if_neg (show ¬ (false = true) by decide)] at H;exact H
      clear H
      have H:=H1
      clear H1
      by_cases c11:(l0.length:Int) < (l1.length:Int)
      ·rw [if_pos c11] at H
       have c11b0:decide ((l0.length:Int) < (l1.length:Int)) = true:=decide_eq_true c11
       have c11b1:decide (l0.length < l1.length) = true:=decide_eq_true (Int.ofNat_lt.mp c11)
       clear c11
       obtain rfl:=Option.some.inj H
       go_wp2
       repeat (go_quiet (fail);try go_wp2)
       go_ret
       exact⟨by first|rfl|(simp;done)|(simp [*];done),by repeat (first|exact Drawn0.refl _|apply Drawn0.step)⟩
      ·rw [if_neg c11] at H
       have c11b0:decide ((l0.length:Int) < (l1.length:Int)) = false:=decide_eq_false c11
       have c11b1:decide (l0.length < l1.length) = false:=decide_eq_false (fun h=>c11 (Int.ofNat_lt.mpr h))
       clear c11
       by_cases c12:(l0.length:Int) > (l1.length:Int)
       ·rw [if_pos c12] at H
        have c12b0:decide ((l1.length:Int) < (l0.length:Int)) = true:=decide_eq_true c12
        have c12b1:decide (l1.length < l0.length) = true:=decide_eq_true (Int.ofNat_lt.mp c12)
        clear c12
        obtain rfl:=Option.some.inj H
        go_wp2
        repeat (go_quiet (fail);try go_wp2)
        go_ret
        exact⟨by first|rfl|(simp;done)|(simp [*];done),by repeat (first|exact Drawn0.refl _|apply Drawn0.step)⟩
       ·rw [if_neg c12] at H
        have c12b0:decide ((l1.length:Int) < (l0.length:Int)) = false:=decide_eq_false c12
        have c12b1:decide (l1.length < l0.length) = false:=decide_eq_false (fun h=>c12 (Int.ofNat_lt.mpr h))
        clear c12
        obtain rfl:=Option.some.inj H
        go_wp2
        repeat (go_quiet (fail);try go_wp2)
        go_ret
        exact⟨by first|rfl|(simp;done)|(simp [*];done),by repeat (first|exact Drawn0.refl _|apply Drawn0.step)⟩

/-! ### spec_SuffixRows: function 42 -/
mutual
def spec_SuffixRows.l0 : Nat → List Int → List Int → Int → Option (List Int)
 | 0, _, _, _ => none
 | k + 1, x0, x3, x4 => if x4 ≥ 0 then (spec_SuffixRows.l1 k x0 x3 x4 0 (x3.length : Int)) else (some x3)
def spec_SuffixRows.l1 : Nat → List Int → List Int → Int → Int → Int → Option (List Int)
 | 0, _, _, _, _, _ => none
 | k + 1, x0, x3, x4, x5, x6 => if x5 < x6 then (if 0 ≤ (wrap64 (Int.tdiv (wrap64 (x5 + x6)) 2)) then (if (wrap64 (Int.tdiv (wrap64 (x5 + x6)) 2)) < (x3.length : Int) then (if 0 ≤ (rd x3 (wrap64 (Int.tdiv (wrap64 (x5 + x6)) 2))) then (if (rd x3 (wrap64 (Int.tdiv (wrap64 (x5 + x6)) 2))) ≤ (x0.length : Int) then (if 0 ≤ x4 then (if x4 ≤ (x0.length : Int) then ((spec_l05Cmp.f k (x0.drop ((rd x3 (wrap64 (Int.tdiv (wrap64 (x5 + x6)) 2))) : Int).toNat) (x0.drop (x4 : Int).toNat)).bind fun t142 => (if t142 < 0 then (spec_SuffixRows.l1 k x0 x3 x4 (wrap64 ((wrap64 (Int.tdiv (wrap64 (x5 + x6)) 2)) + 1)) x6) else (spec_SuffixRows.l1 k x0 x3 x4 x5 (wrap64 (Int.tdiv (wrap64 (x5 + x6)) 2))))) else (none)) else (none)) else (none)) else (none)) else (none)) else (none)) else ((some (([x4] : List Int) : List Int)).bind fun y116 => (if 0 ≤ x5 then (if x5 ≤ (x3.length : Int) then ((some (x3.drop (x5 : Int).toNat : List Int)).bind fun y119 => (if y116.length + y119.length < 17592186044416 then ((some (y116 ++ y119 : List Int)).bind fun y123 => ((some (([] : List Int) : List Int)).bind fun y126 => ((some (x3.take (x5 : Int).toNat : List Int)).bind fun y129 => (if y126.length + y129.length < 17592186044416 then ((some (y126 ++ y129 : List Int)).bind fun y133 => (if y133.length + y123.length < 17592186044416 then (spec_SuffixRows.l0 k x0 (y133 ++ y123) (wrap64 (x4 - 1))) else (none))) else (none))))) else (none))) else (none)) else (none)))
end
def spec_SuffixRows.f (k : Nat) (l0 : List Int) : Option (List Int) := (spec_TextOk.f l0).bind fun t112 => (if t112 = true then (spec_SuffixRows.l0 k l0 (([] : List Int)) (l0.length : Int)) else (some ([] : List Int)))
theorem spec_SuffixRows.mono_l : ∀ k, (∀ y0 y1 y2, LeO (spec_SuffixRows.l0 k y0 y1 y2) (spec_SuffixRows.l0 (k + 1) y0 y1 y2)) ∧ (∀ y0 y1 y2 y3 y4, LeO (spec_SuffixRows.l1 k y0 y1 y2 y3 y4) (spec_SuffixRows.l1 (k + 1) y0 y1 y2 y3 y4))
 | 0 => ⟨fun _ _ _ r h => by simp [spec_SuffixRows.l0] at h, fun _ _ _ _ _ r h => by simp [spec_SuffixRows.l1] at h⟩
 | k + 1 => by
  obtain ⟨ih0, ih1⟩ := spec_SuffixRows.mono_l k
  refine ⟨?_, ?_⟩
  ·intro y0 y1 y2
   unfold spec_SuffixRows.l0
   repeat' first|(with_reducible first|exact ih0 _ _ _|exact ih1 _ _ _ _ _|exact spec_l05Cmp.mono _ _ _|exact LeO.refl _|exact LeO.none _|refine LeO.ite ?_ ?_|refine LeO.bind ?_ (fun _ => ?_))|exact LeO.none _|refine LeO.ite ?_ ?_|refine LeO.bind ?_ (fun _ => ?_)
  ·intro y0 y1 y2 y3 y4
   unfold spec_SuffixRows.l1
   repeat' first|(with_reducible first|exact ih0 _ _ _|exact ih1 _ _ _ _ _|exact spec_l05Cmp.mono _ _ _|exact LeO.refl _|exact LeO.none _|refine LeO.ite ?_ ?_|refine LeO.bind ?_ (fun _ => ?_))|exact LeO.none _|refine LeO.ite ?_ ?_|refine LeO.bind ?_ (fun _ => ?_)
theorem spec_SuffixRows.mono : ∀ a0 k, LeO (spec_SuffixRows.f k a0) (spec_SuffixRows.f (k + 1) a0) := by
 intro a0 k
 obtain ⟨ih0, ih1⟩ := spec_SuffixRows.mono_l k
 unfold spec_SuffixRows.f
 repeat' first|(with_reducible first|exact ih0 _ _ _|exact ih1 _ _ _ _ _|exact spec_l05Cmp.mono _ _ _|exact LeO.refl _|exact LeO.none _|refine LeO.ite ?_ ?_|refine LeO.bind ?_ (fun _ => ?_))|exact LeO.none _|refine LeO.ite ?_ ?_|refine LeO.bind ?_ (fun _ => ?_)
set_option maxHeartbeats 8000000 in
set_option maxRecDepth 100000 in
theorem spec_SuffixRows.calls (k : Nat) (A0 : Option Addr) (c0 : Nat) (l0 : List Int) (r : List Int) (w : World) (hr0 : Kd.C (Kd.int .u8) w A0 l0.length l0) (hc0 : l0.length ≤ c0) (h : spec_SuffixRows.f k l0 = some r) :
  Calls Try.prog 42 #[.slice A0 l0.length c0] w fun e w' => ∃ v0_ : Value, e = .returned (v0_) ∧ Kd.R (Kd.int .i64) 3 w' w.heap.size (fun _ => True) v0_ r ∧ Below w.heap.size w w' := by
 have HR0:=mk0 hr0
 have HC0:=mk0 hc0
 clear hr0 hc0
 have HB:=mk0 (Below.refl w.heap.size w)
 have H:((spec_TextOk.f l0).bind fun t112=>(if t112 = true then (spec_SuffixRows.l0 k l0 (([]:List Int)) (l0.length:Int)) else (some ([]:List Int)))) = some r:=h
 clear h
 replace H:=Option.bind_eq_some_iff.mp H
 obtain⟨t112,A20,H⟩:=H
 replace H:(if t112 = true then (spec_SuffixRows.l0 k l0 (([]:List Int)) (l0.length:Int)) else (some ([]:List Int))) = some r:=H
 have A2:=mk0 A20
 clear A20
 by_cases c3:t112 = true
 rotate_left
 ·replace c3:=Bool.eq_false_iff.mpr c3
  subst c3
  have H1:(some ([]:List Int)) = some r:=by rw [if_neg (show ¬ (false = true) by decide)] at H;exact H
  clear H
  have H:=H1
  clear H1
  obtain rfl:=Option.some.inj H
  go_enter Try.func42,Try.ntmps42
  go_wp2_with (first|(go_at_call 36;(with_reducible refine (spec_TextOk.calls _ _ l0 false _ ?side1 ?side2 A2.out).mono ?_);(case side1=>repeat (first|exact HR0.out|(with_reducible first|apply aC|apply nC|apply dC)));(case side2=>exact HC0.out);rintro e w' ⟨rfl,⟨nd,rfl⟩⟩;(try first|exact⟨rfl,_,World.drewN_drewN _ _ _⟩|exact⟨rfl,_,Eq.trans (World.drewN_drewN _ _ _) (congrArg (World.drewN _) (Nat.add_assoc _ _ _))⟩)))
  repeat (go_quiet (first|(go_at_call 36;(with_reducible refine (spec_TextOk.calls _ _ l0 false _ ?side1 ?side2 A2.out).mono ?_);(case side1=>repeat (first|exact HR0.out|(with_reducible first|apply aC|apply nC|apply dC)));(case side2=>exact HC0.out);rintro e w' ⟨rfl,⟨nd,rfl⟩⟩;(try first|exact⟨rfl,_,World.drewN_drewN _ _ _⟩|exact⟨rfl,_,Eq.trans (World.drewN_drewN _ _ _) (congrArg (World.drewN _) (Nat.add_assoc _ _ _))⟩)));try go_wp2_with (first|(go_at_call 36;(with_reducible refine (spec_TextOk.calls _ _ l0 false _ ?side1 ?side2 A2.out).mono ?_);(case side1=>repeat (first|exact HR0.out|(with_reducible first|apply aC|apply nC|apply dC)));(case side2=>exact HC0.out);rintro e w' ⟨rfl,⟨nd,rfl⟩⟩;(try first|exact⟨rfl,_,World.drewN_drewN _ _ _⟩|exact⟨rfl,_,Eq.trans (World.drewN_drewN _ _ _) (congrArg (World.drewN _) (Nat.add_assoc _ _ _))⟩))))
  go_ret
  exact⟨_,by first|rfl|(simp [errW_none,errW_some] <;> rfl)|(simp [*,errW_none,errW_some] <;> rfl),by first|exact Kd.R_nil _ _ _ _ _|exact Kd.N_nil _ _ _ _ _|exact Kd.V_nil _ _ _ _ _|exact Kd.Q_nil _ _ _ _ _|exact Kd.S_nil _ _ _ _ _,kB HB.out⟩

 subst c3
 have H1:(spec_SuffixRows.l0 k l0 (([]:List Int)) (l0.length:Int)) = some r:=by rw [if_pos rfl] at H;exact H
 clear H
 have H:=H1
 clear H1
 obtain⟨y113,hy113⟩:∃ y_:List Int,y_ = (([]:List Int)):=⟨_,rfl⟩
 replace H:(spec_SuffixRows.l0 k l0 y113 (l0.length:Int)) = some r:=by first|(rw [hy113];with_reducible exact H)|(have H2_:=(Option.bind_some _ _).symm.trans H;rw [hy113];with_reducible exact H2_)|(have H2_:=(Option.bind_some _ _).symm.trans H;with_reducible exact H2_)|with_reducible exact H|(rw [hy113];exact H)|exact H
 have Ny113:=mk0 hy113
 clear hy113
 have H':=mk0 H
 clear H
 go_enter Try.func42,Try.ntmps42
 go_wp2_with (first|(go_at_call 36;(with_reducible refine (spec_TextOk.calls _ _ l0 true _ ?side1 ?side2 A2.out).mono ?_);(case side1=>repeat (first|exact HR0.out|(with_reducible first|apply aC|apply nC|apply dC)));(case side2=>exact HC0.out);rintro e w' ⟨rfl,⟨nd,rfl⟩⟩;(try first|exact⟨rfl,_,World.drewN_drewN _ _ _⟩|exact⟨rfl,_,Eq.trans (World.drewN_drewN _ _ _) (congrArg (World.drewN _) (Nat.add_assoc _ _ _))⟩))|((with_reducible refine gate_dst (N:=12) rfl ?_);refine Kd.R_lit (Kd.int .i64) _ 3 ?hg (N:=12) ?hd (xs:=([]:List Int)) (inner:=[]) (ok:=fun _=>True) (okp:=fun _=>True) ?hr ?hp (fun _ hk=>hk) trivial (Below.refl _ _) (Nat.le_refl _) (by simp) ?_;(case hd=>rfl);(case hg=>rfl);(case hr=>first|(go_simp;done)|(go_simp;rfl));(case hp=>exact (Reps.none _ _));intro v114 w4 ho5 hb hg_ hnew_;clear hg_ hnew_;(first|rw [← Ny113.out] at ho5|(simp only [Int.reduceToNat] at ho5;rw [← Ny113.out] at ho5));have HO115:=mk0 (Kd.R_lower ho5 (kZ HB.out));replace HB:=mk0 (kS HB.out hb);clear hb ho5))
 repeat (go_quiet (first|(go_at_call 36;(with_reducible refine (spec_TextOk.calls _ _ l0 true _ ?side1 ?side2 A2.out).mono ?_);(case side1=>repeat (first|exact HR0.out|(with_reducible first|apply aC|apply nC|apply dC)));(case side2=>exact HC0.out);rintro e w' ⟨rfl,⟨nd,rfl⟩⟩;(try first|exact⟨rfl,_,World.drewN_drewN _ _ _⟩|exact⟨rfl,_,Eq.trans (World.drewN_drewN _ _ _) (congrArg (World.drewN _) (Nat.add_assoc _ _ _))⟩))|((with_reducible refine gate_dst (N:=12) rfl ?_);refine Kd.R_lit (Kd.int .i64) _ 3 ?hg (N:=12) ?hd (xs:=([]:List Int)) (inner:=[]) (ok:=fun _=>True) (okp:=fun _=>True) ?hr ?hp (fun _ hk=>hk) trivial (Below.refl _ _) (Nat.le_refl _) (by simp) ?_;(case hd=>rfl);(case hg=>rfl);(case hr=>first|(go_simp;done)|(go_simp;rfl));(case hp=>exact (Reps.none _ _));intro v114 w4 ho5 hb hg_ hnew_;clear hg_ hnew_;(first|rw [← Ny113.out] at ho5|(simp only [Int.reduceToNat] at ho5;rw [← Ny113.out] at ho5));have HO115:=mk0 (Kd.R_lower ho5 (kZ HB.out));replace HB:=mk0 (kS HB.out hb);clear hb ho5));try go_wp2_with (first|(go_at_call 36;(with_reducible refine (spec_TextOk.calls _ _ l0 true _ ?side1 ?side2 A2.out).mono ?_);(case side1=>repeat (first|exact HR0.out|(with_reducible first|apply aC|apply nC|apply dC)));(case side2=>exact HC0.out);rintro e w' ⟨rfl,⟨nd,rfl⟩⟩;(try first|exact⟨rfl,_,World.drewN_drewN _ _ _⟩|exact⟨rfl,_,Eq.trans (World.drewN_drewN _ _ _) (congrArg (World.drewN _) (Nat.add_assoc _ _ _))⟩))|((with_reducible refine gate_dst (N:=12) rfl ?_);refine Kd.R_lit (Kd.int .i64) _ 3 ?hg (N:=12) ?hd (xs:=([]:List Int)) (inner:=[]) (ok:=fun _=>True) (okp:=fun _=>True) ?hr ?hp (fun _ hk=>hk) trivial (Below.refl _ _) (Nat.le_refl _) (by simp) ?_;(case hd=>rfl);(case hg=>rfl);(case hr=>first|(go_simp;done)|(go_simp;rfl));(case hp=>exact (Reps.none _ _));intro v114 w4 ho5 hb hg_ hnew_;clear hg_ hnew_;(first|rw [← Ny113.out] at ho5|(simp only [Int.reduceToNat] at ho5;rw [← Ny113.out] at ho5));have HO115:=mk0 (Kd.R_lower ho5 (kZ HB.out));replace HB:=mk0 (kS HB.out hb);clear hb ho5)))
 go_loopg [3,4] k (fun kq v3 v4 w'=>∃ (x3_1:List Int) (x4_1:Int),v4 = .int .i64 x4_1 ∧ Aside0 (spec_SuffixRows.l0 kq l0 x3_1 x4_1 = some r) ∧ Aside0 (kq ≤ k) ∧ Aside0 (Kd.R (Kd.int .i64) 3 w' w.heap.size (fun _=>True) v3 x3_1) ∧ Aside0 (Below w.heap.size w w'))
 case atStart=>exact⟨(y113),((l0.length:Int)),(by first|rfl|(simp;done)|(simp [*];done)),H',⟨Nat.le_refl _⟩,⟨rR HO115.out⟩,⟨kB HB.out⟩⟩
 case round =>
  clear H'
  try clear p2
  try clear c3
  try clear c4
  obtain⟨x3_1,x4_1,rfl,HA,HK1,HO_3,HB⟩:=hrel
  cases gk with
  | zero=>exact absurd HA.out (by simp [spec_SuffixRows.l0])
  | succ k1 =>
   have H:=HA.out
   clear HA
   simp only [spec_SuffixRows.l0] at H
   by_cases c6:x4_1 ≥ 0
   rotate_left
   ·rw [if_neg c6] at H
    have c6b0:decide (0 ≤ x4_1) = false:=decide_eq_false c6
    clear c6
    obtain rfl:=Option.some.inj H
    go_wp2
    repeat (go_quiet (fail);try go_wp2)
    go_ret
    exact⟨_,by first|rfl|(simp [errW_none,errW_some] <;> rfl)|(simp [*,errW_none,errW_some] <;> rfl),rR HO_3.out,kB HB.out⟩
   rw [if_pos c6] at H
   have c6b0:decide (0 ≤ x4_1) = true:=decide_eq_true c6
   clear c6
   have H':=mk0 H
   clear H
   obtain⟨Ao7,co7,eo7⟩:=Kd.R_slice HO_3.out
   subst eo7
   go_wp2
   repeat (go_quiet (fail);try go_wp2)
   go_loopg [5,6] k1 (fun kq v5 v6 w'=>∃ (x5_2:Int) (x6_2:Int),v5 = .int .i64 x5_2 ∧ v6 = .int .i64 x6_2 ∧ Aside0 (spec_SuffixRows.l1 kq l0 x3_1 x4_1 x5_2 x6_2 = some r) ∧ Aside0 (kq ≤ k1) ∧ Aside0 (Kd.R (Kd.int .i64) 3 w' w.heap.size (fun _=>True) (.slice Ao7 x3_1.length co7) x3_1) ∧ Aside0 (Below w.heap.size w w'))
   case atStart=>exact⟨(0),((x3_1.length:Int)),(by first|rfl|(simp;done)|(simp [*];done)),(by first|rfl|(simp;done)|(simp [*];done)),H',⟨Nat.le_refl _⟩,⟨rR HO_3.out⟩,⟨kB HB.out⟩⟩
   case round =>
    clear H'
    try clear p2
    try clear c3
    try clear c4
    try clear c6
    try clear c6b0
    try clear p2
    obtain⟨x5_2,x6_2,rfl,rfl,HA,HK2,HO_3,HB⟩:=hrel
    cases gk with
    | zero=>exact absurd HA.out (by simp [spec_SuffixRows.l1])
    | succ k2 =>
     have H:=HA.out
     clear HA
     simp only [spec_SuffixRows.l1] at H
     by_cases c8:x5_2 < x6_2
     ·rw [if_pos c8] at H
      have c8b0:decide (x5_2 < x6_2) = true:=decide_eq_true c8
      clear c8
      obtain⟨ji9,hji9⟩:∃ j_:Int,(wrap64 (Int.tdiv (wrap64 (x5_2 + x6_2)) 2)) = j_:=⟨_,rfl⟩
      replace H:(if 0 ≤ (ji9) then (if (ji9) < (x3_1.length:Int) then (if 0 ≤ (rd x3_1 (ji9)) then (if (rd x3_1 (ji9)) ≤ (l0.length:Int) then (if 0 ≤ x4_1 then (if x4_1 ≤ (l0.length:Int) then ((spec_l05Cmp.f k2 (l0.drop ((rd x3_1 (ji9)):Int).toNat) (l0.drop (x4_1:Int).toNat)).bind fun t142=>(if t142 < 0 then (spec_SuffixRows.l1 k2 l0 x3_1 x4_1 (wrap64 ((ji9) + 1)) x6_2) else (spec_SuffixRows.l1 k2 l0 x3_1 x4_1 x5_2 ji9))) else (none)) else (none)) else (none)) else (none)) else (none)) else (none)) = some r:=by first|(rw [hji9] at H;exact H)|(simp only [hji9] at H ⊢;exact H)
      have hji9w:(IntKind.i64.wrap (Int.tdiv (wrap64 (x5_2 + x6_2)) 2)) = ji9:=(i64_w _).trans hji9
      by_cases c10:0 ≤ (ji9)
      rotate_left
      ·rw [if_neg c10] at H
       exact absurd H (by simp)
      rw [if_pos c10] at H
      have c10b0:decide (0 ≤ (ji9)) = true:=decide_eq_true c10
      clear c10
      by_cases c11:(ji9) < (x3_1.length:Int)
      rotate_left
      ·rw [if_neg c11] at H
       exact absurd H (by simp)
      rw [if_pos c11] at H
      have c11b0:decide ((ji9) < (x3_1.length:Int)) = true:=decide_eq_true c11
      clear c11
      by_cases c12:0 ≤ (rd x3_1 (ji9))
      rotate_left
      ·rw [if_neg c12] at H
       exact absurd H (by simp)
      rw [if_pos c12] at H
      have c12b0:=eq_true c12
      have c12b1:decide (0 ≤ (rd x3_1 (ji9))) = true:=decide_eq_true c12
      clear c12
      by_cases c13:(rd x3_1 (ji9)) ≤ (l0.length:Int)
      rotate_left
      ·rw [if_neg c13] at H
       exact absurd H (by simp)
      rw [if_pos c13] at H
      have c13b0:=eq_true c13
      have c13b1:decide ((rd x3_1 (ji9)) ≤ (l0.length:Int)) = true:=decide_eq_true c13
      clear c13
      by_cases c14:0 ≤ x4_1
      rotate_left
      ·rw [if_neg c14] at H
       exact absurd H (by simp)
      rw [if_pos c14] at H
      have c14b0:=eq_true c14
      have c14b1:decide (0 ≤ x4_1) = true:=decide_eq_true c14
      clear c14
      by_cases c15:x4_1 ≤ (l0.length:Int)
      rotate_left
      ·rw [if_neg c15] at H
       exact absurd H (by simp)
      rw [if_pos c15] at H
      have c15b0:=eq_true c15
      have c15b1:decide (x4_1 ≤ (l0.length:Int)) = true:=decide_eq_true c15
      clear c15
      replace H:=Option.bind_eq_some_iff.mp H
      obtain⟨t142,A160,H⟩:=H
      replace H:(if t142 < 0 then (spec_SuffixRows.l1 k2 l0 x3_1 x4_1 (wrap64 ((ji9) + 1)) x6_2) else (spec_SuffixRows.l1 k2 l0 x3_1 x4_1 x5_2 ji9)) = some r:=H
      have A16:=mk0 A160
      clear A160
      by_cases c17:t142 < 0
      rotate_left
      ·rw [if_neg c17] at H
       have c17b0:decide (t142 < 0) = false:=decide_eq_false c17
       clear c17
       have H':=mk0 H
       clear H
       have p139:0 ≤ ((ji9):Int):=of_decide_eq_true (by first|(with_reducible assumption)|assumption)
       have q139:(ji9) < (x3_1.length:Int):=of_decide_eq_true (by first|(with_reducible assumption)|assumption)
       obtain⟨ad139,e139,hx139_0⟩:=Kd.at_int (Kd.R_reads' HO_3.out).2.2 (ji9) p139 q139
       cases e139
       replace p139:=eq_true p139
       replace q139:=eq_true q139
       obtain⟨i020,hi020,_,hsz20,_⟩:=info_parts info5
       obtain⟨A20,hcut20,hA20,hC20⟩:=print_drop_of (P:=Try.prog) (Value.int .u8) 0 22 5 .i64 Try.underlying22 hi020 hsz20 A0 c0 l0 (rd x3_1 (ji9)) (of_decide_eq_true (by first|(with_reducible assumption)|assumption)) (of_decide_eq_true (by first|(with_reducible assumption)|assumption)) HC0.out
       have HR140:=mk0 (Kd.C_of_reads (h1:=fun _=>rfl) (hA20 _ (Kd.reads_of_C HR0.out)))
       have HC140:=mk0 hC20
       clear hA20 hC20 hi020 hsz20
       obtain⟨i021,hi021,_,hsz21,_⟩:=info_parts info5
       obtain⟨A21,hcut21,hA21,hC21⟩:=print_drop_of (P:=Try.prog) (Value.int .u8) 0 22 5 .i64 Try.underlying22 hi021 hsz21 A0 c0 l0 x4_1 (of_decide_eq_true (by first|(with_reducible assumption)|assumption)) (of_decide_eq_true (by first|(with_reducible assumption)|assumption)) HC0.out
       have HR141:=mk0 (Kd.C_of_reads (h1:=fun _=>rfl) (hA21 _ (Kd.reads_of_C HR0.out)))
       have HC141:=mk0 hC21
       clear hA21 hC21 hi021 hsz21
       go_wp2_with (first|(go_at_call 64;refine calls_of_args (args':=#[.slice A20 (l0.drop ((rd x3_1 (ji9)):Int).toNat).length (c0 - (rd x3_1 (ji9)).toNat),.slice A21 (l0.drop (x4_1:Int).toNat).length (c0 - x4_1.toNat)]) (by first|(rw [show (l0.drop ((rd x3_1 (ji9)):Int).toNat).length = (l0.length - (rd x3_1 (ji9)).toNat) from List.length_drop] <;> rfl)|(rw [show (l0.drop (x4_1:Int).toNat).length = (l0.length - x4_1.toNat) from List.length_drop] <;> rfl)|rfl|(simp only [lD,lT];done)|(simp only [lD,lT];rfl)) ?_;(with_reducible refine (spec_l05Cmp.calls k2 _ _ (l0.drop ((rd x3_1 (ji9)):Int).toNat) _ _ (l0.drop (x4_1:Int).toNat) t142 _ ?side1 ?side2 ?side3 ?side4 A16.out).mono ?_);(case side1=>exact kC (Kd.C_below HR140.out HB.out));(case side2=>exact HC140.out);(case side3=>exact kC (Kd.C_below HR141.out HB.out));(case side4=>exact HC141.out);rintro e w' ⟨rfl,⟨nd,rfl⟩⟩;(try first|exact⟨rfl,_,World.drewN_drewN _ _ _⟩|exact⟨rfl,_,Eq.trans (World.drewN_drewN _ _ _) (congrArg (World.drewN _) (Nat.add_assoc _ _ _))⟩)))
       repeat (go_quiet (first|(go_at_call 64;refine calls_of_args (args':=#[.slice A20 (l0.drop ((rd x3_1 (ji9)):Int).toNat).length (c0 - (rd x3_1 (ji9)).toNat),.slice A21 (l0.drop (x4_1:Int).toNat).length (c0 - x4_1.toNat)]) (by first|(rw [show (l0.drop ((rd x3_1 (ji9)):Int).toNat).length = (l0.length - (rd x3_1 (ji9)).toNat) from List.length_drop] <;> rfl)|(rw [show (l0.drop (x4_1:Int).toNat).length = (l0.length - x4_1.toNat) from List.length_drop] <;> rfl)|rfl|(simp only [lD,lT];done)|(simp only [lD,lT];rfl)) ?_;(with_reducible refine (spec_l05Cmp.calls k2 _ _ (l0.drop ((rd x3_1 (ji9)):Int).toNat) _ _ (l0.drop (x4_1:Int).toNat) t142 _ ?side1 ?side2 ?side3 ?side4 A16.out).mono ?_);(case side1=>exact kC (Kd.C_below HR140.out HB.out));(case side2=>exact HC140.out);(case side3=>exact kC (Kd.C_below HR141.out HB.out));(case side4=>exact HC141.out);rintro e w' ⟨rfl,⟨nd,rfl⟩⟩;(try first|exact⟨rfl,_,World.drewN_drewN _ _ _⟩|exact⟨rfl,_,Eq.trans (World.drewN_drewN _ _ _) (congrArg (World.drewN _) (Nat.add_assoc _ _ _))⟩)));try go_wp2_with (first|(go_at_call 64;refine calls_of_args (args':=#[.slice A20 (l0.drop ((rd x3_1 (ji9)):Int).toNat).length (c0 - (rd x3_1 (ji9)).toNat),.slice A21 (l0.drop (x4_1:Int).toNat).length (c0 - x4_1.toNat)]) (by first|(rw [show (l0.drop ((rd x3_1 (ji9)):Int).toNat).length = (l0.length - (rd x3_1 (ji9)).toNat) from List.length_drop] <;> rfl)|(rw [show (l0.drop (x4_1:Int).toNat).length = (l0.length - x4_1.toNat) from List.length_drop] <;> rfl)|rfl|(simp only [lD,lT];done)|(simp only [lD,lT];rfl)) ?_;(with_reducible refine (spec_l05Cmp.calls k2 _ _ (l0.drop ((rd x3_1 (ji9)):Int).toNat) _ _ (l0.drop (x4_1:Int).toNat) t142 _ ?side1 ?side2 ?side3 ?side4 A16.out).mono ?_);(case side1=>exact kC (Kd.C_below HR140.out HB.out));(case side2=>exact HC140.out);(case side3=>exact kC (Kd.C_below HR141.out HB.out));(case side4=>exact HC141.out);rintro e w' ⟨rfl,⟨nd,rfl⟩⟩;(try first|exact⟨rfl,_,World.drewN_drewN _ _ _⟩|exact⟨rfl,_,Eq.trans (World.drewN_drewN _ _ _) (congrArg (World.drewN _) (Nat.add_assoc _ _ _))⟩))))
       go_roundg k2
       case measure=>have:=HK1.out;have:=HK2.out;omega
       case rel=>exact⟨(x5_2),(ji9),(by first|rfl|(simp;done)|(simp [*];done)),(by first|rfl|(simp;done)|(simp only [← hji9] <;> (first|rfl|simp))|(simp [*];done)),H',⟨by have:=HK1.out;have:=HK2.out;omega⟩,⟨rR HO_3.out⟩,⟨kB HB.out⟩⟩
      rw [if_pos c17] at H
      have c17b0:decide (t142 < 0) = true:=decide_eq_true c17
      clear c17
      have H':=mk0 H
      clear H
      have p139:0 ≤ ((ji9):Int):=of_decide_eq_true (by first|(with_reducible assumption)|assumption)
      have q139:(ji9) < (x3_1.length:Int):=of_decide_eq_true (by first|(with_reducible assumption)|assumption)
      obtain⟨ad139,e139,hx139_0⟩:=Kd.at_int (Kd.R_reads' HO_3.out).2.2 (ji9) p139 q139
      cases e139
      replace p139:=eq_true p139
      replace q139:=eq_true q139
      obtain⟨i018,hi018,_,hsz18,_⟩:=info_parts info5
      obtain⟨A18,hcut18,hA18,hC18⟩:=print_drop_of (P:=Try.prog) (Value.int .u8) 0 22 5 .i64 Try.underlying22 hi018 hsz18 A0 c0 l0 (rd x3_1 (ji9)) (of_decide_eq_true (by first|(with_reducible assumption)|assumption)) (of_decide_eq_true (by first|(with_reducible assumption)|assumption)) HC0.out
      have HR140:=mk0 (Kd.C_of_reads (h1:=fun _=>rfl) (hA18 _ (Kd.reads_of_C HR0.out)))
      have HC140:=mk0 hC18
      clear hA18 hC18 hi018 hsz18
      obtain⟨i019,hi019,_,hsz19,_⟩:=info_parts info5
      obtain⟨A19,hcut19,hA19,hC19⟩:=print_drop_of (P:=Try.prog) (Value.int .u8) 0 22 5 .i64 Try.underlying22 hi019 hsz19 A0 c0 l0 x4_1 (of_decide_eq_true (by first|(with_reducible assumption)|assumption)) (of_decide_eq_true (by first|(with_reducible assumption)|assumption)) HC0.out
      have HR141:=mk0 (Kd.C_of_reads (h1:=fun _=>rfl) (hA19 _ (Kd.reads_of_C HR0.out)))
      have HC141:=mk0 hC19
      clear hA19 hC19 hi019 hsz19
      go_wp2_with (first|(go_at_call 64;refine calls_of_args (args':=#[.slice A18 (l0.drop ((rd x3_1 (ji9)):Int).toNat).length (c0 - (rd x3_1 (ji9)).toNat),.slice A19 (l0.drop (x4_1:Int).toNat).length (c0 - x4_1.toNat)]) (by first|(rw [show (l0.drop ((rd x3_1 (ji9)):Int).toNat).length = (l0.length - (rd x3_1 (ji9)).toNat) from List.length_drop] <;> rfl)|(rw [show (l0.drop (x4_1:Int).toNat).length = (l0.length - x4_1.toNat) from List.length_drop] <;> rfl)|rfl|(simp only [lD,lT];done)|(simp only [lD,lT];rfl)) ?_;(with_reducible refine (spec_l05Cmp.calls k2 _ _ (l0.drop ((rd x3_1 (ji9)):Int).toNat) _ _ (l0.drop (x4_1:Int).toNat) t142 _ ?side1 ?side2 ?side3 ?side4 A16.out).mono ?_);(case side1=>exact kC (Kd.C_below HR140.out HB.out));(case side2=>exact HC140.out);(case side3=>exact kC (Kd.C_below HR141.out HB.out));(case side4=>exact HC141.out);rintro e w' ⟨rfl,⟨nd,rfl⟩⟩;(try first|exact⟨rfl,_,World.drewN_drewN _ _ _⟩|exact⟨rfl,_,Eq.trans (World.drewN_drewN _ _ _) (congrArg (World.drewN _) (Nat.add_assoc _ _ _))⟩)))
      repeat (go_quiet (first|(go_at_call 64;refine calls_of_args (args':=#[.slice A18 (l0.drop ((rd x3_1 (ji9)):Int).toNat).length (c0 - (rd x3_1 (ji9)).toNat),.slice A19 (l0.drop (x4_1:Int).toNat).length (c0 - x4_1.toNat)]) (by first|(rw [show (l0.drop ((rd x3_1 (ji9)):Int).toNat).length = (l0.length - (rd x3_1 (ji9)).toNat) from List.length_drop] <;> rfl)|(rw [show (l0.drop (x4_1:Int).toNat).length = (l0.length - x4_1.toNat) from List.length_drop] <;> rfl)|rfl|(simp only [lD,lT];done)|(simp only [lD,lT];rfl)) ?_;(with_reducible refine (spec_l05Cmp.calls k2 _ _ (l0.drop ((rd x3_1 (ji9)):Int).toNat) _ _ (l0.drop (x4_1:Int).toNat) t142 _ ?side1 ?side2 ?side3 ?side4 A16.out).mono ?_);(case side1=>exact kC (Kd.C_below HR140.out HB.out));(case side2=>exact HC140.out);(case side3=>exact kC (Kd.C_below HR141.out HB.out));(case side4=>exact HC141.out);rintro e w' ⟨rfl,⟨nd,rfl⟩⟩;(try first|exact⟨rfl,_,World.drewN_drewN _ _ _⟩|exact⟨rfl,_,Eq.trans (World.drewN_drewN _ _ _) (congrArg (World.drewN _) (Nat.add_assoc _ _ _))⟩)));try go_wp2_with (first|(go_at_call 64;refine calls_of_args (args':=#[.slice A18 (l0.drop ((rd x3_1 (ji9)):Int).toNat).length (c0 - (rd x3_1 (ji9)).toNat),.slice A19 (l0.drop (x4_1:Int).toNat).length (c0 - x4_1.toNat)]) (by first|(rw [show (l0.drop ((rd x3_1 (ji9)):Int).toNat).length = (l0.length - (rd x3_1 (ji9)).toNat) from List.length_drop] <;> rfl)|(rw [show (l0.drop (x4_1:Int).toNat).length = (l0.length - x4_1.toNat) from List.length_drop] <;> rfl)|rfl|(simp only [lD,lT];done)|(simp only [lD,lT];rfl)) ?_;(with_reducible refine (spec_l05Cmp.calls k2 _ _ (l0.drop ((rd x3_1 (ji9)):Int).toNat) _ _ (l0.drop (x4_1:Int).toNat) t142 _ ?side1 ?side2 ?side3 ?side4 A16.out).mono ?_);(case side1=>exact kC (Kd.C_below HR140.out HB.out));(case side2=>exact HC140.out);(case side3=>exact kC (Kd.C_below HR141.out HB.out));(case side4=>exact HC141.out);rintro e w' ⟨rfl,⟨nd,rfl⟩⟩;(try first|exact⟨rfl,_,World.drewN_drewN _ _ _⟩|exact⟨rfl,_,Eq.trans (World.drewN_drewN _ _ _) (congrArg (World.drewN _) (Nat.add_assoc _ _ _))⟩))))
      go_roundg k2
      case measure=>have:=HK1.out;have:=HK2.out;omega
      case rel=>exact⟨(wrap64 ((ji9) + 1)),(x6_2),(by first|rfl|(simp;done)|(simp only [← hji9] <;> (first|rfl|simp))|(simp [*];done)),(by first|rfl|(simp;done)|(simp [*];done)),H',⟨by have:=HK1.out;have:=HK2.out;omega⟩,⟨rR HO_3.out⟩,⟨kB HB.out⟩⟩
     rw [if_neg c8] at H
     have c8b0:decide (x5_2 < x6_2) = false:=decide_eq_false c8
     clear c8
     obtain⟨y116,hy116⟩:∃ y_:List Int,y_ = (([x4_1]:List Int)):=⟨_,rfl⟩
     replace H:(if 0 ≤ x5_2 then (if x5_2 ≤ (x3_1.length:Int) then ((some (x3_1.drop (x5_2:Int).toNat:List Int)).bind fun y119=>(if y116.length + y119.length < 17592186044416 then ((some (y116 ++ y119:List Int)).bind fun y123=>((some (([]:List Int):List Int)).bind fun y126=>((some (x3_1.take (x5_2:Int).toNat:List Int)).bind fun y129=>(if y126.length + y129.length < 17592186044416 then ((some (y126 ++ y129:List Int)).bind fun y133=>(if y133.length + y123.length < 17592186044416 then (spec_SuffixRows.l0 k2 l0 (y133 ++ y123) (wrap64 (x4_1 - 1))) else (none))) else (none))))) else (none))) else (none)) else (none)) = some r:=by first|(rw [hy116];with_reducible exact H)|(have H2_:=(Option.bind_some _ _).symm.trans H;rw [hy116];with_reducible exact H2_)|(have H2_:=(Option.bind_some _ _).symm.trans H;with_reducible exact H2_)|with_reducible exact H|(rw [hy116];exact H)|exact H
     have Ny116:=mk0 hy116
     clear hy116
     by_cases c22:0 ≤ x5_2
     rotate_left
     ·rw [if_neg c22] at H
      exact absurd H (by simp)
     rw [if_pos c22] at H
     have c22b0:=eq_true c22
     have c22b1:decide (0 ≤ x5_2) = true:=decide_eq_true c22
     clear c22
     by_cases c23:x5_2 ≤ (x3_1.length:Int)
     rotate_left
     ·rw [if_neg c23] at H
      exact absurd H (by simp)
     rw [if_pos c23] at H
     have c23b0:=eq_true c23
     have c23b1:decide (x5_2 ≤ (x3_1.length:Int)) = true:=decide_eq_true c23
     clear c23
     obtain⟨y119,hy119⟩:∃ y_:List Int,y_ = (x3_1.drop (x5_2:Int).toNat):=⟨_,rfl⟩
     replace H:(if y116.length + y119.length < 17592186044416 then ((some (y116 ++ y119:List Int)).bind fun y123=>((some (([]:List Int):List Int)).bind fun y126=>((some (x3_1.take (x5_2:Int).toNat:List Int)).bind fun y129=>(if y126.length + y129.length < 17592186044416 then ((some (y126 ++ y129:List Int)).bind fun y133=>(if y133.length + y123.length < 17592186044416 then (spec_SuffixRows.l0 k2 l0 (y133 ++ y123) (wrap64 (x4_1 - 1))) else (none))) else (none))))) else (none)) = some r:=by first|(rw [hy119];with_reducible exact H)|(have H2_:=(Option.bind_some _ _).symm.trans H;rw [hy119];with_reducible exact H2_)|(have H2_:=(Option.bind_some _ _).symm.trans H;with_reducible exact H2_)|with_reducible exact H|(rw [hy119];exact H)|exact H
     have Ny119:=mk0 hy119
     clear hy119
     by_cases c24:y116.length + y119.length < 17592186044416
     rotate_left
     ·rw [if_neg c24] at H
      exact absurd H (by simp)
     rw [if_pos c24] at H
     have LMc24:=mk0 c24
     clear c24
     obtain⟨y123,hy123⟩:∃ y_:List Int,y_ = (y116 ++ y119):=⟨_,rfl⟩
     replace H:((some (([]:List Int):List Int)).bind fun y126=>((some (x3_1.take (x5_2:Int).toNat:List Int)).bind fun y129=>(if y126.length + y129.length < 17592186044416 then ((some (y126 ++ y129:List Int)).bind fun y133=>(if y133.length + y123.length < 17592186044416 then (spec_SuffixRows.l0 k2 l0 (y133 ++ y123) (wrap64 (x4_1 - 1))) else (none))) else (none)))) = some r:=by first|(rw [hy123];with_reducible exact H)|(have H2_:=(Option.bind_some _ _).symm.trans H;rw [hy123];with_reducible exact H2_)|(have H2_:=(Option.bind_some _ _).symm.trans H;with_reducible exact H2_)|with_reducible exact H|(rw [hy123];exact H)|exact H
     have Ny123:=mk0 hy123
     clear hy123
     obtain⟨y126,hy126⟩:∃ y_:List Int,y_ = (([]:List Int)):=⟨_,rfl⟩
     replace H:((some (x3_1.take (x5_2:Int).toNat:List Int)).bind fun y129=>(if y126.length + y129.length < 17592186044416 then ((some (y126 ++ y129:List Int)).bind fun y133=>(if y133.length + y123.length < 17592186044416 then (spec_SuffixRows.l0 k2 l0 (y133 ++ y123) (wrap64 (x4_1 - 1))) else (none))) else (none))) = some r:=by first|(rw [hy126];with_reducible exact H)|(have H2_:=(Option.bind_some _ _).symm.trans H;rw [hy126];with_reducible exact H2_)|(have H2_:=(Option.bind_some _ _).symm.trans H;with_reducible exact H2_)|with_reducible exact H|(rw [hy126];exact H)|exact H
     have Ny126:=mk0 hy126
     clear hy126
     have c25b0:=eq_true (of_decide_eq_true (by first|(with_reducible assumption)|assumption):0 ≤ x5_2)
     have c26b0:=eq_true (of_decide_eq_true (by first|(with_reducible assumption)|assumption):x5_2 ≤ (x3_1.length:Int))
     obtain⟨y129,hy129⟩:∃ y_:List Int,y_ = (x3_1.take (x5_2:Int).toNat):=⟨_,rfl⟩
     replace H:(if y126.length + y129.length < 17592186044416 then ((some (y126 ++ y129:List Int)).bind fun y133=>(if y133.length + y123.length < 17592186044416 then (spec_SuffixRows.l0 k2 l0 (y133 ++ y123) (wrap64 (x4_1 - 1))) else (none))) else (none)) = some r:=by first|(rw [hy129];with_reducible exact H)|(have H2_:=(Option.bind_some _ _).symm.trans H;rw [hy129];with_reducible exact H2_)|(have H2_:=(Option.bind_some _ _).symm.trans H;with_reducible exact H2_)|with_reducible exact H|(rw [hy129];exact H)|exact H
     have Ny129:=mk0 hy129
     clear hy129
     by_cases c27:y126.length + y129.length < 17592186044416
     rotate_left
     ·rw [if_neg c27] at H
      exact absurd H (by simp)
     rw [if_pos c27] at H
     have LMc27:=mk0 c27
     clear c27
     obtain⟨y133,hy133⟩:∃ y_:List Int,y_ = (y126 ++ y129):=⟨_,rfl⟩
     replace H:(if y133.length + y123.length < 17592186044416 then (spec_SuffixRows.l0 k2 l0 (y133 ++ y123) (wrap64 (x4_1 - 1))) else (none)) = some r:=by first|(rw [hy133];with_reducible exact H)|(have H2_:=(Option.bind_some _ _).symm.trans H;rw [hy133];with_reducible exact H2_)|(have H2_:=(Option.bind_some _ _).symm.trans H;with_reducible exact H2_)|with_reducible exact H|(rw [hy133];exact H)|exact H
     have Ny133:=mk0 hy133
     clear hy133
     by_cases c28:y133.length + y123.length < 17592186044416
     rotate_left
     ·rw [if_neg c28] at H
      exact absurd H (by simp)
     rw [if_pos c28] at H
     have LMc28:=mk0 c28
     clear c28
     obtain⟨y136,hy136⟩:∃ y_:List Int,y_ = (y133 ++ y123):=⟨_,rfl⟩
     replace H:(spec_SuffixRows.l0 k2 l0 y136 (wrap64 (x4_1 - 1))) = some r:=by first|(rw [hy136];with_reducible exact H)|(have H2_:=(Option.bind_some _ _).symm.trans H;rw [hy136];with_reducible exact H2_)|(have H2_:=(Option.bind_some _ _).symm.trans H;with_reducible exact H2_)|with_reducible exact H|(rw [hy136];exact H)|exact H
     have Ny136:=mk0 hy136
     clear hy136
     have H':=mk0 H
     clear H
     go_wp2_with (first|((with_reducible refine gate_dst (N:=43) rfl ?_);refine Kd.R_lit (Kd.int .i64) _ 3 ?hg (N:=43) ?hd (xs:=([x4_1]:List Int)) (inner:=[.int .i64 x4_1]) (ok:=fun _=>True) (okp:=fun _=>True) ?hr ?hp (fun _ hk=>hk) trivial (Below.refl _ _) (Nat.le_refl _) (by simp) ?_;(case hd=>rfl);(case hg=>rfl);(case hr=>first|(go_simp;done)|(go_simp;rfl));(case hp=>exact (Reps.one (show Kd.M (Kd.int .i64) _ _ _ x4_1 [.int .i64 x4_1] from rfl) (Reps.none _ _)));intro v117 w29 ho30 hb hg_ hnew_;clear hg_ hnew_;(first|rw [← Ny116.out] at ho30|(simp only [Int.reduceToNat] at ho30;rw [← Ny116.out] at ho30));have HO118:=mk0 (Kd.R_lower (Kd.R_new' ho30 (Kd.R_lt (rR HO_3.out))) (kZ HB.out));replace HO_3:=mk0 (Kd.R_elder' (rR HO_3.out) (Kd.R_base ho30) hb);replace HB:=mk0 (kS HB.out hb);clear hb ho30;have q31:(x5_2:Int) ≤ ((x3_1.length:Int):Int):=of_decide_eq_true (by first|(with_reducible assumption)|assumption);obtain⟨i031,hi031,_,hsz31,_⟩:=info_parts info3;have hroom31:x3_1.length ≤ co7:=(Kd.R_reads' HO_3.out).2.1;have hC31:Kd.C (Kd.int .i64) _ Ao7 x3_1.length x3_1:=(Kd.R_reads' HO_3.out).2.2;have q031:(0:Int) ≤ (x5_2:Int):=of_decide_eq_true (by first|(with_reducible assumption)|assumption);have hcut31:=cut_from (P:=Try.prog) 48 3 .i64 Try.underlying48 hi031 1 hsz31 Ao7 x3_1.length co7 x5_2 q031 q31;have hr31:=Kd.C_drop (m:=(x5_2:Int).toNat) (c:=co7) hC31 (by omega) hroom31;obtain⟨A31,hA31⟩:∃ A1,A1 = (if co7 = (x5_2:Int).toNat then Ao7 else (Ao7:Option Addr).map (·.add ((x5_2:Int).toNat * 1))):=⟨_,rfl⟩;obtain⟨c31,hc31⟩:∃ c1,c1 = co7 - (x5_2:Int).toNat:=⟨_,rfl⟩;have hy31:y119.length = x3_1.length - (x5_2:Int).toNat:=(by rw [Ny119.out,List.length_drop] <;> omega);rw [show (x3_1).drop (x5_2:Int).toNat = y119 from Ny119.out.symm] at hr31;replace hr31:Kd.C (Kd.int .i64) _ A31 y119.length y119:=(by rw [hA31];exact hr31);rw [← hy31, ← hA31, ← hc31] at hcut31;have HR122:=mk0 hr31;have HC122:=mk0 (show y119.length ≤ c31 from by rw [hy31,hc31];exact Nat.sub_le_sub_right hroom31 _);clear hr31 hC31 hroom31 hi031 hsz31 hc31;have KY31:=mk0 hy31;have KA31:=mk0 hA31;clear hy31 hA31;have KL31:=mk0 (show (x5_2:Int).toNat ≤ x3_1.length from by omega);replace q31:=eq_true q31)|((with_reducible refine gate_builtin (b:=.append) (xs:=#[.tmp 43,.tmp 46]) rfl ?_);at_builtin;refine Kd.R_append_rows (Kd.int .i64) (w0:=w) w.heap.size rfl (.tmp 43) (.tmp 46) 48 3 (.int .i64 0) 8 rfl Try.underlying48 info3 rfl (by decide) (by omega) v117 y116 y119 _ _ _ (fun k_=>some k_ ≠ (.slice Ao7 x3_1.length co7:Value).ownBlock) (fun _=>False) rfl rfl ?aO ?aR (fun _ _ h=>h) (fun _ h=>h.elim) ?aF ?aB ?aS ?aL ?_;(case aR=>repeat (first|exact (by repeat (first|(with_reducible exact HR122.out)|(with_reducible first|apply aC|apply nC|apply dC)|exact HR122.out))|(with_reducible first|apply aC|apply nC|apply dC)));(case aB=>exact (kB HB.out));(case aF=>exact (fun k_ hk=>Kd.fresh' (Kd.R_lt (rR HO_3.out)) k_ hk));(case aO=>exact (rR (Kd.R_mono HO118.out (fun _ hk=>hk.2))));(case aS=>exact (kZ HB.out));(case aL=>have:=LMc24.out;omega);intro v124 w32 ho hb hg hat;rw [← Ny123.out] at ho;replace HB:=mk0 (hb);replace HR122:=mk0 ((show Kd.C (Kd.int .i64) w32 A31 y119.length y119 from by rw [Ny119.out,KA31.out];exact Kd.C_drop (m:=(x5_2:Int).toNat) (c:=co7) ((Kd.R_reads' (Kd.R_after (ok:=(fun _=>True)) (rR HO_3.out) hg hat)).2.2) KL31.out ((Kd.R_reads' (Kd.R_after (ok:=(fun _=>True)) (rR HO_3.out) hg hat)).2.1)));replace HO_3:=mk0 (Kd.R_after (ok:=(fun _=>True)) (rR HO_3.out) hg hat);have HO125:=mk0 (ho);clear HO118 ho hb hg hat)|((with_reducible refine gate_dst (N:=48) rfl ?_);refine Kd.R_lit (Kd.int .i64) _ 3 ?hg (N:=48) ?hd (xs:=([]:List Int)) (inner:=[]) (ok:=fun _=>True) (okp:=fun _=>True) ?hr ?hp (fun _ hk=>hk) trivial (Below.refl _ _) (Nat.le_refl _) (by simp) ?_;(case hd=>rfl);(case hg=>rfl);(case hr=>first|(go_simp;done)|(go_simp;rfl));(case hp=>exact (Reps.none _ _));intro v127 w33 ho34 hb hg_ hnew_;clear hg_ hnew_;(first|rw [← Ny126.out] at ho34|(simp only [Int.reduceToNat] at ho34;rw [← Ny126.out] at ho34));have HO128:=mk0 (Kd.R_lower (Kd.R_new' (Kd.R_new' ho34 (Kd.R_lt (rR HO_3.out))) (Kd.R_lt (rR HO125.out))) (kZ HB.out));replace HO_3:=mk0 (Kd.R_elder' (rR HO_3.out) (Kd.R_base ho34) hb);replace HO125:=mk0 (Kd.R_elder' (rR HO125.out) (Kd.R_base ho34) hb);replace HR122:=mk0 (Kd.C_below (by repeat (first|(with_reducible exact HR122.out)|(with_reducible first|apply aC|apply nC|apply dC)|exact HR122.out)) hb);replace HB:=mk0 (kS HB.out hb);clear hb ho34;have q35:(x5_2:Int) ≤ ((x3_1.length:Int):Int):=of_decide_eq_true (by first|(with_reducible assumption)|assumption);obtain⟨i035,hi035,_,hsz35,_⟩:=info_parts info3;have hroom35:x3_1.length ≤ co7:=(Kd.R_reads' HO_3.out).2.1;have hC35:Kd.C (Kd.int .i64) _ Ao7 x3_1.length x3_1:=(Kd.R_reads' HO_3.out).2.2;have hcut35:=cut_to (P:=Try.prog) 48 3 .i64 Try.underlying48 hi035 Ao7 x3_1.length co7 x5_2 (of_decide_eq_true (by first|(with_reducible assumption)|assumption)) q35 hroom35;have hr35:=Kd.C_take (m:=(x5_2:Int).toNat) hC35 (by omega);have hy35:y129.length = (x5_2:Int).toNat:=(by rw [Ny129.out,List.length_take];omega);rw [← Ny129.out] at hr35;rw [← hy35] at hcut35;have HR132:=mk0 hr35;have HC132:=mk0 (show y129.length ≤ co7 from by omega);clear hr35 hC35 hroom35 hi035 hsz35;have KY35:=mk0 hy35;clear hy35;have KL35:=mk0 (show (x5_2:Int).toNat ≤ x3_1.length from by omega);replace q35:=eq_true q35)|((with_reducible refine gate_builtin (b:=.append) (xs:=#[.tmp 48,.tmp 51]) rfl ?_);at_builtin;refine Kd.R_append_rows (Kd.int .i64) (w0:=w) w.heap.size rfl (.tmp 48) (.tmp 51) 48 3 (.int .i64 0) 8 rfl Try.underlying48 info3 rfl (by decide) (by omega) v127 y126 y129 _ _ _ (fun k_=>some k_ ≠ (.slice Ao7 x3_1.length co7:Value).ownBlock ∧ some k_ ≠ (v124:Value).ownBlock) (fun _=>False) rfl rfl ?aO ?aR (fun _ _ h=>h) (fun _ h=>h.elim) ?aF ?aB ?aS ?aL ?_;(case aR=>repeat (first|exact (by repeat (first|(with_reducible exact HR132.out)|(with_reducible first|apply aC|apply nC|apply dC)|exact HR132.out))|(with_reducible first|apply aC|apply nC|apply dC)));(case aB=>exact (kB HB.out));(case aF=>exact (fun k_ hk=>⟨Kd.fresh' (Kd.R_lt (rR HO_3.out)) k_ hk,Kd.fresh' (Kd.R_lt (rR HO125.out)) k_ hk⟩));(case aO=>exact (rR (Kd.R_mono HO128.out (fun _ hk=>⟨hk.1.2,hk.2⟩))));(case aS=>exact (kZ HB.out));(case aL=>have:=LMc27.out;omega);intro v134 w36 ho hb hg hat;rw [← Ny133.out] at ho;replace HO125:=mk0 (Kd.R_after (ok:=(fun k_=>some k_ ≠ (.slice Ao7 x3_1.length co7:Value).ownBlock)) (rR HO125.out) hg hat);replace HB:=mk0 (hb);replace HR122:=mk0 ((show Kd.C (Kd.int .i64) w36 A31 y119.length y119 from by rw [Ny119.out,KA31.out];exact Kd.C_drop (m:=(x5_2:Int).toNat) (c:=co7) ((Kd.R_reads' (Kd.R_after (ok:=(fun k_=>some k_ ≠ (v124:Value).ownBlock)) (rR (Kd.R_mono HO_3.out (fun _ hk=>⟨hk.1.2,hk.2⟩))) hg hat)).2.2) KL31.out ((Kd.R_reads' (Kd.R_after (ok:=(fun k_=>some k_ ≠ (v124:Value).ownBlock)) (rR (Kd.R_mono HO_3.out (fun _ hk=>⟨hk.1.2,hk.2⟩))) hg hat)).2.1)));replace HR132:=mk0 ((show Kd.C (Kd.int .i64) w36 Ao7 y129.length y129 from by rw [Ny129.out];exact Kd.C_take (m:=(x5_2:Int).toNat) ((Kd.R_reads' (Kd.R_after (ok:=(fun k_=>some k_ ≠ (v124:Value).ownBlock)) (rR (Kd.R_mono HO_3.out (fun _ hk=>⟨hk.1.2,hk.2⟩))) hg hat)).2.2) KL35.out));replace HO_3:=mk0 (Kd.R_after (ok:=(fun k_=>some k_ ≠ (v124:Value).ownBlock)) (rR (Kd.R_mono HO_3.out (fun _ hk=>⟨hk.1.2,hk.2⟩))) hg hat);have HO135:=mk0 (ho);clear HO128 ho hb hg hat;obtain⟨Ao38,co38,eo38⟩:=Kd.R_slice HO125.out;subst eo38)|((with_reducible refine gate_builtin (b:=.append) (xs:=#[.tmp 52,.tmp 53]) rfl ?_);at_builtin;refine Kd.R_append_rows (Kd.int .i64) (w0:=w) w.heap.size rfl (.tmp 52) (.tmp 53) 48 3 (.int .i64 0) 8 rfl Try.underlying48 info3 rfl (by decide) (by omega) v134 y133 y123 _ _ _ (fun k_=>some k_ ≠ (.slice Ao7 x3_1.length co7:Value).ownBlock ∧ some k_ ≠ (.slice Ao38 y123.length co38:Value).ownBlock) (fun _=>False) rfl rfl ?aO ?aR (fun _ _ h=>h) (fun _ h=>h.elim) ?aF ?aB ?aS ?aL ?_;(case aR=>repeat (first|exact (Kd.R_reads' HO125.out).2.2|(with_reducible first|apply aC|apply nC|apply dC)));(case aB=>exact (kB HB.out));(case aF=>exact (fun k_ hk=>⟨Kd.fresh' (Kd.R_lt (rR HO_3.out)) k_ hk,Kd.fresh' (Kd.R_lt (rR HO125.out)) k_ hk⟩));(case aO=>exact (rR HO135.out));(case aS=>exact (kZ HB.out));(case aL=>have:=LMc28.out;omega);intro v137 w37 ho hb hg hat;rw [← Ny136.out] at ho;replace HO125:=mk0 (Kd.R_after (ok:=(fun k_=>some k_ ≠ (.slice Ao7 x3_1.length co7:Value).ownBlock)) (rR HO125.out) hg hat);replace HB:=mk0 (hb);replace HR122:=mk0 ((show Kd.C (Kd.int .i64) w37 A31 y119.length y119 from by rw [Ny119.out,KA31.out];exact Kd.C_drop (m:=(x5_2:Int).toNat) (c:=co7) ((Kd.R_reads' (Kd.R_after (ok:=(fun k_=>some k_ ≠ (.slice Ao38 y123.length co38:Value).ownBlock)) (rR HO_3.out) hg hat)).2.2) KL31.out ((Kd.R_reads' (Kd.R_after (ok:=(fun k_=>some k_ ≠ (.slice Ao38 y123.length co38:Value).ownBlock)) (rR HO_3.out) hg hat)).2.1)));replace HR132:=mk0 ((show Kd.C (Kd.int .i64) w37 Ao7 y129.length y129 from by rw [Ny129.out];exact Kd.C_take (m:=(x5_2:Int).toNat) ((Kd.R_reads' (Kd.R_after (ok:=(fun k_=>some k_ ≠ (.slice Ao38 y123.length co38:Value).ownBlock)) (rR HO_3.out) hg hat)).2.2) KL35.out));replace HO_3:=mk0 (Kd.R_after (ok:=(fun k_=>some k_ ≠ (.slice Ao38 y123.length co38:Value).ownBlock)) (rR HO_3.out) hg hat);have HO138:=mk0 (ho);clear HO135 ho hb hg hat))
     repeat (go_quiet (first|((with_reducible refine gate_dst (N:=43) rfl ?_);refine Kd.R_lit (Kd.int .i64) _ 3 ?hg (N:=43) ?hd (xs:=([x4_1]:List Int)) (inner:=[.int .i64 x4_1]) (ok:=fun _=>True) (okp:=fun _=>True) ?hr ?hp (fun _ hk=>hk) trivial (Below.refl _ _) (Nat.le_refl _) (by simp) ?_;(case hd=>rfl);(case hg=>rfl);(case hr=>first|(go_simp;done)|(go_simp;rfl));(case hp=>exact (Reps.one (show Kd.M (Kd.int .i64) _ _ _ x4_1 [.int .i64 x4_1] from rfl) (Reps.none _ _)));intro v117 w29 ho30 hb hg_ hnew_;clear hg_ hnew_;(first|rw [← Ny116.out] at ho30|(simp only [Int.reduceToNat] at ho30;rw [← Ny116.out] at ho30));have HO118:=mk0 (Kd.R_lower (Kd.R_new' ho30 (Kd.R_lt (rR HO_3.out))) (kZ HB.out));replace HO_3:=mk0 (Kd.R_elder' (rR HO_3.out) (Kd.R_base ho30) hb);replace HB:=mk0 (kS HB.out hb);clear hb ho30;have q31:(x5_2:Int) ≤ ((x3_1.length:Int):Int):=of_decide_eq_true (by first|(with_reducible assumption)|assumption);obtain⟨i031,hi031,_,hsz31,_⟩:=info_parts info3;have hroom31:x3_1.length ≤ co7:=(Kd.R_reads' HO_3.out).2.1;have hC31:Kd.C (Kd.int .i64) _ Ao7 x3_1.length x3_1:=(Kd.R_reads' HO_3.out).2.2;have q031:(0:Int) ≤ (x5_2:Int):=of_decide_eq_true (by first|(with_reducible assumption)|assumption);have hcut31:=cut_from (P:=Try.prog) 48 3 .i64 Try.underlying48 hi031 1 hsz31 Ao7 x3_1.length co7 x5_2 q031 q31;have hr31:=Kd.C_drop (m:=(x5_2:Int).toNat) (c:=co7) hC31 (by omega) hroom31;obtain⟨A31,hA31⟩:∃ A1,A1 = (if co7 = (x5_2:Int).toNat then Ao7 else (Ao7:Option Addr).map (·.add ((x5_2:Int).toNat * 1))):=⟨_,rfl⟩;obtain⟨c31,hc31⟩:∃ c1,c1 = co7 - (x5_2:Int).toNat:=⟨_,rfl⟩;have hy31:y119.length = x3_1.length - (x5_2:Int).toNat:=(by rw [Ny119.out,List.length_drop] <;> omega);rw [show (x3_1).drop (x5_2:Int).toNat = y119 from Ny119.out.symm] at hr31;replace hr31:Kd.C (Kd.int .i64) _ A31 y119.length y119:=(by rw [hA31];exact hr31);rw [← hy31, ← hA31, ← hc31] at hcut31;have HR122:=mk0 hr31;have HC122:=mk0 (show y119.length ≤ c31 from by rw [hy31,hc31];exact Nat.sub_le_sub_right hroom31 _);clear hr31 hC31 hroom31 hi031 hsz31 hc31;have KY31:=mk0 hy31;have KA31:=mk0 hA31;clear hy31 hA31;have KL31:=mk0 (show (x5_2:Int).toNat ≤ x3_1.length from by omega);replace q31:=eq_true q31)|((with_reducible refine gate_builtin (b:=.append) (xs:=#[.tmp 43,.tmp 46]) rfl ?_);at_builtin;refine Kd.R_append_rows (Kd.int .i64) (w0:=w) w.heap.size rfl (.tmp 43) (.tmp 46) 48 3 (.int .i64 0) 8 rfl Try.underlying48 info3 rfl (by decide) (by omega) v117 y116 y119 _ _ _ (fun k_=>some k_ ≠ (.slice Ao7 x3_1.length co7:Value).ownBlock) (fun _=>False) rfl rfl ?aO ?aR (fun _ _ h=>h) (fun _ h=>h.elim) ?aF ?aB ?aS ?aL ?_;(case aR=>repeat (first|exact (by repeat (first|(with_reducible exact HR122.out)|(with_reducible first|apply aC|apply nC|apply dC)|exact HR122.out))|(with_reducible first|apply aC|apply nC|apply dC)));(case aB=>exact (kB HB.out));(case aF=>exact (fun k_ hk=>Kd.fresh' (Kd.R_lt (rR HO_3.out)) k_ hk));(case aO=>exact (rR (Kd.R_mono HO118.out (fun _ hk=>hk.2))));(case aS=>exact (kZ HB.out));(case aL=>have:=LMc24.out;omega);intro v124 w32 ho hb hg hat;rw [← Ny123.out] at ho;replace HB:=mk0 (hb);replace HR122:=mk0 ((show Kd.C (Kd.int .i64) w32 A31 y119.length y119 from by rw [Ny119.out,KA31.out];exact Kd.C_drop (m:=(x5_2:Int).toNat) (c:=co7) ((Kd.R_reads' (Kd.R_after (ok:=(fun _=>True)) (rR HO_3.out) hg hat)).2.2) KL31.out ((Kd.R_reads' (Kd.R_after (ok:=(fun _=>True)) (rR HO_3.out) hg hat)).2.1)));replace HO_3:=mk0 (Kd.R_after (ok:=(fun _=>True)) (rR HO_3.out) hg hat);have HO125:=mk0 (ho);clear HO118 ho hb hg hat)|((with_reducible refine gate_dst (N:=48) rfl ?_);refine Kd.R_lit (Kd.int .i64) _ 3 ?hg (N:=48) ?hd (xs:=([]:List Int)) (inner:=[]) (ok:=fun _=>True) (okp:=fun _=>True) ?hr ?hp (fun _ hk=>hk) trivial (Below.refl _ _) (Nat.le_refl _) (by simp) ?_;(case hd=>rfl);(case hg=>rfl);(case hr=>first|(go_simp;done)|(go_simp;rfl));(case hp=>exact (Reps.none _ _));intro v127 w33 ho34 hb hg_ hnew_;clear hg_ hnew_;(first|rw [← Ny126.out] at ho34|(simp only [Int.reduceToNat] at ho34;rw [← Ny126.out] at ho34));have HO128:=mk0 (Kd.R_lower (Kd.R_new' (Kd.R_new' ho34 (Kd.R_lt (rR HO_3.out))) (Kd.R_lt (rR HO125.out))) (kZ HB.out));replace HO_3:=mk0 (Kd.R_elder' (rR HO_3.out) (Kd.R_base ho34) hb);replace HO125:=mk0 (Kd.R_elder' (rR HO125.out) (Kd.R_base ho34) hb);replace HR122:=mk0 (Kd.C_below (by repeat (first|(with_reducible exact HR122.out)|(with_reducible first|apply aC|apply nC|apply dC)|exact HR122.out)) hb);replace HB:=mk0 (kS HB.out hb);clear hb ho34;have q35:(x5_2:Int) ≤ ((x3_1.length:Int):Int):=of_decide_eq_true (by first|(with_reducible assumption)|assumption);obtain⟨i035,hi035,_,hsz35,_⟩:=info_parts info3;have hroom35:x3_1.length ≤ co7:=(Kd.R_reads' HO_3.out).2.1;have hC35:Kd.C (Kd.int .i64) _ Ao7 x3_1.length x3_1:=(Kd.R_reads' HO_3.out).2.2;have hcut35:=cut_to (P:=Try.prog) 48 3 .i64 Try.underlying48 hi035 Ao7 x3_1.length co7 x5_2 (of_decide_eq_true (by first|(with_reducible assumption)|assumption)) q35 hroom35;have hr35:=Kd.C_take (m:=(x5_2:Int).toNat) hC35 (by omega);have hy35:y129.length = (x5_2:Int).toNat:=(by rw [Ny129.out,List.length_take];omega);rw [← Ny129.out] at hr35;rw [← hy35] at hcut35;have HR132:=mk0 hr35;have HC132:=mk0 (show y129.length ≤ co7 from by omega);clear hr35 hC35 hroom35 hi035 hsz35;have KY35:=mk0 hy35;clear hy35;have KL35:=mk0 (show (x5_2:Int).toNat ≤ x3_1.length from by omega);replace q35:=eq_true q35)|((with_reducible refine gate_builtin (b:=.append) (xs:=#[.tmp 48,.tmp 51]) rfl ?_);at_builtin;refine Kd.R_append_rows (Kd.int .i64) (w0:=w) w.heap.size rfl (.tmp 48) (.tmp 51) 48 3 (.int .i64 0) 8 rfl Try.underlying48 info3 rfl (by decide) (by omega) v127 y126 y129 _ _ _ (fun k_=>some k_ ≠ (.slice Ao7 x3_1.length co7:Value).ownBlock ∧ some k_ ≠ (v124:Value).ownBlock) (fun _=>False) rfl rfl ?aO ?aR (fun _ _ h=>h) (fun _ h=>h.elim) ?aF ?aB ?aS ?aL ?_;(case aR=>repeat (first|exact (by repeat (first|(with_reducible exact HR132.out)|(with_reducible first|apply aC|apply nC|apply dC)|exact HR132.out))|(with_reducible first|apply aC|apply nC|apply dC)));(case aB=>exact (kB HB.out));(case aF=>exact (fun k_ hk=>⟨Kd.fresh' (Kd.R_lt (rR HO_3.out)) k_ hk,Kd.fresh' (Kd.R_lt (rR HO125.out)) k_ hk⟩));(case aO=>exact (rR (Kd.R_mono HO128.out (fun _ hk=>⟨hk.1.2,hk.2⟩))));(case aS=>exact (kZ HB.out));(case aL=>have:=LMc27.out;omega);intro v134 w36 ho hb hg hat;rw [← Ny133.out] at ho;replace HO125:=mk0 (Kd.R_after (ok:=(fun k_=>some k_ ≠ (.slice Ao7 x3_1.length co7:Value).ownBlock)) (rR HO125.out) hg hat);replace HB:=mk0 (hb);replace HR122:=mk0 ((show Kd.C (Kd.int .i64) w36 A31 y119.length y119 from by rw [Ny119.out,KA31.out];exact Kd.C_drop (m:=(x5_2:Int).toNat) (c:=co7) ((Kd.R_reads' (Kd.R_after (ok:=(fun k_=>some k_ ≠ (v124:Value).ownBlock)) (rR (Kd.R_mono HO_3.out (fun _ hk=>⟨hk.1.2,hk.2⟩))) hg hat)).2.2) KL31.out ((Kd.R_reads' (Kd.R_after (ok:=(fun k_=>some k_ ≠ (v124:Value).ownBlock)) (rR (Kd.R_mono HO_3.out (fun _ hk=>⟨hk.1.2,hk.2⟩))) hg hat)).2.1)));replace HR132:=mk0 ((show Kd.C (Kd.int .i64) w36 Ao7 y129.length y129 from by rw [Ny129.out];exact Kd.C_take (m:=(x5_2:Int).toNat) ((Kd.R_reads' (Kd.R_after (ok:=(fun k_=>some k_ ≠ (v124:Value).ownBlock)) (rR (Kd.R_mono HO_3.out (fun _ hk=>⟨hk.1.2,hk.2⟩))) hg hat)).2.2) KL35.out));replace HO_3:=mk0 (Kd.R_after (ok:=(fun k_=>some k_ ≠ (v124:Value).ownBlock)) (rR (Kd.R_mono HO_3.out (fun _ hk=>⟨hk.1.2,hk.2⟩))) hg hat);have HO135:=mk0 (ho);clear HO128 ho hb hg hat;obtain⟨Ao38,co38,eo38⟩:=Kd.R_slice HO125.out;subst eo38)|((with_reducible refine gate_builtin (b:=.append) (xs:=#[.tmp 52,.tmp 53]) rfl ?_);at_builtin;refine Kd.R_append_rows (Kd.int .i64) (w0:=w) w.heap.size rfl (.tmp 52) (.tmp 53) 48 3 (.int .i64 0) 8 rfl Try.underlying48 info3 rfl (by decide) (by omega) v134 y133 y123 _ _ _ (fun k_=>some k_ ≠ (.slice Ao7 x3_1.length co7:Value).ownBlock ∧ some k_ ≠ (.slice Ao38 y123.length co38:Value).ownBlock) (fun _=>False) rfl rfl ?aO ?aR (fun _ _ h=>h) (fun _ h=>h.elim) ?aF ?aB ?aS ?aL ?_;(case aR=>repeat (first|exact (Kd.R_reads' HO125.out).2.2|(with_reducible first|apply aC|apply nC|apply dC)));(case aB=>exact (kB HB.out));(case aF=>exact (fun k_ hk=>⟨Kd.fresh' (Kd.R_lt (rR HO_3.out)) k_ hk,Kd.fresh' (Kd.R_lt (rR HO125.out)) k_ hk⟩));(case aO=>exact (rR HO135.out));(case aS=>exact (kZ HB.out));(case aL=>have:=LMc28.out;omega);intro v137 w37 ho hb hg hat;rw [← Ny136.out] at ho;replace HO125:=mk0 (Kd.R_after (ok:=(fun k_=>some k_ ≠ (.slice Ao7 x3_1.length co7:Value).ownBlock)) (rR HO125.out) hg hat);replace HB:=mk0 (hb);replace HR122:=mk0 ((show Kd.C (Kd.int .i64) w37 A31 y119.length y119 from by rw [Ny119.out,KA31.out];exact Kd.C_drop (m:=(x5_2:Int).toNat) (c:=co7) ((Kd.R_reads' (Kd.R_after (ok:=(fun k_=>some k_ ≠ (.slice Ao38 y123.length co38:Value).ownBlock)) (rR HO_3.out) hg hat)).2.2) KL31.out ((Kd.R_reads' (Kd.R_after (ok:=(fun k_=>some k_ ≠ (.slice Ao38 y123.length co38:Value).ownBlock)) (rR HO_3.out) hg hat)).2.1)));replace HR132:=mk0 ((show Kd.C (Kd.int .i64) w37 Ao7 y129.length y129 from by rw [Ny129.out];exact Kd.C_take (m:=(x5_2:Int).toNat) ((Kd.R_reads' (Kd.R_after (ok:=(fun k_=>some k_ ≠ (.slice Ao38 y123.length co38:Value).ownBlock)) (rR HO_3.out) hg hat)).2.2) KL35.out));replace HO_3:=mk0 (Kd.R_after (ok:=(fun k_=>some k_ ≠ (.slice Ao38 y123.length co38:Value).ownBlock)) (rR HO_3.out) hg hat);have HO138:=mk0 (ho);clear HO135 ho hb hg hat));try go_wp2_with (first|((with_reducible refine gate_dst (N:=43) rfl ?_);refine Kd.R_lit (Kd.int .i64) _ 3 ?hg (N:=43) ?hd (xs:=([x4_1]:List Int)) (inner:=[.int .i64 x4_1]) (ok:=fun _=>True) (okp:=fun _=>True) ?hr ?hp (fun _ hk=>hk) trivial (Below.refl _ _) (Nat.le_refl _) (by simp) ?_;(case hd=>rfl);(case hg=>rfl);(case hr=>first|(go_simp;done)|(go_simp;rfl));(case hp=>exact (Reps.one (show Kd.M (Kd.int .i64) _ _ _ x4_1 [.int .i64 x4_1] from rfl) (Reps.none _ _)));intro v117 w29 ho30 hb hg_ hnew_;clear hg_ hnew_;(first|rw [← Ny116.out] at ho30|(simp only [Int.reduceToNat] at ho30;rw [← Ny116.out] at ho30));have HO118:=mk0 (Kd.R_lower (Kd.R_new' ho30 (Kd.R_lt (rR HO_3.out))) (kZ HB.out));replace HO_3:=mk0 (Kd.R_elder' (rR HO_3.out) (Kd.R_base ho30) hb);replace HB:=mk0 (kS HB.out hb);clear hb ho30;have q31:(x5_2:Int) ≤ ((x3_1.length:Int):Int):=of_decide_eq_true (by first|(with_reducible assumption)|assumption);obtain⟨i031,hi031,_,hsz31,_⟩:=info_parts info3;have hroom31:x3_1.length ≤ co7:=(Kd.R_reads' HO_3.out).2.1;have hC31:Kd.C (Kd.int .i64) _ Ao7 x3_1.length x3_1:=(Kd.R_reads' HO_3.out).2.2;have q031:(0:Int) ≤ (x5_2:Int):=of_decide_eq_true (by first|(with_reducible assumption)|assumption);have hcut31:=cut_from (P:=Try.prog) 48 3 .i64 Try.underlying48 hi031 1 hsz31 Ao7 x3_1.length co7 x5_2 q031 q31;have hr31:=Kd.C_drop (m:=(x5_2:Int).toNat) (c:=co7) hC31 (by omega) hroom31;obtain⟨A31,hA31⟩:∃ A1,A1 = (if co7 = (x5_2:Int).toNat then Ao7 else (Ao7:Option Addr).map (·.add ((x5_2:Int).toNat * 1))):=⟨_,rfl⟩;obtain⟨c31,hc31⟩:∃ c1,c1 = co7 - (x5_2:Int).toNat:=⟨_,rfl⟩;have hy31:y119.length = x3_1.length - (x5_2:Int).toNat:=(by rw [Ny119.out,List.length_drop] <;> omega);rw [show (x3_1).drop (x5_2:Int).toNat = y119 from Ny119.out.symm] at hr31;replace hr31:Kd.C (Kd.int .i64) _ A31 y119.length y119:=(by rw [hA31];exact hr31);rw [← hy31, ← hA31, ← hc31] at hcut31;have HR122:=mk0 hr31;have HC122:=mk0 (show y119.length ≤ c31 from by rw [hy31,hc31];exact Nat.sub_le_sub_right hroom31 _);clear hr31 hC31 hroom31 hi031 hsz31 hc31;have KY31:=mk0 hy31;have KA31:=mk0 hA31;clear hy31 hA31;have KL31:=mk0 (show (x5_2:Int).toNat ≤ x3_1.length from by omega);replace q31:=eq_true q31)|((with_reducible refine gate_builtin (b:=.append) (xs:=#[.tmp 43,.tmp 46]) rfl ?_);at_builtin;refine Kd.R_append_rows (Kd.int .i64) (w0:=w) w.heap.size rfl (.tmp 43) (.tmp 46) 48 3 (.int .i64 0) 8 rfl Try.underlying48 info3 rfl (by decide) (by omega) v117 y116 y119 _ _ _ (fun k_=>some k_ ≠ (.slice Ao7 x3_1.length co7:Value).ownBlock) (fun _=>False) rfl rfl ?aO ?aR (fun _ _ h=>h) (fun _ h=>h.elim) ?aF ?aB ?aS ?aL ?_;(case aR=>repeat (first|exact (by repeat (first|(with_reducible exact HR122.out)|(with_reducible first|apply aC|apply nC|apply dC)|exact HR122.out))|(with_reducible first|apply aC|apply nC|apply dC)));(case aB=>exact (kB HB.out));(case aF=>exact (fun k_ hk=>Kd.fresh' (Kd.R_lt (rR HO_3.out)) k_ hk));(case aO=>exact (rR (Kd.R_mono HO118.out (fun _ hk=>hk.2))));(case aS=>exact (kZ HB.out));(case aL=>have:=LMc24.out;omega);intro v124 w32 ho hb hg hat;rw [← Ny123.out] at ho;replace HB:=mk0 (hb);replace HR122:=mk0 ((show Kd.C (Kd.int .i64) w32 A31 y119.length y119 from by rw [Ny119.out,KA31.out];exact Kd.C_drop (m:=(x5_2:Int).toNat) (c:=co7) ((Kd.R_reads' (Kd.R_after (ok:=(fun _=>True)) (rR HO_3.out) hg hat)).2.2) KL31.out ((Kd.R_reads' (Kd.R_after (ok:=(fun _=>True)) (rR HO_3.out) hg hat)).2.1)));replace HO_3:=mk0 (Kd.R_after (ok:=(fun _=>True)) (rR HO_3.out) hg hat);have HO125:=mk0 (ho);clear HO118 ho hb hg hat)|((with_reducible refine gate_dst (N:=48) rfl ?_);refine Kd.R_lit (Kd.int .i64) _ 3 ?hg (N:=48) ?hd (xs:=([]:List Int)) (inner:=[]) (ok:=fun _=>True) (okp:=fun _=>True) ?hr ?hp (fun _ hk=>hk) trivial (Below.refl _ _) (Nat.le_refl _) (by simp) ?_;(case hd=>rfl);(case hg=>rfl);(case hr=>first|(go_simp;done)|(go_simp;rfl));(case hp=>exact (Reps.none _ _));intro v127 w33 ho34 hb hg_ hnew_;clear hg_ hnew_;(first|rw [← Ny126.out] at ho34|(simp only [Int.reduceToNat] at ho34;rw [← Ny126.out] at ho34));have HO128:=mk0 (Kd.R_lower (Kd.R_new' (Kd.R_new' ho34 (Kd.R_lt (rR HO_3.out))) (Kd.R_lt (rR HO125.out))) (kZ HB.out));replace HO_3:=mk0 (Kd.R_elder' (rR HO_3.out) (Kd.R_base ho34) hb);replace HO125:=mk0 (Kd.R_elder' (rR HO125.out) (Kd.R_base ho34) hb);replace HR122:=mk0 (Kd.C_below (by repeat (first|(with_reducible exact HR122.out)|(with_reducible first|apply aC|apply nC|apply dC)|exact HR122.out)) hb);replace HB:=mk0 (kS HB.out hb);clear hb ho34;have q35:(x5_2:Int) ≤ ((x3_1.length:Int):Int):=of_decide_eq_true (by first|(with_reducible assumption)|assumption);obtain⟨i035,hi035,_,hsz35,_⟩:=info_parts info3;have hroom35:x3_1.length ≤ co7:=(Kd.R_reads' HO_3.out).2.1;have hC35:Kd.C (Kd.int .i64) _ Ao7 x3_1.length x3_1:=(Kd.R_reads' HO_3.out).2.2;have hcut35:=cut_to (P:=Try.prog) 48 3 .i64 Try.underlying48 hi035 Ao7 x3_1.length co7 x5_2 (of_decide_eq_true (by first|(with_reducible assumption)|assumption)) q35 hroom35;have hr35:=Kd.C_take (m:=(x5_2:Int).toNat) hC35 (by omega);have hy35:y129.length = (x5_2:Int).toNat:=(by rw [Ny129.out,List.length_take];omega);rw [← Ny129.out] at hr35;rw [← hy35] at hcut35;have HR132:=mk0 hr35;have HC132:=mk0 (show y129.length ≤ co7 from by omega);clear hr35 hC35 hroom35 hi035 hsz35;have KY35:=mk0 hy35;clear hy35;have KL35:=mk0 (show (x5_2:Int).toNat ≤ x3_1.length from by omega);replace q35:=eq_true q35)|((with_reducible refine gate_builtin (b:=.append) (xs:=#[.tmp 48,.tmp 51]) rfl ?_);at_builtin;refine Kd.R_append_rows (Kd.int .i64) (w0:=w) w.heap.size rfl (.tmp 48) (.tmp 51) 48 3 (.int .i64 0) 8 rfl Try.underlying48 info3 rfl (by decide) (by omega) v127 y126 y129 _ _ _ (fun k_=>some k_ ≠ (.slice Ao7 x3_1.length co7:Value).ownBlock ∧ some k_ ≠ (v124:Value).ownBlock) (fun _=>False) rfl rfl ?aO ?aR (fun _ _ h=>h) (fun _ h=>h.elim) ?aF ?aB ?aS ?aL ?_;(case aR=>repeat (first|exact (by repeat (first|(with_reducible exact HR132.out)|(with_reducible first|apply aC|apply nC|apply dC)|exact HR132.out))|(with_reducible first|apply aC|apply nC|apply dC)));(case aB=>exact (kB HB.out));(case aF=>exact (fun k_ hk=>⟨Kd.fresh' (Kd.R_lt (rR HO_3.out)) k_ hk,Kd.fresh' (Kd.R_lt (rR HO125.out)) k_ hk⟩));(case aO=>exact (rR (Kd.R_mono HO128.out (fun _ hk=>⟨hk.1.2,hk.2⟩))));(case aS=>exact (kZ HB.out));(case aL=>have:=LMc27.out;omega);intro v134 w36 ho hb hg hat;rw [← Ny133.out] at ho;replace HO125:=mk0 (Kd.R_after (ok:=(fun k_=>some k_ ≠ (.slice Ao7 x3_1.length co7:Value).ownBlock)) (rR HO125.out) hg hat);replace HB:=mk0 (hb);replace HR122:=mk0 ((show Kd.C (Kd.int .i64) w36 A31 y119.length y119 from by rw [Ny119.out,KA31.out];exact Kd.C_drop (m:=(x5_2:Int).toNat) (c:=co7) ((Kd.R_reads' (Kd.R_after (ok:=(fun k_=>some k_ ≠ (v124:Value).ownBlock)) (rR (Kd.R_mono HO_3.out (fun _ hk=>⟨hk.1.2,hk.2⟩))) hg hat)).2.2) KL31.out ((Kd.R_reads' (Kd.R_after (ok:=(fun k_=>some k_ ≠ (v124:Value).ownBlock)) (rR (Kd.R_mono HO_3.out (fun _ hk=>⟨hk.1.2,hk.2⟩))) hg hat)).2.1)));replace HR132:=mk0 ((show Kd.C (Kd.int .i64) w36 Ao7 y129.length y129 from by rw [Ny129.out];exact Kd.C_take (m:=(x5_2:Int).toNat) ((Kd.R_reads' (Kd.R_after (ok:=(fun k_=>some k_ ≠ (v124:Value).ownBlock)) (rR (Kd.R_mono HO_3.out (fun _ hk=>⟨hk.1.2,hk.2⟩))) hg hat)).2.2) KL35.out));replace HO_3:=mk0 (Kd.R_after (ok:=(fun k_=>some k_ ≠ (v124:Value).ownBlock)) (rR (Kd.R_mono HO_3.out (fun _ hk=>⟨hk.1.2,hk.2⟩))) hg hat);have HO135:=mk0 (ho);clear HO128 ho hb hg hat;obtain⟨Ao38,co38,eo38⟩:=Kd.R_slice HO125.out;subst eo38)|((with_reducible refine gate_builtin (b:=.append) (xs:=#[.tmp 52,.tmp 53]) rfl ?_);at_builtin;refine Kd.R_append_rows (Kd.int .i64) (w0:=w) w.heap.size rfl (.tmp 52) (.tmp 53) 48 3 (.int .i64 0) 8 rfl Try.underlying48 info3 rfl (by decide) (by omega) v134 y133 y123 _ _ _ (fun k_=>some k_ ≠ (.slice Ao7 x3_1.length co7:Value).ownBlock ∧ some k_ ≠ (.slice Ao38 y123.length co38:Value).ownBlock) (fun _=>False) rfl rfl ?aO ?aR (fun _ _ h=>h) (fun _ h=>h.elim) ?aF ?aB ?aS ?aL ?_;(case aR=>repeat (first|exact (Kd.R_reads' HO125.out).2.2|(with_reducible first|apply aC|apply nC|apply dC)));(case aB=>exact (kB HB.out));(case aF=>exact (fun k_ hk=>⟨Kd.fresh' (Kd.R_lt (rR HO_3.out)) k_ hk,Kd.fresh' (Kd.R_lt (rR HO125.out)) k_ hk⟩));(case aO=>exact (rR HO135.out));(case aS=>exact (kZ HB.out));(case aL=>have:=LMc28.out;omega);intro v137 w37 ho hb hg hat;rw [← Ny136.out] at ho;replace HO125:=mk0 (Kd.R_after (ok:=(fun k_=>some k_ ≠ (.slice Ao7 x3_1.length co7:Value).ownBlock)) (rR HO125.out) hg hat);replace HB:=mk0 (hb);replace HR122:=mk0 ((show Kd.C (Kd.int .i64) w37 A31 y119.length y119 from by rw [Ny119.out,KA31.out];exact Kd.C_drop (m:=(x5_2:Int).toNat) (c:=co7) ((Kd.R_reads' (Kd.R_after (ok:=(fun k_=>some k_ ≠ (.slice Ao38 y123.length co38:Value).ownBlock)) (rR HO_3.out) hg hat)).2.2) KL31.out ((Kd.R_reads' (Kd.R_after (ok:=(fun k_=>some k_ ≠ (.slice Ao38 y123.length co38:Value).ownBlock)) (rR HO_3.out) hg hat)).2.1)));replace HR132:=mk0 ((show Kd.C (Kd.int .i64) w37 Ao7 y129.length y129 from by rw [Ny129.out];exact Kd.C_take (m:=(x5_2:Int).toNat) ((Kd.R_reads' (Kd.R_after (ok:=(fun k_=>some k_ ≠ (.slice Ao38 y123.length co38:Value).ownBlock)) (rR HO_3.out) hg hat)).2.2) KL35.out));replace HO_3:=mk0 (Kd.R_after (ok:=(fun k_=>some k_ ≠ (.slice Ao38 y123.length co38:Value).ownBlock)) (rR HO_3.out) hg hat);have HO138:=mk0 (ho);clear HO135 ho hb hg hat)))
     go_roundg k2
     case measure=>have:=HK1.out;have:=HK2.out;omega
     case rel=>exact⟨(y136),(wrap64 (x4_1 - 1)),(by first|rfl|(simp;done)|(simp [*];done)),H',⟨by have:=HK1.out;have:=HK2.out;omega⟩,⟨rR (Kd.R_mono HO138.out (fun _ hk=>trivial))⟩,⟨kB HB.out⟩⟩
/-! ### spec_l05Common: function 49 -/
mutual
def spec_l05Common.l0 : Nat → List Int → List Int → Int → Option (Int)
 | 0, _, _, _ => none
 | k + 1, x0, x1, x5 => if x5 < (x0.length : Int) then (if x5 < (x1.length : Int) then (if 0 ≤ x5 then (spec_l05Common.j1 k x0 x1 x5 ((rd x0 x5) == (rd x1 x5))) else (none)) else (spec_l05Common.j1 k x0 x1 x5 false)) else (spec_l05Common.j1 k x0 x1 x5 false)
def spec_l05Common.j1 : Nat → List Int → List Int → Int → Bool → Option (Int)
 | 0, _, _, _, _ => none
 | k + 1, x0, x1, x5, x26 => if x26 = true then (spec_l05Common.l0 k x0 x1 (wrap64 (x5 + 1))) else (some x5)
end
def spec_l05Common.f (k : Nat) (l0 : List Int) (l1 : List Int) : Option (Int) := spec_l05Common.l0 k l0 l1 0
theorem spec_l05Common.mono_l : ∀ k, (∀ y0 y1 y2, LeO (spec_l05Common.l0 k y0 y1 y2) (spec_l05Common.l0 (k + 1) y0 y1 y2)) ∧ (∀ y0 y1 y2 y3, LeO (spec_l05Common.j1 k y0 y1 y2 y3) (spec_l05Common.j1 (k + 1) y0 y1 y2 y3))
 | 0 => ⟨fun _ _ _ r h => by simp [spec_l05Common.l0] at h, fun _ _ _ _ r h => by simp [spec_l05Common.j1] at h⟩
 | k + 1 => by
  obtain ⟨ih0, ih1⟩ := spec_l05Common.mono_l k
  refine ⟨?_, ?_⟩
  ·intro y0 y1 y2
   unfold spec_l05Common.l0
   repeat' first|(with_reducible first|exact ih0 _ _ _|exact ih1 _ _ _ _|exact LeO.refl _|exact LeO.none _|refine LeO.ite ?_ ?_|refine LeO.bind ?_ (fun _ => ?_))|exact LeO.none _|refine LeO.ite ?_ ?_|refine LeO.bind ?_ (fun _ => ?_)
  ·intro y0 y1 y2 y3
   unfold spec_l05Common.j1
   repeat' first|(with_reducible first|exact ih0 _ _ _|exact ih1 _ _ _ _|exact LeO.refl _|exact LeO.none _|refine LeO.ite ?_ ?_|refine LeO.bind ?_ (fun _ => ?_))|exact LeO.none _|refine LeO.ite ?_ ?_|refine LeO.bind ?_ (fun _ => ?_)
theorem spec_l05Common.mono : ∀ a0 a1 k, LeO (spec_l05Common.f k a0 a1) (spec_l05Common.f (k + 1) a0 a1) := by
 intro a0 a1 k
 obtain ⟨ih0, ih1⟩ := spec_l05Common.mono_l k
 unfold spec_l05Common.f
 repeat' first|(with_reducible first|exact ih0 _ _ _|exact ih1 _ _ _ _|exact LeO.refl _|exact LeO.none _|refine LeO.ite ?_ ?_|refine LeO.bind ?_ (fun _ => ?_))|exact LeO.none _|refine LeO.ite ?_ ?_|refine LeO.bind ?_ (fun _ => ?_)
set_option maxHeartbeats 8000000 in
set_option maxRecDepth 100000 in
theorem spec_l05Common.calls (k : Nat) (A0 : Option Addr) (c0 : Nat) (l0 : List Int) (A1 : Option Addr) (c1 : Nat) (l1 : List Int) (r : Int) (w : World) (hr0 : Kd.C (Kd.int .u8) w A0 l0.length l0) (hc0 : l0.length ≤ c0) (hr1 : Kd.C (Kd.int .u8) w A1 l1.length l1) (hc1 : l1.length ≤ c1) (h : spec_l05Common.f k l0 l1 = some r) :
  Calls Try.prog 49 #[.slice A0 l0.length c0, .slice A1 l1.length c1] w fun e w' => e = .returned (.int .i64 r) ∧ Drawn0 w w' := by
 have HR0:=mk0 hr0
 have HC0:=mk0 hc0
 clear hr0 hc0
 have HR1:=mk0 hr1
 have HC1:=mk0 hc1
 clear hr1 hc1
 have H:(spec_l05Common.l0 k l0 l1 0) = some r:=h
 clear h
 have H':=mk0 H
 clear H
 go_enter Try.func49,Try.ntmps49
 go_wp2
 repeat (go_quiet (fail);try go_wp2)
 go_loopg [5] k (fun kq v5 w'=>∃ (x5_1:Int),v5 = .int .i64 x5_1 ∧ Aside0 (spec_l05Common.l0 kq l0 l1 x5_1 = some r) ∧ Aside0 (kq ≤ k) ∧ Drawn0 w w')
 case atStart=>exact⟨(0),(by first|rfl|(simp;done)|(simp [*];done)),H',⟨Nat.le_refl _⟩,by repeat (first|exact Drawn0.refl _|apply Drawn0.step)⟩
 case round =>
  clear H'
  try clear c1
  try clear p2
  obtain⟨x5_1,rfl,HA,HK1,⟨m1,rfl⟩⟩:=hrel
  cases gk with
  | zero=>exact absurd HA.out (by simp [spec_l05Common.l0])
  | succ k1 =>
   have H:=HA.out
   clear HA
   simp only [spec_l05Common.l0] at H
   have HC3:=mk0 H
   clear H
   go_upto_region 2 with (fail)
   repeat (go_quiet (fail);go_upto_region 2 with (fail))
   go_cut [26] (fun v26 wc=>∃ (kq:Nat) (x26_2:Bool),v26 = .bool x26_2 ∧ Aside0 (spec_l05Common.j1 kq l0 l1 x5_1 x26_2 = some r) ∧ Aside0 (kq ≤ k1) ∧ Drawn0 w wc)
   case first =>
    have H:=HC3.out
    clear HC3
    by_cases c4:x5_1 < (l0.length:Int)
    ·rw [if_pos c4] at H
     have c4b0:decide (x5_1 < (l0.length:Int)) = true:=decide_eq_true c4
     clear c4
     (first|rw [c4b0]|(simp only [i64_w,i32_w];rw [c4b0])|skip)
     by_cases c5:x5_1 < (l1.length:Int)
     ·rw [if_pos c5] at H
      have c5b0:decide (x5_1 < (l1.length:Int)) = true:=decide_eq_true c5
      clear c5
      by_cases c6:0 ≤ x5_1
      ·rw [if_pos c6] at H
       have c6b0:decide (0 ≤ x5_1) = true:=decide_eq_true c6
       clear c6
       have H':=mk0 H
       clear H
       have p143:0 ≤ (x5_1:Int):=of_decide_eq_true (by first|(with_reducible assumption)|assumption)
       have q143:x5_1 < (l0.length:Int):=of_decide_eq_true (by first|(with_reducible assumption)|assumption)
       obtain⟨ad143,e143,hx143_0⟩:=Kd.at_int HR0.out x5_1 p143 q143
       cases e143
       replace p143:=eq_true p143
       replace q143:=eq_true q143
       have p144:0 ≤ (x5_1:Int):=of_decide_eq_true (by first|(with_reducible assumption)|assumption)
       have q144:x5_1 < (l1.length:Int):=of_decide_eq_true (by first|(with_reducible assumption)|assumption)
       obtain⟨ad144,e144,hx144_0⟩:=Kd.at_int HR1.out x5_1 p144 q144
       cases e144
       replace p144:=eq_true p144
       replace q144:=eq_true q144
       go_wp2
       repeat (go_quiet (fail);try go_wp2)
       go_meet
       case rel=>exact⟨_,(((rd l0 x5_1) == (rd l1 x5_1))),(by first|rfl|(simp;done)|(simp [*];done)),H',⟨by have:=HK1.out;first|omega|exact Nat.le_refl _⟩,by repeat (first|exact Drawn0.refl _|apply Drawn0.step)⟩
      ·rw [if_neg c6] at H
       exact absurd H (by simp)
     ·rw [if_neg c5] at H
      have c5b0:decide (x5_1 < (l1.length:Int)) = false:=decide_eq_false c5
      clear c5
      have H':=mk0 H
      clear H
      go_wp2
      repeat (go_quiet (fail);try go_wp2)
      go_meet
      case rel=>exact⟨_,(false),(by first|rfl|(simp;done)|(simp [*];done)),H',⟨by have:=HK1.out;first|omega|exact Nat.le_refl _⟩,by repeat (first|exact Drawn0.refl _|apply Drawn0.step)⟩
    ·rw [if_neg c4] at H
     have c4b0:decide (x5_1 < (l0.length:Int)) = false:=decide_eq_false c4
     clear c4
     (first|rw [c4b0]|(simp only [i64_w,i32_w];rw [c4b0])|skip)
     have H':=mk0 H
     clear H
     go_wp2
     repeat (go_quiet (fail);try go_wp2)
     go_meet
     case rel=>exact⟨_,(false),(by first|rfl|(simp;done)|(simp [*];done)),H',⟨by have:=HK1.out;first|omega|exact Nat.le_refl _⟩,by repeat (first|exact Drawn0.refl _|apply Drawn0.step)⟩
   case rest =>
    clear HC3
    try clear c1
    try clear p1
    try clear q1
    try clear hx1
    try clear p2
    try clear c4
    try clear c4b0
    try clear c5
    try clear c5b0
    try clear c6
    try clear c6b0
    try clear hx143_0
    try clear hx144_0
    try clear p143
    try clear p144
    try clear p2
    try clear q143
    try clear q144
    obtain⟨kq,x26_2,rfl,HA,HJ2,⟨mc2,rfl⟩⟩:=hcut
    cases kq with
    | zero=>exact absurd HA.out (by simp [spec_l05Common.j1])
    | succ kj2 =>
     have H:=HA.out
     clear HA
     simp only [spec_l05Common.j1] at H
     by_cases c7:x26_2 = true
     ·subst c7
      have H1:(spec_l05Common.l0 kj2 l0 l1 (wrap64 (x5_1 + 1))) = some r:=by rw [if_pos rfl] at H;exact H
      clear H
      have H:=H1
      clear H1
      have H':=mk0 H
      clear H
      go_wp2
      repeat (go_quiet (fail);try go_wp2)
      go_roundg kj2
      case measure=>have:=HK1.out;have:=HJ2.out;omega
      case rel=>exact⟨(wrap64 (x5_1 + 1)),(by first|rfl|(simp;done)|(simp [*];done)),H',⟨by have:=HK1.out;have:=HJ2.out;omega⟩,by repeat (first|exact Drawn0.refl _|apply Drawn0.step)⟩
     ·replace c7:=Bool.eq_false_iff.mpr c7
      subst c7
      have H1:(some x5_1) = some r:=by rw [if_neg (show ¬ (false = true) by decide)] at H;exact H
      clear H
      have H:=H1
      clear H1
      obtain rfl:=Option.some.inj H
      go_wp2
      repeat (go_quiet (fail);try go_wp2)
      go_ret
      exact⟨by first|rfl|(simp;done)|(simp [*];done),by repeat (first|exact Drawn0.refl _|apply Drawn0.step)⟩

end Go.Proofs.Ytoinagnieobbpaa.QFnStretchWords
