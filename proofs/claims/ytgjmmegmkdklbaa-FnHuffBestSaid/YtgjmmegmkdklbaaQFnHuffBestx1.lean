-- A walk, made by walk.py, a program of this session's.
import Derived.Test.YtgjmmegmkdklbaaQFnHuffBestx0
namespace Go.Proofs.Ytgjmmegmkdklbaa.QFnHuffBest
open Go.RowKit Go.Proofs.YtgjmmegmkdklbaaW.PrintWords Go.Proofs.YtgjmmegmkdklbaaW.PrintLast Go.Proofs.YtgjmmegmkdklbaaW.PrintMore
attribute [local go_sem] max2_int min2_int max_two min_two max_three min_three max_four min_four   -- for this text's walks alone
set_option linter.unusedVariables false
set_option linter.unusedSimpArgs false

/-! ### laws_big: function 8 -/
def laws_big.f (l0 : List Int) : Option (Bool) := some (decide ((l0.length : Int) > 1048576))
set_option maxHeartbeats 8000000 in
set_option maxRecDepth 100000 in
theorem laws_big.calls (A0 : Option Addr) (c0 : Nat) (l0 : List Int) (r : Bool) (w : World) (hr0 : Kd.C (Kd.int .u8) w A0 l0.length l0) (hc0 : l0.length ≤ c0) (h : laws_big.f l0 = some r) :
  Calls Try.prog 8 #[.slice A0 l0.length c0] w fun e w' => e = .returned (.bool r) ∧ Drawn0 w w' := by
 have HR0:=mk0 hr0
 have HC0:=mk0 hc0
 clear hr0 hc0
 have H:(some (decide ((l0.length:Int) > 1048576))) = some r:=h
 clear h
 obtain rfl:=Option.some.inj H
 go_enter Try.func8,Try.ntmps8
 go_wp2
 go_ret
 exact⟨by first|rfl|(simp;done)|(simp [*];done),by repeat (first|exact Drawn0.refl _|apply Drawn0.step)⟩

/-! ### spec_l08Counts: function 50 -/
def spec_l08Counts.l0 : Nat → List Int → Int → Option (Bool)
 | 0, _, _ => none
 | k + 1, x0, x3 => if x3 < (x0.length : Int) then (if 0 ≤ x3 then (if (rd x0 x3) < 0 then (some false) else (if (rd x0 x3) > 1000000 then (some false) else (spec_l08Counts.l0 k x0 (wrap64 (x3 + 1))))) else (none)) else (some true)
def spec_l08Counts.f (k : Nat) (l0 : List Int) : Option (Bool) := if (l0.length : Int) > 300 then (some false) else (spec_l08Counts.l0 k l0 0)
theorem spec_l08Counts.mono_l : ∀ k, (∀ y0 y1, LeO (spec_l08Counts.l0 k y0 y1) (spec_l08Counts.l0 (k + 1) y0 y1))
 | 0 => fun _ _ r h => by simp [spec_l08Counts.l0] at h
 | k + 1 => by
  have ih0 := spec_l08Counts.mono_l k
  ·intro y0 y1
   unfold spec_l08Counts.l0
   repeat' first|(with_reducible first|exact ih0 _ _|exact LeO.refl _|exact LeO.none _|refine LeO.ite ?_ ?_|refine LeO.bind ?_ (fun _ => ?_))|exact LeO.none _|refine LeO.ite ?_ ?_|refine LeO.bind ?_ (fun _ => ?_)
theorem spec_l08Counts.mono : ∀ a0 k, LeO (spec_l08Counts.f k a0) (spec_l08Counts.f (k + 1) a0) := by
 intro a0 k
 have ih0 := spec_l08Counts.mono_l k
 unfold spec_l08Counts.f
 repeat' first|(with_reducible first|exact ih0 _ _|exact LeO.refl _|exact LeO.none _|refine LeO.ite ?_ ?_|refine LeO.bind ?_ (fun _ => ?_))|exact LeO.none _|refine LeO.ite ?_ ?_|refine LeO.bind ?_ (fun _ => ?_)
set_option maxHeartbeats 8000000 in
set_option maxRecDepth 100000 in
theorem spec_l08Counts.calls (k : Nat) (A0 : Option Addr) (c0 : Nat) (l0 : List Int) (r : Bool) (w : World) (hr0 : Kd.C (Kd.int .i64) w A0 l0.length l0) (hc0 : l0.length ≤ c0) (h : spec_l08Counts.f k l0 = some r) :
  Calls Try.prog 50 #[.slice A0 l0.length c0] w fun e w' => e = .returned (.bool r) ∧ Drawn0 w w' := by
 have HR0:=mk0 hr0
 have HC0:=mk0 hc0
 clear hr0 hc0
 have H:(if (l0.length:Int) > 300 then (some false) else (spec_l08Counts.l0 k l0 0)) = some r:=h
 clear h
 by_cases c2:(l0.length:Int) > 300
 ·rw [if_pos c2] at H
  have c2b0:decide (300 < (l0.length:Int)) = true:=decide_eq_true c2
  have c2b1:decide (300 < l0.length) = true:=decide_eq_true (by omega)
  clear c2
  obtain rfl:=Option.some.inj H
  go_enter Try.func50,Try.ntmps50
  go_wp2
  go_ret
  exact⟨by first|rfl|(simp;done)|(simp [*];done),by repeat (first|exact Drawn0.refl _|apply Drawn0.step)⟩
 ·rw [if_neg c2] at H
  have c2b0:decide (300 < (l0.length:Int)) = false:=decide_eq_false c2
  have c2b1:decide (300 < l0.length) = false:=decide_eq_false (by omega)
  clear c2
  have H':=mk0 H
  clear H
  go_enter Try.func50,Try.ntmps50
  go_wp2
  go_loopg [3] k (fun kq v3 w'=>∃ (x3_1:Int),v3 = .int .i64 x3_1 ∧ Aside0 (spec_l08Counts.l0 kq l0 x3_1 = some r) ∧ Aside0 (kq ≤ k) ∧ Drawn0 w w')
  case atStart=>exact⟨(0),(by first|rfl|(simp;done)|(simp [*];done)),H',⟨Nat.le_refl _⟩,by repeat (first|exact Drawn0.refl _|apply Drawn0.step)⟩
  case round =>
   clear H'
   try clear c2
   try clear c2b0
   try clear c2b1
   try clear p2
   obtain⟨x3_1,rfl,HA,HK1,⟨m1,rfl⟩⟩:=hrel
   cases gk with
   | zero=>exact absurd HA.out (by simp [spec_l08Counts.l0])
   | succ k1 =>
    have H:=HA.out
    clear HA
    simp only [spec_l08Counts.l0] at H
    by_cases c3:x3_1 < (l0.length:Int)
    ·rw [if_pos c3] at H
     have c3b0:decide (x3_1 < (l0.length:Int)) = true:=decide_eq_true c3
     clear c3
     by_cases c4:0 ≤ x3_1
     ·rw [if_pos c4] at H
      have c4b0:decide (0 ≤ x3_1) = true:=decide_eq_true c4
      clear c4
      by_cases c5:(rd l0 x3_1) < 0
      ·rw [if_pos c5] at H
       have c5b0:decide ((rd l0 x3_1) < 0) = true:=decide_eq_true c5
       clear c5
       obtain rfl:=Option.some.inj H
       have p101:0 ≤ (x3_1:Int):=of_decide_eq_true (by first|(with_reducible assumption)|assumption)
       have q101:x3_1 < (l0.length:Int):=of_decide_eq_true (by first|(with_reducible assumption)|assumption)
       obtain⟨ad101,e101,hx101_0⟩:=Kd.at_int HR0.out x3_1 p101 q101
       cases e101
       replace p101:=eq_true p101
       replace q101:=eq_true q101
       go_wp2
       go_ret
       exact⟨by first|rfl|(simp;done)|(simp [*];done),by repeat (first|exact Drawn0.refl _|apply Drawn0.step)⟩
      ·rw [if_neg c5] at H
       have c5b0:decide ((rd l0 x3_1) < 0) = false:=decide_eq_false c5
       clear c5
       by_cases c6:(rd l0 x3_1) > 1000000
       ·rw [if_pos c6] at H
        have c6b0:decide (1000000 < (rd l0 x3_1)) = true:=decide_eq_true c6
        clear c6
        obtain rfl:=Option.some.inj H
        have p101:0 ≤ (x3_1:Int):=of_decide_eq_true (by first|(with_reducible assumption)|assumption)
        have q101:x3_1 < (l0.length:Int):=of_decide_eq_true (by first|(with_reducible assumption)|assumption)
        obtain⟨ad101,e101,hx101_0⟩:=Kd.at_int HR0.out x3_1 p101 q101
        cases e101
        replace p101:=eq_true p101
        replace q101:=eq_true q101
        have p102:0 ≤ (x3_1:Int):=of_decide_eq_true (by first|(with_reducible assumption)|assumption)
        have q102:x3_1 < (l0.length:Int):=of_decide_eq_true (by first|(with_reducible assumption)|assumption)
        obtain⟨ad102,e102,hx102_0⟩:=Kd.at_int HR0.out x3_1 p102 q102
        obtain rfl:ad101 = ad102:=(by injection e102)
        replace p102:=eq_true p102
        replace q102:=eq_true q102
        go_wp2
        go_ret
        exact⟨by first|rfl|(simp;done)|(simp [*];done),by repeat (first|exact Drawn0.refl _|apply Drawn0.step)⟩
       ·rw [if_neg c6] at H
        have c6b0:decide (1000000 < (rd l0 x3_1)) = false:=decide_eq_false c6
        clear c6
        have H':=mk0 H
        clear H
        have p101:0 ≤ (x3_1:Int):=of_decide_eq_true (by first|(with_reducible assumption)|assumption)
        have q101:x3_1 < (l0.length:Int):=of_decide_eq_true (by first|(with_reducible assumption)|assumption)
        obtain⟨ad101,e101,hx101_0⟩:=Kd.at_int HR0.out x3_1 p101 q101
        cases e101
        replace p101:=eq_true p101
        replace q101:=eq_true q101
        have p102:0 ≤ (x3_1:Int):=of_decide_eq_true (by first|(with_reducible assumption)|assumption)
        have q102:x3_1 < (l0.length:Int):=of_decide_eq_true (by first|(with_reducible assumption)|assumption)
        obtain⟨ad102,e102,hx102_0⟩:=Kd.at_int HR0.out x3_1 p102 q102
        obtain rfl:ad101 = ad102:=(by injection e102)
        replace p102:=eq_true p102
        replace q102:=eq_true q102
        go_wp2
        go_roundg k1
        case measure=>have:=HK1.out;omega
        case rel=>exact⟨(wrap64 (x3_1 + 1)),(by first|rfl|(simp;done)|(simp [*];done)),H',⟨by have:=HK1.out;omega⟩,by repeat (first|exact Drawn0.refl _|apply Drawn0.step)⟩
     ·rw [if_neg c4] at H
      exact absurd H (by simp)
    ·rw [if_neg c3] at H
     have c3b0:decide (x3_1 < (l0.length:Int)) = false:=decide_eq_false c3
     clear c3
     obtain rfl:=Option.some.inj H
     go_wp2
     go_ret
     exact⟨by first|rfl|(simp;done)|(simp [*];done),by repeat (first|exact Drawn0.refl _|apply Drawn0.step)⟩

/-! ### spec_l08Least: function 51 -/
mutual
def spec_l08Least.l0 : Nat → List (S61) → Int → Int → Option (Int)
 | 0, _, _, _ => none
 | k + 1, x0, x3, x4 => if x4 < (x0.length : Int) then (if 0 ≤ x4 then (if 0 ≤ x3 then (if x3 < (x0.length : Int) then (if ((rd_T61 x0 x4).f0) < ((rd_T61 x0 x3).f0) then (spec_l08Least.j1 k x0 x3 x4 true) else (if ((rd_T61 x0 x4).f0) = ((rd_T61 x0 x3).f0) then (spec_l08Least.j1 k x0 x3 x4 (decide (((rd_T61 x0 x4).f1) < ((rd_T61 x0 x3).f1)))) else (spec_l08Least.j1 k x0 x3 x4 false))) else (none)) else (none)) else (none)) else (some x3)
def spec_l08Least.j1 : Nat → List (S61) → Int → Int → Bool → Option (Int)
 | 0, _, _, _, _ => none
 | k + 1, x0, x3, x4, x47 => if x47 = true then (spec_l08Least.l0 k x0 x4 (wrap64 (x4 + 1))) else (spec_l08Least.l0 k x0 x3 (wrap64 (x4 + 1)))
end
def spec_l08Least.f (k : Nat) (l0 : List (S61)) : Option (Int) := spec_l08Least.l0 k l0 0 0
theorem spec_l08Least.mono_l : ∀ k, (∀ y0 y1 y2, LeO (spec_l08Least.l0 k y0 y1 y2) (spec_l08Least.l0 (k + 1) y0 y1 y2)) ∧ (∀ y0 y1 y2 y3, LeO (spec_l08Least.j1 k y0 y1 y2 y3) (spec_l08Least.j1 (k + 1) y0 y1 y2 y3))
 | 0 => ⟨fun _ _ _ r h => by simp [spec_l08Least.l0] at h, fun _ _ _ _ r h => by simp [spec_l08Least.j1] at h⟩
 | k + 1 => by
  obtain ⟨ih0, ih1⟩ := spec_l08Least.mono_l k
  refine ⟨?_, ?_⟩
  ·intro y0 y1 y2
   unfold spec_l08Least.l0
   repeat' first|(with_reducible first|exact ih0 _ _ _|exact ih1 _ _ _ _|exact LeO.refl _|exact LeO.none _|refine LeO.ite ?_ ?_|refine LeO.bind ?_ (fun _ => ?_))|exact LeO.none _|refine LeO.ite ?_ ?_|refine LeO.bind ?_ (fun _ => ?_)
  ·intro y0 y1 y2 y3
   unfold spec_l08Least.j1
   repeat' first|(with_reducible first|exact ih0 _ _ _|exact ih1 _ _ _ _|exact LeO.refl _|exact LeO.none _|refine LeO.ite ?_ ?_|refine LeO.bind ?_ (fun _ => ?_))|exact LeO.none _|refine LeO.ite ?_ ?_|refine LeO.bind ?_ (fun _ => ?_)
theorem spec_l08Least.mono : ∀ a0 k, LeO (spec_l08Least.f k a0) (spec_l08Least.f (k + 1) a0) := by
 intro a0 k
 obtain ⟨ih0, ih1⟩ := spec_l08Least.mono_l k
 unfold spec_l08Least.f
 repeat' first|(with_reducible first|exact ih0 _ _ _|exact ih1 _ _ _ _|exact LeO.refl _|exact LeO.none _|refine LeO.ite ?_ ?_|refine LeO.bind ?_ (fun _ => ?_))|exact LeO.none _|refine LeO.ite ?_ ?_|refine LeO.bind ?_ (fun _ => ?_)
set_option maxHeartbeats 8000000 in
set_option maxRecDepth 100000 in
theorem spec_l08Least.calls (k : Nat) (A0 : Option Addr) (c0 : Nat) (l0 : List (S61)) (r : Int) (w : World) (hr0 : Kd.C k61 w A0 l0.length l0) (hc0 : l0.length ≤ c0) (h : spec_l08Least.f k l0 = some r) :
  Calls Try.prog 51 #[.slice A0 l0.length c0] w fun e w' => e = .returned (.int .i64 r) ∧ Drawn0 w w' := by
 have HR0:=mk0 hr0
 have HC0:=mk0 hc0
 clear hr0 hc0
 have H:(spec_l08Least.l0 k l0 0 0) = some r:=h
 clear h
 have H':=mk0 H
 clear H
 go_enter Try.func51,Try.ntmps51
 go_wp2
 repeat (go_quiet (fail);try go_wp2)
 go_loopg [3,4] k (fun kq v3 v4 w'=>∃ (x3_1:Int) (x4_1:Int),v3 = .int .i64 x3_1 ∧ v4 = .int .i64 x4_1 ∧ Aside0 (spec_l08Least.l0 kq l0 x3_1 x4_1 = some r) ∧ Aside0 (kq ≤ k) ∧ Drawn0 w w')
 case atStart=>exact⟨(0),(0),(by first|rfl|(simp;done)|(simp [*];done)),(by first|rfl|(simp;done)|(simp [*];done)),H',⟨Nat.le_refl _⟩,by repeat (first|exact Drawn0.refl _|apply Drawn0.step)⟩
 case round =>
  clear H'
  obtain⟨x3_1,x4_1,rfl,rfl,HA,HK1,⟨m1,rfl⟩⟩:=hrel
  cases gk with
  | zero=>exact absurd HA.out (by simp [spec_l08Least.l0])
  | succ k1 =>
   have H:=HA.out
   clear HA
   simp only [spec_l08Least.l0] at H
   by_cases c2:x4_1 < (l0.length:Int)
   rotate_left
   ·rw [if_neg c2] at H
    have c2b0:decide (x4_1 < (l0.length:Int)) = false:=decide_eq_false c2
    (try simp only [hl103_2] at c2b0)
    (try simp only [hl104_2] at c2b0)
    (try simp only [hl105_2] at c2b0)
    (try simp only [hl106_2] at c2b0)
    (try simp only [hl107_2] at c2b0)
    (try simp only [hl108_2] at c2b0)
    clear c2
    obtain rfl:=Option.some.inj H
    go_wp2
    repeat (go_quiet (fail);try go_wp2)
    go_ret
    exact⟨by first|rfl|(simp;done)|(simp [*];done),by repeat (first|exact Drawn0.refl _|apply Drawn0.step)⟩

   rw [if_pos c2] at H
   have c2b0:decide (x4_1 < (l0.length:Int)) = true:=decide_eq_true c2
   (try simp only [hl103_2] at c2b0)
   (try simp only [hl104_2] at c2b0)
   (try simp only [hl105_2] at c2b0)
   (try simp only [hl106_2] at c2b0)
   (try simp only [hl107_2] at c2b0)
   (try simp only [hl108_2] at c2b0)
   clear c2
   have HC3:=mk0 H
   clear H
   go_upto_region 5 with (fail)
   repeat (go_quiet (fail);go_upto_region 5 with (fail))
   go_cut [47] (fun v47 wc=>∃ (kq:Nat) (x47_2:Bool),v47 = .bool x47_2 ∧ Aside0 (spec_l08Least.j1 kq l0 x3_1 x4_1 x47_2 = some r) ∧ Aside0 (kq ≤ k1) ∧ Drawn0 w wc)
   case first =>
    have H:=HC3.out
    clear HC3
    by_cases c4:0 ≤ x4_1
    rotate_left
    ·rw [if_neg c4] at H
     exact absurd H (by simp)
    rw [if_pos c4] at H
    have c4b0:decide (0 ≤ x4_1) = true:=decide_eq_true c4
    clear c4
    (first|rw [c4b0]|(simp only [i64_w,i32_w];rw [c4b0])|skip)
    by_cases c5:0 ≤ x3_1
    rotate_left
    ·rw [if_neg c5] at H
     exact absurd H (by simp)
    rw [if_pos c5] at H
    have c5b0:decide (0 ≤ x3_1) = true:=decide_eq_true c5
    clear c5
    by_cases c6:x3_1 < (l0.length:Int)
    rotate_left
    ·rw [if_neg c6] at H
     exact absurd H (by simp)
    rw [if_pos c6] at H
    have c6b0:decide (x3_1 < (l0.length:Int)) = true:=decide_eq_true c6
    (try simp only [hl103_2] at c6b0)
    (try simp only [hl104_2] at c6b0)
    (try simp only [hl105_2] at c6b0)
    (try simp only [hl106_2] at c6b0)
    (try simp only [hl107_2] at c6b0)
    (try simp only [hl108_2] at c6b0)
    clear c6
    by_cases c7:((rd_T61 l0 x4_1).f0) < ((rd_T61 l0 x3_1).f0)
    ·rw [if_pos c7] at H
     have c7b0:decide (((rd_T61 l0 x4_1).f0) < ((rd_T61 l0 x3_1).f0)) = true:=decide_eq_true c7
     clear c7
     have H':=mk0 H
     clear H
     have p103:0 ≤ (x4_1:Int):=of_decide_eq_true (by first|(with_reducible assumption)|assumption)
     have q103:x4_1 < (l0.length:Int):=of_decide_eq_true (by first|(with_reducible assumption)|assumption)
     obtain⟨ad103,A103_2,c103_2,e103,hx103_0,hx103_1,hx103_2,hl103_2,hi103_2⟩:=at_T61 HR0.out x4_1 p103 q103
     cases e103
     have HR103_2:=mk0 hi103_2
     have HC103_2:=mk0 hl103_2
     clear hi103_2 hl103_2
     replace p103:=eq_true p103
     replace q103:=eq_true q103
     have p104:0 ≤ (x3_1:Int):=of_decide_eq_true (by first|(with_reducible assumption)|assumption)
     have q104:x3_1 < (l0.length:Int):=of_decide_eq_true (by first|(with_reducible assumption)|assumption)
     obtain⟨ad104,A104_2,c104_2,e104,hx104_0,hx104_1,hx104_2,hl104_2,hi104_2⟩:=at_T61 HR0.out x3_1 p104 q104
     obtain rfl:ad103 = ad104:=(by injection e104)
     have HR104_2:=mk0 hi104_2
     have HC104_2:=mk0 hl104_2
     clear hi104_2 hl104_2
     replace p104:=eq_true p104
     replace q104:=eq_true q104
     go_wp2
     repeat (go_quiet (fail);try go_wp2)
     go_meet
     case rel=>exact⟨_,(true),(by first|rfl|(simp;done)|(simp [*];done)),H',⟨by have:=HK1.out;first|omega|exact Nat.le_refl _⟩,by repeat (first|exact Drawn0.refl _|apply Drawn0.step)⟩
    rw [if_neg c7] at H
    have c7b0:decide (((rd_T61 l0 x4_1).f0) < ((rd_T61 l0 x3_1).f0)) = false:=decide_eq_false c7
    clear c7
    by_cases c8:((rd_T61 l0 x4_1).f0) = ((rd_T61 l0 x3_1).f0)
    rotate_left
    ·rw [if_neg c8] at H
     have c8b0:(((rd_T61 l0 x4_1).f0) == ((rd_T61 l0 x3_1).f0)) = false:=beq_eq_false_iff_ne.mpr c8
     have c8b1:(((rd_T61 l0 x4_1).f0) != ((rd_T61 l0 x3_1).f0)) = true:=bne_iff_ne.mpr c8
     have H':=mk0 H
     clear H
     have p103:0 ≤ (x4_1:Int):=of_decide_eq_true (by first|(with_reducible assumption)|assumption)
     have q103:x4_1 < (l0.length:Int):=of_decide_eq_true (by first|(with_reducible assumption)|assumption)
     obtain⟨ad103,A103_2,c103_2,e103,hx103_0,hx103_1,hx103_2,hl103_2,hi103_2⟩:=at_T61 HR0.out x4_1 p103 q103
     cases e103
     have HR103_2:=mk0 hi103_2
     have HC103_2:=mk0 hl103_2
     clear hi103_2 hl103_2
     replace p103:=eq_true p103
     replace q103:=eq_true q103
     have p104:0 ≤ (x3_1:Int):=of_decide_eq_true (by first|(with_reducible assumption)|assumption)
     have q104:x3_1 < (l0.length:Int):=of_decide_eq_true (by first|(with_reducible assumption)|assumption)
     obtain⟨ad104,A104_2,c104_2,e104,hx104_0,hx104_1,hx104_2,hl104_2,hi104_2⟩:=at_T61 HR0.out x3_1 p104 q104
     obtain rfl:ad103 = ad104:=(by injection e104)
     have HR104_2:=mk0 hi104_2
     have HC104_2:=mk0 hl104_2
     clear hi104_2 hl104_2
     replace p104:=eq_true p104
     replace q104:=eq_true q104
     have p105:0 ≤ (x4_1:Int):=of_decide_eq_true (by first|(with_reducible assumption)|assumption)
     have q105:x4_1 < (l0.length:Int):=of_decide_eq_true (by first|(with_reducible assumption)|assumption)
     obtain⟨ad105,A105_2,c105_2,e105,hx105_0,hx105_1,hx105_2,hl105_2,hi105_2⟩:=at_T61 HR0.out x4_1 p105 q105
     obtain rfl:ad103 = ad105:=(by injection e105)
     have HR105_2:=mk0 hi105_2
     have HC105_2:=mk0 hl105_2
     clear hi105_2 hl105_2
     replace p105:=eq_true p105
     replace q105:=eq_true q105
     have ea_:=Option.some.inj (hx103_2.symm.trans hx105_2)
     injection ea_ with ea_ en_ ec_
     subst ea_
     subst ec_
     clear en_
     have p106:0 ≤ (x3_1:Int):=of_decide_eq_true (by first|(with_reducible assumption)|assumption)
     have q106:x3_1 < (l0.length:Int):=of_decide_eq_true (by first|(with_reducible assumption)|assumption)
     obtain⟨ad106,A106_2,c106_2,e106,hx106_0,hx106_1,hx106_2,hl106_2,hi106_2⟩:=at_T61 HR0.out x3_1 p106 q106
     obtain rfl:ad103 = ad106:=(by injection e106)
     have HR106_2:=mk0 hi106_2
     have HC106_2:=mk0 hl106_2
     clear hi106_2 hl106_2
     replace p106:=eq_true p106
     replace q106:=eq_true q106
     have ea_:=Option.some.inj (hx104_2.symm.trans hx106_2)
     injection ea_ with ea_ en_ ec_
     subst ea_
     subst ec_
     clear en_
     go_wp2
     repeat (go_quiet (fail);try go_wp2)
     go_meet
     case rel=>exact⟨_,(false),(by first|rfl|(simp;done)|(simp [*];done)),H',⟨by have:=HK1.out;first|omega|exact Nat.le_refl _⟩,by repeat (first|exact Drawn0.refl _|apply Drawn0.step)⟩
    rw [if_pos c8] at H
    have c8b0:(((rd_T61 l0 x4_1).f0) == ((rd_T61 l0 x3_1).f0)) = true:=beq_iff_eq.mpr c8
    have c8b1:(((rd_T61 l0 x4_1).f0) != ((rd_T61 l0 x3_1).f0)) = false:=bne_eq_false_iff_eq.mpr c8
    clear c8
    have H':=mk0 H
    clear H
    have p103:0 ≤ (x4_1:Int):=of_decide_eq_true (by first|(with_reducible assumption)|assumption)
    have q103:x4_1 < (l0.length:Int):=of_decide_eq_true (by first|(with_reducible assumption)|assumption)
    obtain⟨ad103,A103_2,c103_2,e103,hx103_0,hx103_1,hx103_2,hl103_2,hi103_2⟩:=at_T61 HR0.out x4_1 p103 q103
    cases e103
    have HR103_2:=mk0 hi103_2
    have HC103_2:=mk0 hl103_2
    clear hi103_2 hl103_2
    replace p103:=eq_true p103
    replace q103:=eq_true q103
    have p104:0 ≤ (x3_1:Int):=of_decide_eq_true (by first|(with_reducible assumption)|assumption)
    have q104:x3_1 < (l0.length:Int):=of_decide_eq_true (by first|(with_reducible assumption)|assumption)
    obtain⟨ad104,A104_2,c104_2,e104,hx104_0,hx104_1,hx104_2,hl104_2,hi104_2⟩:=at_T61 HR0.out x3_1 p104 q104
    obtain rfl:ad103 = ad104:=(by injection e104)
    have HR104_2:=mk0 hi104_2
    have HC104_2:=mk0 hl104_2
    clear hi104_2 hl104_2
    replace p104:=eq_true p104
    replace q104:=eq_true q104
    have p105:0 ≤ (x4_1:Int):=of_decide_eq_true (by first|(with_reducible assumption)|assumption)
    have q105:x4_1 < (l0.length:Int):=of_decide_eq_true (by first|(with_reducible assumption)|assumption)
    obtain⟨ad105,A105_2,c105_2,e105,hx105_0,hx105_1,hx105_2,hl105_2,hi105_2⟩:=at_T61 HR0.out x4_1 p105 q105
    obtain rfl:ad103 = ad105:=(by injection e105)
    have HR105_2:=mk0 hi105_2
    have HC105_2:=mk0 hl105_2
    clear hi105_2 hl105_2
    replace p105:=eq_true p105
    replace q105:=eq_true q105
    have ea_:=Option.some.inj (hx103_2.symm.trans hx105_2)
    injection ea_ with ea_ en_ ec_
    subst ea_
    subst ec_
    clear en_
    have p106:0 ≤ (x3_1:Int):=of_decide_eq_true (by first|(with_reducible assumption)|assumption)
    have q106:x3_1 < (l0.length:Int):=of_decide_eq_true (by first|(with_reducible assumption)|assumption)
    obtain⟨ad106,A106_2,c106_2,e106,hx106_0,hx106_1,hx106_2,hl106_2,hi106_2⟩:=at_T61 HR0.out x3_1 p106 q106
    obtain rfl:ad103 = ad106:=(by injection e106)
    have HR106_2:=mk0 hi106_2
    have HC106_2:=mk0 hl106_2
    clear hi106_2 hl106_2
    replace p106:=eq_true p106
    replace q106:=eq_true q106
    have ea_:=Option.some.inj (hx104_2.symm.trans hx106_2)
    injection ea_ with ea_ en_ ec_
    subst ea_
    subst ec_
    clear en_
    have p107:0 ≤ (x4_1:Int):=of_decide_eq_true (by first|(with_reducible assumption)|assumption)
    have q107:x4_1 < (l0.length:Int):=of_decide_eq_true (by first|(with_reducible assumption)|assumption)
    obtain⟨ad107,A107_2,c107_2,e107,hx107_0,hx107_1,hx107_2,hl107_2,hi107_2⟩:=at_T61 HR0.out x4_1 p107 q107
    obtain rfl:ad103 = ad107:=(by injection e107)
    have HR107_2:=mk0 hi107_2
    have HC107_2:=mk0 hl107_2
    clear hi107_2 hl107_2
    replace p107:=eq_true p107
    replace q107:=eq_true q107
    have ea_:=Option.some.inj (hx103_2.symm.trans hx107_2)
    injection ea_ with ea_ en_ ec_
    subst ea_
    subst ec_
    clear en_
    have p108:0 ≤ (x3_1:Int):=of_decide_eq_true (by first|(with_reducible assumption)|assumption)
    have q108:x3_1 < (l0.length:Int):=of_decide_eq_true (by first|(with_reducible assumption)|assumption)
    obtain⟨ad108,A108_2,c108_2,e108,hx108_0,hx108_1,hx108_2,hl108_2,hi108_2⟩:=at_T61 HR0.out x3_1 p108 q108
    obtain rfl:ad103 = ad108:=(by injection e108)
    have HR108_2:=mk0 hi108_2
    have HC108_2:=mk0 hl108_2
    clear hi108_2 hl108_2
    replace p108:=eq_true p108
    replace q108:=eq_true q108
    have ea_:=Option.some.inj (hx104_2.symm.trans hx108_2)
    injection ea_ with ea_ en_ ec_
    subst ea_
    subst ec_
    clear en_
    go_wp2
    repeat (go_quiet (fail);try go_wp2)
    go_meet
    case rel=>exact⟨_,(decide (((rd_T61 l0 x4_1).f1) < ((rd_T61 l0 x3_1).f1))),(by first|rfl|(simp;done)|(simp [*];done)),H',⟨by have:=HK1.out;first|omega|exact Nat.le_refl _⟩,by repeat (first|exact Drawn0.refl _|apply Drawn0.step)⟩
   case rest =>
    clear HC3
    try clear c1
    try clear p1
    try clear q1
    try clear hx1
    try clear c2
    try clear c2b0
    try clear p2
    try clear c4
    try clear c4b0
    try clear c5
    try clear c5b0
    try clear c6
    try clear c6b0
    try clear c7
    try clear c7b0
    try clear c8
    try clear c8b0
    try clear c8b1
    try clear hx103_0
    try clear hx103_1
    try clear hx103_2
    try clear hx104_0
    try clear hx104_1
    try clear hx104_2
    try clear hx105_0
    try clear hx105_1
    try clear hx105_2
    try clear hx106_0
    try clear hx106_1
    try clear hx106_2
    try clear hx107_0
    try clear hx107_1
    try clear hx107_2
    try clear hx108_0
    try clear hx108_1
    try clear hx108_2
    try clear p103
    try clear p104
    try clear p105
    try clear p106
    try clear p107
    try clear p108
    try clear q103
    try clear q104
    try clear q105
    try clear q106
    try clear q107
    try clear q108
    obtain⟨kq,x47_2,rfl,HA,HJ2,⟨mc2,rfl⟩⟩:=hcut
    cases kq with
    | zero=>exact absurd HA.out (by simp [spec_l08Least.j1])
    | succ kj2 =>
     have H:=HA.out
     clear HA
     simp only [spec_l08Least.j1] at H
     by_cases c9:x47_2 = true
     ·subst c9
      have H1:(spec_l08Least.l0 kj2 l0 x4_1 (wrap64 (x4_1 + 1))) = some r:=by rw [if_pos rfl] at H;exact H
      clear H
      have H:=H1
      clear H1
      have H':=mk0 H
      clear H
      go_wp2
      repeat (go_quiet (fail);try go_wp2)
      go_roundg kj2
      case measure=>have:=HK1.out;have:=HJ2.out;omega
      case rel=>exact⟨(x4_1),(wrap64 (x4_1 + 1)),(by first|rfl|(simp;done)|(simp [*];done)),(by first|rfl|(simp;done)|(simp [*];done)),H',⟨by have:=HK1.out;have:=HJ2.out;omega⟩,by repeat (first|exact Drawn0.refl _|apply Drawn0.step)⟩
     replace c9:=Bool.eq_false_iff.mpr c9
     subst c9
     have H1:(spec_l08Least.l0 kj2 l0 x3_1 (wrap64 (x4_1 + 1))) = some r:=by rw [if_neg (show ¬ (false = true) by decide)] at H;exact H
     clear H
     have H:=H1
     clear H1
     have H':=mk0 H
     clear H
     go_wp2
     repeat (go_quiet (fail);try go_wp2)
     go_roundg kj2
     case measure=>have:=HK1.out;have:=HJ2.out;omega
     case rel=>exact⟨(x3_1),(wrap64 (x4_1 + 1)),(by first|rfl|(simp;done)|(simp [*];done)),(by first|rfl|(simp;done)|(simp [*];done)),H',⟨by have:=HK1.out;have:=HJ2.out;omega⟩,by repeat (first|exact Drawn0.refl _|apply Drawn0.step)⟩
/-! ### spec_l08Without: function 52 -/
def spec_l08Without.f (l0 : List (S61)) (a1 : Int) : Option ((List (S61))) := (some (([] : List (S61)) : List (S61))).bind fun y109 => (if 0 ≤ a1 then (if a1 ≤ (l0.length : Int) then ((some (l0.take (a1 : Int).toNat : List (S61))).bind fun y112 => (if y109.length + y112.length < 3518437208883 then ((some (y109 ++ y112 : List (S61))).bind fun y117 => (if 0 ≤ (wrap64 (a1 + 1)) then (if (wrap64 (a1 + 1)) ≤ (l0.length : Int) then ((some (l0.drop ((wrap64 (a1 + 1)) : Int).toNat : List (S61))).bind fun y120 => (if y117.length + y120.length < 3518437208883 then (some (y117 ++ y120)) else (none))) else (none)) else (none))) else (none))) else (none)) else (none))
def spec_l08Without.T1 : Bool × List (List Nat × List Nat) := (true, [([], []), ([], []), ([], []), ([1, 2], [1, 2]), ([0, 3], [0, 3]), ([], []), ([], []), ([6], [6]), ([5, 7], [5, 7]), ([4, 8, 4], [4, 8]), ([9, 9, 0, 1, 2, 3, 4, 5, 6, 7, 8, 9], [9])])
def spec_l08Without.B1 : List Nat := [0, 0, 0, 6, 15, 0, 0, 64, 224, 511, 1023]
theorem spec_l08Without.tab1 : rtab .any (opsOf Try.f52 1) = spec_l08Without.T1 := by kernel_rfl
theorem spec_l08Without.bits1 : waitsOk spec_l08Without.T1.2 spec_l08Without.B1 = true := by kernel_rfl
abbrev spec_l08Without.m0 : Array Bool := #[F,F,F,F,F,F,F,F,F,F,F]
abbrev spec_l08Without.m1 : Array Bool := #[F,T,F,F,F,F,F,F,F,F,F]
abbrev spec_l08Without.m2 : Array Bool := #[F,T,T,F,F,F,F,F,F,F,F]
abbrev spec_l08Without.m3 : Array Bool := #[F,T,T,T,F,F,F,F,F,F,F]
abbrev spec_l08Without.m4 : Array Bool := #[F,T,T,T,F,T,F,F,F,F,F]
abbrev spec_l08Without.m5 : Array Bool := #[F,T,T,T,F,T,T,F,F,F,F]
abbrev spec_l08Without.m6 : Array Bool := #[F,T,T,T,F,T,T,T,F,F,F]
abbrev spec_l08Without.m7 : Array Bool := #[F,T,T,T,F,T,T,T,T,F,F]
abbrev spec_l08Without.m8 : Array Bool := #[T,T,T,T,F,T,T,T,T,F,F]
abbrev spec_l08Without.m9 : Array Bool := #[T,T,T,T,T,T,T,T,T,F,F]
abbrev spec_l08Without.m10 : Array Bool := #[T,T,T,T,T,T,T,T,T,T,F]
abbrev spec_l08Without.m11 : Array Bool := #[T,T,T,T,T,T,T,T,T,T,T]
set_option maxHeartbeats 8000000 in
set_option maxRecDepth 100000 in
theorem spec_l08Without.calls (P0_ : Nat → Prop) (A0 : Option Addr) (c0 : Nat) (l0 : List (S61)) (a1 : Int) (r : List (S61)) (w : World) (hs0 : Kd.V k61 61 w w.heap.size (fun k_ => P0_ k_) (.slice A0 l0.length c0) l0) (h : spec_l08Without.f l0 a1 = some r) :
  Calls Try.prog 52 #[.slice A0 l0.length c0, .int .i64 a1] w fun e w' => ∃ v0_ : Value, e = .returned (v0_) ∧ Kd.N k61 61 w' w.heap.size (fun k_ => (P0_ k_ ∨ w.heap.size ≤ k_)) v0_ r ∧ Below w.heap.size w w' := by
 have HO0:=mk0 (show Kd.V k61 61 w w.heap.size (fun k_=>(P0_ k_ ∨ w.heap.size ≤ k_)) (.slice A0 l0.length c0) l0 from Kd.V_mono hs0 (fun k_ hk=>.inl hk))
 have HB:=mk0 (Below.refl w.heap.size w)
 have H:((some (([]:List (S61)):List (S61))).bind fun y109=>(if 0 ≤ a1 then (if a1 ≤ (l0.length:Int) then ((some (l0.take (a1:Int).toNat:List (S61))).bind fun y112=>(if y109.length + y112.length < 3518437208883 then ((some (y109 ++ y112:List (S61))).bind fun y117=>(if 0 ≤ (wrap64 (a1 + 1)) then (if (wrap64 (a1 + 1)) ≤ (l0.length:Int) then ((some (l0.drop ((wrap64 (a1 + 1)):Int).toNat:List (S61))).bind fun y120=>(if y117.length + y120.length < 3518437208883 then (some (y117 ++ y120)) else (none))) else (none)) else (none))) else (none))) else (none)) else (none))) = some r:=h
 clear h
 obtain⟨y109,hy109⟩:∃ y_:List (S61),y_ = (([]:List (S61))):=⟨_,rfl⟩
 replace H:(if 0 ≤ a1 then (if a1 ≤ (l0.length:Int) then ((some (l0.take (a1:Int).toNat:List (S61))).bind fun y112=>(if y109.length + y112.length < 3518437208883 then ((some (y109 ++ y112:List (S61))).bind fun y117=>(if 0 ≤ (wrap64 (a1 + 1)) then (if (wrap64 (a1 + 1)) ≤ (l0.length:Int) then ((some (l0.drop ((wrap64 (a1 + 1)):Int).toNat:List (S61))).bind fun y120=>(if y117.length + y120.length < 3518437208883 then (some (y117 ++ y120)) else (none))) else (none)) else (none))) else (none))) else (none)) else (none)) = some r:=by first|(rw [hy109];with_reducible exact H)|(have H2_:=(Option.bind_some _ _).symm.trans H;rw [hy109];with_reducible exact H2_)|(have H2_:=(Option.bind_some _ _).symm.trans H;with_reducible exact H2_)|with_reducible exact H|(rw [hy109];exact H)|exact H
 have Ny109:=mk0 hy109
 clear hy109
 by_cases c3:0 ≤ a1
 rotate_left
 ·rw [if_neg c3] at H
  exact absurd H (by simp)

 rw [if_pos c3] at H
 have c3b0:=eq_true c3
 have c3b1:decide (0 ≤ a1) = true:=decide_eq_true c3
 clear c3
 by_cases c4:a1 ≤ (l0.length:Int)
 rotate_left
 ·rw [if_neg c4] at H
  exact absurd H (by simp)
 rw [if_pos c4] at H
 have c4b0:=eq_true c4
 have c4b1:decide (a1 ≤ (l0.length:Int)) = true:=decide_eq_true c4
 clear c4
 obtain⟨y112,hy112⟩:∃ y_:List (S61),y_ = (l0.take (a1:Int).toNat):=⟨_,rfl⟩
 replace H:(if y109.length + y112.length < 3518437208883 then ((some (y109 ++ y112:List (S61))).bind fun y117=>(if 0 ≤ (wrap64 (a1 + 1)) then (if (wrap64 (a1 + 1)) ≤ (l0.length:Int) then ((some (l0.drop ((wrap64 (a1 + 1)):Int).toNat:List (S61))).bind fun y120=>(if y117.length + y120.length < 3518437208883 then (some (y117 ++ y120)) else (none))) else (none)) else (none))) else (none)) = some r:=by first|(rw [hy112];with_reducible exact H)|(have H2_:=(Option.bind_some _ _).symm.trans H;rw [hy112];with_reducible exact H2_)|(have H2_:=(Option.bind_some _ _).symm.trans H;with_reducible exact H2_)|with_reducible exact H|(rw [hy112];exact H)|exact H
 have Ny112:=mk0 hy112
 clear hy112
 by_cases c5:y109.length + y112.length < 3518437208883
 rotate_left
 ·rw [if_neg c5] at H
  exact absurd H (by simp)
 rw [if_pos c5] at H
 have LMc5:=mk0 c5
 clear c5
 obtain⟨y117,hy117⟩:∃ y_:List (S61),y_ = (y109 ++ y112):=⟨_,rfl⟩
 replace H:(if 0 ≤ (wrap64 (a1 + 1)) then (if (wrap64 (a1 + 1)) ≤ (l0.length:Int) then ((some (l0.drop ((wrap64 (a1 + 1)):Int).toNat:List (S61))).bind fun y120=>(if y117.length + y120.length < 3518437208883 then (some (y117 ++ y120)) else (none))) else (none)) else (none)) = some r:=by first|(rw [hy117];with_reducible exact H)|(have H2_:=(Option.bind_some _ _).symm.trans H;rw [hy117];with_reducible exact H2_)|(have H2_:=(Option.bind_some _ _).symm.trans H;with_reducible exact H2_)|with_reducible exact H|(rw [hy117];exact H)|exact H
 have Ny117:=mk0 hy117
 clear hy117
 obtain⟨ji6,hji6⟩:∃ j_:Int,(wrap64 (a1 + 1)) = j_:=⟨_,rfl⟩
 replace H:(if 0 ≤ (ji6) then (if (ji6) ≤ (l0.length:Int) then ((some (l0.drop ((ji6):Int).toNat:List (S61))).bind fun y120=>(if y117.length + y120.length < 3518437208883 then (some (y117 ++ y120)) else (none))) else (none)) else (none)) = some r:=by first|(rw [hji6] at H;exact H)|(simp only [hji6] at H ⊢;exact H)
 have hji6w:(IntKind.i64.wrap (a1 + 1)) = ji6:=(i64_w _).trans hji6
 by_cases c7:0 ≤ (ji6)
 rotate_left
 ·rw [if_neg c7] at H
  exact absurd H (by simp)
 rw [if_pos c7] at H
 have c7b0:=eq_true c7
 have c7b1:decide (0 ≤ (ji6)) = true:=decide_eq_true c7
 clear c7
 by_cases c8:(ji6) ≤ (l0.length:Int)
 rotate_left
 ·rw [if_neg c8] at H
  exact absurd H (by simp)
 rw [if_pos c8] at H
 have c8b0:=eq_true c8
 have c8b1:decide ((ji6) ≤ (l0.length:Int)) = true:=decide_eq_true c8
 clear c8
 obtain⟨y120,hy120⟩:∃ y_:List (S61),y_ = (l0.drop ((ji6):Int).toNat):=⟨_,rfl⟩
 replace H:(if y117.length + y120.length < 3518437208883 then (some (y117 ++ y120)) else (none)) = some r:=by first|(rw [hy120];with_reducible exact H)|(have H2_:=(Option.bind_some _ _).symm.trans H;rw [hy120];with_reducible exact H2_)|(have H2_:=(Option.bind_some _ _).symm.trans H;with_reducible exact H2_)|with_reducible exact H|(rw [hy120];exact H)|exact H
 have Ny120:=mk0 hy120
 clear hy120
 by_cases c9:y117.length + y120.length < 3518437208883
 rotate_left
 ·rw [if_neg c9] at H
  exact absurd H (by simp)
 rw [if_pos c9] at H
 have LMc9:=mk0 c9
 clear c9
 obtain⟨y125,hy125⟩:∃ y_:List (S61),y_ = (y117 ++ y120):=⟨_,rfl⟩
 replace H:(some y125) = some r:=by first|(rw [hy125];with_reducible exact H)|(have H2_:=(Option.bind_some _ _).symm.trans H;rw [hy125];with_reducible exact H2_)|(have H2_:=(Option.bind_some _ _).symm.trans H;with_reducible exact H2_)|with_reducible exact H|(rw [hy125];exact H)|exact H
 have Ny125:=mk0 hy125
 clear hy125
 obtain rfl:=Option.some.inj H
 go_enter Try.func52,Try.ntmps52
 try go_wp2
 replace HO0:=mk0 (dV HO0.out)
 replace HB:=mk0 (dZ HB.out)
 have q11:(a1:Int) ≤ ((l0.length:Int):Int):=of_decide_eq_true (by first|(with_reducible assumption)|assumption)
 obtain⟨i011,hi011,_,hsz11,_⟩:=info_parts info61
 have hroom11:l0.length ≤ c0:=(Kd.V_reads' HO0.out).2.1
 have hC11:Kd.F k61 _ _ A0 l0.length l0:=(Kd.V_at (base:=w.heap.size) HO0.out).2.2
 have hcut11:=cut_to (P:=Try.prog) 59 61 .i64 Try.underlying59 hi011 A0 l0.length c0 a1 (of_decide_eq_true (by first|(with_reducible assumption)|assumption)) q11 hroom11
 have hr11:=Kd.F_take (m:=(a1:Int).toNat) hC11 (by omega)
 have hy11:y112.length = (a1:Int).toNat:=(by rw [Ny112.out,List.length_take];omega)
 rw [← Ny112.out] at hr11
 rw [← hy11] at hcut11
 have HO116:=mk0 (show Kd.V k61 61 _ w.heap.size _ (.slice A0 y112.length c0) y112 from Kd.V_mk (by omega) hr11)
 have HC116:=mk0 (show y112.length ≤ c0 from by omega)
 clear hr11 hC11 hroom11 hi011 hsz11
 have KY11:=mk0 hy11
 clear hy11
 replace q11:=eq_true q11
 have q12:((ji6):Int) ≤ ((l0.length:Int):Int):=of_decide_eq_true (by first|(with_reducible assumption)|assumption)
 obtain⟨i012,hi012,_,hsz12,_⟩:=info_parts info61
 have hroom12:l0.length ≤ c0:=(Kd.V_reads' HO0.out).2.1
 have hC12:Kd.F k61 _ _ A0 l0.length l0:=(Kd.V_at (base:=w.heap.size) HO0.out).2.2
 have q012:(0:Int) ≤ ((ji6):Int):=of_decide_eq_true (by first|(with_reducible assumption)|assumption)
 have hcut12:=cut_from (P:=Try.prog) 59 61 .i64 Try.underlying59 hi012 3 hsz12 A0 l0.length c0 (ji6) q012 q12
 have hr12:=Kd.F_cut (m:=((ji6):Int).toNat) (c:=c0) hC12 (by omega) hroom12
 obtain⟨A12,hA12⟩:∃ A1,A1 = (if c0 = ((ji6):Int).toNat then A0 else (A0:Option Addr).map (·.add (((ji6):Int).toNat * 3))):=⟨_,rfl⟩
 obtain⟨c12,hc12⟩:∃ c1,c1 = c0 - ((ji6):Int).toNat:=⟨_,rfl⟩
 have hy12:y120.length = l0.length - ((ji6):Int).toNat:=(by rw [Ny120.out,List.length_drop] <;> omega)
 rw [show (l0).drop ((ji6):Int).toNat = y120 from Ny120.out.symm] at hr12
 replace hr12:Kd.F k61 _ _ A12 y120.length y120:=(by rw [hA12];exact hr12)
 rw [← hy12, ← hA12, ← hc12] at hcut12
 have HO124:=mk0 (show Kd.V k61 61 _ w.heap.size _ (.slice A12 y120.length c12) y120 from Kd.V_mk (by rw [hy12,hc12];exact Nat.sub_le_sub_right hroom12 _) hr12)
 have HC124:=mk0 (show y120.length ≤ c12 from by rw [hy12,hc12];exact Nat.sub_le_sub_right hroom12 _)
 clear hr12 hC12 hroom12 hi012 hsz12 hc12
 have KY12:=mk0 hy12
 have KA12:=mk0 hA12
 clear hy12 hA12
 replace q12:=eq_true q12
 refine start_ (n:=11) (S:=fun w'=>True) (ds:=[]) spec_l08Without.m0 (by kernel_rfl) rfl rfl trivial (fun hHeld=>?_);refine with_tabW spec_l08Without.tab1 spec_l08Without.bits1 (fun HT_ HW_=>?_)
 generalize w.drew = w10 at HO0 HB HO116 HO124 hHeld ⊢
 refine pure_ (i:=1) (N:=some 6) (v:=?_) (a':=?_) spec_l08Without.m1 rfl rfl (any_of HT_.out (by kernel_rfl)) (fun _ _ _ h=>h) (Or.inl ⟨by rfl,?_⟩) ?_ ?_
 rotate_left
 ·intro w'
  go_simp
  with_reducible rfl
 rotate_left
 ·simp only [Act.put,sA,sO,sS,i64_w,i32_w]
  rfl
 refine pure_ (i:=2) (N:=some 7) (v:=?_) (a':=?_) spec_l08Without.m2 rfl rfl (any_of HT_.out (by kernel_rfl)) (fun _ _ _ h=>h) (Or.inl ⟨by rfl,?_⟩) ?_ ?_
 rotate_left
 ·intro w'
  go_simp
  with_reducible rfl
 rotate_left
 ·simp only [Act.put,sA,sO,sS,i64_w,i32_w]
  rfl
 refine pure_ (i:=3) (N:=some 8) (v:=?_) (a':=?_) spec_l08Without.m3 rfl rfl (any_of HT_.out (by kernel_rfl)) (fun _ _ _ h=>h) (Or.inl ⟨by rfl,?_⟩) ?_ ?_
 rotate_left
 ·intro w'
  go_simp
  with_reducible rfl
 rotate_left
 ·simp only [Act.put,sA,sO,sS,i64_w,i32_w]
  rfl
 refine pure_ (i:=5) (N:=some 10) (v:=?_) (a':=?_) spec_l08Without.m4 rfl rfl (any_of HT_.out (by kernel_rfl)) (fun _ _ _ h=>h) (Or.inl ⟨by rfl,?_⟩) ?_ ?_
 rotate_left
 ·intro w'
  go_simp
  with_reducible rfl
 rotate_left
 ·simp only [Act.put,sA,sO,sS,i64_w,i32_w]
  rfl
 refine pure_ (i:=6) (N:=some 11) (v:=?_) (a':=?_) spec_l08Without.m5 rfl rfl (any_of HT_.out (by kernel_rfl)) (fun _ _ _ h=>h) (Or.inl ⟨by rfl,?_⟩) ?_ ?_
 rotate_left
 ·intro w'
  go_simp
  with_reducible rfl
 rotate_left
 ·simp only [Act.put,sA,sO,sS,i64_w,i32_w]
  rfl
 refine pure_ (i:=7) (N:=some 12) (v:=?_) (a':=?_) spec_l08Without.m6 rfl rfl (any_of HT_.out (by kernel_rfl)) (fun _ _ _ h=>h) (Or.inl ⟨by rfl,?_⟩) ?_ ?_
 rotate_left
 ·intro w'
  go_simp
  with_reducible rfl
 rotate_left
 ·simp only [Act.put,sA,sO,sS,i64_w,i32_w]
  rfl
 refine pure_ (i:=8) (N:=some 13) (v:=?_) (a':=?_) spec_l08Without.m7 rfl rfl (any_of HT_.out (by kernel_rfl)) (fun _ _ _ h=>h) (Or.inl ⟨by rfl,?_⟩) ?_ ?_
 rotate_left
 ·intro w'
  go_simp
  with_reducible rfl
 rotate_left
 ·simp only [Act.put,sA,sO,sS,i64_w,i32_w]
  rfl
 refine one_ (i:=0) (N:=some 5) spec_l08Without.m8 rfl rfl (one_of HT_.out (by kernel_rfl)) (by decide) (fun K hK=>?_)
 refine Kd.N_lit_step k61 _ 61 ?hg (N':=5) ?hd (xs:=([]:List (S61))) (inner:=[]) (ok:=(fun k_=>(P0_ k_ ∨ w.heap.size ≤ k_))) (okp:=(fun k_=>(P0_ k_ ∨ w.heap.size ≤ k_))) ?hr ?hp (fun _ hk=>hk) ((show ∀ k_,w10.heap.size ≤ k_ → (fun k_=>(P0_ k_ ∨ w.heap.size ≤ k_)) k_ from fun k_ hk=>(.inr (Nat.le_trans (kZ HB.out) hk))) _ (Nat.le_refl _)) (Below.refl _ _) (Nat.le_refl _) (by simp) ?_;(case hd=>rfl);(case hg=>rfl);(case hr=>first|(go_simp;done)|(go_simp;rfl));(case hp=>exact (Reps.none _ _))
 intro v110 w13 ho14 hb hg_ hnew_
 clear hg_ hnew_
 (first|rw [← Ny109.out] at ho14|(simp only [Int.reduceToNat] at ho14;rw [← Ny109.out] at ho14))
 replace HO0:=mk0 (Kd.V_elder' (rV HO0.out) (Kd.N_base ho14) hb)
 replace HO116:=mk0 (Kd.V_elder' (rV HO116.out) (Kd.N_base ho14) hb)
 replace HO124:=mk0 (Kd.V_elder' (rV HO124.out) (Kd.N_base ho14) hb)
 have HO111:=mk0 (Kd.N_lower ho14 (kZ HB.out))
 replace HB:=mk0 (kS HB.out hb)
 clear hb ho14
 refine hK.out _ _ trivial (fun hHeld=>?_)
 clear hK K
 refine norm_ (a':=?_) ?_ ?_
 rotate_left
 ·show Act.put _ (some 5) _ = _
  simp only [Act.put,sA,sO,sS,i64_w,i32_w]
  rfl
 refine one_ (i:=4) (N:=some 9) spec_l08Without.m9 rfl rfl (one_of HT_.out (by kernel_rfl)) (by decide) (fun K hK=>?_)
 refine Kd.N_append_rows_step k61 (w0:=w) w.heap.size (by rfl) (.tmp 5) (.tmp 8) 59 61 (.agg #[(.int .i64 0),(.int .i64 0),(.slice none 0 0)]) 40 rfl Try.underlying59 info61 rfl (by decide) (by omega) v110 y109 y112 _ _ _ (fun k_=>(P0_ k_ ∨ w.heap.size ≤ k_)) (fun k_=>((fun k_=>(P0_ k_ ∨ w.heap.size ≤ k_))) k_ ∧ some k_ ≠ (v110:Value).ownBlock) rfl rfl ?aO ?aR (fun _ hk=>hk) ?aF ?aB ?aS ?aL ?_
 (case aR=>exact (by skip;exact Kd.V_F (Kd.V_mono (ok':=(fun k_=>((fun k_=>(P0_ k_ ∨ w.heap.size ≤ k_))) k_ ∧ some k_ ≠ (v110:Value).ownBlock)) (HO116.out) (fun k_ hk=>⟨hk.1,hk.2⟩))))
 (case aB=>exact (kB HB.out))
 (case aF=>exact (fun k_ hk=>(.inr (Nat.le_trans (kZ HB.out) hk))))
 (case aO=>exact (rN HO111.out))
 (case aS=>exact (kZ HB.out))
 (case aL=>have:=LMc5.out;omega)
 intro v118 w15 ho hb hg hat
 rw [← Ny117.out] at ho
 replace HO0:=mk0 (Kd.V_afterv (ok:=(fun k_=>(P0_ k_ ∨ w.heap.size ≤ k_))) (rV HO0.out) hg hat)
 replace HO116:=mk0 (Kd.V_afterv (ok:=(fun k_=>(P0_ k_ ∨ w.heap.size ≤ k_))) (rV HO116.out) hg hat)
 replace HO124:=mk0 (Kd.V_afterv (ok:=(fun k_=>(P0_ k_ ∨ w.heap.size ≤ k_))) (rV HO124.out) hg hat)
 replace HB:=mk0 (hb)
 have HO119:=mk0 (ho)
 clear HO111
 clear ho hb hg hat
 refine hK.out _ _ trivial (fun hHeld=>?_)
 clear hK K
 refine norm_ (a':=?_) ?_ ?_
 rotate_left
 ·show Act.put _ (some 9) _ = _
  simp only [Act.put,sA,sO,sS,i64_w,i32_w]
  rfl
 refine one_ (i:=9) (N:=some 14) spec_l08Without.m10 rfl rfl (one_of HT_.out (by kernel_rfl)) (by decide) (fun K hK=>?_)
 refine Kd.N_append_rows_step k61 (w0:=w) w.heap.size (by rfl) (.tmp 9) (.tmp 13) 59 61 (.agg #[(.int .i64 0),(.int .i64 0),(.slice none 0 0)]) 40 rfl Try.underlying59 info61 rfl (by decide) (by omega) v118 y117 y120 _ _ _ (fun k_=>(P0_ k_ ∨ w.heap.size ≤ k_)) (fun k_=>((fun k_=>(P0_ k_ ∨ w.heap.size ≤ k_))) k_ ∧ some k_ ≠ (v118:Value).ownBlock) rfl rfl ?aO ?aR (fun _ hk=>hk) ?aF ?aB ?aS ?aL ?_
 (case aR=>exact (by skip;exact Kd.V_F (Kd.V_mono (ok':=(fun k_=>((fun k_=>(P0_ k_ ∨ w.heap.size ≤ k_))) k_ ∧ some k_ ≠ (v118:Value).ownBlock)) (HO124.out) (fun k_ hk=>⟨hk.1,hk.2⟩))))
 (case aB=>exact (kB HB.out))
 (case aF=>exact (fun k_ hk=>(.inr (Nat.le_trans (kZ HB.out) hk))))
 (case aO=>exact (rN HO119.out))
 (case aS=>exact (kZ HB.out))
 (case aL=>have:=LMc9.out;omega)
 intro v126 w16 ho hb hg hat
 rw [← Ny125.out] at ho
 replace HO0:=mk0 (Kd.V_afterv (ok:=(fun k_=>(P0_ k_ ∨ w.heap.size ≤ k_))) (rV HO0.out) hg hat)
 replace HO116:=mk0 (Kd.V_afterv (ok:=(fun k_=>(P0_ k_ ∨ w.heap.size ≤ k_))) (rV HO116.out) hg hat)
 replace HO124:=mk0 (Kd.V_afterv (ok:=(fun k_=>(P0_ k_ ∨ w.heap.size ≤ k_))) (rV HO124.out) hg hat)
 replace HB:=mk0 (hb)
 have HO127:=mk0 (ho)
 clear HO119
 clear ho hb hg hat
 refine hK.out _ _ trivial (fun hHeld=>?_)
 clear hK K
 refine norm_ (a':=?_) ?_ ?_
 rotate_left
 ·show Act.put _ (some 14) _ = _
  simp only [Act.put,sA,sO,sS,i64_w,i32_w]
  rfl
 refine pure_ (i:=10) (N:=some 4) (v:=?_) (a':=?_) spec_l08Without.m11 rfl rfl (any_of HT_.out (by kernel_rfl)) (fun _ _ _ h=>h) (Or.inl ⟨by rfl,?_⟩) ?_ ?_
 rotate_left
 ·intro w'
  go_simp
  with_reducible rfl
 rotate_left
 ·simp only [Act.put,sA,sO,sS,i64_w,i32_w]
  rfl
 refine done_ (done_of HT_.out (by kernel_rfl)) ?_
 try go_wp2
 go_ret
 exact⟨_,by first|rfl|(simp [errW_none,errW_some] <;> rfl)|(simp only [← hji6];first|rfl|(simp [errW_none,errW_some] <;> rfl))|(simp [*,errW_none,errW_some] <;> rfl),rN HO127.out,kB HB.out⟩
end Go.Proofs.Ytgjmmegmkdklbaa.QFnHuffBest
