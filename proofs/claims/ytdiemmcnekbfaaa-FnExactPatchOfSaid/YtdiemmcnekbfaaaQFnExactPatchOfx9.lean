-- A walk, made by walk.py, a program of this session's.
import Derived.Test.YtdiemmcnekbfaaaQFnExactPatchOfx0
namespace Go.Proofs.Ytdiemmcnekbfaaa.QFnExactPatchOf
open Go.RowKit Go.Proofs.YtdiemmcnekbfaaaW.PrintWords Go.Proofs.YtdiemmcnekbfaaaW.PrintLast Go.Proofs.YtdiemmcnekbfaaaW.PrintMore
attribute [local go_sem] max2_int min2_int max_two min_two max_three min_three max_four min_four   -- for this text's walks alone
set_option linter.unusedVariables false
set_option linter.unusedSimpArgs false

/-! ### laws_eqIntS: function 10 -/
def laws_eqIntS.l0 : Nat → List Int → List Int → Int → Option (Bool)
 | 0, _, _, _ => none
 | k + 1, x0, x1, x5 => if x5 < (x0.length : Int) then (if 0 ≤ x5 then (if x5 < (x1.length : Int) then (if (rd x0 x5) = (rd x1 x5) then (laws_eqIntS.l0 k x0 x1 (wrap64 (x5 + 1))) else (some false)) else (none)) else (none)) else (some true)
def laws_eqIntS.f (k : Nat) (l0 : List Int) (l1 : List Int) : Option (Bool) := if (l0.length : Int) = (l1.length : Int) then (laws_eqIntS.l0 k l0 l1 0) else (some false)
theorem laws_eqIntS.mono_l : ∀ k, (∀ y0 y1 y2, LeO (laws_eqIntS.l0 k y0 y1 y2) (laws_eqIntS.l0 (k + 1) y0 y1 y2))
 | 0 => fun _ _ _ r h => by simp [laws_eqIntS.l0] at h
 | k + 1 => by
  have ih0 := laws_eqIntS.mono_l k
  ·intro y0 y1 y2
   unfold laws_eqIntS.l0
   repeat' first|(with_reducible first|exact ih0 _ _ _|exact LeO.refl _|exact LeO.none _|refine LeO.ite ?_ ?_|refine LeO.bind ?_ (fun _ => ?_))|exact LeO.none _|refine LeO.ite ?_ ?_|refine LeO.bind ?_ (fun _ => ?_)
theorem laws_eqIntS.mono : ∀ a0 a1 k, LeO (laws_eqIntS.f k a0 a1) (laws_eqIntS.f (k + 1) a0 a1) := by
 intro a0 a1 k
 have ih0 := laws_eqIntS.mono_l k
 unfold laws_eqIntS.f
 repeat' first|(with_reducible first|exact ih0 _ _ _|exact LeO.refl _|exact LeO.none _|refine LeO.ite ?_ ?_|refine LeO.bind ?_ (fun _ => ?_))|exact LeO.none _|refine LeO.ite ?_ ?_|refine LeO.bind ?_ (fun _ => ?_)
set_option maxHeartbeats 8000000 in
set_option maxRecDepth 100000 in
theorem laws_eqIntS.calls (k : Nat) (A0 : Option Addr) (c0 : Nat) (l0 : List Int) (A1 : Option Addr) (c1 : Nat) (l1 : List Int) (r : Bool) (w : World) (hr0 : Kd.C (Kd.int .i64) w A0 l0.length l0) (hc0 : l0.length ≤ c0) (hr1 : Kd.C (Kd.int .i64) w A1 l1.length l1) (hc1 : l1.length ≤ c1) (h : laws_eqIntS.f k l0 l1 = some r) :
  Calls Try.prog 10 #[.slice A0 l0.length c0, .slice A1 l1.length c1] w fun e w' => e = .returned (.bool r) ∧ Drawn0 w w' := by
 have HR0:=mk0 hr0
 have HC0:=mk0 hc0
 clear hr0 hc0
 have HR1:=mk0 hr1
 have HC1:=mk0 hc1
 clear hr1 hc1
 have H:(if (l0.length:Int) = (l1.length:Int) then (laws_eqIntS.l0 k l0 l1 0) else (some false)) = some r:=h
 clear h
 by_cases c3:(l0.length:Int) = (l1.length:Int)
 ·rw [if_pos c3] at H
  have c3b0:((l0.length:Int) == (l1.length:Int)) = true:=beq_iff_eq.mpr c3
  have c3b1:((l0.length:Int) != (l1.length:Int)) = false:=bne_eq_false_iff_eq.mpr c3
  have c3b2:(l0.length == l1.length) = true:=by first|simpa using c3|(simp at c3 ⊢;omega)
  clear c3
  have H':=mk0 H
  clear H
  go_enter Try.func10,Try.ntmps10
  go_wp2
  repeat (go_quiet (fail);try go_wp2)
  go_loopg [5] k (fun kq v5 w'=>∃ (x5_1:Int),v5 = .int .i64 x5_1 ∧ Aside0 (laws_eqIntS.l0 kq l0 l1 x5_1 = some r) ∧ Aside0 (kq ≤ k) ∧ Drawn0 w w')
  case atStart=>exact⟨(0),(by first|rfl|(simp;done)|(simp [*];done)),H',⟨Nat.le_refl _⟩,by repeat (first|exact Drawn0.refl _|apply Drawn0.step)⟩
  case round =>
   clear H'
   try clear c1
   try clear p2
   try clear c3
   try clear c3b0
   try clear c3b1
   try clear c3b2
   obtain⟨x5_1,rfl,HA,HK1,⟨m1,rfl⟩⟩:=hrel
   cases gk with
   | zero=>exact absurd HA.out (by simp [laws_eqIntS.l0])
   | succ k1 =>
    have H:=HA.out
    clear HA
    simp only [laws_eqIntS.l0] at H
    by_cases c4:x5_1 < (l0.length:Int)
    ·rw [if_pos c4] at H
     have c4b0:decide (x5_1 < (l0.length:Int)) = true:=decide_eq_true c4
     clear c4
     by_cases c5:0 ≤ x5_1
     ·rw [if_pos c5] at H
      have c5b0:decide (0 ≤ x5_1) = true:=decide_eq_true c5
      clear c5
      by_cases c6:x5_1 < (l1.length:Int)
      ·rw [if_pos c6] at H
       have c6b0:decide (x5_1 < (l1.length:Int)) = true:=decide_eq_true c6
       clear c6
       by_cases c7:(rd l0 x5_1) = (rd l1 x5_1)
       ·rw [if_pos c7] at H
        have c7b0:((rd l0 x5_1) == (rd l1 x5_1)) = true:=beq_iff_eq.mpr c7
        have c7b1:((rd l0 x5_1) != (rd l1 x5_1)) = false:=bne_eq_false_iff_eq.mpr c7
        clear c7
        have H':=mk0 H
        clear H
        have p302:0 ≤ (x5_1:Int):=of_decide_eq_true (by first|(with_reducible assumption)|assumption)
        have q302:x5_1 < (l0.length:Int):=of_decide_eq_true (by first|(with_reducible assumption)|assumption)
        obtain⟨ad302,e302,hx302_0⟩:=Kd.at_int HR0.out x5_1 p302 q302
        cases e302
        replace p302:=eq_true p302
        replace q302:=eq_true q302
        have p303:0 ≤ (x5_1:Int):=of_decide_eq_true (by first|(with_reducible assumption)|assumption)
        have q303:x5_1 < (l1.length:Int):=of_decide_eq_true (by first|(with_reducible assumption)|assumption)
        obtain⟨ad303,e303,hx303_0⟩:=Kd.at_int HR1.out x5_1 p303 q303
        cases e303
        replace p303:=eq_true p303
        replace q303:=eq_true q303
        go_wp2
        repeat (go_quiet (fail);try go_wp2)
        go_roundg k1
        case measure=>have:=HK1.out;omega
        case rel=>exact⟨(wrap64 (x5_1 + 1)),(by first|rfl|(simp;done)|(simp [*];done)),H',⟨by have:=HK1.out;omega⟩,by repeat (first|exact Drawn0.refl _|apply Drawn0.step)⟩
       ·rw [if_neg c7] at H
        have c7b0:((rd l0 x5_1) == (rd l1 x5_1)) = false:=beq_eq_false_iff_ne.mpr c7
        have c7b1:((rd l0 x5_1) != (rd l1 x5_1)) = true:=bne_iff_ne.mpr c7
        obtain rfl:=Option.some.inj H
        have p302:0 ≤ (x5_1:Int):=of_decide_eq_true (by first|(with_reducible assumption)|assumption)
        have q302:x5_1 < (l0.length:Int):=of_decide_eq_true (by first|(with_reducible assumption)|assumption)
        obtain⟨ad302,e302,hx302_0⟩:=Kd.at_int HR0.out x5_1 p302 q302
        cases e302
        replace p302:=eq_true p302
        replace q302:=eq_true q302
        have p303:0 ≤ (x5_1:Int):=of_decide_eq_true (by first|(with_reducible assumption)|assumption)
        have q303:x5_1 < (l1.length:Int):=of_decide_eq_true (by first|(with_reducible assumption)|assumption)
        obtain⟨ad303,e303,hx303_0⟩:=Kd.at_int HR1.out x5_1 p303 q303
        cases e303
        replace p303:=eq_true p303
        replace q303:=eq_true q303
        go_wp2
        repeat (go_quiet (fail);try go_wp2)
        go_ret
        exact⟨by first|rfl|(simp;done)|(simp [*];done),by repeat (first|exact Drawn0.refl _|apply Drawn0.step)⟩
      ·rw [if_neg c6] at H
       exact absurd H (by simp)
     ·rw [if_neg c5] at H
      exact absurd H (by simp)
    ·rw [if_neg c4] at H
     have c4b0:decide (x5_1 < (l0.length:Int)) = false:=decide_eq_false c4
     clear c4
     obtain rfl:=Option.some.inj H
     go_wp2
     repeat (go_quiet (fail);try go_wp2)
     go_ret
     exact⟨by first|rfl|(simp;done)|(simp [*];done),by repeat (first|exact Drawn0.refl _|apply Drawn0.step)⟩
 ·rw [if_neg c3] at H
  have c3b0:((l0.length:Int) == (l1.length:Int)) = false:=beq_eq_false_iff_ne.mpr c3
  have c3b1:((l0.length:Int) != (l1.length:Int)) = true:=bne_iff_ne.mpr c3
  have c3b2:(l0.length == l1.length) = false:=by first|simpa using c3|(simp at c3 ⊢;omega)
  obtain rfl:=Option.some.inj H
  go_enter Try.func10,Try.ntmps10
  go_wp2
  repeat (go_quiet (fail);try go_wp2)
  go_ret
  exact⟨by first|rfl|(simp;done)|(simp [*];done),by repeat (first|exact Drawn0.refl _|apply Drawn0.step)⟩

/-! ### laws_eqUint64S: function 51 -/
def laws_eqUint64S.l0 : Nat → List Int → List Int → Int → Option (Bool)
 | 0, _, _, _ => none
 | k + 1, x0, x1, x5 => if x5 < (x0.length : Int) then (if 0 ≤ x5 then (if x5 < (x1.length : Int) then (if (rd x0 x5) = (rd x1 x5) then (laws_eqUint64S.l0 k x0 x1 (wrap64 (x5 + 1))) else (some false)) else (none)) else (none)) else (some true)
def laws_eqUint64S.f (k : Nat) (l0 : List Int) (l1 : List Int) : Option (Bool) := if (l0.length : Int) = (l1.length : Int) then (laws_eqUint64S.l0 k l0 l1 0) else (some false)
theorem laws_eqUint64S.mono_l : ∀ k, (∀ y0 y1 y2, LeO (laws_eqUint64S.l0 k y0 y1 y2) (laws_eqUint64S.l0 (k + 1) y0 y1 y2))
 | 0 => fun _ _ _ r h => by simp [laws_eqUint64S.l0] at h
 | k + 1 => by
  have ih0 := laws_eqUint64S.mono_l k
  ·intro y0 y1 y2
   unfold laws_eqUint64S.l0
   repeat' first|(with_reducible first|exact ih0 _ _ _|exact LeO.refl _|exact LeO.none _|refine LeO.ite ?_ ?_|refine LeO.bind ?_ (fun _ => ?_))|exact LeO.none _|refine LeO.ite ?_ ?_|refine LeO.bind ?_ (fun _ => ?_)
theorem laws_eqUint64S.mono : ∀ a0 a1 k, LeO (laws_eqUint64S.f k a0 a1) (laws_eqUint64S.f (k + 1) a0 a1) := by
 intro a0 a1 k
 have ih0 := laws_eqUint64S.mono_l k
 unfold laws_eqUint64S.f
 repeat' first|(with_reducible first|exact ih0 _ _ _|exact LeO.refl _|exact LeO.none _|refine LeO.ite ?_ ?_|refine LeO.bind ?_ (fun _ => ?_))|exact LeO.none _|refine LeO.ite ?_ ?_|refine LeO.bind ?_ (fun _ => ?_)
set_option maxHeartbeats 8000000 in
set_option maxRecDepth 100000 in
theorem laws_eqUint64S.calls (k : Nat) (A0 : Option Addr) (c0 : Nat) (l0 : List Int) (A1 : Option Addr) (c1 : Nat) (l1 : List Int) (r : Bool) (w : World) (hr0 : Kd.C (Kd.int .u64) w A0 l0.length l0) (hc0 : l0.length ≤ c0) (hr1 : Kd.C (Kd.int .u64) w A1 l1.length l1) (hc1 : l1.length ≤ c1) (h : laws_eqUint64S.f k l0 l1 = some r) :
  Calls Try.prog 51 #[.slice A0 l0.length c0, .slice A1 l1.length c1] w fun e w' => e = .returned (.bool r) ∧ Drawn0 w w' := by
 have HR0:=mk0 hr0
 have HC0:=mk0 hc0
 clear hr0 hc0
 have HR1:=mk0 hr1
 have HC1:=mk0 hc1
 clear hr1 hc1
 have H:(if (l0.length:Int) = (l1.length:Int) then (laws_eqUint64S.l0 k l0 l1 0) else (some false)) = some r:=h
 clear h
 by_cases c3:(l0.length:Int) = (l1.length:Int)
 ·rw [if_pos c3] at H
  have c3b0:((l0.length:Int) == (l1.length:Int)) = true:=beq_iff_eq.mpr c3
  have c3b1:((l0.length:Int) != (l1.length:Int)) = false:=bne_eq_false_iff_eq.mpr c3
  have c3b2:(l0.length == l1.length) = true:=by first|simpa using c3|(simp at c3 ⊢;omega)
  clear c3
  have H':=mk0 H
  clear H
  go_enter Try.func51,Try.ntmps51
  go_wp2
  repeat (go_quiet (fail);try go_wp2)
  go_loopg [5] k (fun kq v5 w'=>∃ (x5_1:Int),v5 = .int .i64 x5_1 ∧ Aside0 (laws_eqUint64S.l0 kq l0 l1 x5_1 = some r) ∧ Aside0 (kq ≤ k) ∧ Drawn0 w w')
  case atStart=>exact⟨(0),(by first|rfl|(simp;done)|(simp [*];done)),H',⟨Nat.le_refl _⟩,by repeat (first|exact Drawn0.refl _|apply Drawn0.step)⟩
  case round =>
   clear H'
   try clear c1
   try clear p2
   try clear c3
   try clear c3b0
   try clear c3b1
   try clear c3b2
   obtain⟨x5_1,rfl,HA,HK1,⟨m1,rfl⟩⟩:=hrel
   cases gk with
   | zero=>exact absurd HA.out (by simp [laws_eqUint64S.l0])
   | succ k1 =>
    have H:=HA.out
    clear HA
    simp only [laws_eqUint64S.l0] at H
    by_cases c4:x5_1 < (l0.length:Int)
    ·rw [if_pos c4] at H
     have c4b0:decide (x5_1 < (l0.length:Int)) = true:=decide_eq_true c4
     clear c4
     by_cases c5:0 ≤ x5_1
     ·rw [if_pos c5] at H
      have c5b0:decide (0 ≤ x5_1) = true:=decide_eq_true c5
      clear c5
      by_cases c6:x5_1 < (l1.length:Int)
      ·rw [if_pos c6] at H
       have c6b0:decide (x5_1 < (l1.length:Int)) = true:=decide_eq_true c6
       clear c6
       by_cases c7:(rd l0 x5_1) = (rd l1 x5_1)
       ·rw [if_pos c7] at H
        have c7b0:((rd l0 x5_1) == (rd l1 x5_1)) = true:=beq_iff_eq.mpr c7
        have c7b1:((rd l0 x5_1) != (rd l1 x5_1)) = false:=bne_eq_false_iff_eq.mpr c7
        clear c7
        have H':=mk0 H
        clear H
        have p304:0 ≤ (x5_1:Int):=of_decide_eq_true (by first|(with_reducible assumption)|assumption)
        have q304:x5_1 < (l0.length:Int):=of_decide_eq_true (by first|(with_reducible assumption)|assumption)
        obtain⟨ad304,e304,hx304_0⟩:=Kd.at_int HR0.out x5_1 p304 q304
        cases e304
        replace p304:=eq_true p304
        replace q304:=eq_true q304
        have p305:0 ≤ (x5_1:Int):=of_decide_eq_true (by first|(with_reducible assumption)|assumption)
        have q305:x5_1 < (l1.length:Int):=of_decide_eq_true (by first|(with_reducible assumption)|assumption)
        obtain⟨ad305,e305,hx305_0⟩:=Kd.at_int HR1.out x5_1 p305 q305
        cases e305
        replace p305:=eq_true p305
        replace q305:=eq_true q305
        go_wp2
        repeat (go_quiet (fail);try go_wp2)
        go_roundg k1
        case measure=>have:=HK1.out;omega
        case rel=>exact⟨(wrap64 (x5_1 + 1)),(by first|rfl|(simp;done)|(simp [*];done)),H',⟨by have:=HK1.out;omega⟩,by repeat (first|exact Drawn0.refl _|apply Drawn0.step)⟩
       ·rw [if_neg c7] at H
        have c7b0:((rd l0 x5_1) == (rd l1 x5_1)) = false:=beq_eq_false_iff_ne.mpr c7
        have c7b1:((rd l0 x5_1) != (rd l1 x5_1)) = true:=bne_iff_ne.mpr c7
        obtain rfl:=Option.some.inj H
        have p304:0 ≤ (x5_1:Int):=of_decide_eq_true (by first|(with_reducible assumption)|assumption)
        have q304:x5_1 < (l0.length:Int):=of_decide_eq_true (by first|(with_reducible assumption)|assumption)
        obtain⟨ad304,e304,hx304_0⟩:=Kd.at_int HR0.out x5_1 p304 q304
        cases e304
        replace p304:=eq_true p304
        replace q304:=eq_true q304
        have p305:0 ≤ (x5_1:Int):=of_decide_eq_true (by first|(with_reducible assumption)|assumption)
        have q305:x5_1 < (l1.length:Int):=of_decide_eq_true (by first|(with_reducible assumption)|assumption)
        obtain⟨ad305,e305,hx305_0⟩:=Kd.at_int HR1.out x5_1 p305 q305
        cases e305
        replace p305:=eq_true p305
        replace q305:=eq_true q305
        go_wp2
        repeat (go_quiet (fail);try go_wp2)
        go_ret
        exact⟨by first|rfl|(simp;done)|(simp [*];done),by repeat (first|exact Drawn0.refl _|apply Drawn0.step)⟩
      ·rw [if_neg c6] at H
       exact absurd H (by simp)
     ·rw [if_neg c5] at H
      exact absurd H (by simp)
    ·rw [if_neg c4] at H
     have c4b0:decide (x5_1 < (l0.length:Int)) = false:=decide_eq_false c4
     clear c4
     obtain rfl:=Option.some.inj H
     go_wp2
     repeat (go_quiet (fail);try go_wp2)
     go_ret
     exact⟨by first|rfl|(simp;done)|(simp [*];done),by repeat (first|exact Drawn0.refl _|apply Drawn0.step)⟩
 ·rw [if_neg c3] at H
  have c3b0:((l0.length:Int) == (l1.length:Int)) = false:=beq_eq_false_iff_ne.mpr c3
  have c3b1:((l0.length:Int) != (l1.length:Int)) = true:=bne_iff_ne.mpr c3
  have c3b2:(l0.length == l1.length) = false:=by first|simpa using c3|(simp at c3 ⊢;omega)
  obtain rfl:=Option.some.inj H
  go_enter Try.func51,Try.ntmps51
  go_wp2
  repeat (go_quiet (fail);try go_wp2)
  go_ret
  exact⟨by first|rfl|(simp;done)|(simp [*];done),by repeat (first|exact Drawn0.refl _|apply Drawn0.step)⟩

/-! ### laws_eqBits: function 30 -/
def laws_eqBits.f (k : Nat) (a0_0 : Int) (l0_1 : List Int) (a1_0 : Int) (l1_1 : List Int) : Option (Bool) := if a0_0 = a1_0 then ((laws_eqUint64S.f k l0_1 l1_1).bind fun t308 => (if t308 = true then (some true) else (some false))) else (some false)
theorem laws_eqBits.mono : ∀ a0 a1 a2 a3 k, LeO (laws_eqBits.f k a0 a1 a2 a3) (laws_eqBits.f (k + 1) a0 a1 a2 a3) := by
 intro a0 a1 a2 a3 k
 unfold laws_eqBits.f
 repeat' first|(with_reducible first|exact laws_eqUint64S.mono _ _ _|exact LeO.refl _|exact LeO.none _|refine LeO.ite ?_ ?_|refine LeO.bind ?_ (fun _ => ?_))|exact LeO.none _|refine LeO.ite ?_ ?_|refine LeO.bind ?_ (fun _ => ?_)
set_option maxHeartbeats 8000000 in
set_option maxRecDepth 100000 in
theorem laws_eqBits.calls (k : Nat) (a0_0 : Int) (A0_1 : Option Addr) (c0_1 : Nat) (l0_1 : List Int) (a1_0 : Int) (A1_1 : Option Addr) (c1_1 : Nat) (l1_1 : List Int) (r : Bool) (w : World) (hr0_1 : Kd.C (Kd.int .u64) w A0_1 l0_1.length l0_1) (hc0_1 : l0_1.length ≤ c0_1) (hr1_1 : Kd.C (Kd.int .u64) w A1_1 l1_1.length l1_1) (hc1_1 : l1_1.length ≤ c1_1) (h : laws_eqBits.f k a0_0 l0_1 a1_0 l1_1 = some r) :
  Calls Try.prog 30 #[.agg #[.int .i64 a0_0, .slice A0_1 l0_1.length c0_1], .agg #[.int .i64 a1_0, .slice A1_1 l1_1.length c1_1]] w fun e w' => e = .returned (.bool r) ∧ Below w.heap.size w w' := by
 have hu25:=Try.underlying25
 have HR0_1:=mk0 hr0_1
 have HC0_1:=mk0 hc0_1
 clear hr0_1 hc0_1
 have HR1_1:=mk0 hr1_1
 have HC1_1:=mk0 hc1_1
 clear hr1_1 hc1_1
 have HB:=mk0 (Below.refl w.heap.size w)
 have H:(if a0_0 = a1_0 then ((laws_eqUint64S.f k l0_1 l1_1).bind fun t308=>(if t308 = true then (some true) else (some false))) else (some false)) = some r:=h
 clear h
 by_cases c3:a0_0 = a1_0
 ·rw [if_pos c3] at H
  have c3b0:(a0_0 == a1_0) = true:=beq_iff_eq.mpr c3
  have c3b1:(a0_0 != a1_0) = false:=bne_eq_false_iff_eq.mpr c3
  clear c3
  replace H:=Option.bind_eq_some_iff.mp H
  obtain⟨t308,A40,H⟩:=H
  replace H:(if t308 = true then (some true) else (some false)) = some r:=H
  have A4:=mk0 A40
  clear A40
  by_cases c5:t308 = true
  ·subst c5
   have H1:(some true) = some r:=by rw [if_pos rfl] at H;exact H
   clear H
   have H:=H1
   clear H1
   obtain rfl:=Option.some.inj H
   go_enter Try.func30,Try.ntmps30
   go_wp2_with (first|((with_reducible refine gate_dst (N:=2) rfl ?_);refine box_event ?hg (N:=2) ?hd (cs:=#[.int .i64 a0_0,.slice A0_1 l0_1.length c0_1]) (t:=25) ?hr ?_;(case hd=>rfl);(case hg=>rfl);(case hr=>first|(go_simp;done)|(go_simp;rfl));intro gb306 hg w6 hbox hb;have n0_:=mk0 (below_step (by repeat (first|(with_reducible first|exact HB.out|apply aZ|apply nZ|apply dZ)|exact HB.out)) hb);have n1_:=mk0 (hbox);have n2_:=mk0 ((by rw [hg];exact (below_size (by repeat (first|(with_reducible first|exact HB.out|apply aZ|apply nZ|apply dZ)|exact HB.out))):w.heap.size ≤ gb306));have n3_:=mk0 ((by rw [hg];exact (below_size (by repeat (first|(with_reducible first|exact HB.out|apply aZ|apply nZ|apply dZ)|exact HB.out))):w.heap.size ≤ gb306));clear HB;have HB:=n0_;have BK306:=n1_;have GW306:=n2_;have GE306:=n3_;clear n0_ n1_ n2_ n3_ hb hbox hg)|((with_reducible refine gate_dst (N:=3) rfl ?_);refine box_event ?hg (N:=3) ?hd (cs:=#[.int .i64 a1_0,.slice A1_1 l1_1.length c1_1]) (t:=25) ?hr ?_;(case hd=>rfl);(case hg=>rfl);(case hr=>first|(go_simp;done)|(go_simp;rfl));intro gb307 hg w7 hbox hb;have n0_:=mk0 (blk_below (g:=gb306) (o:=.cells #[.int .i64 a0_0,.slice A0_1 l0_1.length c0_1] 25 (0,0)) (by (with_reducible repeat (first|apply nB|apply dB|apply aB));exact BK306.out) hb);have n1_:=mk0 (below_step (by repeat (first|(with_reducible first|exact HB.out|apply aZ|apply nZ|apply dZ|refine sZ ?_ GE306.out)|exact HB.out)) hb);have n2_:=mk0 (hbox);have n3_:=mk0 ((by rw [hg];exact (below_size (by repeat (first|(with_reducible first|exact HB.out|apply aZ|apply nZ|apply dZ|refine sZ ?_ GE306.out)|exact HB.out))):w.heap.size ≤ gb307));have n4_:=mk0 ((by rw [hg];exact (below_size (by repeat (first|(with_reducible first|exact HB.out|apply aZ|apply nZ|apply dZ|refine sZ ?_ GE306.out)|exact HB.out))):w.heap.size ≤ gb307));have n5_:=mk0 ((by rw [hg];exact Nat.ne_of_lt (blk_lt (g:=gb306) (o:=.cells #[.int .i64 a0_0,.slice A0_1 l0_1.length c0_1] 25 (0,0)) (by (with_reducible repeat (first|apply nB|apply dB|apply aB));exact BK306.out)):gb306 ≠ gb307));have n6_:=mk0 ((by rw [hg];exact Nat.ne_of_gt (blk_lt (g:=gb306) (o:=.cells #[.int .i64 a0_0,.slice A0_1 l0_1.length c0_1] 25 (0,0)) (by (with_reducible repeat (first|apply nB|apply dB|apply aB));exact BK306.out)):gb307 ≠ gb306));clear BK306 HB;have BK306:=n0_;have HB:=n1_;have BK307:=n2_;have GW307:=n3_;have GE307:=n4_;have NB306_307:=n5_;have NB307_306:=n6_;clear n0_ n1_ n2_ n3_ n4_ n5_ n6_ hb hbox hg;have hnb8:=NB306_307.out;have hnc8:=NB307_306.out;have hcz9_0:w7.cell? ⟨gb306,0,none⟩ = some (.int .i64 a0_0):=(blk_cell BK306.out 0).trans rfl;have hcz9_1:w7.cell? ⟨gb306,1,none⟩ = some (.slice A0_1 l0_1.length c0_1):=(blk_cell BK306.out 1).trans rfl;have hfz9_0:=blk_frozen BK306.out 0;have hfz9_1:=blk_frozen BK306.out 1;have hcz10_0:w7.cell? ⟨gb307,0,none⟩ = some (.int .i64 a1_0):=(blk_cell BK307.out 0).trans rfl;have hcz10_1:w7.cell? ⟨gb307,1,none⟩ = some (.slice A1_1 l1_1.length c1_1):=(blk_cell BK307.out 1).trans rfl;have hfz10_0:=blk_frozen BK307.out 0;have hfz10_1:=blk_frozen BK307.out 1)|((with_reducible refine gate_callee (f:=51) rfl ?_);refine goesL_ (some 14) rfl rfl Try.func51 (by kernel_rfl) rfl #[.slice A0_1 l0_1.length c0_1,.slice A1_1 l1_1.length c1_1] rfl (by (try simp only [mA,mC,mN]);first|done|rfl|(simp only [List.length_drop,List.length_take];rfl)) ?_;(with_reducible refine (laws_eqUint64S.calls k _ _ l0_1 _ _ l1_1 true _ ?side1 ?side2 ?side3 ?side4 A4.out).mono ?_);(case side1=>repeat (first|exact (Kd.C_below HR0_1.out HB.out)|(with_reducible first|apply aC|apply nC|apply dC)));(case side2=>exact HC0_1.out);(case side3=>repeat (first|exact (Kd.C_below HR1_1.out HB.out)|(with_reducible first|apply aC|apply nC|apply dC)));(case side4=>exact HC1_1.out);rintro e w' ⟨rfl,⟨nd,rfl⟩⟩;refine⟨_,rfl,?_⟩))
   go_ret
   exact⟨by first|rfl|(simp [errW_none,errW_some] <;> rfl)|(simp [*,errW_none,errW_some] <;> rfl),by repeat (first|(with_reducible first|exact HB.out|apply aZ|apply nZ|apply dZ|refine sZ ?_ GE306.out|refine sZ ?_ GE307.out)|exact HB.out)⟩
  ·replace c5:=Bool.eq_false_iff.mpr c5
   subst c5
   have H1:(some false) = some r:=by rw [if_neg (show ¬ (false = true) by decide)] at H;exact H
   clear H
   have H:=H1
   clear H1
   obtain rfl:=Option.some.inj H
   go_enter Try.func30,Try.ntmps30
   go_wp2_with (first|((with_reducible refine gate_dst (N:=2) rfl ?_);refine box_event ?hg (N:=2) ?hd (cs:=#[.int .i64 a0_0,.slice A0_1 l0_1.length c0_1]) (t:=25) ?hr ?_;(case hd=>rfl);(case hg=>rfl);(case hr=>first|(go_simp;done)|(go_simp;rfl));intro gb306 hg w11 hbox hb;have n0_:=mk0 (below_step (by repeat (first|(with_reducible first|exact HB.out|apply aZ|apply nZ|apply dZ)|exact HB.out)) hb);have n1_:=mk0 (hbox);have n2_:=mk0 ((by rw [hg];exact (below_size (by repeat (first|(with_reducible first|exact HB.out|apply aZ|apply nZ|apply dZ)|exact HB.out))):w.heap.size ≤ gb306));have n3_:=mk0 ((by rw [hg];exact (below_size (by repeat (first|(with_reducible first|exact HB.out|apply aZ|apply nZ|apply dZ)|exact HB.out))):w.heap.size ≤ gb306));clear HB;have HB:=n0_;have BK306:=n1_;have GW306:=n2_;have GE306:=n3_;clear n0_ n1_ n2_ n3_ hb hbox hg)|((with_reducible refine gate_dst (N:=3) rfl ?_);refine box_event ?hg (N:=3) ?hd (cs:=#[.int .i64 a1_0,.slice A1_1 l1_1.length c1_1]) (t:=25) ?hr ?_;(case hd=>rfl);(case hg=>rfl);(case hr=>first|(go_simp;done)|(go_simp;rfl));intro gb307 hg w12 hbox hb;have n0_:=mk0 (blk_below (g:=gb306) (o:=.cells #[.int .i64 a0_0,.slice A0_1 l0_1.length c0_1] 25 (0,0)) (by (with_reducible repeat (first|apply nB|apply dB|apply aB));exact BK306.out) hb);have n1_:=mk0 (below_step (by repeat (first|(with_reducible first|exact HB.out|apply aZ|apply nZ|apply dZ|refine sZ ?_ GE306.out)|exact HB.out)) hb);have n2_:=mk0 (hbox);have n3_:=mk0 ((by rw [hg];exact (below_size (by repeat (first|(with_reducible first|exact HB.out|apply aZ|apply nZ|apply dZ|refine sZ ?_ GE306.out)|exact HB.out))):w.heap.size ≤ gb307));have n4_:=mk0 ((by rw [hg];exact (below_size (by repeat (first|(with_reducible first|exact HB.out|apply aZ|apply nZ|apply dZ|refine sZ ?_ GE306.out)|exact HB.out))):w.heap.size ≤ gb307));have n5_:=mk0 ((by rw [hg];exact Nat.ne_of_lt (blk_lt (g:=gb306) (o:=.cells #[.int .i64 a0_0,.slice A0_1 l0_1.length c0_1] 25 (0,0)) (by (with_reducible repeat (first|apply nB|apply dB|apply aB));exact BK306.out)):gb306 ≠ gb307));have n6_:=mk0 ((by rw [hg];exact Nat.ne_of_gt (blk_lt (g:=gb306) (o:=.cells #[.int .i64 a0_0,.slice A0_1 l0_1.length c0_1] 25 (0,0)) (by (with_reducible repeat (first|apply nB|apply dB|apply aB));exact BK306.out)):gb307 ≠ gb306));clear BK306 HB;have BK306:=n0_;have HB:=n1_;have BK307:=n2_;have GW307:=n3_;have GE307:=n4_;have NB306_307:=n5_;have NB307_306:=n6_;clear n0_ n1_ n2_ n3_ n4_ n5_ n6_ hb hbox hg;have hnb13:=NB306_307.out;have hnc13:=NB307_306.out;have hcz14_0:w12.cell? ⟨gb306,0,none⟩ = some (.int .i64 a0_0):=(blk_cell BK306.out 0).trans rfl;have hcz14_1:w12.cell? ⟨gb306,1,none⟩ = some (.slice A0_1 l0_1.length c0_1):=(blk_cell BK306.out 1).trans rfl;have hfz14_0:=blk_frozen BK306.out 0;have hfz14_1:=blk_frozen BK306.out 1;have hcz15_0:w12.cell? ⟨gb307,0,none⟩ = some (.int .i64 a1_0):=(blk_cell BK307.out 0).trans rfl;have hcz15_1:w12.cell? ⟨gb307,1,none⟩ = some (.slice A1_1 l1_1.length c1_1):=(blk_cell BK307.out 1).trans rfl;have hfz15_0:=blk_frozen BK307.out 0;have hfz15_1:=blk_frozen BK307.out 1)|((with_reducible refine gate_callee (f:=51) rfl ?_);refine goesL_ (some 14) rfl rfl Try.func51 (by kernel_rfl) rfl #[.slice A0_1 l0_1.length c0_1,.slice A1_1 l1_1.length c1_1] rfl (by (try simp only [mA,mC,mN]);first|done|rfl|(simp only [List.length_drop,List.length_take];rfl)) ?_;(with_reducible refine (laws_eqUint64S.calls k _ _ l0_1 _ _ l1_1 false _ ?side1 ?side2 ?side3 ?side4 A4.out).mono ?_);(case side1=>repeat (first|exact (Kd.C_below HR0_1.out HB.out)|(with_reducible first|apply aC|apply nC|apply dC)));(case side2=>exact HC0_1.out);(case side3=>repeat (first|exact (Kd.C_below HR1_1.out HB.out)|(with_reducible first|apply aC|apply nC|apply dC)));(case side4=>exact HC1_1.out);rintro e w' ⟨rfl,⟨nd,rfl⟩⟩;refine⟨_,rfl,?_⟩))
   go_ret
   exact⟨by first|rfl|(simp [errW_none,errW_some] <;> rfl)|(simp [*,errW_none,errW_some] <;> rfl),by repeat (first|(with_reducible first|exact HB.out|apply aZ|apply nZ|apply dZ|refine sZ ?_ GE306.out|refine sZ ?_ GE307.out)|exact HB.out)⟩
 ·rw [if_neg c3] at H
  have c3b0:(a0_0 == a1_0) = false:=beq_eq_false_iff_ne.mpr c3
  have c3b1:(a0_0 != a1_0) = true:=bne_iff_ne.mpr c3
  obtain rfl:=Option.some.inj H
  go_enter Try.func30,Try.ntmps30
  go_wp2_with (first|((with_reducible refine gate_dst (N:=2) rfl ?_);refine box_event ?hg (N:=2) ?hd (cs:=#[.int .i64 a0_0,.slice A0_1 l0_1.length c0_1]) (t:=25) ?hr ?_;(case hd=>rfl);(case hg=>rfl);(case hr=>first|(go_simp;done)|(go_simp;rfl));intro gb306 hg w16 hbox hb;have n0_:=mk0 (below_step (by repeat (first|(with_reducible first|exact HB.out|apply aZ|apply nZ|apply dZ)|exact HB.out)) hb);have n1_:=mk0 (hbox);have n2_:=mk0 ((by rw [hg];exact (below_size (by repeat (first|(with_reducible first|exact HB.out|apply aZ|apply nZ|apply dZ)|exact HB.out))):w.heap.size ≤ gb306));have n3_:=mk0 ((by rw [hg];exact (below_size (by repeat (first|(with_reducible first|exact HB.out|apply aZ|apply nZ|apply dZ)|exact HB.out))):w.heap.size ≤ gb306));clear HB;have HB:=n0_;have BK306:=n1_;have GW306:=n2_;have GE306:=n3_;clear n0_ n1_ n2_ n3_ hb hbox hg)|((with_reducible refine gate_dst (N:=3) rfl ?_);refine box_event ?hg (N:=3) ?hd (cs:=#[.int .i64 a1_0,.slice A1_1 l1_1.length c1_1]) (t:=25) ?hr ?_;(case hd=>rfl);(case hg=>rfl);(case hr=>first|(go_simp;done)|(go_simp;rfl));intro gb307 hg w17 hbox hb;have n0_:=mk0 (blk_below (g:=gb306) (o:=.cells #[.int .i64 a0_0,.slice A0_1 l0_1.length c0_1] 25 (0,0)) (by (with_reducible repeat (first|apply nB|apply dB|apply aB));exact BK306.out) hb);have n1_:=mk0 (below_step (by repeat (first|(with_reducible first|exact HB.out|apply aZ|apply nZ|apply dZ|refine sZ ?_ GE306.out)|exact HB.out)) hb);have n2_:=mk0 (hbox);have n3_:=mk0 ((by rw [hg];exact (below_size (by repeat (first|(with_reducible first|exact HB.out|apply aZ|apply nZ|apply dZ|refine sZ ?_ GE306.out)|exact HB.out))):w.heap.size ≤ gb307));have n4_:=mk0 ((by rw [hg];exact (below_size (by repeat (first|(with_reducible first|exact HB.out|apply aZ|apply nZ|apply dZ|refine sZ ?_ GE306.out)|exact HB.out))):w.heap.size ≤ gb307));have n5_:=mk0 ((by rw [hg];exact Nat.ne_of_lt (blk_lt (g:=gb306) (o:=.cells #[.int .i64 a0_0,.slice A0_1 l0_1.length c0_1] 25 (0,0)) (by (with_reducible repeat (first|apply nB|apply dB|apply aB));exact BK306.out)):gb306 ≠ gb307));have n6_:=mk0 ((by rw [hg];exact Nat.ne_of_gt (blk_lt (g:=gb306) (o:=.cells #[.int .i64 a0_0,.slice A0_1 l0_1.length c0_1] 25 (0,0)) (by (with_reducible repeat (first|apply nB|apply dB|apply aB));exact BK306.out)):gb307 ≠ gb306));clear BK306 HB;have BK306:=n0_;have HB:=n1_;have BK307:=n2_;have GW307:=n3_;have GE307:=n4_;have NB306_307:=n5_;have NB307_306:=n6_;clear n0_ n1_ n2_ n3_ n4_ n5_ n6_ hb hbox hg;have hnb18:=NB306_307.out;have hnc18:=NB307_306.out;have hcz19_0:w17.cell? ⟨gb306,0,none⟩ = some (.int .i64 a0_0):=(blk_cell BK306.out 0).trans rfl;have hcz19_1:w17.cell? ⟨gb306,1,none⟩ = some (.slice A0_1 l0_1.length c0_1):=(blk_cell BK306.out 1).trans rfl;have hfz19_0:=blk_frozen BK306.out 0;have hfz19_1:=blk_frozen BK306.out 1;have hcz20_0:w17.cell? ⟨gb307,0,none⟩ = some (.int .i64 a1_0):=(blk_cell BK307.out 0).trans rfl;have hcz20_1:w17.cell? ⟨gb307,1,none⟩ = some (.slice A1_1 l1_1.length c1_1):=(blk_cell BK307.out 1).trans rfl;have hfz20_0:=blk_frozen BK307.out 0;have hfz20_1:=blk_frozen BK307.out 1))
  go_ret
  exact⟨by first|rfl|(simp [errW_none,errW_some] <;> rfl)|(simp [*,errW_none,errW_some] <;> rfl),by repeat (first|(with_reducible first|exact HB.out|apply aZ|apply nZ|apply dZ|refine sZ ?_ GE306.out|refine sZ ?_ GE307.out)|exact HB.out)⟩

/-! ### laws_eqPatch: function 9 -/
def laws_eqPatch.f (k : Nat) (a0_0 : Int) (l0_1 : List Int) (a0_2 : Int) (l0_3 : List Int) (l0_4 : List Int) (a1_0 : Int) (l1_1 : List Int) (a1_2 : Int) (l1_3 : List Int) (l1_4 : List Int) : Option (Bool) := (laws_eqBits.f k a0_0 l0_1 a1_0 l1_1).bind fun t311 => (if t311 = true then ((laws_eqBits.f k a0_2 l0_3 a1_2 l1_3).bind fun t312 => (if t312 = true then ((laws_eqIntS.f k l0_4 l1_4).bind fun t313 => (if t313 = true then (some true) else (some false))) else (some false))) else (some false))
theorem laws_eqPatch.mono : ∀ a0 a1 a2 a3 a4 a5 a6 a7 a8 a9 k, LeO (laws_eqPatch.f k a0 a1 a2 a3 a4 a5 a6 a7 a8 a9) (laws_eqPatch.f (k + 1) a0 a1 a2 a3 a4 a5 a6 a7 a8 a9) := by
 intro a0 a1 a2 a3 a4 a5 a6 a7 a8 a9 k
 unfold laws_eqPatch.f
 repeat' first|(with_reducible first|exact laws_eqBits.mono _ _ _ _ _|exact laws_eqIntS.mono _ _ _|exact LeO.refl _|exact LeO.none _|refine LeO.ite ?_ ?_|refine LeO.bind ?_ (fun _ => ?_))|exact LeO.none _|refine LeO.ite ?_ ?_|refine LeO.bind ?_ (fun _ => ?_)
set_option maxHeartbeats 8000000 in
set_option maxRecDepth 100000 in
theorem laws_eqPatch.calls (k : Nat) (a0_0 : Int) (A0_1 : Option Addr) (c0_1 : Nat) (l0_1 : List Int) (a0_2 : Int) (A0_3 : Option Addr) (c0_3 : Nat) (l0_3 : List Int) (A0_4 : Option Addr) (c0_4 : Nat) (l0_4 : List Int) (a1_0 : Int) (A1_1 : Option Addr) (c1_1 : Nat) (l1_1 : List Int) (a1_2 : Int) (A1_3 : Option Addr) (c1_3 : Nat) (l1_3 : List Int) (A1_4 : Option Addr) (c1_4 : Nat) (l1_4 : List Int) (r : Bool) (w : World) (hr0_1 : Kd.C (Kd.int .u64) w A0_1 l0_1.length l0_1) (hc0_1 : l0_1.length ≤ c0_1) (hr0_3 : Kd.C (Kd.int .u64) w A0_3 l0_3.length l0_3) (hc0_3 : l0_3.length ≤ c0_3) (hr0_4 : Kd.C (Kd.int .i64) w A0_4 l0_4.length l0_4) (hc0_4 : l0_4.length ≤ c0_4) (hr1_1 : Kd.C (Kd.int .u64) w A1_1 l1_1.length l1_1) (hc1_1 : l1_1.length ≤ c1_1) (hr1_3 : Kd.C (Kd.int .u64) w A1_3 l1_3.length l1_3) (hc1_3 : l1_3.length ≤ c1_3) (hr1_4 : Kd.C (Kd.int .i64) w A1_4 l1_4.length l1_4) (hc1_4 : l1_4.length ≤ c1_4) (h : laws_eqPatch.f k a0_0 l0_1 a0_2 l0_3 l0_4 a1_0 l1_1 a1_2 l1_3 l1_4 = some r) :
  Calls Try.prog 9 #[.agg #[.int .i64 a0_0, .slice A0_1 l0_1.length c0_1, .int .i64 a0_2, .slice A0_3 l0_3.length c0_3, .slice A0_4 l0_4.length c0_4], .agg #[.int .i64 a1_0, .slice A1_1 l1_1.length c1_1, .int .i64 a1_2, .slice A1_3 l1_3.length c1_3, .slice A1_4 l1_4.length c1_4]] w fun e w' => e = .returned (.bool r) ∧ Below w.heap.size w w' := by
 have hu27:=Try.underlying27
 have hu25:=Try.underlying25
 have HR0_1:=mk0 hr0_1
 have HC0_1:=mk0 hc0_1
 clear hr0_1 hc0_1
 have HR0_3:=mk0 hr0_3
 have HC0_3:=mk0 hc0_3
 clear hr0_3 hc0_3
 have HR0_4:=mk0 hr0_4
 have HC0_4:=mk0 hc0_4
 clear hr0_4 hc0_4
 have HR1_1:=mk0 hr1_1
 have HC1_1:=mk0 hc1_1
 clear hr1_1 hc1_1
 have HR1_3:=mk0 hr1_3
 have HC1_3:=mk0 hc1_3
 clear hr1_3 hc1_3
 have HR1_4:=mk0 hr1_4
 have HC1_4:=mk0 hc1_4
 clear hr1_4 hc1_4
 have HB:=mk0 (Below.refl w.heap.size w)
 have H:((laws_eqBits.f k a0_0 l0_1 a1_0 l1_1).bind fun t311=>(if t311 = true then ((laws_eqBits.f k a0_2 l0_3 a1_2 l1_3).bind fun t312=>(if t312 = true then ((laws_eqIntS.f k l0_4 l1_4).bind fun t313=>(if t313 = true then (some true) else (some false))) else (some false))) else (some false))) = some r:=h
 clear h
 replace H:=Option.bind_eq_some_iff.mp H
 obtain⟨t311,A30,H⟩:=H
 replace H:(if t311 = true then ((laws_eqBits.f k a0_2 l0_3 a1_2 l1_3).bind fun t312=>(if t312 = true then ((laws_eqIntS.f k l0_4 l1_4).bind fun t313=>(if t313 = true then (some true) else (some false))) else (some false))) else (some false)) = some r:=H
 have A3:=mk0 A30
 clear A30
 by_cases c4:t311 = true
 rotate_left
 ·replace c4:=Bool.eq_false_iff.mpr c4
  subst c4
  have H1:(some false) = some r:=by rw [if_neg (show ¬ (false = true) by decide)] at H;exact H
  clear H
  have H:=H1
  clear H1
  obtain rfl:=Option.some.inj H
  go_enter Try.func9,Try.ntmps9
  go_wp2_with (first|((with_reducible refine gate_dst (N:=2) rfl ?_);refine box_event ?hg (N:=2) ?hd (cs:=#[.int .i64 a0_0,.slice A0_1 l0_1.length c0_1,.int .i64 a0_2,.slice A0_3 l0_3.length c0_3,.slice A0_4 l0_4.length c0_4]) (t:=27) ?hr ?_;(case hd=>rfl);(case hg=>rfl);(case hr=>first|(go_simp;done)|(go_simp;rfl));intro gb309 hg w40 hbox hb;have n0_:=mk0 (below_step (by repeat (first|(with_reducible first|exact HB.out|apply aZ|apply nZ|apply dZ)|exact HB.out)) hb);have n1_:=mk0 (hbox);have n2_:=mk0 ((by rw [hg];exact (below_size (by repeat (first|(with_reducible first|exact HB.out|apply aZ|apply nZ|apply dZ)|exact HB.out))):w.heap.size ≤ gb309));have n3_:=mk0 ((by rw [hg];exact (below_size (by repeat (first|(with_reducible first|exact HB.out|apply aZ|apply nZ|apply dZ)|exact HB.out))):w.heap.size ≤ gb309));clear HB;have HB:=n0_;have BK309:=n1_;have GW309:=n2_;have GE309:=n3_;clear n0_ n1_ n2_ n3_ hb hbox hg)|((with_reducible refine gate_dst (N:=3) rfl ?_);refine box_event ?hg (N:=3) ?hd (cs:=#[.int .i64 a1_0,.slice A1_1 l1_1.length c1_1,.int .i64 a1_2,.slice A1_3 l1_3.length c1_3,.slice A1_4 l1_4.length c1_4]) (t:=27) ?hr ?_;(case hd=>rfl);(case hg=>rfl);(case hr=>first|(go_simp;done)|(go_simp;rfl));intro gb310 hg w41 hbox hb;have n0_:=mk0 (blk_below (g:=gb309) (o:=.cells #[.int .i64 a0_0,.slice A0_1 l0_1.length c0_1,.int .i64 a0_2,.slice A0_3 l0_3.length c0_3,.slice A0_4 l0_4.length c0_4] 27 (0,0)) (by (with_reducible repeat (first|apply nB|apply dB|apply aB));exact BK309.out) hb);have n1_:=mk0 (below_step (by repeat (first|(with_reducible first|exact HB.out|apply aZ|apply nZ|apply dZ|refine sZ ?_ GE309.out)|exact HB.out)) hb);have n2_:=mk0 (hbox);have n3_:=mk0 ((by rw [hg];exact (below_size (by repeat (first|(with_reducible first|exact HB.out|apply aZ|apply nZ|apply dZ|refine sZ ?_ GE309.out)|exact HB.out))):w.heap.size ≤ gb310));have n4_:=mk0 ((by rw [hg];exact (below_size (by repeat (first|(with_reducible first|exact HB.out|apply aZ|apply nZ|apply dZ|refine sZ ?_ GE309.out)|exact HB.out))):w.heap.size ≤ gb310));have n5_:=mk0 ((by rw [hg];exact Nat.ne_of_lt (blk_lt (g:=gb309) (o:=.cells #[.int .i64 a0_0,.slice A0_1 l0_1.length c0_1,.int .i64 a0_2,.slice A0_3 l0_3.length c0_3,.slice A0_4 l0_4.length c0_4] 27 (0,0)) (by (with_reducible repeat (first|apply nB|apply dB|apply aB));exact BK309.out)):gb309 ≠ gb310));have n6_:=mk0 ((by rw [hg];exact Nat.ne_of_gt (blk_lt (g:=gb309) (o:=.cells #[.int .i64 a0_0,.slice A0_1 l0_1.length c0_1,.int .i64 a0_2,.slice A0_3 l0_3.length c0_3,.slice A0_4 l0_4.length c0_4] 27 (0,0)) (by (with_reducible repeat (first|apply nB|apply dB|apply aB));exact BK309.out)):gb310 ≠ gb309));clear BK309 HB;have BK309:=n0_;have HB:=n1_;have BK310:=n2_;have GW310:=n3_;have GE310:=n4_;have NB309_310:=n5_;have NB310_309:=n6_;clear n0_ n1_ n2_ n3_ n4_ n5_ n6_ hb hbox hg;have hnb42:=NB309_310.out;have hnc42:=NB310_309.out;have hcz43_0:w41.cell? ⟨gb309,0,none⟩ = some (.int .i64 a0_0):=(blk_cell BK309.out 0).trans rfl;have hcz43_1:w41.cell? ⟨gb309,1,none⟩ = some (.slice A0_1 l0_1.length c0_1):=(blk_cell BK309.out 1).trans rfl;have hcz43_2:w41.cell? ⟨gb309,2,none⟩ = some (.int .i64 a0_2):=(blk_cell BK309.out 2).trans rfl;have hcz43_3:w41.cell? ⟨gb309,3,none⟩ = some (.slice A0_3 l0_3.length c0_3):=(blk_cell BK309.out 3).trans rfl;have hcz43_4:w41.cell? ⟨gb309,4,none⟩ = some (.slice A0_4 l0_4.length c0_4):=(blk_cell BK309.out 4).trans rfl;have hfz43_0:=blk_frozen BK309.out 0;have hfz43_1:=blk_frozen BK309.out 1;have hfz43_2:=blk_frozen BK309.out 2;have hfz43_3:=blk_frozen BK309.out 3;have hfz43_4:=blk_frozen BK309.out 4;have hcz44_0:w41.cell? ⟨gb310,0,none⟩ = some (.int .i64 a1_0):=(blk_cell BK310.out 0).trans rfl;have hcz44_1:w41.cell? ⟨gb310,1,none⟩ = some (.slice A1_1 l1_1.length c1_1):=(blk_cell BK310.out 1).trans rfl;have hcz44_2:w41.cell? ⟨gb310,2,none⟩ = some (.int .i64 a1_2):=(blk_cell BK310.out 2).trans rfl;have hcz44_3:w41.cell? ⟨gb310,3,none⟩ = some (.slice A1_3 l1_3.length c1_3):=(blk_cell BK310.out 3).trans rfl;have hcz44_4:w41.cell? ⟨gb310,4,none⟩ = some (.slice A1_4 l1_4.length c1_4):=(blk_cell BK310.out 4).trans rfl;have hfz44_0:=blk_frozen BK310.out 0;have hfz44_1:=blk_frozen BK310.out 1;have hfz44_2:=blk_frozen BK310.out 2;have hfz44_3:=blk_frozen BK310.out 3;have hfz44_4:=blk_frozen BK310.out 4)|((with_reducible refine gate_callee (f:=30) rfl ?_);refine goesL_ (some 9) rfl rfl Try.func30 (by kernel_rfl) rfl #[.agg #[.int .i64 a0_0,.slice A0_1 l0_1.length c0_1],.agg #[.int .i64 a1_0,.slice A1_1 l1_1.length c1_1]] rfl (by (try simp only [mA,mC,mN]);first|done|rfl|(simp only [List.length_drop,List.length_take];rfl)) ?_;(with_reducible refine (laws_eqBits.calls k a0_0 _ _ l0_1 a1_0 _ _ l1_1 false _ ?side1 ?side2 ?side3 ?side4 A3.out).mono ?_);(case side1=>repeat (first|exact (Kd.C_below HR0_1.out HB.out)|(with_reducible first|apply aC|apply nC|apply dC)));(case side2=>exact HC0_1.out);(case side3=>repeat (first|exact (Kd.C_below HR1_1.out HB.out)|(with_reducible first|apply aC|apply nC|apply dC)));(case side4=>exact HC1_1.out);rintro e w45 ⟨rfl,hb⟩;refine⟨_,rfl,?_⟩;have n0_:=mk0 (blk_below (g:=gb309) (o:=.cells #[.int .i64 a0_0,.slice A0_1 l0_1.length c0_1,.int .i64 a0_2,.slice A0_3 l0_3.length c0_3,.slice A0_4 l0_4.length c0_4] 27 (0,0)) (by (with_reducible repeat (first|apply nB|apply dB|apply aB));exact BK309.out) hb);have n1_:=mk0 (blk_below (g:=gb310) (o:=.cells #[.int .i64 a1_0,.slice A1_1 l1_1.length c1_1,.int .i64 a1_2,.slice A1_3 l1_3.length c1_3,.slice A1_4 l1_4.length c1_4] 27 (0,0)) (by (with_reducible repeat (first|apply nB|apply dB|apply aB));exact BK310.out) hb);have n2_:=mk0 (below_step (by repeat (first|(with_reducible first|exact HB.out|apply aZ|apply nZ|apply dZ|refine sZ ?_ GE309.out|refine sZ ?_ GE310.out)|exact HB.out)) hb);clear BK309 BK310 HB;have BK309:=n0_;have BK310:=n1_;have HB:=n2_;clear n0_ n1_ n2_;(try clear hb);(try clear hb2);(try clear hk);(try clear hi)))
  go_ret
  exact⟨by first|rfl|(simp [errW_none,errW_some] <;> rfl)|(simp [*,errW_none,errW_some] <;> rfl),by repeat (first|(with_reducible first|exact HB.out|apply aZ|apply nZ|apply dZ|refine sZ ?_ GE309.out|refine sZ ?_ GE310.out)|exact HB.out)⟩

 subst c4
 have H1:((laws_eqBits.f k a0_2 l0_3 a1_2 l1_3).bind fun t312=>(if t312 = true then ((laws_eqIntS.f k l0_4 l1_4).bind fun t313=>(if t313 = true then (some true) else (some false))) else (some false))) = some r:=by rw [if_pos rfl] at H;exact H
 clear H
 have H:=H1
 clear H1
 replace H:=Option.bind_eq_some_iff.mp H
 obtain⟨t312,A50,H⟩:=H
 replace H:(if t312 = true then ((laws_eqIntS.f k l0_4 l1_4).bind fun t313=>(if t313 = true then (some true) else (some false))) else (some false)) = some r:=H
 have A5:=mk0 A50
 clear A50
 by_cases c6:t312 = true
 rotate_left
 ·replace c6:=Bool.eq_false_iff.mpr c6
  subst c6
  have H1:(some false) = some r:=by rw [if_neg (show ¬ (false = true) by decide)] at H;exact H
  clear H
  have H:=H1
  clear H1
  obtain rfl:=Option.some.inj H
  go_enter Try.func9,Try.ntmps9
  go_wp2_with (first|((with_reducible refine gate_dst (N:=2) rfl ?_);refine box_event ?hg (N:=2) ?hd (cs:=#[.int .i64 a0_0,.slice A0_1 l0_1.length c0_1,.int .i64 a0_2,.slice A0_3 l0_3.length c0_3,.slice A0_4 l0_4.length c0_4]) (t:=27) ?hr ?_;(case hd=>rfl);(case hg=>rfl);(case hr=>first|(go_simp;done)|(go_simp;rfl));intro gb309 hg w31 hbox hb;have n0_:=mk0 (below_step (by repeat (first|(with_reducible first|exact HB.out|apply aZ|apply nZ|apply dZ)|exact HB.out)) hb);have n1_:=mk0 (hbox);have n2_:=mk0 ((by rw [hg];exact (below_size (by repeat (first|(with_reducible first|exact HB.out|apply aZ|apply nZ|apply dZ)|exact HB.out))):w.heap.size ≤ gb309));have n3_:=mk0 ((by rw [hg];exact (below_size (by repeat (first|(with_reducible first|exact HB.out|apply aZ|apply nZ|apply dZ)|exact HB.out))):w.heap.size ≤ gb309));clear HB;have HB:=n0_;have BK309:=n1_;have GW309:=n2_;have GE309:=n3_;clear n0_ n1_ n2_ n3_ hb hbox hg)|((with_reducible refine gate_dst (N:=3) rfl ?_);refine box_event ?hg (N:=3) ?hd (cs:=#[.int .i64 a1_0,.slice A1_1 l1_1.length c1_1,.int .i64 a1_2,.slice A1_3 l1_3.length c1_3,.slice A1_4 l1_4.length c1_4]) (t:=27) ?hr ?_;(case hd=>rfl);(case hg=>rfl);(case hr=>first|(go_simp;done)|(go_simp;rfl));intro gb310 hg w32 hbox hb;have n0_:=mk0 (blk_below (g:=gb309) (o:=.cells #[.int .i64 a0_0,.slice A0_1 l0_1.length c0_1,.int .i64 a0_2,.slice A0_3 l0_3.length c0_3,.slice A0_4 l0_4.length c0_4] 27 (0,0)) (by (with_reducible repeat (first|apply nB|apply dB|apply aB));exact BK309.out) hb);have n1_:=mk0 (below_step (by repeat (first|(with_reducible first|exact HB.out|apply aZ|apply nZ|apply dZ|refine sZ ?_ GE309.out)|exact HB.out)) hb);have n2_:=mk0 (hbox);have n3_:=mk0 ((by rw [hg];exact (below_size (by repeat (first|(with_reducible first|exact HB.out|apply aZ|apply nZ|apply dZ|refine sZ ?_ GE309.out)|exact HB.out))):w.heap.size ≤ gb310));have n4_:=mk0 ((by rw [hg];exact (below_size (by repeat (first|(with_reducible first|exact HB.out|apply aZ|apply nZ|apply dZ|refine sZ ?_ GE309.out)|exact HB.out))):w.heap.size ≤ gb310));have n5_:=mk0 ((by rw [hg];exact Nat.ne_of_lt (blk_lt (g:=gb309) (o:=.cells #[.int .i64 a0_0,.slice A0_1 l0_1.length c0_1,.int .i64 a0_2,.slice A0_3 l0_3.length c0_3,.slice A0_4 l0_4.length c0_4] 27 (0,0)) (by (with_reducible repeat (first|apply nB|apply dB|apply aB));exact BK309.out)):gb309 ≠ gb310));have n6_:=mk0 ((by rw [hg];exact Nat.ne_of_gt (blk_lt (g:=gb309) (o:=.cells #[.int .i64 a0_0,.slice A0_1 l0_1.length c0_1,.int .i64 a0_2,.slice A0_3 l0_3.length c0_3,.slice A0_4 l0_4.length c0_4] 27 (0,0)) (by (with_reducible repeat (first|apply nB|apply dB|apply aB));exact BK309.out)):gb310 ≠ gb309));clear BK309 HB;have BK309:=n0_;have HB:=n1_;have BK310:=n2_;have GW310:=n3_;have GE310:=n4_;have NB309_310:=n5_;have NB310_309:=n6_;clear n0_ n1_ n2_ n3_ n4_ n5_ n6_ hb hbox hg;have hnb33:=NB309_310.out;have hnc33:=NB310_309.out;have hcz34_0:w32.cell? ⟨gb309,0,none⟩ = some (.int .i64 a0_0):=(blk_cell BK309.out 0).trans rfl;have hcz34_1:w32.cell? ⟨gb309,1,none⟩ = some (.slice A0_1 l0_1.length c0_1):=(blk_cell BK309.out 1).trans rfl;have hcz34_2:w32.cell? ⟨gb309,2,none⟩ = some (.int .i64 a0_2):=(blk_cell BK309.out 2).trans rfl;have hcz34_3:w32.cell? ⟨gb309,3,none⟩ = some (.slice A0_3 l0_3.length c0_3):=(blk_cell BK309.out 3).trans rfl;have hcz34_4:w32.cell? ⟨gb309,4,none⟩ = some (.slice A0_4 l0_4.length c0_4):=(blk_cell BK309.out 4).trans rfl;have hfz34_0:=blk_frozen BK309.out 0;have hfz34_1:=blk_frozen BK309.out 1;have hfz34_2:=blk_frozen BK309.out 2;have hfz34_3:=blk_frozen BK309.out 3;have hfz34_4:=blk_frozen BK309.out 4;have hcz35_0:w32.cell? ⟨gb310,0,none⟩ = some (.int .i64 a1_0):=(blk_cell BK310.out 0).trans rfl;have hcz35_1:w32.cell? ⟨gb310,1,none⟩ = some (.slice A1_1 l1_1.length c1_1):=(blk_cell BK310.out 1).trans rfl;have hcz35_2:w32.cell? ⟨gb310,2,none⟩ = some (.int .i64 a1_2):=(blk_cell BK310.out 2).trans rfl;have hcz35_3:w32.cell? ⟨gb310,3,none⟩ = some (.slice A1_3 l1_3.length c1_3):=(blk_cell BK310.out 3).trans rfl;have hcz35_4:w32.cell? ⟨gb310,4,none⟩ = some (.slice A1_4 l1_4.length c1_4):=(blk_cell BK310.out 4).trans rfl;have hfz35_0:=blk_frozen BK310.out 0;have hfz35_1:=blk_frozen BK310.out 1;have hfz35_2:=blk_frozen BK310.out 2;have hfz35_3:=blk_frozen BK310.out 3;have hfz35_4:=blk_frozen BK310.out 4)|((with_reducible refine gate_callee (f:=30) rfl ?_);refine goesL_ (some 9) rfl rfl Try.func30 (by kernel_rfl) rfl #[.agg #[.int .i64 a0_0,.slice A0_1 l0_1.length c0_1],.agg #[.int .i64 a1_0,.slice A1_1 l1_1.length c1_1]] rfl (by (try simp only [mA,mC,mN]);first|done|rfl|(simp only [List.length_drop,List.length_take];rfl)) ?_;(with_reducible refine (laws_eqBits.calls k a0_0 _ _ l0_1 a1_0 _ _ l1_1 true _ ?side1 ?side2 ?side3 ?side4 A3.out).mono ?_);(case side1=>repeat (first|exact (Kd.C_below HR0_1.out HB.out)|(with_reducible first|apply aC|apply nC|apply dC)));(case side2=>exact HC0_1.out);(case side3=>repeat (first|exact (Kd.C_below HR1_1.out HB.out)|(with_reducible first|apply aC|apply nC|apply dC)));(case side4=>exact HC1_1.out);rintro e w36 ⟨rfl,hb⟩;refine⟨_,rfl,?_⟩;have n0_:=mk0 (blk_below (g:=gb309) (o:=.cells #[.int .i64 a0_0,.slice A0_1 l0_1.length c0_1,.int .i64 a0_2,.slice A0_3 l0_3.length c0_3,.slice A0_4 l0_4.length c0_4] 27 (0,0)) (by (with_reducible repeat (first|apply nB|apply dB|apply aB));exact BK309.out) hb);have n1_:=mk0 (blk_below (g:=gb310) (o:=.cells #[.int .i64 a1_0,.slice A1_1 l1_1.length c1_1,.int .i64 a1_2,.slice A1_3 l1_3.length c1_3,.slice A1_4 l1_4.length c1_4] 27 (0,0)) (by (with_reducible repeat (first|apply nB|apply dB|apply aB));exact BK310.out) hb);have n2_:=mk0 (below_step (by repeat (first|(with_reducible first|exact HB.out|apply aZ|apply nZ|apply dZ|refine sZ ?_ GE309.out|refine sZ ?_ GE310.out)|exact HB.out)) hb);clear BK309 BK310 HB;have BK309:=n0_;have BK310:=n1_;have HB:=n2_;clear n0_ n1_ n2_;(try clear hb);(try clear hb2);(try clear hk);(try clear hi);have hcz37_0:w36.cell? ⟨gb309,0,none⟩ = some (.int .i64 a0_0):=(blk_cell BK309.out 0).trans rfl;have hcz37_1:w36.cell? ⟨gb309,1,none⟩ = some (.slice A0_1 l0_1.length c0_1):=(blk_cell BK309.out 1).trans rfl;have hcz37_2:w36.cell? ⟨gb309,2,none⟩ = some (.int .i64 a0_2):=(blk_cell BK309.out 2).trans rfl;have hcz37_3:w36.cell? ⟨gb309,3,none⟩ = some (.slice A0_3 l0_3.length c0_3):=(blk_cell BK309.out 3).trans rfl;have hcz37_4:w36.cell? ⟨gb309,4,none⟩ = some (.slice A0_4 l0_4.length c0_4):=(blk_cell BK309.out 4).trans rfl;have hfz37_0:=blk_frozen BK309.out 0;have hfz37_1:=blk_frozen BK309.out 1;have hfz37_2:=blk_frozen BK309.out 2;have hfz37_3:=blk_frozen BK309.out 3;have hfz37_4:=blk_frozen BK309.out 4;have hcz38_0:w36.cell? ⟨gb310,0,none⟩ = some (.int .i64 a1_0):=(blk_cell BK310.out 0).trans rfl;have hcz38_1:w36.cell? ⟨gb310,1,none⟩ = some (.slice A1_1 l1_1.length c1_1):=(blk_cell BK310.out 1).trans rfl;have hcz38_2:w36.cell? ⟨gb310,2,none⟩ = some (.int .i64 a1_2):=(blk_cell BK310.out 2).trans rfl;have hcz38_3:w36.cell? ⟨gb310,3,none⟩ = some (.slice A1_3 l1_3.length c1_3):=(blk_cell BK310.out 3).trans rfl;have hcz38_4:w36.cell? ⟨gb310,4,none⟩ = some (.slice A1_4 l1_4.length c1_4):=(blk_cell BK310.out 4).trans rfl;have hfz38_0:=blk_frozen BK310.out 0;have hfz38_1:=blk_frozen BK310.out 1;have hfz38_2:=blk_frozen BK310.out 2;have hfz38_3:=blk_frozen BK310.out 3;have hfz38_4:=blk_frozen BK310.out 4)|((with_reducible refine gate_callee (f:=30) rfl ?_);refine goesL_ (some 15) rfl rfl Try.func30 (by kernel_rfl) rfl #[.agg #[.int .i64 a0_2,.slice A0_3 l0_3.length c0_3],.agg #[.int .i64 a1_2,.slice A1_3 l1_3.length c1_3]] rfl (by (try simp only [mA,mC,mN]);first|done|rfl|(simp only [List.length_drop,List.length_take];rfl)) ?_;(with_reducible refine (laws_eqBits.calls k a0_2 _ _ l0_3 a1_2 _ _ l1_3 false _ ?side1 ?side2 ?side3 ?side4 A5.out).mono ?_);(case side1=>repeat (first|exact (Kd.C_below HR0_3.out HB.out)|(with_reducible first|apply aC|apply nC|apply dC)));(case side2=>exact HC0_3.out);(case side3=>repeat (first|exact (Kd.C_below HR1_3.out HB.out)|(with_reducible first|apply aC|apply nC|apply dC)));(case side4=>exact HC1_3.out);rintro e w39 ⟨rfl,hb⟩;refine⟨_,rfl,?_⟩;have n0_:=mk0 (blk_below (g:=gb309) (o:=.cells #[.int .i64 a0_0,.slice A0_1 l0_1.length c0_1,.int .i64 a0_2,.slice A0_3 l0_3.length c0_3,.slice A0_4 l0_4.length c0_4] 27 (0,0)) (by (with_reducible repeat (first|apply nB|apply dB|apply aB));exact BK309.out) hb);have n1_:=mk0 (blk_below (g:=gb310) (o:=.cells #[.int .i64 a1_0,.slice A1_1 l1_1.length c1_1,.int .i64 a1_2,.slice A1_3 l1_3.length c1_3,.slice A1_4 l1_4.length c1_4] 27 (0,0)) (by (with_reducible repeat (first|apply nB|apply dB|apply aB));exact BK310.out) hb);have n2_:=mk0 (below_step (by repeat (first|(with_reducible first|exact HB.out|apply aZ|apply nZ|apply dZ|refine sZ ?_ GE309.out|refine sZ ?_ GE310.out)|exact HB.out)) hb);clear BK309 BK310 HB;have BK309:=n0_;have BK310:=n1_;have HB:=n2_;clear n0_ n1_ n2_;(try clear hb);(try clear hb2);(try clear hk);(try clear hi)))
  go_ret
  exact⟨by first|rfl|(simp [errW_none,errW_some] <;> rfl)|(simp [*,errW_none,errW_some] <;> rfl),by repeat (first|(with_reducible first|exact HB.out|apply aZ|apply nZ|apply dZ|refine sZ ?_ GE309.out|refine sZ ?_ GE310.out)|exact HB.out)⟩
 subst c6
 have H1:((laws_eqIntS.f k l0_4 l1_4).bind fun t313=>(if t313 = true then (some true) else (some false))) = some r:=by rw [if_pos rfl] at H;exact H
 clear H
 have H:=H1
 clear H1
 replace H:=Option.bind_eq_some_iff.mp H
 obtain⟨t313,A70,H⟩:=H
 replace H:(if t313 = true then (some true) else (some false)) = some r:=H
 have A7:=mk0 A70
 clear A70
 by_cases c8:t313 = true
 ·subst c8
  have H1:(some true) = some r:=by rw [if_pos rfl] at H;exact H
  clear H
  have H:=H1
  clear H1
  obtain rfl:=Option.some.inj H
  go_enter Try.func9,Try.ntmps9
  go_wp2_with (first|((with_reducible refine gate_dst (N:=2) rfl ?_);refine box_event ?hg (N:=2) ?hd (cs:=#[.int .i64 a0_0,.slice A0_1 l0_1.length c0_1,.int .i64 a0_2,.slice A0_3 l0_3.length c0_3,.slice A0_4 l0_4.length c0_4]) (t:=27) ?hr ?_;(case hd=>rfl);(case hg=>rfl);(case hr=>first|(go_simp;done)|(go_simp;rfl));intro gb309 hg w9 hbox hb;have n0_:=mk0 (below_step (by repeat (first|(with_reducible first|exact HB.out|apply aZ|apply nZ|apply dZ)|exact HB.out)) hb);have n1_:=mk0 (hbox);have n2_:=mk0 ((by rw [hg];exact (below_size (by repeat (first|(with_reducible first|exact HB.out|apply aZ|apply nZ|apply dZ)|exact HB.out))):w.heap.size ≤ gb309));have n3_:=mk0 ((by rw [hg];exact (below_size (by repeat (first|(with_reducible first|exact HB.out|apply aZ|apply nZ|apply dZ)|exact HB.out))):w.heap.size ≤ gb309));clear HB;have HB:=n0_;have BK309:=n1_;have GW309:=n2_;have GE309:=n3_;clear n0_ n1_ n2_ n3_ hb hbox hg)|((with_reducible refine gate_dst (N:=3) rfl ?_);refine box_event ?hg (N:=3) ?hd (cs:=#[.int .i64 a1_0,.slice A1_1 l1_1.length c1_1,.int .i64 a1_2,.slice A1_3 l1_3.length c1_3,.slice A1_4 l1_4.length c1_4]) (t:=27) ?hr ?_;(case hd=>rfl);(case hg=>rfl);(case hr=>first|(go_simp;done)|(go_simp;rfl));intro gb310 hg w10 hbox hb;have n0_:=mk0 (blk_below (g:=gb309) (o:=.cells #[.int .i64 a0_0,.slice A0_1 l0_1.length c0_1,.int .i64 a0_2,.slice A0_3 l0_3.length c0_3,.slice A0_4 l0_4.length c0_4] 27 (0,0)) (by (with_reducible repeat (first|apply nB|apply dB|apply aB));exact BK309.out) hb);have n1_:=mk0 (below_step (by repeat (first|(with_reducible first|exact HB.out|apply aZ|apply nZ|apply dZ|refine sZ ?_ GE309.out)|exact HB.out)) hb);have n2_:=mk0 (hbox);have n3_:=mk0 ((by rw [hg];exact (below_size (by repeat (first|(with_reducible first|exact HB.out|apply aZ|apply nZ|apply dZ|refine sZ ?_ GE309.out)|exact HB.out))):w.heap.size ≤ gb310));have n4_:=mk0 ((by rw [hg];exact (below_size (by repeat (first|(with_reducible first|exact HB.out|apply aZ|apply nZ|apply dZ|refine sZ ?_ GE309.out)|exact HB.out))):w.heap.size ≤ gb310));have n5_:=mk0 ((by rw [hg];exact Nat.ne_of_lt (blk_lt (g:=gb309) (o:=.cells #[.int .i64 a0_0,.slice A0_1 l0_1.length c0_1,.int .i64 a0_2,.slice A0_3 l0_3.length c0_3,.slice A0_4 l0_4.length c0_4] 27 (0,0)) (by (with_reducible repeat (first|apply nB|apply dB|apply aB));exact BK309.out)):gb309 ≠ gb310));have n6_:=mk0 ((by rw [hg];exact Nat.ne_of_gt (blk_lt (g:=gb309) (o:=.cells #[.int .i64 a0_0,.slice A0_1 l0_1.length c0_1,.int .i64 a0_2,.slice A0_3 l0_3.length c0_3,.slice A0_4 l0_4.length c0_4] 27 (0,0)) (by (with_reducible repeat (first|apply nB|apply dB|apply aB));exact BK309.out)):gb310 ≠ gb309));clear BK309 HB;have BK309:=n0_;have HB:=n1_;have BK310:=n2_;have GW310:=n3_;have GE310:=n4_;have NB309_310:=n5_;have NB310_309:=n6_;clear n0_ n1_ n2_ n3_ n4_ n5_ n6_ hb hbox hg;have hnb11:=NB309_310.out;have hnc11:=NB310_309.out;have hcz12_0:w10.cell? ⟨gb309,0,none⟩ = some (.int .i64 a0_0):=(blk_cell BK309.out 0).trans rfl;have hcz12_1:w10.cell? ⟨gb309,1,none⟩ = some (.slice A0_1 l0_1.length c0_1):=(blk_cell BK309.out 1).trans rfl;have hcz12_2:w10.cell? ⟨gb309,2,none⟩ = some (.int .i64 a0_2):=(blk_cell BK309.out 2).trans rfl;have hcz12_3:w10.cell? ⟨gb309,3,none⟩ = some (.slice A0_3 l0_3.length c0_3):=(blk_cell BK309.out 3).trans rfl;have hcz12_4:w10.cell? ⟨gb309,4,none⟩ = some (.slice A0_4 l0_4.length c0_4):=(blk_cell BK309.out 4).trans rfl;have hfz12_0:=blk_frozen BK309.out 0;have hfz12_1:=blk_frozen BK309.out 1;have hfz12_2:=blk_frozen BK309.out 2;have hfz12_3:=blk_frozen BK309.out 3;have hfz12_4:=blk_frozen BK309.out 4;have hcz13_0:w10.cell? ⟨gb310,0,none⟩ = some (.int .i64 a1_0):=(blk_cell BK310.out 0).trans rfl;have hcz13_1:w10.cell? ⟨gb310,1,none⟩ = some (.slice A1_1 l1_1.length c1_1):=(blk_cell BK310.out 1).trans rfl;have hcz13_2:w10.cell? ⟨gb310,2,none⟩ = some (.int .i64 a1_2):=(blk_cell BK310.out 2).trans rfl;have hcz13_3:w10.cell? ⟨gb310,3,none⟩ = some (.slice A1_3 l1_3.length c1_3):=(blk_cell BK310.out 3).trans rfl;have hcz13_4:w10.cell? ⟨gb310,4,none⟩ = some (.slice A1_4 l1_4.length c1_4):=(blk_cell BK310.out 4).trans rfl;have hfz13_0:=blk_frozen BK310.out 0;have hfz13_1:=blk_frozen BK310.out 1;have hfz13_2:=blk_frozen BK310.out 2;have hfz13_3:=blk_frozen BK310.out 3;have hfz13_4:=blk_frozen BK310.out 4)|((with_reducible refine gate_callee (f:=30) rfl ?_);refine goesL_ (some 9) rfl rfl Try.func30 (by kernel_rfl) rfl #[.agg #[.int .i64 a0_0,.slice A0_1 l0_1.length c0_1],.agg #[.int .i64 a1_0,.slice A1_1 l1_1.length c1_1]] rfl (by (try simp only [mA,mC,mN]);first|done|rfl|(simp only [List.length_drop,List.length_take];rfl)) ?_;(with_reducible refine (laws_eqBits.calls k a0_0 _ _ l0_1 a1_0 _ _ l1_1 true _ ?side1 ?side2 ?side3 ?side4 A3.out).mono ?_);(case side1=>repeat (first|exact (Kd.C_below HR0_1.out HB.out)|(with_reducible first|apply aC|apply nC|apply dC)));(case side2=>exact HC0_1.out);(case side3=>repeat (first|exact (Kd.C_below HR1_1.out HB.out)|(with_reducible first|apply aC|apply nC|apply dC)));(case side4=>exact HC1_1.out);rintro e w14 ⟨rfl,hb⟩;refine⟨_,rfl,?_⟩;have n0_:=mk0 (blk_below (g:=gb309) (o:=.cells #[.int .i64 a0_0,.slice A0_1 l0_1.length c0_1,.int .i64 a0_2,.slice A0_3 l0_3.length c0_3,.slice A0_4 l0_4.length c0_4] 27 (0,0)) (by (with_reducible repeat (first|apply nB|apply dB|apply aB));exact BK309.out) hb);have n1_:=mk0 (blk_below (g:=gb310) (o:=.cells #[.int .i64 a1_0,.slice A1_1 l1_1.length c1_1,.int .i64 a1_2,.slice A1_3 l1_3.length c1_3,.slice A1_4 l1_4.length c1_4] 27 (0,0)) (by (with_reducible repeat (first|apply nB|apply dB|apply aB));exact BK310.out) hb);have n2_:=mk0 (below_step (by repeat (first|(with_reducible first|exact HB.out|apply aZ|apply nZ|apply dZ|refine sZ ?_ GE309.out|refine sZ ?_ GE310.out)|exact HB.out)) hb);clear BK309 BK310 HB;have BK309:=n0_;have BK310:=n1_;have HB:=n2_;clear n0_ n1_ n2_;(try clear hb);(try clear hb2);(try clear hk);(try clear hi);have hcz15_0:w14.cell? ⟨gb309,0,none⟩ = some (.int .i64 a0_0):=(blk_cell BK309.out 0).trans rfl;have hcz15_1:w14.cell? ⟨gb309,1,none⟩ = some (.slice A0_1 l0_1.length c0_1):=(blk_cell BK309.out 1).trans rfl;have hcz15_2:w14.cell? ⟨gb309,2,none⟩ = some (.int .i64 a0_2):=(blk_cell BK309.out 2).trans rfl;have hcz15_3:w14.cell? ⟨gb309,3,none⟩ = some (.slice A0_3 l0_3.length c0_3):=(blk_cell BK309.out 3).trans rfl;have hcz15_4:w14.cell? ⟨gb309,4,none⟩ = some (.slice A0_4 l0_4.length c0_4):=(blk_cell BK309.out 4).trans rfl;have hfz15_0:=blk_frozen BK309.out 0;have hfz15_1:=blk_frozen BK309.out 1;have hfz15_2:=blk_frozen BK309.out 2;have hfz15_3:=blk_frozen BK309.out 3;have hfz15_4:=blk_frozen BK309.out 4;have hcz16_0:w14.cell? ⟨gb310,0,none⟩ = some (.int .i64 a1_0):=(blk_cell BK310.out 0).trans rfl;have hcz16_1:w14.cell? ⟨gb310,1,none⟩ = some (.slice A1_1 l1_1.length c1_1):=(blk_cell BK310.out 1).trans rfl;have hcz16_2:w14.cell? ⟨gb310,2,none⟩ = some (.int .i64 a1_2):=(blk_cell BK310.out 2).trans rfl;have hcz16_3:w14.cell? ⟨gb310,3,none⟩ = some (.slice A1_3 l1_3.length c1_3):=(blk_cell BK310.out 3).trans rfl;have hcz16_4:w14.cell? ⟨gb310,4,none⟩ = some (.slice A1_4 l1_4.length c1_4):=(blk_cell BK310.out 4).trans rfl;have hfz16_0:=blk_frozen BK310.out 0;have hfz16_1:=blk_frozen BK310.out 1;have hfz16_2:=blk_frozen BK310.out 2;have hfz16_3:=blk_frozen BK310.out 3;have hfz16_4:=blk_frozen BK310.out 4)|((with_reducible refine gate_callee (f:=30) rfl ?_);refine goesL_ (some 15) rfl rfl Try.func30 (by kernel_rfl) rfl #[.agg #[.int .i64 a0_2,.slice A0_3 l0_3.length c0_3],.agg #[.int .i64 a1_2,.slice A1_3 l1_3.length c1_3]] rfl (by (try simp only [mA,mC,mN]);first|done|rfl|(simp only [List.length_drop,List.length_take];rfl)) ?_;(with_reducible refine (laws_eqBits.calls k a0_2 _ _ l0_3 a1_2 _ _ l1_3 true _ ?side1 ?side2 ?side3 ?side4 A5.out).mono ?_);(case side1=>repeat (first|exact (Kd.C_below HR0_3.out HB.out)|(with_reducible first|apply aC|apply nC|apply dC)));(case side2=>exact HC0_3.out);(case side3=>repeat (first|exact (Kd.C_below HR1_3.out HB.out)|(with_reducible first|apply aC|apply nC|apply dC)));(case side4=>exact HC1_3.out);rintro e w17 ⟨rfl,hb⟩;refine⟨_,rfl,?_⟩;have n0_:=mk0 (blk_below (g:=gb309) (o:=.cells #[.int .i64 a0_0,.slice A0_1 l0_1.length c0_1,.int .i64 a0_2,.slice A0_3 l0_3.length c0_3,.slice A0_4 l0_4.length c0_4] 27 (0,0)) (by (with_reducible repeat (first|apply nB|apply dB|apply aB));exact BK309.out) hb);have n1_:=mk0 (blk_below (g:=gb310) (o:=.cells #[.int .i64 a1_0,.slice A1_1 l1_1.length c1_1,.int .i64 a1_2,.slice A1_3 l1_3.length c1_3,.slice A1_4 l1_4.length c1_4] 27 (0,0)) (by (with_reducible repeat (first|apply nB|apply dB|apply aB));exact BK310.out) hb);have n2_:=mk0 (below_step (by repeat (first|(with_reducible first|exact HB.out|apply aZ|apply nZ|apply dZ|refine sZ ?_ GE309.out|refine sZ ?_ GE310.out)|exact HB.out)) hb);clear BK309 BK310 HB;have BK309:=n0_;have BK310:=n1_;have HB:=n2_;clear n0_ n1_ n2_;(try clear hb);(try clear hb2);(try clear hk);(try clear hi);have hcz18_0:w17.cell? ⟨gb309,0,none⟩ = some (.int .i64 a0_0):=(blk_cell BK309.out 0).trans rfl;have hcz18_1:w17.cell? ⟨gb309,1,none⟩ = some (.slice A0_1 l0_1.length c0_1):=(blk_cell BK309.out 1).trans rfl;have hcz18_2:w17.cell? ⟨gb309,2,none⟩ = some (.int .i64 a0_2):=(blk_cell BK309.out 2).trans rfl;have hcz18_3:w17.cell? ⟨gb309,3,none⟩ = some (.slice A0_3 l0_3.length c0_3):=(blk_cell BK309.out 3).trans rfl;have hcz18_4:w17.cell? ⟨gb309,4,none⟩ = some (.slice A0_4 l0_4.length c0_4):=(blk_cell BK309.out 4).trans rfl;have hfz18_0:=blk_frozen BK309.out 0;have hfz18_1:=blk_frozen BK309.out 1;have hfz18_2:=blk_frozen BK309.out 2;have hfz18_3:=blk_frozen BK309.out 3;have hfz18_4:=blk_frozen BK309.out 4;have hcz19_0:w17.cell? ⟨gb310,0,none⟩ = some (.int .i64 a1_0):=(blk_cell BK310.out 0).trans rfl;have hcz19_1:w17.cell? ⟨gb310,1,none⟩ = some (.slice A1_1 l1_1.length c1_1):=(blk_cell BK310.out 1).trans rfl;have hcz19_2:w17.cell? ⟨gb310,2,none⟩ = some (.int .i64 a1_2):=(blk_cell BK310.out 2).trans rfl;have hcz19_3:w17.cell? ⟨gb310,3,none⟩ = some (.slice A1_3 l1_3.length c1_3):=(blk_cell BK310.out 3).trans rfl;have hcz19_4:w17.cell? ⟨gb310,4,none⟩ = some (.slice A1_4 l1_4.length c1_4):=(blk_cell BK310.out 4).trans rfl;have hfz19_0:=blk_frozen BK310.out 0;have hfz19_1:=blk_frozen BK310.out 1;have hfz19_2:=blk_frozen BK310.out 2;have hfz19_3:=blk_frozen BK310.out 3;have hfz19_4:=blk_frozen BK310.out 4)|((with_reducible refine gate_callee (f:=10) rfl ?_);refine goesL_ (some 21) rfl rfl Try.func10 (by kernel_rfl) rfl #[.slice A0_4 l0_4.length c0_4,.slice A1_4 l1_4.length c1_4] rfl (by (try simp only [mA,mC,mN]);first|done|rfl|(simp only [List.length_drop,List.length_take];rfl)) ?_;(with_reducible refine (laws_eqIntS.calls k _ _ l0_4 _ _ l1_4 true _ ?side1 ?side2 ?side3 ?side4 A7.out).mono ?_);(case side1=>repeat (first|exact (Kd.C_below HR0_4.out HB.out)|(with_reducible first|apply aC|apply nC|apply dC)));(case side2=>exact HC0_4.out);(case side3=>repeat (first|exact (Kd.C_below HR1_4.out HB.out)|(with_reducible first|apply aC|apply nC|apply dC)));(case side4=>exact HC1_4.out);rintro e w' ⟨rfl,⟨nd,rfl⟩⟩;refine⟨_,rfl,?_⟩))
  go_ret
  exact⟨by first|rfl|(simp [errW_none,errW_some] <;> rfl)|(simp [*,errW_none,errW_some] <;> rfl),by repeat (first|(with_reducible first|exact HB.out|apply aZ|apply nZ|apply dZ|refine sZ ?_ GE309.out|refine sZ ?_ GE310.out)|exact HB.out)⟩
 replace c8:=Bool.eq_false_iff.mpr c8
 subst c8
 have H1:(some false) = some r:=by rw [if_neg (show ¬ (false = true) by decide)] at H;exact H
 clear H
 have H:=H1
 clear H1
 obtain rfl:=Option.some.inj H
 go_enter Try.func9,Try.ntmps9
 go_wp2_with (first|((with_reducible refine gate_dst (N:=2) rfl ?_);refine box_event ?hg (N:=2) ?hd (cs:=#[.int .i64 a0_0,.slice A0_1 l0_1.length c0_1,.int .i64 a0_2,.slice A0_3 l0_3.length c0_3,.slice A0_4 l0_4.length c0_4]) (t:=27) ?hr ?_;(case hd=>rfl);(case hg=>rfl);(case hr=>first|(go_simp;done)|(go_simp;rfl));intro gb309 hg w20 hbox hb;have n0_:=mk0 (below_step (by repeat (first|(with_reducible first|exact HB.out|apply aZ|apply nZ|apply dZ)|exact HB.out)) hb);have n1_:=mk0 (hbox);have n2_:=mk0 ((by rw [hg];exact (below_size (by repeat (first|(with_reducible first|exact HB.out|apply aZ|apply nZ|apply dZ)|exact HB.out))):w.heap.size ≤ gb309));have n3_:=mk0 ((by rw [hg];exact (below_size (by repeat (first|(with_reducible first|exact HB.out|apply aZ|apply nZ|apply dZ)|exact HB.out))):w.heap.size ≤ gb309));clear HB;have HB:=n0_;have BK309:=n1_;have GW309:=n2_;have GE309:=n3_;clear n0_ n1_ n2_ n3_ hb hbox hg)|((with_reducible refine gate_dst (N:=3) rfl ?_);refine box_event ?hg (N:=3) ?hd (cs:=#[.int .i64 a1_0,.slice A1_1 l1_1.length c1_1,.int .i64 a1_2,.slice A1_3 l1_3.length c1_3,.slice A1_4 l1_4.length c1_4]) (t:=27) ?hr ?_;(case hd=>rfl);(case hg=>rfl);(case hr=>first|(go_simp;done)|(go_simp;rfl));intro gb310 hg w21 hbox hb;have n0_:=mk0 (blk_below (g:=gb309) (o:=.cells #[.int .i64 a0_0,.slice A0_1 l0_1.length c0_1,.int .i64 a0_2,.slice A0_3 l0_3.length c0_3,.slice A0_4 l0_4.length c0_4] 27 (0,0)) (by (with_reducible repeat (first|apply nB|apply dB|apply aB));exact BK309.out) hb);have n1_:=mk0 (below_step (by repeat (first|(with_reducible first|exact HB.out|apply aZ|apply nZ|apply dZ|refine sZ ?_ GE309.out)|exact HB.out)) hb);have n2_:=mk0 (hbox);have n3_:=mk0 ((by rw [hg];exact (below_size (by repeat (first|(with_reducible first|exact HB.out|apply aZ|apply nZ|apply dZ|refine sZ ?_ GE309.out)|exact HB.out))):w.heap.size ≤ gb310));have n4_:=mk0 ((by rw [hg];exact (below_size (by repeat (first|(with_reducible first|exact HB.out|apply aZ|apply nZ|apply dZ|refine sZ ?_ GE309.out)|exact HB.out))):w.heap.size ≤ gb310));have n5_:=mk0 ((by rw [hg];exact Nat.ne_of_lt (blk_lt (g:=gb309) (o:=.cells #[.int .i64 a0_0,.slice A0_1 l0_1.length c0_1,.int .i64 a0_2,.slice A0_3 l0_3.length c0_3,.slice A0_4 l0_4.length c0_4] 27 (0,0)) (by (with_reducible repeat (first|apply nB|apply dB|apply aB));exact BK309.out)):gb309 ≠ gb310));have n6_:=mk0 ((by rw [hg];exact Nat.ne_of_gt (blk_lt (g:=gb309) (o:=.cells #[.int .i64 a0_0,.slice A0_1 l0_1.length c0_1,.int .i64 a0_2,.slice A0_3 l0_3.length c0_3,.slice A0_4 l0_4.length c0_4] 27 (0,0)) (by (with_reducible repeat (first|apply nB|apply dB|apply aB));exact BK309.out)):gb310 ≠ gb309));clear BK309 HB;have BK309:=n0_;have HB:=n1_;have BK310:=n2_;have GW310:=n3_;have GE310:=n4_;have NB309_310:=n5_;have NB310_309:=n6_;clear n0_ n1_ n2_ n3_ n4_ n5_ n6_ hb hbox hg;have hnb22:=NB309_310.out;have hnc22:=NB310_309.out;have hcz23_0:w21.cell? ⟨gb309,0,none⟩ = some (.int .i64 a0_0):=(blk_cell BK309.out 0).trans rfl;have hcz23_1:w21.cell? ⟨gb309,1,none⟩ = some (.slice A0_1 l0_1.length c0_1):=(blk_cell BK309.out 1).trans rfl;have hcz23_2:w21.cell? ⟨gb309,2,none⟩ = some (.int .i64 a0_2):=(blk_cell BK309.out 2).trans rfl;have hcz23_3:w21.cell? ⟨gb309,3,none⟩ = some (.slice A0_3 l0_3.length c0_3):=(blk_cell BK309.out 3).trans rfl;have hcz23_4:w21.cell? ⟨gb309,4,none⟩ = some (.slice A0_4 l0_4.length c0_4):=(blk_cell BK309.out 4).trans rfl;have hfz23_0:=blk_frozen BK309.out 0;have hfz23_1:=blk_frozen BK309.out 1;have hfz23_2:=blk_frozen BK309.out 2;have hfz23_3:=blk_frozen BK309.out 3;have hfz23_4:=blk_frozen BK309.out 4;have hcz24_0:w21.cell? ⟨gb310,0,none⟩ = some (.int .i64 a1_0):=(blk_cell BK310.out 0).trans rfl;have hcz24_1:w21.cell? ⟨gb310,1,none⟩ = some (.slice A1_1 l1_1.length c1_1):=(blk_cell BK310.out 1).trans rfl;have hcz24_2:w21.cell? ⟨gb310,2,none⟩ = some (.int .i64 a1_2):=(blk_cell BK310.out 2).trans rfl;have hcz24_3:w21.cell? ⟨gb310,3,none⟩ = some (.slice A1_3 l1_3.length c1_3):=(blk_cell BK310.out 3).trans rfl;have hcz24_4:w21.cell? ⟨gb310,4,none⟩ = some (.slice A1_4 l1_4.length c1_4):=(blk_cell BK310.out 4).trans rfl;have hfz24_0:=blk_frozen BK310.out 0;have hfz24_1:=blk_frozen BK310.out 1;have hfz24_2:=blk_frozen BK310.out 2;have hfz24_3:=blk_frozen BK310.out 3;have hfz24_4:=blk_frozen BK310.out 4)|((with_reducible refine gate_callee (f:=30) rfl ?_);refine goesL_ (some 9) rfl rfl Try.func30 (by kernel_rfl) rfl #[.agg #[.int .i64 a0_0,.slice A0_1 l0_1.length c0_1],.agg #[.int .i64 a1_0,.slice A1_1 l1_1.length c1_1]] rfl (by (try simp only [mA,mC,mN]);first|done|rfl|(simp only [List.length_drop,List.length_take];rfl)) ?_;(with_reducible refine (laws_eqBits.calls k a0_0 _ _ l0_1 a1_0 _ _ l1_1 true _ ?side1 ?side2 ?side3 ?side4 A3.out).mono ?_);(case side1=>repeat (first|exact (Kd.C_below HR0_1.out HB.out)|(with_reducible first|apply aC|apply nC|apply dC)));(case side2=>exact HC0_1.out);(case side3=>repeat (first|exact (Kd.C_below HR1_1.out HB.out)|(with_reducible first|apply aC|apply nC|apply dC)));(case side4=>exact HC1_1.out);rintro e w25 ⟨rfl,hb⟩;refine⟨_,rfl,?_⟩;have n0_:=mk0 (blk_below (g:=gb309) (o:=.cells #[.int .i64 a0_0,.slice A0_1 l0_1.length c0_1,.int .i64 a0_2,.slice A0_3 l0_3.length c0_3,.slice A0_4 l0_4.length c0_4] 27 (0,0)) (by (with_reducible repeat (first|apply nB|apply dB|apply aB));exact BK309.out) hb);have n1_:=mk0 (blk_below (g:=gb310) (o:=.cells #[.int .i64 a1_0,.slice A1_1 l1_1.length c1_1,.int .i64 a1_2,.slice A1_3 l1_3.length c1_3,.slice A1_4 l1_4.length c1_4] 27 (0,0)) (by (with_reducible repeat (first|apply nB|apply dB|apply aB));exact BK310.out) hb);have n2_:=mk0 (below_step (by repeat (first|(with_reducible first|exact HB.out|apply aZ|apply nZ|apply dZ|refine sZ ?_ GE309.out|refine sZ ?_ GE310.out)|exact HB.out)) hb);clear BK309 BK310 HB;have BK309:=n0_;have BK310:=n1_;have HB:=n2_;clear n0_ n1_ n2_;(try clear hb);(try clear hb2);(try clear hk);(try clear hi);have hcz26_0:w25.cell? ⟨gb309,0,none⟩ = some (.int .i64 a0_0):=(blk_cell BK309.out 0).trans rfl;have hcz26_1:w25.cell? ⟨gb309,1,none⟩ = some (.slice A0_1 l0_1.length c0_1):=(blk_cell BK309.out 1).trans rfl;have hcz26_2:w25.cell? ⟨gb309,2,none⟩ = some (.int .i64 a0_2):=(blk_cell BK309.out 2).trans rfl;have hcz26_3:w25.cell? ⟨gb309,3,none⟩ = some (.slice A0_3 l0_3.length c0_3):=(blk_cell BK309.out 3).trans rfl;have hcz26_4:w25.cell? ⟨gb309,4,none⟩ = some (.slice A0_4 l0_4.length c0_4):=(blk_cell BK309.out 4).trans rfl;have hfz26_0:=blk_frozen BK309.out 0;have hfz26_1:=blk_frozen BK309.out 1;have hfz26_2:=blk_frozen BK309.out 2;have hfz26_3:=blk_frozen BK309.out 3;have hfz26_4:=blk_frozen BK309.out 4;have hcz27_0:w25.cell? ⟨gb310,0,none⟩ = some (.int .i64 a1_0):=(blk_cell BK310.out 0).trans rfl;have hcz27_1:w25.cell? ⟨gb310,1,none⟩ = some (.slice A1_1 l1_1.length c1_1):=(blk_cell BK310.out 1).trans rfl;have hcz27_2:w25.cell? ⟨gb310,2,none⟩ = some (.int .i64 a1_2):=(blk_cell BK310.out 2).trans rfl;have hcz27_3:w25.cell? ⟨gb310,3,none⟩ = some (.slice A1_3 l1_3.length c1_3):=(blk_cell BK310.out 3).trans rfl;have hcz27_4:w25.cell? ⟨gb310,4,none⟩ = some (.slice A1_4 l1_4.length c1_4):=(blk_cell BK310.out 4).trans rfl;have hfz27_0:=blk_frozen BK310.out 0;have hfz27_1:=blk_frozen BK310.out 1;have hfz27_2:=blk_frozen BK310.out 2;have hfz27_3:=blk_frozen BK310.out 3;have hfz27_4:=blk_frozen BK310.out 4)|((with_reducible refine gate_callee (f:=30) rfl ?_);refine goesL_ (some 15) rfl rfl Try.func30 (by kernel_rfl) rfl #[.agg #[.int .i64 a0_2,.slice A0_3 l0_3.length c0_3],.agg #[.int .i64 a1_2,.slice A1_3 l1_3.length c1_3]] rfl (by (try simp only [mA,mC,mN]);first|done|rfl|(simp only [List.length_drop,List.length_take];rfl)) ?_;(with_reducible refine (laws_eqBits.calls k a0_2 _ _ l0_3 a1_2 _ _ l1_3 true _ ?side1 ?side2 ?side3 ?side4 A5.out).mono ?_);(case side1=>repeat (first|exact (Kd.C_below HR0_3.out HB.out)|(with_reducible first|apply aC|apply nC|apply dC)));(case side2=>exact HC0_3.out);(case side3=>repeat (first|exact (Kd.C_below HR1_3.out HB.out)|(with_reducible first|apply aC|apply nC|apply dC)));(case side4=>exact HC1_3.out);rintro e w28 ⟨rfl,hb⟩;refine⟨_,rfl,?_⟩;have n0_:=mk0 (blk_below (g:=gb309) (o:=.cells #[.int .i64 a0_0,.slice A0_1 l0_1.length c0_1,.int .i64 a0_2,.slice A0_3 l0_3.length c0_3,.slice A0_4 l0_4.length c0_4] 27 (0,0)) (by (with_reducible repeat (first|apply nB|apply dB|apply aB));exact BK309.out) hb);have n1_:=mk0 (blk_below (g:=gb310) (o:=.cells #[.int .i64 a1_0,.slice A1_1 l1_1.length c1_1,.int .i64 a1_2,.slice A1_3 l1_3.length c1_3,.slice A1_4 l1_4.length c1_4] 27 (0,0)) (by (with_reducible repeat (first|apply nB|apply dB|apply aB));exact BK310.out) hb);have n2_:=mk0 (below_step (by repeat (first|(with_reducible first|exact HB.out|apply aZ|apply nZ|apply dZ|refine sZ ?_ GE309.out|refine sZ ?_ GE310.out)|exact HB.out)) hb);clear BK309 BK310 HB;have BK309:=n0_;have BK310:=n1_;have HB:=n2_;clear n0_ n1_ n2_;(try clear hb);(try clear hb2);(try clear hk);(try clear hi);have hcz29_0:w28.cell? ⟨gb309,0,none⟩ = some (.int .i64 a0_0):=(blk_cell BK309.out 0).trans rfl;have hcz29_1:w28.cell? ⟨gb309,1,none⟩ = some (.slice A0_1 l0_1.length c0_1):=(blk_cell BK309.out 1).trans rfl;have hcz29_2:w28.cell? ⟨gb309,2,none⟩ = some (.int .i64 a0_2):=(blk_cell BK309.out 2).trans rfl;have hcz29_3:w28.cell? ⟨gb309,3,none⟩ = some (.slice A0_3 l0_3.length c0_3):=(blk_cell BK309.out 3).trans rfl;have hcz29_4:w28.cell? ⟨gb309,4,none⟩ = some (.slice A0_4 l0_4.length c0_4):=(blk_cell BK309.out 4).trans rfl;have hfz29_0:=blk_frozen BK309.out 0;have hfz29_1:=blk_frozen BK309.out 1;have hfz29_2:=blk_frozen BK309.out 2;have hfz29_3:=blk_frozen BK309.out 3;have hfz29_4:=blk_frozen BK309.out 4;have hcz30_0:w28.cell? ⟨gb310,0,none⟩ = some (.int .i64 a1_0):=(blk_cell BK310.out 0).trans rfl;have hcz30_1:w28.cell? ⟨gb310,1,none⟩ = some (.slice A1_1 l1_1.length c1_1):=(blk_cell BK310.out 1).trans rfl;have hcz30_2:w28.cell? ⟨gb310,2,none⟩ = some (.int .i64 a1_2):=(blk_cell BK310.out 2).trans rfl;have hcz30_3:w28.cell? ⟨gb310,3,none⟩ = some (.slice A1_3 l1_3.length c1_3):=(blk_cell BK310.out 3).trans rfl;have hcz30_4:w28.cell? ⟨gb310,4,none⟩ = some (.slice A1_4 l1_4.length c1_4):=(blk_cell BK310.out 4).trans rfl;have hfz30_0:=blk_frozen BK310.out 0;have hfz30_1:=blk_frozen BK310.out 1;have hfz30_2:=blk_frozen BK310.out 2;have hfz30_3:=blk_frozen BK310.out 3;have hfz30_4:=blk_frozen BK310.out 4)|((with_reducible refine gate_callee (f:=10) rfl ?_);refine goesL_ (some 21) rfl rfl Try.func10 (by kernel_rfl) rfl #[.slice A0_4 l0_4.length c0_4,.slice A1_4 l1_4.length c1_4] rfl (by (try simp only [mA,mC,mN]);first|done|rfl|(simp only [List.length_drop,List.length_take];rfl)) ?_;(with_reducible refine (laws_eqIntS.calls k _ _ l0_4 _ _ l1_4 false _ ?side1 ?side2 ?side3 ?side4 A7.out).mono ?_);(case side1=>repeat (first|exact (Kd.C_below HR0_4.out HB.out)|(with_reducible first|apply aC|apply nC|apply dC)));(case side2=>exact HC0_4.out);(case side3=>repeat (first|exact (Kd.C_below HR1_4.out HB.out)|(with_reducible first|apply aC|apply nC|apply dC)));(case side4=>exact HC1_4.out);rintro e w' ⟨rfl,⟨nd,rfl⟩⟩;refine⟨_,rfl,?_⟩))
 go_ret
 exact⟨by first|rfl|(simp [errW_none,errW_some] <;> rfl)|(simp [*,errW_none,errW_some] <;> rfl),by repeat (first|(with_reducible first|exact HB.out|apply aZ|apply nZ|apply dZ|refine sZ ?_ GE309.out|refine sZ ?_ GE310.out)|exact HB.out)⟩
/-! ### laws_markIntS: function 11 -/
def laws_markIntS.l0 : Nat → List Int → Int → Int → Option (Int × List Int)
 | 0, _, _, _ => none
 | k + 1, x0, x1, x5 => if x5 < (x0.length : Int) then (if 0 ≤ x5 then (laws_markIntS.l0 k (x0.set (x5 : Int).toNat x1) (wrap64 (x1 + 1)) (wrap64 (x5 + 1))) else (none)) else (some (x1, x0))
def laws_markIntS.f (k : Nat) (l0 : List Int) (a1 : Int) : Option (Int × List Int) := laws_markIntS.l0 k l0 a1 0
theorem laws_markIntS.mono_l : ∀ k, (∀ y0 y1 y2, LeO (laws_markIntS.l0 k y0 y1 y2) (laws_markIntS.l0 (k + 1) y0 y1 y2))
 | 0 => fun _ _ _ r h => by simp [laws_markIntS.l0] at h
 | k + 1 => by
  have ih0 := laws_markIntS.mono_l k
  ·intro y0 y1 y2
   unfold laws_markIntS.l0
   repeat' first|(with_reducible first|exact ih0 _ _ _|exact LeO.refl _|exact LeO.none _|refine LeO.ite ?_ ?_|refine LeO.bind ?_ (fun _ => ?_))|exact LeO.none _|refine LeO.ite ?_ ?_|refine LeO.bind ?_ (fun _ => ?_)
theorem laws_markIntS.mono : ∀ a0 a1 k, LeO (laws_markIntS.f k a0 a1) (laws_markIntS.f (k + 1) a0 a1) := by
 intro a0 a1 k
 have ih0 := laws_markIntS.mono_l k
 unfold laws_markIntS.f
 repeat' first|(with_reducible first|exact ih0 _ _ _|exact LeO.refl _|exact LeO.none _|refine LeO.ite ?_ ?_|refine LeO.bind ?_ (fun _ => ?_))|exact LeO.none _|refine LeO.ite ?_ ?_|refine LeO.bind ?_ (fun _ => ?_)
set_option maxHeartbeats 8000000 in
set_option maxRecDepth 100000 in
theorem laws_markIntS.calls (k : Nat) (P0_ : Nat → Prop) (u9000_ : Value) (l0 : List Int) (a1 : Int) (r1 : Int) (r2 : List Int) (w0 w : World) (hB : Below w0.heap.size w0 w) (ho0 : Kd.R (Kd.int .i64) 3 w w0.heap.size P0_ u9000_ l0) (h : laws_markIntS.f k l0 a1 = some (r1, r2)) :
  Calls Try.prog 11 #[u9000_, .int .i64 a1] w fun e w' => e = .returned (.int .i64 r1) ∧ Kd.R (Kd.int .i64) 3 w' w0.heap.size (fun k_ => (P0_ k_ ∨ w.heap.size ≤ k_)) u9000_ r2 ∧ Below w0.heap.size w0 w' ∧ Kept w w' (fun k_ => P0_ k_) := by
 have HO0:=mk0 (show Kd.R (Kd.int .i64) 3 w w0.heap.size (fun k_=>(P0_ k_ ∨ w.heap.size ≤ k_)) u9000_ l0 from Kd.R_mono ho0 (fun k_ hk=>(.inl hk)))
 have HK:=mk0 (Kept.refl w (fun k_=>P0_ k_))
 have HW0:=mk0 hB.size
 have HB:=mk0 hB
 clear hB
 have H:(laws_markIntS.l0 k l0 a1 0) = some (r1,r2):=h
 clear h
 have H':=mk0 H
 clear H
 go_enter Try.func11,Try.ntmps11
 go_wp2
 go_loopg [1,5] k (fun kq v1 v5 w'=>∃ (x0_1:List Int) (x1_1:Int) (x5_1:Int),v1 = .int .i64 x1_1 ∧ v5 = .int .i64 x5_1 ∧ Aside0 (laws_markIntS.l0 kq x0_1 x1_1 x5_1 = some (r1,r2)) ∧ Aside0 (kq ≤ k) ∧ Aside0 (Kd.R (Kd.int .i64) 3 w' w0.heap.size (fun k_=>(P0_ k_ ∨ w.heap.size ≤ k_)) u9000_ x0_1) ∧ Aside0 (Kept w w' (fun k_=>P0_ k_)) ∧ Aside0 (Below w0.heap.size w0 w'))
 case atStart=>exact⟨(l0),(a1),(0),(by first|rfl|(simp;done)|(simp [*];done)),(by first|rfl|(simp;done)|(simp [*];done)),H',⟨Nat.le_refl _⟩,⟨by (with_reducible repeat (first|apply aR|apply nR|apply dR));exact HO0.out⟩,⟨by repeat (first|(with_reducible first|exact HK.out|apply Kept.alloc|apply Kept.drewN|apply Kept.drew)|exact HK.out)⟩,⟨by repeat (first|(with_reducible first|exact HB.out|apply aZ|apply nZ|apply dZ)|exact HB.out)⟩⟩
 case round =>
  clear H'
  try clear c1
  try clear p2
  obtain⟨x0_1,x1_1,x5_1,rfl,rfl,HA,HK1,HO_0,HK,HB⟩:=hrel
  cases gk with
  | zero=>exact absurd HA.out (by simp [laws_markIntS.l0])
  | succ k1 =>
   have H:=HA.out
   clear HA
   simp only [laws_markIntS.l0] at H
   by_cases c3:x5_1 < (x0_1.length:Int)
   ·rw [if_pos c3] at H
    have c3b0:decide (x5_1 < (x0_1.length:Int)) = true:=decide_eq_true c3
    clear c3
    by_cases c4:0 ≤ x5_1
    ·rw [if_pos c4] at H
     have c4b0:decide (0 ≤ x5_1) = true:=decide_eq_true c4
     clear c4
     obtain⟨y314,hy314⟩:∃ y_:List Int,y_ = (x0_1.set (x5_1:Int).toNat x1_1):=⟨_,rfl⟩
     replace H:(laws_markIntS.l0 k1 y314 (wrap64 (x1_1 + 1)) (wrap64 (x5_1 + 1))) = some (r1,r2):=by first|(rw [hy314];with_reducible exact H)|(have H2_:=(Option.bind_some _ _).symm.trans H;rw [hy314];with_reducible exact H2_)|(have H2_:=(Option.bind_some _ _).symm.trans H;with_reducible exact H2_)|with_reducible exact H|(rw [hy314];exact H)|exact H
     have Ny314:=mk0 hy314
     clear hy314
     have H':=mk0 H
     clear H
     obtain⟨Ao6,co6,eo6⟩:=Kd.R_slice HO_0.out
     subst eo6
     have p5:0 ≤ (x5_1:Int):=of_decide_eq_true (by first|(with_reducible assumption)|assumption)
     have q5:(x5_1:Int) < ((x0_1.length:Int):Int):=of_decide_eq_true (by first|(with_reducible assumption)|assumption)
     obtain⟨go5,co5,eo5,gb5,gl5,cl5,HG5⟩:=Kd.R_form HO_0.out (by omega)
     (first|cases eo5|(injection eo5 with ea_ en_ ec_;(first|subst ea_|(injection ea_ with ea_;subst ea_));subst ec_;clear en_))
     have GB5:=mk0 gb5
     have GG5:=mk0 HG5
     clear gb5 gl5 HG5
     have HMgo5:=mk0 (show (P0_ go5 ∨ w.heap.size ≤ go5) from (HO_0.out.1 _ rfl))
     obtain⟨hx5_0,hf5_0⟩:=Kd.R_celln 0 HO_0.out (x5_1:Int) p5 q5
     replace p5:=eq_true p5
     replace q5:=eq_true q5
     have HP7:=Kd.R_putg HO_0.out (x5_1:Int) x1_1
     go_wp2_with (first|((with_reducible refine gate_store (t:=3) (p:=15) rfl ?_);refine store_event (t:=3) (p:=15) (v:=?vo_w8) (w1:=(wr.setCell ⟨go5,(x5_1:Int).toNat,none⟩ (.int .i64 x1_1))) ?hg ?ho ?hn ?hr ?_;(case ho=>rfl);(case hg=>rfl);(case hn=>rfl);(case hr=>first|(go_simp;done)|(go_simp;rfl));intro w8 hw;have hg:wr.grownBy w8 (some go5):=(by rw [hw];exact HP7.2);have hp_:Kd.R (Kd.int .i64) 3 w8 w0.heap.size (fun k_=>(P0_ k_ ∨ w.heap.size ≤ k_)) (.slice (some ⟨go5,0,none⟩) x0_1.length co6) y314:=(by rw [hw,Ny314.out];exact HP7.1);clear HP7;have n0_:=mk0 (hp_);have n1_:=mk0 ((by rw [hw];exact sZ (HB.out) GB5.out:Below w0.heap.size w0 w8));have n2_:=mk0 (Kept.of_grown (S:=(fun k_=>P0_ k_)) hg (by repeat (first|(with_reducible first|exact HK.out|apply Kept.alloc|apply Kept.drewN|apply Kept.drew)|exact HK.out)) (fun k_ e_=>(HO_0.out.1 k_ e_)));clear HO_0 HB HK;have HO_0:=n0_;have HB:=n1_;have HK:=n2_;clear n0_ n1_ n2_ hg hw hp_))
     go_roundg k1
     case measure=>have:=HK1.out;omega
     case rel=>exact⟨(y314),(wrap64 (x1_1 + 1)),(wrap64 (x5_1 + 1)),(by first|rfl|(simp;done)|(simp [*];done)),(by first|rfl|(simp;done)|(simp [*];done)),H',⟨by have:=HK1.out;omega⟩,⟨by (with_reducible repeat (first|apply aR|apply nR|apply dR));exact HO_0.out⟩,⟨by repeat (first|(with_reducible first|exact HK.out|apply Kept.alloc|apply Kept.drewN|apply Kept.drew)|exact HK.out)⟩,⟨by repeat (first|(with_reducible first|exact HB.out|apply aZ|apply nZ|apply dZ)|exact HB.out)⟩⟩
    ·rw [if_neg c4] at H
     exact absurd H (by simp)
   ·rw [if_neg c3] at H
    have c3b0:decide (x5_1 < (x0_1.length:Int)) = false:=decide_eq_false c3
    clear c3
    simp only [Option.some.injEq,Prod.mk.injEq] at H
    obtain⟨rfl,rfl⟩:=H
    obtain⟨Ao9,co9,eo9⟩:=Kd.R_slice HO_0.out
    subst eo9
    go_wp2
    go_ret
    exact⟨by first|rfl|(simp [errW_none,errW_some] <;> rfl)|(simp [*,errW_none,errW_some] <;> rfl),by (with_reducible repeat (first|apply aR|apply nR|apply dR));exact HO_0.out,by repeat (first|(with_reducible first|exact HB.out|apply aZ|apply nZ|apply dZ)|exact HB.out),by repeat (first|(with_reducible first|exact HK.out|apply Kept.alloc|apply Kept.drewN|apply Kept.drew)|exact HK.out)⟩

/-! ### laws_markUint64S: function 52 -/
def laws_markUint64S.l0 : Nat → List Int → Int → Int → Option (Int × List Int)
 | 0, _, _, _ => none
 | k + 1, x0, x1, x5 => if x5 < (x0.length : Int) then (if 0 ≤ x5 then (laws_markUint64S.l0 k (x0.set (x5 : Int).toNat (IntKind.u64.wrap (x1))) (wrap64 (x1 + 1)) (wrap64 (x5 + 1))) else (none)) else (some (x1, x0))
def laws_markUint64S.f (k : Nat) (l0 : List Int) (a1 : Int) : Option (Int × List Int) := laws_markUint64S.l0 k l0 a1 0
theorem laws_markUint64S.mono_l : ∀ k, (∀ y0 y1 y2, LeO (laws_markUint64S.l0 k y0 y1 y2) (laws_markUint64S.l0 (k + 1) y0 y1 y2))
 | 0 => fun _ _ _ r h => by simp [laws_markUint64S.l0] at h
 | k + 1 => by
  have ih0 := laws_markUint64S.mono_l k
  ·intro y0 y1 y2
   unfold laws_markUint64S.l0
   repeat' first|(with_reducible first|exact ih0 _ _ _|exact LeO.refl _|exact LeO.none _|refine LeO.ite ?_ ?_|refine LeO.bind ?_ (fun _ => ?_))|exact LeO.none _|refine LeO.ite ?_ ?_|refine LeO.bind ?_ (fun _ => ?_)
theorem laws_markUint64S.mono : ∀ a0 a1 k, LeO (laws_markUint64S.f k a0 a1) (laws_markUint64S.f (k + 1) a0 a1) := by
 intro a0 a1 k
 have ih0 := laws_markUint64S.mono_l k
 unfold laws_markUint64S.f
 repeat' first|(with_reducible first|exact ih0 _ _ _|exact LeO.refl _|exact LeO.none _|refine LeO.ite ?_ ?_|refine LeO.bind ?_ (fun _ => ?_))|exact LeO.none _|refine LeO.ite ?_ ?_|refine LeO.bind ?_ (fun _ => ?_)
set_option maxHeartbeats 8000000 in
set_option maxRecDepth 100000 in
theorem laws_markUint64S.calls (k : Nat) (P0_ : Nat → Prop) (u9000_ : Value) (l0 : List Int) (a1 : Int) (r1 : Int) (r2 : List Int) (w0 w : World) (hB : Below w0.heap.size w0 w) (ho0 : Kd.R (Kd.int .u64) 77 w w0.heap.size P0_ u9000_ l0) (h : laws_markUint64S.f k l0 a1 = some (r1, r2)) :
  Calls Try.prog 52 #[u9000_, .int .i64 a1] w fun e w' => e = .returned (.int .i64 r1) ∧ Kd.R (Kd.int .u64) 77 w' w0.heap.size (fun k_ => (P0_ k_ ∨ w.heap.size ≤ k_)) u9000_ r2 ∧ Below w0.heap.size w0 w' ∧ Kept w w' (fun k_ => P0_ k_) := by
 have HO0:=mk0 (show Kd.R (Kd.int .u64) 77 w w0.heap.size (fun k_=>(P0_ k_ ∨ w.heap.size ≤ k_)) u9000_ l0 from Kd.R_mono ho0 (fun k_ hk=>(.inl hk)))
 have HK:=mk0 (Kept.refl w (fun k_=>P0_ k_))
 have HW0:=mk0 hB.size
 have HB:=mk0 hB
 clear hB
 have H:(laws_markUint64S.l0 k l0 a1 0) = some (r1,r2):=h
 clear h
 have H':=mk0 H
 clear H
 go_enter Try.func52,Try.ntmps52
 go_wp2
 go_loopg [1,5] k (fun kq v1 v5 w'=>∃ (x0_1:List Int) (x1_1:Int) (x5_1:Int),v1 = .int .i64 x1_1 ∧ v5 = .int .i64 x5_1 ∧ Aside0 (laws_markUint64S.l0 kq x0_1 x1_1 x5_1 = some (r1,r2)) ∧ Aside0 (kq ≤ k) ∧ Aside0 (Kd.R (Kd.int .u64) 77 w' w0.heap.size (fun k_=>(P0_ k_ ∨ w.heap.size ≤ k_)) u9000_ x0_1) ∧ Aside0 (Kept w w' (fun k_=>P0_ k_)) ∧ Aside0 (Below w0.heap.size w0 w'))
 case atStart=>exact⟨(l0),(a1),(0),(by first|rfl|(simp;done)|(simp [*];done)),(by first|rfl|(simp;done)|(simp [*];done)),H',⟨Nat.le_refl _⟩,⟨by (with_reducible repeat (first|apply aR|apply nR|apply dR));exact HO0.out⟩,⟨by repeat (first|(with_reducible first|exact HK.out|apply Kept.alloc|apply Kept.drewN|apply Kept.drew)|exact HK.out)⟩,⟨by repeat (first|(with_reducible first|exact HB.out|apply aZ|apply nZ|apply dZ)|exact HB.out)⟩⟩
 case round =>
  clear H'
  try clear p2
  obtain⟨x0_1,x1_1,x5_1,rfl,rfl,HA,HK1,HO_0,HK,HB⟩:=hrel
  cases gk with
  | zero=>exact absurd HA.out (by simp [laws_markUint64S.l0])
  | succ k1 =>
   have H:=HA.out
   clear HA
   simp only [laws_markUint64S.l0] at H
   by_cases c3:x5_1 < (x0_1.length:Int)
   ·rw [if_pos c3] at H
    have c3b0:decide (x5_1 < (x0_1.length:Int)) = true:=decide_eq_true c3
    clear c3
    by_cases c4:0 ≤ x5_1
    ·rw [if_pos c4] at H
     have c4b0:decide (0 ≤ x5_1) = true:=decide_eq_true c4
     clear c4
     obtain⟨y315,hy315⟩:∃ y_:List Int,y_ = (x0_1.set (x5_1:Int).toNat (IntKind.u64.wrap (x1_1))):=⟨_,rfl⟩
     replace H:(laws_markUint64S.l0 k1 y315 (wrap64 (x1_1 + 1)) (wrap64 (x5_1 + 1))) = some (r1,r2):=by first|(rw [hy315];with_reducible exact H)|(have H2_:=(Option.bind_some _ _).symm.trans H;rw [hy315];with_reducible exact H2_)|(have H2_:=(Option.bind_some _ _).symm.trans H;with_reducible exact H2_)|with_reducible exact H|(rw [hy315];exact H)|exact H
     have Ny315:=mk0 hy315
     clear hy315
     have H':=mk0 H
     clear H
     obtain⟨Ao6,co6,eo6⟩:=Kd.R_slice HO_0.out
     subst eo6
     have p5:0 ≤ (x5_1:Int):=of_decide_eq_true (by first|(with_reducible assumption)|assumption)
     have q5:(x5_1:Int) < ((x0_1.length:Int):Int):=of_decide_eq_true (by first|(with_reducible assumption)|assumption)
     obtain⟨go5,co5,eo5,gb5,gl5,cl5,HG5⟩:=Kd.R_form HO_0.out (by omega)
     (first|cases eo5|(injection eo5 with ea_ en_ ec_;(first|subst ea_|(injection ea_ with ea_;subst ea_));subst ec_;clear en_))
     have GB5:=mk0 gb5
     have GG5:=mk0 HG5
     clear gb5 gl5 HG5
     have HMgo5:=mk0 (show (P0_ go5 ∨ w.heap.size ≤ go5) from (HO_0.out.1 _ rfl))
     obtain⟨hx5_0,hf5_0⟩:=Kd.R_celln 0 HO_0.out (x5_1:Int) p5 q5
     replace p5:=eq_true p5
     replace q5:=eq_true q5
     have HP7:=Kd.R_putg HO_0.out (x5_1:Int) (IntKind.u64.wrap (x1_1))
     go_wp2_with (first|((with_reducible refine gate_store (t:=77) (p:=16) rfl ?_);refine store_event (t:=77) (p:=16) (v:=?vo_w8) (w1:=(wr.setCell ⟨go5,(x5_1:Int).toNat,none⟩ (.int .u64 (IntKind.u64.wrap (x1_1))))) ?hg ?ho ?hn ?hr ?_;(case ho=>rfl);(case hg=>rfl);(case hn=>rfl);(case hr=>first|(go_simp;done)|(go_simp;rfl));intro w8 hw;have hg:wr.grownBy w8 (some go5):=(by rw [hw];exact HP7.2);have hp_:Kd.R (Kd.int .u64) 77 w8 w0.heap.size (fun k_=>(P0_ k_ ∨ w.heap.size ≤ k_)) (.slice (some ⟨go5,0,none⟩) x0_1.length co6) y315:=(by rw [hw,Ny315.out];exact HP7.1);clear HP7;have n0_:=mk0 (hp_);have n1_:=mk0 ((by rw [hw];exact sZ (HB.out) GB5.out:Below w0.heap.size w0 w8));have n2_:=mk0 (Kept.of_grown (S:=(fun k_=>P0_ k_)) hg (by repeat (first|(with_reducible first|exact HK.out|apply Kept.alloc|apply Kept.drewN|apply Kept.drew)|exact HK.out)) (fun k_ e_=>(HO_0.out.1 k_ e_)));clear HO_0 HB HK;have HO_0:=n0_;have HB:=n1_;have HK:=n2_;clear n0_ n1_ n2_ hg hw hp_))
     go_roundg k1
     case measure=>have:=HK1.out;omega
     case rel=>exact⟨(y315),(wrap64 (x1_1 + 1)),(wrap64 (x5_1 + 1)),(by first|rfl|(simp;done)|(simp [*];done)),(by first|rfl|(simp;done)|(simp [*];done)),H',⟨by have:=HK1.out;omega⟩,⟨by (with_reducible repeat (first|apply aR|apply nR|apply dR));exact HO_0.out⟩,⟨by repeat (first|(with_reducible first|exact HK.out|apply Kept.alloc|apply Kept.drewN|apply Kept.drew)|exact HK.out)⟩,⟨by repeat (first|(with_reducible first|exact HB.out|apply aZ|apply nZ|apply dZ)|exact HB.out)⟩⟩
    ·rw [if_neg c4] at H
     exact absurd H (by simp)
   ·rw [if_neg c3] at H
    have c3b0:decide (x5_1 < (x0_1.length:Int)) = false:=decide_eq_false c3
    clear c3
    simp only [Option.some.injEq,Prod.mk.injEq] at H
    obtain⟨rfl,rfl⟩:=H
    obtain⟨Ao9,co9,eo9⟩:=Kd.R_slice HO_0.out
    subst eo9
    go_wp2
    go_ret
    exact⟨by first|rfl|(simp [errW_none,errW_some] <;> rfl)|(simp [*,errW_none,errW_some] <;> rfl),by (with_reducible repeat (first|apply aR|apply nR|apply dR));exact HO_0.out,by repeat (first|(with_reducible first|exact HB.out|apply aZ|apply nZ|apply dZ)|exact HB.out),by repeat (first|(with_reducible first|exact HK.out|apply Kept.alloc|apply Kept.drewN|apply Kept.drew)|exact HK.out)⟩

/-! ### laws_markBits: function 31 -/
def laws_markBits.f (k : Nat) (a0_0 : Int) (l0_1 : List Int) (a1 : Int) : Option (Int × List Int) := (laws_markUint64S.f k l0_1 a1).bind fun bt317 => (some (bt317.1, bt317.2))
theorem laws_markBits.mono : ∀ a0 a1 a2 k, LeO (laws_markBits.f k a0 a1 a2) (laws_markBits.f (k + 1) a0 a1 a2) := by
 intro a0 a1 a2 k
 unfold laws_markBits.f
 repeat' first|(with_reducible first|exact laws_markUint64S.mono _ _ _|exact LeO.refl _|exact LeO.none _|refine LeO.ite ?_ ?_|refine LeO.bind ?_ (fun _ => ?_))|exact LeO.none _|refine LeO.ite ?_ ?_|refine LeO.bind ?_ (fun _ => ?_)
set_option maxHeartbeats 8000000 in
set_option maxRecDepth 100000 in
theorem laws_markBits.calls (k : Nat) (a0_0 : Int) (P0_1_ : Nat → Prop) (u9000_ : Value) (l0_1 : List Int) (a1 : Int) (r1 : Int) (r2 : List Int) (w0 w : World) (hB : Below w0.heap.size w0 w) (ho0_1 : Kd.R (Kd.int .u64) 77 w w0.heap.size P0_1_ u9000_ l0_1) (h : laws_markBits.f k a0_0 l0_1 a1 = some (r1, r2)) :
  Calls Try.prog 31 #[.agg #[.int .i64 a0_0, u9000_], .int .i64 a1] w fun e w' => e = .returned (.int .i64 r1) ∧ Kd.R (Kd.int .u64) 77 w' w0.heap.size (fun k_ => (P0_1_ k_ ∨ w.heap.size ≤ k_)) u9000_ r2 ∧ Below w0.heap.size w0 w' ∧ Kept w w' (fun k_ => P0_1_ k_) := by
 have hu25:=Try.underlying25
 have HO0_1:=mk0 (show Kd.R (Kd.int .u64) 77 w w0.heap.size (fun k_=>(P0_1_ k_ ∨ w.heap.size ≤ k_)) u9000_ l0_1 from Kd.R_mono ho0_1 (fun k_ hk=>(.inl hk)))
 have HK:=mk0 (Kept.refl w (fun k_=>P0_1_ k_))
 have HW0:=mk0 hB.size
 have HB:=mk0 hB
 clear hB
 have H:((laws_markUint64S.f k l0_1 a1).bind fun bt317=>(some (bt317.1,bt317.2))) = some (r1,r2):=h
 clear h
 replace H:=Option.bind_eq_some_iff.mp H
 obtain⟨⟨t317,t318⟩,A30,H⟩:=H
 replace H:(some (t317,t318)) = some (r1,r2):=H
 have A3:=mk0 A30
 clear A30
 simp only [Option.some.injEq,Prod.mk.injEq] at H
 obtain⟨rfl,rfl⟩:=H
 obtain⟨Ao4,co4,eo4⟩:=Kd.R_slice HO0_1.out
 subst eo4
 go_enter Try.func31,Try.ntmps31
 go_wp2_with (first|((with_reducible refine gate_dst (N:=2) rfl ?_);refine box_event ?hg (N:=2) ?hd (cs:=#[.int .i64 a0_0,.slice Ao4 l0_1.length co4]) (t:=25) ?hr ?_;(case hd=>rfl);(case hg=>rfl);(case hr=>first|(go_simp;done)|(go_simp;rfl));intro gb316 hg w5 hbox hb;have n0_:=mk0 (Kd.R_below (by (with_reducible repeat (first|apply aR|apply nR|apply dR));exact HO0_1.out) hb);have n1_:=mk0 (Kept.below (S:=(fun k_=>P0_1_ k_)) (by repeat (first|(with_reducible first|exact HK.out|apply Kept.alloc|apply Kept.drewN|apply Kept.drew)|exact HK.out)) hb);have n2_:=mk0 (below_step (by repeat (first|(with_reducible first|exact HB.out|apply aZ|apply nZ|apply dZ)|exact HB.out)) hb);have n3_:=mk0 (hbox);have n4_:=mk0 ((by rw [hg];exact (by first|exact HK.out.1|exact (show Kept w _ (fun k_=>P0_1_ k_) from by repeat (first|(with_reducible first|exact HK.out|apply Kept.alloc|apply Kept.drewN|apply Kept.drew)|exact HK.out)).1):w.heap.size ≤ gb316));have n5_:=mk0 ((by rw [hg];exact (below_size (by repeat (first|(with_reducible first|exact HB.out|apply aZ|apply nZ|apply dZ)|exact HB.out))):w0.heap.size ≤ gb316));clear HO0_1 HK HB;have HO0_1:=n0_;have HK:=n1_;have HB:=n2_;have BK316:=n3_;have GW316:=n4_;have GE316:=n5_;clear n0_ n1_ n2_ n3_ n4_ n5_ hb hbox hg;have hcz6_0:w5.cell? ⟨gb316,0,none⟩ = some (.int .i64 a0_0):=(blk_cell BK316.out 0).trans rfl;have hcz6_1:w5.cell? ⟨gb316,1,none⟩ = some (.slice Ao4 l0_1.length co4):=(blk_cell BK316.out 1).trans rfl;have hfz6_0:=blk_frozen BK316.out 0;have hfz6_1:=blk_frozen BK316.out 1)|((with_reducible refine gate_callee (f:=52) rfl ?_);refine goesL_ (some 8) rfl rfl Try.func52 (by kernel_rfl) rfl #[.slice Ao4 l0_1.length co4,.int .i64 a1] rfl (by (try simp only [mA,mC,mN]);first|done|rfl|(simp only [List.length_drop,List.length_take];rfl)) ?_;(with_reducible refine (laws_markUint64S.calls k (fun k_=>some k_ = (.slice Ao4 l0_1.length co4:Value).ownBlock) (.slice Ao4 l0_1.length co4) l0_1 a1 t317 t318 w0 _ ?side1 ?side2 A3.out).mono ?_);(case side1=>repeat (first|(with_reducible first|exact HB.out|apply aZ|apply nZ|apply dZ|refine sZ ?_ GE316.out)|exact HB.out));(case side2=>exact Kd.R_tight rfl HO0_1.out);rintro e w7 ⟨rfl,hy0,hb,hkp⟩;refine⟨_,rfl,?_⟩;have n0_:=mk0 (Kd.R_reok rfl hy0 (fun k_ e_=>HO0_1.out.1 k_ e_));have n1_:=mk0 (blk_kept (by (with_reducible repeat (first|apply nB|apply dB|apply aB));exact BK316.out) hkp (fun hs_=>(fun e_=>(Kd.R_ne HO0_1.out BK316.out (by decide)) e_) hs_));have n2_:=mk0 (Kept.then_ (S:=(fun k_=>P0_1_ k_)) (by repeat (first|(with_reducible first|exact HK.out|apply Kept.alloc|apply Kept.drewN|apply Kept.drew|refine Kept.setCell ?_ (.inr GW316.out) _)|exact HK.out)) hkp (fun k_ hs_=>(fun e_=>(HO0_1.out.1 k_ e_.symm)) hs_));have n3_:=mk0 (hb);clear HO0_1 BK316 HK HB;have HO0_1:=n0_;have BK316:=n1_;have HK:=n2_;have HB:=n3_;clear n0_ n1_ n2_ n3_;(try clear hb);(try clear hkp);(try clear hy0)))
 go_ret
 exact⟨by first|rfl|(simp [errW_none,errW_some] <;> rfl)|(simp [*,errW_none,errW_some] <;> rfl),by (with_reducible repeat (first|apply aR|apply nR|apply dR));exact HO0_1.out,by repeat (first|(with_reducible first|exact HB.out|apply aZ|apply nZ|apply dZ|refine sZ ?_ GE316.out)|exact HB.out),by repeat (first|(with_reducible first|exact HK.out|apply Kept.alloc|apply Kept.drewN|apply Kept.drew|refine Kept.setCell ?_ (.inr GW316.out) _)|exact HK.out)⟩

/-! ### laws_markPatch: function 12 -/
def laws_markPatch.f (k : Nat) (a0_0 : Int) (l0_1 : List Int) (a0_2 : Int) (l0_3 : List Int) (l0_4 : List Int) (a1 : Int) : Option (Int × List Int × List Int × List Int) := (laws_markBits.f k a0_0 l0_1 a1).bind fun bt320 => ((laws_markBits.f k a0_2 l0_3 bt320.1).bind fun bt322 => ((laws_markIntS.f k l0_4 bt322.1).bind fun bt324 => (some (bt324.1, bt320.2, bt322.2, bt324.2))))
theorem laws_markPatch.mono : ∀ a0 a1 a2 a3 a4 a5 k, LeO (laws_markPatch.f k a0 a1 a2 a3 a4 a5) (laws_markPatch.f (k + 1) a0 a1 a2 a3 a4 a5) := by
 intro a0 a1 a2 a3 a4 a5 k
 unfold laws_markPatch.f
 repeat' first|(with_reducible first|exact laws_markBits.mono _ _ _ _|exact laws_markIntS.mono _ _ _|exact LeO.refl _|exact LeO.none _|refine LeO.ite ?_ ?_|refine LeO.bind ?_ (fun _ => ?_))|exact LeO.none _|refine LeO.ite ?_ ?_|refine LeO.bind ?_ (fun _ => ?_)
set_option maxHeartbeats 8000000 in
set_option maxRecDepth 100000 in
theorem laws_markPatch.calls (k : Nat) (a0_0 : Int) (P0_1_ : Nat → Prop) (u9000_ : Value) (l0_1 : List Int) (a0_2 : Int) (P0_3_ : Nat → Prop) (u9001_ : Value) (l0_3 : List Int) (P0_4_ : Nat → Prop) (u9002_ : Value) (l0_4 : List Int) (a1 : Int) (r1 : Int) (r2 : List Int) (r3 : List Int) (r4 : List Int) (w0 w : World) (hB : Below w0.heap.size w0 w) (ho0_1 : Kd.R (Kd.int .u64) 77 w w0.heap.size P0_1_ u9000_ l0_1) (hp0_1_0_3 : ∀ k_, P0_1_ k_ → ¬ P0_3_ k_) (ho0_3 : Kd.R (Kd.int .u64) 77 w w0.heap.size P0_3_ u9001_ l0_3) (hp0_3_0_1 : ∀ k_, P0_3_ k_ → ¬ P0_1_ k_) (ho0_4 : Kd.R (Kd.int .i64) 3 w w0.heap.size P0_4_ u9002_ l0_4) (h : laws_markPatch.f k a0_0 l0_1 a0_2 l0_3 l0_4 a1 = some (r1, r2, r3, r4)) :
  Calls Try.prog 12 #[.agg #[.int .i64 a0_0, u9000_, .int .i64 a0_2, u9001_, u9002_], .int .i64 a1] w fun e w' => e = .returned (.int .i64 r1) ∧ Kd.R (Kd.int .u64) 77 w' w0.heap.size (fun k_ => ((P0_1_ k_ ∨ P0_3_ k_ ∨ P0_4_ k_) ∨ w.heap.size ≤ k_)) u9000_ r2 ∧ Kd.R (Kd.int .u64) 77 w' w0.heap.size (fun k_ => ((P0_1_ k_ ∨ P0_3_ k_ ∨ P0_4_ k_) ∨ w.heap.size ≤ k_)) u9001_ r3 ∧ Kd.R (Kd.int .i64) 3 w' w0.heap.size (fun k_ => ((P0_1_ k_ ∨ P0_3_ k_ ∨ P0_4_ k_) ∨ w.heap.size ≤ k_)) u9002_ r4 ∧ Below w0.heap.size w0 w' ∧ Kept w w' (fun k_ => P0_1_ k_ ∨ P0_3_ k_ ∨ P0_4_ k_) := by
 have hu27:=Try.underlying27
 have hu25:=Try.underlying25
 have HO0_1:=mk0 (show Kd.R (Kd.int .u64) 77 w w0.heap.size (fun k_=>((P0_1_ k_ ∨ P0_3_ k_ ∨ P0_4_ k_) ∨ w.heap.size ≤ k_) ∧ some k_ ≠ (u9001_:Value).ownBlock) u9000_ l0_1 from Kd.R_mono ho0_1 (fun k_ hk=>⟨(.inl (.inl hk)),fun e_=>hp0_1_0_3 k_ hk (ho0_3.1 k_ e_.symm)⟩))
 have HO0_3:=mk0 (show Kd.R (Kd.int .u64) 77 w w0.heap.size (fun k_=>((P0_1_ k_ ∨ P0_3_ k_ ∨ P0_4_ k_) ∨ w.heap.size ≤ k_) ∧ some k_ ≠ (u9000_:Value).ownBlock) u9001_ l0_3 from Kd.R_mono ho0_3 (fun k_ hk=>⟨(.inl (.inr (.inl hk))),fun e_=>hp0_3_0_1 k_ hk (ho0_1.1 k_ e_.symm)⟩))
 have HO0_4:=mk0 (show Kd.R (Kd.int .i64) 3 w w0.heap.size (fun k_=>((P0_1_ k_ ∨ P0_3_ k_ ∨ P0_4_ k_) ∨ w.heap.size ≤ k_)) u9002_ l0_4 from Kd.R_mono ho0_4 (fun k_ hk=>(.inl (.inr (.inr hk)))))
 have HK:=mk0 (Kept.refl w (fun k_=>P0_1_ k_ ∨ P0_3_ k_ ∨ P0_4_ k_))
 have HW0:=mk0 hB.size
 have HB:=mk0 hB
 clear hB
 have H:((laws_markBits.f k a0_0 l0_1 a1).bind fun bt320=>((laws_markBits.f k a0_2 l0_3 bt320.1).bind fun bt322=>((laws_markIntS.f k l0_4 bt322.1).bind fun bt324=>(some (bt324.1,bt320.2,bt322.2,bt324.2))))) = some (r1,r2,r3,r4):=h
 clear h
 replace H:=Option.bind_eq_some_iff.mp H
 obtain⟨⟨t320,t321⟩,A30,H⟩:=H
 replace H:((laws_markBits.f k a0_2 l0_3 t320).bind fun bt322=>((laws_markIntS.f k l0_4 bt322.1).bind fun bt324=>(some (bt324.1,t321,bt322.2,bt324.2)))) = some (r1,r2,r3,r4):=H
 have A3:=mk0 A30
 clear A30
 replace H:=Option.bind_eq_some_iff.mp H
 obtain⟨⟨t322,t323⟩,A40,H⟩:=H
 replace H:((laws_markIntS.f k l0_4 t322).bind fun bt324=>(some (bt324.1,t321,t323,bt324.2))) = some (r1,r2,r3,r4):=H
 have A4:=mk0 A40
 clear A40
 replace H:=Option.bind_eq_some_iff.mp H
 obtain⟨⟨t324,t325⟩,A50,H⟩:=H
 replace H:(some (t324,t321,t323,t325)) = some (r1,r2,r3,r4):=H
 have A5:=mk0 A50
 clear A50
 simp only [Option.some.injEq,Prod.mk.injEq] at H
 obtain⟨rfl,rfl,rfl,rfl⟩:=H
 obtain⟨Ao6,co6,eo6⟩:=Kd.R_slice HO0_1.out
 subst eo6
 obtain⟨Ao7,co7,eo7⟩:=Kd.R_slice HO0_3.out
 subst eo7
 obtain⟨Ao8,co8,eo8⟩:=Kd.R_slice HO0_4.out
 subst eo8
 go_enter Try.func12,Try.ntmps12
 go_wp2_with (first|((with_reducible refine gate_dst (N:=2) rfl ?_);refine box_event ?hg (N:=2) ?hd (cs:=#[.int .i64 a0_0,.slice Ao6 l0_1.length co6,.int .i64 a0_2,.slice Ao7 l0_3.length co7,.slice Ao8 l0_4.length co8]) (t:=27) ?hr ?_;(case hd=>rfl);(case hg=>rfl);(case hr=>first|(go_simp;done)|(go_simp;rfl));intro gb319 hg w9 hbox hb;have n0_:=mk0 (Kd.R_below (by (with_reducible repeat (first|apply aR|apply nR|apply dR));exact HO0_1.out) hb);have n1_:=mk0 (Kd.R_below (by (with_reducible repeat (first|apply aR|apply nR|apply dR));exact HO0_3.out) hb);have n2_:=mk0 (Kd.R_below (by (with_reducible repeat (first|apply aR|apply nR|apply dR));exact HO0_4.out) hb);have n3_:=mk0 (Kept.below (S:=(fun k_=>P0_1_ k_ ∨ P0_3_ k_ ∨ P0_4_ k_)) (by repeat (first|(with_reducible first|exact HK.out|apply Kept.alloc|apply Kept.drewN|apply Kept.drew)|exact HK.out)) hb);have n4_:=mk0 (below_step (by repeat (first|(with_reducible first|exact HB.out|apply aZ|apply nZ|apply dZ)|exact HB.out)) hb);have n5_:=mk0 (hbox);have n6_:=mk0 ((by rw [hg];exact (by first|exact HK.out.1|exact (show Kept w _ (fun k_=>P0_1_ k_ ∨ P0_3_ k_ ∨ P0_4_ k_) from by repeat (first|(with_reducible first|exact HK.out|apply Kept.alloc|apply Kept.drewN|apply Kept.drew)|exact HK.out)).1):w.heap.size ≤ gb319));have n7_:=mk0 ((by rw [hg];exact (below_size (by repeat (first|(with_reducible first|exact HB.out|apply aZ|apply nZ|apply dZ)|exact HB.out))):w0.heap.size ≤ gb319));clear HO0_1 HO0_3 HO0_4 HK HB;have HO0_1:=n0_;have HO0_3:=n1_;have HO0_4:=n2_;have HK:=n3_;have HB:=n4_;have BK319:=n5_;have GW319:=n6_;have GE319:=n7_;clear n0_ n1_ n2_ n3_ n4_ n5_ n6_ n7_ hb hbox hg;have hcz10_0:w9.cell? ⟨gb319,0,none⟩ = some (.int .i64 a0_0):=(blk_cell BK319.out 0).trans rfl;have hcz10_1:w9.cell? ⟨gb319,1,none⟩ = some (.slice Ao6 l0_1.length co6):=(blk_cell BK319.out 1).trans rfl;have hcz10_2:w9.cell? ⟨gb319,2,none⟩ = some (.int .i64 a0_2):=(blk_cell BK319.out 2).trans rfl;have hcz10_3:w9.cell? ⟨gb319,3,none⟩ = some (.slice Ao7 l0_3.length co7):=(blk_cell BK319.out 3).trans rfl;have hcz10_4:w9.cell? ⟨gb319,4,none⟩ = some (.slice Ao8 l0_4.length co8):=(blk_cell BK319.out 4).trans rfl;have hfz10_0:=blk_frozen BK319.out 0;have hfz10_1:=blk_frozen BK319.out 1;have hfz10_2:=blk_frozen BK319.out 2;have hfz10_3:=blk_frozen BK319.out 3;have hfz10_4:=blk_frozen BK319.out 4)|((with_reducible refine gate_callee (f:=31) rfl ?_);refine goesL_ (some 8) rfl rfl Try.func31 (by kernel_rfl) rfl #[.agg #[.int .i64 a0_0,.slice Ao6 l0_1.length co6],.int .i64 a1] rfl (by (try simp only [mA,mC,mN]);first|done|rfl|(simp only [List.length_drop,List.length_take];rfl)) ?_;(with_reducible refine (laws_markBits.calls k a0_0 (fun k_=>some k_ = (.slice Ao6 l0_1.length co6:Value).ownBlock) (.slice Ao6 l0_1.length co6) l0_1 a1 t320 t321 w0 _ ?side1 ?side2 A3.out).mono ?_);(case side1=>repeat (first|(with_reducible first|exact HB.out|apply aZ|apply nZ|apply dZ|refine sZ ?_ GE319.out)|exact HB.out));(case side2=>exact Kd.R_tight rfl HO0_1.out);rintro e w11 ⟨rfl,hy0,hb,hkp⟩;refine⟨_,rfl,?_⟩;have n0_:=mk0 (Kd.R_reok rfl hy0 (fun k_ e_=>HO0_1.out.1 k_ e_));have n1_:=mk0 (Kd.R_mono (ok':=fun k_=>((P0_1_ k_ ∨ P0_3_ k_ ∨ P0_4_ k_) ∨ w.heap.size ≤ k_) ∧ some k_ ≠ (.slice Ao6 l0_1.length co6:Value).ownBlock) (Kd.R_keptB (HO0_3.out) hkp (by first|exact fun k_ hk_ hs_=>(hk_.2) hs_|(intro k_ hk_ hs_;exact absurd hs_ (by simp only [hk_,ne_eq,or_self,not_false_eq_true])))) (by first|exact fun k_ hk_=>⟨hk_.1.1,hk_.1.2⟩|(intro k_ hk_;simp only [hk_,ne_eq,and_self,not_false_eq_true])));have n2_:=mk0 (Kd.R_mono (ok':=fun k_=>((P0_1_ k_ ∨ P0_3_ k_ ∨ P0_4_ k_) ∨ w.heap.size ≤ k_)) (Kd.R_keptB ((Kd.R_apart' HO0_4.out (Kd.R_typed HO0_1.out) (by decide))) hkp (by first|exact fun k_ hk_ hs_=>(hk_.2) hs_|(intro k_ hk_ hs_;exact absurd hs_ (by simp only [hk_,ne_eq,or_self,not_false_eq_true])))) (fun k_ hk_=>hk_.1.1));have n3_:=mk0 (blk_kept (by (with_reducible repeat (first|apply nB|apply dB|apply aB));exact BK319.out) hkp (fun hs_=>(fun e_=>(Kd.R_ne HO0_1.out BK319.out (by decide)) e_) hs_));have n4_:=mk0 (Kept.then_ (S:=(fun k_=>P0_1_ k_ ∨ P0_3_ k_ ∨ P0_4_ k_)) (by repeat (first|(with_reducible first|exact HK.out|apply Kept.alloc|apply Kept.drewN|apply Kept.drew|refine Kept.setCell ?_ (.inr GW319.out) _)|exact HK.out)) hkp (fun k_ hs_=>(fun e_=>(HO0_1.out.1 k_ e_.symm).1) hs_));have n5_:=mk0 (hb);clear HO0_1 HO0_3 HO0_4 BK319 HK HB;have HO0_1:=n0_;have HO0_3:=n1_;have HO0_4:=n2_;have BK319:=n3_;have HK:=n4_;have HB:=n5_;clear n0_ n1_ n2_ n3_ n4_ n5_;(try clear hb);(try clear hkp);(try clear hy0);have hcz12_0:w11.cell? ⟨gb319,0,none⟩ = some (.int .i64 a0_0):=(blk_cell BK319.out 0).trans rfl;have hcz12_1:w11.cell? ⟨gb319,1,none⟩ = some (.slice Ao6 l0_1.length co6):=(blk_cell BK319.out 1).trans rfl;have hcz12_2:w11.cell? ⟨gb319,2,none⟩ = some (.int .i64 a0_2):=(blk_cell BK319.out 2).trans rfl;have hcz12_3:w11.cell? ⟨gb319,3,none⟩ = some (.slice Ao7 l0_3.length co7):=(blk_cell BK319.out 3).trans rfl;have hcz12_4:w11.cell? ⟨gb319,4,none⟩ = some (.slice Ao8 l0_4.length co8):=(blk_cell BK319.out 4).trans rfl;have hfz12_0:=blk_frozen BK319.out 0;have hfz12_1:=blk_frozen BK319.out 1;have hfz12_2:=blk_frozen BK319.out 2;have hfz12_3:=blk_frozen BK319.out 3;have hfz12_4:=blk_frozen BK319.out 4)|((with_reducible refine gate_callee (f:=31) rfl ?_);refine goesL_ (some 12) rfl rfl Try.func31 (by kernel_rfl) rfl #[.agg #[.int .i64 a0_2,.slice Ao7 l0_3.length co7],.int .i64 t320] rfl (by (try simp only [mA,mC,mN]);first|done|rfl|(simp only [List.length_drop,List.length_take];rfl)) ?_;(with_reducible refine (laws_markBits.calls k a0_2 (fun k_=>some k_ = (.slice Ao7 l0_3.length co7:Value).ownBlock) (.slice Ao7 l0_3.length co7) l0_3 t320 t322 t323 w0 _ ?side1 ?side2 A4.out).mono ?_);(case side1=>repeat (first|(with_reducible first|exact HB.out|apply aZ|apply nZ|apply dZ|refine sZ ?_ GE319.out)|exact HB.out));(case side2=>exact Kd.R_tight rfl HO0_3.out);rintro e w13 ⟨rfl,hy0,hb,hkp⟩;refine⟨_,rfl,?_⟩;have n0_:=mk0 (Kd.R_mono (ok':=fun k_=>((P0_1_ k_ ∨ P0_3_ k_ ∨ P0_4_ k_) ∨ w.heap.size ≤ k_) ∧ some k_ ≠ (.slice Ao7 l0_3.length co7:Value).ownBlock) (Kd.R_keptB (HO0_1.out) hkp (by first|exact fun k_ hk_ hs_=>(hk_.2) hs_|(intro k_ hk_ hs_;exact absurd hs_ (by simp only [hk_,ne_eq,or_self,not_false_eq_true])))) (by first|exact fun k_ hk_=>⟨hk_.1.1,hk_.1.2⟩|(intro k_ hk_;simp only [hk_,ne_eq,and_self,not_false_eq_true])));have n1_:=mk0 (Kd.R_reok rfl hy0 (fun k_ e_=>HO0_3.out.1 k_ e_));have n2_:=mk0 (Kd.R_mono (ok':=fun k_=>((P0_1_ k_ ∨ P0_3_ k_ ∨ P0_4_ k_) ∨ w.heap.size ≤ k_)) (Kd.R_keptB ((Kd.R_apart' HO0_4.out (Kd.R_typed HO0_3.out) (by decide))) hkp (by first|exact fun k_ hk_ hs_=>(hk_.2) hs_|(intro k_ hk_ hs_;exact absurd hs_ (by simp only [hk_,ne_eq,or_self,not_false_eq_true])))) (fun k_ hk_=>hk_.1.1));have n3_:=mk0 (blk_kept (by (with_reducible repeat (first|apply nB|apply dB|apply aB));exact BK319.out) hkp (fun hs_=>(fun e_=>(Kd.R_ne HO0_3.out BK319.out (by decide)) e_) hs_));have n4_:=mk0 (Kept.then_ (S:=(fun k_=>P0_1_ k_ ∨ P0_3_ k_ ∨ P0_4_ k_)) (by repeat (first|(with_reducible first|exact HK.out|apply Kept.alloc|apply Kept.drewN|apply Kept.drew|refine Kept.setCell ?_ (.inr GW319.out) _)|exact HK.out)) hkp (fun k_ hs_=>(fun e_=>(HO0_3.out.1 k_ e_.symm).1) hs_));have n5_:=mk0 (hb);clear HO0_1 HO0_3 HO0_4 BK319 HK HB;have HO0_1:=n0_;have HO0_3:=n1_;have HO0_4:=n2_;have BK319:=n3_;have HK:=n4_;have HB:=n5_;clear n0_ n1_ n2_ n3_ n4_ n5_;(try clear hb);(try clear hkp);(try clear hy0);have hcz14_0:w13.cell? ⟨gb319,0,none⟩ = some (.int .i64 a0_0):=(blk_cell BK319.out 0).trans rfl;have hcz14_1:w13.cell? ⟨gb319,1,none⟩ = some (.slice Ao6 l0_1.length co6):=(blk_cell BK319.out 1).trans rfl;have hcz14_2:w13.cell? ⟨gb319,2,none⟩ = some (.int .i64 a0_2):=(blk_cell BK319.out 2).trans rfl;have hcz14_3:w13.cell? ⟨gb319,3,none⟩ = some (.slice Ao7 l0_3.length co7):=(blk_cell BK319.out 3).trans rfl;have hcz14_4:w13.cell? ⟨gb319,4,none⟩ = some (.slice Ao8 l0_4.length co8):=(blk_cell BK319.out 4).trans rfl;have hfz14_0:=blk_frozen BK319.out 0;have hfz14_1:=blk_frozen BK319.out 1;have hfz14_2:=blk_frozen BK319.out 2;have hfz14_3:=blk_frozen BK319.out 3;have hfz14_4:=blk_frozen BK319.out 4)|((with_reducible refine gate_callee (f:=11) rfl ?_);refine goesL_ (some 16) rfl rfl Try.func11 (by kernel_rfl) rfl #[.slice Ao8 l0_4.length co8,.int .i64 t322] rfl (by (try simp only [mA,mC,mN]);first|done|rfl|(simp only [List.length_drop,List.length_take];rfl)) ?_;(with_reducible refine (laws_markIntS.calls k (fun k_=>some k_ = (.slice Ao8 l0_4.length co8:Value).ownBlock) (.slice Ao8 l0_4.length co8) l0_4 t322 t324 t325 w0 _ ?side1 ?side2 A5.out).mono ?_);(case side1=>repeat (first|(with_reducible first|exact HB.out|apply aZ|apply nZ|apply dZ|refine sZ ?_ GE319.out)|exact HB.out));(case side2=>exact Kd.R_tight rfl HO0_4.out);rintro e w15 ⟨rfl,hy0,hb,hkp⟩;refine⟨_,rfl,?_⟩;have n0_:=mk0 (Kd.R_mono (ok':=fun k_=>((P0_1_ k_ ∨ P0_3_ k_ ∨ P0_4_ k_) ∨ w.heap.size ≤ k_) ∧ some k_ ≠ (.slice Ao7 l0_3.length co7:Value).ownBlock) (Kd.R_keptB ((Kd.R_apart' HO0_1.out (Kd.R_typed HO0_4.out) (by decide))) hkp (by first|exact fun k_ hk_ hs_=>(hk_.2) hs_|(intro k_ hk_ hs_;exact absurd hs_ (by simp only [hk_,ne_eq,or_self,not_false_eq_true])))) (by first|exact fun k_ hk_=>⟨hk_.1.1.1,hk_.1.1.2⟩|(intro k_ hk_;simp only [hk_,ne_eq,and_self,not_false_eq_true])));have n1_:=mk0 (Kd.R_mono (ok':=fun k_=>((P0_1_ k_ ∨ P0_3_ k_ ∨ P0_4_ k_) ∨ w.heap.size ≤ k_) ∧ some k_ ≠ (.slice Ao6 l0_1.length co6:Value).ownBlock) (Kd.R_keptB ((Kd.R_apart' HO0_3.out (Kd.R_typed HO0_4.out) (by decide))) hkp (by first|exact fun k_ hk_ hs_=>(hk_.2) hs_|(intro k_ hk_ hs_;exact absurd hs_ (by simp only [hk_,ne_eq,or_self,not_false_eq_true])))) (by first|exact fun k_ hk_=>⟨hk_.1.1.1,hk_.1.1.2⟩|(intro k_ hk_;simp only [hk_,ne_eq,and_self,not_false_eq_true])));have n2_:=mk0 (Kd.R_reok rfl hy0 (fun k_ e_=>HO0_4.out.1 k_ e_));have n3_:=mk0 (blk_kept (by (with_reducible repeat (first|apply nB|apply dB|apply aB));exact BK319.out) hkp (fun hs_=>(fun e_=>(Kd.R_ne HO0_4.out BK319.out (by decide)) e_) hs_));have n4_:=mk0 (Kept.then_ (S:=(fun k_=>P0_1_ k_ ∨ P0_3_ k_ ∨ P0_4_ k_)) (by repeat (first|(with_reducible first|exact HK.out|apply Kept.alloc|apply Kept.drewN|apply Kept.drew|refine Kept.setCell ?_ (.inr GW319.out) _)|exact HK.out)) hkp (fun k_ hs_=>(fun e_=>(HO0_4.out.1 k_ e_.symm)) hs_));have n5_:=mk0 (hb);clear HO0_1 HO0_3 HO0_4 BK319 HK HB;have HO0_1:=n0_;have HO0_3:=n1_;have HO0_4:=n2_;have BK319:=n3_;have HK:=n4_;have HB:=n5_;clear n0_ n1_ n2_ n3_ n4_ n5_;(try clear hb);(try clear hkp);(try clear hy0)))
 go_ret
 exact⟨by first|rfl|(simp [errW_none,errW_some] <;> rfl)|(simp [*,errW_none,errW_some] <;> rfl),by (with_reducible repeat (first|apply aR|apply nR|apply dR));exact Kd.R_mono HO0_1.out (by first|exact fun _ hk=>hk.1|(intro k_ hk;simp only [hk,ne_eq,and_self,not_false_eq_true])),by (with_reducible repeat (first|apply aR|apply nR|apply dR));exact Kd.R_mono HO0_3.out (by first|exact fun _ hk=>hk.1|(intro k_ hk;simp only [hk,ne_eq,and_self,not_false_eq_true])),by (with_reducible repeat (first|apply aR|apply nR|apply dR));exact HO0_4.out,by repeat (first|(with_reducible first|exact HB.out|apply aZ|apply nZ|apply dZ|refine sZ ?_ GE319.out)|exact HB.out),by repeat (first|(with_reducible first|exact HK.out|apply Kept.alloc|apply Kept.drewN|apply Kept.drew|refine Kept.setCell ?_ (.inr GW319.out) _)|exact HK.out)⟩

/-! ### laws_heldIntS: function 18 -/
def laws_heldIntS.l0 : Nat → List Int → Int → Int → Option (Int)
 | 0, _, _, _ => none
 | k + 1, x0, x1, x5 => if x5 < (x0.length : Int) then (if 0 ≤ x5 then (if (rd x0 x5) = x1 then (laws_heldIntS.l0 k x0 (wrap64 (x1 + 1)) (wrap64 (x5 + 1))) else (some (-1))) else (none)) else (some x1)
def laws_heldIntS.f (k : Nat) (l0 : List Int) (a1 : Int) : Option (Int) := laws_heldIntS.l0 k l0 a1 0
theorem laws_heldIntS.mono_l : ∀ k, (∀ y0 y1 y2, LeO (laws_heldIntS.l0 k y0 y1 y2) (laws_heldIntS.l0 (k + 1) y0 y1 y2))
 | 0 => fun _ _ _ r h => by simp [laws_heldIntS.l0] at h
 | k + 1 => by
  have ih0 := laws_heldIntS.mono_l k
  ·intro y0 y1 y2
   unfold laws_heldIntS.l0
   repeat' first|(with_reducible first|exact ih0 _ _ _|exact LeO.refl _|exact LeO.none _|refine LeO.ite ?_ ?_|refine LeO.bind ?_ (fun _ => ?_))|exact LeO.none _|refine LeO.ite ?_ ?_|refine LeO.bind ?_ (fun _ => ?_)
theorem laws_heldIntS.mono : ∀ a0 a1 k, LeO (laws_heldIntS.f k a0 a1) (laws_heldIntS.f (k + 1) a0 a1) := by
 intro a0 a1 k
 have ih0 := laws_heldIntS.mono_l k
 unfold laws_heldIntS.f
 repeat' first|(with_reducible first|exact ih0 _ _ _|exact LeO.refl _|exact LeO.none _|refine LeO.ite ?_ ?_|refine LeO.bind ?_ (fun _ => ?_))|exact LeO.none _|refine LeO.ite ?_ ?_|refine LeO.bind ?_ (fun _ => ?_)
set_option maxHeartbeats 8000000 in
set_option maxRecDepth 100000 in
theorem laws_heldIntS.calls (k : Nat) (A0 : Option Addr) (c0 : Nat) (l0 : List Int) (a1 : Int) (r : Int) (w : World) (hr0 : Kd.C (Kd.int .i64) w A0 l0.length l0) (hc0 : l0.length ≤ c0) (h : laws_heldIntS.f k l0 a1 = some r) :
  Calls Try.prog 18 #[.slice A0 l0.length c0, .int .i64 a1] w fun e w' => e = .returned (.int .i64 r) ∧ Drawn0 w w' := by
 have HR0:=mk0 hr0
 have HC0:=mk0 hc0
 clear hr0 hc0
 have H:(laws_heldIntS.l0 k l0 a1 0) = some r:=h
 clear h
 have H':=mk0 H
 clear H
 go_enter Try.func18,Try.ntmps18
 go_wp2
 go_loopg [1,5] k (fun kq v1 v5 w'=>∃ (x1_1:Int) (x5_1:Int),v1 = .int .i64 x1_1 ∧ v5 = .int .i64 x5_1 ∧ Aside0 (laws_heldIntS.l0 kq l0 x1_1 x5_1 = some r) ∧ Aside0 (kq ≤ k) ∧ Drawn0 w w')
 case atStart=>exact⟨(a1),(0),(by first|rfl|(simp;done)|(simp [*];done)),(by first|rfl|(simp;done)|(simp [*];done)),H',⟨Nat.le_refl _⟩,by repeat (first|exact Drawn0.refl _|apply Drawn0.step)⟩
 case round =>
  clear H'
  try clear c1
  try clear p2
  obtain⟨x1_1,x5_1,rfl,rfl,HA,HK1,⟨m1,rfl⟩⟩:=hrel
  cases gk with
  | zero=>exact absurd HA.out (by simp [laws_heldIntS.l0])
  | succ k1 =>
   have H:=HA.out
   clear HA
   simp only [laws_heldIntS.l0] at H
   by_cases c3:x5_1 < (l0.length:Int)
   ·rw [if_pos c3] at H
    have c3b0:decide (x5_1 < (l0.length:Int)) = true:=decide_eq_true c3
    clear c3
    by_cases c4:0 ≤ x5_1
    ·rw [if_pos c4] at H
     have c4b0:decide (0 ≤ x5_1) = true:=decide_eq_true c4
     clear c4
     by_cases c5:(rd l0 x5_1) = x1_1
     ·rw [if_pos c5] at H
      have c5b0:((rd l0 x5_1) == x1_1) = true:=beq_iff_eq.mpr c5
      have c5b1:((rd l0 x5_1) != x1_1) = false:=bne_eq_false_iff_eq.mpr c5
      clear c5
      have H':=mk0 H
      clear H
      have p326:0 ≤ (x5_1:Int):=of_decide_eq_true (by first|(with_reducible assumption)|assumption)
      have q326:x5_1 < (l0.length:Int):=of_decide_eq_true (by first|(with_reducible assumption)|assumption)
      obtain⟨ad326,e326,hx326_0⟩:=Kd.at_int HR0.out x5_1 p326 q326
      cases e326
      replace p326:=eq_true p326
      replace q326:=eq_true q326
      go_wp2
      go_roundg k1
      case measure=>have:=HK1.out;omega
      case rel=>exact⟨(wrap64 (x1_1 + 1)),(wrap64 (x5_1 + 1)),(by first|rfl|(simp;done)|(simp [*];done)),(by first|rfl|(simp;done)|(simp [*];done)),H',⟨by have:=HK1.out;omega⟩,by repeat (first|exact Drawn0.refl _|apply Drawn0.step)⟩
     ·rw [if_neg c5] at H
      have c5b0:((rd l0 x5_1) == x1_1) = false:=beq_eq_false_iff_ne.mpr c5
      have c5b1:((rd l0 x5_1) != x1_1) = true:=bne_iff_ne.mpr c5
      obtain rfl:=Option.some.inj H
      have p326:0 ≤ (x5_1:Int):=of_decide_eq_true (by first|(with_reducible assumption)|assumption)
      have q326:x5_1 < (l0.length:Int):=of_decide_eq_true (by first|(with_reducible assumption)|assumption)
      obtain⟨ad326,e326,hx326_0⟩:=Kd.at_int HR0.out x5_1 p326 q326
      cases e326
      replace p326:=eq_true p326
      replace q326:=eq_true q326
      go_wp2
      go_ret
      exact⟨by first|rfl|(simp;done)|(simp [*];done),by repeat (first|exact Drawn0.refl _|apply Drawn0.step)⟩
    ·rw [if_neg c4] at H
     exact absurd H (by simp)
   ·rw [if_neg c3] at H
    have c3b0:decide (x5_1 < (l0.length:Int)) = false:=decide_eq_false c3
    clear c3
    obtain rfl:=Option.some.inj H
    go_wp2
    go_ret
    exact⟨by first|rfl|(simp;done)|(simp [*];done),by repeat (first|exact Drawn0.refl _|apply Drawn0.step)⟩

/-! ### laws_heldUint64S: function 53 -/
def laws_heldUint64S.l0 : Nat → List Int → Int → Int → Option (Int)
 | 0, _, _, _ => none
 | k + 1, x0, x1, x5 => if x5 < (x0.length : Int) then (if 0 ≤ x5 then (if (rd x0 x5) = (IntKind.u64.wrap (x1)) then (laws_heldUint64S.l0 k x0 (wrap64 (x1 + 1)) (wrap64 (x5 + 1))) else (some (-1))) else (none)) else (some x1)
def laws_heldUint64S.f (k : Nat) (l0 : List Int) (a1 : Int) : Option (Int) := laws_heldUint64S.l0 k l0 a1 0
theorem laws_heldUint64S.mono_l : ∀ k, (∀ y0 y1 y2, LeO (laws_heldUint64S.l0 k y0 y1 y2) (laws_heldUint64S.l0 (k + 1) y0 y1 y2))
 | 0 => fun _ _ _ r h => by simp [laws_heldUint64S.l0] at h
 | k + 1 => by
  have ih0 := laws_heldUint64S.mono_l k
  ·intro y0 y1 y2
   unfold laws_heldUint64S.l0
   repeat' first|(with_reducible first|exact ih0 _ _ _|exact LeO.refl _|exact LeO.none _|refine LeO.ite ?_ ?_|refine LeO.bind ?_ (fun _ => ?_))|exact LeO.none _|refine LeO.ite ?_ ?_|refine LeO.bind ?_ (fun _ => ?_)
theorem laws_heldUint64S.mono : ∀ a0 a1 k, LeO (laws_heldUint64S.f k a0 a1) (laws_heldUint64S.f (k + 1) a0 a1) := by
 intro a0 a1 k
 have ih0 := laws_heldUint64S.mono_l k
 unfold laws_heldUint64S.f
 repeat' first|(with_reducible first|exact ih0 _ _ _|exact LeO.refl _|exact LeO.none _|refine LeO.ite ?_ ?_|refine LeO.bind ?_ (fun _ => ?_))|exact LeO.none _|refine LeO.ite ?_ ?_|refine LeO.bind ?_ (fun _ => ?_)
set_option maxHeartbeats 8000000 in
set_option maxRecDepth 100000 in
theorem laws_heldUint64S.calls (k : Nat) (A0 : Option Addr) (c0 : Nat) (l0 : List Int) (a1 : Int) (r : Int) (w : World) (hr0 : Kd.C (Kd.int .u64) w A0 l0.length l0) (hc0 : l0.length ≤ c0) (h : laws_heldUint64S.f k l0 a1 = some r) :
  Calls Try.prog 53 #[.slice A0 l0.length c0, .int .i64 a1] w fun e w' => e = .returned (.int .i64 r) ∧ Drawn0 w w' := by
 have HR0:=mk0 hr0
 have HC0:=mk0 hc0
 clear hr0 hc0
 have H:(laws_heldUint64S.l0 k l0 a1 0) = some r:=h
 clear h
 have H':=mk0 H
 clear H
 go_enter Try.func53,Try.ntmps53
 go_wp2
 go_loopg [1,5] k (fun kq v1 v5 w'=>∃ (x1_1:Int) (x5_1:Int),v1 = .int .i64 x1_1 ∧ v5 = .int .i64 x5_1 ∧ Aside0 (laws_heldUint64S.l0 kq l0 x1_1 x5_1 = some r) ∧ Aside0 (kq ≤ k) ∧ Drawn0 w w')
 case atStart=>exact⟨(a1),(0),(by first|rfl|(simp;done)|(simp [*];done)),(by first|rfl|(simp;done)|(simp [*];done)),H',⟨Nat.le_refl _⟩,by repeat (first|exact Drawn0.refl _|apply Drawn0.step)⟩
 case round =>
  clear H'
  try clear p2
  obtain⟨x1_1,x5_1,rfl,rfl,HA,HK1,⟨m1,rfl⟩⟩:=hrel
  cases gk with
  | zero=>exact absurd HA.out (by simp [laws_heldUint64S.l0])
  | succ k1 =>
   have H:=HA.out
   clear HA
   simp only [laws_heldUint64S.l0] at H
   by_cases c3:x5_1 < (l0.length:Int)
   ·rw [if_pos c3] at H
    have c3b0:decide (x5_1 < (l0.length:Int)) = true:=decide_eq_true c3
    clear c3
    by_cases c4:0 ≤ x5_1
    ·rw [if_pos c4] at H
     have c4b0:decide (0 ≤ x5_1) = true:=decide_eq_true c4
     clear c4
     by_cases c5:(rd l0 x5_1) = (IntKind.u64.wrap (x1_1))
     ·rw [if_pos c5] at H
      have c5b0:((rd l0 x5_1) == (IntKind.u64.wrap (x1_1))) = true:=beq_iff_eq.mpr c5
      have c5b1:((rd l0 x5_1) != (IntKind.u64.wrap (x1_1))) = false:=bne_eq_false_iff_eq.mpr c5
      clear c5
      have H':=mk0 H
      clear H
      have p327:0 ≤ (x5_1:Int):=of_decide_eq_true (by first|(with_reducible assumption)|assumption)
      have q327:x5_1 < (l0.length:Int):=of_decide_eq_true (by first|(with_reducible assumption)|assumption)
      obtain⟨ad327,e327,hx327_0⟩:=Kd.at_int HR0.out x5_1 p327 q327
      cases e327
      replace p327:=eq_true p327
      replace q327:=eq_true q327
      go_wp2
      go_roundg k1
      case measure=>have:=HK1.out;omega
      case rel=>exact⟨(wrap64 (x1_1 + 1)),(wrap64 (x5_1 + 1)),(by first|rfl|(simp;done)|(simp [*];done)),(by first|rfl|(simp;done)|(simp [*];done)),H',⟨by have:=HK1.out;omega⟩,by repeat (first|exact Drawn0.refl _|apply Drawn0.step)⟩
     ·rw [if_neg c5] at H
      have c5b0:((rd l0 x5_1) == (IntKind.u64.wrap (x1_1))) = false:=beq_eq_false_iff_ne.mpr c5
      have c5b1:((rd l0 x5_1) != (IntKind.u64.wrap (x1_1))) = true:=bne_iff_ne.mpr c5
      obtain rfl:=Option.some.inj H
      have p327:0 ≤ (x5_1:Int):=of_decide_eq_true (by first|(with_reducible assumption)|assumption)
      have q327:x5_1 < (l0.length:Int):=of_decide_eq_true (by first|(with_reducible assumption)|assumption)
      obtain⟨ad327,e327,hx327_0⟩:=Kd.at_int HR0.out x5_1 p327 q327
      cases e327
      replace p327:=eq_true p327
      replace q327:=eq_true q327
      go_wp2
      go_ret
      exact⟨by first|rfl|(simp;done)|(simp [*];done),by repeat (first|exact Drawn0.refl _|apply Drawn0.step)⟩
    ·rw [if_neg c4] at H
     exact absurd H (by simp)
   ·rw [if_neg c3] at H
    have c3b0:decide (x5_1 < (l0.length:Int)) = false:=decide_eq_false c3
    clear c3
    obtain rfl:=Option.some.inj H
    go_wp2
    go_ret
    exact⟨by first|rfl|(simp;done)|(simp [*];done),by repeat (first|exact Drawn0.refl _|apply Drawn0.step)⟩

end Go.Proofs.Ytdiemmcnekbfaaa.QFnExactPatchOf
