-- A walk, made by walk.py, a program of this session's.
import Derived.Test.YtadhngelhognaaaQFnExactShareOfx0
import Derived.Test.YtadhngelhognaaaQFnExactShareOfx9
import Derived.Test.YtadhngelhognaaaQFnExactShareOfx10
namespace Go.Proofs.Ytadhngelhognaaa.QFnExactShareOf
open Go.RowKit Go.Proofs.YtadhngelhognaaaW.PrintWords Go.Proofs.YtadhngelhognaaaW.PrintLast Go.Proofs.YtadhngelhognaaaW.PrintMore
set_option linter.unusedVariables false
set_option linter.unusedSimpArgs false
attribute [local go_sem] max2_int min2_int max_two min_two max_three min_three max_four min_four
def slices_Index_int_int.l0 : Nat → List Int → Int → Int → Int → Option (Int)
 | 0, _, _, _, _ => none
 | k + 1, x0, x1, x7, x8 => if x8 < x7 then (if 0 ≤ x8 then (if x8 < (x0.length : Int) then (if x1 = (rd x0 x8) then (some x8) else (slices_Index_int_int.l0 k x0 x1 x7 (wrap64 (x8 + 1)))) else (none)) else (none)) else (some (-1))
def slices_Index_int_int.f (k : Nat) (l0 : List Int) (a1 : Int) : Option (Int) := slices_Index_int_int.l0 k l0 a1 (l0.length : Int) 0
theorem slices_Index_int_int.mono_l : ∀ k, (∀ y0 y1 y2 y3, LeO (slices_Index_int_int.l0 k y0 y1 y2 y3) (slices_Index_int_int.l0 (k + 1) y0 y1 y2 y3))
 | 0 => fun _ _ _ _ r h => by simp [slices_Index_int_int.l0] at h
 | k + 1 => by
  have ih0 := slices_Index_int_int.mono_l k
  ·intro y0 y1 y2 y3
   unfold slices_Index_int_int.l0
   repeat' first|(with_reducible first|exact ih0 _ _ _ _|exact LeO.refl _|exact LeO.none _|refine LeO.ite ?_ ?_|refine LeO.bind ?_ (fun _ => ?_))|exact LeO.none _|refine LeO.ite ?_ ?_|refine LeO.bind ?_ (fun _ => ?_)
theorem slices_Index_int_int.mono : ∀ a0 a1 k, LeO (slices_Index_int_int.f k a0 a1) (slices_Index_int_int.f (k + 1) a0 a1) := by
 intro a0 a1 k
 have ih0 := slices_Index_int_int.mono_l k
 unfold slices_Index_int_int.f
 repeat' first|(with_reducible first|exact ih0 _ _ _ _|exact LeO.refl _|exact LeO.none _|refine LeO.ite ?_ ?_|refine LeO.bind ?_ (fun _ => ?_))|exact LeO.none _|refine LeO.ite ?_ ?_|refine LeO.bind ?_ (fun _ => ?_)
set_option maxHeartbeats 8000000 in
set_option maxRecDepth 100000 in
theorem slices_Index_int_int.calls (k : Nat) (A0 : Option Addr) (c0 : Nat) (l0 : List Int) (a1 : Int) (r : Int) (w : World) (hr0 : Kd.C (Kd.int .i64) w A0 l0.length l0) (hc0 : l0.length ≤ c0) (h : slices_Index_int_int.f k l0 a1 = some r) :
  Calls Try.prog 91 #[.slice A0 l0.length c0, .int .i64 a1] w fun e w' => e = .returned (.int .i64 r) ∧ Drawn0 w w' := by
 have HR0:=mk0 hr0
 have HC0:=mk0 hc0
 clear hr0 hc0
 have H:(slices_Index_int_int.l0 k l0 a1 (l0.length:Int) 0) = some r:=h
 clear h
 have H':=mk0 H
 clear H
 go_enter Try.func91,Try.ntmps91
 go_wp2
 go_loopg [8] k (fun kq v8 w'=>∃ (x8_1:Int),v8 = .int .i64 x8_1 ∧ Aside0 (slices_Index_int_int.l0 kq l0 a1 (l0.length:Int) x8_1 = some r) ∧ Aside0 (kq ≤ k) ∧ Drawn0 w w')
 case atStart=>exact⟨(0),(by first|rfl|(simp;done)|(simp [*];done)),H',⟨Nat.le_refl _⟩,by repeat (first|exact Drawn0.refl _|apply Drawn0.step)⟩
 case round =>
  clear H'
  try clear p2
  obtain⟨x8_1,rfl,HA,HK1,⟨m1,rfl⟩⟩:=hrel
  cases gk with
  | zero=>exact absurd HA.out (by simp [slices_Index_int_int.l0])
  | succ k1 =>
   have H:=HA.out
   clear HA
   simp only [slices_Index_int_int.l0] at H
   by_cases c3:x8_1 < (l0.length:Int)
   ·rw [if_pos c3] at H
    have c3b0:decide (x8_1 < (l0.length:Int)) = true:=decide_eq_true c3
    clear c3
    by_cases c4:0 ≤ x8_1
    ·rw [if_pos c4] at H
     have c4b0:decide (0 ≤ x8_1) = true:=decide_eq_true c4
     clear c4
     by_cases c5:x8_1 < (l0.length:Int)
     ·rw [if_pos c5] at H
      have c5b0:decide (x8_1 < (l0.length:Int)) = true:=decide_eq_true c5
      clear c5
      by_cases c6:a1 = (rd l0 x8_1)
      ·rw [if_pos c6] at H
       have c6b0:(a1 == (rd l0 x8_1)) = true:=beq_iff_eq.mpr c6
       have c6b1:(a1 != (rd l0 x8_1)) = false:=bne_eq_false_iff_eq.mpr c6
       clear c6
       obtain rfl:=Option.some.inj H
       have p411:0 ≤ (x8_1:Int):=of_decide_eq_true (by first|(with_reducible assumption)|assumption)
       have q411:x8_1 < (l0.length:Int):=of_decide_eq_true (by first|(with_reducible assumption)|assumption)
       obtain⟨ad411,e411,hx411_0⟩:=Kd.at_int HR0.out x8_1 p411 q411
       cases e411
       replace p411:=eq_true p411
       replace q411:=eq_true q411
       go_wp2
       go_ret
       exact⟨by first|rfl|(simp;done)|(simp [*];done),by repeat (first|exact Drawn0.refl _|apply Drawn0.step)⟩
      ·rw [if_neg c6] at H
       have c6b0:(a1 == (rd l0 x8_1)) = false:=beq_eq_false_iff_ne.mpr c6
       have c6b1:(a1 != (rd l0 x8_1)) = true:=bne_iff_ne.mpr c6
       have H':=mk0 H
       clear H
       have p411:0 ≤ (x8_1:Int):=of_decide_eq_true (by first|(with_reducible assumption)|assumption)
       have q411:x8_1 < (l0.length:Int):=of_decide_eq_true (by first|(with_reducible assumption)|assumption)
       obtain⟨ad411,e411,hx411_0⟩:=Kd.at_int HR0.out x8_1 p411 q411
       cases e411
       replace p411:=eq_true p411
       replace q411:=eq_true q411
       go_wp2
       go_roundg k1
       case measure=>have:=HK1.out;omega
       case rel=>exact⟨(wrap64 (x8_1 + 1)),(by first|rfl|(simp;done)|(simp [*];done)),H',⟨by have:=HK1.out;omega⟩,by repeat (first|exact Drawn0.refl _|apply Drawn0.step)⟩
     ·rw [if_neg c5] at H
      exact absurd H (by simp)
    ·rw [if_neg c4] at H
     exact absurd H (by simp)
   ·rw [if_neg c3] at H
    have c3b0:decide (x8_1 < (l0.length:Int)) = false:=decide_eq_false c3
    clear c3
    obtain rfl:=Option.some.inj H
    go_wp2
    go_ret
    exact⟨by first|rfl|(simp;done)|(simp [*];done),by repeat (first|exact Drawn0.refl _|apply Drawn0.step)⟩
def impl_commonOf.l0 : Nat → List Int → List Int → List (S56) → Int → Int → List (List Int) → Option ((List (S56)))
 | 0, _, _, _, _, _, _ => none
 | k + 1, x0, x1, x6, x7, x8, x12 => if 0 ≤ x7 then (if x7 < (x12.length : Int) then (if 0 ≤ x8 then (if x8 < ((rd_L4 x12 x7).length : Int) then (if (rd (rd_L4 x12 x7) x8) > 0 then (if x8 ≤ (x1.length : Int) then (if x7 < (x0.length : Int) then ((slices_Index_int_int.f k (x1.drop (x8 : Int).toNat) (rd x0 x7)).bind fun t419 => (if t419 ≥ 0 then (if 0 ≤ (wrap64 (x7 + 1)) then (if (wrap64 (x7 + 1)) < (x12.length : Int) then (if 0 ≤ (wrap64 ((wrap64 (x8 + t419)) + 1)) then (if (wrap64 ((wrap64 (x8 + t419)) + 1)) < ((rd_L4 x12 (wrap64 (x7 + 1))).length : Int) then (if (wrap64 ((rd (rd_L4 x12 (wrap64 (x7 + 1))) (wrap64 ((wrap64 (x8 + t419)) + 1))) + 1)) = (rd (rd_L4 x12 x7) x8) then (if x6.length < 8796093022208 then (impl_commonOf.l0 k x0 x1 (x6 ++ [(⟨x7, wrap64 (x8 + t419)⟩ : S56)]) (wrap64 (x7 + 1)) (wrap64 (x8 + (wrap64 (t419 + 1)))) x12) else (none)) else (impl_commonOf.l0 k x0 x1 x6 (wrap64 (x7 + 1)) x8 x12)) else (none)) else (none)) else (none)) else (none)) else (impl_commonOf.l0 k x0 x1 x6 (wrap64 (x7 + 1)) x8 x12))) else (none)) else (none)) else (some x6)) else (none)) else (none)) else (none)) else (none)
def impl_commonOf.f (k : Nat) (l0 : List Int) (l1 : List Int) : Option ((List (S56))) := (impl_commonTable.f k l0 l1).bind fun t412 => (impl_commonOf.l0 k l0 l1 ([] : List (S56)) 0 0 t412)
theorem impl_commonOf.mono_l : ∀ k, (∀ y0 y1 y2 y3 y4 y5, LeO (impl_commonOf.l0 k y0 y1 y2 y3 y4 y5) (impl_commonOf.l0 (k + 1) y0 y1 y2 y3 y4 y5))
 | 0 => fun _ _ _ _ _ _ r h => by simp [impl_commonOf.l0] at h
 | k + 1 => by
  have ih0 := impl_commonOf.mono_l k
  ·intro y0 y1 y2 y3 y4 y5
   unfold impl_commonOf.l0
   repeat' first|(with_reducible first|exact ih0 _ _ _ _ _ _|exact impl_commonTable.mono _ _ _|exact slices_Index_int_int.mono _ _ _|exact LeO.refl _|exact LeO.none _|refine LeO.ite ?_ ?_|refine LeO.bind ?_ (fun _ => ?_))|exact LeO.none _|refine LeO.ite ?_ ?_|refine LeO.bind ?_ (fun _ => ?_)
theorem impl_commonOf.mono : ∀ a0 a1 k, LeO (impl_commonOf.f k a0 a1) (impl_commonOf.f (k + 1) a0 a1) := by
 intro a0 a1 k
 have ih0 := impl_commonOf.mono_l k
 unfold impl_commonOf.f
 repeat' first|(with_reducible first|exact ih0 _ _ _ _ _ _|exact impl_commonTable.mono _ _ _|exact slices_Index_int_int.mono _ _ _|exact LeO.refl _|exact LeO.none _|refine LeO.ite ?_ ?_|refine LeO.bind ?_ (fun _ => ?_))|exact LeO.none _|refine LeO.ite ?_ ?_|refine LeO.bind ?_ (fun _ => ?_)
set_option maxHeartbeats 8000000 in
set_option maxRecDepth 100000 in
theorem impl_commonOf.calls (k : Nat) (A0 : Option Addr) (c0 : Nat) (l0 : List Int) (A1 : Option Addr) (c1 : Nat) (l1 : List Int) (r : List (S56)) (w : World) (hr0 : Kd.C (Kd.int .i64) w A0 l0.length l0) (hc0 : l0.length ≤ c0) (hr1 : Kd.C (Kd.int .i64) w A1 l1.length l1) (hc1 : l1.length ≤ c1) (h : impl_commonOf.f k l0 l1 = some r) :
  Calls Try.prog 81 #[.slice A0 l0.length c0, .slice A1 l1.length c1] w fun e w' => ∃ v0_ : Value, e = .returned (v0_) ∧ Kd.R k56 56 w' w.heap.size (fun _ => True) v0_ r ∧ Below w.heap.size w w' := by
 have hu56:=Try.underlying56
 have HR0:=mk0 hr0
 have HC0:=mk0 hc0
 clear hr0 hc0
 have HR1:=mk0 hr1
 have HC1:=mk0 hc1
 clear hr1 hc1
 have HB:=mk0 (Below.refl w.heap.size w)
 have H:((impl_commonTable.f k l0 l1).bind fun t412=>(impl_commonOf.l0 k l0 l1 ([]:List (S56)) 0 0 t412)) = some r:=h
 clear h
 replace H:=Option.bind_eq_some_iff.mp H
 obtain⟨t412,A30,H⟩:=H
 replace H:(impl_commonOf.l0 k l0 l1 ([]:List (S56)) 0 0 t412) = some r:=H
 have A3:=mk0 A30
 clear A30
 have H':=mk0 H
 clear H
 go_enter Try.func81,Try.ntmps81
 go_wp2_with (first|(go_at_call 63;(with_reducible refine (impl_commonTable.calls k _ _ l0 _ _ l1 t412 _ ?side1 ?side2 ?side3 ?side4 A3.out).mono ?_);(case side1=>repeat (first|exact HR0.out|(with_reducible first|apply aC|apply nC|apply dC)));(case side2=>exact HC0.out);(case side3=>repeat (first|exact HR1.out|(with_reducible first|apply aC|apply nC|apply dC)));(case side4=>exact HC1.out);rintro e w4 ⟨v413,rfl,ho0,hb⟩;have HO414:=mk0 (Kd.S_lower ho0 (kZ HB.out));replace HB:=mk0 (kS HB.out hb);(try clear hb);(try clear ho0)))
 go_loopg [6,7,8] k (fun kq v6 v7 v8 w'=>∃ (x6_1:List (S56)) (x7_1:Int) (x8_1:Int),v7 = .int .i64 x7_1 ∧ v8 = .int .i64 x8_1 ∧ Aside0 (impl_commonOf.l0 kq l0 l1 x6_1 x7_1 x8_1 t412 = some r) ∧ Aside0 (kq ≤ k) ∧ Aside0 (Kd.R k56 56 w' w.heap.size (fun _=>True) v6 x6_1) ∧ Aside0 (Kd.S (Kd.slice 3 (Kd.int .i64)) 45 w' w.heap.size (fun _=>True) v413 t412) ∧ Aside0 (Below w.heap.size w w'))
 case atStart=>exact⟨(([]:List (S56))),(0),(0),(by first|rfl|(simp;done)|(simp [*];done)),(by first|rfl|(simp;done)|(simp [*];done)),H',⟨Nat.le_refl _⟩,⟨by first|exact Kd.R_nil _ _ _ _ _|exact Kd.N_nil _ _ _ _ _|exact Kd.V_nil _ _ _ _ _|exact Kd.Q_nil _ _ _ _ _|exact Kd.S_nil _ _ _ _ _⟩,⟨rS HO414.out⟩,⟨kB HB.out⟩⟩
 case round =>
  clear H'
  try clear c1
  try clear p2
  obtain⟨x6_1,x7_1,x8_1,rfl,rfl,HA,HK1,HO_6,HO_12,HB⟩:=hrel
  cases gk with
  | zero=>exact absurd HA.out (by simp [impl_commonOf.l0])
  | succ k1 =>
   have H:=HA.out
   clear HA
   simp only [impl_commonOf.l0] at H
   by_cases c5:0 ≤ x7_1
   rotate_left
   ·rw [if_neg c5] at H
    exact absurd H (by simp)
   rw [if_pos c5] at H
   have c5b0:decide (0 ≤ x7_1) = true:=decide_eq_true c5
   clear c5
   by_cases c6:x7_1 < (t412.length:Int)
   rotate_left
   ·rw [if_neg c6] at H
    exact absurd H (by simp)
   rw [if_pos c6] at H
   have c6b0:decide (x7_1 < (t412.length:Int)) = true:=decide_eq_true c6
   (try simp only [hl415_0] at c6b0)
   (try simp only [hl420_0] at c6b0)
   (try simp only [hl422_0] at c6b0)
   clear c6
   by_cases c7:0 ≤ x8_1
   rotate_left
   ·rw [if_neg c7] at H
    exact absurd H (by simp)
   rw [if_pos c7] at H
   have c7b0:decide (0 ≤ x8_1) = true:=decide_eq_true c7
   clear c7
   by_cases c8:x8_1 < ((rd_L4 t412 x7_1).length:Int)
   rotate_left
   ·rw [if_neg c8] at H
    exact absurd H (by simp)
   rw [if_pos c8] at H
   have c8b0:decide (x8_1 < ((rd_L4 t412 x7_1).length:Int)) = true:=decide_eq_true c8
   (try simp only [hl415_0] at c8b0)
   (try simp only [hl420_0] at c8b0)
   (try simp only [hl422_0] at c8b0)
   clear c8
   by_cases c9:(rd (rd_L4 t412 x7_1) x8_1) > 0
   rotate_left
   ·rw [if_neg c9] at H
    have c9b0:decide (0 < (rd (rd_L4 t412 x7_1) x8_1)) = false:=decide_eq_false c9
    clear c9
    obtain rfl:=Option.some.inj H
    obtain⟨Ao30,co30,eo30⟩:=Kd.S_slice HO_12.out
    subst eo30
    have p415:0 ≤ (x7_1:Int):=of_decide_eq_true (by first|(with_reducible assumption)|assumption)
    have q415:x7_1 < (t412.length:Int):=of_decide_eq_true (by first|(with_reducible assumption)|assumption)
    obtain⟨ad415,A415_0,c415_0,e415,hx415_0,hl415_0,hi415_0⟩:=at_L4 (Kd.S_reads' HO_12.out).2.2 x7_1 p415 q415
    cases e415
    obtain⟨ce415,hce415,hMe415,hcc415⟩:=Kd.S_get HO_12.out [] x7_1 p415 (by first|exact q415|exact of_decide_eq_true (by first|(with_reducible assumption)|assumption)|(have e_:=(Kd.S_reads' HO_12.out).1;omega))
    obtain⟨ve415_0,rfl,ge415_0⟩:=hMe415
    have hv415_0:=hcc415 0 _ rfl
    rw [Nat.add_zero,show ((Kd.slice 3 (Kd.int .i64))).sz = 1 from rfl,Nat.mul_one] at hv415_0
    replace hv415_0:=Option.some.inj (hv415_0.symm.trans hx415_0)
    rw [hv415_0] at ge415_0
    have HL415_0:=mk0 (show Kd.R (Kd.int .i64) 3 _ _ _ _ (rd_L4 t412 x7_1) from ge415_0)
    clear hv415_0 ge415_0
    clear hcc415 hce415
    have HR415_0:=mk0 hi415_0
    have HC415_0:=mk0 hl415_0
    clear hi415_0 hl415_0
    replace p415:=eq_true p415
    replace q415:=eq_true q415
    have p416:0 ≤ (x8_1:Int):=of_decide_eq_true (by first|(with_reducible assumption)|assumption)
    have q416:x8_1 < ((rd_L4 t412 x7_1).length:Int):=of_decide_eq_true (by first|(with_reducible assumption)|assumption)
    obtain⟨ad416,e416,hx416_0⟩:=Kd.at_int (by repeat (first|(with_reducible exact HR415_0.out)|(with_reducible first|apply aC|apply nC|apply dC)|exact HR415_0.out|exact (Kd.V_reads' HL415_0.out).2.2)) x8_1 p416 q416
    cases e416
    replace p416:=eq_true p416
    replace q416:=eq_true q416
    go_wp2
    go_ret
    exact⟨_,by first|rfl|(simp [errW_none,errW_some] <;> rfl)|(simp [*,errW_none,errW_some] <;> rfl),rR HO_6.out,kB HB.out⟩
   rw [if_pos c9] at H
   have c9b0:decide (0 < (rd (rd_L4 t412 x7_1) x8_1)) = true:=decide_eq_true c9
   clear c9
   have c10b0:=eq_true (of_decide_eq_true (by first|(with_reducible assumption)|assumption):0 ≤ x8_1)
   by_cases c11:x8_1 ≤ (l1.length:Int)
   rotate_left
   ·rw [if_neg c11] at H
    exact absurd H (by simp)
   rw [if_pos c11] at H
   have c11b0:=eq_true c11
   have c11b1:decide (x8_1 ≤ (l1.length:Int)) = true:=decide_eq_true c11
   (try simp only [hl415_0] at c11b1)
   (try simp only [hl420_0] at c11b1)
   (try simp only [hl422_0] at c11b1)
   clear c11
   by_cases c12:x7_1 < (l0.length:Int)
   rotate_left
   ·rw [if_neg c12] at H
    exact absurd H (by simp)
   rw [if_pos c12] at H
   have c12b0:decide (x7_1 < (l0.length:Int)) = true:=decide_eq_true c12
   (try simp only [hl415_0] at c12b0)
   (try simp only [hl420_0] at c12b0)
   (try simp only [hl422_0] at c12b0)
   clear c12
   replace H:=Option.bind_eq_some_iff.mp H
   obtain⟨t419,A130,H⟩:=H
   replace H:(if t419 ≥ 0 then (if 0 ≤ (wrap64 (x7_1 + 1)) then (if (wrap64 (x7_1 + 1)) < (t412.length:Int) then (if 0 ≤ (wrap64 ((wrap64 (x8_1 + t419)) + 1)) then (if (wrap64 ((wrap64 (x8_1 + t419)) + 1)) < ((rd_L4 t412 (wrap64 (x7_1 + 1))).length:Int) then (if (wrap64 ((rd (rd_L4 t412 (wrap64 (x7_1 + 1))) (wrap64 ((wrap64 (x8_1 + t419)) + 1))) + 1)) = (rd (rd_L4 t412 x7_1) x8_1) then (if x6_1.length < 8796093022208 then (impl_commonOf.l0 k1 l0 l1 (x6_1 ++ [(⟨x7_1,wrap64 (x8_1 + t419)⟩:S56)]) (wrap64 (x7_1 + 1)) (wrap64 (x8_1 + (wrap64 (t419 + 1)))) t412) else (none)) else (impl_commonOf.l0 k1 l0 l1 x6_1 (wrap64 (x7_1 + 1)) x8_1 t412)) else (none)) else (none)) else (none)) else (none)) else (impl_commonOf.l0 k1 l0 l1 x6_1 (wrap64 (x7_1 + 1)) x8_1 t412)) = some r:=H
   have A13:=mk0 A130
   clear A130
   by_cases c14:t419 ≥ 0
   rotate_left
   ·rw [if_neg c14] at H
    have c14b0:decide (0 ≤ t419) = false:=decide_eq_false c14
    clear c14
    have H':=mk0 H
    clear H
    obtain⟨Ao28,co28,eo28⟩:=Kd.S_slice HO_12.out
    subst eo28
    have p415:0 ≤ (x7_1:Int):=of_decide_eq_true (by first|(with_reducible assumption)|assumption)
    have q415:x7_1 < (t412.length:Int):=of_decide_eq_true (by first|(with_reducible assumption)|assumption)
    obtain⟨ad415,A415_0,c415_0,e415,hx415_0,hl415_0,hi415_0⟩:=at_L4 (Kd.S_reads' HO_12.out).2.2 x7_1 p415 q415
    cases e415
    obtain⟨ce415,hce415,hMe415,hcc415⟩:=Kd.S_get HO_12.out [] x7_1 p415 (by first|exact q415|exact of_decide_eq_true (by first|(with_reducible assumption)|assumption)|(have e_:=(Kd.S_reads' HO_12.out).1;omega))
    obtain⟨ve415_0,rfl,ge415_0⟩:=hMe415
    have hv415_0:=hcc415 0 _ rfl
    rw [Nat.add_zero,show ((Kd.slice 3 (Kd.int .i64))).sz = 1 from rfl,Nat.mul_one] at hv415_0
    replace hv415_0:=Option.some.inj (hv415_0.symm.trans hx415_0)
    rw [hv415_0] at ge415_0
    have HL415_0:=mk0 (show Kd.R (Kd.int .i64) 3 _ _ _ _ (rd_L4 t412 x7_1) from ge415_0)
    clear hv415_0 ge415_0
    clear hcc415 hce415
    have HR415_0:=mk0 hi415_0
    have HC415_0:=mk0 hl415_0
    clear hi415_0 hl415_0
    replace p415:=eq_true p415
    replace q415:=eq_true q415
    have p416:0 ≤ (x8_1:Int):=of_decide_eq_true (by first|(with_reducible assumption)|assumption)
    have q416:x8_1 < ((rd_L4 t412 x7_1).length:Int):=of_decide_eq_true (by first|(with_reducible assumption)|assumption)
    obtain⟨ad416,e416,hx416_0⟩:=Kd.at_int (by repeat (first|(with_reducible exact HR415_0.out)|(with_reducible first|apply aC|apply nC|apply dC)|exact HR415_0.out|exact (Kd.V_reads' HL415_0.out).2.2)) x8_1 p416 q416
    cases e416
    replace p416:=eq_true p416
    replace q416:=eq_true q416
    obtain⟨i029,hi029,_,hsz29,_⟩:=info_parts info3
    obtain⟨A29,hcut29,hA29,hC29⟩:=print_drop_of (P:=Try.prog) (Value.int .i64) 0 45 3 .i64 Try.underlying45 hi029 hsz29 A1 c1 l1 x8_1 (of_decide_eq_true (by first|(with_reducible assumption)|assumption)) (of_decide_eq_true (by first|(with_reducible assumption)|assumption)) HC1.out
    have HR417:=mk0 (Kd.C_of_reads (h1:=fun _=>rfl) (hA29 _ (Kd.reads_of_C HR1.out)))
    have HC417:=mk0 hC29
    clear hA29 hC29 hi029 hsz29
    have p418:0 ≤ (x7_1:Int):=of_decide_eq_true (by first|(with_reducible assumption)|assumption)
    have q418:x7_1 < (l0.length:Int):=of_decide_eq_true (by first|(with_reducible assumption)|assumption)
    obtain⟨ad418,e418,hx418_0⟩:=Kd.at_int HR0.out x7_1 p418 q418
    cases e418
    replace hx418_0:=(HB.out.cell (World.block_lt_of_cell? w _ hx418_0)).trans hx418_0
    replace p418:=eq_true p418
    replace q418:=eq_true q418
    go_wp2_with (first|(go_at_call 91;refine calls_of_args (args':=#[.slice A29 (l1.drop (x8_1:Int).toNat).length (c1 - x8_1.toNat),.int .i64 (rd l0 x7_1)]) (by first|(rw [show (l1.drop (x8_1:Int).toNat).length = (l1.length - x8_1.toNat) from List.length_drop] <;> rfl)|rfl|(simp only [List.length_drop,List.length_take];done)|(simp only [List.length_drop,List.length_take];rfl)) ?_;(with_reducible refine (slices_Index_int_int.calls k1 _ _ (l1.drop (x8_1:Int).toNat) (rd l0 x7_1) t419 _ ?side1 ?side2 A13.out).mono ?_);(case side1=>exact kC (Kd.C_below HR417.out HB.out));(case side2=>exact HC417.out);rintro e w' ⟨rfl,⟨nd,rfl⟩⟩;(try first|exact⟨rfl,_,World.drewN_drewN _ _ _⟩|exact⟨rfl,_,Eq.trans (World.drewN_drewN _ _ _) (congrArg (World.drewN _) (Nat.add_assoc _ _ _))⟩)))
    repeat (go_quiet (first|(go_at_call 91;refine calls_of_args (args':=#[.slice A29 (l1.drop (x8_1:Int).toNat).length (c1 - x8_1.toNat),.int .i64 (rd l0 x7_1)]) (by first|(rw [show (l1.drop (x8_1:Int).toNat).length = (l1.length - x8_1.toNat) from List.length_drop] <;> rfl)|rfl|(simp only [List.length_drop,List.length_take];done)|(simp only [List.length_drop,List.length_take];rfl)) ?_;(with_reducible refine (slices_Index_int_int.calls k1 _ _ (l1.drop (x8_1:Int).toNat) (rd l0 x7_1) t419 _ ?side1 ?side2 A13.out).mono ?_);(case side1=>exact kC (Kd.C_below HR417.out HB.out));(case side2=>exact HC417.out);rintro e w' ⟨rfl,⟨nd,rfl⟩⟩;(try first|exact⟨rfl,_,World.drewN_drewN _ _ _⟩|exact⟨rfl,_,Eq.trans (World.drewN_drewN _ _ _) (congrArg (World.drewN _) (Nat.add_assoc _ _ _))⟩)));try go_wp2_with (first|(go_at_call 91;refine calls_of_args (args':=#[.slice A29 (l1.drop (x8_1:Int).toNat).length (c1 - x8_1.toNat),.int .i64 (rd l0 x7_1)]) (by first|(rw [show (l1.drop (x8_1:Int).toNat).length = (l1.length - x8_1.toNat) from List.length_drop] <;> rfl)|rfl|(simp only [List.length_drop,List.length_take];done)|(simp only [List.length_drop,List.length_take];rfl)) ?_;(with_reducible refine (slices_Index_int_int.calls k1 _ _ (l1.drop (x8_1:Int).toNat) (rd l0 x7_1) t419 _ ?side1 ?side2 A13.out).mono ?_);(case side1=>exact kC (Kd.C_below HR417.out HB.out));(case side2=>exact HC417.out);rintro e w' ⟨rfl,⟨nd,rfl⟩⟩;(try first|exact⟨rfl,_,World.drewN_drewN _ _ _⟩|exact⟨rfl,_,Eq.trans (World.drewN_drewN _ _ _) (congrArg (World.drewN _) (Nat.add_assoc _ _ _))⟩))))
    go_roundg k1
    case measure=>have:=HK1.out;omega
    case rel=>exact⟨(x6_1),(wrap64 (x7_1 + 1)),(x8_1),(by first|rfl|(simp;done)|(simp [*];done)),(by first|rfl|(simp;done)|(simp [*];done)),H',⟨by have:=HK1.out;omega⟩,⟨rR HO_6.out⟩,⟨rS HO_12.out⟩,⟨kB HB.out⟩⟩
   rw [if_pos c14] at H
   have c14b0:decide (0 ≤ t419) = true:=decide_eq_true c14
   clear c14
   obtain⟨ji15,hji15⟩:∃ j_:Int,(wrap64 (x7_1 + 1)) = j_:=⟨_,rfl⟩
   replace H:(if 0 ≤ (ji15) then (if (ji15) < (t412.length:Int) then (if 0 ≤ (wrap64 ((wrap64 (x8_1 + t419)) + 1)) then (if (wrap64 ((wrap64 (x8_1 + t419)) + 1)) < ((rd_L4 t412 (ji15)).length:Int) then (if (wrap64 ((rd (rd_L4 t412 (ji15)) (wrap64 ((wrap64 (x8_1 + t419)) + 1))) + 1)) = (rd (rd_L4 t412 x7_1) x8_1) then (if x6_1.length < 8796093022208 then (impl_commonOf.l0 k1 l0 l1 (x6_1 ++ [(⟨x7_1,wrap64 (x8_1 + t419)⟩:S56)]) ji15 (wrap64 (x8_1 + (wrap64 (t419 + 1)))) t412) else (none)) else (impl_commonOf.l0 k1 l0 l1 x6_1 ji15 x8_1 t412)) else (none)) else (none)) else (none)) else (none)) = some r:=by first|(rw [hji15] at H;exact H)|(simp only [hji15] at H ⊢;exact H)
   (try rw [hji15] at A13)
   have hji15w:(IntKind.i64.wrap (x7_1 + 1)) = ji15:=(i64_w _).trans hji15
   by_cases c16:0 ≤ (ji15)
   rotate_left
   ·rw [if_neg c16] at H
    exact absurd H (by simp)
   rw [if_pos c16] at H
   have c16b0:decide (0 ≤ (ji15)) = true:=decide_eq_true c16
   clear c16
   by_cases c17:(ji15) < (t412.length:Int)
   rotate_left
   ·rw [if_neg c17] at H
    exact absurd H (by simp)
   rw [if_pos c17] at H
   have c17b0:decide ((ji15) < (t412.length:Int)) = true:=decide_eq_true c17
   (try simp only [hl415_0] at c17b0)
   (try simp only [hl420_0] at c17b0)
   (try simp only [hl422_0] at c17b0)
   clear c17
   obtain⟨ji18,hji18⟩:∃ j_:Int,(wrap64 ((wrap64 (x8_1 + t419)) + 1)) = j_:=⟨_,rfl⟩
   replace H:(if 0 ≤ (ji18) then (if (ji18) < ((rd_L4 t412 (ji15)).length:Int) then (if (wrap64 ((rd (rd_L4 t412 (ji15)) (ji18)) + 1)) = (rd (rd_L4 t412 x7_1) x8_1) then (if x6_1.length < 8796093022208 then (impl_commonOf.l0 k1 l0 l1 (x6_1 ++ [(⟨x7_1,wrap64 (x8_1 + t419)⟩:S56)]) ji15 (wrap64 (x8_1 + (wrap64 (t419 + 1)))) t412) else (none)) else (impl_commonOf.l0 k1 l0 l1 x6_1 ji15 x8_1 t412)) else (none)) else (none)) = some r:=by first|(rw [hji18] at H;exact H)|(simp only [hji18] at H ⊢;exact H)
   (try rw [hji18] at A13)
   have hji18w:(IntKind.i64.wrap ((wrap64 (x8_1 + t419)) + 1)) = ji18:=(i64_w _).trans hji18
   by_cases c19:0 ≤ (ji18)
   rotate_left
   ·rw [if_neg c19] at H
    exact absurd H (by simp)
   rw [if_pos c19] at H
   have c19b0:decide (0 ≤ (ji18)) = true:=decide_eq_true c19
   clear c19
   by_cases c20:(ji18) < ((rd_L4 t412 (ji15)).length:Int)
   rotate_left
   ·rw [if_neg c20] at H
    exact absurd H (by simp)
   rw [if_pos c20] at H
   have c20b0:decide ((ji18) < ((rd_L4 t412 (ji15)).length:Int)) = true:=decide_eq_true c20
   (try simp only [hl415_0] at c20b0)
   (try simp only [hl420_0] at c20b0)
   (try simp only [hl422_0] at c20b0)
   clear c20
   by_cases c21:(wrap64 ((rd (rd_L4 t412 (ji15)) (ji18)) + 1)) = (rd (rd_L4 t412 x7_1) x8_1)
   rotate_left
   ·rw [if_neg c21] at H
    have c21b0:((wrap64 ((rd (rd_L4 t412 (ji15)) (ji18)) + 1)) == (rd (rd_L4 t412 x7_1) x8_1)) = false:=beq_eq_false_iff_ne.mpr c21
    have c21b1:((wrap64 ((rd (rd_L4 t412 (ji15)) (ji18)) + 1)) != (rd (rd_L4 t412 x7_1) x8_1)) = true:=bne_iff_ne.mpr c21
    have H':=mk0 H
    clear H
    obtain⟨Ao26,co26,eo26⟩:=Kd.S_slice HO_12.out
    subst eo26
    have p415:0 ≤ (x7_1:Int):=of_decide_eq_true (by first|(with_reducible assumption)|assumption)
    have q415:x7_1 < (t412.length:Int):=of_decide_eq_true (by first|(with_reducible assumption)|assumption)
    obtain⟨ad415,A415_0,c415_0,e415,hx415_0,hl415_0,hi415_0⟩:=at_L4 (Kd.S_reads' HO_12.out).2.2 x7_1 p415 q415
    cases e415
    obtain⟨ce415,hce415,hMe415,hcc415⟩:=Kd.S_get HO_12.out [] x7_1 p415 (by first|exact q415|exact of_decide_eq_true (by first|(with_reducible assumption)|assumption)|(have e_:=(Kd.S_reads' HO_12.out).1;omega))
    obtain⟨ve415_0,rfl,ge415_0⟩:=hMe415
    have hv415_0:=hcc415 0 _ rfl
    rw [Nat.add_zero,show ((Kd.slice 3 (Kd.int .i64))).sz = 1 from rfl,Nat.mul_one] at hv415_0
    replace hv415_0:=Option.some.inj (hv415_0.symm.trans hx415_0)
    rw [hv415_0] at ge415_0
    have HL415_0:=mk0 (show Kd.R (Kd.int .i64) 3 _ _ _ _ (rd_L4 t412 x7_1) from ge415_0)
    clear hv415_0 ge415_0
    clear hcc415 hce415
    have HR415_0:=mk0 hi415_0
    have HC415_0:=mk0 hl415_0
    clear hi415_0 hl415_0
    replace p415:=eq_true p415
    replace q415:=eq_true q415
    have p416:0 ≤ (x8_1:Int):=of_decide_eq_true (by first|(with_reducible assumption)|assumption)
    have q416:x8_1 < ((rd_L4 t412 x7_1).length:Int):=of_decide_eq_true (by first|(with_reducible assumption)|assumption)
    obtain⟨ad416,e416,hx416_0⟩:=Kd.at_int (by repeat (first|(with_reducible exact HR415_0.out)|(with_reducible first|apply aC|apply nC|apply dC)|exact HR415_0.out|exact (Kd.V_reads' HL415_0.out).2.2)) x8_1 p416 q416
    cases e416
    replace p416:=eq_true p416
    replace q416:=eq_true q416
    obtain⟨i027,hi027,_,hsz27,_⟩:=info_parts info3
    obtain⟨A27,hcut27,hA27,hC27⟩:=print_drop_of (P:=Try.prog) (Value.int .i64) 0 45 3 .i64 Try.underlying45 hi027 hsz27 A1 c1 l1 x8_1 (of_decide_eq_true (by first|(with_reducible assumption)|assumption)) (of_decide_eq_true (by first|(with_reducible assumption)|assumption)) HC1.out
    have HR417:=mk0 (Kd.C_of_reads (h1:=fun _=>rfl) (hA27 _ (Kd.reads_of_C HR1.out)))
    have HC417:=mk0 hC27
    clear hA27 hC27 hi027 hsz27
    have p418:0 ≤ (x7_1:Int):=of_decide_eq_true (by first|(with_reducible assumption)|assumption)
    have q418:x7_1 < (l0.length:Int):=of_decide_eq_true (by first|(with_reducible assumption)|assumption)
    obtain⟨ad418,e418,hx418_0⟩:=Kd.at_int HR0.out x7_1 p418 q418
    cases e418
    replace hx418_0:=(HB.out.cell (World.block_lt_of_cell? w _ hx418_0)).trans hx418_0
    replace p418:=eq_true p418
    replace q418:=eq_true q418
    go_wp2_with (first|(go_at_call 91;refine calls_of_args (args':=#[.slice A27 (l1.drop (x8_1:Int).toNat).length (c1 - x8_1.toNat),.int .i64 (rd l0 x7_1)]) (by first|(rw [show (l1.drop (x8_1:Int).toNat).length = (l1.length - x8_1.toNat) from List.length_drop] <;> rfl)|rfl|(simp only [List.length_drop,List.length_take];done)|(simp only [List.length_drop,List.length_take];rfl)) ?_;(with_reducible refine (slices_Index_int_int.calls k1 _ _ (l1.drop (x8_1:Int).toNat) (rd l0 x7_1) t419 _ ?side1 ?side2 A13.out).mono ?_);(case side1=>exact kC (Kd.C_below HR417.out HB.out));(case side2=>exact HC417.out);rintro e w' ⟨rfl,⟨nd,rfl⟩⟩;(try first|exact⟨rfl,_,World.drewN_drewN _ _ _⟩|exact⟨rfl,_,Eq.trans (World.drewN_drewN _ _ _) (congrArg (World.drewN _) (Nat.add_assoc _ _ _))⟩);have p420:0 ≤ ((ji15):Int):=of_decide_eq_true (by first|(with_reducible assumption)|assumption);have q420:(ji15) < (t412.length:Int):=of_decide_eq_true (by first|(with_reducible assumption)|assumption);obtain⟨ad420,A420_0,c420_0,e420,hx420_0,hl420_0,hi420_0⟩:=at_L4 (Kd.S_reads' HO_12.out).2.2 (ji15) p420 q420;obtain rfl:ad415 = ad420:=(by injection e420);obtain⟨ce420,hce420,hMe420,hcc420⟩:=Kd.S_get HO_12.out [] (ji15) p420 (by first|exact q420|exact of_decide_eq_true (by first|(with_reducible assumption)|assumption)|(have e_:=(Kd.S_reads' HO_12.out).1;omega));obtain⟨ve420_0,rfl,ge420_0⟩:=hMe420;have hv420_0:=hcc420 0 _ rfl;rw [Nat.add_zero,show ((Kd.slice 3 (Kd.int .i64))).sz = 1 from rfl,Nat.mul_one] at hv420_0;replace hv420_0:=Option.some.inj (hv420_0.symm.trans hx420_0);rw [hv420_0] at ge420_0;have HL420_0:=mk0 (show Kd.R (Kd.int .i64) 3 _ _ _ _ (rd_L4 t412 (ji15)) from ge420_0);clear hv420_0 ge420_0 hcc420 hce420;have HR420_0:=mk0 hi420_0;have HC420_0:=mk0 hl420_0;clear hi420_0 hl420_0;replace p420:=eq_true p420;replace q420:=eq_true q420;have p421:0 ≤ ((ji18):Int):=of_decide_eq_true (by first|(with_reducible assumption)|assumption);have q421:(ji18) < ((rd_L4 t412 (ji15)).length:Int):=of_decide_eq_true (by first|(with_reducible assumption)|assumption);obtain⟨ad421,e421,hx421_0⟩:=Kd.at_int (by repeat (first|(with_reducible exact HR420_0.out)|(with_reducible first|apply aC|apply nC|apply dC)|exact HR420_0.out|exact (Kd.V_reads' HL420_0.out).2.2)) (ji18) p421 q421;cases e421;replace p421:=eq_true p421;replace q421:=eq_true q421;have p422:0 ≤ (x7_1:Int):=of_decide_eq_true (by first|(with_reducible assumption)|assumption);have q422:x7_1 < (t412.length:Int):=of_decide_eq_true (by first|(with_reducible assumption)|assumption);obtain⟨ad422,A422_0,c422_0,e422,hx422_0,hl422_0,hi422_0⟩:=at_L4 (Kd.S_reads' HO_12.out).2.2 x7_1 p422 q422;obtain rfl:ad415 = ad422:=(by injection e422);obtain⟨ce422,hce422,hMe422,hcc422⟩:=Kd.S_get HO_12.out [] x7_1 p422 (by first|exact q422|exact of_decide_eq_true (by first|(with_reducible assumption)|assumption)|(have e_:=(Kd.S_reads' HO_12.out).1;omega));obtain⟨ve422_0,rfl,ge422_0⟩:=hMe422;have hv422_0:=hcc422 0 _ rfl;rw [Nat.add_zero,show ((Kd.slice 3 (Kd.int .i64))).sz = 1 from rfl,Nat.mul_one] at hv422_0;replace hv422_0:=Option.some.inj (hv422_0.symm.trans hx422_0);rw [hv422_0] at ge422_0;have HL422_0:=mk0 (show Kd.R (Kd.int .i64) 3 _ _ _ _ (rd_L4 t412 x7_1) from ge422_0);clear hv422_0 ge422_0 hcc422 hce422;have HR422_0:=mk0 hi422_0;have HC422_0:=mk0 hl422_0;clear hi422_0 hl422_0;replace p422:=eq_true p422;replace q422:=eq_true q422;have ea_:=Option.some.inj (hx415_0.symm.trans hx422_0);injection ea_ with ea_ en_ ec_;subst ea_;subst ec_;clear en_;have p423:0 ≤ (x8_1:Int):=of_decide_eq_true (by first|(with_reducible assumption)|assumption);have q423:x8_1 < ((rd_L4 t412 x7_1).length:Int):=of_decide_eq_true (by first|(with_reducible assumption)|assumption);obtain⟨ad423,e423,hx423_0⟩:=Kd.at_int (by repeat (first|(with_reducible exact HR422_0.out)|(with_reducible first|apply aC|apply nC|apply dC)|exact HR422_0.out|exact (Kd.V_reads' HL422_0.out).2.2)) x8_1 p423 q423;cases e423;replace p423:=eq_true p423;replace q423:=eq_true q423))
    repeat (go_quiet (first|(go_at_call 91;refine calls_of_args (args':=#[.slice A27 (l1.drop (x8_1:Int).toNat).length (c1 - x8_1.toNat),.int .i64 (rd l0 x7_1)]) (by first|(rw [show (l1.drop (x8_1:Int).toNat).length = (l1.length - x8_1.toNat) from List.length_drop] <;> rfl)|rfl|(simp only [List.length_drop,List.length_take];done)|(simp only [List.length_drop,List.length_take];rfl)) ?_;(with_reducible refine (slices_Index_int_int.calls k1 _ _ (l1.drop (x8_1:Int).toNat) (rd l0 x7_1) t419 _ ?side1 ?side2 A13.out).mono ?_);(case side1=>exact kC (Kd.C_below HR417.out HB.out));(case side2=>exact HC417.out);rintro e w' ⟨rfl,⟨nd,rfl⟩⟩;(try first|exact⟨rfl,_,World.drewN_drewN _ _ _⟩|exact⟨rfl,_,Eq.trans (World.drewN_drewN _ _ _) (congrArg (World.drewN _) (Nat.add_assoc _ _ _))⟩);have p420:0 ≤ ((ji15):Int):=of_decide_eq_true (by first|(with_reducible assumption)|assumption);have q420:(ji15) < (t412.length:Int):=of_decide_eq_true (by first|(with_reducible assumption)|assumption);obtain⟨ad420,A420_0,c420_0,e420,hx420_0,hl420_0,hi420_0⟩:=at_L4 (Kd.S_reads' HO_12.out).2.2 (ji15) p420 q420;obtain rfl:ad415 = ad420:=(by injection e420);obtain⟨ce420,hce420,hMe420,hcc420⟩:=Kd.S_get HO_12.out [] (ji15) p420 (by first|exact q420|exact of_decide_eq_true (by first|(with_reducible assumption)|assumption)|(have e_:=(Kd.S_reads' HO_12.out).1;omega));obtain⟨ve420_0,rfl,ge420_0⟩:=hMe420;have hv420_0:=hcc420 0 _ rfl;rw [Nat.add_zero,show ((Kd.slice 3 (Kd.int .i64))).sz = 1 from rfl,Nat.mul_one] at hv420_0;replace hv420_0:=Option.some.inj (hv420_0.symm.trans hx420_0);rw [hv420_0] at ge420_0;have HL420_0:=mk0 (show Kd.R (Kd.int .i64) 3 _ _ _ _ (rd_L4 t412 (ji15)) from ge420_0);clear hv420_0 ge420_0 hcc420 hce420;have HR420_0:=mk0 hi420_0;have HC420_0:=mk0 hl420_0;clear hi420_0 hl420_0;replace p420:=eq_true p420;replace q420:=eq_true q420;have p421:0 ≤ ((ji18):Int):=of_decide_eq_true (by first|(with_reducible assumption)|assumption);have q421:(ji18) < ((rd_L4 t412 (ji15)).length:Int):=of_decide_eq_true (by first|(with_reducible assumption)|assumption);obtain⟨ad421,e421,hx421_0⟩:=Kd.at_int (by repeat (first|(with_reducible exact HR420_0.out)|(with_reducible first|apply aC|apply nC|apply dC)|exact HR420_0.out|exact (Kd.V_reads' HL420_0.out).2.2)) (ji18) p421 q421;cases e421;replace p421:=eq_true p421;replace q421:=eq_true q421;have p422:0 ≤ (x7_1:Int):=of_decide_eq_true (by first|(with_reducible assumption)|assumption);have q422:x7_1 < (t412.length:Int):=of_decide_eq_true (by first|(with_reducible assumption)|assumption);obtain⟨ad422,A422_0,c422_0,e422,hx422_0,hl422_0,hi422_0⟩:=at_L4 (Kd.S_reads' HO_12.out).2.2 x7_1 p422 q422;obtain rfl:ad415 = ad422:=(by injection e422);obtain⟨ce422,hce422,hMe422,hcc422⟩:=Kd.S_get HO_12.out [] x7_1 p422 (by first|exact q422|exact of_decide_eq_true (by first|(with_reducible assumption)|assumption)|(have e_:=(Kd.S_reads' HO_12.out).1;omega));obtain⟨ve422_0,rfl,ge422_0⟩:=hMe422;have hv422_0:=hcc422 0 _ rfl;rw [Nat.add_zero,show ((Kd.slice 3 (Kd.int .i64))).sz = 1 from rfl,Nat.mul_one] at hv422_0;replace hv422_0:=Option.some.inj (hv422_0.symm.trans hx422_0);rw [hv422_0] at ge422_0;have HL422_0:=mk0 (show Kd.R (Kd.int .i64) 3 _ _ _ _ (rd_L4 t412 x7_1) from ge422_0);clear hv422_0 ge422_0 hcc422 hce422;have HR422_0:=mk0 hi422_0;have HC422_0:=mk0 hl422_0;clear hi422_0 hl422_0;replace p422:=eq_true p422;replace q422:=eq_true q422;have ea_:=Option.some.inj (hx415_0.symm.trans hx422_0);injection ea_ with ea_ en_ ec_;subst ea_;subst ec_;clear en_;have p423:0 ≤ (x8_1:Int):=of_decide_eq_true (by first|(with_reducible assumption)|assumption);have q423:x8_1 < ((rd_L4 t412 x7_1).length:Int):=of_decide_eq_true (by first|(with_reducible assumption)|assumption);obtain⟨ad423,e423,hx423_0⟩:=Kd.at_int (by repeat (first|(with_reducible exact HR422_0.out)|(with_reducible first|apply aC|apply nC|apply dC)|exact HR422_0.out|exact (Kd.V_reads' HL422_0.out).2.2)) x8_1 p423 q423;cases e423;replace p423:=eq_true p423;replace q423:=eq_true q423));try go_wp2_with (first|(go_at_call 91;refine calls_of_args (args':=#[.slice A27 (l1.drop (x8_1:Int).toNat).length (c1 - x8_1.toNat),.int .i64 (rd l0 x7_1)]) (by first|(rw [show (l1.drop (x8_1:Int).toNat).length = (l1.length - x8_1.toNat) from List.length_drop] <;> rfl)|rfl|(simp only [List.length_drop,List.length_take];done)|(simp only [List.length_drop,List.length_take];rfl)) ?_;(with_reducible refine (slices_Index_int_int.calls k1 _ _ (l1.drop (x8_1:Int).toNat) (rd l0 x7_1) t419 _ ?side1 ?side2 A13.out).mono ?_);(case side1=>exact kC (Kd.C_below HR417.out HB.out));(case side2=>exact HC417.out);rintro e w' ⟨rfl,⟨nd,rfl⟩⟩;(try first|exact⟨rfl,_,World.drewN_drewN _ _ _⟩|exact⟨rfl,_,Eq.trans (World.drewN_drewN _ _ _) (congrArg (World.drewN _) (Nat.add_assoc _ _ _))⟩);have p420:0 ≤ ((ji15):Int):=of_decide_eq_true (by first|(with_reducible assumption)|assumption);have q420:(ji15) < (t412.length:Int):=of_decide_eq_true (by first|(with_reducible assumption)|assumption);obtain⟨ad420,A420_0,c420_0,e420,hx420_0,hl420_0,hi420_0⟩:=at_L4 (Kd.S_reads' HO_12.out).2.2 (ji15) p420 q420;obtain rfl:ad415 = ad420:=(by injection e420);obtain⟨ce420,hce420,hMe420,hcc420⟩:=Kd.S_get HO_12.out [] (ji15) p420 (by first|exact q420|exact of_decide_eq_true (by first|(with_reducible assumption)|assumption)|(have e_:=(Kd.S_reads' HO_12.out).1;omega));obtain⟨ve420_0,rfl,ge420_0⟩:=hMe420;have hv420_0:=hcc420 0 _ rfl;rw [Nat.add_zero,show ((Kd.slice 3 (Kd.int .i64))).sz = 1 from rfl,Nat.mul_one] at hv420_0;replace hv420_0:=Option.some.inj (hv420_0.symm.trans hx420_0);rw [hv420_0] at ge420_0;have HL420_0:=mk0 (show Kd.R (Kd.int .i64) 3 _ _ _ _ (rd_L4 t412 (ji15)) from ge420_0);clear hv420_0 ge420_0 hcc420 hce420;have HR420_0:=mk0 hi420_0;have HC420_0:=mk0 hl420_0;clear hi420_0 hl420_0;replace p420:=eq_true p420;replace q420:=eq_true q420;have p421:0 ≤ ((ji18):Int):=of_decide_eq_true (by first|(with_reducible assumption)|assumption);have q421:(ji18) < ((rd_L4 t412 (ji15)).length:Int):=of_decide_eq_true (by first|(with_reducible assumption)|assumption);obtain⟨ad421,e421,hx421_0⟩:=Kd.at_int (by repeat (first|(with_reducible exact HR420_0.out)|(with_reducible first|apply aC|apply nC|apply dC)|exact HR420_0.out|exact (Kd.V_reads' HL420_0.out).2.2)) (ji18) p421 q421;cases e421;replace p421:=eq_true p421;replace q421:=eq_true q421;have p422:0 ≤ (x7_1:Int):=of_decide_eq_true (by first|(with_reducible assumption)|assumption);have q422:x7_1 < (t412.length:Int):=of_decide_eq_true (by first|(with_reducible assumption)|assumption);obtain⟨ad422,A422_0,c422_0,e422,hx422_0,hl422_0,hi422_0⟩:=at_L4 (Kd.S_reads' HO_12.out).2.2 x7_1 p422 q422;obtain rfl:ad415 = ad422:=(by injection e422);obtain⟨ce422,hce422,hMe422,hcc422⟩:=Kd.S_get HO_12.out [] x7_1 p422 (by first|exact q422|exact of_decide_eq_true (by first|(with_reducible assumption)|assumption)|(have e_:=(Kd.S_reads' HO_12.out).1;omega));obtain⟨ve422_0,rfl,ge422_0⟩:=hMe422;have hv422_0:=hcc422 0 _ rfl;rw [Nat.add_zero,show ((Kd.slice 3 (Kd.int .i64))).sz = 1 from rfl,Nat.mul_one] at hv422_0;replace hv422_0:=Option.some.inj (hv422_0.symm.trans hx422_0);rw [hv422_0] at ge422_0;have HL422_0:=mk0 (show Kd.R (Kd.int .i64) 3 _ _ _ _ (rd_L4 t412 x7_1) from ge422_0);clear hv422_0 ge422_0 hcc422 hce422;have HR422_0:=mk0 hi422_0;have HC422_0:=mk0 hl422_0;clear hi422_0 hl422_0;replace p422:=eq_true p422;replace q422:=eq_true q422;have ea_:=Option.some.inj (hx415_0.symm.trans hx422_0);injection ea_ with ea_ en_ ec_;subst ea_;subst ec_;clear en_;have p423:0 ≤ (x8_1:Int):=of_decide_eq_true (by first|(with_reducible assumption)|assumption);have q423:x8_1 < ((rd_L4 t412 x7_1).length:Int):=of_decide_eq_true (by first|(with_reducible assumption)|assumption);obtain⟨ad423,e423,hx423_0⟩:=Kd.at_int (by repeat (first|(with_reducible exact HR422_0.out)|(with_reducible first|apply aC|apply nC|apply dC)|exact HR422_0.out|exact (Kd.V_reads' HL422_0.out).2.2)) x8_1 p423 q423;cases e423;replace p423:=eq_true p423;replace q423:=eq_true q423)))
    go_roundg k1
    case measure=>have:=HK1.out;omega
    case rel=>exact⟨(x6_1),(ji15),(x8_1),(by first|rfl|(simp;done)|(simp only [← hji15] <;> (first|rfl|simp))|(simp [*];done)),(by first|rfl|(simp;done)|(simp [*];done)),H',⟨by have:=HK1.out;omega⟩,⟨rR HO_6.out⟩,⟨rS HO_12.out⟩,⟨kB HB.out⟩⟩
   rw [if_pos c21] at H
   have c21b0:((wrap64 ((rd (rd_L4 t412 (ji15)) (ji18)) + 1)) == (rd (rd_L4 t412 x7_1) x8_1)) = true:=beq_iff_eq.mpr c21
   have c21b1:((wrap64 ((rd (rd_L4 t412 (ji15)) (ji18)) + 1)) != (rd (rd_L4 t412 x7_1) x8_1)) = false:=bne_eq_false_iff_eq.mpr c21
   clear c21
   by_cases c22:x6_1.length < 8796093022208
   rotate_left
   ·rw [if_neg c22] at H
    exact absurd H (by simp)
   rw [if_pos c22] at H
   have LMc22:=mk0 c22
   clear c22
   obtain⟨y424,hy424⟩:∃ y_:List (S56),y_ = (x6_1 ++ [(⟨x7_1,wrap64 (x8_1 + t419)⟩:S56)]):=⟨_,rfl⟩
   replace H:(impl_commonOf.l0 k1 l0 l1 y424 ji15 (wrap64 (x8_1 + (wrap64 (t419 + 1)))) t412) = some r:=by first|(rw [hy424];with_reducible exact H)|(have H2_:=(Option.bind_some _ _).symm.trans H;rw [hy424];with_reducible exact H2_)|(have H2_:=(Option.bind_some _ _).symm.trans H;with_reducible exact H2_)|with_reducible exact H|(rw [hy424];exact H)|exact H
   have Ny424:=mk0 hy424
   clear hy424
   have H':=mk0 H
   clear H
   obtain⟨Ao23,co23,eo23⟩:=Kd.S_slice HO_12.out
   subst eo23
   have p415:0 ≤ (x7_1:Int):=of_decide_eq_true (by first|(with_reducible assumption)|assumption)
   have q415:x7_1 < (t412.length:Int):=of_decide_eq_true (by first|(with_reducible assumption)|assumption)
   obtain⟨ad415,A415_0,c415_0,e415,hx415_0,hl415_0,hi415_0⟩:=at_L4 (Kd.S_reads' HO_12.out).2.2 x7_1 p415 q415
   cases e415
   obtain⟨ce415,hce415,hMe415,hcc415⟩:=Kd.S_get HO_12.out [] x7_1 p415 (by first|exact q415|exact of_decide_eq_true (by first|(with_reducible assumption)|assumption)|(have e_:=(Kd.S_reads' HO_12.out).1;omega))
   obtain⟨ve415_0,rfl,ge415_0⟩:=hMe415
   have hv415_0:=hcc415 0 _ rfl
   rw [Nat.add_zero,show ((Kd.slice 3 (Kd.int .i64))).sz = 1 from rfl,Nat.mul_one] at hv415_0
   replace hv415_0:=Option.some.inj (hv415_0.symm.trans hx415_0)
   rw [hv415_0] at ge415_0
   have HL415_0:=mk0 (show Kd.R (Kd.int .i64) 3 _ _ _ _ (rd_L4 t412 x7_1) from ge415_0)
   clear hv415_0 ge415_0
   clear hcc415 hce415
   have HR415_0:=mk0 hi415_0
   have HC415_0:=mk0 hl415_0
   clear hi415_0 hl415_0
   replace p415:=eq_true p415
   replace q415:=eq_true q415
   have p416:0 ≤ (x8_1:Int):=of_decide_eq_true (by first|(with_reducible assumption)|assumption)
   have q416:x8_1 < ((rd_L4 t412 x7_1).length:Int):=of_decide_eq_true (by first|(with_reducible assumption)|assumption)
   obtain⟨ad416,e416,hx416_0⟩:=Kd.at_int (by repeat (first|(with_reducible exact HR415_0.out)|(with_reducible first|apply aC|apply nC|apply dC)|exact HR415_0.out|exact (Kd.V_reads' HL415_0.out).2.2)) x8_1 p416 q416
   cases e416
   replace p416:=eq_true p416
   replace q416:=eq_true q416
   obtain⟨i024,hi024,_,hsz24,_⟩:=info_parts info3
   obtain⟨A24,hcut24,hA24,hC24⟩:=print_drop_of (P:=Try.prog) (Value.int .i64) 0 45 3 .i64 Try.underlying45 hi024 hsz24 A1 c1 l1 x8_1 (of_decide_eq_true (by first|(with_reducible assumption)|assumption)) (of_decide_eq_true (by first|(with_reducible assumption)|assumption)) HC1.out
   have HR417:=mk0 (Kd.C_of_reads (h1:=fun _=>rfl) (hA24 _ (Kd.reads_of_C HR1.out)))
   have HC417:=mk0 hC24
   clear hA24 hC24 hi024 hsz24
   have p418:0 ≤ (x7_1:Int):=of_decide_eq_true (by first|(with_reducible assumption)|assumption)
   have q418:x7_1 < (l0.length:Int):=of_decide_eq_true (by first|(with_reducible assumption)|assumption)
   obtain⟨ad418,e418,hx418_0⟩:=Kd.at_int HR0.out x7_1 p418 q418
   cases e418
   replace hx418_0:=(HB.out.cell (World.block_lt_of_cell? w _ hx418_0)).trans hx418_0
   replace p418:=eq_true p418
   replace q418:=eq_true q418
   go_wp2_with (first|(go_at_call 91;refine calls_of_args (args':=#[.slice A24 (l1.drop (x8_1:Int).toNat).length (c1 - x8_1.toNat),.int .i64 (rd l0 x7_1)]) (by first|(rw [show (l1.drop (x8_1:Int).toNat).length = (l1.length - x8_1.toNat) from List.length_drop] <;> rfl)|rfl|(simp only [List.length_drop,List.length_take];done)|(simp only [List.length_drop,List.length_take];rfl)) ?_;(with_reducible refine (slices_Index_int_int.calls k1 _ _ (l1.drop (x8_1:Int).toNat) (rd l0 x7_1) t419 _ ?side1 ?side2 A13.out).mono ?_);(case side1=>exact kC (Kd.C_below HR417.out HB.out));(case side2=>exact HC417.out);rintro e w' ⟨rfl,⟨nd,rfl⟩⟩;(try first|exact⟨rfl,_,World.drewN_drewN _ _ _⟩|exact⟨rfl,_,Eq.trans (World.drewN_drewN _ _ _) (congrArg (World.drewN _) (Nat.add_assoc _ _ _))⟩);have p420:0 ≤ ((ji15):Int):=of_decide_eq_true (by first|(with_reducible assumption)|assumption);have q420:(ji15) < (t412.length:Int):=of_decide_eq_true (by first|(with_reducible assumption)|assumption);obtain⟨ad420,A420_0,c420_0,e420,hx420_0,hl420_0,hi420_0⟩:=at_L4 (Kd.S_reads' HO_12.out).2.2 (ji15) p420 q420;obtain rfl:ad415 = ad420:=(by injection e420);obtain⟨ce420,hce420,hMe420,hcc420⟩:=Kd.S_get HO_12.out [] (ji15) p420 (by first|exact q420|exact of_decide_eq_true (by first|(with_reducible assumption)|assumption)|(have e_:=(Kd.S_reads' HO_12.out).1;omega));obtain⟨ve420_0,rfl,ge420_0⟩:=hMe420;have hv420_0:=hcc420 0 _ rfl;rw [Nat.add_zero,show ((Kd.slice 3 (Kd.int .i64))).sz = 1 from rfl,Nat.mul_one] at hv420_0;replace hv420_0:=Option.some.inj (hv420_0.symm.trans hx420_0);rw [hv420_0] at ge420_0;have HL420_0:=mk0 (show Kd.R (Kd.int .i64) 3 _ _ _ _ (rd_L4 t412 (ji15)) from ge420_0);clear hv420_0 ge420_0 hcc420 hce420;have HR420_0:=mk0 hi420_0;have HC420_0:=mk0 hl420_0;clear hi420_0 hl420_0;replace p420:=eq_true p420;replace q420:=eq_true q420;have p421:0 ≤ ((ji18):Int):=of_decide_eq_true (by first|(with_reducible assumption)|assumption);have q421:(ji18) < ((rd_L4 t412 (ji15)).length:Int):=of_decide_eq_true (by first|(with_reducible assumption)|assumption);obtain⟨ad421,e421,hx421_0⟩:=Kd.at_int (by repeat (first|(with_reducible exact HR420_0.out)|(with_reducible first|apply aC|apply nC|apply dC)|exact HR420_0.out|exact (Kd.V_reads' HL420_0.out).2.2)) (ji18) p421 q421;cases e421;replace p421:=eq_true p421;replace q421:=eq_true q421;have p422:0 ≤ (x7_1:Int):=of_decide_eq_true (by first|(with_reducible assumption)|assumption);have q422:x7_1 < (t412.length:Int):=of_decide_eq_true (by first|(with_reducible assumption)|assumption);obtain⟨ad422,A422_0,c422_0,e422,hx422_0,hl422_0,hi422_0⟩:=at_L4 (Kd.S_reads' HO_12.out).2.2 x7_1 p422 q422;obtain rfl:ad415 = ad422:=(by injection e422);obtain⟨ce422,hce422,hMe422,hcc422⟩:=Kd.S_get HO_12.out [] x7_1 p422 (by first|exact q422|exact of_decide_eq_true (by first|(with_reducible assumption)|assumption)|(have e_:=(Kd.S_reads' HO_12.out).1;omega));obtain⟨ve422_0,rfl,ge422_0⟩:=hMe422;have hv422_0:=hcc422 0 _ rfl;rw [Nat.add_zero,show ((Kd.slice 3 (Kd.int .i64))).sz = 1 from rfl,Nat.mul_one] at hv422_0;replace hv422_0:=Option.some.inj (hv422_0.symm.trans hx422_0);rw [hv422_0] at ge422_0;have HL422_0:=mk0 (show Kd.R (Kd.int .i64) 3 _ _ _ _ (rd_L4 t412 x7_1) from ge422_0);clear hv422_0 ge422_0 hcc422 hce422;have HR422_0:=mk0 hi422_0;have HC422_0:=mk0 hl422_0;clear hi422_0 hl422_0;replace p422:=eq_true p422;replace q422:=eq_true q422;have ea_:=Option.some.inj (hx415_0.symm.trans hx422_0);injection ea_ with ea_ en_ ec_;subst ea_;subst ec_;clear en_;have p423:0 ≤ (x8_1:Int):=of_decide_eq_true (by first|(with_reducible assumption)|assumption);have q423:x8_1 < ((rd_L4 t412 x7_1).length:Int):=of_decide_eq_true (by first|(with_reducible assumption)|assumption);obtain⟨ad423,e423,hx423_0⟩:=Kd.at_int (by repeat (first|(with_reducible exact HR422_0.out)|(with_reducible first|apply aC|apply nC|apply dC)|exact HR422_0.out|exact (Kd.V_reads' HL422_0.out).2.2)) x8_1 p423 q423;cases e423;replace p423:=eq_true p423;replace q423:=eq_true q423)|((with_reducible refine gate_builtin (b:=.append) (xs:=#[.tmp 55,.tmp 61]) rfl ?_);at_builtin;refine Kd.R_append k56 (w0:=w) w.heap.size rfl (.tmp 55) (.tmp 61) 27 56 (.agg #[(.int .i64 0),(.int .i64 0)]) 16 rfl Try.underlying27 info56 rfl (by decide) (by omega) u6 x6_1 (⟨x7_1,wrap64 (x8_1 + t419)⟩:S56) [.int .i64 x7_1,.int .i64 (wrap64 (x8_1 + t419))] (fun _=>True) (fun _=>False) rfl rfl ?aP (fun _ hk=>hk.elim) ?aF ?aO ?aB ?aS ?aL ?_;(case aP=>exact k56_mkM _ _ _ (⟨x7_1,wrap64 (x8_1 + t419)⟩:S56));(case aB=>exact (kB HB.out));(case aF=>exact (fun _ _=>trivial));(case aO=>exact (rR HO_6.out));(case aS=>exact (kZ HB.out));(case aL=>have:=LMc22.out;omega);intro v425 w25 ho hb hg hat;rw [← Ny424.out] at ho;replace HO_12:=mk0 (Kd.S_over' (rS HO_12.out) (Kd.R_typed (rR HO_6.out)) (by decide) hg);replace HL415_0:=mk0 (Kd.R_over' (rR HL415_0.out) (Kd.R_typed (rR HO_6.out)) (by decide) hg);replace HL420_0:=mk0 (Kd.R_over' (rR HL420_0.out) (Kd.R_typed (rR HO_6.out)) (by decide) hg);replace HL422_0:=mk0 (Kd.R_over' (rR HL422_0.out) (Kd.R_typed (rR HO_6.out)) (by decide) hg);replace HB:=mk0 (hb);have HO426:=mk0 (ho);clear HO_6 ho hb hg hat))
   repeat (go_quiet (first|(go_at_call 91;refine calls_of_args (args':=#[.slice A24 (l1.drop (x8_1:Int).toNat).length (c1 - x8_1.toNat),.int .i64 (rd l0 x7_1)]) (by first|(rw [show (l1.drop (x8_1:Int).toNat).length = (l1.length - x8_1.toNat) from List.length_drop] <;> rfl)|rfl|(simp only [List.length_drop,List.length_take];done)|(simp only [List.length_drop,List.length_take];rfl)) ?_;(with_reducible refine (slices_Index_int_int.calls k1 _ _ (l1.drop (x8_1:Int).toNat) (rd l0 x7_1) t419 _ ?side1 ?side2 A13.out).mono ?_);(case side1=>exact kC (Kd.C_below HR417.out HB.out));(case side2=>exact HC417.out);rintro e w' ⟨rfl,⟨nd,rfl⟩⟩;(try first|exact⟨rfl,_,World.drewN_drewN _ _ _⟩|exact⟨rfl,_,Eq.trans (World.drewN_drewN _ _ _) (congrArg (World.drewN _) (Nat.add_assoc _ _ _))⟩);have p420:0 ≤ ((ji15):Int):=of_decide_eq_true (by first|(with_reducible assumption)|assumption);have q420:(ji15) < (t412.length:Int):=of_decide_eq_true (by first|(with_reducible assumption)|assumption);obtain⟨ad420,A420_0,c420_0,e420,hx420_0,hl420_0,hi420_0⟩:=at_L4 (Kd.S_reads' HO_12.out).2.2 (ji15) p420 q420;obtain rfl:ad415 = ad420:=(by injection e420);obtain⟨ce420,hce420,hMe420,hcc420⟩:=Kd.S_get HO_12.out [] (ji15) p420 (by first|exact q420|exact of_decide_eq_true (by first|(with_reducible assumption)|assumption)|(have e_:=(Kd.S_reads' HO_12.out).1;omega));obtain⟨ve420_0,rfl,ge420_0⟩:=hMe420;have hv420_0:=hcc420 0 _ rfl;rw [Nat.add_zero,show ((Kd.slice 3 (Kd.int .i64))).sz = 1 from rfl,Nat.mul_one] at hv420_0;replace hv420_0:=Option.some.inj (hv420_0.symm.trans hx420_0);rw [hv420_0] at ge420_0;have HL420_0:=mk0 (show Kd.R (Kd.int .i64) 3 _ _ _ _ (rd_L4 t412 (ji15)) from ge420_0);clear hv420_0 ge420_0 hcc420 hce420;have HR420_0:=mk0 hi420_0;have HC420_0:=mk0 hl420_0;clear hi420_0 hl420_0;replace p420:=eq_true p420;replace q420:=eq_true q420;have p421:0 ≤ ((ji18):Int):=of_decide_eq_true (by first|(with_reducible assumption)|assumption);have q421:(ji18) < ((rd_L4 t412 (ji15)).length:Int):=of_decide_eq_true (by first|(with_reducible assumption)|assumption);obtain⟨ad421,e421,hx421_0⟩:=Kd.at_int (by repeat (first|(with_reducible exact HR420_0.out)|(with_reducible first|apply aC|apply nC|apply dC)|exact HR420_0.out|exact (Kd.V_reads' HL420_0.out).2.2)) (ji18) p421 q421;cases e421;replace p421:=eq_true p421;replace q421:=eq_true q421;have p422:0 ≤ (x7_1:Int):=of_decide_eq_true (by first|(with_reducible assumption)|assumption);have q422:x7_1 < (t412.length:Int):=of_decide_eq_true (by first|(with_reducible assumption)|assumption);obtain⟨ad422,A422_0,c422_0,e422,hx422_0,hl422_0,hi422_0⟩:=at_L4 (Kd.S_reads' HO_12.out).2.2 x7_1 p422 q422;obtain rfl:ad415 = ad422:=(by injection e422);obtain⟨ce422,hce422,hMe422,hcc422⟩:=Kd.S_get HO_12.out [] x7_1 p422 (by first|exact q422|exact of_decide_eq_true (by first|(with_reducible assumption)|assumption)|(have e_:=(Kd.S_reads' HO_12.out).1;omega));obtain⟨ve422_0,rfl,ge422_0⟩:=hMe422;have hv422_0:=hcc422 0 _ rfl;rw [Nat.add_zero,show ((Kd.slice 3 (Kd.int .i64))).sz = 1 from rfl,Nat.mul_one] at hv422_0;replace hv422_0:=Option.some.inj (hv422_0.symm.trans hx422_0);rw [hv422_0] at ge422_0;have HL422_0:=mk0 (show Kd.R (Kd.int .i64) 3 _ _ _ _ (rd_L4 t412 x7_1) from ge422_0);clear hv422_0 ge422_0 hcc422 hce422;have HR422_0:=mk0 hi422_0;have HC422_0:=mk0 hl422_0;clear hi422_0 hl422_0;replace p422:=eq_true p422;replace q422:=eq_true q422;have ea_:=Option.some.inj (hx415_0.symm.trans hx422_0);injection ea_ with ea_ en_ ec_;subst ea_;subst ec_;clear en_;have p423:0 ≤ (x8_1:Int):=of_decide_eq_true (by first|(with_reducible assumption)|assumption);have q423:x8_1 < ((rd_L4 t412 x7_1).length:Int):=of_decide_eq_true (by first|(with_reducible assumption)|assumption);obtain⟨ad423,e423,hx423_0⟩:=Kd.at_int (by repeat (first|(with_reducible exact HR422_0.out)|(with_reducible first|apply aC|apply nC|apply dC)|exact HR422_0.out|exact (Kd.V_reads' HL422_0.out).2.2)) x8_1 p423 q423;cases e423;replace p423:=eq_true p423;replace q423:=eq_true q423)|((with_reducible refine gate_builtin (b:=.append) (xs:=#[.tmp 55,.tmp 61]) rfl ?_);at_builtin;refine Kd.R_append k56 (w0:=w) w.heap.size rfl (.tmp 55) (.tmp 61) 27 56 (.agg #[(.int .i64 0),(.int .i64 0)]) 16 rfl Try.underlying27 info56 rfl (by decide) (by omega) u6 x6_1 (⟨x7_1,wrap64 (x8_1 + t419)⟩:S56) [.int .i64 x7_1,.int .i64 (wrap64 (x8_1 + t419))] (fun _=>True) (fun _=>False) rfl rfl ?aP (fun _ hk=>hk.elim) ?aF ?aO ?aB ?aS ?aL ?_;(case aP=>exact k56_mkM _ _ _ (⟨x7_1,wrap64 (x8_1 + t419)⟩:S56));(case aB=>exact (kB HB.out));(case aF=>exact (fun _ _=>trivial));(case aO=>exact (rR HO_6.out));(case aS=>exact (kZ HB.out));(case aL=>have:=LMc22.out;omega);intro v425 w25 ho hb hg hat;rw [← Ny424.out] at ho;replace HO_12:=mk0 (Kd.S_over' (rS HO_12.out) (Kd.R_typed (rR HO_6.out)) (by decide) hg);replace HL415_0:=mk0 (Kd.R_over' (rR HL415_0.out) (Kd.R_typed (rR HO_6.out)) (by decide) hg);replace HL420_0:=mk0 (Kd.R_over' (rR HL420_0.out) (Kd.R_typed (rR HO_6.out)) (by decide) hg);replace HL422_0:=mk0 (Kd.R_over' (rR HL422_0.out) (Kd.R_typed (rR HO_6.out)) (by decide) hg);replace HB:=mk0 (hb);have HO426:=mk0 (ho);clear HO_6 ho hb hg hat));try go_wp2_with (first|(go_at_call 91;refine calls_of_args (args':=#[.slice A24 (l1.drop (x8_1:Int).toNat).length (c1 - x8_1.toNat),.int .i64 (rd l0 x7_1)]) (by first|(rw [show (l1.drop (x8_1:Int).toNat).length = (l1.length - x8_1.toNat) from List.length_drop] <;> rfl)|rfl|(simp only [List.length_drop,List.length_take];done)|(simp only [List.length_drop,List.length_take];rfl)) ?_;(with_reducible refine (slices_Index_int_int.calls k1 _ _ (l1.drop (x8_1:Int).toNat) (rd l0 x7_1) t419 _ ?side1 ?side2 A13.out).mono ?_);(case side1=>exact kC (Kd.C_below HR417.out HB.out));(case side2=>exact HC417.out);rintro e w' ⟨rfl,⟨nd,rfl⟩⟩;(try first|exact⟨rfl,_,World.drewN_drewN _ _ _⟩|exact⟨rfl,_,Eq.trans (World.drewN_drewN _ _ _) (congrArg (World.drewN _) (Nat.add_assoc _ _ _))⟩);have p420:0 ≤ ((ji15):Int):=of_decide_eq_true (by first|(with_reducible assumption)|assumption);have q420:(ji15) < (t412.length:Int):=of_decide_eq_true (by first|(with_reducible assumption)|assumption);obtain⟨ad420,A420_0,c420_0,e420,hx420_0,hl420_0,hi420_0⟩:=at_L4 (Kd.S_reads' HO_12.out).2.2 (ji15) p420 q420;obtain rfl:ad415 = ad420:=(by injection e420);obtain⟨ce420,hce420,hMe420,hcc420⟩:=Kd.S_get HO_12.out [] (ji15) p420 (by first|exact q420|exact of_decide_eq_true (by first|(with_reducible assumption)|assumption)|(have e_:=(Kd.S_reads' HO_12.out).1;omega));obtain⟨ve420_0,rfl,ge420_0⟩:=hMe420;have hv420_0:=hcc420 0 _ rfl;rw [Nat.add_zero,show ((Kd.slice 3 (Kd.int .i64))).sz = 1 from rfl,Nat.mul_one] at hv420_0;replace hv420_0:=Option.some.inj (hv420_0.symm.trans hx420_0);rw [hv420_0] at ge420_0;have HL420_0:=mk0 (show Kd.R (Kd.int .i64) 3 _ _ _ _ (rd_L4 t412 (ji15)) from ge420_0);clear hv420_0 ge420_0 hcc420 hce420;have HR420_0:=mk0 hi420_0;have HC420_0:=mk0 hl420_0;clear hi420_0 hl420_0;replace p420:=eq_true p420;replace q420:=eq_true q420;have p421:0 ≤ ((ji18):Int):=of_decide_eq_true (by first|(with_reducible assumption)|assumption);have q421:(ji18) < ((rd_L4 t412 (ji15)).length:Int):=of_decide_eq_true (by first|(with_reducible assumption)|assumption);obtain⟨ad421,e421,hx421_0⟩:=Kd.at_int (by repeat (first|(with_reducible exact HR420_0.out)|(with_reducible first|apply aC|apply nC|apply dC)|exact HR420_0.out|exact (Kd.V_reads' HL420_0.out).2.2)) (ji18) p421 q421;cases e421;replace p421:=eq_true p421;replace q421:=eq_true q421;have p422:0 ≤ (x7_1:Int):=of_decide_eq_true (by first|(with_reducible assumption)|assumption);have q422:x7_1 < (t412.length:Int):=of_decide_eq_true (by first|(with_reducible assumption)|assumption);obtain⟨ad422,A422_0,c422_0,e422,hx422_0,hl422_0,hi422_0⟩:=at_L4 (Kd.S_reads' HO_12.out).2.2 x7_1 p422 q422;obtain rfl:ad415 = ad422:=(by injection e422);obtain⟨ce422,hce422,hMe422,hcc422⟩:=Kd.S_get HO_12.out [] x7_1 p422 (by first|exact q422|exact of_decide_eq_true (by first|(with_reducible assumption)|assumption)|(have e_:=(Kd.S_reads' HO_12.out).1;omega));obtain⟨ve422_0,rfl,ge422_0⟩:=hMe422;have hv422_0:=hcc422 0 _ rfl;rw [Nat.add_zero,show ((Kd.slice 3 (Kd.int .i64))).sz = 1 from rfl,Nat.mul_one] at hv422_0;replace hv422_0:=Option.some.inj (hv422_0.symm.trans hx422_0);rw [hv422_0] at ge422_0;have HL422_0:=mk0 (show Kd.R (Kd.int .i64) 3 _ _ _ _ (rd_L4 t412 x7_1) from ge422_0);clear hv422_0 ge422_0 hcc422 hce422;have HR422_0:=mk0 hi422_0;have HC422_0:=mk0 hl422_0;clear hi422_0 hl422_0;replace p422:=eq_true p422;replace q422:=eq_true q422;have ea_:=Option.some.inj (hx415_0.symm.trans hx422_0);injection ea_ with ea_ en_ ec_;subst ea_;subst ec_;clear en_;have p423:0 ≤ (x8_1:Int):=of_decide_eq_true (by first|(with_reducible assumption)|assumption);have q423:x8_1 < ((rd_L4 t412 x7_1).length:Int):=of_decide_eq_true (by first|(with_reducible assumption)|assumption);obtain⟨ad423,e423,hx423_0⟩:=Kd.at_int (by repeat (first|(with_reducible exact HR422_0.out)|(with_reducible first|apply aC|apply nC|apply dC)|exact HR422_0.out|exact (Kd.V_reads' HL422_0.out).2.2)) x8_1 p423 q423;cases e423;replace p423:=eq_true p423;replace q423:=eq_true q423)|((with_reducible refine gate_builtin (b:=.append) (xs:=#[.tmp 55,.tmp 61]) rfl ?_);at_builtin;refine Kd.R_append k56 (w0:=w) w.heap.size rfl (.tmp 55) (.tmp 61) 27 56 (.agg #[(.int .i64 0),(.int .i64 0)]) 16 rfl Try.underlying27 info56 rfl (by decide) (by omega) u6 x6_1 (⟨x7_1,wrap64 (x8_1 + t419)⟩:S56) [.int .i64 x7_1,.int .i64 (wrap64 (x8_1 + t419))] (fun _=>True) (fun _=>False) rfl rfl ?aP (fun _ hk=>hk.elim) ?aF ?aO ?aB ?aS ?aL ?_;(case aP=>exact k56_mkM _ _ _ (⟨x7_1,wrap64 (x8_1 + t419)⟩:S56));(case aB=>exact (kB HB.out));(case aF=>exact (fun _ _=>trivial));(case aO=>exact (rR HO_6.out));(case aS=>exact (kZ HB.out));(case aL=>have:=LMc22.out;omega);intro v425 w25 ho hb hg hat;rw [← Ny424.out] at ho;replace HO_12:=mk0 (Kd.S_over' (rS HO_12.out) (Kd.R_typed (rR HO_6.out)) (by decide) hg);replace HL415_0:=mk0 (Kd.R_over' (rR HL415_0.out) (Kd.R_typed (rR HO_6.out)) (by decide) hg);replace HL420_0:=mk0 (Kd.R_over' (rR HL420_0.out) (Kd.R_typed (rR HO_6.out)) (by decide) hg);replace HL422_0:=mk0 (Kd.R_over' (rR HL422_0.out) (Kd.R_typed (rR HO_6.out)) (by decide) hg);replace HB:=mk0 (hb);have HO426:=mk0 (ho);clear HO_6 ho hb hg hat)))
   go_roundg k1
   case measure=>have:=HK1.out;omega
   case rel=>exact⟨(y424),(ji15),(wrap64 (x8_1 + (wrap64 (t419 + 1)))),(by first|rfl|(simp;done)|(simp only [← hji15] <;> (first|rfl|simp))|(simp [*];done)),(by first|rfl|(simp;done)|(simp [*];done)),H',⟨by have:=HK1.out;omega⟩,⟨rR HO426.out⟩,⟨rS HO_12.out⟩,⟨kB HB.out⟩⟩
def impl_CommonWithin.f (k : Nat) (l0 : List Int) (l1 : List Int) (a2 : Int) : Option ((List (S56))) := (impl_areListed.f l0 l1).bind fun t427 => (if t427 = true then ((impl_commonOf.f k l0 l1).bind fun t428 => (if (wrap64 ((wrap64 ((l0.length : Int) + (l1.length : Int))) - (wrap64 (2 * (t428.length : Int))))) > a2 then (some ([] : List (S56))) else (some t428))) else (some ([] : List (S56))))
theorem impl_CommonWithin.mono : ∀ a0 a1 a2 k, LeO (impl_CommonWithin.f k a0 a1 a2) (impl_CommonWithin.f (k + 1) a0 a1 a2) := by
 intro a0 a1 a2 k
 unfold impl_CommonWithin.f
 repeat' first|(with_reducible first|exact impl_commonOf.mono _ _ _|exact LeO.refl _|exact LeO.none _|refine LeO.ite ?_ ?_|refine LeO.bind ?_ (fun _ => ?_))|exact LeO.none _|refine LeO.ite ?_ ?_|refine LeO.bind ?_ (fun _ => ?_)
set_option maxHeartbeats 8000000 in
set_option maxRecDepth 100000 in
theorem impl_CommonWithin.calls (k : Nat) (A0 : Option Addr) (c0 : Nat) (l0 : List Int) (A1 : Option Addr) (c1 : Nat) (l1 : List Int) (a2 : Int) (r : List (S56)) (w : World) (hr0 : Kd.C (Kd.int .i64) w A0 l0.length l0) (hc0 : l0.length ≤ c0) (hr1 : Kd.C (Kd.int .i64) w A1 l1.length l1) (hc1 : l1.length ≤ c1) (h : impl_CommonWithin.f k l0 l1 a2 = some r) :
  Calls Try.prog 65 #[.slice A0 l0.length c0, .slice A1 l1.length c1, .int .i64 a2] w fun e w' => ∃ v0_ : Value, e = .returned (v0_) ∧ Kd.R k56 56 w' w.heap.size (fun _ => True) v0_ r ∧ Below w.heap.size w w' := by
 have HR0:=mk0 hr0
 have HC0:=mk0 hc0
 clear hr0 hc0
 have HR1:=mk0 hr1
 have HC1:=mk0 hc1
 clear hr1 hc1
 have HB:=mk0 (Below.refl w.heap.size w)
 have H:((impl_areListed.f l0 l1).bind fun t427=>(if t427 = true then ((impl_commonOf.f k l0 l1).bind fun t428=>(if (wrap64 ((wrap64 ((l0.length:Int) + (l1.length:Int))) - (wrap64 (2 * (t428.length:Int))))) > a2 then (some ([]:List (S56))) else (some t428))) else (some ([]:List (S56))))) = some r:=h
 clear h
 replace H:=Option.bind_eq_some_iff.mp H
 obtain⟨t427,A40,H⟩:=H
 replace H:(if t427 = true then ((impl_commonOf.f k l0 l1).bind fun t428=>(if (wrap64 ((wrap64 ((l0.length:Int) + (l1.length:Int))) - (wrap64 (2 * (t428.length:Int))))) > a2 then (some ([]:List (S56))) else (some t428))) else (some ([]:List (S56)))) = some r:=H
 have A4:=mk0 A40
 clear A40
 by_cases c5:t427 = true
 ·subst c5
  have H1:((impl_commonOf.f k l0 l1).bind fun t428=>(if (wrap64 ((wrap64 ((l0.length:Int) + (l1.length:Int))) - (wrap64 (2 * (t428.length:Int))))) > a2 then (some ([]:List (S56))) else (some t428))) = some r:=by rw [if_pos rfl] at H;exact H
  clear H
  have H:=H1
  clear H1
  replace H:=Option.bind_eq_some_iff.mp H
  obtain⟨t428,A60,H⟩:=H
  replace H:(if (wrap64 ((wrap64 ((l0.length:Int) + (l1.length:Int))) - (wrap64 (2 * (t428.length:Int))))) > a2 then (some ([]:List (S56))) else (some t428)) = some r:=H
  have A6:=mk0 A60
  clear A60
  by_cases c7:(wrap64 ((wrap64 ((l0.length:Int) + (l1.length:Int))) - (wrap64 (2 * (t428.length:Int))))) > a2
  ·rw [if_pos c7] at H
   have c7b0:decide (a2 < (wrap64 ((wrap64 ((l0.length:Int) + (l1.length:Int))) - (wrap64 (2 * (t428.length:Int)))))) = true:=decide_eq_true c7
   clear c7
   obtain rfl:=Option.some.inj H
   go_enter Try.func65,Try.ntmps65
   go_wp2_with (first|((with_reducible refine gate_callee (f:=62) rfl ?_);refine goesL_ (some 10) rfl rfl Try.func62 (by kernel_rfl) rfl #[.slice A0 l0.length c0,.slice A1 l1.length c1] rfl (by (try simp only [mA,mC,mN]);first|done|rfl|(simp only [List.length_drop,List.length_take];done)|(simp only [List.length_drop,List.length_take];rfl)) ?_;(with_reducible refine (impl_areListed.calls _ _ l0 _ _ l1 true _ ?side1 ?side2 ?side3 ?side4 A4.out).mono ?_);(case side1=>repeat (first|exact HR0.out|(with_reducible first|apply aC|apply nC|apply dC)));(case side2=>exact HC0.out);(case side3=>repeat (first|exact HR1.out|(with_reducible first|apply aC|apply nC|apply dC)));(case side4=>exact HC1.out);rintro e w' ⟨rfl,⟨nd,rfl⟩⟩;refine⟨_,rfl,?_⟩)|((with_reducible refine gate_callee (f:=81) rfl ?_);refine goesL_ (some 14) rfl rfl Try.func81 (by kernel_rfl) rfl #[.slice A0 l0.length c0,.slice A1 l1.length c1] rfl (by (try simp only [mA,mC,mN]);first|done|rfl|(simp only [List.length_drop,List.length_take];done)|(simp only [List.length_drop,List.length_take];rfl)) ?_;(with_reducible refine (impl_commonOf.calls k _ _ l0 _ _ l1 t428 _ ?side1 ?side2 ?side3 ?side4 A6.out).mono ?_);(case side1=>repeat (first|exact HR0.out|(with_reducible first|apply aC|apply nC|apply dC)));(case side2=>exact HC0.out);(case side3=>repeat (first|exact HR1.out|(with_reducible first|apply aC|apply nC|apply dC)));(case side4=>exact HC1.out);rintro e w8 ⟨v429,rfl,ho0,hb⟩;refine⟨_,rfl,?_⟩;have HO430:=mk0 (Kd.R_lower ho0 (kZ HB.out));replace HB:=mk0 (kS HB.out hb);(try clear hb);(try clear ho0);obtain⟨Ao9,co9,eo9⟩:=Kd.R_slice HO430.out;subst eo9))
   go_ret
   exact⟨_,by first|rfl|(simp [errW_none,errW_some] <;> rfl)|(simp [*,errW_none,errW_some] <;> rfl),by first|exact Kd.R_nil _ _ _ _ _|exact Kd.N_nil _ _ _ _ _|exact Kd.V_nil _ _ _ _ _|exact Kd.Q_nil _ _ _ _ _|exact Kd.S_nil _ _ _ _ _,kB HB.out⟩
  ·rw [if_neg c7] at H
   have c7b0:decide (a2 < (wrap64 ((wrap64 ((l0.length:Int) + (l1.length:Int))) - (wrap64 (2 * (t428.length:Int)))))) = false:=decide_eq_false c7
   clear c7
   obtain rfl:=Option.some.inj H
   go_enter Try.func65,Try.ntmps65
   go_wp2_with (first|((with_reducible refine gate_callee (f:=62) rfl ?_);refine goesL_ (some 10) rfl rfl Try.func62 (by kernel_rfl) rfl #[.slice A0 l0.length c0,.slice A1 l1.length c1] rfl (by (try simp only [mA,mC,mN]);first|done|rfl|(simp only [List.length_drop,List.length_take];done)|(simp only [List.length_drop,List.length_take];rfl)) ?_;(with_reducible refine (impl_areListed.calls _ _ l0 _ _ l1 true _ ?side1 ?side2 ?side3 ?side4 A4.out).mono ?_);(case side1=>repeat (first|exact HR0.out|(with_reducible first|apply aC|apply nC|apply dC)));(case side2=>exact HC0.out);(case side3=>repeat (first|exact HR1.out|(with_reducible first|apply aC|apply nC|apply dC)));(case side4=>exact HC1.out);rintro e w' ⟨rfl,⟨nd,rfl⟩⟩;refine⟨_,rfl,?_⟩)|((with_reducible refine gate_callee (f:=81) rfl ?_);refine goesL_ (some 14) rfl rfl Try.func81 (by kernel_rfl) rfl #[.slice A0 l0.length c0,.slice A1 l1.length c1] rfl (by (try simp only [mA,mC,mN]);first|done|rfl|(simp only [List.length_drop,List.length_take];done)|(simp only [List.length_drop,List.length_take];rfl)) ?_;(with_reducible refine (impl_commonOf.calls k _ _ l0 _ _ l1 t428 _ ?side1 ?side2 ?side3 ?side4 A6.out).mono ?_);(case side1=>repeat (first|exact HR0.out|(with_reducible first|apply aC|apply nC|apply dC)));(case side2=>exact HC0.out);(case side3=>repeat (first|exact HR1.out|(with_reducible first|apply aC|apply nC|apply dC)));(case side4=>exact HC1.out);rintro e w10 ⟨v429,rfl,ho0,hb⟩;refine⟨_,rfl,?_⟩;have HO430:=mk0 (Kd.R_lower ho0 (kZ HB.out));replace HB:=mk0 (kS HB.out hb);(try clear hb);(try clear ho0);obtain⟨Ao11,co11,eo11⟩:=Kd.R_slice HO430.out;subst eo11))
   go_ret
   exact⟨_,by first|rfl|(simp [errW_none,errW_some] <;> rfl)|(simp [*,errW_none,errW_some] <;> rfl),rR HO430.out,kB HB.out⟩
 ·replace c5:=Bool.eq_false_iff.mpr c5
  subst c5
  have H1:(some ([]:List (S56))) = some r:=by rw [if_neg (show ¬ (false = true) by decide)] at H;exact H
  clear H
  have H:=H1
  clear H1
  obtain rfl:=Option.some.inj H
  go_enter Try.func65,Try.ntmps65
  go_wp2_with (first|((with_reducible refine gate_callee (f:=62) rfl ?_);refine goesL_ (some 10) rfl rfl Try.func62 (by kernel_rfl) rfl #[.slice A0 l0.length c0,.slice A1 l1.length c1] rfl (by (try simp only [mA,mC,mN]);first|done|rfl|(simp only [List.length_drop,List.length_take];done)|(simp only [List.length_drop,List.length_take];rfl)) ?_;(with_reducible refine (impl_areListed.calls _ _ l0 _ _ l1 false _ ?side1 ?side2 ?side3 ?side4 A4.out).mono ?_);(case side1=>repeat (first|exact HR0.out|(with_reducible first|apply aC|apply nC|apply dC)));(case side2=>exact HC0.out);(case side3=>repeat (first|exact HR1.out|(with_reducible first|apply aC|apply nC|apply dC)));(case side4=>exact HC1.out);rintro e w' ⟨rfl,⟨nd,rfl⟩⟩;refine⟨_,rfl,?_⟩))
  go_ret
  exact⟨_,by first|rfl|(simp [errW_none,errW_some] <;> rfl)|(simp [*,errW_none,errW_some] <;> rfl),by first|exact Kd.R_nil _ _ _ _ _|exact Kd.N_nil _ _ _ _ _|exact Kd.V_nil _ _ _ _ _|exact Kd.Q_nil _ _ _ _ _|exact Kd.S_nil _ _ _ _ _,kB HB.out⟩
end Go.Proofs.Ytadhngelhognaaa.QFnExactShareOf
