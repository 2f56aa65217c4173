-- A walk, made by walk.py, a program of this session's.
import Derived.Test.YtdiemmcnekbfaaaQFnPatchBackx0
import Derived.Test.YtdiemmcnekbfaaaQFnPatchBackx4
import Derived.Test.YtdiemmcnekbfaaaQFnPatchBackx5
import Derived.Test.YtdiemmcnekbfaaaQFnPatchBackx6
namespace Go.Proofs.Ytdiemmcnekbfaaa.QFnPatchBack
open Go.RowKit Go.Proofs.YtdiemmcnekbfaaaW.PrintWords Go.Proofs.YtdiemmcnekbfaaaW.PrintLast Go.Proofs.YtdiemmcnekbfaaaW.PrintMore
attribute [local go_sem] max2_int min2_int max_two min_two max_three min_three max_four min_four   -- for this text's walks alone
set_option linter.unusedVariables false
set_option linter.unusedSimpArgs false

/-! ### slices_Index_int_int: function 49 -/
def slices_Index_int_int.l0 : Nat → List Int → Int → Int → Int → Option (Int)
 | 0, _, _, _, _ => none
 | k + 1, x0, x1, x7, x8 => if x8 < x7 then (if 0 ≤ x8 then (if x8 < (x0.length : Int) then (if x1 = (rd x0 x8) then (some x8) else (slices_Index_int_int.l0 k x0 x1 x7 (wrap64 (x8 + 1)))) else (none)) else (none)) else (some (-1))
def slices_Index_int_int.f (k : Nat) (l0 : List Int) (a1 : Int) : Option (Int) := slices_Index_int_int.l0 k l0 a1 (l0.length : Int) 0
theorem slices_Index_int_int.mono_l : ∀ k, (∀ y0 y1 y2 y3, LeO (slices_Index_int_int.l0 k y0 y1 y2 y3) (slices_Index_int_int.l0 (k + 1) y0 y1 y2 y3))
 | 0 => fun _ _ _ _ r h => by simp [slices_Index_int_int.l0] at h
 | k + 1 => by
  have ih0 := slices_Index_int_int.mono_l k
  ·intro y0 y1 y2 y3
   unfold slices_Index_int_int.l0
   repeat' first|(with_reducible first|exact ih0 _ _ _ _|exact LeO.refl _|exact LeO.none _|refine LeO.ite ?_ ?_|refine LeO.bind ?_ (fun _ => ?_))|exact LeO.none _|refine LeO.ite ?_ ?_|refine LeO.bind ?_ (fun _ => ?_)
theorem slices_Index_int_int.mono : ∀ a0 a1 k, LeO (slices_Index_int_int.f k a0 a1) (slices_Index_int_int.f (k + 1) a0 a1) := by
 intro a0 a1 k
 have ih0 := slices_Index_int_int.mono_l k
 unfold slices_Index_int_int.f
 repeat' first|(with_reducible first|exact ih0 _ _ _ _|exact LeO.refl _|exact LeO.none _|refine LeO.ite ?_ ?_|refine LeO.bind ?_ (fun _ => ?_))|exact LeO.none _|refine LeO.ite ?_ ?_|refine LeO.bind ?_ (fun _ => ?_)
set_option maxHeartbeats 8000000 in
set_option maxRecDepth 100000 in
theorem slices_Index_int_int.calls (k : Nat) (A0 : Option Addr) (c0 : Nat) (l0 : List Int) (a1 : Int) (r : Int) (w : World) (hr0 : Kd.C (Kd.int .i64) w A0 l0.length l0) (hc0 : l0.length ≤ c0) (h : slices_Index_int_int.f k l0 a1 = some r) :
  Calls Try.prog 49 #[.slice A0 l0.length c0, .int .i64 a1] w fun e w' => e = .returned (.int .i64 r) ∧ Drawn0 w w' := by
 have HR0:=mk0 hr0
 have HC0:=mk0 hc0
 clear hr0 hc0
 have H:(slices_Index_int_int.l0 k l0 a1 (l0.length:Int) 0) = some r:=h
 clear h
 have H':=mk0 H
 clear H
 go_enter Try.func49,Try.ntmps49
 go_wp2
 go_loopg [8] k (fun kq v8 w'=>∃ (x8_1:Int),v8 = .int .i64 x8_1 ∧ Aside0 (slices_Index_int_int.l0 kq l0 a1 (l0.length:Int) x8_1 = some r) ∧ Aside0 (kq ≤ k) ∧ Drawn0 w w')
 case atStart=>exact⟨(0),(by first|rfl|(simp;done)|(simp [*];done)),H',⟨Nat.le_refl _⟩,by repeat (first|exact Drawn0.refl _|apply Drawn0.step)⟩
 case round =>
  clear H'
  try clear p2
  obtain⟨x8_1,rfl,HA,HK1,⟨m1,rfl⟩⟩:=hrel
  cases gk with
  | zero=>exact absurd HA.out (by simp [slices_Index_int_int.l0])
  | succ k1 =>
   have H:=HA.out
   clear HA
   simp only [slices_Index_int_int.l0] at H
   by_cases c3:x8_1 < (l0.length:Int)
   ·rw [if_pos c3] at H
    have c3b0:decide (x8_1 < (l0.length:Int)) = true:=decide_eq_true c3
    clear c3
    by_cases c4:0 ≤ x8_1
    ·rw [if_pos c4] at H
     have c4b0:decide (0 ≤ x8_1) = true:=decide_eq_true c4
     clear c4
     by_cases c5:x8_1 < (l0.length:Int)
     ·rw [if_pos c5] at H
      have c5b0:decide (x8_1 < (l0.length:Int)) = true:=decide_eq_true c5
      clear c5
      by_cases c6:a1 = (rd l0 x8_1)
      ·rw [if_pos c6] at H
       have c6b0:(a1 == (rd l0 x8_1)) = true:=beq_iff_eq.mpr c6
       have c6b1:(a1 != (rd l0 x8_1)) = false:=bne_eq_false_iff_eq.mpr c6
       clear c6
       obtain rfl:=Option.some.inj H
       have p255:0 ≤ (x8_1:Int):=of_decide_eq_true (by first|(with_reducible assumption)|assumption)
       have q255:x8_1 < (l0.length:Int):=of_decide_eq_true (by first|(with_reducible assumption)|assumption)
       obtain⟨ad255,e255,hx255_0⟩:=Kd.at_int HR0.out x8_1 p255 q255
       cases e255
       replace p255:=eq_true p255
       replace q255:=eq_true q255
       go_wp2
       go_ret
       exact⟨by first|rfl|(simp;done)|(simp [*];done),by repeat (first|exact Drawn0.refl _|apply Drawn0.step)⟩
      ·rw [if_neg c6] at H
       have c6b0:(a1 == (rd l0 x8_1)) = false:=beq_eq_false_iff_ne.mpr c6
       have c6b1:(a1 != (rd l0 x8_1)) = true:=bne_iff_ne.mpr c6
       have H':=mk0 H
       clear H
       have p255:0 ≤ (x8_1:Int):=of_decide_eq_true (by first|(with_reducible assumption)|assumption)
       have q255:x8_1 < (l0.length:Int):=of_decide_eq_true (by first|(with_reducible assumption)|assumption)
       obtain⟨ad255,e255,hx255_0⟩:=Kd.at_int HR0.out x8_1 p255 q255
       cases e255
       replace p255:=eq_true p255
       replace q255:=eq_true q255
       go_wp2
       go_roundg k1
       case measure=>have:=HK1.out;omega
       case rel=>exact⟨(wrap64 (x8_1 + 1)),(by first|rfl|(simp;done)|(simp [*];done)),H',⟨by have:=HK1.out;omega⟩,by repeat (first|exact Drawn0.refl _|apply Drawn0.step)⟩
     ·rw [if_neg c5] at H
      exact absurd H (by simp)
    ·rw [if_neg c4] at H
     exact absurd H (by simp)
   ·rw [if_neg c3] at H
    have c3b0:decide (x8_1 < (l0.length:Int)) = false:=decide_eq_false c3
    clear c3
    obtain rfl:=Option.some.inj H
    go_wp2
    go_ret
    exact⟨by first|rfl|(simp;done)|(simp [*];done),by repeat (first|exact Drawn0.refl _|apply Drawn0.step)⟩

/-! ### impl_commonOf: function 28 -/
def impl_commonOf.l0 : Nat → List Int → List Int → List (List Int) → List (S70) → Int → Int → Option ((List (S70)))
 | 0, _, _, _, _, _, _ => none
 | k + 1, x0, x1, x5, x6, x7, x8 => if 0 ≤ x7 then (if x7 < (x5.length : Int) then (if 0 ≤ x8 then (if x8 < ((rd_L3 x5 x7).length : Int) then (if (rd (rd_L3 x5 x7) x8) > 0 then (if x8 ≤ (x1.length : Int) then (if x7 < (x0.length : Int) then ((slices_Index_int_int.f k (x1.drop (x8 : Int).toNat) (rd x0 x7)).bind fun t263 => (if t263 ≥ 0 then (if 0 ≤ (wrap64 (x7 + 1)) then (if (wrap64 (x7 + 1)) < (x5.length : Int) then (if 0 ≤ (wrap64 ((wrap64 (x8 + t263)) + 1)) then (if (wrap64 ((wrap64 (x8 + t263)) + 1)) < ((rd_L3 x5 (wrap64 (x7 + 1))).length : Int) then (if (wrap64 ((rd (rd_L3 x5 (wrap64 (x7 + 1))) (wrap64 ((wrap64 (x8 + t263)) + 1))) + 1)) = (rd (rd_L3 x5 x7) x8) then (if x6.length < 8796093022208 then (impl_commonOf.l0 k x0 x1 x5 (x6 ++ [(⟨x7, wrap64 (x8 + t263)⟩ : S70)]) (wrap64 (x7 + 1)) (wrap64 (x8 + (wrap64 (t263 + 1))))) else (none)) else (impl_commonOf.l0 k x0 x1 x5 x6 (wrap64 (x7 + 1)) x8)) else (none)) else (none)) else (none)) else (none)) else (impl_commonOf.l0 k x0 x1 x5 x6 (wrap64 (x7 + 1)) x8))) else (none)) else (none)) else (some x6)) else (none)) else (none)) else (none)) else (none)
def impl_commonOf.f (k : Nat) (l0 : List Int) (l1 : List Int) : Option ((List (S70))) := (impl_commonTable.f k l0 l1).bind fun t256 => (impl_commonOf.l0 k l0 l1 t256 ([] : List (S70)) 0 0)
theorem impl_commonOf.mono_l : ∀ k, (∀ y0 y1 y2 y3 y4 y5, LeO (impl_commonOf.l0 k y0 y1 y2 y3 y4 y5) (impl_commonOf.l0 (k + 1) y0 y1 y2 y3 y4 y5))
 | 0 => fun _ _ _ _ _ _ r h => by simp [impl_commonOf.l0] at h
 | k + 1 => by
  have ih0 := impl_commonOf.mono_l k
  ·intro y0 y1 y2 y3 y4 y5
   unfold impl_commonOf.l0
   repeat' first|(with_reducible first|exact ih0 _ _ _ _ _ _|exact impl_commonTable.mono _ _ _|exact slices_Index_int_int.mono _ _ _|exact LeO.refl _|exact LeO.none _|refine LeO.ite ?_ ?_|refine LeO.bind ?_ (fun _ => ?_))|exact LeO.none _|refine LeO.ite ?_ ?_|refine LeO.bind ?_ (fun _ => ?_)
theorem impl_commonOf.mono : ∀ a0 a1 k, LeO (impl_commonOf.f k a0 a1) (impl_commonOf.f (k + 1) a0 a1) := by
 intro a0 a1 k
 have ih0 := impl_commonOf.mono_l k
 unfold impl_commonOf.f
 repeat' first|(with_reducible first|exact ih0 _ _ _ _ _ _|exact impl_commonTable.mono _ _ _|exact slices_Index_int_int.mono _ _ _|exact LeO.refl _|exact LeO.none _|refine LeO.ite ?_ ?_|refine LeO.bind ?_ (fun _ => ?_))|exact LeO.none _|refine LeO.ite ?_ ?_|refine LeO.bind ?_ (fun _ => ?_)
set_option maxHeartbeats 8000000 in
set_option maxRecDepth 100000 in
theorem impl_commonOf.calls (k : Nat) (A0 : Option Addr) (c0 : Nat) (l0 : List Int) (A1 : Option Addr) (c1 : Nat) (l1 : List Int) (r : List (S70)) (w : World) (hr0 : Kd.C (Kd.int .i64) w A0 l0.length l0) (hc0 : l0.length ≤ c0) (hr1 : Kd.C (Kd.int .i64) w A1 l1.length l1) (hc1 : l1.length ≤ c1) (h : impl_commonOf.f k l0 l1 = some r) :
  Calls Try.prog 28 #[.slice A0 l0.length c0, .slice A1 l1.length c1] w fun e w' => ∃ v0_ : Value, e = .returned (v0_) ∧ Kd.R k70 70 w' w.heap.size (fun _ => True) v0_ r ∧ Below w.heap.size w w' := by
 have hu70:=Try.underlying70
 have HR0:=mk0 hr0
 have HC0:=mk0 hc0
 clear hr0 hc0
 have HR1:=mk0 hr1
 have HC1:=mk0 hc1
 clear hr1 hc1
 have HB:=mk0 (Below.refl w.heap.size w)
 have H:((impl_commonTable.f k l0 l1).bind fun t256=>(impl_commonOf.l0 k l0 l1 t256 ([]:List (S70)) 0 0)) = some r:=h
 clear h
 replace H:=Option.bind_eq_some_iff.mp H
 obtain⟨t256,A30,H⟩:=H
 replace H:(impl_commonOf.l0 k l0 l1 t256 ([]:List (S70)) 0 0) = some r:=H
 have A3:=mk0 A30
 clear A30
 have H':=mk0 H
 clear H
 go_enter Try.func28,Try.ntmps28
 go_wp2_with (first|(go_at_call 48;(with_reducible refine (impl_commonTable.calls k _ _ l0 _ _ l1 t256 _ ?side1 ?side2 ?side3 ?side4 A3.out).mono ?_);(case side1=>repeat (first|exact HR0.out|(with_reducible first|apply aC|apply nC|apply dC)));(case side2=>exact HC0.out);(case side3=>repeat (first|exact HR1.out|(with_reducible first|apply aC|apply nC|apply dC)));(case side4=>exact HC1.out);rintro e w4 ⟨v257,rfl,ho0,hb⟩;have n0_:=mk0 (Kd.S_lower ho0 (below_size (by repeat (first|(with_reducible first|exact HB.out|apply aZ|apply nZ|apply dZ)|exact HB.out))));have n1_:=mk0 (below_step (by repeat (first|(with_reducible first|exact HB.out|apply aZ|apply nZ|apply dZ)|exact HB.out)) hb);clear HB;have HO258:=n0_;have HB:=n1_;clear n0_ n1_;(try clear hb);(try clear hb2);(try clear hk);(try clear hi);(try clear ho0)))
 repeat (go_quiet (first|(go_at_call 48;(with_reducible refine (impl_commonTable.calls k _ _ l0 _ _ l1 t256 _ ?side1 ?side2 ?side3 ?side4 A3.out).mono ?_);(case side1=>repeat (first|exact HR0.out|(with_reducible first|apply aC|apply nC|apply dC)));(case side2=>exact HC0.out);(case side3=>repeat (first|exact HR1.out|(with_reducible first|apply aC|apply nC|apply dC)));(case side4=>exact HC1.out);rintro e w4 ⟨v257,rfl,ho0,hb⟩;have n0_:=mk0 (Kd.S_lower ho0 (below_size (by repeat (first|(with_reducible first|exact HB.out|apply aZ|apply nZ|apply dZ)|exact HB.out))));have n1_:=mk0 (below_step (by repeat (first|(with_reducible first|exact HB.out|apply aZ|apply nZ|apply dZ)|exact HB.out)) hb);clear HB;have HO258:=n0_;have HB:=n1_;clear n0_ n1_;(try clear hb);(try clear hb2);(try clear hk);(try clear hi);(try clear ho0)));try go_wp2_with (first|(go_at_call 48;(with_reducible refine (impl_commonTable.calls k _ _ l0 _ _ l1 t256 _ ?side1 ?side2 ?side3 ?side4 A3.out).mono ?_);(case side1=>repeat (first|exact HR0.out|(with_reducible first|apply aC|apply nC|apply dC)));(case side2=>exact HC0.out);(case side3=>repeat (first|exact HR1.out|(with_reducible first|apply aC|apply nC|apply dC)));(case side4=>exact HC1.out);rintro e w4 ⟨v257,rfl,ho0,hb⟩;have n0_:=mk0 (Kd.S_lower ho0 (below_size (by repeat (first|(with_reducible first|exact HB.out|apply aZ|apply nZ|apply dZ)|exact HB.out))));have n1_:=mk0 (below_step (by repeat (first|(with_reducible first|exact HB.out|apply aZ|apply nZ|apply dZ)|exact HB.out)) hb);clear HB;have HO258:=n0_;have HB:=n1_;clear n0_ n1_;(try clear hb);(try clear hb2);(try clear hk);(try clear hi);(try clear ho0))))
 go_loopg [6,7,8] k (fun kq v6 v7 v8 w'=>∃ (x6_1:List (S70)) (x7_1:Int) (x8_1:Int),v7 = .int .i64 x7_1 ∧ v8 = .int .i64 x8_1 ∧ Aside0 (impl_commonOf.l0 kq l0 l1 t256 x6_1 x7_1 x8_1 = some r) ∧ Aside0 (kq ≤ k) ∧ Aside0 (Kd.S (Kd.slice 3 (Kd.int .i64)) 22 w' w.heap.size (fun _=>True) v257 t256) ∧ Aside0 (Kd.R k70 70 w' w.heap.size (fun _=>True) v6 x6_1) ∧ Aside0 (Below w.heap.size w w'))
 case atStart=>exact⟨(([]:List (S70))),(0),(0),(by first|rfl|(simp;done)|(simp [*];done)),(by first|rfl|(simp;done)|(simp [*];done)),H',⟨Nat.le_refl _⟩,⟨by (with_reducible repeat (first|apply aS|apply nS|apply dS));exact HO258.out⟩,⟨by first|exact Kd.R_nil _ _ _ _ _|exact Kd.N_nil _ _ _ _ _|exact Kd.V_nil _ _ _ _ _|exact Kd.Q_nil _ _ _ _ _|exact Kd.S_nil _ _ _ _ _⟩,⟨by repeat (first|(with_reducible first|exact HB.out|apply aZ|apply nZ|apply dZ)|exact HB.out)⟩⟩
 case round =>
  clear H'
  try clear c1
  try clear c2
  try clear p2
  obtain⟨x6_1,x7_1,x8_1,rfl,rfl,HA,HK1,HO_5,HO_6,HB⟩:=hrel
  cases gk with
  | zero=>exact absurd HA.out (by simp [impl_commonOf.l0])
  | succ k1 =>
   have H:=HA.out
   clear HA
   simp only [impl_commonOf.l0] at H
   by_cases c5:0 ≤ x7_1
   rotate_left
   ·rw [if_neg c5] at H
    exact absurd H (by simp)

   rw [if_pos c5] at H
   have c5b0:decide (0 ≤ x7_1) = true:=decide_eq_true c5
   clear c5
   by_cases c6:x7_1 < (t256.length:Int)
   rotate_left
   ·rw [if_neg c6] at H
    exact absurd H (by simp)
   rw [if_pos c6] at H
   have c6b0:decide (x7_1 < (t256.length:Int)) = true:=decide_eq_true c6
   (try simp only [hl259_0] at c6b0)
   (try simp only [hl264_0] at c6b0)
   (try simp only [hl266_0] at c6b0)
   clear c6
   by_cases c7:0 ≤ x8_1
   rotate_left
   ·rw [if_neg c7] at H
    exact absurd H (by simp)
   rw [if_pos c7] at H
   have c7b0:decide (0 ≤ x8_1) = true:=decide_eq_true c7
   clear c7
   by_cases c8:x8_1 < ((rd_L3 t256 x7_1).length:Int)
   rotate_left
   ·rw [if_neg c8] at H
    exact absurd H (by simp)
   rw [if_pos c8] at H
   have c8b0:decide (x8_1 < ((rd_L3 t256 x7_1).length:Int)) = true:=decide_eq_true c8
   (try simp only [hl259_0] at c8b0)
   (try simp only [hl264_0] at c8b0)
   (try simp only [hl266_0] at c8b0)
   clear c8
   by_cases c9:(rd (rd_L3 t256 x7_1) x8_1) > 0
   rotate_left
   ·rw [if_neg c9] at H
    have c9b0:decide (0 < (rd (rd_L3 t256 x7_1) x8_1)) = false:=decide_eq_false c9
    clear c9
    obtain rfl:=Option.some.inj H
    obtain⟨Ao30,co30,eo30⟩:=Kd.S_slice HO_5.out
    subst eo30
    have p259:0 ≤ (x7_1:Int):=of_decide_eq_true (by first|(with_reducible assumption)|assumption)
    have q259:x7_1 < (t256.length:Int):=of_decide_eq_true (by first|(with_reducible assumption)|assumption)
    obtain⟨ad259,A259_0,c259_0,e259,hx259_0,hl259_0,hi259_0⟩:=at_L3 (Kd.S_reads' HO_5.out).2.2 x7_1 p259 q259
    cases e259
    obtain⟨ce259,hce259,hMe259,hcc259⟩:=Kd.S_get HO_5.out [] x7_1 p259 (by first|exact q259|exact of_decide_eq_true (by first|(with_reducible assumption)|assumption)|(have e_:=(Kd.S_reads' HO_5.out).1;omega))
    obtain⟨ve259_0,rfl,ge259_0⟩:=hMe259
    have hv259_0:=hcc259 0 _ rfl
    rw [Nat.add_zero,show ((Kd.slice 3 (Kd.int .i64))).sz = 1 from rfl,Nat.mul_one] at hv259_0
    replace hv259_0:=Option.some.inj (hv259_0.symm.trans hx259_0)
    rw [hv259_0] at ge259_0
    have HL259_0:=mk0 (show Kd.R (Kd.int .i64) 3 _ _ _ _ (rd_L3 t256 x7_1) from ge259_0)
    clear hv259_0 ge259_0
    clear hcc259 hce259
    have HR259_0:=mk0 hi259_0
    have HC259_0:=mk0 hl259_0
    clear hi259_0 hl259_0
    replace p259:=eq_true p259
    replace q259:=eq_true q259
    have p260:0 ≤ (x8_1:Int):=of_decide_eq_true (by first|(with_reducible assumption)|assumption)
    have q260:x8_1 < ((rd_L3 t256 x7_1).length:Int):=of_decide_eq_true (by first|(with_reducible assumption)|assumption)
    obtain⟨ad260,e260,hx260_0⟩:=Kd.at_int (by repeat (first|(with_reducible exact HR259_0.out)|(with_reducible first|apply aC|apply nC|apply dC)|exact HR259_0.out)) x8_1 p260 q260
    cases e260
    replace p260:=eq_true p260
    replace q260:=eq_true q260
    go_wp2
    repeat (go_quiet (fail);try go_wp2)
    go_ret
    exact⟨_,by first|rfl|(simp [errW_none,errW_some] <;> rfl)|(simp [*,errW_none,errW_some] <;> rfl),by (with_reducible repeat (first|apply aR|apply nR|apply dR));exact HO_6.out,by repeat (first|(with_reducible first|exact HB.out|apply aZ|apply nZ|apply dZ)|exact HB.out)⟩
   rw [if_pos c9] at H
   have c9b0:decide (0 < (rd (rd_L3 t256 x7_1) x8_1)) = true:=decide_eq_true c9
   clear c9
   have c10b0:=eq_true (of_decide_eq_true (by first|(with_reducible assumption)|assumption):0 ≤ x8_1)
   by_cases c11:x8_1 ≤ (l1.length:Int)
   rotate_left
   ·rw [if_neg c11] at H
    exact absurd H (by simp)
   rw [if_pos c11] at H
   have c11b0:=eq_true c11
   have c11b1:decide (x8_1 ≤ (l1.length:Int)) = true:=decide_eq_true c11
   (try simp only [hl259_0] at c11b1)
   (try simp only [hl264_0] at c11b1)
   (try simp only [hl266_0] at c11b1)
   clear c11
   by_cases c12:x7_1 < (l0.length:Int)
   rotate_left
   ·rw [if_neg c12] at H
    exact absurd H (by simp)
   rw [if_pos c12] at H
   have c12b0:decide (x7_1 < (l0.length:Int)) = true:=decide_eq_true c12
   (try simp only [hl259_0] at c12b0)
   (try simp only [hl264_0] at c12b0)
   (try simp only [hl266_0] at c12b0)
   clear c12
   replace H:=Option.bind_eq_some_iff.mp H
   obtain⟨t263,A130,H⟩:=H
   replace H:(if t263 ≥ 0 then (if 0 ≤ (wrap64 (x7_1 + 1)) then (if (wrap64 (x7_1 + 1)) < (t256.length:Int) then (if 0 ≤ (wrap64 ((wrap64 (x8_1 + t263)) + 1)) then (if (wrap64 ((wrap64 (x8_1 + t263)) + 1)) < ((rd_L3 t256 (wrap64 (x7_1 + 1))).length:Int) then (if (wrap64 ((rd (rd_L3 t256 (wrap64 (x7_1 + 1))) (wrap64 ((wrap64 (x8_1 + t263)) + 1))) + 1)) = (rd (rd_L3 t256 x7_1) x8_1) then (if x6_1.length < 8796093022208 then (impl_commonOf.l0 k1 l0 l1 t256 (x6_1 ++ [(⟨x7_1,wrap64 (x8_1 + t263)⟩:S70)]) (wrap64 (x7_1 + 1)) (wrap64 (x8_1 + (wrap64 (t263 + 1))))) else (none)) else (impl_commonOf.l0 k1 l0 l1 t256 x6_1 (wrap64 (x7_1 + 1)) x8_1)) else (none)) else (none)) else (none)) else (none)) else (impl_commonOf.l0 k1 l0 l1 t256 x6_1 (wrap64 (x7_1 + 1)) x8_1)) = some r:=H
   have A13:=mk0 A130
   clear A130
   by_cases c14:t263 ≥ 0
   rotate_left
   ·rw [if_neg c14] at H
    have c14b0:decide (0 ≤ t263) = false:=decide_eq_false c14
    clear c14
    have H':=mk0 H
    clear H
    obtain⟨Ao28,co28,eo28⟩:=Kd.S_slice HO_5.out
    subst eo28
    have p259:0 ≤ (x7_1:Int):=of_decide_eq_true (by first|(with_reducible assumption)|assumption)
    have q259:x7_1 < (t256.length:Int):=of_decide_eq_true (by first|(with_reducible assumption)|assumption)
    obtain⟨ad259,A259_0,c259_0,e259,hx259_0,hl259_0,hi259_0⟩:=at_L3 (Kd.S_reads' HO_5.out).2.2 x7_1 p259 q259
    cases e259
    obtain⟨ce259,hce259,hMe259,hcc259⟩:=Kd.S_get HO_5.out [] x7_1 p259 (by first|exact q259|exact of_decide_eq_true (by first|(with_reducible assumption)|assumption)|(have e_:=(Kd.S_reads' HO_5.out).1;omega))
    obtain⟨ve259_0,rfl,ge259_0⟩:=hMe259
    have hv259_0:=hcc259 0 _ rfl
    rw [Nat.add_zero,show ((Kd.slice 3 (Kd.int .i64))).sz = 1 from rfl,Nat.mul_one] at hv259_0
    replace hv259_0:=Option.some.inj (hv259_0.symm.trans hx259_0)
    rw [hv259_0] at ge259_0
    have HL259_0:=mk0 (show Kd.R (Kd.int .i64) 3 _ _ _ _ (rd_L3 t256 x7_1) from ge259_0)
    clear hv259_0 ge259_0
    clear hcc259 hce259
    have HR259_0:=mk0 hi259_0
    have HC259_0:=mk0 hl259_0
    clear hi259_0 hl259_0
    replace p259:=eq_true p259
    replace q259:=eq_true q259
    have p260:0 ≤ (x8_1:Int):=of_decide_eq_true (by first|(with_reducible assumption)|assumption)
    have q260:x8_1 < ((rd_L3 t256 x7_1).length:Int):=of_decide_eq_true (by first|(with_reducible assumption)|assumption)
    obtain⟨ad260,e260,hx260_0⟩:=Kd.at_int (by repeat (first|(with_reducible exact HR259_0.out)|(with_reducible first|apply aC|apply nC|apply dC)|exact HR259_0.out)) x8_1 p260 q260
    cases e260
    replace p260:=eq_true p260
    replace q260:=eq_true q260
    obtain⟨i029,hi029,_,hsz29,_⟩:=info_parts info3
    obtain⟨A29,hcut29,hA29,hC29⟩:=print_drop_of (P:=Try.prog) (Value.int .i64) 0 22 3 .i64 Try.underlying22 hi029 hsz29 A1 c1 l1 x8_1 (of_decide_eq_true (by first|(with_reducible assumption)|assumption)) (of_decide_eq_true (by first|(with_reducible assumption)|assumption)) HC1.out
    have HR261:=mk0 (Kd.C_of_reads (h1:=fun _=>rfl) (hA29 _ (Kd.reads_of_C HR1.out)))
    have HC261:=mk0 hC29
    clear hA29 hC29 hi029 hsz29
    have p262:0 ≤ (x7_1:Int):=of_decide_eq_true (by first|(with_reducible assumption)|assumption)
    have q262:x7_1 < (l0.length:Int):=of_decide_eq_true (by first|(with_reducible assumption)|assumption)
    obtain⟨ad262,e262,hx262_0⟩:=Kd.at_int HR0.out x7_1 p262 q262
    cases e262
    replace hx262_0:=(HB.out.cell (World.block_lt_of_cell? w _ hx262_0)).trans hx262_0
    replace p262:=eq_true p262
    replace q262:=eq_true q262
    go_wp2_with (first|(go_at_call 49;refine calls_of_args (args':=#[.slice A29 (l1.drop (x8_1:Int).toNat).length (c1 - x8_1.toNat),.int .i64 (rd l0 x7_1)]) (by first|(rw [show (l1.drop (x8_1:Int).toNat).length = (l1.length - x8_1.toNat) from List.length_drop] <;> rfl)|rfl|(simp only [List.length_drop,List.length_take];rfl)) ?_;(with_reducible refine (slices_Index_int_int.calls k1 _ _ (l1.drop (x8_1:Int).toNat) (rd l0 x7_1) t263 _ ?side1 ?side2 A13.out).mono ?_);(case side1=>repeat (first|exact (Kd.C_below HR261.out HB.out)|(with_reducible first|apply aC|apply nC|apply dC)));(case side2=>exact HC261.out);rintro e w' ⟨rfl,⟨nd,rfl⟩⟩;(try first|exact⟨rfl,_,World.drewN_drewN _ _ _⟩|exact⟨rfl,_,Eq.trans (World.drewN_drewN _ _ _) (congrArg (World.drewN _) (Nat.add_assoc _ _ _))⟩)))
    repeat (go_quiet (first|(go_at_call 49;refine calls_of_args (args':=#[.slice A29 (l1.drop (x8_1:Int).toNat).length (c1 - x8_1.toNat),.int .i64 (rd l0 x7_1)]) (by first|(rw [show (l1.drop (x8_1:Int).toNat).length = (l1.length - x8_1.toNat) from List.length_drop] <;> rfl)|rfl|(simp only [List.length_drop,List.length_take];rfl)) ?_;(with_reducible refine (slices_Index_int_int.calls k1 _ _ (l1.drop (x8_1:Int).toNat) (rd l0 x7_1) t263 _ ?side1 ?side2 A13.out).mono ?_);(case side1=>repeat (first|exact (Kd.C_below HR261.out HB.out)|(with_reducible first|apply aC|apply nC|apply dC)));(case side2=>exact HC261.out);rintro e w' ⟨rfl,⟨nd,rfl⟩⟩;(try first|exact⟨rfl,_,World.drewN_drewN _ _ _⟩|exact⟨rfl,_,Eq.trans (World.drewN_drewN _ _ _) (congrArg (World.drewN _) (Nat.add_assoc _ _ _))⟩)));try go_wp2_with (first|(go_at_call 49;refine calls_of_args (args':=#[.slice A29 (l1.drop (x8_1:Int).toNat).length (c1 - x8_1.toNat),.int .i64 (rd l0 x7_1)]) (by first|(rw [show (l1.drop (x8_1:Int).toNat).length = (l1.length - x8_1.toNat) from List.length_drop] <;> rfl)|rfl|(simp only [List.length_drop,List.length_take];rfl)) ?_;(with_reducible refine (slices_Index_int_int.calls k1 _ _ (l1.drop (x8_1:Int).toNat) (rd l0 x7_1) t263 _ ?side1 ?side2 A13.out).mono ?_);(case side1=>repeat (first|exact (Kd.C_below HR261.out HB.out)|(with_reducible first|apply aC|apply nC|apply dC)));(case side2=>exact HC261.out);rintro e w' ⟨rfl,⟨nd,rfl⟩⟩;(try first|exact⟨rfl,_,World.drewN_drewN _ _ _⟩|exact⟨rfl,_,Eq.trans (World.drewN_drewN _ _ _) (congrArg (World.drewN _) (Nat.add_assoc _ _ _))⟩))))
    go_roundg k1
    case measure=>have:=HK1.out;omega
    case rel=>exact⟨(x6_1),(wrap64 (x7_1 + 1)),(x8_1),(by first|rfl|(simp;done)|(simp [*];done)),(by first|rfl|(simp;done)|(simp [*];done)),H',⟨by have:=HK1.out;omega⟩,⟨by (with_reducible repeat (first|apply aS|apply nS|apply dS));exact HO_5.out⟩,⟨by (with_reducible repeat (first|apply aR|apply nR|apply dR));exact HO_6.out⟩,⟨by repeat (first|(with_reducible first|exact HB.out|apply aZ|apply nZ|apply dZ)|exact HB.out)⟩⟩
   rw [if_pos c14] at H
   have c14b0:decide (0 ≤ t263) = true:=decide_eq_true c14
   clear c14
   obtain⟨ji15,hji15⟩:∃ j_:Int,(wrap64 (x7_1 + 1)) = j_:=⟨_,rfl⟩
   replace H:(if 0 ≤ (ji15) then (if (ji15) < (t256.length:Int) then (if 0 ≤ (wrap64 ((wrap64 (x8_1 + t263)) + 1)) then (if (wrap64 ((wrap64 (x8_1 + t263)) + 1)) < ((rd_L3 t256 (ji15)).length:Int) then (if (wrap64 ((rd (rd_L3 t256 (ji15)) (wrap64 ((wrap64 (x8_1 + t263)) + 1))) + 1)) = (rd (rd_L3 t256 x7_1) x8_1) then (if x6_1.length < 8796093022208 then (impl_commonOf.l0 k1 l0 l1 t256 (x6_1 ++ [(⟨x7_1,wrap64 (x8_1 + t263)⟩:S70)]) ji15 (wrap64 (x8_1 + (wrap64 (t263 + 1))))) else (none)) else (impl_commonOf.l0 k1 l0 l1 t256 x6_1 ji15 x8_1)) else (none)) else (none)) else (none)) else (none)) = some r:=by first|(rw [hji15] at H;exact H)|(simp only [hji15] at H ⊢;exact H)
   (try rw [hji15] at A13)
   have hji15w:(IntKind.i64.wrap (x7_1 + 1)) = ji15:=(i64_w _).trans hji15
   by_cases c16:0 ≤ (ji15)
   rotate_left
   ·rw [if_neg c16] at H
    exact absurd H (by simp)
   rw [if_pos c16] at H
   have c16b0:decide (0 ≤ (ji15)) = true:=decide_eq_true c16
   clear c16
   by_cases c17:(ji15) < (t256.length:Int)
   rotate_left
   ·rw [if_neg c17] at H
    exact absurd H (by simp)
   rw [if_pos c17] at H
   have c17b0:decide ((ji15) < (t256.length:Int)) = true:=decide_eq_true c17
   (try simp only [hl259_0] at c17b0)
   (try simp only [hl264_0] at c17b0)
   (try simp only [hl266_0] at c17b0)
   clear c17
   obtain⟨ji18,hji18⟩:∃ j_:Int,(wrap64 ((wrap64 (x8_1 + t263)) + 1)) = j_:=⟨_,rfl⟩
   replace H:(if 0 ≤ (ji18) then (if (ji18) < ((rd_L3 t256 (ji15)).length:Int) then (if (wrap64 ((rd (rd_L3 t256 (ji15)) (ji18)) + 1)) = (rd (rd_L3 t256 x7_1) x8_1) then (if x6_1.length < 8796093022208 then (impl_commonOf.l0 k1 l0 l1 t256 (x6_1 ++ [(⟨x7_1,wrap64 (x8_1 + t263)⟩:S70)]) ji15 (wrap64 (x8_1 + (wrap64 (t263 + 1))))) else (none)) else (impl_commonOf.l0 k1 l0 l1 t256 x6_1 ji15 x8_1)) else (none)) else (none)) = some r:=by first|(rw [hji18] at H;exact H)|(simp only [hji18] at H ⊢;exact H)
   (try rw [hji18] at A13)
   have hji18w:(IntKind.i64.wrap ((wrap64 (x8_1 + t263)) + 1)) = ji18:=(i64_w _).trans hji18
   by_cases c19:0 ≤ (ji18)
   rotate_left
   ·rw [if_neg c19] at H
    exact absurd H (by simp)
   rw [if_pos c19] at H
   have c19b0:decide (0 ≤ (ji18)) = true:=decide_eq_true c19
   clear c19
   by_cases c20:(ji18) < ((rd_L3 t256 (ji15)).length:Int)
   rotate_left
   ·rw [if_neg c20] at H
    exact absurd H (by simp)
   rw [if_pos c20] at H
   have c20b0:decide ((ji18) < ((rd_L3 t256 (ji15)).length:Int)) = true:=decide_eq_true c20
   (try simp only [hl259_0] at c20b0)
   (try simp only [hl264_0] at c20b0)
   (try simp only [hl266_0] at c20b0)
   clear c20
   by_cases c21:(wrap64 ((rd (rd_L3 t256 (ji15)) (ji18)) + 1)) = (rd (rd_L3 t256 x7_1) x8_1)
   rotate_left
   ·rw [if_neg c21] at H
    have c21b0:((wrap64 ((rd (rd_L3 t256 (ji15)) (ji18)) + 1)) == (rd (rd_L3 t256 x7_1) x8_1)) = false:=beq_eq_false_iff_ne.mpr c21
    have c21b1:((wrap64 ((rd (rd_L3 t256 (ji15)) (ji18)) + 1)) != (rd (rd_L3 t256 x7_1) x8_1)) = true:=bne_iff_ne.mpr c21
    have H':=mk0 H
    clear H
    obtain⟨Ao26,co26,eo26⟩:=Kd.S_slice HO_5.out
    subst eo26
    have p259:0 ≤ (x7_1:Int):=of_decide_eq_true (by first|(with_reducible assumption)|assumption)
    have q259:x7_1 < (t256.length:Int):=of_decide_eq_true (by first|(with_reducible assumption)|assumption)
    obtain⟨ad259,A259_0,c259_0,e259,hx259_0,hl259_0,hi259_0⟩:=at_L3 (Kd.S_reads' HO_5.out).2.2 x7_1 p259 q259
    cases e259
    obtain⟨ce259,hce259,hMe259,hcc259⟩:=Kd.S_get HO_5.out [] x7_1 p259 (by first|exact q259|exact of_decide_eq_true (by first|(with_reducible assumption)|assumption)|(have e_:=(Kd.S_reads' HO_5.out).1;omega))
    obtain⟨ve259_0,rfl,ge259_0⟩:=hMe259
    have hv259_0:=hcc259 0 _ rfl
    rw [Nat.add_zero,show ((Kd.slice 3 (Kd.int .i64))).sz = 1 from rfl,Nat.mul_one] at hv259_0
    replace hv259_0:=Option.some.inj (hv259_0.symm.trans hx259_0)
    rw [hv259_0] at ge259_0
    have HL259_0:=mk0 (show Kd.R (Kd.int .i64) 3 _ _ _ _ (rd_L3 t256 x7_1) from ge259_0)
    clear hv259_0 ge259_0
    clear hcc259 hce259
    have HR259_0:=mk0 hi259_0
    have HC259_0:=mk0 hl259_0
    clear hi259_0 hl259_0
    replace p259:=eq_true p259
    replace q259:=eq_true q259
    have p260:0 ≤ (x8_1:Int):=of_decide_eq_true (by first|(with_reducible assumption)|assumption)
    have q260:x8_1 < ((rd_L3 t256 x7_1).length:Int):=of_decide_eq_true (by first|(with_reducible assumption)|assumption)
    obtain⟨ad260,e260,hx260_0⟩:=Kd.at_int (by repeat (first|(with_reducible exact HR259_0.out)|(with_reducible first|apply aC|apply nC|apply dC)|exact HR259_0.out)) x8_1 p260 q260
    cases e260
    replace p260:=eq_true p260
    replace q260:=eq_true q260
    obtain⟨i027,hi027,_,hsz27,_⟩:=info_parts info3
    obtain⟨A27,hcut27,hA27,hC27⟩:=print_drop_of (P:=Try.prog) (Value.int .i64) 0 22 3 .i64 Try.underlying22 hi027 hsz27 A1 c1 l1 x8_1 (of_decide_eq_true (by first|(with_reducible assumption)|assumption)) (of_decide_eq_true (by first|(with_reducible assumption)|assumption)) HC1.out
    have HR261:=mk0 (Kd.C_of_reads (h1:=fun _=>rfl) (hA27 _ (Kd.reads_of_C HR1.out)))
    have HC261:=mk0 hC27
    clear hA27 hC27 hi027 hsz27
    have p262:0 ≤ (x7_1:Int):=of_decide_eq_true (by first|(with_reducible assumption)|assumption)
    have q262:x7_1 < (l0.length:Int):=of_decide_eq_true (by first|(with_reducible assumption)|assumption)
    obtain⟨ad262,e262,hx262_0⟩:=Kd.at_int HR0.out x7_1 p262 q262
    cases e262
    replace hx262_0:=(HB.out.cell (World.block_lt_of_cell? w _ hx262_0)).trans hx262_0
    replace p262:=eq_true p262
    replace q262:=eq_true q262
    go_wp2_with (first|(go_at_call 49;refine calls_of_args (args':=#[.slice A27 (l1.drop (x8_1:Int).toNat).length (c1 - x8_1.toNat),.int .i64 (rd l0 x7_1)]) (by first|(rw [show (l1.drop (x8_1:Int).toNat).length = (l1.length - x8_1.toNat) from List.length_drop] <;> rfl)|rfl|(simp only [List.length_drop,List.length_take];rfl)) ?_;(with_reducible refine (slices_Index_int_int.calls k1 _ _ (l1.drop (x8_1:Int).toNat) (rd l0 x7_1) t263 _ ?side1 ?side2 A13.out).mono ?_);(case side1=>repeat (first|exact (Kd.C_below HR261.out HB.out)|(with_reducible first|apply aC|apply nC|apply dC)));(case side2=>exact HC261.out);rintro e w' ⟨rfl,⟨nd,rfl⟩⟩;(try first|exact⟨rfl,_,World.drewN_drewN _ _ _⟩|exact⟨rfl,_,Eq.trans (World.drewN_drewN _ _ _) (congrArg (World.drewN _) (Nat.add_assoc _ _ _))⟩);have p264:0 ≤ ((ji15):Int):=of_decide_eq_true (by first|(with_reducible assumption)|assumption);have q264:(ji15) < (t256.length:Int):=of_decide_eq_true (by first|(with_reducible assumption)|assumption);obtain⟨ad264,A264_0,c264_0,e264,hx264_0,hl264_0,hi264_0⟩:=at_L3 (Kd.S_reads' HO_5.out).2.2 (ji15) p264 q264;obtain rfl:ad259 = ad264:=(by injection e264);obtain⟨ce264,hce264,hMe264,hcc264⟩:=Kd.S_get HO_5.out [] (ji15) p264 (by first|exact q264|exact of_decide_eq_true (by first|(with_reducible assumption)|assumption)|(have e_:=(Kd.S_reads' HO_5.out).1;omega));obtain⟨ve264_0,rfl,ge264_0⟩:=hMe264;have hv264_0:=hcc264 0 _ rfl;rw [Nat.add_zero,show ((Kd.slice 3 (Kd.int .i64))).sz = 1 from rfl,Nat.mul_one] at hv264_0;replace hv264_0:=Option.some.inj (hv264_0.symm.trans hx264_0);rw [hv264_0] at ge264_0;have HL264_0:=mk0 (show Kd.R (Kd.int .i64) 3 _ _ _ _ (rd_L3 t256 (ji15)) from ge264_0);clear hv264_0 ge264_0 hcc264 hce264;have HR264_0:=mk0 hi264_0;have HC264_0:=mk0 hl264_0;clear hi264_0 hl264_0;replace p264:=eq_true p264;replace q264:=eq_true q264;have p265:0 ≤ ((ji18):Int):=of_decide_eq_true (by first|(with_reducible assumption)|assumption);have q265:(ji18) < ((rd_L3 t256 (ji15)).length:Int):=of_decide_eq_true (by first|(with_reducible assumption)|assumption);obtain⟨ad265,e265,hx265_0⟩:=Kd.at_int (by repeat (first|(with_reducible exact HR264_0.out)|(with_reducible first|apply aC|apply nC|apply dC)|exact HR264_0.out)) (ji18) p265 q265;cases e265;replace p265:=eq_true p265;replace q265:=eq_true q265;have p266:0 ≤ (x7_1:Int):=of_decide_eq_true (by first|(with_reducible assumption)|assumption);have q266:x7_1 < (t256.length:Int):=of_decide_eq_true (by first|(with_reducible assumption)|assumption);obtain⟨ad266,A266_0,c266_0,e266,hx266_0,hl266_0,hi266_0⟩:=at_L3 (Kd.S_reads' HO_5.out).2.2 x7_1 p266 q266;obtain rfl:ad259 = ad266:=(by injection e266);obtain⟨ce266,hce266,hMe266,hcc266⟩:=Kd.S_get HO_5.out [] x7_1 p266 (by first|exact q266|exact of_decide_eq_true (by first|(with_reducible assumption)|assumption)|(have e_:=(Kd.S_reads' HO_5.out).1;omega));obtain⟨ve266_0,rfl,ge266_0⟩:=hMe266;have hv266_0:=hcc266 0 _ rfl;rw [Nat.add_zero,show ((Kd.slice 3 (Kd.int .i64))).sz = 1 from rfl,Nat.mul_one] at hv266_0;replace hv266_0:=Option.some.inj (hv266_0.symm.trans hx266_0);rw [hv266_0] at ge266_0;have HL266_0:=mk0 (show Kd.R (Kd.int .i64) 3 _ _ _ _ (rd_L3 t256 x7_1) from ge266_0);clear hv266_0 ge266_0 hcc266 hce266;have HR266_0:=mk0 hi266_0;have HC266_0:=mk0 hl266_0;clear hi266_0 hl266_0;replace p266:=eq_true p266;replace q266:=eq_true q266;have ea_:=Option.some.inj (hx259_0.symm.trans hx266_0);injection ea_ with ea_ en_ ec_;subst ea_;subst ec_;clear en_;have p267:0 ≤ (x8_1:Int):=of_decide_eq_true (by first|(with_reducible assumption)|assumption);have q267:x8_1 < ((rd_L3 t256 x7_1).length:Int):=of_decide_eq_true (by first|(with_reducible assumption)|assumption);obtain⟨ad267,e267,hx267_0⟩:=Kd.at_int (by repeat (first|(with_reducible exact HR266_0.out)|(with_reducible first|apply aC|apply nC|apply dC)|exact HR266_0.out)) x8_1 p267 q267;cases e267;replace p267:=eq_true p267;replace q267:=eq_true q267))
    repeat (go_quiet (first|(go_at_call 49;refine calls_of_args (args':=#[.slice A27 (l1.drop (x8_1:Int).toNat).length (c1 - x8_1.toNat),.int .i64 (rd l0 x7_1)]) (by first|(rw [show (l1.drop (x8_1:Int).toNat).length = (l1.length - x8_1.toNat) from List.length_drop] <;> rfl)|rfl|(simp only [List.length_drop,List.length_take];rfl)) ?_;(with_reducible refine (slices_Index_int_int.calls k1 _ _ (l1.drop (x8_1:Int).toNat) (rd l0 x7_1) t263 _ ?side1 ?side2 A13.out).mono ?_);(case side1=>repeat (first|exact (Kd.C_below HR261.out HB.out)|(with_reducible first|apply aC|apply nC|apply dC)));(case side2=>exact HC261.out);rintro e w' ⟨rfl,⟨nd,rfl⟩⟩;(try first|exact⟨rfl,_,World.drewN_drewN _ _ _⟩|exact⟨rfl,_,Eq.trans (World.drewN_drewN _ _ _) (congrArg (World.drewN _) (Nat.add_assoc _ _ _))⟩);have p264:0 ≤ ((ji15):Int):=of_decide_eq_true (by first|(with_reducible assumption)|assumption);have q264:(ji15) < (t256.length:Int):=of_decide_eq_true (by first|(with_reducible assumption)|assumption);obtain⟨ad264,A264_0,c264_0,e264,hx264_0,hl264_0,hi264_0⟩:=at_L3 (Kd.S_reads' HO_5.out).2.2 (ji15) p264 q264;obtain rfl:ad259 = ad264:=(by injection e264);obtain⟨ce264,hce264,hMe264,hcc264⟩:=Kd.S_get HO_5.out [] (ji15) p264 (by first|exact q264|exact of_decide_eq_true (by first|(with_reducible assumption)|assumption)|(have e_:=(Kd.S_reads' HO_5.out).1;omega));obtain⟨ve264_0,rfl,ge264_0⟩:=hMe264;have hv264_0:=hcc264 0 _ rfl;rw [Nat.add_zero,show ((Kd.slice 3 (Kd.int .i64))).sz = 1 from rfl,Nat.mul_one] at hv264_0;replace hv264_0:=Option.some.inj (hv264_0.symm.trans hx264_0);rw [hv264_0] at ge264_0;have HL264_0:=mk0 (show Kd.R (Kd.int .i64) 3 _ _ _ _ (rd_L3 t256 (ji15)) from ge264_0);clear hv264_0 ge264_0 hcc264 hce264;have HR264_0:=mk0 hi264_0;have HC264_0:=mk0 hl264_0;clear hi264_0 hl264_0;replace p264:=eq_true p264;replace q264:=eq_true q264;have p265:0 ≤ ((ji18):Int):=of_decide_eq_true (by first|(with_reducible assumption)|assumption);have q265:(ji18) < ((rd_L3 t256 (ji15)).length:Int):=of_decide_eq_true (by first|(with_reducible assumption)|assumption);obtain⟨ad265,e265,hx265_0⟩:=Kd.at_int (by repeat (first|(with_reducible exact HR264_0.out)|(with_reducible first|apply aC|apply nC|apply dC)|exact HR264_0.out)) (ji18) p265 q265;cases e265;replace p265:=eq_true p265;replace q265:=eq_true q265;have p266:0 ≤ (x7_1:Int):=of_decide_eq_true (by first|(with_reducible assumption)|assumption);have q266:x7_1 < (t256.length:Int):=of_decide_eq_true (by first|(with_reducible assumption)|assumption);obtain⟨ad266,A266_0,c266_0,e266,hx266_0,hl266_0,hi266_0⟩:=at_L3 (Kd.S_reads' HO_5.out).2.2 x7_1 p266 q266;obtain rfl:ad259 = ad266:=(by injection e266);obtain⟨ce266,hce266,hMe266,hcc266⟩:=Kd.S_get HO_5.out [] x7_1 p266 (by first|exact q266|exact of_decide_eq_true (by first|(with_reducible assumption)|assumption)|(have e_:=(Kd.S_reads' HO_5.out).1;omega));obtain⟨ve266_0,rfl,ge266_0⟩:=hMe266;have hv266_0:=hcc266 0 _ rfl;rw [Nat.add_zero,show ((Kd.slice 3 (Kd.int .i64))).sz = 1 from rfl,Nat.mul_one] at hv266_0;replace hv266_0:=Option.some.inj (hv266_0.symm.trans hx266_0);rw [hv266_0] at ge266_0;have HL266_0:=mk0 (show Kd.R (Kd.int .i64) 3 _ _ _ _ (rd_L3 t256 x7_1) from ge266_0);clear hv266_0 ge266_0 hcc266 hce266;have HR266_0:=mk0 hi266_0;have HC266_0:=mk0 hl266_0;clear hi266_0 hl266_0;replace p266:=eq_true p266;replace q266:=eq_true q266;have ea_:=Option.some.inj (hx259_0.symm.trans hx266_0);injection ea_ with ea_ en_ ec_;subst ea_;subst ec_;clear en_;have p267:0 ≤ (x8_1:Int):=of_decide_eq_true (by first|(with_reducible assumption)|assumption);have q267:x8_1 < ((rd_L3 t256 x7_1).length:Int):=of_decide_eq_true (by first|(with_reducible assumption)|assumption);obtain⟨ad267,e267,hx267_0⟩:=Kd.at_int (by repeat (first|(with_reducible exact HR266_0.out)|(with_reducible first|apply aC|apply nC|apply dC)|exact HR266_0.out)) x8_1 p267 q267;cases e267;replace p267:=eq_true p267;replace q267:=eq_true q267));try go_wp2_with (first|(go_at_call 49;refine calls_of_args (args':=#[.slice A27 (l1.drop (x8_1:Int).toNat).length (c1 - x8_1.toNat),.int .i64 (rd l0 x7_1)]) (by first|(rw [show (l1.drop (x8_1:Int).toNat).length = (l1.length - x8_1.toNat) from List.length_drop] <;> rfl)|rfl|(simp only [List.length_drop,List.length_take];rfl)) ?_;(with_reducible refine (slices_Index_int_int.calls k1 _ _ (l1.drop (x8_1:Int).toNat) (rd l0 x7_1) t263 _ ?side1 ?side2 A13.out).mono ?_);(case side1=>repeat (first|exact (Kd.C_below HR261.out HB.out)|(with_reducible first|apply aC|apply nC|apply dC)));(case side2=>exact HC261.out);rintro e w' ⟨rfl,⟨nd,rfl⟩⟩;(try first|exact⟨rfl,_,World.drewN_drewN _ _ _⟩|exact⟨rfl,_,Eq.trans (World.drewN_drewN _ _ _) (congrArg (World.drewN _) (Nat.add_assoc _ _ _))⟩);have p264:0 ≤ ((ji15):Int):=of_decide_eq_true (by first|(with_reducible assumption)|assumption);have q264:(ji15) < (t256.length:Int):=of_decide_eq_true (by first|(with_reducible assumption)|assumption);obtain⟨ad264,A264_0,c264_0,e264,hx264_0,hl264_0,hi264_0⟩:=at_L3 (Kd.S_reads' HO_5.out).2.2 (ji15) p264 q264;obtain rfl:ad259 = ad264:=(by injection e264);obtain⟨ce264,hce264,hMe264,hcc264⟩:=Kd.S_get HO_5.out [] (ji15) p264 (by first|exact q264|exact of_decide_eq_true (by first|(with_reducible assumption)|assumption)|(have e_:=(Kd.S_reads' HO_5.out).1;omega));obtain⟨ve264_0,rfl,ge264_0⟩:=hMe264;have hv264_0:=hcc264 0 _ rfl;rw [Nat.add_zero,show ((Kd.slice 3 (Kd.int .i64))).sz = 1 from rfl,Nat.mul_one] at hv264_0;replace hv264_0:=Option.some.inj (hv264_0.symm.trans hx264_0);rw [hv264_0] at ge264_0;have HL264_0:=mk0 (show Kd.R (Kd.int .i64) 3 _ _ _ _ (rd_L3 t256 (ji15)) from ge264_0);clear hv264_0 ge264_0 hcc264 hce264;have HR264_0:=mk0 hi264_0;have HC264_0:=mk0 hl264_0;clear hi264_0 hl264_0;replace p264:=eq_true p264;replace q264:=eq_true q264;have p265:0 ≤ ((ji18):Int):=of_decide_eq_true (by first|(with_reducible assumption)|assumption);have q265:(ji18) < ((rd_L3 t256 (ji15)).length:Int):=of_decide_eq_true (by first|(with_reducible assumption)|assumption);obtain⟨ad265,e265,hx265_0⟩:=Kd.at_int (by repeat (first|(with_reducible exact HR264_0.out)|(with_reducible first|apply aC|apply nC|apply dC)|exact HR264_0.out)) (ji18) p265 q265;cases e265;replace p265:=eq_true p265;replace q265:=eq_true q265;have p266:0 ≤ (x7_1:Int):=of_decide_eq_true (by first|(with_reducible assumption)|assumption);have q266:x7_1 < (t256.length:Int):=of_decide_eq_true (by first|(with_reducible assumption)|assumption);obtain⟨ad266,A266_0,c266_0,e266,hx266_0,hl266_0,hi266_0⟩:=at_L3 (Kd.S_reads' HO_5.out).2.2 x7_1 p266 q266;obtain rfl:ad259 = ad266:=(by injection e266);obtain⟨ce266,hce266,hMe266,hcc266⟩:=Kd.S_get HO_5.out [] x7_1 p266 (by first|exact q266|exact of_decide_eq_true (by first|(with_reducible assumption)|assumption)|(have e_:=(Kd.S_reads' HO_5.out).1;omega));obtain⟨ve266_0,rfl,ge266_0⟩:=hMe266;have hv266_0:=hcc266 0 _ rfl;rw [Nat.add_zero,show ((Kd.slice 3 (Kd.int .i64))).sz = 1 from rfl,Nat.mul_one] at hv266_0;replace hv266_0:=Option.some.inj (hv266_0.symm.trans hx266_0);rw [hv266_0] at ge266_0;have HL266_0:=mk0 (show Kd.R (Kd.int .i64) 3 _ _ _ _ (rd_L3 t256 x7_1) from ge266_0);clear hv266_0 ge266_0 hcc266 hce266;have HR266_0:=mk0 hi266_0;have HC266_0:=mk0 hl266_0;clear hi266_0 hl266_0;replace p266:=eq_true p266;replace q266:=eq_true q266;have ea_:=Option.some.inj (hx259_0.symm.trans hx266_0);injection ea_ with ea_ en_ ec_;subst ea_;subst ec_;clear en_;have p267:0 ≤ (x8_1:Int):=of_decide_eq_true (by first|(with_reducible assumption)|assumption);have q267:x8_1 < ((rd_L3 t256 x7_1).length:Int):=of_decide_eq_true (by first|(with_reducible assumption)|assumption);obtain⟨ad267,e267,hx267_0⟩:=Kd.at_int (by repeat (first|(with_reducible exact HR266_0.out)|(with_reducible first|apply aC|apply nC|apply dC)|exact HR266_0.out)) x8_1 p267 q267;cases e267;replace p267:=eq_true p267;replace q267:=eq_true q267)))
    go_roundg k1
    case measure=>have:=HK1.out;omega
    case rel=>exact⟨(x6_1),(ji15),(x8_1),(by first|rfl|(simp;done)|(simp only [← hji15] <;> (first|rfl|simp))|(simp [*];done)),(by first|rfl|(simp;done)|(simp [*];done)),H',⟨by have:=HK1.out;omega⟩,⟨by (with_reducible repeat (first|apply aS|apply nS|apply dS));exact HO_5.out⟩,⟨by (with_reducible repeat (first|apply aR|apply nR|apply dR));exact HO_6.out⟩,⟨by repeat (first|(with_reducible first|exact HB.out|apply aZ|apply nZ|apply dZ)|exact HB.out)⟩⟩
   rw [if_pos c21] at H
   have c21b0:((wrap64 ((rd (rd_L3 t256 (ji15)) (ji18)) + 1)) == (rd (rd_L3 t256 x7_1) x8_1)) = true:=beq_iff_eq.mpr c21
   have c21b1:((wrap64 ((rd (rd_L3 t256 (ji15)) (ji18)) + 1)) != (rd (rd_L3 t256 x7_1) x8_1)) = false:=bne_eq_false_iff_eq.mpr c21
   clear c21
   by_cases c22:x6_1.length < 8796093022208
   rotate_left
   ·rw [if_neg c22] at H
    exact absurd H (by simp)
   rw [if_pos c22] at H
   have LMc22:=mk0 c22
   clear c22
   obtain⟨y268,hy268⟩:∃ y_:List (S70),y_ = (x6_1 ++ [(⟨x7_1,wrap64 (x8_1 + t263)⟩:S70)]):=⟨_,rfl⟩
   replace H:(impl_commonOf.l0 k1 l0 l1 t256 y268 ji15 (wrap64 (x8_1 + (wrap64 (t263 + 1))))) = some r:=by first|(rw [hy268];with_reducible exact H)|(have H2_:=(Option.bind_some _ _).symm.trans H;rw [hy268];with_reducible exact H2_)|(have H2_:=(Option.bind_some _ _).symm.trans H;with_reducible exact H2_)|with_reducible exact H|(rw [hy268];exact H)|exact H
   have Ny268:=mk0 hy268
   clear hy268
   have H':=mk0 H
   clear H
   obtain⟨Ao23,co23,eo23⟩:=Kd.S_slice HO_5.out
   subst eo23
   have p259:0 ≤ (x7_1:Int):=of_decide_eq_true (by first|(with_reducible assumption)|assumption)
   have q259:x7_1 < (t256.length:Int):=of_decide_eq_true (by first|(with_reducible assumption)|assumption)
   obtain⟨ad259,A259_0,c259_0,e259,hx259_0,hl259_0,hi259_0⟩:=at_L3 (Kd.S_reads' HO_5.out).2.2 x7_1 p259 q259
   cases e259
   obtain⟨ce259,hce259,hMe259,hcc259⟩:=Kd.S_get HO_5.out [] x7_1 p259 (by first|exact q259|exact of_decide_eq_true (by first|(with_reducible assumption)|assumption)|(have e_:=(Kd.S_reads' HO_5.out).1;omega))
   obtain⟨ve259_0,rfl,ge259_0⟩:=hMe259
   have hv259_0:=hcc259 0 _ rfl
   rw [Nat.add_zero,show ((Kd.slice 3 (Kd.int .i64))).sz = 1 from rfl,Nat.mul_one] at hv259_0
   replace hv259_0:=Option.some.inj (hv259_0.symm.trans hx259_0)
   rw [hv259_0] at ge259_0
   have HL259_0:=mk0 (show Kd.R (Kd.int .i64) 3 _ _ _ _ (rd_L3 t256 x7_1) from ge259_0)
   clear hv259_0 ge259_0
   clear hcc259 hce259
   have HR259_0:=mk0 hi259_0
   have HC259_0:=mk0 hl259_0
   clear hi259_0 hl259_0
   replace p259:=eq_true p259
   replace q259:=eq_true q259
   have p260:0 ≤ (x8_1:Int):=of_decide_eq_true (by first|(with_reducible assumption)|assumption)
   have q260:x8_1 < ((rd_L3 t256 x7_1).length:Int):=of_decide_eq_true (by first|(with_reducible assumption)|assumption)
   obtain⟨ad260,e260,hx260_0⟩:=Kd.at_int (by repeat (first|(with_reducible exact HR259_0.out)|(with_reducible first|apply aC|apply nC|apply dC)|exact HR259_0.out)) x8_1 p260 q260
   cases e260
   replace p260:=eq_true p260
   replace q260:=eq_true q260
   obtain⟨i024,hi024,_,hsz24,_⟩:=info_parts info3
   obtain⟨A24,hcut24,hA24,hC24⟩:=print_drop_of (P:=Try.prog) (Value.int .i64) 0 22 3 .i64 Try.underlying22 hi024 hsz24 A1 c1 l1 x8_1 (of_decide_eq_true (by first|(with_reducible assumption)|assumption)) (of_decide_eq_true (by first|(with_reducible assumption)|assumption)) HC1.out
   have HR261:=mk0 (Kd.C_of_reads (h1:=fun _=>rfl) (hA24 _ (Kd.reads_of_C HR1.out)))
   have HC261:=mk0 hC24
   clear hA24 hC24 hi024 hsz24
   have p262:0 ≤ (x7_1:Int):=of_decide_eq_true (by first|(with_reducible assumption)|assumption)
   have q262:x7_1 < (l0.length:Int):=of_decide_eq_true (by first|(with_reducible assumption)|assumption)
   obtain⟨ad262,e262,hx262_0⟩:=Kd.at_int HR0.out x7_1 p262 q262
   cases e262
   replace hx262_0:=(HB.out.cell (World.block_lt_of_cell? w _ hx262_0)).trans hx262_0
   replace p262:=eq_true p262
   replace q262:=eq_true q262
   go_wp2_with (first|(go_at_call 49;refine calls_of_args (args':=#[.slice A24 (l1.drop (x8_1:Int).toNat).length (c1 - x8_1.toNat),.int .i64 (rd l0 x7_1)]) (by first|(rw [show (l1.drop (x8_1:Int).toNat).length = (l1.length - x8_1.toNat) from List.length_drop] <;> rfl)|rfl|(simp only [List.length_drop,List.length_take];rfl)) ?_;(with_reducible refine (slices_Index_int_int.calls k1 _ _ (l1.drop (x8_1:Int).toNat) (rd l0 x7_1) t263 _ ?side1 ?side2 A13.out).mono ?_);(case side1=>repeat (first|exact (Kd.C_below HR261.out HB.out)|(with_reducible first|apply aC|apply nC|apply dC)));(case side2=>exact HC261.out);rintro e w' ⟨rfl,⟨nd,rfl⟩⟩;(try first|exact⟨rfl,_,World.drewN_drewN _ _ _⟩|exact⟨rfl,_,Eq.trans (World.drewN_drewN _ _ _) (congrArg (World.drewN _) (Nat.add_assoc _ _ _))⟩);have p264:0 ≤ ((ji15):Int):=of_decide_eq_true (by first|(with_reducible assumption)|assumption);have q264:(ji15) < (t256.length:Int):=of_decide_eq_true (by first|(with_reducible assumption)|assumption);obtain⟨ad264,A264_0,c264_0,e264,hx264_0,hl264_0,hi264_0⟩:=at_L3 (Kd.S_reads' HO_5.out).2.2 (ji15) p264 q264;obtain rfl:ad259 = ad264:=(by injection e264);obtain⟨ce264,hce264,hMe264,hcc264⟩:=Kd.S_get HO_5.out [] (ji15) p264 (by first|exact q264|exact of_decide_eq_true (by first|(with_reducible assumption)|assumption)|(have e_:=(Kd.S_reads' HO_5.out).1;omega));obtain⟨ve264_0,rfl,ge264_0⟩:=hMe264;have hv264_0:=hcc264 0 _ rfl;rw [Nat.add_zero,show ((Kd.slice 3 (Kd.int .i64))).sz = 1 from rfl,Nat.mul_one] at hv264_0;replace hv264_0:=Option.some.inj (hv264_0.symm.trans hx264_0);rw [hv264_0] at ge264_0;have HL264_0:=mk0 (show Kd.R (Kd.int .i64) 3 _ _ _ _ (rd_L3 t256 (ji15)) from ge264_0);clear hv264_0 ge264_0 hcc264 hce264;have HR264_0:=mk0 hi264_0;have HC264_0:=mk0 hl264_0;clear hi264_0 hl264_0;replace p264:=eq_true p264;replace q264:=eq_true q264;have p265:0 ≤ ((ji18):Int):=of_decide_eq_true (by first|(with_reducible assumption)|assumption);have q265:(ji18) < ((rd_L3 t256 (ji15)).length:Int):=of_decide_eq_true (by first|(with_reducible assumption)|assumption);obtain⟨ad265,e265,hx265_0⟩:=Kd.at_int (by repeat (first|(with_reducible exact HR264_0.out)|(with_reducible first|apply aC|apply nC|apply dC)|exact HR264_0.out)) (ji18) p265 q265;cases e265;replace p265:=eq_true p265;replace q265:=eq_true q265;have p266:0 ≤ (x7_1:Int):=of_decide_eq_true (by first|(with_reducible assumption)|assumption);have q266:x7_1 < (t256.length:Int):=of_decide_eq_true (by first|(with_reducible assumption)|assumption);obtain⟨ad266,A266_0,c266_0,e266,hx266_0,hl266_0,hi266_0⟩:=at_L3 (Kd.S_reads' HO_5.out).2.2 x7_1 p266 q266;obtain rfl:ad259 = ad266:=(by injection e266);obtain⟨ce266,hce266,hMe266,hcc266⟩:=Kd.S_get HO_5.out [] x7_1 p266 (by first|exact q266|exact of_decide_eq_true (by first|(with_reducible assumption)|assumption)|(have e_:=(Kd.S_reads' HO_5.out).1;omega));obtain⟨ve266_0,rfl,ge266_0⟩:=hMe266;have hv266_0:=hcc266 0 _ rfl;rw [Nat.add_zero,show ((Kd.slice 3 (Kd.int .i64))).sz = 1 from rfl,Nat.mul_one] at hv266_0;replace hv266_0:=Option.some.inj (hv266_0.symm.trans hx266_0);rw [hv266_0] at ge266_0;have HL266_0:=mk0 (show Kd.R (Kd.int .i64) 3 _ _ _ _ (rd_L3 t256 x7_1) from ge266_0);clear hv266_0 ge266_0 hcc266 hce266;have HR266_0:=mk0 hi266_0;have HC266_0:=mk0 hl266_0;clear hi266_0 hl266_0;replace p266:=eq_true p266;replace q266:=eq_true q266;have ea_:=Option.some.inj (hx259_0.symm.trans hx266_0);injection ea_ with ea_ en_ ec_;subst ea_;subst ec_;clear en_;have p267:0 ≤ (x8_1:Int):=of_decide_eq_true (by first|(with_reducible assumption)|assumption);have q267:x8_1 < ((rd_L3 t256 x7_1).length:Int):=of_decide_eq_true (by first|(with_reducible assumption)|assumption);obtain⟨ad267,e267,hx267_0⟩:=Kd.at_int (by repeat (first|(with_reducible exact HR266_0.out)|(with_reducible first|apply aC|apply nC|apply dC)|exact HR266_0.out)) x8_1 p267 q267;cases e267;replace p267:=eq_true p267;replace q267:=eq_true q267)|((with_reducible refine gate_builtin (b:=.append) (xs:=#[.tmp 55,.tmp 61]) rfl ?_);at_builtin;refine Kd.R_append k70 (w0:=w) w.heap.size rfl (.tmp 55) (.tmp 61) 50 70 (.agg #[(.int .i64 0),(.int .i64 0)]) 16 rfl Try.underlying50 info70 rfl (by decide) (by omega) u6 x6_1 (⟨x7_1,wrap64 (x8_1 + t263)⟩:S70) [.int .i64 x7_1,.int .i64 (wrap64 (x8_1 + t263))] (fun _=>True) (fun _=>False) rfl rfl ?aP (fun _ hk=>hk.elim) ?aF ?aO ?aB ?aS ?aL ?_;(case aP=>exact k70_mkM _ _ _ (⟨x7_1,wrap64 (x8_1 + t263)⟩:S70));(case aB=>exact (by repeat (first|(with_reducible first|exact HB.out|apply aZ|apply nZ|apply dZ)|exact HB.out)));(case aF=>exact (fun _ _=>trivial));(case aO=>exact (by (with_reducible repeat (first|apply aR|apply nR|apply dR));exact HO_6.out));(case aS=>exact (below_size (by repeat (first|(with_reducible first|exact HB.out|apply aZ|apply nZ|apply dZ)|exact HB.out))));(case aL=>have:=LMc22.out;omega);intro v269 w25 ho hb hg hat;rw [← Ny268.out] at ho;have n0_:=mk0 (Kd.S_over' (by (with_reducible repeat (first|apply aS|apply nS|apply dS));exact HO_5.out) (Kd.R_typed (by (with_reducible repeat (first|apply aR|apply nR|apply dR));exact HO_6.out)) (by decide) hg);have n1_:=mk0 (Kd.R_over' (by (with_reducible repeat (first|apply aR|apply nR|apply dR));exact HL259_0.out) (Kd.R_typed (by (with_reducible repeat (first|apply aR|apply nR|apply dR));exact HO_6.out)) (by decide) hg);have n2_:=mk0 (Kd.R_over' (by (with_reducible repeat (first|apply aR|apply nR|apply dR));exact HL264_0.out) (Kd.R_typed (by (with_reducible repeat (first|apply aR|apply nR|apply dR));exact HO_6.out)) (by decide) hg);have n3_:=mk0 (Kd.R_over' (by (with_reducible repeat (first|apply aR|apply nR|apply dR));exact HL266_0.out) (Kd.R_typed (by (with_reducible repeat (first|apply aR|apply nR|apply dR));exact HO_6.out)) (by decide) hg);have n4_:=mk0 (hb);have n5_:=mk0 (ho);clear HO_5 HL259_0 HL264_0 HL266_0 HB HO_6;have HO_5:=n0_;have HL259_0:=n1_;have HL264_0:=n2_;have HL266_0:=n3_;have HB:=n4_;have HO270:=n5_;clear n0_ n1_ n2_ n3_ n4_ n5_ ho hb hg hat))
   repeat (go_quiet (first|(go_at_call 49;refine calls_of_args (args':=#[.slice A24 (l1.drop (x8_1:Int).toNat).length (c1 - x8_1.toNat),.int .i64 (rd l0 x7_1)]) (by first|(rw [show (l1.drop (x8_1:Int).toNat).length = (l1.length - x8_1.toNat) from List.length_drop] <;> rfl)|rfl|(simp only [List.length_drop,List.length_take];rfl)) ?_;(with_reducible refine (slices_Index_int_int.calls k1 _ _ (l1.drop (x8_1:Int).toNat) (rd l0 x7_1) t263 _ ?side1 ?side2 A13.out).mono ?_);(case side1=>repeat (first|exact (Kd.C_below HR261.out HB.out)|(with_reducible first|apply aC|apply nC|apply dC)));(case side2=>exact HC261.out);rintro e w' ⟨rfl,⟨nd,rfl⟩⟩;(try first|exact⟨rfl,_,World.drewN_drewN _ _ _⟩|exact⟨rfl,_,Eq.trans (World.drewN_drewN _ _ _) (congrArg (World.drewN _) (Nat.add_assoc _ _ _))⟩);have p264:0 ≤ ((ji15):Int):=of_decide_eq_true (by first|(with_reducible assumption)|assumption);have q264:(ji15) < (t256.length:Int):=of_decide_eq_true (by first|(with_reducible assumption)|assumption);obtain⟨ad264,A264_0,c264_0,e264,hx264_0,hl264_0,hi264_0⟩:=at_L3 (Kd.S_reads' HO_5.out).2.2 (ji15) p264 q264;obtain rfl:ad259 = ad264:=(by injection e264);obtain⟨ce264,hce264,hMe264,hcc264⟩:=Kd.S_get HO_5.out [] (ji15) p264 (by first|exact q264|exact of_decide_eq_true (by first|(with_reducible assumption)|assumption)|(have e_:=(Kd.S_reads' HO_5.out).1;omega));obtain⟨ve264_0,rfl,ge264_0⟩:=hMe264;have hv264_0:=hcc264 0 _ rfl;rw [Nat.add_zero,show ((Kd.slice 3 (Kd.int .i64))).sz = 1 from rfl,Nat.mul_one] at hv264_0;replace hv264_0:=Option.some.inj (hv264_0.symm.trans hx264_0);rw [hv264_0] at ge264_0;have HL264_0:=mk0 (show Kd.R (Kd.int .i64) 3 _ _ _ _ (rd_L3 t256 (ji15)) from ge264_0);clear hv264_0 ge264_0 hcc264 hce264;have HR264_0:=mk0 hi264_0;have HC264_0:=mk0 hl264_0;clear hi264_0 hl264_0;replace p264:=eq_true p264;replace q264:=eq_true q264;have p265:0 ≤ ((ji18):Int):=of_decide_eq_true (by first|(with_reducible assumption)|assumption);have q265:(ji18) < ((rd_L3 t256 (ji15)).length:Int):=of_decide_eq_true (by first|(with_reducible assumption)|assumption);obtain⟨ad265,e265,hx265_0⟩:=Kd.at_int (by repeat (first|(with_reducible exact HR264_0.out)|(with_reducible first|apply aC|apply nC|apply dC)|exact HR264_0.out)) (ji18) p265 q265;cases e265;replace p265:=eq_true p265;replace q265:=eq_true q265;have p266:0 ≤ (x7_1:Int):=of_decide_eq_true (by first|(with_reducible assumption)|assumption);have q266:x7_1 < (t256.length:Int):=of_decide_eq_true (by first|(with_reducible assumption)|assumption);obtain⟨ad266,A266_0,c266_0,e266,hx266_0,hl266_0,hi266_0⟩:=at_L3 (Kd.S_reads' HO_5.out).2.2 x7_1 p266 q266;obtain rfl:ad259 = ad266:=(by injection e266);obtain⟨ce266,hce266,hMe266,hcc266⟩:=Kd.S_get HO_5.out [] x7_1 p266 (by first|exact q266|exact of_decide_eq_true (by first|(with_reducible assumption)|assumption)|(have e_:=(Kd.S_reads' HO_5.out).1;omega));obtain⟨ve266_0,rfl,ge266_0⟩:=hMe266;have hv266_0:=hcc266 0 _ rfl;rw [Nat.add_zero,show ((Kd.slice 3 (Kd.int .i64))).sz = 1 from rfl,Nat.mul_one] at hv266_0;replace hv266_0:=Option.some.inj (hv266_0.symm.trans hx266_0);rw [hv266_0] at ge266_0;have HL266_0:=mk0 (show Kd.R (Kd.int .i64) 3 _ _ _ _ (rd_L3 t256 x7_1) from ge266_0);clear hv266_0 ge266_0 hcc266 hce266;have HR266_0:=mk0 hi266_0;have HC266_0:=mk0 hl266_0;clear hi266_0 hl266_0;replace p266:=eq_true p266;replace q266:=eq_true q266;have ea_:=Option.some.inj (hx259_0.symm.trans hx266_0);injection ea_ with ea_ en_ ec_;subst ea_;subst ec_;clear en_;have p267:0 ≤ (x8_1:Int):=of_decide_eq_true (by first|(with_reducible assumption)|assumption);have q267:x8_1 < ((rd_L3 t256 x7_1).length:Int):=of_decide_eq_true (by first|(with_reducible assumption)|assumption);obtain⟨ad267,e267,hx267_0⟩:=Kd.at_int (by repeat (first|(with_reducible exact HR266_0.out)|(with_reducible first|apply aC|apply nC|apply dC)|exact HR266_0.out)) x8_1 p267 q267;cases e267;replace p267:=eq_true p267;replace q267:=eq_true q267)|((with_reducible refine gate_builtin (b:=.append) (xs:=#[.tmp 55,.tmp 61]) rfl ?_);at_builtin;refine Kd.R_append k70 (w0:=w) w.heap.size rfl (.tmp 55) (.tmp 61) 50 70 (.agg #[(.int .i64 0),(.int .i64 0)]) 16 rfl Try.underlying50 info70 rfl (by decide) (by omega) u6 x6_1 (⟨x7_1,wrap64 (x8_1 + t263)⟩:S70) [.int .i64 x7_1,.int .i64 (wrap64 (x8_1 + t263))] (fun _=>True) (fun _=>False) rfl rfl ?aP (fun _ hk=>hk.elim) ?aF ?aO ?aB ?aS ?aL ?_;(case aP=>exact k70_mkM _ _ _ (⟨x7_1,wrap64 (x8_1 + t263)⟩:S70));(case aB=>exact (by repeat (first|(with_reducible first|exact HB.out|apply aZ|apply nZ|apply dZ)|exact HB.out)));(case aF=>exact (fun _ _=>trivial));(case aO=>exact (by (with_reducible repeat (first|apply aR|apply nR|apply dR));exact HO_6.out));(case aS=>exact (below_size (by repeat (first|(with_reducible first|exact HB.out|apply aZ|apply nZ|apply dZ)|exact HB.out))));(case aL=>have:=LMc22.out;omega);intro v269 w25 ho hb hg hat;rw [← Ny268.out] at ho;have n0_:=mk0 (Kd.S_over' (by (with_reducible repeat (first|apply aS|apply nS|apply dS));exact HO_5.out) (Kd.R_typed (by (with_reducible repeat (first|apply aR|apply nR|apply dR));exact HO_6.out)) (by decide) hg);have n1_:=mk0 (Kd.R_over' (by (with_reducible repeat (first|apply aR|apply nR|apply dR));exact HL259_0.out) (Kd.R_typed (by (with_reducible repeat (first|apply aR|apply nR|apply dR));exact HO_6.out)) (by decide) hg);have n2_:=mk0 (Kd.R_over' (by (with_reducible repeat (first|apply aR|apply nR|apply dR));exact HL264_0.out) (Kd.R_typed (by (with_reducible repeat (first|apply aR|apply nR|apply dR));exact HO_6.out)) (by decide) hg);have n3_:=mk0 (Kd.R_over' (by (with_reducible repeat (first|apply aR|apply nR|apply dR));exact HL266_0.out) (Kd.R_typed (by (with_reducible repeat (first|apply aR|apply nR|apply dR));exact HO_6.out)) (by decide) hg);have n4_:=mk0 (hb);have n5_:=mk0 (ho);clear HO_5 HL259_0 HL264_0 HL266_0 HB HO_6;have HO_5:=n0_;have HL259_0:=n1_;have HL264_0:=n2_;have HL266_0:=n3_;have HB:=n4_;have HO270:=n5_;clear n0_ n1_ n2_ n3_ n4_ n5_ ho hb hg hat));try go_wp2_with (first|(go_at_call 49;refine calls_of_args (args':=#[.slice A24 (l1.drop (x8_1:Int).toNat).length (c1 - x8_1.toNat),.int .i64 (rd l0 x7_1)]) (by first|(rw [show (l1.drop (x8_1:Int).toNat).length = (l1.length - x8_1.toNat) from List.length_drop] <;> rfl)|rfl|(simp only [List.length_drop,List.length_take];rfl)) ?_;(with_reducible refine (slices_Index_int_int.calls k1 _ _ (l1.drop (x8_1:Int).toNat) (rd l0 x7_1) t263 _ ?side1 ?side2 A13.out).mono ?_);(case side1=>repeat (first|exact (Kd.C_below HR261.out HB.out)|(with_reducible first|apply aC|apply nC|apply dC)));(case side2=>exact HC261.out);rintro e w' ⟨rfl,⟨nd,rfl⟩⟩;(try first|exact⟨rfl,_,World.drewN_drewN _ _ _⟩|exact⟨rfl,_,Eq.trans (World.drewN_drewN _ _ _) (congrArg (World.drewN _) (Nat.add_assoc _ _ _))⟩);have p264:0 ≤ ((ji15):Int):=of_decide_eq_true (by first|(with_reducible assumption)|assumption);have q264:(ji15) < (t256.length:Int):=of_decide_eq_true (by first|(with_reducible assumption)|assumption);obtain⟨ad264,A264_0,c264_0,e264,hx264_0,hl264_0,hi264_0⟩:=at_L3 (Kd.S_reads' HO_5.out).2.2 (ji15) p264 q264;obtain rfl:ad259 = ad264:=(by injection e264);obtain⟨ce264,hce264,hMe264,hcc264⟩:=Kd.S_get HO_5.out [] (ji15) p264 (by first|exact q264|exact of_decide_eq_true (by first|(with_reducible assumption)|assumption)|(have e_:=(Kd.S_reads' HO_5.out).1;omega));obtain⟨ve264_0,rfl,ge264_0⟩:=hMe264;have hv264_0:=hcc264 0 _ rfl;rw [Nat.add_zero,show ((Kd.slice 3 (Kd.int .i64))).sz = 1 from rfl,Nat.mul_one] at hv264_0;replace hv264_0:=Option.some.inj (hv264_0.symm.trans hx264_0);rw [hv264_0] at ge264_0;have HL264_0:=mk0 (show Kd.R (Kd.int .i64) 3 _ _ _ _ (rd_L3 t256 (ji15)) from ge264_0);clear hv264_0 ge264_0 hcc264 hce264;have HR264_0:=mk0 hi264_0;have HC264_0:=mk0 hl264_0;clear hi264_0 hl264_0;replace p264:=eq_true p264;replace q264:=eq_true q264;have p265:0 ≤ ((ji18):Int):=of_decide_eq_true (by first|(with_reducible assumption)|assumption);have q265:(ji18) < ((rd_L3 t256 (ji15)).length:Int):=of_decide_eq_true (by first|(with_reducible assumption)|assumption);obtain⟨ad265,e265,hx265_0⟩:=Kd.at_int (by repeat (first|(with_reducible exact HR264_0.out)|(with_reducible first|apply aC|apply nC|apply dC)|exact HR264_0.out)) (ji18) p265 q265;cases e265;replace p265:=eq_true p265;replace q265:=eq_true q265;have p266:0 ≤ (x7_1:Int):=of_decide_eq_true (by first|(with_reducible assumption)|assumption);have q266:x7_1 < (t256.length:Int):=of_decide_eq_true (by first|(with_reducible assumption)|assumption);obtain⟨ad266,A266_0,c266_0,e266,hx266_0,hl266_0,hi266_0⟩:=at_L3 (Kd.S_reads' HO_5.out).2.2 x7_1 p266 q266;obtain rfl:ad259 = ad266:=(by injection e266);obtain⟨ce266,hce266,hMe266,hcc266⟩:=Kd.S_get HO_5.out [] x7_1 p266 (by first|exact q266|exact of_decide_eq_true (by first|(with_reducible assumption)|assumption)|(have e_:=(Kd.S_reads' HO_5.out).1;omega));obtain⟨ve266_0,rfl,ge266_0⟩:=hMe266;have hv266_0:=hcc266 0 _ rfl;rw [Nat.add_zero,show ((Kd.slice 3 (Kd.int .i64))).sz = 1 from rfl,Nat.mul_one] at hv266_0;replace hv266_0:=Option.some.inj (hv266_0.symm.trans hx266_0);rw [hv266_0] at ge266_0;have HL266_0:=mk0 (show Kd.R (Kd.int .i64) 3 _ _ _ _ (rd_L3 t256 x7_1) from ge266_0);clear hv266_0 ge266_0 hcc266 hce266;have HR266_0:=mk0 hi266_0;have HC266_0:=mk0 hl266_0;clear hi266_0 hl266_0;replace p266:=eq_true p266;replace q266:=eq_true q266;have ea_:=Option.some.inj (hx259_0.symm.trans hx266_0);injection ea_ with ea_ en_ ec_;subst ea_;subst ec_;clear en_;have p267:0 ≤ (x8_1:Int):=of_decide_eq_true (by first|(with_reducible assumption)|assumption);have q267:x8_1 < ((rd_L3 t256 x7_1).length:Int):=of_decide_eq_true (by first|(with_reducible assumption)|assumption);obtain⟨ad267,e267,hx267_0⟩:=Kd.at_int (by repeat (first|(with_reducible exact HR266_0.out)|(with_reducible first|apply aC|apply nC|apply dC)|exact HR266_0.out)) x8_1 p267 q267;cases e267;replace p267:=eq_true p267;replace q267:=eq_true q267)|((with_reducible refine gate_builtin (b:=.append) (xs:=#[.tmp 55,.tmp 61]) rfl ?_);at_builtin;refine Kd.R_append k70 (w0:=w) w.heap.size rfl (.tmp 55) (.tmp 61) 50 70 (.agg #[(.int .i64 0),(.int .i64 0)]) 16 rfl Try.underlying50 info70 rfl (by decide) (by omega) u6 x6_1 (⟨x7_1,wrap64 (x8_1 + t263)⟩:S70) [.int .i64 x7_1,.int .i64 (wrap64 (x8_1 + t263))] (fun _=>True) (fun _=>False) rfl rfl ?aP (fun _ hk=>hk.elim) ?aF ?aO ?aB ?aS ?aL ?_;(case aP=>exact k70_mkM _ _ _ (⟨x7_1,wrap64 (x8_1 + t263)⟩:S70));(case aB=>exact (by repeat (first|(with_reducible first|exact HB.out|apply aZ|apply nZ|apply dZ)|exact HB.out)));(case aF=>exact (fun _ _=>trivial));(case aO=>exact (by (with_reducible repeat (first|apply aR|apply nR|apply dR));exact HO_6.out));(case aS=>exact (below_size (by repeat (first|(with_reducible first|exact HB.out|apply aZ|apply nZ|apply dZ)|exact HB.out))));(case aL=>have:=LMc22.out;omega);intro v269 w25 ho hb hg hat;rw [← Ny268.out] at ho;have n0_:=mk0 (Kd.S_over' (by (with_reducible repeat (first|apply aS|apply nS|apply dS));exact HO_5.out) (Kd.R_typed (by (with_reducible repeat (first|apply aR|apply nR|apply dR));exact HO_6.out)) (by decide) hg);have n1_:=mk0 (Kd.R_over' (by (with_reducible repeat (first|apply aR|apply nR|apply dR));exact HL259_0.out) (Kd.R_typed (by (with_reducible repeat (first|apply aR|apply nR|apply dR));exact HO_6.out)) (by decide) hg);have n2_:=mk0 (Kd.R_over' (by (with_reducible repeat (first|apply aR|apply nR|apply dR));exact HL264_0.out) (Kd.R_typed (by (with_reducible repeat (first|apply aR|apply nR|apply dR));exact HO_6.out)) (by decide) hg);have n3_:=mk0 (Kd.R_over' (by (with_reducible repeat (first|apply aR|apply nR|apply dR));exact HL266_0.out) (Kd.R_typed (by (with_reducible repeat (first|apply aR|apply nR|apply dR));exact HO_6.out)) (by decide) hg);have n4_:=mk0 (hb);have n5_:=mk0 (ho);clear HO_5 HL259_0 HL264_0 HL266_0 HB HO_6;have HO_5:=n0_;have HL259_0:=n1_;have HL264_0:=n2_;have HL266_0:=n3_;have HB:=n4_;have HO270:=n5_;clear n0_ n1_ n2_ n3_ n4_ n5_ ho hb hg hat)))
   go_roundg k1
   case measure=>have:=HK1.out;omega
   case rel=>exact⟨(y268),(ji15),(wrap64 (x8_1 + (wrap64 (t263 + 1)))),(by first|rfl|(simp;done)|(simp only [← hji15] <;> (first|rfl|simp))|(simp [*];done)),(by first|rfl|(simp;done)|(simp [*];done)),H',⟨by have:=HK1.out;omega⟩,⟨by (with_reducible repeat (first|apply aS|apply nS|apply dS));exact HO_5.out⟩,⟨by (with_reducible repeat (first|apply aR|apply nR|apply dR));exact HO270.out⟩,⟨by repeat (first|(with_reducible first|exact HB.out|apply aZ|apply nZ|apply dZ)|exact HB.out)⟩⟩
/-! ### impl_Bits_at: function 50 -/
def impl_Bits_at.f (a0_0 : Int) (l0_1 : List Int) (a1 : Int) : Option (Int) := if 0 ≤ (wrap64 (Int.tdiv a1 64)) then (if (wrap64 (Int.tdiv a1 64)) < (l0_1.length : Int) then (if 0 ≤ (Int.tmod a1 64) then (some (wrap64 (Go.bits .and .u64 (shr .u64 (rd l0_1 (wrap64 (Int.tdiv a1 64))) (Int.tmod a1 64)) 1))) else (none)) else (none)) else (none)
set_option maxHeartbeats 8000000 in
set_option maxRecDepth 100000 in
theorem impl_Bits_at.calls (a0_0 : Int) (A0_1 : Option Addr) (c0_1 : Nat) (l0_1 : List Int) (a1 : Int) (r : Int) (w : World) (hr0_1 : Kd.C (Kd.int .u64) w A0_1 l0_1.length l0_1) (hc0_1 : l0_1.length ≤ c0_1) (h : impl_Bits_at.f a0_0 l0_1 a1 = some r) :
  Calls Try.prog 50 #[.agg #[.int .i64 a0_0, .slice A0_1 l0_1.length c0_1], .int .i64 a1] w fun e w' => e = .returned (.int .i64 r) ∧ Below w.heap.size w w' := by
 have hu25:=Try.underlying25
 have HR0_1:=mk0 hr0_1
 have HC0_1:=mk0 hc0_1
 clear hr0_1 hc0_1
 have HB:=mk0 (Below.refl w.heap.size w)
 have H:(if 0 ≤ (wrap64 (Int.tdiv a1 64)) then (if (wrap64 (Int.tdiv a1 64)) < (l0_1.length:Int) then (if 0 ≤ (Int.tmod a1 64) then (some (wrap64 (Go.bits .and .u64 (shr .u64 (rd l0_1 (wrap64 (Int.tdiv a1 64))) (Int.tmod a1 64)) 1))) else (none)) else (none)) else (none)) = some r:=h
 clear h
 obtain⟨ji3,hji3⟩:∃ j_:Int,(wrap64 (Int.tdiv a1 64)) = j_:=⟨_,rfl⟩
 replace H:(if 0 ≤ (ji3) then (if (ji3) < (l0_1.length:Int) then (if 0 ≤ (Int.tmod a1 64) then (some (wrap64 (Go.bits .and .u64 (shr .u64 (rd l0_1 (ji3)) (Int.tmod a1 64)) 1))) else (none)) else (none)) else (none)) = some r:=by first|(rw [hji3] at H;exact H)|(simp only [hji3] at H ⊢;exact H)
 have hji3w:(IntKind.i64.wrap (Int.tdiv a1 64)) = ji3:=(i64_w _).trans hji3
 by_cases c4:0 ≤ (ji3)
 ·rw [if_pos c4] at H
  have c4b0:decide (0 ≤ (ji3)) = true:=decide_eq_true c4
  clear c4
  by_cases c5:(ji3) < (l0_1.length:Int)
  ·rw [if_pos c5] at H
   have c5b0:decide ((ji3) < (l0_1.length:Int)) = true:=decide_eq_true c5
   clear c5
   obtain⟨ji6,hji6⟩:∃ j_:Int,(Int.tmod a1 64) = j_:=⟨_,rfl⟩
   replace H:(if 0 ≤ (ji6) then (some (wrap64 (Go.bits .and .u64 (shr .u64 (rd l0_1 (ji3)) (ji6)) 1))) else (none)) = some r:=by first|(rw [hji6] at H;exact H)|(simp only [hji6] at H ⊢;exact H)
   by_cases c7:0 ≤ (ji6)
   ·rw [if_pos c7] at H
    have c7b0:=eq_true c7
    have c7b1:decide (0 ≤ (ji6)) = true:=decide_eq_true c7
    clear c7
    obtain⟨ji8,hji8⟩:∃ j_:Int,(shr .u64 (rd l0_1 (ji3)) (ji6)) = j_:=⟨_,rfl⟩
    replace H:(some (wrap64 (Go.bits .and .u64 (ji8) 1))) = some r:=by first|(rw [hji8] at H;exact H)|(simp only [hji8] at H ⊢;exact H)
    have hji8_:((rd l0_1 (ji3)) / 2 ^ min (ji6).toNat 64) = ji8:=hji8
    have hji8z:(ji6) ≤ 64 → ((rd l0_1 (ji3)) / 2 ^ (ji6).toNat) = ji8:=shr_small hji8
    obtain rfl:=Option.some.inj H
    go_enter Try.func50,Try.ntmps50
    go_wp2_with (first|((with_reducible refine gate_dst (N:=2) rfl ?_);refine box_event ?hg (N:=2) ?hd (cs:=#[.int .i64 a0_0,.slice A0_1 l0_1.length c0_1]) (t:=25) ?hr ?_;(case hd=>rfl);(case hg=>rfl);(case hr=>first|(go_simp;done)|(go_simp;rfl));intro gb271 hg w9 hbox hb;have n0_:=mk0 (below_step (by repeat (first|(with_reducible first|exact HB.out|apply aZ|apply nZ|apply dZ)|exact HB.out)) hb);have n1_:=mk0 (hbox);have n2_:=mk0 ((by rw [hg];exact (below_size (by repeat (first|(with_reducible first|exact HB.out|apply aZ|apply nZ|apply dZ)|exact HB.out))):w.heap.size ≤ gb271));have n3_:=mk0 ((by rw [hg];exact (below_size (by repeat (first|(with_reducible first|exact HB.out|apply aZ|apply nZ|apply dZ)|exact HB.out))):w.heap.size ≤ gb271));clear HB;have HB:=n0_;have BK271:=n1_;have GW271:=n2_;have GE271:=n3_;clear n0_ n1_ n2_ n3_ hb hbox hg;have hcz10_0:w9.cell? ⟨gb271,0,none⟩ = some (.int .i64 a0_0):=(blk_cell BK271.out 0).trans rfl;have hcz10_1:w9.cell? ⟨gb271,1,none⟩ = some (.slice A0_1 l0_1.length c0_1):=(blk_cell BK271.out 1).trans rfl;have hfz10_0:=blk_frozen BK271.out 0;have hfz10_1:=blk_frozen BK271.out 1;have p272:0 ≤ ((ji3):Int):=of_decide_eq_true (by first|(with_reducible assumption)|assumption);have q272:(ji3) < (l0_1.length:Int):=of_decide_eq_true (by first|(with_reducible assumption)|assumption);obtain⟨ad272,e272,hx272_0⟩:=Kd.at_int HR0_1.out (ji3) p272 q272;cases e272;replace hx272_0:=(HB.out.cell (World.block_lt_of_cell? w _ hx272_0)).trans hx272_0;replace p272:=eq_true p272;replace q272:=eq_true q272))
    go_ret
    exact⟨by first|rfl|(simp [errW_none,errW_some] <;> rfl)|(simp only [← hji3, ← hji6, ← hji8];first|rfl|(simp [errW_none,errW_some] <;> rfl))|(simp [*,errW_none,errW_some] <;> rfl),by repeat (first|(with_reducible first|exact HB.out|apply aZ|apply nZ|apply dZ|refine sZ ?_ GE271.out)|exact HB.out)⟩
   ·rw [if_neg c7] at H
    exact absurd H (by simp)
  ·rw [if_neg c5] at H
   exact absurd H (by simp)
 ·rw [if_neg c4] at H
  exact absurd H (by simp)

/-! ### impl_unmarked: function 29 -/
def impl_unmarked.l0 : Nat → List Int → List Int → Int → Int → Int → List Int → Option (List Int)
 | 0, _, _, _, _, _, _ => none
 | k + 1, x5, x8, x9, x10, x274000, x274001 => if x10 < x9 then (if 0 ≤ x10 then (if x10 < (x8.length : Int) then ((impl_Bits_at.f x274000 x274001 x10).bind fun t275 => (if t275 = 0 then (if x5.length < 17592186044416 then (impl_unmarked.l0 k (x5 ++ [rd x8 x10]) x8 x9 (wrap64 (x10 + 1)) x274000 x274001) else (none)) else (impl_unmarked.l0 k x5 x8 x9 (wrap64 (x10 + 1)) x274000 x274001))) else (none)) else (none)) else (some x5)
def impl_unmarked.f (k : Nat) (l0 : List Int) (a1_0 : Int) (l1_1 : List Int) : Option (List Int) := impl_unmarked.l0 k ([] : List Int) l0 (l0.length : Int) 0 a1_0 l1_1
theorem impl_unmarked.mono_l : ∀ k, (∀ y0 y1 y2 y3 y4 y5, LeO (impl_unmarked.l0 k y0 y1 y2 y3 y4 y5) (impl_unmarked.l0 (k + 1) y0 y1 y2 y3 y4 y5))
 | 0 => fun _ _ _ _ _ _ r h => by simp [impl_unmarked.l0] at h
 | k + 1 => by
  have ih0 := impl_unmarked.mono_l k
  ·intro y0 y1 y2 y3 y4 y5
   unfold impl_unmarked.l0
   repeat' first|(with_reducible first|exact ih0 _ _ _ _ _ _|exact LeO.refl _|exact LeO.none _|refine LeO.ite ?_ ?_|refine LeO.bind ?_ (fun _ => ?_))|exact LeO.none _|refine LeO.ite ?_ ?_|refine LeO.bind ?_ (fun _ => ?_)
theorem impl_unmarked.mono : ∀ a0 a1 a2 k, LeO (impl_unmarked.f k a0 a1 a2) (impl_unmarked.f (k + 1) a0 a1 a2) := by
 intro a0 a1 a2 k
 have ih0 := impl_unmarked.mono_l k
 unfold impl_unmarked.f
 repeat' first|(with_reducible first|exact ih0 _ _ _ _ _ _|exact LeO.refl _|exact LeO.none _|refine LeO.ite ?_ ?_|refine LeO.bind ?_ (fun _ => ?_))|exact LeO.none _|refine LeO.ite ?_ ?_|refine LeO.bind ?_ (fun _ => ?_)
set_option maxHeartbeats 8000000 in
set_option maxRecDepth 100000 in
theorem impl_unmarked.calls (k : Nat) (A0 : Option Addr) (c0 : Nat) (l0 : List Int) (a1_0 : Int) (A1_1 : Option Addr) (c1_1 : Nat) (l1_1 : List Int) (r : List Int) (w : World) (hr0 : Kd.C (Kd.int .i64) w A0 l0.length l0) (hc0 : l0.length ≤ c0) (hr1_1 : Kd.C (Kd.int .u64) w A1_1 l1_1.length l1_1) (hc1_1 : l1_1.length ≤ c1_1) (h : impl_unmarked.f k l0 a1_0 l1_1 = some r) :
  Calls Try.prog 29 #[.slice A0 l0.length c0, .agg #[.int .i64 a1_0, .slice A1_1 l1_1.length c1_1]] w fun e w' => ∃ v0_ : Value, e = .returned (v0_) ∧ Kd.R (Kd.int .i64) 3 w' w.heap.size (fun _ => True) v0_ r ∧ Below w.heap.size w w' := by
 have hu25:=Try.underlying25
 have HR0:=mk0 hr0
 have HC0:=mk0 hc0
 clear hr0 hc0
 have HR1_1:=mk0 hr1_1
 have HC1_1:=mk0 hc1_1
 clear hr1_1 hc1_1
 have HB:=mk0 (Below.refl w.heap.size w)
 have H:(impl_unmarked.l0 k ([]:List Int) l0 (l0.length:Int) 0 a1_0 l1_1) = some r:=h
 clear h
 have H':=mk0 H
 clear H
 go_enter Try.func29,Try.ntmps29
 go_wp2_with (first|((with_reducible refine gate_dst (N:=3) rfl ?_);refine box_event ?hg (N:=3) ?hd (cs:=#[.int .i64 a1_0,.slice A1_1 l1_1.length c1_1]) (t:=25) ?hr ?_;(case hd=>rfl);(case hg=>rfl);(case hr=>first|(go_simp;done)|(go_simp;rfl));intro gb273 hg w3 hbox hb;have n0_:=mk0 (below_step (by repeat (first|(with_reducible first|exact HB.out|apply aZ|apply nZ|apply dZ)|exact HB.out)) hb);have n1_:=mk0 (hbox);have n2_:=mk0 ((by rw [hg];exact (below_size (by repeat (first|(with_reducible first|exact HB.out|apply aZ|apply nZ|apply dZ)|exact HB.out))):w.heap.size ≤ gb273));have n3_:=mk0 ((by rw [hg];exact (below_size (by repeat (first|(with_reducible first|exact HB.out|apply aZ|apply nZ|apply dZ)|exact HB.out))):w.heap.size ≤ gb273));clear HB;have HB:=n0_;have BK273:=n1_;have GW273:=n2_;have GE273:=n3_;clear n0_ n1_ n2_ n3_ hb hbox hg))
 go_loopg [5,10] k (fun kq v5 v10 w'=>∃ (x5_1:List Int) (x10_1:Int),v10 = .int .i64 x10_1 ∧ Aside0 (impl_unmarked.l0 kq x5_1 l0 (l0.length:Int) x10_1 a1_0 l1_1 = some r) ∧ Aside0 (kq ≤ k) ∧ Aside0 (Kd.R (Kd.int .i64) 3 w' w.heap.size (fun _=>True) v5 x5_1) ∧ Aside0 (w'.heap[gb273]? = some (.cells #[.int .i64 a1_0,(.slice A1_1 l1_1.length c1_1)] 25 (0,0))) ∧ Aside0 (Below w.heap.size w w'))
 case atStart=>exact⟨(([]:List Int)),(0),(by first|rfl|(simp;done)|(simp [*];done)),H',⟨Nat.le_refl _⟩,⟨by first|exact Kd.R_nil _ _ _ _ _|exact Kd.N_nil _ _ _ _ _|exact Kd.V_nil _ _ _ _ _|exact Kd.Q_nil _ _ _ _ _|exact Kd.S_nil _ _ _ _ _⟩,⟨by (with_reducible repeat (first|apply nB|apply dB|apply aB));exact BK273.out⟩,⟨by repeat (first|(with_reducible first|exact HB.out|apply aZ|apply nZ|apply dZ|refine sZ ?_ GE273.out)|exact HB.out)⟩⟩
 case round =>
  clear H'
  try clear c1
  try clear c2
  try clear p2
  obtain⟨x5_1,x10_1,rfl,HA,HK1,HO_5,BK273,HB⟩:=hrel
  cases gk with
  | zero=>exact absurd HA.out (by simp [impl_unmarked.l0])
  | succ k1 =>
   have H:=HA.out
   clear HA
   simp only [impl_unmarked.l0] at H
   by_cases c4:x10_1 < (l0.length:Int)
   ·rw [if_pos c4] at H
    have c4b0:decide (x10_1 < (l0.length:Int)) = true:=decide_eq_true c4
    clear c4
    by_cases c5:0 ≤ x10_1
    ·rw [if_pos c5] at H
     have c5b0:decide (0 ≤ x10_1) = true:=decide_eq_true c5
     clear c5
     by_cases c6:x10_1 < (l0.length:Int)
     ·rw [if_pos c6] at H
      have c6b0:decide (x10_1 < (l0.length:Int)) = true:=decide_eq_true c6
      clear c6
      replace H:=Option.bind_eq_some_iff.mp H
      obtain⟨t275,A70,H⟩:=H
      replace H:(if t275 = 0 then (if x5_1.length < 17592186044416 then (impl_unmarked.l0 k1 (x5_1 ++ [rd l0 x10_1]) l0 (l0.length:Int) (wrap64 (x10_1 + 1)) a1_0 l1_1) else (none)) else (impl_unmarked.l0 k1 x5_1 l0 (l0.length:Int) (wrap64 (x10_1 + 1)) a1_0 l1_1)) = some r:=H
      have A7:=mk0 A70
      clear A70
      by_cases c8:t275 = 0
      ·rw [if_pos c8] at H
       have c8b0:(t275 == 0) = true:=beq_iff_eq.mpr c8
       have c8b1:(t275 != 0) = false:=bne_eq_false_iff_eq.mpr c8
       clear c8
       by_cases c9:x5_1.length < 17592186044416
       ·rw [if_pos c9] at H
        have LMc9:=mk0 c9
        clear c9
        obtain⟨y276,hy276⟩:∃ y_:List Int,y_ = (x5_1 ++ [rd l0 x10_1]):=⟨_,rfl⟩
        replace H:(impl_unmarked.l0 k1 y276 l0 (l0.length:Int) (wrap64 (x10_1 + 1)) a1_0 l1_1) = some r:=by first|(rw [hy276];with_reducible exact H)|(have H2_:=(Option.bind_some _ _).symm.trans H;rw [hy276];with_reducible exact H2_)|(have H2_:=(Option.bind_some _ _).symm.trans H;with_reducible exact H2_)|with_reducible exact H|(rw [hy276];exact H)|exact H
        have Ny276:=mk0 hy276
        clear hy276
        have H':=mk0 H
        clear H
        have p274:0 ≤ (x10_1:Int):=of_decide_eq_true (by first|(with_reducible assumption)|assumption)
        have q274:x10_1 < (l0.length:Int):=of_decide_eq_true (by first|(with_reducible assumption)|assumption)
        obtain⟨ad274,e274,hx274_0⟩:=Kd.at_int HR0.out x10_1 p274 q274
        cases e274
        replace hx274_0:=(HB.out.cell (World.block_lt_of_cell? w _ hx274_0)).trans hx274_0
        replace p274:=eq_true p274
        replace q274:=eq_true q274
        have hcz10_0:wr.cell? ⟨gb273,0,none⟩ = some (.int .i64 a1_0):=(blk_cell BK273.out 0).trans rfl
        have hcz10_1:wr.cell? ⟨gb273,1,none⟩ = some (.slice A1_1 l1_1.length c1_1):=(blk_cell BK273.out 1).trans rfl
        have hfz10_0:=blk_frozen BK273.out 0
        have hfz10_1:=blk_frozen BK273.out 1
        go_wp2_with (first|((with_reducible refine gate_callee (f:=50) rfl ?_);refine goesL_ (some 17) rfl rfl Try.func50 (by kernel_rfl) rfl #[.agg #[.int .i64 a1_0,.slice A1_1 l1_1.length c1_1],.int .i64 x10_1] rfl (by (try simp only [mA,mC,mN]);first|done|rfl|(simp only [List.length_drop,List.length_take];rfl)) ?_;(with_reducible refine (impl_Bits_at.calls a1_0 _ _ l1_1 x10_1 t275 _ ?side1 ?side2 A7.out).mono ?_);(case side1=>repeat (first|exact (Kd.C_below HR1_1.out HB.out)|(with_reducible first|apply aC|apply nC|apply dC)));(case side2=>exact HC1_1.out);rintro e w11 ⟨rfl,hb⟩;refine⟨_,rfl,?_⟩;have n0_:=mk0 (Kd.R_below (by (with_reducible repeat (first|apply aR|apply nR|apply dR));exact HO_5.out) hb);have n1_:=mk0 (blk_below (g:=gb273) (o:=.cells #[.int .i64 a1_0,.slice A1_1 l1_1.length c1_1] 25 (0,0)) (by (with_reducible repeat (first|apply nB|apply dB|apply aB));exact BK273.out) hb);have n2_:=mk0 (below_step (by repeat (first|(with_reducible first|exact HB.out|apply aZ|apply nZ|apply dZ|refine sZ ?_ GE273.out)|exact HB.out)) hb);clear HO_5 BK273 HB;have HO_5:=n0_;have BK273:=n1_;have HB:=n2_;clear n0_ n1_ n2_;(try clear hb);(try clear hb2);(try clear hk);(try clear hi))|((with_reducible refine gate_builtin (b:=.append) (xs:=#[.tmp 19,.tmp 21]) rfl ?_);at_builtin;refine Kd.R_append (Kd.int .i64) (w0:=w) w.heap.size rfl (.tmp 19) (.tmp 21) 22 3 (.int .i64 0) 8 rfl Try.underlying22 info3 rfl (by decide) (by omega) u5 x5_1 (rd l0 x10_1) [.int .i64 (rd l0 x10_1)] (fun _=>True) (fun _=>False) rfl rfl ?aP (fun _ hk=>hk.elim) ?aF ?aO ?aB ?aS ?aL ?_;(case aP=>exact rfl);(case aB=>exact (by repeat (first|(with_reducible first|exact HB.out|apply aZ|apply nZ|apply dZ|refine sZ ?_ GE273.out)|exact HB.out)));(case aF=>exact (fun _ _=>trivial));(case aO=>exact (by (with_reducible repeat (first|apply aR|apply nR|apply dR));exact HO_5.out));(case aS=>exact (below_size (by repeat (first|(with_reducible first|exact HB.out|apply aZ|apply nZ|apply dZ|refine sZ ?_ GE273.out)|exact HB.out))));(case aL=>have:=LMc9.out;omega);intro v277 w12 ho hb hg hat;rw [← Ny276.out] at ho;have n0_:=mk0 (blk_grown (g:=gb273) (o:=.cells #[.int .i64 a1_0,.slice A1_1 l1_1.length c1_1] 25 (0,0)) (by (with_reducible repeat (first|apply nB|apply dB|apply aB));exact BK273.out) hg (Kd.R_ne HO_5.out BK273.out (by decide)));have n1_:=mk0 (hb);have n2_:=mk0 (ho);clear BK273 HB HO_5;have BK273:=n0_;have HB:=n1_;have HO278:=n2_;clear n0_ n1_ n2_ ho hb hg hat))
        go_roundg k1
        case measure=>have:=HK1.out;omega
        case rel=>exact⟨(y276),(wrap64 (x10_1 + 1)),(by first|rfl|(simp;done)|(simp [*];done)),H',⟨by have:=HK1.out;omega⟩,⟨by (with_reducible repeat (first|apply aR|apply nR|apply dR));exact HO278.out⟩,⟨by (with_reducible repeat (first|apply nB|apply dB|apply aB));exact BK273.out⟩,⟨by repeat (first|(with_reducible first|exact HB.out|apply aZ|apply nZ|apply dZ|refine sZ ?_ GE273.out)|exact HB.out)⟩⟩
       ·rw [if_neg c9] at H
        exact absurd H (by simp)
      ·rw [if_neg c8] at H
       have c8b0:(t275 == 0) = false:=beq_eq_false_iff_ne.mpr c8
       have c8b1:(t275 != 0) = true:=bne_iff_ne.mpr c8
       have H':=mk0 H
       clear H
       have p274:0 ≤ (x10_1:Int):=of_decide_eq_true (by first|(with_reducible assumption)|assumption)
       have q274:x10_1 < (l0.length:Int):=of_decide_eq_true (by first|(with_reducible assumption)|assumption)
       obtain⟨ad274,e274,hx274_0⟩:=Kd.at_int HR0.out x10_1 p274 q274
       cases e274
       replace hx274_0:=(HB.out.cell (World.block_lt_of_cell? w _ hx274_0)).trans hx274_0
       replace p274:=eq_true p274
       replace q274:=eq_true q274
       have hcz13_0:wr.cell? ⟨gb273,0,none⟩ = some (.int .i64 a1_0):=(blk_cell BK273.out 0).trans rfl
       have hcz13_1:wr.cell? ⟨gb273,1,none⟩ = some (.slice A1_1 l1_1.length c1_1):=(blk_cell BK273.out 1).trans rfl
       have hfz13_0:=blk_frozen BK273.out 0
       have hfz13_1:=blk_frozen BK273.out 1
       go_wp2_with (first|((with_reducible refine gate_callee (f:=50) rfl ?_);refine goesL_ (some 17) rfl rfl Try.func50 (by kernel_rfl) rfl #[.agg #[.int .i64 a1_0,.slice A1_1 l1_1.length c1_1],.int .i64 x10_1] rfl (by (try simp only [mA,mC,mN]);first|done|rfl|(simp only [List.length_drop,List.length_take];rfl)) ?_;(with_reducible refine (impl_Bits_at.calls a1_0 _ _ l1_1 x10_1 t275 _ ?side1 ?side2 A7.out).mono ?_);(case side1=>repeat (first|exact (Kd.C_below HR1_1.out HB.out)|(with_reducible first|apply aC|apply nC|apply dC)));(case side2=>exact HC1_1.out);rintro e w14 ⟨rfl,hb⟩;refine⟨_,rfl,?_⟩;have n0_:=mk0 (Kd.R_below (by (with_reducible repeat (first|apply aR|apply nR|apply dR));exact HO_5.out) hb);have n1_:=mk0 (blk_below (g:=gb273) (o:=.cells #[.int .i64 a1_0,.slice A1_1 l1_1.length c1_1] 25 (0,0)) (by (with_reducible repeat (first|apply nB|apply dB|apply aB));exact BK273.out) hb);have n2_:=mk0 (below_step (by repeat (first|(with_reducible first|exact HB.out|apply aZ|apply nZ|apply dZ|refine sZ ?_ GE273.out)|exact HB.out)) hb);clear HO_5 BK273 HB;have HO_5:=n0_;have BK273:=n1_;have HB:=n2_;clear n0_ n1_ n2_;(try clear hb);(try clear hb2);(try clear hk);(try clear hi)))
       go_roundg k1
       case measure=>have:=HK1.out;omega
       case rel=>exact⟨(x5_1),(wrap64 (x10_1 + 1)),(by first|rfl|(simp;done)|(simp [*];done)),H',⟨by have:=HK1.out;omega⟩,⟨by (with_reducible repeat (first|apply aR|apply nR|apply dR));exact HO_5.out⟩,⟨by (with_reducible repeat (first|apply nB|apply dB|apply aB));exact BK273.out⟩,⟨by repeat (first|(with_reducible first|exact HB.out|apply aZ|apply nZ|apply dZ|refine sZ ?_ GE273.out)|exact HB.out)⟩⟩
     ·rw [if_neg c6] at H
      exact absurd H (by simp)
    ·rw [if_neg c5] at H
     exact absurd H (by simp)
   ·rw [if_neg c4] at H
    have c4b0:decide (x10_1 < (l0.length:Int)) = false:=decide_eq_false c4
    clear c4
    obtain rfl:=Option.some.inj H
    go_wp2
    go_ret
    exact⟨_,by first|rfl|(simp [errW_none,errW_some] <;> rfl)|(simp [*,errW_none,errW_some] <;> rfl),by (with_reducible repeat (first|apply aR|apply nR|apply dR));exact HO_5.out,by repeat (first|(with_reducible first|exact HB.out|apply aZ|apply nZ|apply dZ|refine sZ ?_ GE273.out)|exact HB.out)⟩

/-! ### impl_PatchOf: function 8 -/
def impl_PatchOf.f (k : Nat) (l0 : List Int) (l1 : List Int) : Option (Int × List Int × Int × List Int × List Int × Bool) := (impl_areListed.f l0 l1).bind fun t280 => (if t280 = true then ((impl_commonOf.f k l0 l1).bind fun t281 => ((impl_marks.f k (l0.length : Int) (l1.length : Int) t281).bind fun bt284 => ((impl_unmarked.f k l1 bt284.2.2.1 bt284.2.2.2).bind fun t294 => (some (bt284.1, bt284.2.1, bt284.2.2.1, bt284.2.2.2, t294, true))))) else (some (0, ([] : List Int), 0, ([] : List Int), ([] : List Int), false)))
theorem impl_PatchOf.mono : ∀ a0 a1 k, LeO (impl_PatchOf.f k a0 a1) (impl_PatchOf.f (k + 1) a0 a1) := by
 intro a0 a1 k
 unfold impl_PatchOf.f
 repeat' first|(with_reducible first|exact impl_commonOf.mono _ _ _|exact impl_marks.mono _ _ _ _|exact impl_unmarked.mono _ _ _ _|exact LeO.refl _|exact LeO.none _|refine LeO.ite ?_ ?_|refine LeO.bind ?_ (fun _ => ?_))|exact LeO.none _|refine LeO.ite ?_ ?_|refine LeO.bind ?_ (fun _ => ?_)
def impl_PatchOf.T4 : Bool × List (List Nat × List Nat) := (true, [([], []), ([], []), ([], []), ([], []), ([2, 3], [2, 3]), ([0, 1, 4], [0, 1, 4]), ([5, 4, 0, 1, 2, 3, 4, 5], [5]), ([6, 0, 1, 2, 3, 4, 5, 6], [])])
def impl_PatchOf.B4 : List Nat := [0, 0, 0, 0, 12, 31, 63, 127]
theorem impl_PatchOf.tab4 : rtab .any (opsOf Try.f8 4) = impl_PatchOf.T4 := by kernel_rfl
theorem impl_PatchOf.bits4 : waitsOk impl_PatchOf.T4.2 impl_PatchOf.B4 = true := by kernel_rfl
abbrev impl_PatchOf.m0 : Array Bool := #[F,F,F,F,F,F,F,F]
abbrev impl_PatchOf.m1 : Array Bool := #[F,F,T,F,F,F,F,F]
abbrev impl_PatchOf.m2 : Array Bool := #[T,F,T,F,F,F,F,F]
abbrev impl_PatchOf.m3 : Array Bool := #[T,T,T,F,F,F,F,F]
abbrev impl_PatchOf.m4 : Array Bool := #[T,T,T,T,F,F,F,F]
abbrev impl_PatchOf.m5 : Array Bool := #[T,T,T,T,T,F,F,F]
set_option maxHeartbeats 8000000 in
set_option maxRecDepth 100000 in
theorem impl_PatchOf.calls (k : Nat) (A0 : Option Addr) (c0 : Nat) (l0 : List Int) (A1 : Option Addr) (c1 : Nat) (l1 : List Int) (r1 : Int) (r2 : List Int) (r3 : Int) (r4 : List Int) (r5 : List Int) (r6 : Bool) (w : World) (hr0 : Kd.C (Kd.int .i64) w A0 l0.length l0) (hc0 : l0.length ≤ c0) (hr1 : Kd.C (Kd.int .i64) w A1 l1.length l1) (hc1 : l1.length ≤ c1) (h : impl_PatchOf.f k l0 l1 = some (r1, r2, r3, r4, r5, r6)) :
  Calls Try.prog 8 #[.slice A0 l0.length c0, .slice A1 l1.length c1] w fun e w' => ∃ v1_ v3_ v4_ : Value, e = .returned (.tuple #[.agg #[.int .i64 r1, v1_, .int .i64 r3, v3_, v4_], .bool r6]) ∧ Kd.R (Kd.int .u64) 77 w' w.heap.size (fun k_ => some k_ ≠ (v3_ : Value).ownBlock) v1_ r2 ∧ Kd.R (Kd.int .u64) 77 w' w.heap.size (fun k_ => some k_ ≠ (v1_ : Value).ownBlock) v3_ r4 ∧ Kd.R (Kd.int .i64) 3 w' w.heap.size (fun _ => True) v4_ r5 ∧ Below w.heap.size w w' := by
 have hu27:=Try.underlying27
 have hu25:=Try.underlying25
 have HR0:=mk0 hr0
 have HC0:=mk0 hc0
 clear hr0 hc0
 have HR1:=mk0 hr1
 have HC1:=mk0 hc1
 clear hr1 hc1
 have HB:=mk0 (Below.refl w.heap.size w)
 have H:((impl_areListed.f l0 l1).bind fun t280=>(if t280 = true then ((impl_commonOf.f k l0 l1).bind fun t281=>((impl_marks.f k (l0.length:Int) (l1.length:Int) t281).bind fun bt284=>((impl_unmarked.f k l1 bt284.2.2.1 bt284.2.2.2).bind fun t294=>(some (bt284.1,bt284.2.1,bt284.2.2.1,bt284.2.2.2,t294,true))))) else (some (0,([]:List Int),0,([]:List Int),([]:List Int),false)))) = some (r1,r2,r3,r4,r5,r6):=h
 clear h
 replace H:=Option.bind_eq_some_iff.mp H
 obtain⟨t280,A30,H⟩:=H
 replace H:(if t280 = true then ((impl_commonOf.f k l0 l1).bind fun t281=>((impl_marks.f k (l0.length:Int) (l1.length:Int) t281).bind fun bt284=>((impl_unmarked.f k l1 bt284.2.2.1 bt284.2.2.2).bind fun t294=>(some (bt284.1,bt284.2.1,bt284.2.2.1,bt284.2.2.2,t294,true))))) else (some (0,([]:List Int),0,([]:List Int),([]:List Int),false))) = some (r1,r2,r3,r4,r5,r6):=H
 have A3:=mk0 A30
 clear A30
 by_cases c4:t280 = true
 rotate_left
 ·replace c4:=Bool.eq_false_iff.mpr c4
  subst c4
  have H1:(some (0,([]:List Int),0,([]:List Int),([]:List Int),false)) = some (r1,r2,r3,r4,r5,r6):=by rw [if_neg (show ¬ (false = true) by decide)] at H;exact H
  clear H
  have H:=H1
  clear H1
  simp only [Option.some.injEq,Prod.mk.injEq] at H
  obtain⟨rfl,rfl,rfl,rfl,rfl,rfl⟩:=H
  go_enter Try.func8,Try.ntmps8
  go_wp2_with (first|((with_reducible refine gate_dst (N:=4) rfl ?_);refine box_event ?hg (N:=4) ?hd (cs:=#[.int .i64 0,.slice none 0 0,.int .i64 0,.slice none 0 0,.slice none 0 0]) (t:=27) ?hr ?_;(case hd=>rfl);(case hg=>rfl);(case hr=>first|(go_simp;done)|(go_simp;rfl));intro gb279 hg w30 hbox hb;have n0_:=mk0 (below_step (by repeat (first|(with_reducible first|exact HB.out|apply aZ|apply nZ|apply dZ)|exact HB.out)) hb);have n1_:=mk0 (hbox);have n2_:=mk0 ((by rw [hg];exact (below_size (by repeat (first|(with_reducible first|exact HB.out|apply aZ|apply nZ|apply dZ)|exact HB.out))):w.heap.size ≤ gb279));have n3_:=mk0 ((by rw [hg];exact (below_size (by repeat (first|(with_reducible first|exact HB.out|apply aZ|apply nZ|apply dZ)|exact HB.out))):w.heap.size ≤ gb279));clear HB;have HB:=n0_;have BK279:=n1_;have GW279:=n2_;have GE279:=n3_;clear n0_ n1_ n2_ n3_ hb hbox hg)|((with_reducible refine gate_callee (f:=26) rfl ?_);refine goesL_ (some 10) rfl rfl Try.func26 (by kernel_rfl) rfl #[.slice A0 l0.length c0,.slice A1 l1.length c1] rfl (by (try simp only [mA,mC,mN]);first|done|rfl|(simp only [List.length_drop,List.length_take];rfl)) ?_;(with_reducible refine (impl_areListed.calls _ _ l0 _ _ l1 false _ ?side1 ?side2 ?side3 ?side4 A3.out).mono ?_);(case side1=>repeat (first|exact (Kd.C_below HR0.out HB.out)|(with_reducible first|apply aC|apply nC|apply dC)));(case side2=>exact HC0.out);(case side3=>repeat (first|exact (Kd.C_below HR1.out HB.out)|(with_reducible first|apply aC|apply nC|apply dC)));(case side4=>exact HC1.out);rintro e w' ⟨rfl,⟨nd,rfl⟩⟩;refine⟨_,rfl,?_⟩;(try (rw [drewN_self w30];generalize hq_:World.drewN w30 _ = w30;have n0_:Aside0 (w30.heap[gb279]? = some (.cells #[.int .i64 0,.slice none 0 0,.int .i64 0,.slice none 0 0,.slice none 0 0] 27 (0,0))):=⟨by rw [← hq_];exact (by (with_reducible repeat (first|apply nB|apply dB|apply aB));exact BK279.out)⟩;have n1_:Aside0 (Below w.heap.size w w30):=⟨by rw [← hq_];exact (by repeat (first|(with_reducible first|exact HB.out|apply aZ|apply nZ|apply dZ|refine sZ ?_ GE279.out)|exact HB.out))⟩;clear BK279 HB hq_;have BK279:=n0_;have HB:=n1_;clear n0_ n1_));have hcz31_0:w30.cell? ⟨gb279,0,none⟩ = some (.int .i64 0):=(blk_cell BK279.out 0).trans rfl;have hcz31_1:w30.cell? ⟨gb279,1,none⟩ = some (.slice none 0 0):=(blk_cell BK279.out 1).trans rfl;have hcz31_2:w30.cell? ⟨gb279,2,none⟩ = some (.int .i64 0):=(blk_cell BK279.out 2).trans rfl;have hcz31_3:w30.cell? ⟨gb279,3,none⟩ = some (.slice none 0 0):=(blk_cell BK279.out 3).trans rfl;have hcz31_4:w30.cell? ⟨gb279,4,none⟩ = some (.slice none 0 0):=(blk_cell BK279.out 4).trans rfl;have hfz31_0:=blk_frozen BK279.out 0;have hfz31_1:=blk_frozen BK279.out 1;have hfz31_2:=blk_frozen BK279.out 2;have hfz31_3:=blk_frozen BK279.out 3;have hfz31_4:=blk_frozen BK279.out 4))
  refine bodyPost_ret (results_ct rfl _ _ gb279 27 #[.int .i64 0,.slice none 0 0,.int .i64 0,.slice none 0 0,.slice none 0 0] (0,0) _ rfl (by (with_reducible repeat (first|apply nB|apply dB|apply aB));refine blk_put (cs:=#[.int .i64 0,.slice none 0 0,.int .i64 0,.slice none 0 0,.slice none 0 0]) ?_ 4 _ rfl;(with_reducible repeat (first|apply nB|apply dB|apply aB));refine blk_put (cs:=#[.int .i64 0,.slice none 0 0,.int .i64 0,.slice none 0 0,.slice none 0 0]) ?_ 3 _ rfl;(with_reducible repeat (first|apply nB|apply dB|apply aB));refine blk_put (cs:=#[.int .i64 0,.slice none 0 0,.int .i64 0,.slice none 0 0,.slice none 0 0]) ?_ 2 _ rfl;(with_reducible repeat (first|apply nB|apply dB|apply aB));refine blk_put (cs:=#[.int .i64 0,.slice none 0 0,.int .i64 0,.slice none 0 0,.slice none 0 0]) ?_ 1 _ rfl;(with_reducible repeat (first|apply nB|apply dB|apply aB));refine blk_put (cs:=#[.int .i64 0,.slice none 0 0,.int .i64 0,.slice none 0 0,.slice none 0 0]) ?_ 0 _ rfl;(with_reducible repeat (first|apply nB|apply dB|apply aB));exact BK279.out) Try.underlying27 rfl (by kernel_rfl)) rfl ?_
  exact⟨_,_,_,by first|rfl|(simp [errW_none,errW_some] <;> rfl)|(simp [*,errW_none,errW_some] <;> rfl),by first|exact Kd.R_nil _ _ _ _ _|exact Kd.N_nil _ _ _ _ _|exact Kd.V_nil _ _ _ _ _|exact Kd.Q_nil _ _ _ _ _|exact Kd.S_nil _ _ _ _ _,by first|exact Kd.R_nil _ _ _ _ _|exact Kd.N_nil _ _ _ _ _|exact Kd.V_nil _ _ _ _ _|exact Kd.Q_nil _ _ _ _ _|exact Kd.S_nil _ _ _ _ _,by first|exact Kd.R_nil _ _ _ _ _|exact Kd.N_nil _ _ _ _ _|exact Kd.V_nil _ _ _ _ _|exact Kd.Q_nil _ _ _ _ _|exact Kd.S_nil _ _ _ _ _,by repeat (first|(with_reducible first|exact HB.out|apply aZ|apply nZ|apply dZ|refine sZ ?_ GE279.out)|exact HB.out)⟩

 subst c4
 have H1:((impl_commonOf.f k l0 l1).bind fun t281=>((impl_marks.f k (l0.length:Int) (l1.length:Int) t281).bind fun bt284=>((impl_unmarked.f k l1 bt284.2.2.1 bt284.2.2.2).bind fun t294=>(some (bt284.1,bt284.2.1,bt284.2.2.1,bt284.2.2.2,t294,true))))) = some (r1,r2,r3,r4,r5,r6):=by rw [if_pos rfl] at H;exact H
 clear H
 have H:=H1
 clear H1
 replace H:=Option.bind_eq_some_iff.mp H
 obtain⟨t281,A50,H⟩:=H
 replace H:((impl_marks.f k (l0.length:Int) (l1.length:Int) t281).bind fun bt284=>((impl_unmarked.f k l1 bt284.2.2.1 bt284.2.2.2).bind fun t294=>(some (bt284.1,bt284.2.1,bt284.2.2.1,bt284.2.2.2,t294,true)))) = some (r1,r2,r3,r4,r5,r6):=H
 have A5:=mk0 A50
 clear A50
 replace H:=Option.bind_eq_some_iff.mp H
 obtain⟨⟨t284,t285,t288,t289⟩,A60,H⟩:=H
 replace H:((impl_unmarked.f k l1 t288 t289).bind fun t294=>(some (t284,t285,t288,t289,t294,true))) = some (r1,r2,r3,r4,r5,r6):=H
 have A6:=mk0 A60
 clear A60
 replace H:=Option.bind_eq_some_iff.mp H
 obtain⟨t294,A70,H⟩:=H
 replace H:(some (t284,t285,t288,t289,t294,true)) = some (r1,r2,r3,r4,r5,r6):=H
 have A7:=mk0 A70
 clear A70
 simp only [Option.some.injEq,Prod.mk.injEq] at H
 obtain⟨rfl,rfl,rfl,rfl,rfl,rfl⟩:=H
 go_enter Try.func8,Try.ntmps8
 try go_wp2_with (first|((with_reducible refine gate_dst (N:=4) rfl ?_);refine box_event ?hg (N:=4) ?hd (cs:=#[.int .i64 0,.slice none 0 0,.int .i64 0,.slice none 0 0,.slice none 0 0]) (t:=27) ?hr ?_;(case hd=>rfl);(case hg=>rfl);(case hr=>first|(go_simp;done)|(go_simp;rfl));intro gb279 hg w8 hbox hb;have n0_:=mk0 (below_step (by repeat (first|(with_reducible first|exact HB.out|apply aZ|apply nZ|apply dZ)|exact HB.out)) hb);have n1_:=mk0 (hbox);have n2_:=mk0 ((by rw [hg];exact (below_size (by repeat (first|(with_reducible first|exact HB.out|apply aZ|apply nZ|apply dZ)|exact HB.out))):w.heap.size ≤ gb279));have n3_:=mk0 ((by rw [hg];exact (below_size (by repeat (first|(with_reducible first|exact HB.out|apply aZ|apply nZ|apply dZ)|exact HB.out))):w.heap.size ≤ gb279));clear HB;have HB:=n0_;have BK279:=n1_;have GW279:=n2_;have GE279:=n3_;clear n0_ n1_ n2_ n3_ hb hbox hg)|((with_reducible refine gate_callee (f:=26) rfl ?_);refine goesL_ (some 10) rfl rfl Try.func26 (by kernel_rfl) rfl #[.slice A0 l0.length c0,.slice A1 l1.length c1] rfl (by (try simp only [mA,mC,mN]);first|done|rfl|(simp only [List.length_drop,List.length_take];rfl)) ?_;(with_reducible refine (impl_areListed.calls _ _ l0 _ _ l1 true _ ?side1 ?side2 ?side3 ?side4 A3.out).mono ?_);(case side1=>repeat (first|exact (Kd.C_below HR0.out HB.out)|(with_reducible first|apply aC|apply nC|apply dC)));(case side2=>exact HC0.out);(case side3=>repeat (first|exact (Kd.C_below HR1.out HB.out)|(with_reducible first|apply aC|apply nC|apply dC)));(case side4=>exact HC1.out);rintro e w' ⟨rfl,⟨nd,rfl⟩⟩;refine⟨_,rfl,?_⟩;(try (rw [drewN_self w8];generalize hq_:World.drewN w8 _ = w8;have n0_:Aside0 (w8.heap[gb279]? = some (.cells #[.int .i64 0,.slice none 0 0,.int .i64 0,.slice none 0 0,.slice none 0 0] 27 (0,0))):=⟨by rw [← hq_];exact (by (with_reducible repeat (first|apply nB|apply dB|apply aB));exact BK279.out)⟩;have n1_:Aside0 (Below w.heap.size w w8):=⟨by rw [← hq_];exact (by repeat (first|(with_reducible first|exact HB.out|apply aZ|apply nZ|apply dZ|refine sZ ?_ GE279.out)|exact HB.out))⟩;clear BK279 HB hq_;have BK279:=n0_;have HB:=n1_;clear n0_ n1_)))|((with_reducible refine gate_callee (f:=28) rfl ?_);refine goesL_ (some 20) rfl rfl Try.func28 (by kernel_rfl) rfl #[.slice A0 l0.length c0,.slice A1 l1.length c1] rfl (by (try simp only [mA,mC,mN]);first|done|rfl|(simp only [List.length_drop,List.length_take];rfl)) ?_;(with_reducible refine (impl_commonOf.calls k _ _ l0 _ _ l1 t281 _ ?side1 ?side2 ?side3 ?side4 A5.out).mono ?_);(case side1=>repeat (first|exact (Kd.C_below HR0.out HB.out)|(with_reducible first|apply aC|apply nC|apply dC)));(case side2=>exact HC0.out);(case side3=>repeat (first|exact (Kd.C_below HR1.out HB.out)|(with_reducible first|apply aC|apply nC|apply dC)));(case side4=>exact HC1.out);rintro e w9 ⟨v282,rfl,ho0,hb⟩;refine⟨_,rfl,?_⟩;have n0_:=mk0 (Kd.R_lower ho0 (below_size (by repeat (first|(with_reducible first|exact HB.out|apply aZ|apply nZ|apply dZ|refine sZ ?_ GE279.out)|exact HB.out))));have n1_:=mk0 (blk_below (g:=gb279) (o:=.cells #[.int .i64 0,.slice none 0 0,.int .i64 0,.slice none 0 0,.slice none 0 0] 27 (0,0)) (by (with_reducible repeat (first|apply nB|apply dB|apply aB));exact BK279.out) hb);have n2_:=mk0 (below_step (by repeat (first|(with_reducible first|exact HB.out|apply aZ|apply nZ|apply dZ|refine sZ ?_ GE279.out)|exact HB.out)) hb);clear BK279 HB;have HO283:=n0_;have BK279:=n1_;have HB:=n2_;clear n0_ n1_ n2_;(try clear hb);(try clear hb2);(try clear hk);(try clear hi);(try clear ho0);obtain⟨Ao10,co10,eo10⟩:=Kd.R_slice HO283.out;subst eo10)|((with_reducible refine gate_callee (f:=27) rfl ?_);refine goesL_ (some 21) rfl rfl Try.func27 (by kernel_rfl) rfl #[.int .i64 (l0.length:Int),.int .i64 (l1.length:Int),.slice Ao10 t281.length co10] rfl (by (try simp only [mA,mC,mN]);first|done|rfl|(simp only [List.length_drop,List.length_take];rfl)) ?_;(with_reducible refine (impl_marks.calls k (l0.length:Int) (l1.length:Int) _ _ t281 t284 t285 t288 t289 _ ?side1 ?side2 A6.out).mono ?_);(case side1=>repeat (first|exact (Kd.R_reads' HO283.out).2.2|(with_reducible first|apply aC|apply nC|apply dC)));(case side2=>exact (Kd.R_reads' HO283.out).2.1);rintro e w11 ⟨v286,v290,rfl,ho0,ho1,hb⟩;refine⟨_,rfl,?_⟩;have n0_:=mk0 (Kd.R_below (by (with_reducible repeat (first|apply aR|apply nR|apply dR));exact HO283.out) hb);have n1_:=mk0 (Kd.R_lower ho0 (below_size (by repeat (first|(with_reducible first|exact HB.out|apply aZ|apply nZ|apply dZ|refine sZ ?_ GE279.out)|exact HB.out))));have n2_:=mk0 (Kd.R_lower ho1 (below_size (by repeat (first|(with_reducible first|exact HB.out|apply aZ|apply nZ|apply dZ|refine sZ ?_ GE279.out)|exact HB.out))));have n3_:=mk0 (blk_below (g:=gb279) (o:=.cells #[.int .i64 0,.slice none 0 0,.int .i64 0,.slice none 0 0,.slice none 0 0] 27 (0,0)) (by (with_reducible repeat (first|apply nB|apply dB|apply aB));exact BK279.out) hb);have n4_:=mk0 (below_step (by repeat (first|(with_reducible first|exact HB.out|apply aZ|apply nZ|apply dZ|refine sZ ?_ GE279.out)|exact HB.out)) hb);clear HO283 BK279 HB;have HO283:=n0_;have HO287:=n1_;have HO291:=n2_;have BK279:=n3_;have HB:=n4_;clear n0_ n1_ n2_ n3_ n4_;(try clear hb);(try clear hb2);(try clear hk);(try clear hi);(try clear ho0);(try clear ho1))|((with_reducible refine gate_dst (N:=6) rfl ?_);refine box_event ?hg (N:=6) ?hd (cs:=#[.int .i64 0,.slice none 0 0]) (t:=25) ?hr ?_;(case hd=>rfl);(case hg=>rfl);(case hr=>first|(go_simp;done)|(go_simp;rfl));intro gb292 hg w12 hbox hb;have n0_:=mk0 (Kd.R_below (by (with_reducible repeat (first|apply aR|apply nR|apply dR));exact HO283.out) hb);have n1_:=mk0 (Kd.R_below (by (with_reducible repeat (first|apply aR|apply nR|apply dR));exact HO287.out) hb);have n2_:=mk0 (Kd.R_below (by (with_reducible repeat (first|apply aR|apply nR|apply dR));exact HO291.out) hb);have n3_:=mk0 (blk_below (g:=gb279) (o:=.cells #[.int .i64 0,.slice none 0 0,.int .i64 0,.slice none 0 0,.slice none 0 0] 27 (0,0)) (by (with_reducible repeat (first|apply nB|apply dB|apply aB));exact BK279.out) hb);have n4_:=mk0 (below_step (by repeat (first|(with_reducible first|exact HB.out|apply aZ|apply nZ|apply dZ|refine sZ ?_ GE279.out)|exact HB.out)) hb);have n5_:=mk0 (hbox);have n6_:=mk0 ((by rw [hg];exact (below_size (by repeat (first|(with_reducible first|exact HB.out|apply aZ|apply nZ|apply dZ|refine sZ ?_ GE279.out)|exact HB.out))):w.heap.size ≤ gb292));have n7_:=mk0 ((by rw [hg];exact (below_size (by repeat (first|(with_reducible first|exact HB.out|apply aZ|apply nZ|apply dZ|refine sZ ?_ GE279.out)|exact HB.out))):w.heap.size ≤ gb292));have n8_:=mk0 ((by rw [hg];exact Nat.ne_of_lt (blk_lt (g:=gb279) (o:=.cells #[.int .i64 0,.slice none 0 0,.int .i64 0,.slice none 0 0,.slice none 0 0] 27 (0,0)) (by (with_reducible repeat (first|apply nB|apply dB|apply aB));exact BK279.out)):gb279 ≠ gb292));have n9_:=mk0 ((by rw [hg];exact Nat.ne_of_gt (blk_lt (g:=gb279) (o:=.cells #[.int .i64 0,.slice none 0 0,.int .i64 0,.slice none 0 0,.slice none 0 0] 27 (0,0)) (by (with_reducible repeat (first|apply nB|apply dB|apply aB));exact BK279.out)):gb292 ≠ gb279));clear HO283 HO287 HO291 BK279 HB;have HO283:=n0_;have HO287:=n1_;have HO291:=n2_;have BK279:=n3_;have HB:=n4_;have BK292:=n5_;have GW292:=n6_;have GE292:=n7_;have NB279_292:=n8_;have NB292_279:=n9_;clear n0_ n1_ n2_ n3_ n4_ n5_ n6_ n7_ n8_ n9_ hb hbox hg)|((with_reducible refine gate_dst (N:=7) rfl ?_);refine box_event ?hg (N:=7) ?hd (cs:=#[.int .i64 0,.slice none 0 0]) (t:=25) ?hr ?_;(case hd=>rfl);(case hg=>rfl);(case hr=>first|(go_simp;done)|(go_simp;rfl));intro gb293 hg w13 hbox hb;have n0_:=mk0 (Kd.R_below (by (with_reducible repeat (first|apply aR|apply nR|apply dR));exact HO283.out) hb);have n1_:=mk0 (Kd.R_below (by (with_reducible repeat (first|apply aR|apply nR|apply dR));exact HO287.out) hb);have n2_:=mk0 (Kd.R_below (by (with_reducible repeat (first|apply aR|apply nR|apply dR));exact HO291.out) hb);have n3_:=mk0 (blk_below (g:=gb279) (o:=.cells #[.int .i64 0,.slice none 0 0,.int .i64 0,.slice none 0 0,.slice none 0 0] 27 (0,0)) (by (with_reducible repeat (first|apply nB|apply dB|apply aB));exact BK279.out) hb);have n4_:=mk0 (blk_below (g:=gb292) (o:=.cells #[.int .i64 0,.slice none 0 0] 25 (0,0)) (by (with_reducible repeat (first|apply nB|apply dB|apply aB));exact BK292.out) hb);have n5_:=mk0 (below_step (by repeat (first|(with_reducible first|exact HB.out|apply aZ|apply nZ|apply dZ|refine sZ ?_ GE279.out|refine sZ ?_ GE292.out)|exact HB.out)) hb);have n6_:=mk0 (hbox);have n7_:=mk0 ((by rw [hg];exact (below_size (by repeat (first|(with_reducible first|exact HB.out|apply aZ|apply nZ|apply dZ|refine sZ ?_ GE279.out|refine sZ ?_ GE292.out)|exact HB.out))):w.heap.size ≤ gb293));have n8_:=mk0 ((by rw [hg];exact (below_size (by repeat (first|(with_reducible first|exact HB.out|apply aZ|apply nZ|apply dZ|refine sZ ?_ GE279.out|refine sZ ?_ GE292.out)|exact HB.out))):w.heap.size ≤ gb293));have n9_:=mk0 ((by rw [hg];exact Nat.ne_of_lt (blk_lt (g:=gb279) (o:=.cells #[.int .i64 0,.slice none 0 0,.int .i64 0,.slice none 0 0,.slice none 0 0] 27 (0,0)) (by (with_reducible repeat (first|apply nB|apply dB|apply aB));exact BK279.out)):gb279 ≠ gb293));have n10_:=mk0 ((by rw [hg];exact Nat.ne_of_gt (blk_lt (g:=gb279) (o:=.cells #[.int .i64 0,.slice none 0 0,.int .i64 0,.slice none 0 0,.slice none 0 0] 27 (0,0)) (by (with_reducible repeat (first|apply nB|apply dB|apply aB));exact BK279.out)):gb293 ≠ gb279));have n11_:=mk0 ((by rw [hg];exact Nat.ne_of_lt (blk_lt (g:=gb292) (o:=.cells #[.int .i64 0,.slice none 0 0] 25 (0,0)) (by (with_reducible repeat (first|apply nB|apply dB|apply aB));exact BK292.out)):gb292 ≠ gb293));have n12_:=mk0 ((by rw [hg];exact Nat.ne_of_gt (blk_lt (g:=gb292) (o:=.cells #[.int .i64 0,.slice none 0 0] 25 (0,0)) (by (with_reducible repeat (first|apply nB|apply dB|apply aB));exact BK292.out)):gb293 ≠ gb292));clear HO283 HO287 HO291 BK279 BK292 HB;have HO283:=n0_;have HO287:=n1_;have HO291:=n2_;have BK279:=n3_;have BK292:=n4_;have HB:=n5_;have BK293:=n6_;have GW293:=n7_;have GE293:=n8_;have NB279_293:=n9_;have NB293_279:=n10_;have NB292_293:=n11_;have NB293_292:=n12_;clear n0_ n1_ n2_ n3_ n4_ n5_ n6_ n7_ n8_ n9_ n10_ n11_ n12_ hb hbox hg;have hnb14:=NB292_279.out;have hnc14:=NB279_292.out;have hnb15:=NB292_293.out;have hnc15:=NB293_292.out;have hcz16_0:w13.cell? ⟨gb292,0,none⟩ = some (.int .i64 0):=(blk_cell BK292.out 0).trans rfl;have hcz16_1:w13.cell? ⟨gb292,1,none⟩ = some (.slice none 0 0):=(blk_cell BK292.out 1).trans rfl;have hfz16_0:=blk_frozen BK292.out 0;have hfz16_1:=blk_frozen BK292.out 1;obtain⟨Ao17,co17,eo17⟩:=Kd.R_slice HO287.out;subst eo17;have hnb18:=NB293_279.out;have hnc18:=NB279_293.out;have hcz19_0:w13.cell? ⟨gb293,0,none⟩ = some (.int .i64 0):=(blk_cell BK293.out 0).trans rfl;have hcz19_1:w13.cell? ⟨gb293,1,none⟩ = some (.slice none 0 0):=(blk_cell BK293.out 1).trans rfl;have hfz19_0:=blk_frozen BK293.out 0;have hfz19_1:=blk_frozen BK293.out 1;obtain⟨Ao20,co20,eo20⟩:=Kd.R_slice HO291.out;subst eo20))
 have n0_:Aside0 (Kd.R k70 70 ((((w13.setCell ⟨gb292,0,none⟩ (.int .i64 t284)).setCell ⟨gb292,1,none⟩ (.slice Ao17 t285.length co17)).setCell ⟨gb293,0,none⟩ (.int .i64 t288)).setCell ⟨gb293,1,none⟩ (.slice Ao20 t289.length co20)) w.heap.size (fun _=>True) (.slice Ao10 t281.length co10) t281):=⟨by (with_reducible repeat (first|apply aR|apply nR|apply dR));exact Kd.R_mono (Kd.R_far (p:=⟨gb293,1,none⟩) (Kd.R_far (p:=⟨gb293,0,none⟩) (Kd.R_far (p:=⟨gb292,1,none⟩) (Kd.R_far (p:=⟨gb292,0,none⟩) (Kd.R_types (Kd.R_types HO283.out BK292.out (by decide)) BK293.out (by decide)) (by first|exact fun _ hk=>hk.1.2|(intro k_ hk;simp only [hk,ne_eq,and_self,not_false_eq_true])) (.int .i64 t284)) (by first|exact fun _ hk=>hk.1.2|(intro k_ hk;simp only [hk,ne_eq,and_self,not_false_eq_true])) (.slice Ao17 t285.length co17)) (by first|exact fun _ hk=>hk.2|(intro k_ hk;simp only [hk,ne_eq,and_self,not_false_eq_true])) (.int .i64 t288)) (by first|exact fun _ hk=>hk.2|(intro k_ hk;simp only [hk,ne_eq,and_self,not_false_eq_true])) (.slice Ao20 t289.length co20)) (fun _ hk=>trivial)⟩
 have n1_:Aside0 (Kd.R (Kd.int .u64) 77 ((((w13.setCell ⟨gb292,0,none⟩ (.int .i64 t284)).setCell ⟨gb292,1,none⟩ (.slice Ao17 t285.length co17)).setCell ⟨gb293,0,none⟩ (.int .i64 t288)).setCell ⟨gb293,1,none⟩ (.slice Ao20 t289.length co20)) w.heap.size (fun k_=>some k_ ≠ (.slice Ao20 t289.length co20:Value).ownBlock) (.slice Ao17 t285.length co17) t285):=⟨by (with_reducible repeat (first|apply aR|apply nR|apply dR));exact Kd.R_mono (Kd.R_far (p:=⟨gb293,1,none⟩) (Kd.R_far (p:=⟨gb293,0,none⟩) (Kd.R_far (p:=⟨gb292,1,none⟩) (Kd.R_far (p:=⟨gb292,0,none⟩) (Kd.R_types (Kd.R_types HO287.out BK292.out (by decide)) BK293.out (by decide)) (by first|exact fun _ hk=>hk.1.2|(intro k_ hk;simp only [hk,ne_eq,and_self,not_false_eq_true])) (.int .i64 t284)) (by first|exact fun _ hk=>hk.1.2|(intro k_ hk;simp only [hk,ne_eq,and_self,not_false_eq_true])) (.slice Ao17 t285.length co17)) (by first|exact fun _ hk=>hk.2|(intro k_ hk;simp only [hk,ne_eq,and_self,not_false_eq_true])) (.int .i64 t288)) (by first|exact fun _ hk=>hk.2|(intro k_ hk;simp only [hk,ne_eq,and_self,not_false_eq_true])) (.slice Ao20 t289.length co20)) (by first|exact fun _ hk=>hk.1.1|(intro k_ hk;simp only [hk,ne_eq,and_self,not_false_eq_true]))⟩
 have n2_:Aside0 (Kd.R (Kd.int .u64) 77 ((((w13.setCell ⟨gb292,0,none⟩ (.int .i64 t284)).setCell ⟨gb292,1,none⟩ (.slice Ao17 t285.length co17)).setCell ⟨gb293,0,none⟩ (.int .i64 t288)).setCell ⟨gb293,1,none⟩ (.slice Ao20 t289.length co20)) w.heap.size (fun k_=>some k_ ≠ (.slice Ao17 t285.length co17:Value).ownBlock) (.slice Ao20 t289.length co20) t289):=⟨by (with_reducible repeat (first|apply aR|apply nR|apply dR));exact Kd.R_mono (Kd.R_far (p:=⟨gb293,1,none⟩) (Kd.R_far (p:=⟨gb293,0,none⟩) (Kd.R_far (p:=⟨gb292,1,none⟩) (Kd.R_far (p:=⟨gb292,0,none⟩) (Kd.R_types (Kd.R_types HO291.out BK292.out (by decide)) BK293.out (by decide)) (by first|exact fun _ hk=>hk.1.2|(intro k_ hk;simp only [hk,ne_eq,and_self,not_false_eq_true])) (.int .i64 t284)) (by first|exact fun _ hk=>hk.1.2|(intro k_ hk;simp only [hk,ne_eq,and_self,not_false_eq_true])) (.slice Ao17 t285.length co17)) (by first|exact fun _ hk=>hk.2|(intro k_ hk;simp only [hk,ne_eq,and_self,not_false_eq_true])) (.int .i64 t288)) (by first|exact fun _ hk=>hk.2|(intro k_ hk;simp only [hk,ne_eq,and_self,not_false_eq_true])) (.slice Ao20 t289.length co20)) (by first|exact fun _ hk=>hk.1.1|(intro k_ hk;simp only [hk,ne_eq,and_self,not_false_eq_true]))⟩
 have n3_:Aside0 (((((w13.setCell ⟨gb292,0,none⟩ (.int .i64 t284)).setCell ⟨gb292,1,none⟩ (.slice Ao17 t285.length co17)).setCell ⟨gb293,0,none⟩ (.int .i64 t288)).setCell ⟨gb293,1,none⟩ (.slice Ao20 t289.length co20)).heap[gb279]? = some (.cells #[.int .i64 0,.slice none 0 0,.int .i64 0,.slice none 0 0,.slice none 0 0] 27 (0,0))):=⟨by (with_reducible repeat (first|apply nB|apply dB|apply aB));refine blk_far ?_ NB279_293.out _;(with_reducible repeat (first|apply nB|apply dB|apply aB));refine blk_far ?_ NB279_293.out _;(with_reducible repeat (first|apply nB|apply dB|apply aB));refine blk_far ?_ NB279_292.out _;(with_reducible repeat (first|apply nB|apply dB|apply aB));refine blk_far ?_ NB279_292.out _;(with_reducible repeat (first|apply nB|apply dB|apply aB));exact BK279.out⟩
 have n4_:Aside0 (((((w13.setCell ⟨gb292,0,none⟩ (.int .i64 t284)).setCell ⟨gb292,1,none⟩ (.slice Ao17 t285.length co17)).setCell ⟨gb293,0,none⟩ (.int .i64 t288)).setCell ⟨gb293,1,none⟩ (.slice Ao20 t289.length co20)).heap[gb292]? = some (.cells #[.int .i64 t284,.slice Ao17 t285.length co17] 25 (0,0))):=⟨by (with_reducible repeat (first|apply nB|apply dB|apply aB));refine blk_far ?_ NB292_293.out _;(with_reducible repeat (first|apply nB|apply dB|apply aB));refine blk_far ?_ NB292_293.out _;(with_reducible repeat (first|apply nB|apply dB|apply aB));refine blk_put (cs:=#[.int .i64 t284,.slice none 0 0]) ?_ 1 _ rfl;(with_reducible repeat (first|apply nB|apply dB|apply aB));refine blk_put (cs:=#[.int .i64 0,.slice none 0 0]) ?_ 0 _ rfl;(with_reducible repeat (first|apply nB|apply dB|apply aB));exact BK292.out⟩
 have n5_:Aside0 (((((w13.setCell ⟨gb292,0,none⟩ (.int .i64 t284)).setCell ⟨gb292,1,none⟩ (.slice Ao17 t285.length co17)).setCell ⟨gb293,0,none⟩ (.int .i64 t288)).setCell ⟨gb293,1,none⟩ (.slice Ao20 t289.length co20)).heap[gb293]? = some (.cells #[.int .i64 t288,.slice Ao20 t289.length co20] 25 (0,0))):=⟨by (with_reducible repeat (first|apply nB|apply dB|apply aB));refine blk_put (cs:=#[.int .i64 t288,.slice none 0 0]) ?_ 1 _ rfl;(with_reducible repeat (first|apply nB|apply dB|apply aB));refine blk_put (cs:=#[.int .i64 0,.slice none 0 0]) ?_ 0 _ rfl;(with_reducible repeat (first|apply nB|apply dB|apply aB));refine blk_far ?_ NB293_292.out _;(with_reducible repeat (first|apply nB|apply dB|apply aB));refine blk_far ?_ NB293_292.out _;(with_reducible repeat (first|apply nB|apply dB|apply aB));exact BK293.out⟩
 have n6_:Aside0 (Below w.heap.size w ((((w13.setCell ⟨gb292,0,none⟩ (.int .i64 t284)).setCell ⟨gb292,1,none⟩ (.slice Ao17 t285.length co17)).setCell ⟨gb293,0,none⟩ (.int .i64 t288)).setCell ⟨gb293,1,none⟩ (.slice Ao20 t289.length co20))):=⟨by repeat (first|(with_reducible first|exact HB.out|apply aZ|apply nZ|apply dZ|refine sZ ?_ GE279.out|refine sZ ?_ GE292.out|refine sZ ?_ GE293.out)|exact HB.out)⟩
 (try clear HO283)
 (try clear HO287)
 (try clear HO291)
 (try clear BK279)
 (try clear BK292)
 (try clear BK293)
 (try clear HB)
 generalize ((((w13.setCell ⟨gb292,0,none⟩ (.int .i64 t284)).setCell ⟨gb292,1,none⟩ (.slice Ao17 t285.length co17)).setCell ⟨gb293,0,none⟩ (.int .i64 t288)).setCell ⟨gb293,1,none⟩ (.slice Ao20 t289.length co20)) = w21 at n0_ n1_ n2_ n3_ n4_ n5_ n6_ ⊢
 have HO283:=n0_
 have HO287:=n1_
 have HO291:=n2_
 have BK279:=n3_
 have BK292:=n4_
 have BK293:=n5_
 have HB:=n6_
 clear n0_ n1_ n2_ n3_ n4_ n5_ n6_
 have n0_:=mk0 (dR HO283.out)
 have n1_:=mk0 (dR HO287.out)
 have n2_:=mk0 (dR HO291.out)
 have n3_:=mk0 (dB BK279.out)
 have n4_:=mk0 (dB BK292.out)
 have n5_:=mk0 (dB BK293.out)
 have n6_:=mk0 (dZ HB.out)
 clear HO283
 clear HO287
 clear HO291
 clear BK279
 clear BK292
 clear BK293
 clear HB
 have HO283:=n0_
 have HO287:=n1_
 have HO291:=n2_
 have BK279:=n3_
 have BK292:=n4_
 have BK293:=n5_
 have HB:=n6_
 clear n0_ n1_ n2_ n3_ n4_ n5_ n6_
 refine start_ (n:=8) (S:=fun w'=>w'.cell? ⟨gb292,0,none⟩ = some (.int .i64 t284) ∧ w'.cell? ⟨gb292,1,none⟩ = some (.slice Ao17 t285.length co17) ∧ w'.cell? ⟨gb293,0,none⟩ = some (.int .i64 t288) ∧ w'.cell? ⟨gb293,1,none⟩ = some (.slice Ao20 t289.length co20)) (ds:=[]) impl_PatchOf.m0 (by kernel_rfl) rfl rfl ⟨(blk_cell BK292.out 0).trans rfl,(blk_cell BK292.out 1).trans rfl,(blk_cell BK293.out 0).trans rfl,(blk_cell BK293.out 1).trans rfl⟩ (fun hHeld=>?_);refine with_tabW impl_PatchOf.tab4 impl_PatchOf.bits4 (fun HT_ HW_=>?_)
 generalize w21.drew = w22 at HO283 HO287 HO291 BK279 BK292 BK293 HB hHeld ⊢
 refine pure_ (i:=2) (N:=some 26) (v:=?_) (a':=?_) impl_PatchOf.m1 rfl rfl (any_of HT_.out (by kernel_rfl)) (fun _ _ _ h=>h) (Or.inl ⟨by rfl,?_⟩) ?_ ?_
 rotate_left
 ·intro w'
  go_simp
  with_reducible rfl
 rotate_left
 ·simp only [Act.put,sA,sO,sS,i64_w,i32_w]
  rfl
 refine take_ (i:=0) (N:=some 24) (v:=?_) (a':=?_) impl_PatchOf.m2 rfl rfl (take_ofW HT_.out HW_.out (by kernel_rfl)) (fun _ _ _ h=>h) (Or.inl ⟨by rfl,?_⟩) hHeld ?_ ?_
 rotate_left
 ·rintro w' ⟨s0,s1,s2,s3⟩
  go_simp
  with_reducible rfl
 rotate_left
 ·simp only [Act.put,sA,sO,sS,i64_w,i32_w]
  rfl
 refine take_ (i:=1) (N:=some 25) (v:=?_) (a':=?_) impl_PatchOf.m3 rfl rfl (take_ofW HT_.out HW_.out (by kernel_rfl)) (fun _ _ _ h=>h) (Or.inl ⟨by rfl,?_⟩) hHeld ?_ ?_
 rotate_left
 ·rintro w' ⟨s0,s1,s2,s3⟩
  go_simp
  with_reducible rfl
 rotate_left
 ·simp only [Act.put,sA,sO,sS,i64_w,i32_w]
  rfl
 refine take_ (i:=3) (N:=some 27) (v:=?_) (a':=?_) impl_PatchOf.m4 rfl rfl (take_ofW HT_.out HW_.out (by kernel_rfl)) (fun _ _ _ h=>h) (Or.inl ⟨by rfl,?_⟩) hHeld ?_ ?_
 rotate_left
 ·rintro w' ⟨s0,s1,s2,s3⟩
  go_simp
  with_reducible rfl
 rotate_left
 ·simp only [Act.put,sA,sO,sS,i64_w,i32_w]
  rfl
 refine one_ (i:=4) (N:=some 28) impl_PatchOf.m5 rfl rfl (one_of HT_.out (by kernel_rfl)) (by decide) (fun K hK=>?_)
 refine goes_ Try.func29 (by kernel_rfl) rfl #[.slice A1 l1.length c1,.agg #[.int .i64 t288,.slice Ao20 t289.length co20]] (by rfl) rfl rfl (by (try simp only [mA,mC,mN]);first|done|rfl|(simp only [List.length_drop,List.length_take];rfl)) ?_
 with_reducible refine (impl_unmarked.calls k _ _ l1 t288 _ _ t289 t294 _ ?side1 ?side2 ?side3 ?side4 A7.out).mono ?_
 (case side1=>repeat (first|exact (Kd.C_below HR1.out HB.out)|(with_reducible first|apply aC|apply nC|apply dC)))
 (case side2=>exact HC1.out)
 (case side3=>repeat (first|exact (Kd.R_reads' HO291.out).2.2|(with_reducible first|apply aC|apply nC|apply dC)))
 (case side4=>exact (Kd.R_reads' HO291.out).2.1)
 rintro e w23 ⟨v295,rfl,ho0,hb⟩
 refine⟨_,rfl,?_⟩
 have n0_:=mk0 (Kd.R_below (by (with_reducible repeat (first|apply aR|apply nR|apply dR));exact HO283.out) hb)
 have n1_:=mk0 (Kd.R_below (by (with_reducible repeat (first|apply aR|apply nR|apply dR));exact HO287.out) hb)
 have n2_:=mk0 (Kd.R_below (by (with_reducible repeat (first|apply aR|apply nR|apply dR));exact HO291.out) hb)
 have n3_:=mk0 (Kd.R_lower ho0 (below_size (by repeat (first|(with_reducible first|exact HB.out|apply aZ|apply nZ|apply dZ|refine sZ ?_ GE279.out|refine sZ ?_ GE292.out|refine sZ ?_ GE293.out)|exact HB.out))))
 have n4_:=mk0 (blk_below (g:=gb279) (o:=.cells #[.int .i64 0,.slice none 0 0,.int .i64 0,.slice none 0 0,.slice none 0 0] 27 (0,0)) (by (with_reducible repeat (first|apply nB|apply dB|apply aB));exact BK279.out) hb)
 have n5_:=mk0 (blk_below (g:=gb292) (o:=.cells #[.int .i64 t284,.slice Ao17 t285.length co17] 25 (0,0)) (by (with_reducible repeat (first|apply nB|apply dB|apply aB));exact BK292.out) hb)
 have n6_:=mk0 (blk_below (g:=gb293) (o:=.cells #[.int .i64 t288,.slice Ao20 t289.length co20] 25 (0,0)) (by (with_reducible repeat (first|apply nB|apply dB|apply aB));exact BK293.out) hb)
 have n7_:=mk0 (below_step (by repeat (first|(with_reducible first|exact HB.out|apply aZ|apply nZ|apply dZ|refine sZ ?_ GE279.out|refine sZ ?_ GE292.out|refine sZ ?_ GE293.out)|exact HB.out)) hb)
 clear HO283
 clear HO287
 clear HO291
 clear BK279
 clear BK292
 clear BK293
 clear HB
 have HO283:=n0_
 have HO287:=n1_
 have HO291:=n2_
 have HO296:=n3_
 have BK279:=n4_
 have BK292:=n5_
 have BK293:=n6_
 have HB:=n7_
 clear n0_ n1_ n2_ n3_ n4_ n5_ n6_ n7_
 (try clear hb)
 (try clear hb2)
 (try clear hk)
 (try clear hi)
 (try clear ho0)
 obtain⟨Ao24,co24,eo24⟩:=Kd.R_slice HO296.out
 (first|subst eo24|(injection eo24 with f1_ f2_ f3_;have f4_:=f1_.symm;have f5_:=f3_.symm;clear f1_ f2_ f3_;subst f4_;subst f5_))
 refine hK.out _ _ ⟨(blk_cell BK292.out 0).trans rfl,(blk_cell BK292.out 1).trans rfl,(blk_cell BK293.out 0).trans rfl,(blk_cell BK293.out 1).trans rfl⟩ (fun hHeld=>?_)
 clear hK K
 refine norm_ (a':=?_) ?_ ?_
 rotate_left
 ·show Act.put _ (some 28) _ = _
  simp only [Act.put,sA,sO,sS,i64_w,i32_w]
  rfl
 refine pure_ (i:=5) (N:=some 29) (v:=?_) (a':=?_) #[true,true,true,true,true,true,false,false] rfl rfl (any_of HT_.out (by kernel_rfl)) (fun _ _ _ h=>h) (Or.inl ⟨by rfl,?_⟩) ?_ ?_
 rotate_left
 ·intro w'
  go_simp
  with_reducible rfl
 rotate_left
 ·simp only [Act.put,sA,sO,sS,i64_w,i32_w]
  rfl
 refine one_ (i:=6) (N:=none) #[true,true,true,true,true,true,true,false] rfl rfl (one_of HT_.out (by kernel_rfl)) (by decide) (fun K hK=>?_)
 have hs25:w23.cell? ⟨gb279,0,none⟩ = some (.int .i64 0):=(blk_cell BK279.out 0).trans rfl
 have hfs25:=blk_frozen BK279.out 0
 have hns25_1:=NB292_279.out
 have hns25_2:=NB293_279.out
 have hms25_1:=NB279_292.out
 have hms25_2:=NB279_293.out
 have hs26:w23.cell? ⟨gb279,1,none⟩ = some (.slice none 0 0):=(blk_cell BK279.out 1).trans rfl
 have hfs26:=blk_frozen BK279.out 1
 have hns26_1:=NB292_279.out
 have hns26_2:=NB293_279.out
 have hms26_1:=NB279_292.out
 have hms26_2:=NB279_293.out
 have hs27:w23.cell? ⟨gb279,2,none⟩ = some (.int .i64 0):=(blk_cell BK279.out 2).trans rfl
 have hfs27:=blk_frozen BK279.out 2
 have hns27_1:=NB292_279.out
 have hns27_2:=NB293_279.out
 have hms27_1:=NB279_292.out
 have hms27_2:=NB279_293.out
 have hs28:w23.cell? ⟨gb279,3,none⟩ = some (.slice none 0 0):=(blk_cell BK279.out 3).trans rfl
 have hfs28:=blk_frozen BK279.out 3
 have hns28_1:=NB292_279.out
 have hns28_2:=NB293_279.out
 have hms28_1:=NB279_292.out
 have hms28_2:=NB279_293.out
 have hs29:w23.cell? ⟨gb279,4,none⟩ = some (.slice none 0 0):=(blk_cell BK279.out 4).trans rfl
 have hfs29:=blk_frozen BK279.out 4
 have hns29_1:=NB292_279.out
 have hns29_2:=NB293_279.out
 have hms29_1:=NB279_292.out
 have hms29_2:=NB279_293.out
 refine skip_ (w1:=?_) (by rfl) rfl ?_ ?_
 rotate_left
 ·go_simp
  rfl
 refine hK.out _ _ ⟨((cell_far (p:=⟨gb279,_,none⟩) NB292_279.out _).trans (((cell_far (p:=⟨gb279,_,none⟩) NB292_279.out _).trans (((cell_far (p:=⟨gb279,_,none⟩) NB292_279.out _).trans (((cell_far (p:=⟨gb279,_,none⟩) NB292_279.out _).trans (((cell_far (p:=⟨gb279,_,none⟩) NB292_279.out _).trans (hHeld.1)))))))))),((cell_far (p:=⟨gb279,_,none⟩) NB292_279.out _).trans (((cell_far (p:=⟨gb279,_,none⟩) NB292_279.out _).trans (((cell_far (p:=⟨gb279,_,none⟩) NB292_279.out _).trans (((cell_far (p:=⟨gb279,_,none⟩) NB292_279.out _).trans (((cell_far (p:=⟨gb279,_,none⟩) NB292_279.out _).trans (hHeld.2.1)))))))))),((cell_far (p:=⟨gb279,_,none⟩) NB293_279.out _).trans (((cell_far (p:=⟨gb279,_,none⟩) NB293_279.out _).trans (((cell_far (p:=⟨gb279,_,none⟩) NB293_279.out _).trans (((cell_far (p:=⟨gb279,_,none⟩) NB293_279.out _).trans (((cell_far (p:=⟨gb279,_,none⟩) NB293_279.out _).trans (hHeld.2.2.1)))))))))),((cell_far (p:=⟨gb279,_,none⟩) NB293_279.out _).trans (((cell_far (p:=⟨gb279,_,none⟩) NB293_279.out _).trans (((cell_far (p:=⟨gb279,_,none⟩) NB293_279.out _).trans (((cell_far (p:=⟨gb279,_,none⟩) NB293_279.out _).trans (((cell_far (p:=⟨gb279,_,none⟩) NB293_279.out _).trans (hHeld.2.2.2))))))))))⟩ (fun hHeld=>?_)
 clear hK K
 refine pure_ (i:=7) (N:=some 5) (v:=?_) (a':=?_) #[true,true,true,true,true,true,true,true] rfl rfl (any_of HT_.out (by kernel_rfl)) (fun _ _ _ h=>h) (Or.inl ⟨by rfl,?_⟩) ?_ ?_
 rotate_left
 ·intro w'
  go_simp
  with_reducible rfl
 rotate_left
 ·simp only [Act.put,sA,sO,sS,i64_w,i32_w]
  rfl
 refine done_ (done_of HT_.out (by kernel_rfl)) ?_
 try go_wp2
 refine bodyPost_ret (results_ct rfl _ _ gb279 27 #[.int .i64 t284,.slice Ao17 t285.length co17,.int .i64 t288,.slice Ao20 t289.length co20,.slice Ao24 t294.length co24] (0,0) _ rfl (by (with_reducible repeat (first|apply nB|apply dB|apply aB));refine blk_put (cs:=#[.int .i64 t284,.slice Ao17 t285.length co17,.int .i64 t288,.slice Ao20 t289.length co20,.slice none 0 0]) ?_ 4 _ rfl;(with_reducible repeat (first|apply nB|apply dB|apply aB));refine blk_put (cs:=#[.int .i64 t284,.slice Ao17 t285.length co17,.int .i64 t288,.slice none 0 0,.slice none 0 0]) ?_ 3 _ rfl;(with_reducible repeat (first|apply nB|apply dB|apply aB));refine blk_put (cs:=#[.int .i64 t284,.slice Ao17 t285.length co17,.int .i64 0,.slice none 0 0,.slice none 0 0]) ?_ 2 _ rfl;(with_reducible repeat (first|apply nB|apply dB|apply aB));refine blk_put (cs:=#[.int .i64 t284,.slice none 0 0,.int .i64 0,.slice none 0 0,.slice none 0 0]) ?_ 1 _ rfl;(with_reducible repeat (first|apply nB|apply dB|apply aB));refine blk_put (cs:=#[.int .i64 0,.slice none 0 0,.int .i64 0,.slice none 0 0,.slice none 0 0]) ?_ 0 _ rfl;(with_reducible repeat (first|apply nB|apply dB|apply aB));exact BK279.out) Try.underlying27 rfl (by kernel_rfl)) rfl ?_
 exact⟨_,_,_,by first|rfl|(simp [errW_none,errW_some] <;> rfl)|(simp [*,errW_none,errW_some] <;> rfl),by (with_reducible repeat (first|apply aR|apply nR|apply dR));exact Kd.R_mono (Kd.R_far (p:=⟨gb279,4,none⟩) (Kd.R_far (p:=⟨gb279,3,none⟩) (Kd.R_far (p:=⟨gb279,2,none⟩) (Kd.R_far (p:=⟨gb279,1,none⟩) (Kd.R_far (p:=⟨gb279,0,none⟩) (Kd.R_types HO287.out BK279.out (by decide)) (by first|exact fun _ hk=>hk.2|(intro k_ hk;simp only [hk,ne_eq,and_self,not_false_eq_true])) (.int .i64 t284)) (by first|exact fun _ hk=>hk.2|(intro k_ hk;simp only [hk,ne_eq,and_self,not_false_eq_true])) (.slice Ao17 t285.length co17)) (by first|exact fun _ hk=>hk.2|(intro k_ hk;simp only [hk,ne_eq,and_self,not_false_eq_true])) (.int .i64 t288)) (by first|exact fun _ hk=>hk.2|(intro k_ hk;simp only [hk,ne_eq,and_self,not_false_eq_true])) (.slice Ao20 t289.length co20)) (by first|exact fun _ hk=>hk.2|(intro k_ hk;simp only [hk,ne_eq,and_self,not_false_eq_true])) (.slice Ao24 t294.length co24)) (by first|exact fun _ hk=>hk.1|(intro k_ hk;simp only [hk,ne_eq,and_self,not_false_eq_true])),by (with_reducible repeat (first|apply aR|apply nR|apply dR));exact Kd.R_mono (Kd.R_far (p:=⟨gb279,4,none⟩) (Kd.R_far (p:=⟨gb279,3,none⟩) (Kd.R_far (p:=⟨gb279,2,none⟩) (Kd.R_far (p:=⟨gb279,1,none⟩) (Kd.R_far (p:=⟨gb279,0,none⟩) (Kd.R_types HO291.out BK279.out (by decide)) (by first|exact fun _ hk=>hk.2|(intro k_ hk;simp only [hk,ne_eq,and_self,not_false_eq_true])) (.int .i64 t284)) (by first|exact fun _ hk=>hk.2|(intro k_ hk;simp only [hk,ne_eq,and_self,not_false_eq_true])) (.slice Ao17 t285.length co17)) (by first|exact fun _ hk=>hk.2|(intro k_ hk;simp only [hk,ne_eq,and_self,not_false_eq_true])) (.int .i64 t288)) (by first|exact fun _ hk=>hk.2|(intro k_ hk;simp only [hk,ne_eq,and_self,not_false_eq_true])) (.slice Ao20 t289.length co20)) (by first|exact fun _ hk=>hk.2|(intro k_ hk;simp only [hk,ne_eq,and_self,not_false_eq_true])) (.slice Ao24 t294.length co24)) (by first|exact fun _ hk=>hk.1|(intro k_ hk;simp only [hk,ne_eq,and_self,not_false_eq_true])),by (with_reducible repeat (first|apply aR|apply nR|apply dR));exact Kd.R_mono (Kd.R_far (p:=⟨gb279,4,none⟩) (Kd.R_far (p:=⟨gb279,3,none⟩) (Kd.R_far (p:=⟨gb279,2,none⟩) (Kd.R_far (p:=⟨gb279,1,none⟩) (Kd.R_far (p:=⟨gb279,0,none⟩) (Kd.R_types HO296.out BK279.out (by decide)) (by first|exact fun _ hk=>hk.2|(intro k_ hk;simp only [hk,ne_eq,and_self,not_false_eq_true])) (.int .i64 t284)) (by first|exact fun _ hk=>hk.2|(intro k_ hk;simp only [hk,ne_eq,and_self,not_false_eq_true])) (.slice Ao17 t285.length co17)) (by first|exact fun _ hk=>hk.2|(intro k_ hk;simp only [hk,ne_eq,and_self,not_false_eq_true])) (.int .i64 t288)) (by first|exact fun _ hk=>hk.2|(intro k_ hk;simp only [hk,ne_eq,and_self,not_false_eq_true])) (.slice Ao20 t289.length co20)) (by first|exact fun _ hk=>hk.2|(intro k_ hk;simp only [hk,ne_eq,and_self,not_false_eq_true])) (.slice Ao24 t294.length co24)) (fun _ hk=>trivial),by repeat (first|(with_reducible first|exact HB.out|apply aZ|apply nZ|apply dZ|refine sZ ?_ GE279.out|refine sZ ?_ GE292.out|refine sZ ?_ GE293.out)|exact HB.out)⟩
end Go.Proofs.Ytdiemmcnekbfaaa.QFnPatchBack
