-- A walk, made by walk.py, a program of this session's.
import Derived.Test.YtadhngelhognaaaQFnExactShareOfx0
import Derived.Test.YtadhngelhognaaaQFnExactShareOfx4
import Derived.Test.YtadhngelhognaaaQFnExactShareOfx5
namespace Go.Proofs.Ytadhngelhognaaa.QFnExactShareOf
open Go.RowKit Go.Proofs.YtadhngelhognaaaW.PrintWords Go.Proofs.YtadhngelhognaaaW.PrintLast Go.Proofs.YtadhngelhognaaaW.PrintMore
set_option linter.unusedVariables false
set_option linter.unusedSimpArgs false
attribute [local go_sem] max2_int min2_int max_two min_two max_three min_three max_four min_four
def spec_CommonLen.f (k : Nat) (l0 : List Int) (l1 : List Int) : Option (Int) := (spec_l12Right.f l0).bind fun t276 => (if t276 = true then ((spec_l12Right.f l1).bind fun t277 => (if t277 = true then ((spec_l12Table.f k l0 l1).bind fun t278 => (if 0 < (t278.length : Int) then (if 0 < ((rd_L4 t278 0).length : Int) then (some (rd (rd_L4 t278 0) 0)) else (none)) else (none))) else (some (-1)))) else (some (-1)))
theorem spec_CommonLen.mono : ∀ a0 a1 k, LeO (spec_CommonLen.f k a0 a1) (spec_CommonLen.f (k + 1) a0 a1) := by
 intro a0 a1 k
 unfold spec_CommonLen.f
 repeat' first|(with_reducible first|exact spec_l12Table.mono _ _ _|exact LeO.refl _|exact LeO.none _|refine LeO.ite ?_ ?_|refine LeO.bind ?_ (fun _ => ?_))|exact LeO.none _|refine LeO.ite ?_ ?_|refine LeO.bind ?_ (fun _ => ?_)
set_option maxHeartbeats 8000000 in
set_option maxRecDepth 100000 in
theorem spec_CommonLen.calls (k : Nat) (A0 : Option Addr) (c0 : Nat) (l0 : List Int) (A1 : Option Addr) (c1 : Nat) (l1 : List Int) (r : Int) (w : World) (hr0 : Kd.C (Kd.int .i64) w A0 l0.length l0) (hc0 : l0.length ≤ c0) (hr1 : Kd.C (Kd.int .i64) w A1 l1.length l1) (hc1 : l1.length ≤ c1) (h : spec_CommonLen.f k l0 l1 = some r) :
  Calls Try.prog 36 #[.slice A0 l0.length c0, .slice A1 l1.length c1] w fun e w' => e = .returned (.int .i64 r) ∧ Below w.heap.size w w' := by
 have HR0:=mk0 hr0
 have HC0:=mk0 hc0
 clear hr0 hc0
 have HR1:=mk0 hr1
 have HC1:=mk0 hc1
 clear hr1 hc1
 have HB:=mk0 (Below.refl w.heap.size w)
 have H:((spec_l12Right.f l0).bind fun t276=>(if t276 = true then ((spec_l12Right.f l1).bind fun t277=>(if t277 = true then ((spec_l12Table.f k l0 l1).bind fun t278=>(if 0 < (t278.length:Int) then (if 0 < ((rd_L4 t278 0).length:Int) then (some (rd (rd_L4 t278 0) 0)) else (none)) else (none))) else (some (-1)))) else (some (-1)))) = some r:=h
 clear h
 replace H:=Option.bind_eq_some_iff.mp H
 obtain⟨t276,A30,H⟩:=H
 replace H:(if t276 = true then ((spec_l12Right.f l1).bind fun t277=>(if t277 = true then ((spec_l12Table.f k l0 l1).bind fun t278=>(if 0 < (t278.length:Int) then (if 0 < ((rd_L4 t278 0).length:Int) then (some (rd (rd_L4 t278 0) 0)) else (none)) else (none))) else (some (-1)))) else (some (-1))) = some r:=H
 have A3:=mk0 A30
 clear A30
 by_cases c4:t276 = true
 ·subst c4
  have H1:((spec_l12Right.f l1).bind fun t277=>(if t277 = true then ((spec_l12Table.f k l0 l1).bind fun t278=>(if 0 < (t278.length:Int) then (if 0 < ((rd_L4 t278 0).length:Int) then (some (rd (rd_L4 t278 0) 0)) else (none)) else (none))) else (some (-1)))) = some r:=by rw [if_pos rfl] at H;exact H
  clear H
  have H:=H1
  clear H1
  replace H:=Option.bind_eq_some_iff.mp H
  obtain⟨t277,A50,H⟩:=H
  replace H:(if t277 = true then ((spec_l12Table.f k l0 l1).bind fun t278=>(if 0 < (t278.length:Int) then (if 0 < ((rd_L4 t278 0).length:Int) then (some (rd (rd_L4 t278 0) 0)) else (none)) else (none))) else (some (-1))) = some r:=H
  have A5:=mk0 A50
  clear A50
  by_cases c6:t277 = true
  ·subst c6
   have H1:((spec_l12Table.f k l0 l1).bind fun t278=>(if 0 < (t278.length:Int) then (if 0 < ((rd_L4 t278 0).length:Int) then (some (rd (rd_L4 t278 0) 0)) else (none)) else (none))) = some r:=by rw [if_pos rfl] at H;exact H
   clear H
   have H:=H1
   clear H1
   replace H:=Option.bind_eq_some_iff.mp H
   obtain⟨t278,A70,H⟩:=H
   replace H:(if 0 < (t278.length:Int) then (if 0 < ((rd_L4 t278 0).length:Int) then (some (rd (rd_L4 t278 0) 0)) else (none)) else (none)) = some r:=H
   have A7:=mk0 A70
   clear A70
   by_cases c8:0 < (t278.length:Int)
   ·rw [if_pos c8] at H
    have c8b0:decide (0 < (t278.length:Int)) = true:=decide_eq_true c8
    (try simp only [hl281_0] at c8b0)
    have c8b1:decide (0 < t278.length) = true:=decide_eq_true (by omega)
    (try simp only [hl281_0] at c8b1)
    clear c8
    by_cases c9:0 < ((rd_L4 t278 0).length:Int)
    ·rw [if_pos c9] at H
     have c9b0:decide (0 < ((rd_L4 t278 0).length:Int)) = true:=decide_eq_true c9
     (try simp only [hl281_0] at c9b0)
     have c9b1:decide (0 < (rd_L4 t278 0).length) = true:=decide_eq_true (by omega)
     (try simp only [hl281_0] at c9b1)
     clear c9
     obtain rfl:=Option.some.inj H
     go_enter Try.func36,Try.ntmps36
     go_wp2_with (first|((with_reducible refine gate_callee (f:=58) rfl ?_);refine goesL_ (some 6) rfl rfl Try.func58 (by kernel_rfl) rfl #[.slice A0 l0.length c0] rfl (by (try simp only [mA,mC,mN]);first|done|rfl|(simp only [List.length_drop,List.length_take];done)|(simp only [List.length_drop,List.length_take];rfl)) ?_;(with_reducible refine (spec_l12Right.calls _ _ l0 true _ ?side1 ?side2 A3.out).mono ?_);(case side1=>repeat (first|exact HR0.out|(with_reducible first|apply aC|apply nC|apply dC)));(case side2=>exact HC0.out);rintro e w' ⟨rfl,⟨nd,rfl⟩⟩;refine⟨_,rfl,?_⟩)|(go_at_call 58;(with_reducible refine (spec_l12Right.calls _ _ l1 true _ ?side1 ?side2 A5.out).mono ?_);(case side1=>repeat (first|exact HR1.out|(with_reducible first|apply aC|apply nC|apply dC)));(case side2=>exact HC1.out);rintro e w' ⟨rfl,⟨nd,rfl⟩⟩)|((with_reducible refine gate_callee (f:=59) rfl ?_);refine goesL_ (some 15) rfl rfl Try.func59 (by kernel_rfl) rfl #[.slice A0 l0.length c0,.slice A1 l1.length c1] rfl (by (try simp only [mA,mC,mN]);first|done|rfl|(simp only [List.length_drop,List.length_take];done)|(simp only [List.length_drop,List.length_take];rfl)) ?_;(with_reducible refine (spec_l12Table.calls k _ _ l0 _ _ l1 t278 _ ?side1 ?side2 ?side3 ?side4 A7.out).mono ?_);(case side1=>repeat (first|exact HR0.out|(with_reducible first|apply aC|apply nC|apply dC)));(case side2=>exact HC0.out);(case side3=>repeat (first|exact HR1.out|(with_reducible first|apply aC|apply nC|apply dC)));(case side4=>exact HC1.out);rintro e w10 ⟨v279,rfl,ho0,hb⟩;refine⟨_,rfl,?_⟩;have HO280:=mk0 (Kd.S_lower ho0 (kZ HB.out));replace HB:=mk0 (kS HB.out hb);(try clear hb);(try clear ho0);obtain⟨Ao11,co11,eo11⟩:=Kd.S_slice HO280.out;subst eo11;have p281:0 ≤ (0:Int):=(by omega);have q281:0 < (t278.length:Int):=of_decide_eq_true (by first|(with_reducible assumption)|assumption);obtain⟨ad281,A281_0,c281_0,e281,hx281_0,hl281_0,hi281_0⟩:=at_L4 (Kd.S_reads' HO280.out).2.2 0 p281 q281;cases e281;obtain⟨ce281,hce281,hMe281,hcc281⟩:=Kd.S_get HO280.out [] 0 p281 (by first|exact q281|exact of_decide_eq_true (by first|(with_reducible assumption)|assumption)|(have e_:=(Kd.S_reads' HO280.out).1;omega));obtain⟨ve281_0,rfl,ge281_0⟩:=hMe281;have hv281_0:=hcc281 0 _ rfl;rw [Nat.add_zero,show ((Kd.slice 3 (Kd.int .i64))).sz = 1 from rfl,Nat.mul_one] at hv281_0;replace hv281_0:=Option.some.inj (hv281_0.symm.trans hx281_0);rw [hv281_0] at ge281_0;have HL281_0:=mk0 (show Kd.R (Kd.int .i64) 3 _ _ _ _ (rd_L4 t278 0) from ge281_0);clear hv281_0 ge281_0 hcc281 hce281;have qi281:(0 < t278.length) = True:=eq_true (by omega);(try rw [show ((0:Int)).toNat = 0 from rfl] at hx281_0);(try rw [Addr.add_zero'] at hx281_0);have HR281_0:=mk0 hi281_0;have HC281_0:=mk0 hl281_0;clear hi281_0 hl281_0;replace p281:=eq_true p281;replace q281:=eq_true q281;have p282:0 ≤ (0:Int):=(by omega);have q282:0 < ((rd_L4 t278 0).length:Int):=of_decide_eq_true (by first|(with_reducible assumption)|assumption);obtain⟨ad282,e282,hx282_0⟩:=Kd.at_int (by repeat (first|(with_reducible exact HR281_0.out)|(with_reducible first|apply aC|apply nC|apply dC)|exact HR281_0.out|exact (Kd.V_reads' HL281_0.out).2.2)) 0 p282 q282;cases e282;have qi282:(0 < (rd_L4 t278 0).length) = True:=eq_true (by omega);(try rw [show ((0:Int)).toNat = 0 from rfl] at hx282_0);(try rw [Addr.add_zero'] at hx282_0);replace p282:=eq_true p282;replace q282:=eq_true q282))
     go_ret
     exact⟨by first|rfl|(simp [errW_none,errW_some] <;> rfl)|(simp [*,errW_none,errW_some] <;> rfl),kB HB.out⟩
    ·rw [if_neg c9] at H
     exact absurd H (by simp)
   ·rw [if_neg c8] at H
    exact absurd H (by simp)
  ·replace c6:=Bool.eq_false_iff.mpr c6
   subst c6
   have H1:(some (-1)) = some r:=by rw [if_neg (show ¬ (false = true) by decide)] at H;exact H
   clear H
   have H:=H1
   clear H1
   obtain rfl:=Option.some.inj H
   go_enter Try.func36,Try.ntmps36
   go_wp2_with (first|((with_reducible refine gate_callee (f:=58) rfl ?_);refine goesL_ (some 6) rfl rfl Try.func58 (by kernel_rfl) rfl #[.slice A0 l0.length c0] rfl (by (try simp only [mA,mC,mN]);first|done|rfl|(simp only [List.length_drop,List.length_take];done)|(simp only [List.length_drop,List.length_take];rfl)) ?_;(with_reducible refine (spec_l12Right.calls _ _ l0 true _ ?side1 ?side2 A3.out).mono ?_);(case side1=>repeat (first|exact HR0.out|(with_reducible first|apply aC|apply nC|apply dC)));(case side2=>exact HC0.out);rintro e w' ⟨rfl,⟨nd,rfl⟩⟩;refine⟨_,rfl,?_⟩)|(go_at_call 58;(with_reducible refine (spec_l12Right.calls _ _ l1 false _ ?side1 ?side2 A5.out).mono ?_);(case side1=>repeat (first|exact HR1.out|(with_reducible first|apply aC|apply nC|apply dC)));(case side2=>exact HC1.out);rintro e w' ⟨rfl,⟨nd,rfl⟩⟩))
   go_ret
   exact⟨by first|rfl|(simp [errW_none,errW_some] <;> rfl)|(simp [*,errW_none,errW_some] <;> rfl),kB HB.out⟩
 ·replace c4:=Bool.eq_false_iff.mpr c4
  subst c4
  have H1:(some (-1)) = some r:=by rw [if_neg (show ¬ (false = true) by decide)] at H;exact H
  clear H
  have H:=H1
  clear H1
  obtain rfl:=Option.some.inj H
  go_enter Try.func36,Try.ntmps36
  go_wp2_with (first|((with_reducible refine gate_callee (f:=58) rfl ?_);refine goesL_ (some 6) rfl rfl Try.func58 (by kernel_rfl) rfl #[.slice A0 l0.length c0] rfl (by (try simp only [mA,mC,mN]);first|done|rfl|(simp only [List.length_drop,List.length_take];done)|(simp only [List.length_drop,List.length_take];rfl)) ?_;(with_reducible refine (spec_l12Right.calls _ _ l0 false _ ?side1 ?side2 A3.out).mono ?_);(case side1=>repeat (first|exact HR0.out|(with_reducible first|apply aC|apply nC|apply dC)));(case side2=>exact HC0.out);rintro e w' ⟨rfl,⟨nd,rfl⟩⟩;refine⟨_,rfl,?_⟩))
  go_ret
  exact⟨by first|rfl|(simp [errW_none,errW_some] <;> rfl)|(simp [*,errW_none,errW_some] <;> rfl),kB HB.out⟩
mutual
def spec_CommonOf.j0 : Nat → List Int → List Int → Bool → Option ((List (S56)))
 | 0, _, _, _ => none
 | k + 1, x0, x1, x19 => if x19 = true then (some ([] : List (S56))) else ((spec_l12Table.f k x0 x1).bind fun t285 => (spec_CommonOf.l0 k x0 x1 (([] : List (S56))) 0 0 t285))
def spec_CommonOf.l0 : Nat → List Int → List Int → List (S56) → Int → Int → List (List Int) → Option ((List (S56)))
 | 0, _, _, _, _, _, _ => none
 | k + 1, x0, x1, x6, x7, x8, x22 => if 0 ≤ x7 then (if x7 < (x22.length : Int) then (if 0 ≤ x8 then (if x8 < ((rd_L4 x22 x7).length : Int) then (if (rd (rd_L4 x22 x7) x8) > 0 then (spec_CommonOf.l1 k x0 x1 x6 x7 x8 x7 (-1) x22) else (some x6)) else (none)) else (none)) else (none)) else (none)
def spec_CommonOf.l1 : Nat → List Int → List Int → List (S56) → Int → Int → Int → Int → List (List Int) → Option ((List (S56)))
 | 0, _, _, _, _, _, _, _, _ => none
 | k + 1, x0, x1, x6, x7, x8, x9, x10, x22 => if x10 < 0 then (spec_CommonOf.l2 k x0 x1 x6 x7 x8 x9 x10 (wrap64 ((x1.length : Int) - 1)) x22) else (if x6.length < 8796093022208 then (spec_CommonOf.l0 k x0 x1 (x6 ++ [(⟨wrap64 (x9 - 1), x10⟩ : S56)]) x9 (wrap64 (x10 + 1)) x22) else (none))
def spec_CommonOf.l2 : Nat → List Int → List Int → List (S56) → Int → Int → Int → Int → Int → List (List Int) → Option ((List (S56)))
 | 0, _, _, _, _, _, _, _, _, _ => none
 | k + 1, x0, x1, x6, x7, x8, x9, x10, x11, x22 => if x11 ≥ x8 then (if 0 ≤ x9 then (if x9 < (x0.length : Int) then (if 0 ≤ x11 then (if x11 < (x1.length : Int) then (if (rd x0 x9) = (rd x1 x11) then (if 0 ≤ (wrap64 (x9 + 1)) then (if (wrap64 (x9 + 1)) < (x22.length : Int) then (if 0 ≤ (wrap64 (x11 + 1)) then (if (wrap64 (x11 + 1)) < ((rd_L4 x22 (wrap64 (x9 + 1))).length : Int) then (if 0 ≤ x7 then (if x7 < (x22.length : Int) then (if 0 ≤ x8 then (if x8 < ((rd_L4 x22 x7).length : Int) then (if (wrap64 (1 + (rd (rd_L4 x22 (wrap64 (x9 + 1))) (wrap64 (x11 + 1))))) = (rd (rd_L4 x22 x7) x8) then (spec_CommonOf.l2 k x0 x1 x6 x7 x8 x9 x11 (wrap64 (x11 - 1)) x22) else (spec_CommonOf.l2 k x0 x1 x6 x7 x8 x9 x10 (wrap64 (x11 - 1)) x22)) else (none)) else (none)) else (none)) else (none)) else (none)) else (none)) else (none)) else (none)) else (spec_CommonOf.l2 k x0 x1 x6 x7 x8 x9 x10 (wrap64 (x11 - 1)) x22)) else (none)) else (none)) else (none)) else (none)) else (spec_CommonOf.l1 k x0 x1 x6 x7 x8 (wrap64 (x9 + 1)) x10 x22)
end
def spec_CommonOf.f (k : Nat) (l0 : List Int) (l1 : List Int) : Option ((List (S56))) := (spec_l12Right.f l0).bind fun t283 => (if t283 = true then ((spec_l12Right.f l1).bind fun t284 => (spec_CommonOf.j0 k l0 l1 (!t284))) else (spec_CommonOf.j0 k l0 l1 true))
theorem spec_CommonOf.mono_l : ∀ k, (∀ y0 y1 y2, LeO (spec_CommonOf.j0 k y0 y1 y2) (spec_CommonOf.j0 (k + 1) y0 y1 y2)) ∧ (∀ y0 y1 y2 y3 y4 y5, LeO (spec_CommonOf.l0 k y0 y1 y2 y3 y4 y5) (spec_CommonOf.l0 (k + 1) y0 y1 y2 y3 y4 y5)) ∧ (∀ y0 y1 y2 y3 y4 y5 y6 y7, LeO (spec_CommonOf.l1 k y0 y1 y2 y3 y4 y5 y6 y7) (spec_CommonOf.l1 (k + 1) y0 y1 y2 y3 y4 y5 y6 y7)) ∧ (∀ y0 y1 y2 y3 y4 y5 y6 y7 y8, LeO (spec_CommonOf.l2 k y0 y1 y2 y3 y4 y5 y6 y7 y8) (spec_CommonOf.l2 (k + 1) y0 y1 y2 y3 y4 y5 y6 y7 y8))
 | 0 => ⟨fun _ _ _ r h => by simp [spec_CommonOf.j0] at h, fun _ _ _ _ _ _ r h => by simp [spec_CommonOf.l0] at h, fun _ _ _ _ _ _ _ _ r h => by simp [spec_CommonOf.l1] at h, fun _ _ _ _ _ _ _ _ _ r h => by simp [spec_CommonOf.l2] at h⟩
 | k + 1 => by
  obtain ⟨ih0, ih1, ih2, ih3⟩ := spec_CommonOf.mono_l k
  refine ⟨?_, ?_, ?_, ?_⟩
  ·intro y0 y1 y2
   unfold spec_CommonOf.j0
   repeat' first|(with_reducible first|exact ih0 _ _ _|exact ih1 _ _ _ _ _ _|exact ih2 _ _ _ _ _ _ _ _|exact ih3 _ _ _ _ _ _ _ _ _|exact spec_l12Table.mono _ _ _|exact LeO.refl _|exact LeO.none _|refine LeO.ite ?_ ?_|refine LeO.bind ?_ (fun _ => ?_))|exact LeO.none _|refine LeO.ite ?_ ?_|refine LeO.bind ?_ (fun _ => ?_)
  ·intro y0 y1 y2 y3 y4 y5
   unfold spec_CommonOf.l0
   repeat' first|(with_reducible first|exact ih0 _ _ _|exact ih1 _ _ _ _ _ _|exact ih2 _ _ _ _ _ _ _ _|exact ih3 _ _ _ _ _ _ _ _ _|exact spec_l12Table.mono _ _ _|exact LeO.refl _|exact LeO.none _|refine LeO.ite ?_ ?_|refine LeO.bind ?_ (fun _ => ?_))|exact LeO.none _|refine LeO.ite ?_ ?_|refine LeO.bind ?_ (fun _ => ?_)
  ·intro y0 y1 y2 y3 y4 y5 y6 y7
   unfold spec_CommonOf.l1
   repeat' first|(with_reducible first|exact ih0 _ _ _|exact ih1 _ _ _ _ _ _|exact ih2 _ _ _ _ _ _ _ _|exact ih3 _ _ _ _ _ _ _ _ _|exact spec_l12Table.mono _ _ _|exact LeO.refl _|exact LeO.none _|refine LeO.ite ?_ ?_|refine LeO.bind ?_ (fun _ => ?_))|exact LeO.none _|refine LeO.ite ?_ ?_|refine LeO.bind ?_ (fun _ => ?_)
  ·intro y0 y1 y2 y3 y4 y5 y6 y7 y8
   unfold spec_CommonOf.l2
   repeat' first|(with_reducible first|exact ih0 _ _ _|exact ih1 _ _ _ _ _ _|exact ih2 _ _ _ _ _ _ _ _|exact ih3 _ _ _ _ _ _ _ _ _|exact spec_l12Table.mono _ _ _|exact LeO.refl _|exact LeO.none _|refine LeO.ite ?_ ?_|refine LeO.bind ?_ (fun _ => ?_))|exact LeO.none _|refine LeO.ite ?_ ?_|refine LeO.bind ?_ (fun _ => ?_)
theorem spec_CommonOf.mono : ∀ a0 a1 k, LeO (spec_CommonOf.f k a0 a1) (spec_CommonOf.f (k + 1) a0 a1) := by
 intro a0 a1 k
 obtain ⟨ih0, ih1, ih2, ih3⟩ := spec_CommonOf.mono_l k
 unfold spec_CommonOf.f
 repeat' first|(with_reducible first|exact ih0 _ _ _|exact ih1 _ _ _ _ _ _|exact ih2 _ _ _ _ _ _ _ _|exact ih3 _ _ _ _ _ _ _ _ _|exact spec_l12Table.mono _ _ _|exact LeO.refl _|exact LeO.none _|refine LeO.ite ?_ ?_|refine LeO.bind ?_ (fun _ => ?_))|exact LeO.none _|refine LeO.ite ?_ ?_|refine LeO.bind ?_ (fun _ => ?_)
set_option maxHeartbeats 8000000 in
set_option maxRecDepth 100000 in
theorem spec_CommonOf.calls (k : Nat) (A0 : Option Addr) (c0 : Nat) (l0 : List Int) (A1 : Option Addr) (c1 : Nat) (l1 : List Int) (r : List (S56)) (w : World) (hr0 : Kd.C (Kd.int .i64) w A0 l0.length l0) (hc0 : l0.length ≤ c0) (hr1 : Kd.C (Kd.int .i64) w A1 l1.length l1) (hc1 : l1.length ≤ c1) (h : spec_CommonOf.f k l0 l1 = some r) :
  Calls Try.prog 66 #[.slice A0 l0.length c0, .slice A1 l1.length c1] w fun e w' => ∃ v0_ : Value, e = .returned (v0_) ∧ Kd.R k56 56 w' w.heap.size (fun _ => True) v0_ r ∧ Below w.heap.size w w' := by
 have hu56:=Try.underlying56
 have HR0:=mk0 hr0
 have HC0:=mk0 hc0
 clear hr0 hc0
 have HR1:=mk0 hr1
 have HC1:=mk0 hc1
 clear hr1 hc1
 have HB:=mk0 (Below.refl w.heap.size w)
 have H:((spec_l12Right.f l0).bind fun t283=>(if t283 = true then ((spec_l12Right.f l1).bind fun t284=>(spec_CommonOf.j0 k l0 l1 (!t284))) else (spec_CommonOf.j0 k l0 l1 true))) = some r:=h
 clear h
 have HC3:=mk0 H
 clear H
 go_enter Try.func66,Try.ntmps66
 go_upto_region 1 with (fail)
 go_cut [19] (fun v19 wc=>∃ (kq:Nat) (x19_2:Bool),v19 = .bool x19_2 ∧ Aside0 (spec_CommonOf.j0 kq l0 l1 x19_2 = some r) ∧ Aside0 (kq ≤ k) ∧ Aside0 (Below w.heap.size w wc))
 case first =>
  have H:=HC3.out
  clear HC3
  replace H:=Option.bind_eq_some_iff.mp H
  obtain⟨t283,A40,H⟩:=H
  replace H:(if t283 = true then ((spec_l12Right.f l1).bind fun t284=>(spec_CommonOf.j0 k l0 l1 (!t284))) else (spec_CommonOf.j0 k l0 l1 true)) = some r:=H
  have A4:=mk0 A40
  clear A40
  by_cases c5:t283 = true
  rotate_left
  ·replace c5:=Bool.eq_false_iff.mpr c5
   subst c5
   have H1:(spec_CommonOf.j0 k l0 l1 true) = some r:=by rw [if_neg (show ¬ (false = true) by decide)] at H;exact H
   clear H
   have H:=H1
   clear H1
   have H':=mk0 H
   clear H
   go_wp2_with (first|(go_at_call 58;(with_reducible refine (spec_l12Right.calls _ _ l0 false _ ?side1 ?side2 A4.out).mono ?_);(case side1=>exact kC (Kd.C_below HR0.out HB.out));(case side2=>exact HC0.out);rintro e w' ⟨rfl,⟨nd,rfl⟩⟩;(try first|exact⟨rfl,_,World.drewN_drewN _ _ _⟩|exact⟨rfl,_,Eq.trans (World.drewN_drewN _ _ _) (congrArg (World.drewN _) (Nat.add_assoc _ _ _))⟩)))
   go_meet
   case rel=>exact⟨_,(true),(by first|rfl|(simp;done)|(simp [*];done)),H',⟨by first|omega|exact Nat.le_refl _⟩,⟨kB HB.out⟩⟩
  subst c5
  have H1:((spec_l12Right.f l1).bind fun t284=>(spec_CommonOf.j0 k l0 l1 (!t284))) = some r:=by rw [if_pos rfl] at H;exact H
  clear H
  have H:=H1
  clear H1
  replace H:=Option.bind_eq_some_iff.mp H
  obtain⟨t284,A60,H⟩:=H
  replace H:(spec_CommonOf.j0 k l0 l1 (!t284)) = some r:=H
  have A6:=mk0 A60
  clear A60
  have H':=mk0 H
  clear H
  go_wp2_with (first|(go_at_call 58;(with_reducible refine (spec_l12Right.calls _ _ l0 true _ ?side1 ?side2 A4.out).mono ?_);(case side1=>exact kC (Kd.C_below HR0.out HB.out));(case side2=>exact HC0.out);rintro e w' ⟨rfl,⟨nd,rfl⟩⟩;(try first|exact⟨rfl,_,World.drewN_drewN _ _ _⟩|exact⟨rfl,_,Eq.trans (World.drewN_drewN _ _ _) (congrArg (World.drewN _) (Nat.add_assoc _ _ _))⟩))|(go_at_call 58;(with_reducible refine (spec_l12Right.calls _ _ l1 t284 _ ?side1 ?side2 A6.out).mono ?_);(case side1=>repeat (first|exact (Kd.C_below HR1.out (kB HB.out))|(with_reducible first|apply aC|apply nC|apply dC)));(case side2=>exact HC1.out);rintro e w' ⟨rfl,⟨nd,rfl⟩⟩;(try first|exact⟨rfl,_,World.drewN_drewN _ _ _⟩|exact⟨rfl,_,Eq.trans (World.drewN_drewN _ _ _) (congrArg (World.drewN _) (Nat.add_assoc _ _ _))⟩)))
  go_meet
  case rel=>exact⟨_,(!t284),(by first|rfl|(simp;done)|(simp [*];done)),H',⟨by first|omega|exact Nat.le_refl _⟩,⟨kB HB.out⟩⟩
 case rest =>
  clear HC3
  try clear c1
  try clear p2
  try clear c5
  try clear c6
  obtain⟨kq,x19_2,rfl,HA,HJ2,HB⟩:=hcut
  cases kq with
  | zero=>exact absurd HA.out (by simp [spec_CommonOf.j0])
  | succ kj2 =>
   have H:=HA.out
   clear HA
   simp only [spec_CommonOf.j0] at H
   by_cases c7:x19_2 = true
   ·subst c7
    have H1:(some ([]:List (S56))) = some r:=by rw [if_pos rfl] at H;exact H
    clear H
    have H:=H1
    clear H1
    obtain rfl:=Option.some.inj H
    go_wp2
    go_ret
    exact⟨_,by first|rfl|(simp [errW_none,errW_some] <;> rfl)|(simp [*,errW_none,errW_some] <;> rfl),by first|exact Kd.R_nil _ _ _ _ _|exact Kd.N_nil _ _ _ _ _|exact Kd.V_nil _ _ _ _ _|exact Kd.Q_nil _ _ _ _ _|exact Kd.S_nil _ _ _ _ _,kB HB.out⟩
   replace c7:=Bool.eq_false_iff.mpr c7
   subst c7
   have H1:((spec_l12Table.f kj2 l0 l1).bind fun t285=>(spec_CommonOf.l0 kj2 l0 l1 (([]:List (S56))) 0 0 t285)) = some r:=by rw [if_neg (show ¬ (false = true) by decide)] at H;exact H
   clear H
   have H:=H1
   clear H1
   replace H:=Option.bind_eq_some_iff.mp H
   obtain⟨t285,A80,H⟩:=H
   replace H:(spec_CommonOf.l0 kj2 l0 l1 (([]:List (S56))) 0 0 t285) = some r:=H
   have A8:=mk0 A80
   clear A80
   obtain⟨y288,hy288⟩:∃ y_:List (S56),y_ = (([]:List (S56))):=⟨_,rfl⟩
   replace H:(spec_CommonOf.l0 kj2 l0 l1 y288 0 0 t285) = some r:=by first|(rw [hy288];with_reducible exact H)|(have H2_:=(Option.bind_some _ _).symm.trans H;rw [hy288];with_reducible exact H2_)|(have H2_:=(Option.bind_some _ _).symm.trans H;with_reducible exact H2_)|with_reducible exact H|(rw [hy288];exact H)|exact H
   have Ny288:=mk0 hy288
   clear hy288
   have H':=mk0 H
   clear H
   go_wp2_with (first|(go_at_call 59;(with_reducible refine (spec_l12Table.calls kj2 _ _ l0 _ _ l1 t285 _ ?side1 ?side2 ?side3 ?side4 A8.out).mono ?_);(case side1=>exact kC (Kd.C_below HR0.out HB.out));(case side2=>exact HC0.out);(case side3=>exact kC (Kd.C_below HR1.out HB.out));(case side4=>exact HC1.out);rintro e w9 ⟨v286,rfl,ho0,hb⟩;have HO287:=mk0 (Kd.S_lower ho0 (kZ HB.out));replace HB:=mk0 (kS HB.out hb);(try clear hb);(try clear ho0))|((with_reducible refine gate_dst (N:=23) rfl ?_);refine Kd.R_lit k56 _ 56 ?hg (N:=23) ?hd (xs:=([]:List (S56))) (inner:=[]) (ok:=fun _=>True) (okp:=fun _=>True) ?hr ?hp (fun _ hk=>hk) trivial (Below.refl _ _) (Nat.le_refl _) (by simp) ?_;(case hd=>rfl);(case hg=>rfl);(case hr=>first|(go_simp;done)|(go_simp;rfl));(case hp=>exact (Reps.none _ _));intro v289 w10 ho11 hb hg_ hnew_;clear hg_ hnew_;(first|rw [← Ny288.out] at ho11|(simp only [Int.reduceToNat] at ho11;rw [← Ny288.out] at ho11));replace HO287:=mk0 (bS HO287.out hb);have HO290:=mk0 (Kd.R_lower ho11 (kZ HB.out));replace HB:=mk0 (kS HB.out hb);clear hb ho11))
   go_loopg [6,7,8] kj2 (fun kq v6 v7 v8 w'=>∃ (x6_2:List (S56)) (x7_2:Int) (x8_2:Int),v7 = .int .i64 x7_2 ∧ v8 = .int .i64 x8_2 ∧ Aside0 (spec_CommonOf.l0 kq l0 l1 x6_2 x7_2 x8_2 t285 = some r) ∧ Aside0 (kq ≤ kj2) ∧ Aside0 (Kd.R k56 56 w' w.heap.size (fun _=>True) v6 x6_2) ∧ Aside0 (Kd.S (Kd.slice 3 (Kd.int .i64)) 45 w' w.heap.size (fun _=>True) v286 t285) ∧ Aside0 (Below w.heap.size w w'))
   case atStart=>exact⟨(y288),(0),(0),(by first|rfl|(simp;done)|(simp [*];done)),(by first|rfl|(simp;done)|(simp [*];done)),H',⟨Nat.le_refl _⟩,⟨rR HO290.out⟩,⟨rS HO287.out⟩,⟨kB HB.out⟩⟩
   case round =>
    clear H'
    try clear c1
    try clear p2
    try clear c5
    try clear c6
    try clear c7
    try clear p2
    obtain⟨x6_2,x7_2,x8_2,rfl,rfl,HA,HK2,HO_6,HO_22,HB⟩:=hrel
    cases gk with
    | zero=>exact absurd HA.out (by simp [spec_CommonOf.l0])
    | succ k2 =>
     have H:=HA.out
     clear HA
     simp only [spec_CommonOf.l0] at H
     by_cases c12:0 ≤ x7_2
     rotate_left
     ·rw [if_neg c12] at H
      exact absurd H (by simp)
     rw [if_pos c12] at H
     have c12b0:decide (0 ≤ x7_2) = true:=decide_eq_true c12
     clear c12
     by_cases c13:x7_2 < (t285.length:Int)
     rotate_left
     ·rw [if_neg c13] at H
      exact absurd H (by simp)
     rw [if_pos c13] at H
     have c13b0:decide (x7_2 < (t285.length:Int)) = true:=decide_eq_true c13
     (try simp only [hl291_0] at c13b0)
     (try simp only [hl298_0] at c13b0)
     (try simp only [hl300_0] at c13b0)
     clear c13
     by_cases c14:0 ≤ x8_2
     rotate_left
     ·rw [if_neg c14] at H
      exact absurd H (by simp)
     rw [if_pos c14] at H
     have c14b0:decide (0 ≤ x8_2) = true:=decide_eq_true c14
     clear c14
     by_cases c15:x8_2 < ((rd_L4 t285 x7_2).length:Int)
     rotate_left
     ·rw [if_neg c15] at H
      exact absurd H (by simp)
     rw [if_pos c15] at H
     have c15b0:decide (x8_2 < ((rd_L4 t285 x7_2).length:Int)) = true:=decide_eq_true c15
     (try simp only [hl291_0] at c15b0)
     (try simp only [hl298_0] at c15b0)
     (try simp only [hl300_0] at c15b0)
     clear c15
     by_cases c16:(rd (rd_L4 t285 x7_2) x8_2) > 0
     rotate_left
     ·rw [if_neg c16] at H
      have c16b0:decide (0 < (rd (rd_L4 t285 x7_2) x8_2)) = false:=decide_eq_false c16
      clear c16
      obtain rfl:=Option.some.inj H
      obtain⟨Ao38,co38,eo38⟩:=Kd.S_slice HO_22.out
      subst eo38
      have p291:0 ≤ (x7_2:Int):=of_decide_eq_true (by first|(with_reducible assumption)|assumption)
      have q291:x7_2 < (t285.length:Int):=of_decide_eq_true (by first|(with_reducible assumption)|assumption)
      obtain⟨ad291,A291_0,c291_0,e291,hx291_0,hl291_0,hi291_0⟩:=at_L4 (Kd.S_reads' HO_22.out).2.2 x7_2 p291 q291
      cases e291
      obtain⟨ce291,hce291,hMe291,hcc291⟩:=Kd.S_get HO_22.out [] x7_2 p291 (by first|exact q291|exact of_decide_eq_true (by first|(with_reducible assumption)|assumption)|(have e_:=(Kd.S_reads' HO_22.out).1;omega))
      obtain⟨ve291_0,rfl,ge291_0⟩:=hMe291
      have hv291_0:=hcc291 0 _ rfl
      rw [Nat.add_zero,show ((Kd.slice 3 (Kd.int .i64))).sz = 1 from rfl,Nat.mul_one] at hv291_0
      replace hv291_0:=Option.some.inj (hv291_0.symm.trans hx291_0)
      rw [hv291_0] at ge291_0
      have HL291_0:=mk0 (show Kd.R (Kd.int .i64) 3 _ _ _ _ (rd_L4 t285 x7_2) from ge291_0)
      clear hv291_0 ge291_0
      clear hcc291 hce291
      have HR291_0:=mk0 hi291_0
      have HC291_0:=mk0 hl291_0
      clear hi291_0 hl291_0
      replace p291:=eq_true p291
      replace q291:=eq_true q291
      have p292:0 ≤ (x8_2:Int):=of_decide_eq_true (by first|(with_reducible assumption)|assumption)
      have q292:x8_2 < ((rd_L4 t285 x7_2).length:Int):=of_decide_eq_true (by first|(with_reducible assumption)|assumption)
      obtain⟨ad292,e292,hx292_0⟩:=Kd.at_int (by repeat (first|(with_reducible exact HR291_0.out)|(with_reducible first|apply aC|apply nC|apply dC)|exact HR291_0.out|exact (Kd.V_reads' HL291_0.out).2.2)) x8_2 p292 q292
      cases e292
      replace p292:=eq_true p292
      replace q292:=eq_true q292
      go_wp2
      go_ret
      exact⟨_,by first|rfl|(simp [errW_none,errW_some] <;> rfl)|(simp [*,errW_none,errW_some] <;> rfl),rR HO_6.out,kB HB.out⟩
     rw [if_pos c16] at H
     have c16b0:decide (0 < (rd (rd_L4 t285 x7_2) x8_2)) = true:=decide_eq_true c16
     clear c16
     have H':=mk0 H
     clear H
     obtain⟨Ao17,co17,eo17⟩:=Kd.S_slice HO_22.out
     subst eo17
     have p291:0 ≤ (x7_2:Int):=of_decide_eq_true (by first|(with_reducible assumption)|assumption)
     have q291:x7_2 < (t285.length:Int):=of_decide_eq_true (by first|(with_reducible assumption)|assumption)
     obtain⟨ad291,A291_0,c291_0,e291,hx291_0,hl291_0,hi291_0⟩:=at_L4 (Kd.S_reads' HO_22.out).2.2 x7_2 p291 q291
     cases e291
     obtain⟨ce291,hce291,hMe291,hcc291⟩:=Kd.S_get HO_22.out [] x7_2 p291 (by first|exact q291|exact of_decide_eq_true (by first|(with_reducible assumption)|assumption)|(have e_:=(Kd.S_reads' HO_22.out).1;omega))
     obtain⟨ve291_0,rfl,ge291_0⟩:=hMe291
     have hv291_0:=hcc291 0 _ rfl
     rw [Nat.add_zero,show ((Kd.slice 3 (Kd.int .i64))).sz = 1 from rfl,Nat.mul_one] at hv291_0
     replace hv291_0:=Option.some.inj (hv291_0.symm.trans hx291_0)
     rw [hv291_0] at ge291_0
     have HL291_0:=mk0 (show Kd.R (Kd.int .i64) 3 _ _ _ _ (rd_L4 t285 x7_2) from ge291_0)
     clear hv291_0 ge291_0
     clear hcc291 hce291
     have HR291_0:=mk0 hi291_0
     have HC291_0:=mk0 hl291_0
     clear hi291_0 hl291_0
     replace p291:=eq_true p291
     replace q291:=eq_true q291
     have p292:0 ≤ (x8_2:Int):=of_decide_eq_true (by first|(with_reducible assumption)|assumption)
     have q292:x8_2 < ((rd_L4 t285 x7_2).length:Int):=of_decide_eq_true (by first|(with_reducible assumption)|assumption)
     obtain⟨ad292,e292,hx292_0⟩:=Kd.at_int (by repeat (first|(with_reducible exact HR291_0.out)|(with_reducible first|apply aC|apply nC|apply dC)|exact HR291_0.out|exact (Kd.V_reads' HL291_0.out).2.2)) x8_2 p292 q292
     cases e292
     replace p292:=eq_true p292
     replace q292:=eq_true q292
     go_wp2
     go_loopg [9,10] k2 (fun kq v9 v10 w'=>∃ (x9_3:Int) (x10_3:Int),v9 = .int .i64 x9_3 ∧ v10 = .int .i64 x10_3 ∧ Aside0 (spec_CommonOf.l1 kq l0 l1 x6_2 x7_2 x8_2 x9_3 x10_3 t285 = some r) ∧ Aside0 (kq ≤ k2) ∧ Aside0 (Kd.R k56 56 w' w.heap.size (fun _=>True) u6 x6_2) ∧ Aside0 (Kd.S (Kd.slice 3 (Kd.int .i64)) 45 w' w.heap.size (fun _=>True) (.slice (some ad291) t285.length co17) t285) ∧ Aside0 (Kd.C (Kd.int .i64) w' (some ad292) (rd_L4 t285 x7_2).length (rd_L4 t285 x7_2)) ∧ Aside0 (Below w.heap.size w w'))
     case atStart=>exact⟨(x7_2),((-1)),(by first|rfl|(simp;done)|(simp [*];done)),(by first|rfl|(simp;done)|(simp [*];done)),H',⟨Nat.le_refl _⟩,⟨rR HO_6.out⟩,⟨rS HO_22.out⟩,⟨by repeat (first|(with_reducible exact HR291_0.out)|(with_reducible first|apply aC|apply nC|apply dC)|exact HR291_0.out|exact (Kd.V_reads' HL291_0.out).2.2)⟩,⟨kB HB.out⟩⟩
     case round =>
      clear H'
      try clear c1
      try clear c2
      try clear p2
      try clear q2
      try clear hx2
      try clear c5
      try clear c6
      try clear c7
      try clear c12
      try clear c12b0
      try clear c13
      try clear c13b0
      try clear c14
      try clear c14b0
      try clear c15
      try clear c15b0
      try clear c16
      try clear c16b0
      try clear hx291_0
      try clear hx292_0
      try clear p2
      try clear p291
      try clear p292
      try clear q291
      try clear q292
      obtain⟨x9_3,x10_3,rfl,rfl,HA,HK3,HO_6,HO_22,HR291_0,HB⟩:=hrel
      cases gk with
      | zero=>exact absurd HA.out (by simp [spec_CommonOf.l1])
      | succ k3 =>
       have H:=HA.out
       clear HA
       simp only [spec_CommonOf.l1] at H
       by_cases c18:x10_3 < 0
       rotate_left
       ·rw [if_neg c18] at H
        have c18b0:decide (x10_3 < 0) = false:=decide_eq_false c18
        clear c18
        by_cases c36:x6_2.length < 8796093022208
        rotate_left
        ·rw [if_neg c36] at H
         exact absurd H (by simp)
        rw [if_pos c36] at H
        have LMc36:=mk0 c36
        clear c36
        obtain⟨y293,hy293⟩:∃ y_:List (S56),y_ = (x6_2 ++ [(⟨wrap64 (x9_3 - 1),x10_3⟩:S56)]):=⟨_,rfl⟩
        replace H:(spec_CommonOf.l0 k3 l0 l1 y293 x9_3 (wrap64 (x10_3 + 1)) t285) = some r:=by first|(rw [hy293];with_reducible exact H)|(have H2_:=(Option.bind_some _ _).symm.trans H;rw [hy293];with_reducible exact H2_)|(have H2_:=(Option.bind_some _ _).symm.trans H;with_reducible exact H2_)|with_reducible exact H|(rw [hy293];exact H)|exact H
        have Ny293:=mk0 hy293
        clear hy293
        have H':=mk0 H
        clear H
        go_wp2_with (first|((with_reducible refine gate_builtin (b:=.append) (xs:=#[.tmp 75,.tmp 80]) rfl ?_);at_builtin;refine Kd.R_append k56 (w0:=w) w.heap.size rfl (.tmp 75) (.tmp 80) 27 56 (.agg #[(.int .i64 0),(.int .i64 0)]) 16 rfl Try.underlying27 info56 rfl (by decide) (by omega) u6 x6_2 (⟨wrap64 (x9_3 - 1),x10_3⟩:S56) [.int .i64 (wrap64 (x9_3 - 1)),.int .i64 x10_3] (fun _=>True) (fun _=>False) rfl rfl ?aP (fun _ hk=>hk.elim) ?aF ?aO ?aB ?aS ?aL ?_;(case aP=>exact k56_mkM _ _ _ (⟨wrap64 (x9_3 - 1),x10_3⟩:S56));(case aB=>exact (kB HB.out));(case aF=>exact (fun _ _=>trivial));(case aO=>exact (rR HO_6.out));(case aS=>exact (kZ HB.out));(case aL=>have:=LMc36.out;omega);intro v294 w37 ho hb hg hat;rw [← Ny293.out] at ho;replace HO_22:=mk0 (Kd.S_over' (rS HO_22.out) (Kd.R_typed (rR HO_6.out)) (by decide) hg);replace HB:=mk0 (hb);have HO295:=mk0 (ho);clear HO_6 ho hb hg hat))
        go_roundg k3
        case measure=>have:=HJ2.out;have:=HK2.out;have:=HK3.out;omega
        case rel=>exact⟨(y293),(x9_3),(wrap64 (x10_3 + 1)),(by first|rfl|(simp;done)|(simp [*];done)),(by first|rfl|(simp;done)|(simp [*];done)),H',⟨by have:=HJ2.out;have:=HK2.out;have:=HK3.out;omega⟩,⟨rR HO295.out⟩,⟨rS HO_22.out⟩,⟨kB HB.out⟩⟩
       rw [if_pos c18] at H
       have c18b0:decide (x10_3 < 0) = true:=decide_eq_true c18
       clear c18
       have H':=mk0 H
       clear H
       go_wp2
       go_loopg [10,11] k3 (fun kq v10 v11 w'=>∃ (x10_4:Int) (x11_4:Int),v10 = .int .i64 x10_4 ∧ v11 = .int .i64 x11_4 ∧ Aside0 (spec_CommonOf.l2 kq l0 l1 x6_2 x7_2 x8_2 x9_3 x10_4 x11_4 t285 = some r) ∧ Aside0 (kq ≤ k3) ∧ Aside0 (Kd.R k56 56 w' w.heap.size (fun _=>True) u6 x6_2) ∧ Aside0 (Kd.S (Kd.slice 3 (Kd.int .i64)) 45 w' w.heap.size (fun _=>True) (.slice (some ad291) t285.length co17) t285) ∧ Aside0 (Kd.C (Kd.int .i64) w' (some ad292) (rd_L4 t285 x7_2).length (rd_L4 t285 x7_2)) ∧ Aside0 (Below w.heap.size w w'))
       case atStart=>exact⟨(x10_3),(wrap64 ((l1.length:Int) - 1)),(by first|rfl|(simp;done)|(simp [*];done)),(by first|rfl|(simp;done)|(simp [*];done)),H',⟨Nat.le_refl _⟩,⟨rR HO_6.out⟩,⟨rS HO_22.out⟩,⟨by repeat (first|(with_reducible exact HR291_0.out)|(with_reducible first|apply aC|apply nC|apply dC)|exact HR291_0.out|exact (Kd.V_reads' HL291_0.out).2.2)⟩,⟨kB HB.out⟩⟩
       case round =>
        clear H'
        try clear c1
        try clear c2
        try clear p2
        try clear q2
        try clear hx2
        try clear c5
        try clear c6
        try clear p6
        try clear c7
        try clear c12
        try clear c12b0
        try clear c13
        try clear c13b0
        try clear c14
        try clear c14b0
        try clear c15
        try clear c15b0
        try clear c16
        try clear c16b0
        try clear c18
        try clear c18b0
        try clear hx291_0
        try clear hx292_0
        try clear p2
        try clear p291
        try clear p292
        try clear q2
        try clear q291
        try clear q292
        obtain⟨x10_4,x11_4,rfl,rfl,HA,HK4,HO_6,HO_22,HR291_0,HB⟩:=hrel
        cases gk with
        | zero=>exact absurd HA.out (by simp [spec_CommonOf.l2])
        | succ k4 =>
         have H:=HA.out
         clear HA
         simp only [spec_CommonOf.l2] at H
         by_cases c19:x11_4 ≥ x8_2
         rotate_left
         ·rw [if_neg c19] at H
          have c19b0:decide (x8_2 ≤ x11_4) = false:=decide_eq_false c19
          clear c19
          have H':=mk0 H
          clear H
          go_wp2
          go_roundg k4
          case measure=>have:=HJ2.out;have:=HK2.out;have:=HK3.out;have:=HK4.out;omega
          case rel=>exact⟨(wrap64 (x9_3 + 1)),(x10_4),(by first|rfl|(simp;done)|(simp [*];done)),(by first|rfl|(simp;done)|(simp [*];done)),H',⟨by have:=HJ2.out;have:=HK2.out;have:=HK3.out;have:=HK4.out;omega⟩,⟨rR HO_6.out⟩,⟨rS HO_22.out⟩,⟨by repeat (first|(with_reducible exact HR291_0.out)|(with_reducible first|apply aC|apply nC|apply dC)|exact HR291_0.out|exact (Kd.V_reads' HL291_0.out).2.2)⟩,⟨kB HB.out⟩⟩
         rw [if_pos c19] at H
         have c19b0:decide (x8_2 ≤ x11_4) = true:=decide_eq_true c19
         clear c19
         by_cases c20:0 ≤ x9_3
         rotate_left
         ·rw [if_neg c20] at H
          exact absurd H (by simp)
         rw [if_pos c20] at H
         have c20b0:decide (0 ≤ x9_3) = true:=decide_eq_true c20
         clear c20
         by_cases c21:x9_3 < (l0.length:Int)
         rotate_left
         ·rw [if_neg c21] at H
          exact absurd H (by simp)
         rw [if_pos c21] at H
         have c21b0:decide (x9_3 < (l0.length:Int)) = true:=decide_eq_true c21
         (try simp only [hl291_0] at c21b0)
         (try simp only [hl298_0] at c21b0)
         (try simp only [hl300_0] at c21b0)
         clear c21
         by_cases c22:0 ≤ x11_4
         rotate_left
         ·rw [if_neg c22] at H
          exact absurd H (by simp)
         rw [if_pos c22] at H
         have c22b0:decide (0 ≤ x11_4) = true:=decide_eq_true c22
         clear c22
         by_cases c23:x11_4 < (l1.length:Int)
         rotate_left
         ·rw [if_neg c23] at H
          exact absurd H (by simp)
         rw [if_pos c23] at H
         have c23b0:decide (x11_4 < (l1.length:Int)) = true:=decide_eq_true c23
         (try simp only [hl291_0] at c23b0)
         (try simp only [hl298_0] at c23b0)
         (try simp only [hl300_0] at c23b0)
         clear c23
         by_cases c24:(rd l0 x9_3) = (rd l1 x11_4)
         rotate_left
         ·rw [if_neg c24] at H
          have c24b0:((rd l0 x9_3) == (rd l1 x11_4)) = false:=beq_eq_false_iff_ne.mpr c24
          have c24b1:((rd l0 x9_3) != (rd l1 x11_4)) = true:=bne_iff_ne.mpr c24
          have H':=mk0 H
          clear H
          have p296:0 ≤ (x9_3:Int):=of_decide_eq_true (by first|(with_reducible assumption)|assumption)
          have q296:x9_3 < (l0.length:Int):=of_decide_eq_true (by first|(with_reducible assumption)|assumption)
          obtain⟨ad296,e296,hx296_0⟩:=Kd.at_int HR0.out x9_3 p296 q296
          cases e296
          replace hx296_0:=(HB.out.cell (World.block_lt_of_cell? w _ hx296_0)).trans hx296_0
          replace p296:=eq_true p296
          replace q296:=eq_true q296
          have p297:0 ≤ (x11_4:Int):=of_decide_eq_true (by first|(with_reducible assumption)|assumption)
          have q297:x11_4 < (l1.length:Int):=of_decide_eq_true (by first|(with_reducible assumption)|assumption)
          obtain⟨ad297,e297,hx297_0⟩:=Kd.at_int HR1.out x11_4 p297 q297
          cases e297
          replace hx297_0:=(HB.out.cell (World.block_lt_of_cell? w _ hx297_0)).trans hx297_0
          replace p297:=eq_true p297
          replace q297:=eq_true q297
          go_wp2
          repeat (go_quiet (fail);try go_wp2)
          go_roundg k4
          case measure=>have:=HJ2.out;have:=HK2.out;have:=HK3.out;have:=HK4.out;omega
          case rel=>exact⟨(x10_4),(wrap64 (x11_4 - 1)),(by first|rfl|(simp;done)|(simp [*];done)),(by first|rfl|(simp;done)|(simp [*];done)),H',⟨by have:=HJ2.out;have:=HK2.out;have:=HK3.out;have:=HK4.out;omega⟩,⟨rR HO_6.out⟩,⟨rS HO_22.out⟩,⟨by repeat (first|(with_reducible exact HR291_0.out)|(with_reducible first|apply aC|apply nC|apply dC)|exact HR291_0.out|exact (Kd.V_reads' HL291_0.out).2.2)⟩,⟨kB HB.out⟩⟩
         rw [if_pos c24] at H
         have c24b0:((rd l0 x9_3) == (rd l1 x11_4)) = true:=beq_iff_eq.mpr c24
         have c24b1:((rd l0 x9_3) != (rd l1 x11_4)) = false:=bne_eq_false_iff_eq.mpr c24
         clear c24
         obtain⟨ji25,hji25⟩:∃ j_:Int,(wrap64 (x9_3 + 1)) = j_:=⟨_,rfl⟩
         replace H:(if 0 ≤ (ji25) then (if (ji25) < (t285.length:Int) then (if 0 ≤ (wrap64 (x11_4 + 1)) then (if (wrap64 (x11_4 + 1)) < ((rd_L4 t285 (ji25)).length:Int) then (if 0 ≤ x7_2 then (if x7_2 < (t285.length:Int) then (if 0 ≤ x8_2 then (if x8_2 < ((rd_L4 t285 x7_2).length:Int) then (if (wrap64 (1 + (rd (rd_L4 t285 (ji25)) (wrap64 (x11_4 + 1))))) = (rd (rd_L4 t285 x7_2) x8_2) then (spec_CommonOf.l2 k4 l0 l1 x6_2 x7_2 x8_2 x9_3 x11_4 (wrap64 (x11_4 - 1)) t285) else (spec_CommonOf.l2 k4 l0 l1 x6_2 x7_2 x8_2 x9_3 x10_4 (wrap64 (x11_4 - 1)) t285)) else (none)) else (none)) else (none)) else (none)) else (none)) else (none)) else (none)) else (none)) = some r:=by first|(rw [hji25] at H;exact H)|(simp only [hji25] at H ⊢;exact H)
         have hji25w:(IntKind.i64.wrap (x9_3 + 1)) = ji25:=(i64_w _).trans hji25
         by_cases c26:0 ≤ (ji25)
         rotate_left
         ·rw [if_neg c26] at H
          exact absurd H (by simp)
         rw [if_pos c26] at H
         have c26b0:decide (0 ≤ (ji25)) = true:=decide_eq_true c26
         clear c26
         by_cases c27:(ji25) < (t285.length:Int)
         rotate_left
         ·rw [if_neg c27] at H
          exact absurd H (by simp)
         rw [if_pos c27] at H
         have c27b0:decide ((ji25) < (t285.length:Int)) = true:=decide_eq_true c27
         (try simp only [hl291_0] at c27b0)
         (try simp only [hl298_0] at c27b0)
         (try simp only [hl300_0] at c27b0)
         clear c27
         obtain⟨ji28,hji28⟩:∃ j_:Int,(wrap64 (x11_4 + 1)) = j_:=⟨_,rfl⟩
         replace H:(if 0 ≤ (ji28) then (if (ji28) < ((rd_L4 t285 (ji25)).length:Int) then (if 0 ≤ x7_2 then (if x7_2 < (t285.length:Int) then (if 0 ≤ x8_2 then (if x8_2 < ((rd_L4 t285 x7_2).length:Int) then (if (wrap64 (1 + (rd (rd_L4 t285 (ji25)) (ji28)))) = (rd (rd_L4 t285 x7_2) x8_2) then (spec_CommonOf.l2 k4 l0 l1 x6_2 x7_2 x8_2 x9_3 x11_4 (wrap64 (x11_4 - 1)) t285) else (spec_CommonOf.l2 k4 l0 l1 x6_2 x7_2 x8_2 x9_3 x10_4 (wrap64 (x11_4 - 1)) t285)) else (none)) else (none)) else (none)) else (none)) else (none)) else (none)) = some r:=by first|(rw [hji28] at H;exact H)|(simp only [hji28] at H ⊢;exact H)
         have hji28w:(IntKind.i64.wrap (x11_4 + 1)) = ji28:=(i64_w _).trans hji28
         by_cases c29:0 ≤ (ji28)
         rotate_left
         ·rw [if_neg c29] at H
          exact absurd H (by simp)
         rw [if_pos c29] at H
         have c29b0:decide (0 ≤ (ji28)) = true:=decide_eq_true c29
         clear c29
         by_cases c30:(ji28) < ((rd_L4 t285 (ji25)).length:Int)
         rotate_left
         ·rw [if_neg c30] at H
          exact absurd H (by simp)
         rw [if_pos c30] at H
         have c30b0:decide ((ji28) < ((rd_L4 t285 (ji25)).length:Int)) = true:=decide_eq_true c30
         (try simp only [hl291_0] at c30b0)
         (try simp only [hl298_0] at c30b0)
         (try simp only [hl300_0] at c30b0)
         clear c30
         by_cases c31:0 ≤ x7_2
         rotate_left
         ·rw [if_neg c31] at H
          exact absurd H (by simp)
         rw [if_pos c31] at H
         have c31b0:decide (0 ≤ x7_2) = true:=decide_eq_true c31
         clear c31
         by_cases c32:x7_2 < (t285.length:Int)
         rotate_left
         ·rw [if_neg c32] at H
          exact absurd H (by simp)
         rw [if_pos c32] at H
         have c32b0:decide (x7_2 < (t285.length:Int)) = true:=decide_eq_true c32
         (try simp only [hl291_0] at c32b0)
         (try simp only [hl298_0] at c32b0)
         (try simp only [hl300_0] at c32b0)
         clear c32
         by_cases c33:0 ≤ x8_2
         rotate_left
         ·rw [if_neg c33] at H
          exact absurd H (by simp)
         rw [if_pos c33] at H
         have c33b0:decide (0 ≤ x8_2) = true:=decide_eq_true c33
         clear c33
         by_cases c34:x8_2 < ((rd_L4 t285 x7_2).length:Int)
         rotate_left
         ·rw [if_neg c34] at H
          exact absurd H (by simp)
         rw [if_pos c34] at H
         have c34b0:decide (x8_2 < ((rd_L4 t285 x7_2).length:Int)) = true:=decide_eq_true c34
         (try simp only [hl291_0] at c34b0)
         (try simp only [hl298_0] at c34b0)
         (try simp only [hl300_0] at c34b0)
         clear c34
         by_cases c35:(wrap64 (1 + (rd (rd_L4 t285 (ji25)) (ji28)))) = (rd (rd_L4 t285 x7_2) x8_2)
         rotate_left
         ·rw [if_neg c35] at H
          have c35b0:((wrap64 (1 + (rd (rd_L4 t285 (ji25)) (ji28)))) == (rd (rd_L4 t285 x7_2) x8_2)) = false:=beq_eq_false_iff_ne.mpr c35
          have c35b1:((wrap64 (1 + (rd (rd_L4 t285 (ji25)) (ji28)))) != (rd (rd_L4 t285 x7_2) x8_2)) = true:=bne_iff_ne.mpr c35
          have H':=mk0 H
          clear H
          have p296:0 ≤ (x9_3:Int):=of_decide_eq_true (by first|(with_reducible assumption)|assumption)
          have q296:x9_3 < (l0.length:Int):=of_decide_eq_true (by first|(with_reducible assumption)|assumption)
          obtain⟨ad296,e296,hx296_0⟩:=Kd.at_int HR0.out x9_3 p296 q296
          cases e296
          replace hx296_0:=(HB.out.cell (World.block_lt_of_cell? w _ hx296_0)).trans hx296_0
          replace p296:=eq_true p296
          replace q296:=eq_true q296
          have p297:0 ≤ (x11_4:Int):=of_decide_eq_true (by first|(with_reducible assumption)|assumption)
          have q297:x11_4 < (l1.length:Int):=of_decide_eq_true (by first|(with_reducible assumption)|assumption)
          obtain⟨ad297,e297,hx297_0⟩:=Kd.at_int HR1.out x11_4 p297 q297
          cases e297
          replace hx297_0:=(HB.out.cell (World.block_lt_of_cell? w _ hx297_0)).trans hx297_0
          replace p297:=eq_true p297
          replace q297:=eq_true q297
          have p298:0 ≤ ((ji25):Int):=of_decide_eq_true (by first|(with_reducible assumption)|assumption)
          have q298:(ji25) < (t285.length:Int):=of_decide_eq_true (by first|(with_reducible assumption)|assumption)
          obtain⟨ad298,A298_0,c298_0,e298,hx298_0,hl298_0,hi298_0⟩:=at_L4 (Kd.S_reads' HO_22.out).2.2 (ji25) p298 q298
          obtain rfl:ad291 = ad298:=(by injection e298)
          obtain⟨ce298,hce298,hMe298,hcc298⟩:=Kd.S_get HO_22.out [] (ji25) p298 (by first|exact q298|exact of_decide_eq_true (by first|(with_reducible assumption)|assumption)|(have e_:=(Kd.S_reads' HO_22.out).1;omega))
          obtain⟨ve298_0,rfl,ge298_0⟩:=hMe298
          have hv298_0:=hcc298 0 _ rfl
          rw [Nat.add_zero,show ((Kd.slice 3 (Kd.int .i64))).sz = 1 from rfl,Nat.mul_one] at hv298_0
          replace hv298_0:=Option.some.inj (hv298_0.symm.trans hx298_0)
          rw [hv298_0] at ge298_0
          have HL298_0:=mk0 (show Kd.R (Kd.int .i64) 3 _ _ _ _ (rd_L4 t285 (ji25)) from ge298_0)
          clear hv298_0 ge298_0
          clear hcc298 hce298
          have HR298_0:=mk0 hi298_0
          have HC298_0:=mk0 hl298_0
          clear hi298_0 hl298_0
          replace p298:=eq_true p298
          replace q298:=eq_true q298
          have p299:0 ≤ ((ji28):Int):=of_decide_eq_true (by first|(with_reducible assumption)|assumption)
          have q299:(ji28) < ((rd_L4 t285 (ji25)).length:Int):=of_decide_eq_true (by first|(with_reducible assumption)|assumption)
          obtain⟨ad299,e299,hx299_0⟩:=Kd.at_int (by repeat (first|(with_reducible exact HR298_0.out)|(with_reducible first|apply aC|apply nC|apply dC)|exact HR298_0.out|exact (Kd.V_reads' HL298_0.out).2.2)) (ji28) p299 q299
          cases e299
          replace p299:=eq_true p299
          replace q299:=eq_true q299
          have p300:0 ≤ (x7_2:Int):=of_decide_eq_true (by first|(with_reducible assumption)|assumption)
          have q300:x7_2 < (t285.length:Int):=of_decide_eq_true (by first|(with_reducible assumption)|assumption)
          obtain⟨ad300,A300_0,c300_0,e300,hx300_0,hl300_0,hi300_0⟩:=at_L4 (Kd.S_reads' HO_22.out).2.2 x7_2 p300 q300
          obtain rfl:ad291 = ad300:=(by injection e300)
          obtain⟨ce300,hce300,hMe300,hcc300⟩:=Kd.S_get HO_22.out [] x7_2 p300 (by first|exact q300|exact of_decide_eq_true (by first|(with_reducible assumption)|assumption)|(have e_:=(Kd.S_reads' HO_22.out).1;omega))
          obtain⟨ve300_0,rfl,ge300_0⟩:=hMe300
          have hv300_0:=hcc300 0 _ rfl
          rw [Nat.add_zero,show ((Kd.slice 3 (Kd.int .i64))).sz = 1 from rfl,Nat.mul_one] at hv300_0
          replace hv300_0:=Option.some.inj (hv300_0.symm.trans hx300_0)
          rw [hv300_0] at ge300_0
          have HL300_0:=mk0 (show Kd.R (Kd.int .i64) 3 _ _ _ _ (rd_L4 t285 x7_2) from ge300_0)
          clear hv300_0 ge300_0
          clear hcc300 hce300
          have HR300_0:=mk0 hi300_0
          have HC300_0:=mk0 hl300_0
          clear hi300_0 hl300_0
          replace p300:=eq_true p300
          replace q300:=eq_true q300
          have p301:0 ≤ (x8_2:Int):=of_decide_eq_true (by first|(with_reducible assumption)|assumption)
          have q301:x8_2 < ((rd_L4 t285 x7_2).length:Int):=of_decide_eq_true (by first|(with_reducible assumption)|assumption)
          obtain⟨ad301,e301,hx301_0⟩:=Kd.at_int (by repeat (first|(with_reducible exact HR300_0.out)|(with_reducible first|apply aC|apply nC|apply dC)|exact HR300_0.out|exact (Kd.V_reads' HL300_0.out).2.2)) x8_2 p301 q301
          cases e301
          replace p301:=eq_true p301
          replace q301:=eq_true q301
          go_wp2
          repeat (go_quiet (fail);try go_wp2)
          go_roundg k4
          case measure=>have:=HJ2.out;have:=HK2.out;have:=HK3.out;have:=HK4.out;omega
          case rel=>exact⟨(x10_4),(wrap64 (x11_4 - 1)),(by first|rfl|(simp;done)|(simp [*];done)),(by first|rfl|(simp;done)|(simp [*];done)),H',⟨by have:=HJ2.out;have:=HK2.out;have:=HK3.out;have:=HK4.out;omega⟩,⟨rR HO_6.out⟩,⟨rS HO_22.out⟩,⟨by repeat (first|(with_reducible exact HR291_0.out)|(with_reducible first|apply aC|apply nC|apply dC)|exact HR291_0.out|exact (Kd.V_reads' HL291_0.out).2.2)⟩,⟨kB HB.out⟩⟩
         rw [if_pos c35] at H
         have c35b0:((wrap64 (1 + (rd (rd_L4 t285 (ji25)) (ji28)))) == (rd (rd_L4 t285 x7_2) x8_2)) = true:=beq_iff_eq.mpr c35
         have c35b1:((wrap64 (1 + (rd (rd_L4 t285 (ji25)) (ji28)))) != (rd (rd_L4 t285 x7_2) x8_2)) = false:=bne_eq_false_iff_eq.mpr c35
         clear c35
         have H':=mk0 H
         clear H
         have p296:0 ≤ (x9_3:Int):=of_decide_eq_true (by first|(with_reducible assumption)|assumption)
         have q296:x9_3 < (l0.length:Int):=of_decide_eq_true (by first|(with_reducible assumption)|assumption)
         obtain⟨ad296,e296,hx296_0⟩:=Kd.at_int HR0.out x9_3 p296 q296
         cases e296
         replace hx296_0:=(HB.out.cell (World.block_lt_of_cell? w _ hx296_0)).trans hx296_0
         replace p296:=eq_true p296
         replace q296:=eq_true q296
         have p297:0 ≤ (x11_4:Int):=of_decide_eq_true (by first|(with_reducible assumption)|assumption)
         have q297:x11_4 < (l1.length:Int):=of_decide_eq_true (by first|(with_reducible assumption)|assumption)
         obtain⟨ad297,e297,hx297_0⟩:=Kd.at_int HR1.out x11_4 p297 q297
         cases e297
         replace hx297_0:=(HB.out.cell (World.block_lt_of_cell? w _ hx297_0)).trans hx297_0
         replace p297:=eq_true p297
         replace q297:=eq_true q297
         have p298:0 ≤ ((ji25):Int):=of_decide_eq_true (by first|(with_reducible assumption)|assumption)
         have q298:(ji25) < (t285.length:Int):=of_decide_eq_true (by first|(with_reducible assumption)|assumption)
         obtain⟨ad298,A298_0,c298_0,e298,hx298_0,hl298_0,hi298_0⟩:=at_L4 (Kd.S_reads' HO_22.out).2.2 (ji25) p298 q298
         obtain rfl:ad291 = ad298:=(by injection e298)
         obtain⟨ce298,hce298,hMe298,hcc298⟩:=Kd.S_get HO_22.out [] (ji25) p298 (by first|exact q298|exact of_decide_eq_true (by first|(with_reducible assumption)|assumption)|(have e_:=(Kd.S_reads' HO_22.out).1;omega))
         obtain⟨ve298_0,rfl,ge298_0⟩:=hMe298
         have hv298_0:=hcc298 0 _ rfl
         rw [Nat.add_zero,show ((Kd.slice 3 (Kd.int .i64))).sz = 1 from rfl,Nat.mul_one] at hv298_0
         replace hv298_0:=Option.some.inj (hv298_0.symm.trans hx298_0)
         rw [hv298_0] at ge298_0
         have HL298_0:=mk0 (show Kd.R (Kd.int .i64) 3 _ _ _ _ (rd_L4 t285 (ji25)) from ge298_0)
         clear hv298_0 ge298_0
         clear hcc298 hce298
         have HR298_0:=mk0 hi298_0
         have HC298_0:=mk0 hl298_0
         clear hi298_0 hl298_0
         replace p298:=eq_true p298
         replace q298:=eq_true q298
         have p299:0 ≤ ((ji28):Int):=of_decide_eq_true (by first|(with_reducible assumption)|assumption)
         have q299:(ji28) < ((rd_L4 t285 (ji25)).length:Int):=of_decide_eq_true (by first|(with_reducible assumption)|assumption)
         obtain⟨ad299,e299,hx299_0⟩:=Kd.at_int (by repeat (first|(with_reducible exact HR298_0.out)|(with_reducible first|apply aC|apply nC|apply dC)|exact HR298_0.out|exact (Kd.V_reads' HL298_0.out).2.2)) (ji28) p299 q299
         cases e299
         replace p299:=eq_true p299
         replace q299:=eq_true q299
         have p300:0 ≤ (x7_2:Int):=of_decide_eq_true (by first|(with_reducible assumption)|assumption)
         have q300:x7_2 < (t285.length:Int):=of_decide_eq_true (by first|(with_reducible assumption)|assumption)
         obtain⟨ad300,A300_0,c300_0,e300,hx300_0,hl300_0,hi300_0⟩:=at_L4 (Kd.S_reads' HO_22.out).2.2 x7_2 p300 q300
         obtain rfl:ad291 = ad300:=(by injection e300)
         obtain⟨ce300,hce300,hMe300,hcc300⟩:=Kd.S_get HO_22.out [] x7_2 p300 (by first|exact q300|exact of_decide_eq_true (by first|(with_reducible assumption)|assumption)|(have e_:=(Kd.S_reads' HO_22.out).1;omega))
         obtain⟨ve300_0,rfl,ge300_0⟩:=hMe300
         have hv300_0:=hcc300 0 _ rfl
         rw [Nat.add_zero,show ((Kd.slice 3 (Kd.int .i64))).sz = 1 from rfl,Nat.mul_one] at hv300_0
         replace hv300_0:=Option.some.inj (hv300_0.symm.trans hx300_0)
         rw [hv300_0] at ge300_0
         have HL300_0:=mk0 (show Kd.R (Kd.int .i64) 3 _ _ _ _ (rd_L4 t285 x7_2) from ge300_0)
         clear hv300_0 ge300_0
         clear hcc300 hce300
         have HR300_0:=mk0 hi300_0
         have HC300_0:=mk0 hl300_0
         clear hi300_0 hl300_0
         replace p300:=eq_true p300
         replace q300:=eq_true q300
         have p301:0 ≤ (x8_2:Int):=of_decide_eq_true (by first|(with_reducible assumption)|assumption)
         have q301:x8_2 < ((rd_L4 t285 x7_2).length:Int):=of_decide_eq_true (by first|(with_reducible assumption)|assumption)
         obtain⟨ad301,e301,hx301_0⟩:=Kd.at_int (by repeat (first|(with_reducible exact HR300_0.out)|(with_reducible first|apply aC|apply nC|apply dC)|exact HR300_0.out|exact (Kd.V_reads' HL300_0.out).2.2)) x8_2 p301 q301
         cases e301
         replace p301:=eq_true p301
         replace q301:=eq_true q301
         go_wp2
         repeat (go_quiet (fail);try go_wp2)
         go_roundg k4
         case measure=>have:=HJ2.out;have:=HK2.out;have:=HK3.out;have:=HK4.out;omega
         case rel=>exact⟨(x11_4),(wrap64 (x11_4 - 1)),(by first|rfl|(simp;done)|(simp [*];done)),(by first|rfl|(simp;done)|(simp [*];done)),H',⟨by have:=HJ2.out;have:=HK2.out;have:=HK3.out;have:=HK4.out;omega⟩,⟨rR HO_6.out⟩,⟨rS HO_22.out⟩,⟨by repeat (first|(with_reducible exact HR291_0.out)|(with_reducible first|apply aC|apply nC|apply dC)|exact HR291_0.out|exact (Kd.V_reads' HL291_0.out).2.2)⟩,⟨kB HB.out⟩⟩
def spec_CommonWithin.f (k : Nat) (l0 : List Int) (l1 : List Int) (a2 : Int) : Option ((List (S56))) := (spec_CommonLen.f k l0 l1).bind fun t302 => (if t302 < 0 then (some ([] : List (S56))) else (if (wrap64 ((wrap64 ((l0.length : Int) + (l1.length : Int))) - (wrap64 (2 * t302)))) > a2 then (some ([] : List (S56))) else ((spec_CommonOf.f k l0 l1).bind fun t303 => (some t303))))
theorem spec_CommonWithin.mono : ∀ a0 a1 a2 k, LeO (spec_CommonWithin.f k a0 a1 a2) (spec_CommonWithin.f (k + 1) a0 a1 a2) := by
 intro a0 a1 a2 k
 unfold spec_CommonWithin.f
 repeat' first|(with_reducible first|exact spec_CommonLen.mono _ _ _|exact spec_CommonOf.mono _ _ _|exact LeO.refl _|exact LeO.none _|refine LeO.ite ?_ ?_|refine LeO.bind ?_ (fun _ => ?_))|exact LeO.none _|refine LeO.ite ?_ ?_|refine LeO.bind ?_ (fun _ => ?_)
set_option maxHeartbeats 8000000 in
set_option maxRecDepth 100000 in
theorem spec_CommonWithin.calls (k : Nat) (A0 : Option Addr) (c0 : Nat) (l0 : List Int) (A1 : Option Addr) (c1 : Nat) (l1 : List Int) (a2 : Int) (r : List (S56)) (w : World) (hr0 : Kd.C (Kd.int .i64) w A0 l0.length l0) (hc0 : l0.length ≤ c0) (hr1 : Kd.C (Kd.int .i64) w A1 l1.length l1) (hc1 : l1.length ≤ c1) (h : spec_CommonWithin.f k l0 l1 a2 = some r) :
  Calls Try.prog 42 #[.slice A0 l0.length c0, .slice A1 l1.length c1, .int .i64 a2] w fun e w' => ∃ v0_ : Value, e = .returned (v0_) ∧ Kd.R k56 56 w' w.heap.size (fun _ => True) v0_ r ∧ Below w.heap.size w w' := by
 have HR0:=mk0 hr0
 have HC0:=mk0 hc0
 clear hr0 hc0
 have HR1:=mk0 hr1
 have HC1:=mk0 hc1
 clear hr1 hc1
 have HB:=mk0 (Below.refl w.heap.size w)
 have H:((spec_CommonLen.f k l0 l1).bind fun t302=>(if t302 < 0 then (some ([]:List (S56))) else (if (wrap64 ((wrap64 ((l0.length:Int) + (l1.length:Int))) - (wrap64 (2 * t302)))) > a2 then (some ([]:List (S56))) else ((spec_CommonOf.f k l0 l1).bind fun t303=>(some t303))))) = some r:=h
 clear h
 replace H:=Option.bind_eq_some_iff.mp H
 obtain⟨t302,A40,H⟩:=H
 replace H:(if t302 < 0 then (some ([]:List (S56))) else (if (wrap64 ((wrap64 ((l0.length:Int) + (l1.length:Int))) - (wrap64 (2 * t302)))) > a2 then (some ([]:List (S56))) else ((spec_CommonOf.f k l0 l1).bind fun t303=>(some t303)))) = some r:=H
 have A4:=mk0 A40
 clear A40
 by_cases c5:t302 < 0
 ·rw [if_pos c5] at H
  have c5b0:decide (t302 < 0) = true:=decide_eq_true c5
  clear c5
  obtain rfl:=Option.some.inj H
  go_enter Try.func42,Try.ntmps42
  go_wp2_with (first|((with_reducible refine gate_callee (f:=36) rfl ?_);refine goesL_ (some 10) rfl rfl Try.func36 (by kernel_rfl) rfl #[.slice A0 l0.length c0,.slice A1 l1.length c1] rfl (by (try simp only [mA,mC,mN]);first|done|rfl|(simp only [List.length_drop,List.length_take];done)|(simp only [List.length_drop,List.length_take];rfl)) ?_;(with_reducible refine (spec_CommonLen.calls k _ _ l0 _ _ l1 t302 _ ?side1 ?side2 ?side3 ?side4 A4.out).mono ?_);(case side1=>repeat (first|exact HR0.out|(with_reducible first|apply aC|apply nC|apply dC)));(case side2=>exact HC0.out);(case side3=>repeat (first|exact HR1.out|(with_reducible first|apply aC|apply nC|apply dC)));(case side4=>exact HC1.out);rintro e w6 ⟨rfl,hb⟩;refine⟨_,rfl,?_⟩;replace HB:=mk0 (kS HB.out hb);(try clear hb)))
  go_ret
  exact⟨_,by first|rfl|(simp [errW_none,errW_some] <;> rfl)|(simp [*,errW_none,errW_some] <;> rfl),by first|exact Kd.R_nil _ _ _ _ _|exact Kd.N_nil _ _ _ _ _|exact Kd.V_nil _ _ _ _ _|exact Kd.Q_nil _ _ _ _ _|exact Kd.S_nil _ _ _ _ _,kB HB.out⟩
 ·rw [if_neg c5] at H
  have c5b0:decide (t302 < 0) = false:=decide_eq_false c5
  clear c5
  by_cases c7:(wrap64 ((wrap64 ((l0.length:Int) + (l1.length:Int))) - (wrap64 (2 * t302)))) > a2
  ·rw [if_pos c7] at H
   have c7b0:decide (a2 < (wrap64 ((wrap64 ((l0.length:Int) + (l1.length:Int))) - (wrap64 (2 * t302))))) = true:=decide_eq_true c7
   clear c7
   obtain rfl:=Option.some.inj H
   go_enter Try.func42,Try.ntmps42
   go_wp2_with (first|((with_reducible refine gate_callee (f:=36) rfl ?_);refine goesL_ (some 10) rfl rfl Try.func36 (by kernel_rfl) rfl #[.slice A0 l0.length c0,.slice A1 l1.length c1] rfl (by (try simp only [mA,mC,mN]);first|done|rfl|(simp only [List.length_drop,List.length_take];done)|(simp only [List.length_drop,List.length_take];rfl)) ?_;(with_reducible refine (spec_CommonLen.calls k _ _ l0 _ _ l1 t302 _ ?side1 ?side2 ?side3 ?side4 A4.out).mono ?_);(case side1=>repeat (first|exact HR0.out|(with_reducible first|apply aC|apply nC|apply dC)));(case side2=>exact HC0.out);(case side3=>repeat (first|exact HR1.out|(with_reducible first|apply aC|apply nC|apply dC)));(case side4=>exact HC1.out);rintro e w8 ⟨rfl,hb⟩;refine⟨_,rfl,?_⟩;replace HB:=mk0 (kS HB.out hb);(try clear hb)))
   go_ret
   exact⟨_,by first|rfl|(simp [errW_none,errW_some] <;> rfl)|(simp [*,errW_none,errW_some] <;> rfl),by first|exact Kd.R_nil _ _ _ _ _|exact Kd.N_nil _ _ _ _ _|exact Kd.V_nil _ _ _ _ _|exact Kd.Q_nil _ _ _ _ _|exact Kd.S_nil _ _ _ _ _,kB HB.out⟩
  ·rw [if_neg c7] at H
   have c7b0:decide (a2 < (wrap64 ((wrap64 ((l0.length:Int) + (l1.length:Int))) - (wrap64 (2 * t302))))) = false:=decide_eq_false c7
   clear c7
   replace H:=Option.bind_eq_some_iff.mp H
   obtain⟨t303,A90,H⟩:=H
   replace H:(some t303) = some r:=H
   have A9:=mk0 A90
   clear A90
   obtain rfl:=Option.some.inj H
   go_enter Try.func42,Try.ntmps42
   go_wp2_with (first|((with_reducible refine gate_callee (f:=36) rfl ?_);refine goesL_ (some 10) rfl rfl Try.func36 (by kernel_rfl) rfl #[.slice A0 l0.length c0,.slice A1 l1.length c1] rfl (by (try simp only [mA,mC,mN]);first|done|rfl|(simp only [List.length_drop,List.length_take];done)|(simp only [List.length_drop,List.length_take];rfl)) ?_;(with_reducible refine (spec_CommonLen.calls k _ _ l0 _ _ l1 t302 _ ?side1 ?side2 ?side3 ?side4 A4.out).mono ?_);(case side1=>repeat (first|exact HR0.out|(with_reducible first|apply aC|apply nC|apply dC)));(case side2=>exact HC0.out);(case side3=>repeat (first|exact HR1.out|(with_reducible first|apply aC|apply nC|apply dC)));(case side4=>exact HC1.out);rintro e w10 ⟨rfl,hb⟩;refine⟨_,rfl,?_⟩;replace HB:=mk0 (kS HB.out hb);(try clear hb))|((with_reducible refine gate_callee (f:=66) rfl ?_);refine goesL_ (some 27) rfl rfl Try.func66 (by kernel_rfl) rfl #[.slice A0 l0.length c0,.slice A1 l1.length c1] rfl (by (try simp only [mA,mC,mN]);first|done|rfl|(simp only [List.length_drop,List.length_take];done)|(simp only [List.length_drop,List.length_take];rfl)) ?_;(with_reducible refine (spec_CommonOf.calls k _ _ l0 _ _ l1 t303 _ ?side1 ?side2 ?side3 ?side4 A9.out).mono ?_);(case side1=>exact kC (Kd.C_below HR0.out HB.out));(case side2=>exact HC0.out);(case side3=>exact kC (Kd.C_below HR1.out HB.out));(case side4=>exact HC1.out);rintro e w11 ⟨v304,rfl,ho0,hb⟩;refine⟨_,rfl,?_⟩;have HO305:=mk0 (Kd.R_lower ho0 (kZ HB.out));replace HB:=mk0 (kS HB.out hb);(try clear hb);(try clear ho0)))
   go_ret
   exact⟨_,by first|rfl|(simp [errW_none,errW_some] <;> rfl)|(simp [*,errW_none,errW_some] <;> rfl),rR HO305.out,kB HB.out⟩
end Go.Proofs.Ytadhngelhognaaa.QFnExactShareOf
