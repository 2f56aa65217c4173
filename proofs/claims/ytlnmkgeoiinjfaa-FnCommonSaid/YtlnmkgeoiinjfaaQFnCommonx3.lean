-- A walk, made by walk.py, a program of this session's.
import Derived.Test.YtlnmkgeoiinjfaaQFnCommonx0
import Derived.Test.YtlnmkgeoiinjfaaQFnCommonx1
import Derived.Test.YtlnmkgeoiinjfaaQFnCommonx2
namespace Go.Proofs.Ytlnmkgeoiinjfaa.QFnCommon
open Go.RowKit Go.Proofs.YtlnmkgeoiinjfaaW.PrintWords Go.Proofs.YtlnmkgeoiinjfaaW.PrintLast Go.Proofs.YtlnmkgeoiinjfaaW.PrintMore
attribute [local go_sem] max2_int min2_int max_two min_two max_three min_three max_four min_four   -- for this text's walks alone
set_option linter.unusedVariables false
set_option linter.unusedSimpArgs false

/-! ### spec_CommonLen: function 9 -/
def spec_CommonLen.f (k : Nat) (l0 : List Int) (l1 : List Int) : Option (Int) := (spec_l12Right.f l0).bind fun t126 => (if t126 = true then ((spec_l12Right.f l1).bind fun t127 => (if t127 = true then ((spec_l12Table.f k l0 l1).bind fun t128 => (if 0 < (t128.length : Int) then (if 0 < ((rd_L1 t128 0).length : Int) then (some (rd (rd_L1 t128 0) 0)) else (none)) else (none))) else (some (-1)))) else (some (-1)))
theorem spec_CommonLen.mono : ∀ a0 a1 k, LeO (spec_CommonLen.f k a0 a1) (spec_CommonLen.f (k + 1) a0 a1) := by
 intro a0 a1 k
 unfold spec_CommonLen.f
 repeat' first
   | (with_reducible exact spec_l12Table.mono _ _ _)
   | (with_reducible exact LeO.refl _)
   | (with_reducible exact LeO.none _)
   | (with_reducible refine LeO.ite ?_ ?_)
   | (with_reducible refine LeO.bind ?_ (fun _ => ?_))
   | exact spec_l12Table.mono _ _ _
   | exact LeO.none _
   | refine LeO.ite ?_ ?_
   | refine LeO.bind ?_ (fun _ => ?_)
set_option maxHeartbeats 8000000 in
set_option maxRecDepth 100000 in
theorem spec_CommonLen.calls (k : Nat) (A0 : Option Addr) (c0 : Nat) (l0 : List Int) (A1 : Option Addr) (c1 : Nat) (l1 : List Int) (r : Int) (w : World) (hr0 : Kd.C (Kd.int .i64) w A0 l0.length l0) (hc0 : l0.length ≤ c0) (hr1 : Kd.C (Kd.int .i64) w A1 l1.length l1) (hc1 : l1.length ≤ c1) (h : spec_CommonLen.f k l0 l1 = some r) :
  Calls Try.prog 9 #[.slice A0 l0.length c0, .slice A1 l1.length c1] w fun e w' => e = .returned (.int .i64 r) ∧ Below w.heap.size w w' := by
 have HR0:=mk0 hr0
 have HC0:=mk0 hc0
 clear hr0 hc0
 have HR1:=mk0 hr1
 have HC1:=mk0 hc1
 clear hr1 hc1
 have HB:=mk0 (Below.refl w.heap.size w)
 have H:((spec_l12Right.f l0).bind fun t126=>(if t126 = true then ((spec_l12Right.f l1).bind fun t127=>(if t127 = true then ((spec_l12Table.f k l0 l1).bind fun t128=>(if 0 < (t128.length:Int) then (if 0 < ((rd_L1 t128 0).length:Int) then (some (rd (rd_L1 t128 0) 0)) else (none)) else (none))) else (some (-1)))) else (some (-1)))) = some r:=h
 clear h
 replace H:=Option.bind_eq_some_iff.mp H
 obtain⟨t126,A30,H⟩:=H
 replace H:(if t126 = true then ((spec_l12Right.f l1).bind fun t127=>(if t127 = true then ((spec_l12Table.f k l0 l1).bind fun t128=>(if 0 < (t128.length:Int) then (if 0 < ((rd_L1 t128 0).length:Int) then (some (rd (rd_L1 t128 0) 0)) else (none)) else (none))) else (some (-1)))) else (some (-1))) = some r:=H
 have A3:=mk0 A30
 clear A30
 by_cases c4:t126 = true
 ·subst c4
  have H1:((spec_l12Right.f l1).bind fun t127=>(if t127 = true then ((spec_l12Table.f k l0 l1).bind fun t128=>(if 0 < (t128.length:Int) then (if 0 < ((rd_L1 t128 0).length:Int) then (some (rd (rd_L1 t128 0) 0)) else (none)) else (none))) else (some (-1)))) = some r:=by rw [if_pos rfl] at H;exact H
  clear H
  have H:=H1
  clear H1
  replace H:=Option.bind_eq_some_iff.mp H
  obtain⟨t127,A50,H⟩:=H
  replace H:(if t127 = true then ((spec_l12Table.f k l0 l1).bind fun t128=>(if 0 < (t128.length:Int) then (if 0 < ((rd_L1 t128 0).length:Int) then (some (rd (rd_L1 t128 0) 0)) else (none)) else (none))) else (some (-1))) = some r:=H
  have A5:=mk0 A50
  clear A50
  by_cases c6:t127 = true
  ·subst c6
   have H1:((spec_l12Table.f k l0 l1).bind fun t128=>(if 0 < (t128.length:Int) then (if 0 < ((rd_L1 t128 0).length:Int) then (some (rd (rd_L1 t128 0) 0)) else (none)) else (none))) = some r:=by rw [if_pos rfl] at H;exact H
   clear H
   have H:=H1
   clear H1
   replace H:=Option.bind_eq_some_iff.mp H
   obtain⟨t128,A70,H⟩:=H
   replace H:(if 0 < (t128.length:Int) then (if 0 < ((rd_L1 t128 0).length:Int) then (some (rd (rd_L1 t128 0) 0)) else (none)) else (none)) = some r:=H
   have A7:=mk0 A70
   clear A70
   by_cases c8:0 < (t128.length:Int)
   ·rw [if_pos c8] at H
    have c8b0:decide (0 < (t128.length:Int)) = true:=decide_eq_true c8
    (try simp only [hl131_0] at c8b0)
    have c8b1:decide (0 < t128.length) = true:=decide_eq_true (by omega)
    (try simp only [hl131_0] at c8b1)
    clear c8
    by_cases c9:0 < ((rd_L1 t128 0).length:Int)
    ·rw [if_pos c9] at H
     have c9b0:decide (0 < ((rd_L1 t128 0).length:Int)) = true:=decide_eq_true c9
     (try simp only [hl131_0] at c9b0)
     have c9b1:decide (0 < (rd_L1 t128 0).length) = true:=decide_eq_true (by omega)
     (try simp only [hl131_0] at c9b1)
     clear c9
     obtain rfl:=Option.some.inj H
     go_enter Try.func9,Try.ntmps9
     go_wp2_with (first|((with_reducible refine gate_callee (f:=35) rfl ?_);refine goesL_ (some 6) rfl rfl Try.func35 (by kernel_rfl) rfl #[.slice A0 l0.length c0] rfl (by (try simp only [mA,mC,mN]);first|done|rfl|(simp only [List.length_drop,List.length_take];rfl)) ?_;(with_reducible refine (spec_l12Right.calls _ _ l0 true _ ?side1 ?side2 A3.out).mono ?_);(case side1=>repeat (first|exact HR0.out|(with_reducible first|refine aC ?_ _|refine nC ?_ _|refine dC ?_)));(case side2=>exact HC0.out);rintro e w' ⟨rfl,⟨nd,rfl⟩⟩;refine⟨_,rfl,?_⟩)|(go_at_call 35;(with_reducible refine (spec_l12Right.calls _ _ l1 true _ ?side1 ?side2 A5.out).mono ?_);(case side1=>repeat (first|exact HR1.out|(with_reducible first|refine aC ?_ _|refine nC ?_ _|refine dC ?_)));(case side2=>exact HC1.out);rintro e w' ⟨rfl,⟨nd,rfl⟩⟩)|((with_reducible refine gate_callee (f:=36) rfl ?_);refine goesL_ (some 15) rfl rfl Try.func36 (by kernel_rfl) rfl #[.slice A0 l0.length c0,.slice A1 l1.length c1] rfl (by (try simp only [mA,mC,mN]);first|done|rfl|(simp only [List.length_drop,List.length_take];rfl)) ?_;(with_reducible refine (spec_l12Table.calls k _ _ l0 _ _ l1 t128 _ ?side1 ?side2 ?side3 ?side4 A7.out).mono ?_);(case side1=>repeat (first|exact HR0.out|(with_reducible first|refine aC ?_ _|refine nC ?_ _|refine dC ?_)));(case side2=>exact HC0.out);(case side3=>repeat (first|exact HR1.out|(with_reducible first|refine aC ?_ _|refine nC ?_ _|refine dC ?_)));(case side4=>exact HC1.out);rintro e w10 ⟨v129,rfl,ho0,hb⟩;refine⟨_,rfl,?_⟩;have n0_:=mk0 (Kd.S_lower ho0 (below_size (by repeat (first|(with_reducible first|exact HB.out|apply aZ|apply nZ|apply dZ)|exact HB.out))));have n1_:=mk0 (below_step (by repeat (first|(with_reducible first|exact HB.out|apply aZ|apply nZ|apply dZ)|exact HB.out)) hb);clear HB;have HO130:=n0_;have HB:=n1_;clear n0_ n1_;(try clear hb);(try clear hb2);(try clear hk);(try clear hi);(try clear ho0);obtain⟨Ao11,co11,eo11⟩:=Kd.S_slice HO130.out;subst eo11;have p131:0 ≤ (0:Int):=(by omega);have q131:0 < (t128.length:Int):=of_decide_eq_true (by first|(with_reducible assumption)|assumption);obtain⟨ad131,A131_0,c131_0,e131,hx131_0,hl131_0,hi131_0⟩:=at_L1 (Kd.S_reads' HO130.out).2.2 0 p131 q131;cases e131;obtain⟨ce131,hce131,hMe131,hcc131⟩:=Kd.S_get HO130.out [] 0 p131 (by first|exact q131|exact of_decide_eq_true (by first|(with_reducible assumption)|assumption)|(have e_:=(Kd.S_reads' HO130.out).1;omega));obtain⟨ve131_0,rfl,ge131_0⟩:=hMe131;have hv131_0:=hcc131 0 _ rfl;rw [Nat.add_zero,show ((Kd.slice 3 (Kd.int .i64))).sz = 1 from rfl,Nat.mul_one] at hv131_0;replace hv131_0:=Option.some.inj (hv131_0.symm.trans hx131_0);rw [hv131_0] at ge131_0;have HL131_0:=mk0 (show Kd.R (Kd.int .i64) 3 _ _ _ _ (rd_L1 t128 0) from ge131_0);clear hv131_0 ge131_0 hcc131 hce131;have qi131:(0 < t128.length) = True:=eq_true (by omega);(try rw [show ((0:Int)).toNat = 0 from rfl] at hx131_0);(try rw [Addr.add_zero'] at hx131_0);have HR131_0:=mk0 hi131_0;have HC131_0:=mk0 hl131_0;clear hi131_0 hl131_0;replace p131:=eq_true p131;replace q131:=eq_true q131;have p132:0 ≤ (0:Int):=(by omega);have q132:0 < ((rd_L1 t128 0).length:Int):=of_decide_eq_true (by first|(with_reducible assumption)|assumption);obtain⟨ad132,e132,hx132_0⟩:=Kd.at_int (by repeat (first|(with_reducible exact HR131_0.out)|(with_reducible first|refine aC ?_ _|refine nC ?_ _|refine dC ?_)|exact HR131_0.out)) 0 p132 q132;cases e132;have qi132:(0 < (rd_L1 t128 0).length) = True:=eq_true (by omega);(try rw [show ((0:Int)).toNat = 0 from rfl] at hx132_0);(try rw [Addr.add_zero'] at hx132_0);replace p132:=eq_true p132;replace q132:=eq_true q132))
     go_ret
     exact⟨by first|rfl|(simp [errW_none,errW_some] <;> rfl)|(simp [*,errW_none,errW_some] <;> rfl),by repeat (first|(with_reducible first|exact HB.out|apply aZ|apply nZ|apply dZ)|exact HB.out)⟩
    ·rw [if_neg c9] at H
     exact absurd H (by simp)
   ·rw [if_neg c8] at H
    exact absurd H (by simp)
  ·replace c6:=Bool.eq_false_iff.mpr c6
   subst c6
   have H1:(some (-1)) = some r:=by rw [if_neg (show ¬ (false = true) by decide)] at H;exact H
   clear H
   have H:=H1
   clear H1
   obtain rfl:=Option.some.inj H
   go_enter Try.func9,Try.ntmps9
   go_wp2_with (first|((with_reducible refine gate_callee (f:=35) rfl ?_);refine goesL_ (some 6) rfl rfl Try.func35 (by kernel_rfl) rfl #[.slice A0 l0.length c0] rfl (by (try simp only [mA,mC,mN]);first|done|rfl|(simp only [List.length_drop,List.length_take];rfl)) ?_;(with_reducible refine (spec_l12Right.calls _ _ l0 true _ ?side1 ?side2 A3.out).mono ?_);(case side1=>repeat (first|exact HR0.out|(with_reducible first|refine aC ?_ _|refine nC ?_ _|refine dC ?_)));(case side2=>exact HC0.out);rintro e w' ⟨rfl,⟨nd,rfl⟩⟩;refine⟨_,rfl,?_⟩)|(go_at_call 35;(with_reducible refine (spec_l12Right.calls _ _ l1 false _ ?side1 ?side2 A5.out).mono ?_);(case side1=>repeat (first|exact HR1.out|(with_reducible first|refine aC ?_ _|refine nC ?_ _|refine dC ?_)));(case side2=>exact HC1.out);rintro e w' ⟨rfl,⟨nd,rfl⟩⟩))
   go_ret
   exact⟨by first|rfl|(simp [errW_none,errW_some] <;> rfl)|(simp [*,errW_none,errW_some] <;> rfl),by repeat (first|(with_reducible first|exact HB.out|apply aZ|apply nZ|apply dZ)|exact HB.out)⟩
 ·replace c4:=Bool.eq_false_iff.mpr c4
  subst c4
  have H1:(some (-1)) = some r:=by rw [if_neg (show ¬ (false = true) by decide)] at H;exact H
  clear H
  have H:=H1
  clear H1
  obtain rfl:=Option.some.inj H
  go_enter Try.func9,Try.ntmps9
  go_wp2_with (first|((with_reducible refine gate_callee (f:=35) rfl ?_);refine goesL_ (some 6) rfl rfl Try.func35 (by kernel_rfl) rfl #[.slice A0 l0.length c0] rfl (by (try simp only [mA,mC,mN]);first|done|rfl|(simp only [List.length_drop,List.length_take];rfl)) ?_;(with_reducible refine (spec_l12Right.calls _ _ l0 false _ ?side1 ?side2 A3.out).mono ?_);(case side1=>repeat (first|exact HR0.out|(with_reducible first|refine aC ?_ _|refine nC ?_ _|refine dC ?_)));(case side2=>exact HC0.out);rintro e w' ⟨rfl,⟨nd,rfl⟩⟩;refine⟨_,rfl,?_⟩))
  go_ret
  exact⟨by first|rfl|(simp [errW_none,errW_some] <;> rfl)|(simp [*,errW_none,errW_some] <;> rfl),by repeat (first|(with_reducible first|exact HB.out|apply aZ|apply nZ|apply dZ)|exact HB.out)⟩

/-! ### impl_areListed: function 37 -/
def impl_areListed.f (l0 : List Int) (l1 : List Int) : Option (Bool) := if (l0.length : Int) ≤ 301 then (some (decide ((l1.length : Int) ≤ 301))) else (some false)
set_option maxHeartbeats 8000000 in
set_option maxRecDepth 100000 in
theorem impl_areListed.calls (A0 : Option Addr) (c0 : Nat) (l0 : List Int) (A1 : Option Addr) (c1 : Nat) (l1 : List Int) (r : Bool) (w : World) (hr0 : Kd.C (Kd.int .i64) w A0 l0.length l0) (hc0 : l0.length ≤ c0) (hr1 : Kd.C (Kd.int .i64) w A1 l1.length l1) (hc1 : l1.length ≤ c1) (h : impl_areListed.f l0 l1 = some r) :
  Calls Try.prog 37 #[.slice A0 l0.length c0, .slice A1 l1.length c1] w fun e w' => e = .returned (.bool r) ∧ Drawn0 w w' := by
 have HR0:=mk0 hr0
 have HC0:=mk0 hc0
 clear hr0 hc0
 have HR1:=mk0 hr1
 have HC1:=mk0 hc1
 clear hr1 hc1
 have H:(if (l0.length:Int) ≤ 301 then (some (decide ((l1.length:Int) ≤ 301))) else (some false)) = some r:=h
 clear h
 by_cases c3:(l0.length:Int) ≤ 301
 ·rw [if_pos c3] at H
  have c3b0:decide ((l0.length:Int) ≤ 301) = true:=decide_eq_true c3
  have c3b1:decide (l0.length ≤ 301) = true:=decide_eq_true (by omega)
  clear c3
  obtain rfl:=Option.some.inj H
  go_enter Try.func37,Try.ntmps37
  go_wp2
  go_ret
  exact⟨by first|rfl|(simp;done)|(simp [*];done),by repeat (first|exact Drawn0.refl _|apply Drawn0.step)⟩
 ·rw [if_neg c3] at H
  have c3b0:decide ((l0.length:Int) ≤ 301) = false:=decide_eq_false c3
  have c3b1:decide (l0.length ≤ 301) = false:=decide_eq_false (by omega)
  clear c3
  obtain rfl:=Option.some.inj H
  go_enter Try.func37,Try.ntmps37
  go_wp2
  go_ret
  exact⟨by first|rfl|(simp;done)|(simp [*];done),by repeat (first|exact Drawn0.refl _|apply Drawn0.step)⟩

end Go.Proofs.Ytlnmkgeoiinjfaa.QFnCommon
