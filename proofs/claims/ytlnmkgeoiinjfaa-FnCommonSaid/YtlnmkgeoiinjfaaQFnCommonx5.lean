-- A walk, made by walk.py, a program of this session's.
import Derived.Test.YtlnmkgeoiinjfaaQFnCommonx0
import Derived.Test.YtlnmkgeoiinjfaaQFnCommonx1
import Derived.Test.YtlnmkgeoiinjfaaQFnCommonx3
import Derived.Test.YtlnmkgeoiinjfaaQFnCommonx4
namespace Go.Proofs.Ytlnmkgeoiinjfaa.QFnCommon
open Go.RowKit Go.Proofs.YtlnmkgeoiinjfaaW.PrintWords Go.Proofs.YtlnmkgeoiinjfaaW.PrintLast Go.Proofs.YtlnmkgeoiinjfaaW.PrintMore
attribute [local go_sem] max2_int min2_int max_two min_two max_three min_three max_four min_four   -- for this text's walks alone
set_option linter.unusedVariables false
set_option linter.unusedSimpArgs false

/-! ### impl_CommonLen: function 11 -/
def impl_CommonLen.f (k : Nat) (l0 : List Int) (l1 : List Int) : Option (Int) := (impl_areListed.f l0 l1).bind fun t160 => (if t160 = true then ((impl_commonTable.f k l0 l1).bind fun t161 => (if 0 < (t161.length : Int) then (if 0 < ((rd_L1 t161 0).length : Int) then (some (rd (rd_L1 t161 0) 0)) else (none)) else (none))) else (some (-1)))
theorem impl_CommonLen.mono : ∀ a0 a1 k, LeO (impl_CommonLen.f k a0 a1) (impl_CommonLen.f (k + 1) a0 a1) := by
 intro a0 a1 k
 unfold impl_CommonLen.f
 repeat' first
   | (with_reducible exact impl_commonTable.mono _ _ _)
   | (with_reducible exact LeO.refl _)
   | (with_reducible exact LeO.none _)
   | (with_reducible refine LeO.ite ?_ ?_)
   | (with_reducible refine LeO.bind ?_ (fun _ => ?_))
   | exact impl_commonTable.mono _ _ _
   | exact LeO.none _
   | refine LeO.ite ?_ ?_
   | refine LeO.bind ?_ (fun _ => ?_)
set_option maxHeartbeats 8000000 in
set_option maxRecDepth 100000 in
theorem impl_CommonLen.calls (k : Nat) (A0 : Option Addr) (c0 : Nat) (l0 : List Int) (A1 : Option Addr) (c1 : Nat) (l1 : List Int) (r : Int) (w : World) (hr0 : Kd.C (Kd.int .i64) w A0 l0.length l0) (hc0 : l0.length ≤ c0) (hr1 : Kd.C (Kd.int .i64) w A1 l1.length l1) (hc1 : l1.length ≤ c1) (h : impl_CommonLen.f k l0 l1 = some r) :
  Calls Try.prog 11 #[.slice A0 l0.length c0, .slice A1 l1.length c1] w fun e w' => e = .returned (.int .i64 r) ∧ Below w.heap.size w w' := by
 have HR0:=mk0 hr0
 have HC0:=mk0 hc0
 clear hr0 hc0
 have HR1:=mk0 hr1
 have HC1:=mk0 hc1
 clear hr1 hc1
 have HB:=mk0 (Below.refl w.heap.size w)
 have H:((impl_areListed.f l0 l1).bind fun t160=>(if t160 = true then ((impl_commonTable.f k l0 l1).bind fun t161=>(if 0 < (t161.length:Int) then (if 0 < ((rd_L1 t161 0).length:Int) then (some (rd (rd_L1 t161 0) 0)) else (none)) else (none))) else (some (-1)))) = some r:=h
 clear h
 replace H:=Option.bind_eq_some_iff.mp H
 obtain⟨t160,A30,H⟩:=H
 replace H:(if t160 = true then ((impl_commonTable.f k l0 l1).bind fun t161=>(if 0 < (t161.length:Int) then (if 0 < ((rd_L1 t161 0).length:Int) then (some (rd (rd_L1 t161 0) 0)) else (none)) else (none))) else (some (-1))) = some r:=H
 have A3:=mk0 A30
 clear A30
 by_cases c4:t160 = true
 ·subst c4
  have H1:((impl_commonTable.f k l0 l1).bind fun t161=>(if 0 < (t161.length:Int) then (if 0 < ((rd_L1 t161 0).length:Int) then (some (rd (rd_L1 t161 0) 0)) else (none)) else (none))) = some r:=by rw [if_pos rfl] at H;exact H
  clear H
  have H:=H1
  clear H1
  replace H:=Option.bind_eq_some_iff.mp H
  obtain⟨t161,A50,H⟩:=H
  replace H:(if 0 < (t161.length:Int) then (if 0 < ((rd_L1 t161 0).length:Int) then (some (rd (rd_L1 t161 0) 0)) else (none)) else (none)) = some r:=H
  have A5:=mk0 A50
  clear A50
  by_cases c6:0 < (t161.length:Int)
  ·rw [if_pos c6] at H
   have c6b0:decide (0 < (t161.length:Int)) = true:=decide_eq_true c6
   (try simp only [hl164_0] at c6b0)
   have c6b1:decide (0 < t161.length) = true:=decide_eq_true (by omega)
   (try simp only [hl164_0] at c6b1)
   clear c6
   by_cases c7:0 < ((rd_L1 t161 0).length:Int)
   ·rw [if_pos c7] at H
    have c7b0:decide (0 < ((rd_L1 t161 0).length:Int)) = true:=decide_eq_true c7
    (try simp only [hl164_0] at c7b0)
    have c7b1:decide (0 < (rd_L1 t161 0).length) = true:=decide_eq_true (by omega)
    (try simp only [hl164_0] at c7b1)
    clear c7
    obtain rfl:=Option.some.inj H
    go_enter Try.func11,Try.ntmps11
    go_wp2_with (first|((with_reducible refine gate_callee (f:=37) rfl ?_);refine goesL_ (some 7) rfl rfl Try.func37 (by kernel_rfl) rfl #[.slice A0 l0.length c0,.slice A1 l1.length c1] rfl (by (try simp only [mA,mC,mN]);first|done|rfl|(simp only [List.length_drop,List.length_take];rfl)) ?_;(with_reducible refine (impl_areListed.calls _ _ l0 _ _ l1 true _ ?side1 ?side2 ?side3 ?side4 A3.out).mono ?_);(case side1=>repeat (first|exact HR0.out|(with_reducible first|refine aC ?_ _|refine nC ?_ _|refine dC ?_)));(case side2=>exact HC0.out);(case side3=>repeat (first|exact HR1.out|(with_reducible first|refine aC ?_ _|refine nC ?_ _|refine dC ?_)));(case side4=>exact HC1.out);rintro e w' ⟨rfl,⟨nd,rfl⟩⟩;refine⟨_,rfl,?_⟩)|((with_reducible refine gate_callee (f:=38) rfl ?_);refine goesL_ (some 11) rfl rfl Try.func38 (by kernel_rfl) rfl #[.slice A0 l0.length c0,.slice A1 l1.length c1] rfl (by (try simp only [mA,mC,mN]);first|done|rfl|(simp only [List.length_drop,List.length_take];rfl)) ?_;(with_reducible refine (impl_commonTable.calls k _ _ l0 _ _ l1 t161 _ ?side1 ?side2 ?side3 ?side4 A5.out).mono ?_);(case side1=>repeat (first|exact HR0.out|(with_reducible first|refine aC ?_ _|refine nC ?_ _|refine dC ?_)));(case side2=>exact HC0.out);(case side3=>repeat (first|exact HR1.out|(with_reducible first|refine aC ?_ _|refine nC ?_ _|refine dC ?_)));(case side4=>exact HC1.out);rintro e w8 ⟨v162,rfl,ho0,hb⟩;refine⟨_,rfl,?_⟩;have n0_:=mk0 (Kd.S_lower ho0 (below_size (by repeat (first|(with_reducible first|exact HB.out|apply aZ|apply nZ|apply dZ)|exact HB.out))));have n1_:=mk0 (below_step (by repeat (first|(with_reducible first|exact HB.out|apply aZ|apply nZ|apply dZ)|exact HB.out)) hb);clear HB;have HO163:=n0_;have HB:=n1_;clear n0_ n1_;(try clear hb);(try clear hb2);(try clear hk);(try clear hi);(try clear ho0);obtain⟨Ao9,co9,eo9⟩:=Kd.S_slice HO163.out;subst eo9;have p164:0 ≤ (0:Int):=(by omega);have q164:0 < (t161.length:Int):=of_decide_eq_true (by first|(with_reducible assumption)|assumption);obtain⟨ad164,A164_0,c164_0,e164,hx164_0,hl164_0,hi164_0⟩:=at_L1 (Kd.S_reads' HO163.out).2.2 0 p164 q164;cases e164;obtain⟨ce164,hce164,hMe164,hcc164⟩:=Kd.S_get HO163.out [] 0 p164 (by first|exact q164|exact of_decide_eq_true (by first|(with_reducible assumption)|assumption)|(have e_:=(Kd.S_reads' HO163.out).1;omega));obtain⟨ve164_0,rfl,ge164_0⟩:=hMe164;have hv164_0:=hcc164 0 _ rfl;rw [Nat.add_zero,show ((Kd.slice 3 (Kd.int .i64))).sz = 1 from rfl,Nat.mul_one] at hv164_0;replace hv164_0:=Option.some.inj (hv164_0.symm.trans hx164_0);rw [hv164_0] at ge164_0;have HL164_0:=mk0 (show Kd.R (Kd.int .i64) 3 _ _ _ _ (rd_L1 t161 0) from ge164_0);clear hv164_0 ge164_0 hcc164 hce164;have qi164:(0 < t161.length) = True:=eq_true (by omega);(try rw [show ((0:Int)).toNat = 0 from rfl] at hx164_0);(try rw [Addr.add_zero'] at hx164_0);have HR164_0:=mk0 hi164_0;have HC164_0:=mk0 hl164_0;clear hi164_0 hl164_0;replace p164:=eq_true p164;replace q164:=eq_true q164;have p165:0 ≤ (0:Int):=(by omega);have q165:0 < ((rd_L1 t161 0).length:Int):=of_decide_eq_true (by first|(with_reducible assumption)|assumption);obtain⟨ad165,e165,hx165_0⟩:=Kd.at_int (by repeat (first|(with_reducible exact HR164_0.out)|(with_reducible first|refine aC ?_ _|refine nC ?_ _|refine dC ?_)|exact HR164_0.out)) 0 p165 q165;cases e165;have qi165:(0 < (rd_L1 t161 0).length) = True:=eq_true (by omega);(try rw [show ((0:Int)).toNat = 0 from rfl] at hx165_0);(try rw [Addr.add_zero'] at hx165_0);replace p165:=eq_true p165;replace q165:=eq_true q165))
    go_ret
    exact⟨by first|rfl|(simp [errW_none,errW_some] <;> rfl)|(simp [*,errW_none,errW_some] <;> rfl),by repeat (first|(with_reducible first|exact HB.out|apply aZ|apply nZ|apply dZ)|exact HB.out)⟩
   ·rw [if_neg c7] at H
    exact absurd H (by simp)
  ·rw [if_neg c6] at H
   exact absurd H (by simp)
 ·replace c4:=Bool.eq_false_iff.mpr c4
  subst c4
  have H1:(some (-1)) = some r:=by rw [if_neg (show ¬ (false = true) by decide)] at H;exact H
  clear H
  have H:=H1
  clear H1
  obtain rfl:=Option.some.inj H
  go_enter Try.func11,Try.ntmps11
  go_wp2_with (first|((with_reducible refine gate_callee (f:=37) rfl ?_);refine goesL_ (some 7) rfl rfl Try.func37 (by kernel_rfl) rfl #[.slice A0 l0.length c0,.slice A1 l1.length c1] rfl (by (try simp only [mA,mC,mN]);first|done|rfl|(simp only [List.length_drop,List.length_take];rfl)) ?_;(with_reducible refine (impl_areListed.calls _ _ l0 _ _ l1 false _ ?side1 ?side2 ?side3 ?side4 A3.out).mono ?_);(case side1=>repeat (first|exact HR0.out|(with_reducible first|refine aC ?_ _|refine nC ?_ _|refine dC ?_)));(case side2=>exact HC0.out);(case side3=>repeat (first|exact HR1.out|(with_reducible first|refine aC ?_ _|refine nC ?_ _|refine dC ?_)));(case side4=>exact HC1.out);rintro e w' ⟨rfl,⟨nd,rfl⟩⟩;refine⟨_,rfl,?_⟩))
  go_ret
  exact⟨by first|rfl|(simp [errW_none,errW_some] <;> rfl)|(simp [*,errW_none,errW_some] <;> rfl),by repeat (first|(with_reducible first|exact HB.out|apply aZ|apply nZ|apply dZ)|exact HB.out)⟩

/-! ### spec_CommonOk: function 14 -/
mutual
def spec_CommonOk.j0 : Nat → List Int → List Int → List (S56) → Bool → Option (Bool)
 | 0, _, _, _, _ => none
 | k + 1, x0, x1, x2, x16 => if x16 = true then (some false) else (spec_CommonOk.l0 k x0 x1 x2 0)
def spec_CommonOk.l0 : Nat → List Int → List Int → List (S56) → Int → Option (Bool)
 | 0, _, _, _, _ => none
 | k + 1, x0, x1, x2, x7 => if x7 < (x2.length : Int) then (if 0 ≤ x7 then (if ((rd_T56 x2 x7).f0) < 0 then (spec_CommonOk.j2 k x0 x1 x2 x7 true ((rd_T56 x2 x7).f0) ((rd_T56 x2 x7).f1)) else (if ((rd_T56 x2 x7).f0) ≥ (x0.length : Int) then (spec_CommonOk.j2 k x0 x1 x2 x7 true ((rd_T56 x2 x7).f0) ((rd_T56 x2 x7).f1)) else (if ((rd_T56 x2 x7).f1) < 0 then (spec_CommonOk.j2 k x0 x1 x2 x7 true ((rd_T56 x2 x7).f0) ((rd_T56 x2 x7).f1)) else (if ((rd_T56 x2 x7).f1) ≥ (x1.length : Int) then (spec_CommonOk.j2 k x0 x1 x2 x7 true ((rd_T56 x2 x7).f0) ((rd_T56 x2 x7).f1)) else (if 0 ≤ ((rd_T56 x2 x7).f0) then (if ((rd_T56 x2 x7).f0) < (x0.length : Int) then (if 0 ≤ ((rd_T56 x2 x7).f1) then (if ((rd_T56 x2 x7).f1) < (x1.length : Int) then (spec_CommonOk.j2 k x0 x1 x2 x7 ((rd x0 ((rd_T56 x2 x7).f0)) != (rd x1 ((rd_T56 x2 x7).f1))) ((rd_T56 x2 x7).f0) ((rd_T56 x2 x7).f1)) else (none)) else (none)) else (none)) else (none)))))) else (none)) else (some true)
def spec_CommonOk.j2 : Nat → List Int → List Int → List (S56) → Int → Bool → Int → Int → Option (Bool)
 | 0, _, _, _, _, _, _, _ => none
 | k + 1, x0, x1, x2, x7, x61, x170000, x170001 => if x61 = true then (some false) else (if x7 > 0 then (if 0 ≤ (wrap64 (x7 - 1)) then (if (wrap64 (x7 - 1)) < (x2.length : Int) then (if ((rd_T56 x2 (wrap64 (x7 - 1))).f0) ≥ x170000 then (spec_CommonOk.j3 k x0 x1 x2 x7 true) else (spec_CommonOk.j3 k x0 x1 x2 x7 (decide (((rd_T56 x2 (wrap64 (x7 - 1))).f1) ≥ x170001)))) else (none)) else (none)) else (spec_CommonOk.j3 k x0 x1 x2 x7 false))
def spec_CommonOk.j3 : Nat → List Int → List Int → List (S56) → Int → Bool → Option (Bool)
 | 0, _, _, _, _, _ => none
 | k + 1, x0, x1, x2, x7, x85 => if x85 = true then (some false) else (spec_CommonOk.l0 k x0 x1 x2 (wrap64 (x7 + 1)))
end
def spec_CommonOk.f (k : Nat) (l0 : List Int) (l1 : List Int) (l2 : List (S56)) : Option (Bool) := (spec_l12Right.f l0).bind fun t166 => (if t166 = true then ((spec_l12Right.f l1).bind fun t167 => (spec_CommonOk.j0 k l0 l1 l2 (!t167))) else (spec_CommonOk.j0 k l0 l1 l2 true))
theorem spec_CommonOk.mono_l : ∀ k, (∀ y0 y1 y2 y3, LeO (spec_CommonOk.j0 k y0 y1 y2 y3) (spec_CommonOk.j0 (k + 1) y0 y1 y2 y3)) ∧ (∀ y0 y1 y2 y3, LeO (spec_CommonOk.l0 k y0 y1 y2 y3) (spec_CommonOk.l0 (k + 1) y0 y1 y2 y3)) ∧ (∀ y0 y1 y2 y3 y4 y5 y6, LeO (spec_CommonOk.j2 k y0 y1 y2 y3 y4 y5 y6) (spec_CommonOk.j2 (k + 1) y0 y1 y2 y3 y4 y5 y6)) ∧ (∀ y0 y1 y2 y3 y4, LeO (spec_CommonOk.j3 k y0 y1 y2 y3 y4) (spec_CommonOk.j3 (k + 1) y0 y1 y2 y3 y4))
 | 0 => ⟨fun _ _ _ _ r h => by simp [spec_CommonOk.j0] at h, fun _ _ _ _ r h => by simp [spec_CommonOk.l0] at h, fun _ _ _ _ _ _ _ r h => by simp [spec_CommonOk.j2] at h, fun _ _ _ _ _ r h => by simp [spec_CommonOk.j3] at h⟩
 | k + 1 => by
  obtain ⟨ih0, ih1, ih2, ih3⟩ := spec_CommonOk.mono_l k
  refine ⟨?_, ?_, ?_, ?_⟩
  ·intro y0 y1 y2 y3
   unfold spec_CommonOk.j0
   repeat' first
   | (with_reducible exact ih0 _ _ _ _)
   | (with_reducible exact ih1 _ _ _ _)
   | (with_reducible exact ih2 _ _ _ _ _ _ _)
   | (with_reducible exact ih3 _ _ _ _ _)
   | (with_reducible exact LeO.refl _)
   | (with_reducible exact LeO.none _)
   | (with_reducible refine LeO.ite ?_ ?_)
   | (with_reducible refine LeO.bind ?_ (fun _ => ?_))
   | exact ih0 _ _ _ _
   | exact ih1 _ _ _ _
   | exact ih2 _ _ _ _ _ _ _
   | exact ih3 _ _ _ _ _
   | exact LeO.none _
   | refine LeO.ite ?_ ?_
   | refine LeO.bind ?_ (fun _ => ?_)
  ·intro y0 y1 y2 y3
   unfold spec_CommonOk.l0
   repeat' first
   | (with_reducible exact ih0 _ _ _ _)
   | (with_reducible exact ih1 _ _ _ _)
   | (with_reducible exact ih2 _ _ _ _ _ _ _)
   | (with_reducible exact ih3 _ _ _ _ _)
   | (with_reducible exact LeO.refl _)
   | (with_reducible exact LeO.none _)
   | (with_reducible refine LeO.ite ?_ ?_)
   | (with_reducible refine LeO.bind ?_ (fun _ => ?_))
   | exact ih0 _ _ _ _
   | exact ih1 _ _ _ _
   | exact ih2 _ _ _ _ _ _ _
   | exact ih3 _ _ _ _ _
   | exact LeO.none _
   | refine LeO.ite ?_ ?_
   | refine LeO.bind ?_ (fun _ => ?_)
  ·intro y0 y1 y2 y3 y4 y5 y6
   unfold spec_CommonOk.j2
   repeat' first
   | (with_reducible exact ih0 _ _ _ _)
   | (with_reducible exact ih1 _ _ _ _)
   | (with_reducible exact ih2 _ _ _ _ _ _ _)
   | (with_reducible exact ih3 _ _ _ _ _)
   | (with_reducible exact LeO.refl _)
   | (with_reducible exact LeO.none _)
   | (with_reducible refine LeO.ite ?_ ?_)
   | (with_reducible refine LeO.bind ?_ (fun _ => ?_))
   | exact ih0 _ _ _ _
   | exact ih1 _ _ _ _
   | exact ih2 _ _ _ _ _ _ _
   | exact ih3 _ _ _ _ _
   | exact LeO.none _
   | refine LeO.ite ?_ ?_
   | refine LeO.bind ?_ (fun _ => ?_)
  ·intro y0 y1 y2 y3 y4
   unfold spec_CommonOk.j3
   repeat' first
   | (with_reducible exact ih0 _ _ _ _)
   | (with_reducible exact ih1 _ _ _ _)
   | (with_reducible exact ih2 _ _ _ _ _ _ _)
   | (with_reducible exact ih3 _ _ _ _ _)
   | (with_reducible exact LeO.refl _)
   | (with_reducible exact LeO.none _)
   | (with_reducible refine LeO.ite ?_ ?_)
   | (with_reducible refine LeO.bind ?_ (fun _ => ?_))
   | exact ih0 _ _ _ _
   | exact ih1 _ _ _ _
   | exact ih2 _ _ _ _ _ _ _
   | exact ih3 _ _ _ _ _
   | exact LeO.none _
   | refine LeO.ite ?_ ?_
   | refine LeO.bind ?_ (fun _ => ?_)
theorem spec_CommonOk.mono : ∀ a0 a1 a2 k, LeO (spec_CommonOk.f k a0 a1 a2) (spec_CommonOk.f (k + 1) a0 a1 a2) := by
 intro a0 a1 a2 k
 obtain ⟨ih0, ih1, ih2, ih3⟩ := spec_CommonOk.mono_l k
 unfold spec_CommonOk.f
 repeat' first
   | (with_reducible exact ih0 _ _ _ _)
   | (with_reducible exact ih1 _ _ _ _)
   | (with_reducible exact ih2 _ _ _ _ _ _ _)
   | (with_reducible exact ih3 _ _ _ _ _)
   | (with_reducible exact LeO.refl _)
   | (with_reducible exact LeO.none _)
   | (with_reducible refine LeO.ite ?_ ?_)
   | (with_reducible refine LeO.bind ?_ (fun _ => ?_))
   | exact ih0 _ _ _ _
   | exact ih1 _ _ _ _
   | exact ih2 _ _ _ _ _ _ _
   | exact ih3 _ _ _ _ _
   | exact LeO.none _
   | refine LeO.ite ?_ ?_
   | refine LeO.bind ?_ (fun _ => ?_)
set_option maxHeartbeats 8000000 in
set_option maxRecDepth 100000 in
theorem spec_CommonOk.calls (k : Nat) (A0 : Option Addr) (c0 : Nat) (l0 : List Int) (A1 : Option Addr) (c1 : Nat) (l1 : List Int) (A2 : Option Addr) (c2 : Nat) (l2 : List (S56)) (r : Bool) (w : World) (hr0 : Kd.C (Kd.int .i64) w A0 l0.length l0) (hc0 : l0.length ≤ c0) (hr1 : Kd.C (Kd.int .i64) w A1 l1.length l1) (hc1 : l1.length ≤ c1) (hr2 : Kd.C k56 w A2 l2.length l2) (hc2 : l2.length ≤ c2) (h : spec_CommonOk.f k l0 l1 l2 = some r) :
  Calls Try.prog 14 #[.slice A0 l0.length c0, .slice A1 l1.length c1, .slice A2 l2.length c2] w fun e w' => e = .returned (.bool r) ∧ Below w.heap.size w w' := by
 have hu56:=Try.underlying56
 have HR0:=mk0 hr0
 have HC0:=mk0 hc0
 clear hr0 hc0
 have HR1:=mk0 hr1
 have HC1:=mk0 hc1
 clear hr1 hc1
 have HR2:=mk0 hr2
 have HC2:=mk0 hc2
 clear hr2 hc2
 have HB:=mk0 (Below.refl w.heap.size w)
 have H:((spec_l12Right.f l0).bind fun t166=>(if t166 = true then ((spec_l12Right.f l1).bind fun t167=>(spec_CommonOk.j0 k l0 l1 l2 (!t167))) else (spec_CommonOk.j0 k l0 l1 l2 true))) = some r:=h
 clear h
 have HC4:=mk0 H
 clear H
 go_enter Try.func14,Try.ntmps14
 go_upto_region 1 with (fail)
 repeat (go_quiet (fail);go_upto_region 1 with (fail))
 go_cut [16] (fun v16 wc=>∃ (kq:Nat) (x16_3:Bool),v16 = .bool x16_3 ∧ Aside0 (spec_CommonOk.j0 kq l0 l1 l2 x16_3 = some r) ∧ Aside0 (kq ≤ k) ∧ Aside0 (Below w.heap.size w wc))
 case first =>
  have H:=HC4.out
  clear HC4
  replace H:=Option.bind_eq_some_iff.mp H
  obtain⟨t166,A50,H⟩:=H
  replace H:(if t166 = true then ((spec_l12Right.f l1).bind fun t167=>(spec_CommonOk.j0 k l0 l1 l2 (!t167))) else (spec_CommonOk.j0 k l0 l1 l2 true)) = some r:=H
  have A5:=mk0 A50
  clear A50
  by_cases c6:t166 = true
  rotate_left
  ·replace c6:=Bool.eq_false_iff.mpr c6
   subst c6
   have H1:(spec_CommonOk.j0 k l0 l1 l2 true) = some r:=by rw [if_neg (show ¬ (false = true) by decide)] at H;exact H
   clear H
   have H:=H1
   clear H1
   have H':=mk0 H
   clear H
   go_wp2_with (first|(go_at_call 35;(with_reducible refine (spec_l12Right.calls _ _ l0 false _ ?side1 ?side2 A5.out).mono ?_);(case side1=>repeat (first|exact (Kd.C_below HR0.out HB.out)|(with_reducible first|refine aC ?_ _|refine nC ?_ _|refine dC ?_)));(case side2=>exact HC0.out);rintro e w' ⟨rfl,⟨nd,rfl⟩⟩;(try first|exact⟨rfl,_,World.drewN_drewN _ _ _⟩|exact⟨rfl,_,Eq.trans (World.drewN_drewN _ _ _) (congrArg (World.drewN _) (Nat.add_assoc _ _ _))⟩)))
   repeat (go_quiet (first|(go_at_call 35;(with_reducible refine (spec_l12Right.calls _ _ l0 false _ ?side1 ?side2 A5.out).mono ?_);(case side1=>repeat (first|exact (Kd.C_below HR0.out HB.out)|(with_reducible first|refine aC ?_ _|refine nC ?_ _|refine dC ?_)));(case side2=>exact HC0.out);rintro e w' ⟨rfl,⟨nd,rfl⟩⟩;(try first|exact⟨rfl,_,World.drewN_drewN _ _ _⟩|exact⟨rfl,_,Eq.trans (World.drewN_drewN _ _ _) (congrArg (World.drewN _) (Nat.add_assoc _ _ _))⟩)));try go_wp2_with (first|(go_at_call 35;(with_reducible refine (spec_l12Right.calls _ _ l0 false _ ?side1 ?side2 A5.out).mono ?_);(case side1=>repeat (first|exact (Kd.C_below HR0.out HB.out)|(with_reducible first|refine aC ?_ _|refine nC ?_ _|refine dC ?_)));(case side2=>exact HC0.out);rintro e w' ⟨rfl,⟨nd,rfl⟩⟩;(try first|exact⟨rfl,_,World.drewN_drewN _ _ _⟩|exact⟨rfl,_,Eq.trans (World.drewN_drewN _ _ _) (congrArg (World.drewN _) (Nat.add_assoc _ _ _))⟩))))
   go_meet
   case rel=>exact⟨_,(true),(by first|rfl|(simp;done)|(simp [*];done)),H',⟨by first|omega|exact Nat.le_refl _⟩,⟨by repeat (first|(with_reducible first|exact HB.out|apply aZ|apply nZ|apply dZ)|exact HB.out)⟩⟩
  subst c6
  have H1:((spec_l12Right.f l1).bind fun t167=>(spec_CommonOk.j0 k l0 l1 l2 (!t167))) = some r:=by rw [if_pos rfl] at H;exact H
  clear H
  have H:=H1
  clear H1
  replace H:=Option.bind_eq_some_iff.mp H
  obtain⟨t167,A70,H⟩:=H
  replace H:(spec_CommonOk.j0 k l0 l1 l2 (!t167)) = some r:=H
  have A7:=mk0 A70
  clear A70
  have H':=mk0 H
  clear H
  go_wp2_with (first|(go_at_call 35;(with_reducible refine (spec_l12Right.calls _ _ l0 true _ ?side1 ?side2 A5.out).mono ?_);(case side1=>repeat (first|exact (Kd.C_below HR0.out HB.out)|(with_reducible first|refine aC ?_ _|refine nC ?_ _|refine dC ?_)));(case side2=>exact HC0.out);rintro e w' ⟨rfl,⟨nd,rfl⟩⟩;(try first|exact⟨rfl,_,World.drewN_drewN _ _ _⟩|exact⟨rfl,_,Eq.trans (World.drewN_drewN _ _ _) (congrArg (World.drewN _) (Nat.add_assoc _ _ _))⟩))|(go_at_call 35;(with_reducible refine (spec_l12Right.calls _ _ l1 t167 _ ?side1 ?side2 A7.out).mono ?_);(case side1=>repeat (first|exact (Kd.C_below HR1.out (by repeat (first|(with_reducible first|exact HB.out|apply aZ|apply nZ|apply dZ)|exact HB.out)))|(with_reducible first|refine aC ?_ _|refine nC ?_ _|refine dC ?_)));(case side2=>exact HC1.out);rintro e w' ⟨rfl,⟨nd,rfl⟩⟩;(try first|exact⟨rfl,_,World.drewN_drewN _ _ _⟩|exact⟨rfl,_,Eq.trans (World.drewN_drewN _ _ _) (congrArg (World.drewN _) (Nat.add_assoc _ _ _))⟩)))
  repeat (go_quiet (first|(go_at_call 35;(with_reducible refine (spec_l12Right.calls _ _ l0 true _ ?side1 ?side2 A5.out).mono ?_);(case side1=>repeat (first|exact (Kd.C_below HR0.out HB.out)|(with_reducible first|refine aC ?_ _|refine nC ?_ _|refine dC ?_)));(case side2=>exact HC0.out);rintro e w' ⟨rfl,⟨nd,rfl⟩⟩;(try first|exact⟨rfl,_,World.drewN_drewN _ _ _⟩|exact⟨rfl,_,Eq.trans (World.drewN_drewN _ _ _) (congrArg (World.drewN _) (Nat.add_assoc _ _ _))⟩))|(go_at_call 35;(with_reducible refine (spec_l12Right.calls _ _ l1 t167 _ ?side1 ?side2 A7.out).mono ?_);(case side1=>repeat (first|exact (Kd.C_below HR1.out (by repeat (first|(with_reducible first|exact HB.out|apply aZ|apply nZ|apply dZ)|exact HB.out)))|(with_reducible first|refine aC ?_ _|refine nC ?_ _|refine dC ?_)));(case side2=>exact HC1.out);rintro e w' ⟨rfl,⟨nd,rfl⟩⟩;(try first|exact⟨rfl,_,World.drewN_drewN _ _ _⟩|exact⟨rfl,_,Eq.trans (World.drewN_drewN _ _ _) (congrArg (World.drewN _) (Nat.add_assoc _ _ _))⟩)));try go_wp2_with (first|(go_at_call 35;(with_reducible refine (spec_l12Right.calls _ _ l0 true _ ?side1 ?side2 A5.out).mono ?_);(case side1=>repeat (first|exact (Kd.C_below HR0.out HB.out)|(with_reducible first|refine aC ?_ _|refine nC ?_ _|refine dC ?_)));(case side2=>exact HC0.out);rintro e w' ⟨rfl,⟨nd,rfl⟩⟩;(try first|exact⟨rfl,_,World.drewN_drewN _ _ _⟩|exact⟨rfl,_,Eq.trans (World.drewN_drewN _ _ _) (congrArg (World.drewN _) (Nat.add_assoc _ _ _))⟩))|(go_at_call 35;(with_reducible refine (spec_l12Right.calls _ _ l1 t167 _ ?side1 ?side2 A7.out).mono ?_);(case side1=>repeat (first|exact (Kd.C_below HR1.out (by repeat (first|(with_reducible first|exact HB.out|apply aZ|apply nZ|apply dZ)|exact HB.out)))|(with_reducible first|refine aC ?_ _|refine nC ?_ _|refine dC ?_)));(case side2=>exact HC1.out);rintro e w' ⟨rfl,⟨nd,rfl⟩⟩;(try first|exact⟨rfl,_,World.drewN_drewN _ _ _⟩|exact⟨rfl,_,Eq.trans (World.drewN_drewN _ _ _) (congrArg (World.drewN _) (Nat.add_assoc _ _ _))⟩))))
  go_meet
  case rel=>exact⟨_,(!t167),(by first|rfl|(simp;done)|(simp [*];done)),H',⟨by first|omega|exact Nat.le_refl _⟩,⟨by repeat (first|(with_reducible first|exact HB.out|apply aZ|apply nZ|apply dZ)|exact HB.out)⟩⟩
 case rest =>
  clear HC4
  try clear c1
  try clear c2
  try clear p2
  try clear c6
  obtain⟨kq,x16_3,rfl,HA,HJ3,HB⟩:=hcut
  cases kq with
  | zero=>exact absurd HA.out (by simp [spec_CommonOk.j0])
  | succ kj3 =>
   have H:=HA.out
   clear HA
   simp only [spec_CommonOk.j0] at H
   by_cases c8:x16_3 = true
   ·subst c8
    have H1:(some false) = some r:=by rw [if_pos rfl] at H;exact H
    clear H
    have H:=H1
    clear H1
    obtain rfl:=Option.some.inj H
    go_wp2
    repeat (go_quiet (fail);try go_wp2)
    go_ret
    exact⟨by first|rfl|(simp [errW_none,errW_some] <;> rfl)|(simp [*,errW_none,errW_some] <;> rfl),by repeat (first|(with_reducible first|exact HB.out|apply aZ|apply nZ|apply dZ)|exact HB.out)⟩
   replace c8:=Bool.eq_false_iff.mpr c8
   subst c8
   have H1:(spec_CommonOk.l0 kj3 l0 l1 l2 0) = some r:=by rw [if_neg (show ¬ (false = true) by decide)] at H;exact H
   clear H
   have H:=H1
   clear H1
   have H':=mk0 H
   clear H
   go_wp2
   repeat (go_quiet (fail);try go_wp2)
   go_loopg [7] kj3 (fun kq v7 w'=>∃ (x7_2:Int),v7 = .int .i64 x7_2 ∧ Aside0 (spec_CommonOk.l0 kq l0 l1 l2 x7_2 = some r) ∧ Aside0 (kq ≤ kj3) ∧ Aside0 (Below w.heap.size w w'))
   case atStart=>exact⟨(0),(by first|rfl|(simp;done)|(simp [*];done)),H',⟨Nat.le_refl _⟩,⟨by repeat (first|(with_reducible first|exact HB.out|apply aZ|apply nZ|apply dZ)|exact HB.out)⟩⟩
   case round =>
    clear H'
    try clear c1
    try clear c2
    try clear p2
    try clear c6
    try clear c8
    try clear p2
    obtain⟨x7_2,rfl,HA,HK2,HB⟩:=hrel
    cases gk with
    | zero=>exact absurd HA.out (by simp [spec_CommonOk.l0])
    | succ k2 =>
     have H:=HA.out
     clear HA
     simp only [spec_CommonOk.l0] at H
     by_cases c9:x7_2 < (l2.length:Int)
     rotate_left
     ·rw [if_neg c9] at H
      have c9b0:decide (x7_2 < (l2.length:Int)) = false:=decide_eq_false c9
      clear c9
      obtain rfl:=Option.some.inj H
      go_wp2
      repeat (go_quiet (fail);try go_wp2)
      go_ret
      exact⟨by first|rfl|(simp [errW_none,errW_some] <;> rfl)|(simp [*,errW_none,errW_some] <;> rfl),by repeat (first|(with_reducible first|exact HB.out|apply aZ|apply nZ|apply dZ)|exact HB.out)⟩

     rw [if_pos c9] at H
     have c9b0:decide (x7_2 < (l2.length:Int)) = true:=decide_eq_true c9
     clear c9
     by_cases c10:0 ≤ x7_2
     rotate_left
     ·rw [if_neg c10] at H
      exact absurd H (by simp)
     rw [if_pos c10] at H
     have c10b0:decide (0 ≤ x7_2) = true:=decide_eq_true c10
     clear c10
     have HC11:=mk0 H
     clear H
     have p168:0 ≤ (x7_2:Int):=of_decide_eq_true (by first|(with_reducible assumption)|assumption)
     have q168:x7_2 < (l2.length:Int):=of_decide_eq_true (by first|(with_reducible assumption)|assumption)
     obtain⟨ad168,e168,hx168_0,hx168_1⟩:=at_T56 HR2.out x7_2 p168 q168
     cases e168
     replace hx168_0:=(HB.out.cell (World.block_lt_of_cell? w _ hx168_0)).trans hx168_0
     replace hx168_1:=(HB.out.cell (World.block_lt_of_cell? w _ hx168_1)).trans hx168_1
     replace p168:=eq_true p168
     replace q168:=eq_true q168
     go_upto_region 7 with (first|((with_reducible refine gate_dst (N:=8) rfl ?_);(try (refine gate_guard (by rfl) ?_;dsimp only));refine box_event ?hg (N:=8) ?hd (cs:=#[.int .i64 0,.int .i64 0]) (t:=56) ?hr ?_;(case hd=>rfl);(case hg=>rfl);(case hr=>first|(go_simp;done)|(go_simp;rfl));intro gb169 hg w12 hbox hb;have n0_:=mk0 (below_step (by repeat (first|(with_reducible first|exact HB.out|apply aZ|apply nZ|apply dZ)|exact HB.out)) hb);have n1_:=mk0 (hbox);have n2_:=mk0 ((by rw [hg];exact (below_size (by repeat (first|(with_reducible first|exact HB.out|apply aZ|apply nZ|apply dZ)|exact HB.out))):w.heap.size ≤ gb169));have n3_:=mk0 ((by rw [hg];exact (below_size (by repeat (first|(with_reducible first|exact HB.out|apply aZ|apply nZ|apply dZ)|exact HB.out))):w.heap.size ≤ gb169));clear HB;have HB:=n0_;have BK169:=n1_;have GW169:=n2_;have GE169:=n3_;clear n0_ n1_ n2_ n3_ hb hbox hg;have hcz13_0:w12.cell? ⟨gb169,0,none⟩ = some (.int .i64 0):=(blk_cell BK169.out 0).trans rfl;have hcz13_1:w12.cell? ⟨gb169,1,none⟩ = some (.int .i64 0):=(blk_cell BK169.out 1).trans rfl;have hfz13_0:=blk_frozen BK169.out 0;have hfz13_1:=blk_frozen BK169.out 1))
     repeat (go_quiet (first|((with_reducible refine gate_dst (N:=8) rfl ?_);(try (refine gate_guard (by rfl) ?_;dsimp only));refine box_event ?hg (N:=8) ?hd (cs:=#[.int .i64 0,.int .i64 0]) (t:=56) ?hr ?_;(case hd=>rfl);(case hg=>rfl);(case hr=>first|(go_simp;done)|(go_simp;rfl));intro gb169 hg w12 hbox hb;have n0_:=mk0 (below_step (by repeat (first|(with_reducible first|exact HB.out|apply aZ|apply nZ|apply dZ)|exact HB.out)) hb);have n1_:=mk0 (hbox);have n2_:=mk0 ((by rw [hg];exact (below_size (by repeat (first|(with_reducible first|exact HB.out|apply aZ|apply nZ|apply dZ)|exact HB.out))):w.heap.size ≤ gb169));have n3_:=mk0 ((by rw [hg];exact (below_size (by repeat (first|(with_reducible first|exact HB.out|apply aZ|apply nZ|apply dZ)|exact HB.out))):w.heap.size ≤ gb169));clear HB;have HB:=n0_;have BK169:=n1_;have GW169:=n2_;have GE169:=n3_;clear n0_ n1_ n2_ n3_ hb hbox hg;have hcz13_0:w12.cell? ⟨gb169,0,none⟩ = some (.int .i64 0):=(blk_cell BK169.out 0).trans rfl;have hcz13_1:w12.cell? ⟨gb169,1,none⟩ = some (.int .i64 0):=(blk_cell BK169.out 1).trans rfl;have hfz13_0:=blk_frozen BK169.out 0;have hfz13_1:=blk_frozen BK169.out 1));go_upto_region 7 with (first|((with_reducible refine gate_dst (N:=8) rfl ?_);(try (refine gate_guard (by rfl) ?_;dsimp only));refine box_event ?hg (N:=8) ?hd (cs:=#[.int .i64 0,.int .i64 0]) (t:=56) ?hr ?_;(case hd=>rfl);(case hg=>rfl);(case hr=>first|(go_simp;done)|(go_simp;rfl));intro gb169 hg w12 hbox hb;have n0_:=mk0 (below_step (by repeat (first|(with_reducible first|exact HB.out|apply aZ|apply nZ|apply dZ)|exact HB.out)) hb);have n1_:=mk0 (hbox);have n2_:=mk0 ((by rw [hg];exact (below_size (by repeat (first|(with_reducible first|exact HB.out|apply aZ|apply nZ|apply dZ)|exact HB.out))):w.heap.size ≤ gb169));have n3_:=mk0 ((by rw [hg];exact (below_size (by repeat (first|(with_reducible first|exact HB.out|apply aZ|apply nZ|apply dZ)|exact HB.out))):w.heap.size ≤ gb169));clear HB;have HB:=n0_;have BK169:=n1_;have GW169:=n2_;have GE169:=n3_;clear n0_ n1_ n2_ n3_ hb hbox hg;have hcz13_0:w12.cell? ⟨gb169,0,none⟩ = some (.int .i64 0):=(blk_cell BK169.out 0).trans rfl;have hcz13_1:w12.cell? ⟨gb169,1,none⟩ = some (.int .i64 0):=(blk_cell BK169.out 1).trans rfl;have hfz13_0:=blk_frozen BK169.out 0;have hfz13_1:=blk_frozen BK169.out 1)))
     (try simp only [Act.put,sA,sO,sS])
     go_cut [61] (fun v61 wc=>∃ (kq:Nat) (x61_10:Bool),v61 = .bool x61_10 ∧ Aside0 (spec_CommonOk.j2 kq l0 l1 l2 x7_2 x61_10 ((rd_T56 l2 x7_2).f0) ((rd_T56 l2 x7_2).f1) = some r) ∧ Aside0 (kq ≤ k2) ∧ Aside0 (wc.heap[gb169]? = some (.cells #[.int .i64 ((rd_T56 l2 x7_2).f0),.int .i64 ((rd_T56 l2 x7_2).f1)] 56 (0,0))) ∧ Aside0 (Below w.heap.size w wc))
     case first =>
      have H:=HC11.out
      clear HC11
      by_cases c14:((rd_T56 l2 x7_2).f0) < 0
      ·rw [if_pos c14] at H
       have c14b0:decide (((rd_T56 l2 x7_2).f0) < 0) = true:=decide_eq_true c14
       clear c14
       (first|rw [c14b0]|(simp only [i64_w,i32_w];rw [c14b0])|skip)
       have H':=mk0 H
       clear H
       have hcz15_0:w12.cell? ⟨gb169,0,none⟩ = some (.int .i64 0):=(blk_cell BK169.out 0).trans rfl
       have hcz15_1:w12.cell? ⟨gb169,1,none⟩ = some (.int .i64 0):=(blk_cell BK169.out 1).trans rfl
       have hfz15_0:=blk_frozen BK169.out 0
       have hfz15_1:=blk_frozen BK169.out 1
       go_wp2
       repeat (go_quiet (fail);try go_wp2)
       go_meet
       case rel=>exact⟨_,(true),(by first|rfl|(simp;done)|(simp [*];done)),H',⟨by have:=HJ3.out;have:=HK2.out;first|omega|exact Nat.le_refl _⟩,⟨by (with_reducible repeat (first|refine nB ?_ _|refine dB ?_|refine aB ?_ _));refine blk_put (cs:=#[.int .i64 ((rd_T56 l2 x7_2).f0),.int .i64 0]) ?_ 1 _ rfl;(with_reducible repeat (first|refine nB ?_ _|refine dB ?_|refine aB ?_ _));refine blk_put (cs:=#[.int .i64 0,.int .i64 0]) ?_ 0 _ rfl;(with_reducible repeat (first|refine nB ?_ _|refine dB ?_|refine aB ?_ _));exact BK169.out⟩,⟨by repeat (first|(with_reducible first|exact HB.out|apply aZ|apply nZ|apply dZ|refine sZ ?_ GE169.out)|exact HB.out)⟩⟩
      rw [if_neg c14] at H
      have c14b0:decide (((rd_T56 l2 x7_2).f0) < 0) = false:=decide_eq_false c14
      clear c14
      (first|rw [c14b0]|(simp only [i64_w,i32_w];rw [c14b0])|skip)
      by_cases c16:((rd_T56 l2 x7_2).f0) ≥ (l0.length:Int)
      ·rw [if_pos c16] at H
       have c16b0:decide ((l0.length:Int) ≤ ((rd_T56 l2 x7_2).f0)) = true:=decide_eq_true c16
       clear c16
       have H':=mk0 H
       clear H
       have hcz17_0:w12.cell? ⟨gb169,0,none⟩ = some (.int .i64 0):=(blk_cell BK169.out 0).trans rfl
       have hcz17_1:w12.cell? ⟨gb169,1,none⟩ = some (.int .i64 0):=(blk_cell BK169.out 1).trans rfl
       have hfz17_0:=blk_frozen BK169.out 0
       have hfz17_1:=blk_frozen BK169.out 1
       go_wp2
       repeat (go_quiet (fail);try go_wp2)
       go_meet
       case rel=>exact⟨_,(true),(by first|rfl|(simp;done)|(simp [*];done)),H',⟨by have:=HJ3.out;have:=HK2.out;first|omega|exact Nat.le_refl _⟩,⟨by (with_reducible repeat (first|refine nB ?_ _|refine dB ?_|refine aB ?_ _));refine blk_put (cs:=#[.int .i64 ((rd_T56 l2 x7_2).f0),.int .i64 0]) ?_ 1 _ rfl;(with_reducible repeat (first|refine nB ?_ _|refine dB ?_|refine aB ?_ _));refine blk_put (cs:=#[.int .i64 0,.int .i64 0]) ?_ 0 _ rfl;(with_reducible repeat (first|refine nB ?_ _|refine dB ?_|refine aB ?_ _));exact BK169.out⟩,⟨by repeat (first|(with_reducible first|exact HB.out|apply aZ|apply nZ|apply dZ|refine sZ ?_ GE169.out)|exact HB.out)⟩⟩
      rw [if_neg c16] at H
      have c16b0:decide ((l0.length:Int) ≤ ((rd_T56 l2 x7_2).f0)) = false:=decide_eq_false c16
      clear c16
      by_cases c18:((rd_T56 l2 x7_2).f1) < 0
      ·rw [if_pos c18] at H
       have c18b0:decide (((rd_T56 l2 x7_2).f1) < 0) = true:=decide_eq_true c18
       clear c18
       have H':=mk0 H
       clear H
       have hcz19_0:w12.cell? ⟨gb169,0,none⟩ = some (.int .i64 0):=(blk_cell BK169.out 0).trans rfl
       have hcz19_1:w12.cell? ⟨gb169,1,none⟩ = some (.int .i64 0):=(blk_cell BK169.out 1).trans rfl
       have hfz19_0:=blk_frozen BK169.out 0
       have hfz19_1:=blk_frozen BK169.out 1
       go_wp2
       repeat (go_quiet (fail);try go_wp2)
       go_meet
       case rel=>exact⟨_,(true),(by first|rfl|(simp;done)|(simp [*];done)),H',⟨by have:=HJ3.out;have:=HK2.out;first|omega|exact Nat.le_refl _⟩,⟨by (with_reducible repeat (first|refine nB ?_ _|refine dB ?_|refine aB ?_ _));refine blk_put (cs:=#[.int .i64 ((rd_T56 l2 x7_2).f0),.int .i64 0]) ?_ 1 _ rfl;(with_reducible repeat (first|refine nB ?_ _|refine dB ?_|refine aB ?_ _));refine blk_put (cs:=#[.int .i64 0,.int .i64 0]) ?_ 0 _ rfl;(with_reducible repeat (first|refine nB ?_ _|refine dB ?_|refine aB ?_ _));exact BK169.out⟩,⟨by repeat (first|(with_reducible first|exact HB.out|apply aZ|apply nZ|apply dZ|refine sZ ?_ GE169.out)|exact HB.out)⟩⟩
      rw [if_neg c18] at H
      have c18b0:decide (((rd_T56 l2 x7_2).f1) < 0) = false:=decide_eq_false c18
      clear c18
      by_cases c20:((rd_T56 l2 x7_2).f1) ≥ (l1.length:Int)
      ·rw [if_pos c20] at H
       have c20b0:decide ((l1.length:Int) ≤ ((rd_T56 l2 x7_2).f1)) = true:=decide_eq_true c20
       clear c20
       have H':=mk0 H
       clear H
       have hcz21_0:w12.cell? ⟨gb169,0,none⟩ = some (.int .i64 0):=(blk_cell BK169.out 0).trans rfl
       have hcz21_1:w12.cell? ⟨gb169,1,none⟩ = some (.int .i64 0):=(blk_cell BK169.out 1).trans rfl
       have hfz21_0:=blk_frozen BK169.out 0
       have hfz21_1:=blk_frozen BK169.out 1
       go_wp2
       repeat (go_quiet (fail);try go_wp2)
       go_meet
       case rel=>exact⟨_,(true),(by first|rfl|(simp;done)|(simp [*];done)),H',⟨by have:=HJ3.out;have:=HK2.out;first|omega|exact Nat.le_refl _⟩,⟨by (with_reducible repeat (first|refine nB ?_ _|refine dB ?_|refine aB ?_ _));refine blk_put (cs:=#[.int .i64 ((rd_T56 l2 x7_2).f0),.int .i64 0]) ?_ 1 _ rfl;(with_reducible repeat (first|refine nB ?_ _|refine dB ?_|refine aB ?_ _));refine blk_put (cs:=#[.int .i64 0,.int .i64 0]) ?_ 0 _ rfl;(with_reducible repeat (first|refine nB ?_ _|refine dB ?_|refine aB ?_ _));exact BK169.out⟩,⟨by repeat (first|(with_reducible first|exact HB.out|apply aZ|apply nZ|apply dZ|refine sZ ?_ GE169.out)|exact HB.out)⟩⟩
      rw [if_neg c20] at H
      have c20b0:decide ((l1.length:Int) ≤ ((rd_T56 l2 x7_2).f1)) = false:=decide_eq_false c20
      clear c20
      by_cases c22:0 ≤ ((rd_T56 l2 x7_2).f0)
      rotate_left
      ·rw [if_neg c22] at H
       exact absurd H (by simp)
      rw [if_pos c22] at H
      have c22b0:decide (0 ≤ ((rd_T56 l2 x7_2).f0)) = true:=decide_eq_true c22
      clear c22
      by_cases c23:((rd_T56 l2 x7_2).f0) < (l0.length:Int)
      rotate_left
      ·rw [if_neg c23] at H
       exact absurd H (by simp)
      rw [if_pos c23] at H
      have c23b0:decide (((rd_T56 l2 x7_2).f0) < (l0.length:Int)) = true:=decide_eq_true c23
      clear c23
      by_cases c24:0 ≤ ((rd_T56 l2 x7_2).f1)
      rotate_left
      ·rw [if_neg c24] at H
       exact absurd H (by simp)
      rw [if_pos c24] at H
      have c24b0:decide (0 ≤ ((rd_T56 l2 x7_2).f1)) = true:=decide_eq_true c24
      clear c24
      by_cases c25:((rd_T56 l2 x7_2).f1) < (l1.length:Int)
      rotate_left
      ·rw [if_neg c25] at H
       exact absurd H (by simp)
      rw [if_pos c25] at H
      have c25b0:decide (((rd_T56 l2 x7_2).f1) < (l1.length:Int)) = true:=decide_eq_true c25
      clear c25
      have H':=mk0 H
      clear H
      have hcz26_0:w12.cell? ⟨gb169,0,none⟩ = some (.int .i64 0):=(blk_cell BK169.out 0).trans rfl
      have hcz26_1:w12.cell? ⟨gb169,1,none⟩ = some (.int .i64 0):=(blk_cell BK169.out 1).trans rfl
      have hfz26_0:=blk_frozen BK169.out 0
      have hfz26_1:=blk_frozen BK169.out 1
      have p170:0 ≤ (((rd_T56 l2 x7_2).f0):Int):=of_decide_eq_true (by first|(with_reducible assumption)|assumption)
      have q170:((rd_T56 l2 x7_2).f0) < (l0.length:Int):=of_decide_eq_true (by first|(with_reducible assumption)|assumption)
      obtain⟨ad170,e170,hx170_0⟩:=Kd.at_int HR0.out ((rd_T56 l2 x7_2).f0) p170 q170
      cases e170
      have hn170_0:ad170.block ≠ gb169:=Nat.ne_of_lt (Nat.lt_of_lt_of_le (by have:=World.block_lt_of_cell? _ _ hx170_0;first|rwa [add_block] at this|exact this) GW169.out)
      have hn170_1:ad170.block ≠ gb169:=Nat.ne_of_lt (Nat.lt_of_lt_of_le (by have:=World.block_lt_of_cell? _ _ hx170_0;first|rwa [add_block] at this|exact this) GW169.out)
      replace hx170_0:=(HB.out.cell (World.block_lt_of_cell? w _ hx170_0)).trans hx170_0
      replace hx170_0:=(cell_far (p:=⟨gb169,0,none⟩) (by first|(rw [add_block];exact hn170_0)|(show (Addr.add _ _).block ≠ _;rw [add_block];exact hn170_0)|exact hn170_0) (.int .i64 ((rd_T56 l2 x7_2).f0))).trans hx170_0
      replace hx170_0:=(cell_far (p:=⟨gb169,1,none⟩) (by first|(rw [add_block];exact hn170_1)|(show (Addr.add _ _).block ≠ _;rw [add_block];exact hn170_1)|exact hn170_1) (.int .i64 ((rd_T56 l2 x7_2).f1))).trans hx170_0
      (try have hy170_0:=fun (n_:Nat)=>(show ((((w12.drewN n_).setCell ⟨gb169,0,none⟩ (.int .i64 ((rd_T56 l2 x7_2).f0))).setCell ⟨gb169,1,none⟩ (.int .i64 ((rd_T56 l2 x7_2).f1)))).cell? _ = some _ from hx170_0))
      clear hn170_0
      clear hn170_1
      replace p170:=eq_true p170
      replace q170:=eq_true q170
      have p171:0 ≤ (((rd_T56 l2 x7_2).f1):Int):=of_decide_eq_true (by first|(with_reducible assumption)|assumption)
      have q171:((rd_T56 l2 x7_2).f1) < (l1.length:Int):=of_decide_eq_true (by first|(with_reducible assumption)|assumption)
      obtain⟨ad171,e171,hx171_0⟩:=Kd.at_int HR1.out ((rd_T56 l2 x7_2).f1) p171 q171
      cases e171
      have hn171_0:ad171.block ≠ gb169:=Nat.ne_of_lt (Nat.lt_of_lt_of_le (by have:=World.block_lt_of_cell? _ _ hx171_0;first|rwa [add_block] at this|exact this) GW169.out)
      have hn171_1:ad171.block ≠ gb169:=Nat.ne_of_lt (Nat.lt_of_lt_of_le (by have:=World.block_lt_of_cell? _ _ hx171_0;first|rwa [add_block] at this|exact this) GW169.out)
      replace hx171_0:=(HB.out.cell (World.block_lt_of_cell? w _ hx171_0)).trans hx171_0
      replace hx171_0:=(cell_far (p:=⟨gb169,0,none⟩) (by first|(rw [add_block];exact hn171_0)|(show (Addr.add _ _).block ≠ _;rw [add_block];exact hn171_0)|exact hn171_0) (.int .i64 ((rd_T56 l2 x7_2).f0))).trans hx171_0
      replace hx171_0:=(cell_far (p:=⟨gb169,1,none⟩) (by first|(rw [add_block];exact hn171_1)|(show (Addr.add _ _).block ≠ _;rw [add_block];exact hn171_1)|exact hn171_1) (.int .i64 ((rd_T56 l2 x7_2).f1))).trans hx171_0
      (try have hy171_0:=fun (n_:Nat)=>(show ((((w12.drewN n_).setCell ⟨gb169,0,none⟩ (.int .i64 ((rd_T56 l2 x7_2).f0))).setCell ⟨gb169,1,none⟩ (.int .i64 ((rd_T56 l2 x7_2).f1)))).cell? _ = some _ from hx171_0))
      clear hn171_0
      clear hn171_1
      replace p171:=eq_true p171
      replace q171:=eq_true q171
      go_wp2
      repeat (go_quiet (fail);try go_wp2)
      go_meet
      case rel=>exact⟨_,(((rd l0 ((rd_T56 l2 x7_2).f0)) != (rd l1 ((rd_T56 l2 x7_2).f1)))),(by first|rfl|(simp;done)|(simp [*];done)),H',⟨by have:=HJ3.out;have:=HK2.out;first|omega|exact Nat.le_refl _⟩,⟨by (with_reducible repeat (first|refine nB ?_ _|refine dB ?_|refine aB ?_ _));refine blk_put (cs:=#[.int .i64 ((rd_T56 l2 x7_2).f0),.int .i64 0]) ?_ 1 _ rfl;(with_reducible repeat (first|refine nB ?_ _|refine dB ?_|refine aB ?_ _));refine blk_put (cs:=#[.int .i64 0,.int .i64 0]) ?_ 0 _ rfl;(with_reducible repeat (first|refine nB ?_ _|refine dB ?_|refine aB ?_ _));exact BK169.out⟩,⟨by repeat (first|(with_reducible first|exact HB.out|apply aZ|apply nZ|apply dZ|refine sZ ?_ GE169.out)|exact HB.out)⟩⟩
     case rest =>
      clear HC11
      try clear c1
      try clear p1
      try clear q1
      try clear hx1
      try clear c2
      try clear p2
      try clear c6
      try clear c8
      try clear c9
      try clear c9b0
      try clear c10
      try clear c10b0
      try clear c14
      try clear c14b0
      try clear c16
      try clear c16b0
      try clear p16
      try clear q16
      try clear hx16
      try clear p17
      try clear q17
      try clear hx17
      try clear c18
      try clear c18b0
      try clear c20
      try clear c20b0
      try clear c22
      try clear c22b0
      try clear c23
      try clear c23b0
      try clear c24
      try clear c24b0
      try clear c25
      try clear c25b0
      try clear hcz13_0
      try clear hcz13_1
      try clear hcz15_0
      try clear hcz15_1
      try clear hcz17_0
      try clear hcz17_1
      try clear hcz19_0
      try clear hcz19_1
      try clear hcz21_0
      try clear hcz21_1
      try clear hcz26_0
      try clear hcz26_1
      try clear hfz13_0
      try clear hfz13_1
      try clear hfz15_0
      try clear hfz15_1
      try clear hfz17_0
      try clear hfz17_1
      try clear hfz19_0
      try clear hfz19_1
      try clear hfz21_0
      try clear hfz21_1
      try clear hfz26_0
      try clear hfz26_1
      try clear hx168_0
      try clear hx168_1
      try clear hx170_0
      try clear hx171_0
      try clear p168
      try clear p170
      try clear p171
      try clear p2
      try clear q168
      try clear q170
      try clear q171
      obtain⟨kq,x61_10,rfl,HA,HJ10,BK169,HB⟩:=hcut
      cases kq with
      | zero=>exact absurd HA.out (by simp [spec_CommonOk.j2])
      | succ kj10 =>
       have H:=HA.out
       clear HA
       simp only [spec_CommonOk.j2] at H
       by_cases c27:x61_10 = true
       ·subst c27
        have H1:(some false) = some r:=by rw [if_pos rfl] at H;exact H
        clear H
        have H:=H1
        clear H1
        obtain rfl:=Option.some.inj H
        go_wp2
        repeat (go_quiet (fail);try go_wp2)
        go_ret
        exact⟨by first|rfl|(simp [errW_none,errW_some] <;> rfl)|(simp [*,errW_none,errW_some] <;> rfl),by repeat (first|(with_reducible first|exact HB.out|apply aZ|apply nZ|apply dZ|refine sZ ?_ GE169.out)|exact HB.out)⟩
       replace c27:=Bool.eq_false_iff.mpr c27
       subst c27
       have H1:(if x7_2 > 0 then (if 0 ≤ (wrap64 (x7_2 - 1)) then (if (wrap64 (x7_2 - 1)) < (l2.length:Int) then (if ((rd_T56 l2 (wrap64 (x7_2 - 1))).f0) ≥ ((rd_T56 l2 x7_2).f0) then (spec_CommonOk.j3 kj10 l0 l1 l2 x7_2 true) else (spec_CommonOk.j3 kj10 l0 l1 l2 x7_2 (decide (((rd_T56 l2 (wrap64 (x7_2 - 1))).f1) ≥ ((rd_T56 l2 x7_2).f1))))) else (none)) else (none)) else (spec_CommonOk.j3 kj10 l0 l1 l2 x7_2 false)) = some r:=by rw [if_neg (show ¬ (false = true) by decide)] at H;exact H
       clear H
       have H:=H1
       clear H1
       have HC28:=mk0 H
       clear H
       go_upto_region 9 with (fail)
       repeat (go_quiet (fail);go_upto_region 9 with (fail))
       go_cut [85] (fun v85 wc=>∃ (kq:Nat) (x85_27:Bool),v85 = .bool x85_27 ∧ Aside0 (spec_CommonOk.j3 kq l0 l1 l2 x7_2 x85_27 = some r) ∧ Aside0 (kq ≤ kj10) ∧ Aside0 (wc.heap[gb169]? = some (.cells #[.int .i64 ((rd_T56 l2 x7_2).f0),.int .i64 ((rd_T56 l2 x7_2).f1)] 56 (0,0))) ∧ Aside0 (Below w.heap.size w wc))
       case first =>
        have H:=HC28.out
        clear HC28
        by_cases c29:x7_2 > 0
        rotate_left
        ·rw [if_neg c29] at H
         have c29b0:decide (0 < x7_2) = false:=decide_eq_false c29
         clear c29
         (first|rw [c29b0]|(simp only [i64_w,i32_w];rw [c29b0])|skip)
         have H':=mk0 H
         clear H
         go_wp2
         repeat (go_quiet (fail);try go_wp2)
         go_meet
         case rel=>exact⟨_,(false),(by first|rfl|(simp;done)|(simp [*];done)),H',⟨by have:=HJ3.out;have:=HK2.out;have:=HJ10.out;first|omega|exact Nat.le_refl _⟩,⟨by (with_reducible repeat (first|refine nB ?_ _|refine dB ?_|refine aB ?_ _));exact BK169.out⟩,⟨by repeat (first|(with_reducible first|exact HB.out|apply aZ|apply nZ|apply dZ|refine sZ ?_ GE169.out)|exact HB.out)⟩⟩
        rw [if_pos c29] at H
        have c29b0:decide (0 < x7_2) = true:=decide_eq_true c29
        clear c29
        (first|rw [c29b0]|(simp only [i64_w,i32_w];rw [c29b0])|skip)
        obtain⟨ji30,hji30⟩:∃ j_:Int,(wrap64 (x7_2 - 1)) = j_:=⟨_,rfl⟩
        replace H:(if 0 ≤ (ji30) then (if (ji30) < (l2.length:Int) then (if ((rd_T56 l2 (ji30)).f0) ≥ ((rd_T56 l2 x7_2).f0) then (spec_CommonOk.j3 kj10 l0 l1 l2 x7_2 true) else (spec_CommonOk.j3 kj10 l0 l1 l2 x7_2 (decide (((rd_T56 l2 (ji30)).f1) ≥ ((rd_T56 l2 x7_2).f1))))) else (none)) else (none)) = some r:=by first|(rw [hji30] at H;exact H)|(simp only [hji30] at H ⊢;exact H)
        have hji30w:(IntKind.i64.wrap (x7_2 - 1)) = ji30:=(i64_w _).trans hji30
        by_cases c31:0 ≤ (ji30)
        rotate_left
        ·rw [if_neg c31] at H
         exact absurd H (by simp)
        rw [if_pos c31] at H
        have c31b0:decide (0 ≤ (ji30)) = true:=decide_eq_true c31
        clear c31
        by_cases c32:(ji30) < (l2.length:Int)
        rotate_left
        ·rw [if_neg c32] at H
         exact absurd H (by simp)
        rw [if_pos c32] at H
        have c32b0:decide ((ji30) < (l2.length:Int)) = true:=decide_eq_true c32
        clear c32
        by_cases c33:((rd_T56 l2 (ji30)).f0) ≥ ((rd_T56 l2 x7_2).f0)
        ·rw [if_pos c33] at H
         have c33b0:decide (((rd_T56 l2 x7_2).f0) ≤ ((rd_T56 l2 (ji30)).f0)) = true:=decide_eq_true c33
         clear c33
         have H':=mk0 H
         clear H
         have p172:0 ≤ ((ji30):Int):=of_decide_eq_true (by first|(with_reducible assumption)|assumption)
         have q172:(ji30) < (l2.length:Int):=of_decide_eq_true (by first|(with_reducible assumption)|assumption)
         obtain⟨ad172,e172,hx172_0,hx172_1⟩:=at_T56 HR2.out (ji30) p172 q172
         obtain rfl:ad168 = ad172:=(by injection e172)
         replace hx172_0:=(HB.out.cell (World.block_lt_of_cell? w _ hx172_0)).trans hx172_0
         replace hx172_1:=(HB.out.cell (World.block_lt_of_cell? w _ hx172_1)).trans hx172_1
         replace p172:=eq_true p172
         replace q172:=eq_true q172
         have hcz34_0:wc.cell? ⟨gb169,0,none⟩ = some (.int .i64 ((rd_T56 l2 x7_2).f0)):=(blk_cell BK169.out 0).trans rfl
         have hcz34_1:wc.cell? ⟨gb169,1,none⟩ = some (.int .i64 ((rd_T56 l2 x7_2).f1)):=(blk_cell BK169.out 1).trans rfl
         have hfz34_0:=blk_frozen BK169.out 0
         have hfz34_1:=blk_frozen BK169.out 1
         go_wp2
         repeat (go_quiet (fail);try go_wp2)
         go_meet
         case rel=>exact⟨_,(true),(by first|rfl|(simp;done)|(simp [*];done)),H',⟨by have:=HJ3.out;have:=HK2.out;have:=HJ10.out;first|omega|exact Nat.le_refl _⟩,⟨by (with_reducible repeat (first|refine nB ?_ _|refine dB ?_|refine aB ?_ _));exact BK169.out⟩,⟨by repeat (first|(with_reducible first|exact HB.out|apply aZ|apply nZ|apply dZ|refine sZ ?_ GE169.out)|exact HB.out)⟩⟩
        rw [if_neg c33] at H
        have c33b0:decide (((rd_T56 l2 x7_2).f0) ≤ ((rd_T56 l2 (ji30)).f0)) = false:=decide_eq_false c33
        clear c33
        have H':=mk0 H
        clear H
        have p172:0 ≤ ((ji30):Int):=of_decide_eq_true (by first|(with_reducible assumption)|assumption)
        have q172:(ji30) < (l2.length:Int):=of_decide_eq_true (by first|(with_reducible assumption)|assumption)
        obtain⟨ad172,e172,hx172_0,hx172_1⟩:=at_T56 HR2.out (ji30) p172 q172
        obtain rfl:ad168 = ad172:=(by injection e172)
        replace hx172_0:=(HB.out.cell (World.block_lt_of_cell? w _ hx172_0)).trans hx172_0
        replace hx172_1:=(HB.out.cell (World.block_lt_of_cell? w _ hx172_1)).trans hx172_1
        replace p172:=eq_true p172
        replace q172:=eq_true q172
        have hcz35_0:wc.cell? ⟨gb169,0,none⟩ = some (.int .i64 ((rd_T56 l2 x7_2).f0)):=(blk_cell BK169.out 0).trans rfl
        have hcz35_1:wc.cell? ⟨gb169,1,none⟩ = some (.int .i64 ((rd_T56 l2 x7_2).f1)):=(blk_cell BK169.out 1).trans rfl
        have hfz35_0:=blk_frozen BK169.out 0
        have hfz35_1:=blk_frozen BK169.out 1
        have p173:0 ≤ ((ji30):Int):=of_decide_eq_true (by first|(with_reducible assumption)|assumption)
        have q173:(ji30) < (l2.length:Int):=of_decide_eq_true (by first|(with_reducible assumption)|assumption)
        obtain⟨ad173,e173,hx173_0,hx173_1⟩:=at_T56 HR2.out (ji30) p173 q173
        obtain rfl:ad168 = ad173:=(by injection e173)
        replace hx173_0:=(HB.out.cell (World.block_lt_of_cell? w _ hx173_0)).trans hx173_0
        replace hx173_1:=(HB.out.cell (World.block_lt_of_cell? w _ hx173_1)).trans hx173_1
        replace p173:=eq_true p173
        replace q173:=eq_true q173
        go_wp2
        repeat (go_quiet (fail);try go_wp2)
        go_meet
        case rel=>exact⟨_,(decide (((rd_T56 l2 (ji30)).f1) ≥ ((rd_T56 l2 x7_2).f1))),(by first|rfl|(simp;done)|(simp only [← hji30] <;> (first|rfl|simp))|(simp [*];done)),H',⟨by have:=HJ3.out;have:=HK2.out;have:=HJ10.out;first|omega|exact Nat.le_refl _⟩,⟨by (with_reducible repeat (first|refine nB ?_ _|refine dB ?_|refine aB ?_ _));exact BK169.out⟩,⟨by repeat (first|(with_reducible first|exact HB.out|apply aZ|apply nZ|apply dZ|refine sZ ?_ GE169.out)|exact HB.out)⟩⟩
       case rest =>
        clear HC28
        try clear c1
        try clear p1
        try clear q1
        try clear hx1
        try clear c2
        try clear p2
        try clear c3
        try clear c6
        try clear p6
        try clear c8
        try clear c9
        try clear c9b0
        try clear c10
        try clear c10b0
        try clear c14
        try clear c14b0
        try clear c16
        try clear c16b0
        try clear p16
        try clear q16
        try clear hx16
        try clear p17
        try clear q17
        try clear hx17
        try clear c18
        try clear c18b0
        try clear c20
        try clear c20b0
        try clear c22
        try clear c22b0
        try clear c23
        try clear c23b0
        try clear c24
        try clear c24b0
        try clear c25
        try clear c25b0
        try clear c27
        try clear c29
        try clear c29b0
        try clear c31
        try clear c31b0
        try clear c32
        try clear c32b0
        try clear c33
        try clear c33b0
        try clear hcz13_0
        try clear hcz13_1
        try clear hcz15_0
        try clear hcz15_1
        try clear hcz17_0
        try clear hcz17_1
        try clear hcz19_0
        try clear hcz19_1
        try clear hcz21_0
        try clear hcz21_1
        try clear hcz26_0
        try clear hcz26_1
        try clear hcz34_0
        try clear hcz34_1
        try clear hcz35_0
        try clear hcz35_1
        try clear hfz13_0
        try clear hfz13_1
        try clear hfz15_0
        try clear hfz15_1
        try clear hfz17_0
        try clear hfz17_1
        try clear hfz19_0
        try clear hfz19_1
        try clear hfz21_0
        try clear hfz21_1
        try clear hfz26_0
        try clear hfz26_1
        try clear hfz34_0
        try clear hfz34_1
        try clear hfz35_0
        try clear hfz35_1
        try clear hx168_0
        try clear hx168_1
        try clear hx170_0
        try clear hx171_0
        try clear hx172_0
        try clear hx172_1
        try clear hx173_0
        try clear hx173_1
        try clear p1
        try clear p16
        try clear p168
        try clear p17
        try clear p170
        try clear p171
        try clear p172
        try clear p173
        try clear p2
        try clear q1
        try clear q16
        try clear q168
        try clear q17
        try clear q170
        try clear q171
        try clear q172
        try clear q173
        obtain⟨kq,x85_27,rfl,HA,HJ27,BK169,HB⟩:=hcut
        cases kq with
        | zero=>exact absurd HA.out (by simp [spec_CommonOk.j3])
        | succ kj27 =>
         have H:=HA.out
         clear HA
         simp only [spec_CommonOk.j3] at H
         by_cases c36:x85_27 = true
         ·subst c36
          have H1:(some false) = some r:=by rw [if_pos rfl] at H;exact H
          clear H
          have H:=H1
          clear H1
          obtain rfl:=Option.some.inj H
          go_wp2
          repeat (go_quiet (fail);try go_wp2)
          go_ret
          exact⟨by first|rfl|(simp [errW_none,errW_some] <;> rfl)|(simp [*,errW_none,errW_some] <;> rfl),by repeat (first|(with_reducible first|exact HB.out|apply aZ|apply nZ|apply dZ|refine sZ ?_ GE169.out)|exact HB.out)⟩
         replace c36:=Bool.eq_false_iff.mpr c36
         subst c36
         have H1:(spec_CommonOk.l0 kj27 l0 l1 l2 (wrap64 (x7_2 + 1))) = some r:=by rw [if_neg (show ¬ (false = true) by decide)] at H;exact H
         clear H
         have H:=H1
         clear H1
         have H':=mk0 H
         clear H
         go_wp2
         repeat (go_quiet (fail);try go_wp2)
         go_roundg kj27
         case measure=>have:=HJ3.out;have:=HK2.out;have:=HJ10.out;have:=HJ27.out;omega
         case rel=>exact⟨(wrap64 (x7_2 + 1)),(by first|rfl|(simp;done)|(simp [*];done)),H',⟨by have:=HJ3.out;have:=HK2.out;have:=HJ10.out;have:=HJ27.out;omega⟩,⟨by repeat (first|(with_reducible first|exact HB.out|apply aZ|apply nZ|apply dZ|refine sZ ?_ GE169.out)|exact HB.out)⟩⟩
/-! ### impl_within: function 40 -/
def impl_within.f (a0 : Int) (a1 : Int) (a2 : Int) : Option (Bool) := if a1 ≤ a0 then (some (decide (a0 ≤ a2))) else (some false)
set_option maxHeartbeats 8000000 in
set_option maxRecDepth 100000 in
theorem impl_within.calls (a0 : Int) (a1 : Int) (a2 : Int) (r : Bool) (w : World) (h : impl_within.f a0 a1 a2 = some r) :
  Calls Try.prog 40 #[.int .i64 a0, .int .i64 a1, .int .i64 a2] w fun e w' => e = .returned (.bool r) ∧ Drawn0 w w' := by
 have H:(if a1 ≤ a0 then (some (decide (a0 ≤ a2))) else (some false)) = some r:=h
 clear h
 by_cases c4:a1 ≤ a0
 ·rw [if_pos c4] at H
  have c4b0:decide (a1 ≤ a0) = true:=decide_eq_true c4
  clear c4
  obtain rfl:=Option.some.inj H
  go_enter Try.func40,Try.ntmps40
  go_wp2
  go_ret
  exact⟨by first|rfl|(simp;done)|(simp [*];done),by repeat (first|exact Drawn0.refl _|apply Drawn0.step)⟩
 ·rw [if_neg c4] at H
  have c4b0:decide (a1 ≤ a0) = false:=decide_eq_false c4
  clear c4
  obtain rfl:=Option.some.inj H
  go_enter Try.func40,Try.ntmps40
  go_wp2
  go_ret
  exact⟨by first|rfl|(simp;done)|(simp [*];done),by repeat (first|exact Drawn0.refl _|apply Drawn0.step)⟩

end Go.Proofs.Ytlnmkgeoiinjfaa.QFnCommon
