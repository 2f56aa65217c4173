-- A walk, made by walk.py, a program of this session's.
import Derived.Test.YtlnmkgeoiinjfaaQFnCommonx0
import Derived.Test.YtlnmkgeoiinjfaaQFnCommonx3
import Derived.Test.YtlnmkgeoiinjfaaQFnCommonx5
import Derived.Test.YtlnmkgeoiinjfaaQFnCommonx6
import Derived.Test.YtlnmkgeoiinjfaaQFnCommonx7
import Derived.Test.YtlnmkgeoiinjfaaQFnCommonx10
namespace Go.Proofs.Ytlnmkgeoiinjfaa.QFnCommon
open Go.RowKit Go.Proofs.YtlnmkgeoiinjfaaW.PrintWords Go.Proofs.YtlnmkgeoiinjfaaW.PrintLast Go.Proofs.YtlnmkgeoiinjfaaW.PrintMore
attribute [local go_sem] max2_int min2_int max_two min_two max_three min_three max_four min_four   -- for this text's walks alone
set_option linter.unusedVariables false
set_option linter.unusedSimpArgs false

/-! ### laws_FnCommon: function 8 -/
mutual
def laws_FnCommon.j0 : Nat → List Int → List Int → List (S56) → Int → Bool → Option (Bool)
 | 0, _, _, _, _, _ => none
 | k + 1, x3, x4, x5, x6, x28 => if x28 = true then ((spec_CommonLen.f k x3 x4).bind fun t384 => (some (x6 == t384))) else ((some (([] : List Int) : List Int)).bind fun y385 => (if y385.length + x3.length < 17592186044416 then ((some (([] : List Int) : List Int)).bind fun y391 => (if y391.length + x4.length < 17592186044416 then ((impl_CommonOf.f k (y385 ++ x3) (y391 ++ x4)).bind fun t397 => ((laws_pairs.f x5).bind fun t400 => ((impl_CommonOk.f k x3 x4 t400).bind fun t403 => ((spec_CommonOk.f k x3 x4 x5).bind fun t404 => (if (t403 != t404) = true then (laws_FnCommon.j1 k x3 x4 x6 t397 true) else (if t403 = true then (laws_FnCommon.j1 k x3 x4 x6 t397 (decide ((x5.length : Int) > x6))) else (laws_FnCommon.j1 k x3 x4 x6 t397 false))))))) else (none))) else (none)))
def laws_FnCommon.j1 : Nat → List Int → List Int → Int → List (S56) → Bool → Option (Bool)
 | 0, _, _, _, _, _ => none
 | k + 1, x3, x4, x6, x7, x60 => if x60 = true then (some false) else (if (x7.length : Int) = x6 then ((spec_CommonOk.f k x3 x4 x7).bind fun t405 => (if t405 = true then ((impl_CommonLen.f k x4 x3).bind fun t406 => (some (t406 == x6))) else (some false))) else (some false))
end
def laws_FnCommon.f (k : Nat) (l0 : List Int) : Option (Bool) := (laws_big.f l0).bind fun t372 => (if t372 = true then (some true) else ((spec_DrawCommonOk.f k l0).bind fun bt373 => ((impl_CommonLen.f k bt373.1 bt373.2.1).bind fun t382 => ((spec_CommonLen.f k bt373.1 bt373.2.1).bind fun t383 => (if t382 = t383 then (laws_FnCommon.j0 k bt373.1 bt373.2.1 bt373.2.2 t382 (decide (t382 < 0))) else (laws_FnCommon.j0 k bt373.1 bt373.2.1 bt373.2.2 t382 true))))))
theorem laws_FnCommon.mono_l : ∀ k, (∀ y0 y1 y2 y3 y4, LeO (laws_FnCommon.j0 k y0 y1 y2 y3 y4) (laws_FnCommon.j0 (k + 1) y0 y1 y2 y3 y4)) ∧ (∀ y0 y1 y2 y3 y4, LeO (laws_FnCommon.j1 k y0 y1 y2 y3 y4) (laws_FnCommon.j1 (k + 1) y0 y1 y2 y3 y4))
 | 0 => ⟨fun _ _ _ _ _ r h => by simp [laws_FnCommon.j0] at h, fun _ _ _ _ _ r h => by simp [laws_FnCommon.j1] at h⟩
 | k + 1 => by
  obtain ⟨ih0, ih1⟩ := laws_FnCommon.mono_l k
  refine ⟨?_, ?_⟩
  ·intro y0 y1 y2 y3 y4
   unfold laws_FnCommon.j0
   repeat' first
   | (with_reducible exact ih0 _ _ _ _ _)
   | (with_reducible exact ih1 _ _ _ _ _)
   | (with_reducible exact impl_CommonLen.mono _ _ _)
   | (with_reducible exact impl_CommonOf.mono _ _ _)
   | (with_reducible exact impl_CommonOk.mono _ _ _ _)
   | (with_reducible exact spec_CommonLen.mono _ _ _)
   | (with_reducible exact spec_CommonOk.mono _ _ _ _)
   | (with_reducible exact spec_DrawCommonOk.mono _ _)
   | (with_reducible exact LeO.refl _)
   | (with_reducible exact LeO.none _)
   | (with_reducible refine LeO.ite ?_ ?_)
   | (with_reducible refine LeO.bind ?_ (fun _ => ?_))
   | exact ih0 _ _ _ _ _
   | exact ih1 _ _ _ _ _
   | exact impl_CommonLen.mono _ _ _
   | exact impl_CommonOf.mono _ _ _
   | exact impl_CommonOk.mono _ _ _ _
   | exact spec_CommonLen.mono _ _ _
   | exact spec_CommonOk.mono _ _ _ _
   | exact spec_DrawCommonOk.mono _ _
   | exact LeO.none _
   | refine LeO.ite ?_ ?_
   | refine LeO.bind ?_ (fun _ => ?_)
  ·intro y0 y1 y2 y3 y4
   unfold laws_FnCommon.j1
   repeat' first
   | (with_reducible exact ih0 _ _ _ _ _)
   | (with_reducible exact ih1 _ _ _ _ _)
   | (with_reducible exact impl_CommonLen.mono _ _ _)
   | (with_reducible exact impl_CommonOf.mono _ _ _)
   | (with_reducible exact impl_CommonOk.mono _ _ _ _)
   | (with_reducible exact spec_CommonLen.mono _ _ _)
   | (with_reducible exact spec_CommonOk.mono _ _ _ _)
   | (with_reducible exact spec_DrawCommonOk.mono _ _)
   | (with_reducible exact LeO.refl _)
   | (with_reducible exact LeO.none _)
   | (with_reducible refine LeO.ite ?_ ?_)
   | (with_reducible refine LeO.bind ?_ (fun _ => ?_))
   | exact ih0 _ _ _ _ _
   | exact ih1 _ _ _ _ _
   | exact impl_CommonLen.mono _ _ _
   | exact impl_CommonOf.mono _ _ _
   | exact impl_CommonOk.mono _ _ _ _
   | exact spec_CommonLen.mono _ _ _
   | exact spec_CommonOk.mono _ _ _ _
   | exact spec_DrawCommonOk.mono _ _
   | exact LeO.none _
   | refine LeO.ite ?_ ?_
   | refine LeO.bind ?_ (fun _ => ?_)
theorem laws_FnCommon.mono : ∀ a0 k, LeO (laws_FnCommon.f k a0) (laws_FnCommon.f (k + 1) a0) := by
 intro a0 k
 obtain ⟨ih0, ih1⟩ := laws_FnCommon.mono_l k
 unfold laws_FnCommon.f
 repeat' first
   | (with_reducible exact ih0 _ _ _ _ _)
   | (with_reducible exact ih1 _ _ _ _ _)
   | (with_reducible exact impl_CommonLen.mono _ _ _)
   | (with_reducible exact impl_CommonOf.mono _ _ _)
   | (with_reducible exact impl_CommonOk.mono _ _ _ _)
   | (with_reducible exact spec_CommonLen.mono _ _ _)
   | (with_reducible exact spec_CommonOk.mono _ _ _ _)
   | (with_reducible exact spec_DrawCommonOk.mono _ _)
   | (with_reducible exact LeO.refl _)
   | (with_reducible exact LeO.none _)
   | (with_reducible refine LeO.ite ?_ ?_)
   | (with_reducible refine LeO.bind ?_ (fun _ => ?_))
   | exact ih0 _ _ _ _ _
   | exact ih1 _ _ _ _ _
   | exact impl_CommonLen.mono _ _ _
   | exact impl_CommonOf.mono _ _ _
   | exact impl_CommonOk.mono _ _ _ _
   | exact spec_CommonLen.mono _ _ _
   | exact spec_CommonOk.mono _ _ _ _
   | exact spec_DrawCommonOk.mono _ _
   | exact LeO.none _
   | refine LeO.ite ?_ ?_
   | refine LeO.bind ?_ (fun _ => ?_)
set_option maxHeartbeats 8000000 in
set_option maxRecDepth 100000 in
theorem laws_FnCommon.calls (k : Nat) (A0 : Option Addr) (c0 : Nat) (l0 : List Int) (r : Bool) (w : World) (hr0 : Kd.C (Kd.int .u8) w A0 l0.length l0) (hc0 : l0.length ≤ c0) (h : laws_FnCommon.f k l0 = some r) :
  Calls Try.prog 8 #[.slice A0 l0.length c0] w fun e w' => e = .returned (.bool r) ∧ Below w.heap.size w w' := by
 have HR0:=mk0 hr0
 have HC0:=mk0 hc0
 clear hr0 hc0
 have HB:=mk0 (Below.refl w.heap.size w)
 have H:((laws_big.f l0).bind fun t372=>(if t372 = true then (some true) else ((spec_DrawCommonOk.f k l0).bind fun bt373=>((impl_CommonLen.f k bt373.1 bt373.2.1).bind fun t382=>((spec_CommonLen.f k bt373.1 bt373.2.1).bind fun t383=>(if t382 = t383 then (laws_FnCommon.j0 k bt373.1 bt373.2.1 bt373.2.2 t382 (decide (t382 < 0))) else (laws_FnCommon.j0 k bt373.1 bt373.2.1 bt373.2.2 t382 true))))))) = some r:=h
 clear h
 replace H:=Option.bind_eq_some_iff.mp H
 obtain⟨t372,A20,H⟩:=H
 replace H:(if t372 = true then (some true) else ((spec_DrawCommonOk.f k l0).bind fun bt373=>((impl_CommonLen.f k bt373.1 bt373.2.1).bind fun t382=>((spec_CommonLen.f k bt373.1 bt373.2.1).bind fun t383=>(if t382 = t383 then (laws_FnCommon.j0 k bt373.1 bt373.2.1 bt373.2.2 t382 (decide (t382 < 0))) else (laws_FnCommon.j0 k bt373.1 bt373.2.1 bt373.2.2 t382 true)))))) = some r:=H
 have A2:=mk0 A20
 clear A20
 by_cases c3:t372 = true
 ·subst c3
  have H1:(some true) = some r:=by rw [if_pos rfl] at H;exact H
  clear H
  have H:=H1
  clear H1
  obtain rfl:=Option.some.inj H
  go_enter Try.func8,Try.ntmps8
  go_wp2_with (first|((with_reducible refine gate_callee (f:=32) rfl ?_);refine goesL_ (some 10) rfl rfl Try.func32 (by kernel_rfl) rfl #[.slice A0 l0.length c0] rfl (by (try simp only [mA,mC,mN]);first|done|rfl|(simp only [List.length_drop,List.length_take];rfl)) ?_;(with_reducible refine (laws_big.calls _ _ l0 true _ ?side1 ?side2 A2.out).mono ?_);(case side1=>repeat (first|exact HR0.out|(with_reducible first|refine aC ?_ _|refine nC ?_ _|refine dC ?_)));(case side2=>exact HC0.out);rintro e w' ⟨rfl,⟨nd,rfl⟩⟩;refine⟨_,rfl,?_⟩))
  go_ret
  exact⟨by first|rfl|(simp [errW_none,errW_some] <;> rfl)|(simp [*,errW_none,errW_some] <;> rfl),by repeat (first|(with_reducible first|exact HB.out|apply aZ|apply nZ|apply dZ)|exact HB.out)⟩
 replace c3:=Bool.eq_false_iff.mpr c3
 subst c3
 have H1:((spec_DrawCommonOk.f k l0).bind fun bt373=>((impl_CommonLen.f k bt373.1 bt373.2.1).bind fun t382=>((spec_CommonLen.f k bt373.1 bt373.2.1).bind fun t383=>(if t382 = t383 then (laws_FnCommon.j0 k bt373.1 bt373.2.1 bt373.2.2 t382 (decide (t382 < 0))) else (laws_FnCommon.j0 k bt373.1 bt373.2.1 bt373.2.2 t382 true))))) = some r:=by rw [if_neg (show ¬ (false = true) by decide)] at H;exact H
 clear H
 have H:=H1
 clear H1
 replace H:=Option.bind_eq_some_iff.mp H
 obtain⟨⟨t373,t374,t375⟩,A40,H⟩:=H
 replace H:((impl_CommonLen.f k t373 t374).bind fun t382=>((spec_CommonLen.f k t373 t374).bind fun t383=>(if t382 = t383 then (laws_FnCommon.j0 k t373 t374 t375 t382 (decide (t382 < 0))) else (laws_FnCommon.j0 k t373 t374 t375 t382 true)))) = some r:=H
 have A4:=mk0 A40
 clear A40
 replace H:=Option.bind_eq_some_iff.mp H
 obtain⟨t382,A50,H⟩:=H
 replace H:((spec_CommonLen.f k t373 t374).bind fun t383=>(if t382 = t383 then (laws_FnCommon.j0 k t373 t374 t375 t382 (decide (t382 < 0))) else (laws_FnCommon.j0 k t373 t374 t375 t382 true))) = some r:=H
 have A5:=mk0 A50
 clear A50
 have HC6:=mk0 H
 clear H
 go_enter Try.func8,Try.ntmps8
 go_upto_region 5 with (first|((with_reducible refine gate_callee (f:=32) rfl ?_);refine goesL_ (some 10) rfl rfl Try.func32 (by kernel_rfl) rfl #[.slice A0 l0.length c0] rfl (by (try simp only [mA,mC,mN]);first|done|rfl|(simp only [List.length_drop,List.length_take];rfl)) ?_;(with_reducible refine (laws_big.calls _ _ l0 false _ ?side1 ?side2 A2.out).mono ?_);(case side1=>repeat (first|exact HR0.out|(with_reducible first|refine aC ?_ _|refine nC ?_ _|refine dC ?_)));(case side2=>exact HC0.out);rintro e w' ⟨rfl,⟨nd,rfl⟩⟩;refine⟨_,rfl,?_⟩)|((with_reducible refine gate_callee (f:=33) rfl ?_);refine goesL_ (some 13) rfl rfl Try.func33 (by kernel_rfl) rfl #[.slice A0 l0.length c0] rfl (by (try simp only [mA,mC,mN]);first|done|rfl|(simp only [List.length_drop,List.length_take];rfl)) ?_;(with_reducible refine (spec_DrawCommonOk.calls k _ _ l0 t373 t374 t375 _ ?side1 ?side2 A4.out).mono ?_);(case side1=>repeat (first|exact HR0.out|(with_reducible first|refine aC ?_ _|refine nC ?_ _|refine dC ?_)));(case side2=>exact HC0.out);rintro e w7 ⟨v376,v378,v380,rfl,ho0,ho1,ho2,hb⟩;refine⟨_,rfl,?_⟩;have n0_:=mk0 (Kd.R_lower ho0 (below_size (by repeat (first|(with_reducible first|exact HB.out|apply aZ|apply nZ|apply dZ)|exact HB.out))));have n1_:=mk0 (Kd.R_lower ho1 (below_size (by repeat (first|(with_reducible first|exact HB.out|apply aZ|apply nZ|apply dZ)|exact HB.out))));have n2_:=mk0 (Kd.R_lower ho2 (below_size (by repeat (first|(with_reducible first|exact HB.out|apply aZ|apply nZ|apply dZ)|exact HB.out))));have n3_:=mk0 (below_step (by repeat (first|(with_reducible first|exact HB.out|apply aZ|apply nZ|apply dZ)|exact HB.out)) hb);clear HB;have HO377:=n0_;have HO379:=n1_;have HO381:=n2_;have HB:=n3_;clear n0_ n1_ n2_ n3_;(try clear hb);(try clear hb2);(try clear hk);(try clear hi);(try clear ho0);(try clear ho1);(try clear ho2);obtain⟨Ao8,co8,eo8⟩:=Kd.R_slice HO377.out;subst eo8;obtain⟨Ao9,co9,eo9⟩:=Kd.R_slice HO379.out;subst eo9)|((with_reducible refine gate_callee (f:=11) rfl ?_);refine goesL_ (some 19) rfl rfl Try.func11 (by kernel_rfl) rfl #[.slice Ao8 t373.length co8,.slice Ao9 t374.length co9] rfl (by (try simp only [mA,mC,mN]);first|done|rfl|(simp only [List.length_drop,List.length_take];rfl)) ?_;(with_reducible refine (impl_CommonLen.calls k _ _ t373 _ _ t374 t382 _ ?side1 ?side2 ?side3 ?side4 A5.out).mono ?_);(case side1=>repeat (first|exact (Kd.R_reads' HO377.out).2.2|(with_reducible first|refine aC ?_ _|refine nC ?_ _|refine dC ?_)));(case side2=>exact (Kd.R_reads' HO377.out).2.1);(case side3=>repeat (first|exact (Kd.R_reads' HO379.out).2.2|(with_reducible first|refine aC ?_ _|refine nC ?_ _|refine dC ?_)));(case side4=>exact (Kd.R_reads' HO379.out).2.1);rintro e w10 ⟨rfl,hb⟩;refine⟨_,rfl,?_⟩;have n0_:=mk0 (Kd.R_below (by (with_reducible repeat (first|apply aR|apply nR|apply dR));exact HO377.out) hb);have n1_:=mk0 (Kd.R_below (by (with_reducible repeat (first|apply aR|apply nR|apply dR));exact HO379.out) hb);have n2_:=mk0 (Kd.R_below (by (with_reducible repeat (first|apply aR|apply nR|apply dR));exact HO381.out) hb);have n3_:=mk0 (below_step (by repeat (first|(with_reducible first|exact HB.out|apply aZ|apply nZ|apply dZ)|exact HB.out)) hb);clear HO377 HO379 HO381 HB;have HO377:=n0_;have HO379:=n1_;have HO381:=n2_;have HB:=n3_;clear n0_ n1_ n2_ n3_;(try clear hb);(try clear hb2);(try clear hk);(try clear hi)))
 (try simp only [Act.put,sA,sO,sS])
 go_cut [28] (fun v28 wc=>∃ (kq:Nat) (x28_5:Bool),v28 = .bool x28_5 ∧ Aside0 (laws_FnCommon.j0 kq t373 t374 t375 t382 x28_5 = some r) ∧ Aside0 (kq ≤ k) ∧ Aside0 (Kd.R (Kd.int .i64) 3 wc w.heap.size (fun k_=>some k_ ≠ ((.slice Ao9 t374.length co9):Value).ownBlock) (.slice Ao8 t373.length co8) t373) ∧ Aside0 (Kd.R (Kd.int .i64) 3 wc w.heap.size (fun k_=>some k_ ≠ ((.slice Ao8 t373.length co8):Value).ownBlock) (.slice Ao9 t374.length co9) t374) ∧ Aside0 (Kd.R k56 56 wc w.heap.size (fun _=>True) v380 t375) ∧ Aside0 (Below w.heap.size w wc))
 case first =>
  have H:=HC6.out
  clear HC6
  replace H:=Option.bind_eq_some_iff.mp H
  obtain⟨t383,A110,H⟩:=H
  replace H:(if t382 = t383 then (laws_FnCommon.j0 k t373 t374 t375 t382 (decide (t382 < 0))) else (laws_FnCommon.j0 k t373 t374 t375 t382 true)) = some r:=H
  have A11:=mk0 A110
  clear A110
  by_cases c12:t382 = t383
  rotate_left
  ·rw [if_neg c12] at H
   have c12b0:(t382 == t383) = false:=beq_eq_false_iff_ne.mpr c12
   have c12b1:(t382 != t383) = true:=bne_iff_ne.mpr c12
   (first|rw [c12b0]|(simp only [i64_w,i32_w];rw [c12b0])|skip)
   have H':=mk0 H
   clear H
   go_wp2_with (first|((with_reducible refine gate_callee (f:=9) rfl ?_);refine goesL_ (some 23) rfl rfl Try.func9 (by kernel_rfl) rfl #[.slice Ao8 t373.length co8,.slice Ao9 t374.length co9] rfl (by (try simp only [mA,mC,mN]);first|done|rfl|(simp only [List.length_drop,List.length_take];rfl)) ?_;(with_reducible refine (spec_CommonLen.calls k _ _ t373 _ _ t374 t383 _ ?side1 ?side2 ?side3 ?side4 A11.out).mono ?_);(case side1=>repeat (first|exact (Kd.R_reads' HO377.out).2.2|(with_reducible first|refine aC ?_ _|refine nC ?_ _|refine dC ?_)));(case side2=>exact (Kd.R_reads' HO377.out).2.1);(case side3=>repeat (first|exact (Kd.R_reads' HO379.out).2.2|(with_reducible first|refine aC ?_ _|refine nC ?_ _|refine dC ?_)));(case side4=>exact (Kd.R_reads' HO379.out).2.1);rintro e w14 ⟨rfl,hb⟩;refine⟨_,rfl,?_⟩;have n0_:=mk0 (Kd.R_below (by (with_reducible repeat (first|apply aR|apply nR|apply dR));exact HO377.out) hb);have n1_:=mk0 (Kd.R_below (by (with_reducible repeat (first|apply aR|apply nR|apply dR));exact HO379.out) hb);have n2_:=mk0 (Kd.R_below (by (with_reducible repeat (first|apply aR|apply nR|apply dR));exact HO381.out) hb);have n3_:=mk0 (below_step (by repeat (first|(with_reducible first|exact HB.out|apply aZ|apply nZ|apply dZ)|exact HB.out)) hb);clear HO377 HO379 HO381 HB;have HO377:=n0_;have HO379:=n1_;have HO381:=n2_;have HB:=n3_;clear n0_ n1_ n2_ n3_;(try clear hb);(try clear hb2);(try clear hk);(try clear hi)))
   go_meet
   case rel=>exact⟨_,(true),(by first|rfl|(simp;done)|(simp [*];done)),H',⟨by first|omega|exact Nat.le_refl _⟩,⟨by (with_reducible repeat (first|apply aR|apply nR|apply dR));exact HO377.out⟩,⟨by (with_reducible repeat (first|apply aR|apply nR|apply dR));exact HO379.out⟩,⟨by (with_reducible repeat (first|apply aR|apply nR|apply dR));exact HO381.out⟩,⟨by repeat (first|(with_reducible first|exact HB.out|apply aZ|apply nZ|apply dZ)|exact HB.out)⟩⟩
  rw [if_pos c12] at H
  have c12b0:(t382 == t383) = true:=beq_iff_eq.mpr c12
  have c12b1:(t382 != t383) = false:=bne_eq_false_iff_eq.mpr c12
  clear c12
  (first|rw [c12b0]|(simp only [i64_w,i32_w];rw [c12b0])|skip)
  have H':=mk0 H
  clear H
  go_wp2_with (first|((with_reducible refine gate_callee (f:=9) rfl ?_);refine goesL_ (some 23) rfl rfl Try.func9 (by kernel_rfl) rfl #[.slice Ao8 t373.length co8,.slice Ao9 t374.length co9] rfl (by (try simp only [mA,mC,mN]);first|done|rfl|(simp only [List.length_drop,List.length_take];rfl)) ?_;(with_reducible refine (spec_CommonLen.calls k _ _ t373 _ _ t374 t383 _ ?side1 ?side2 ?side3 ?side4 A11.out).mono ?_);(case side1=>repeat (first|exact (Kd.R_reads' HO377.out).2.2|(with_reducible first|refine aC ?_ _|refine nC ?_ _|refine dC ?_)));(case side2=>exact (Kd.R_reads' HO377.out).2.1);(case side3=>repeat (first|exact (Kd.R_reads' HO379.out).2.2|(with_reducible first|refine aC ?_ _|refine nC ?_ _|refine dC ?_)));(case side4=>exact (Kd.R_reads' HO379.out).2.1);rintro e w13 ⟨rfl,hb⟩;refine⟨_,rfl,?_⟩;have n0_:=mk0 (Kd.R_below (by (with_reducible repeat (first|apply aR|apply nR|apply dR));exact HO377.out) hb);have n1_:=mk0 (Kd.R_below (by (with_reducible repeat (first|apply aR|apply nR|apply dR));exact HO379.out) hb);have n2_:=mk0 (Kd.R_below (by (with_reducible repeat (first|apply aR|apply nR|apply dR));exact HO381.out) hb);have n3_:=mk0 (below_step (by repeat (first|(with_reducible first|exact HB.out|apply aZ|apply nZ|apply dZ)|exact HB.out)) hb);clear HO377 HO379 HO381 HB;have HO377:=n0_;have HO379:=n1_;have HO381:=n2_;have HB:=n3_;clear n0_ n1_ n2_ n3_;(try clear hb);(try clear hb2);(try clear hk);(try clear hi)))
  go_meet
  case rel=>exact⟨_,(decide (t382 < 0)),(by first|rfl|(simp;done)|(simp [*];done)),H',⟨by first|omega|exact Nat.le_refl _⟩,⟨by (with_reducible repeat (first|apply aR|apply nR|apply dR));exact HO377.out⟩,⟨by (with_reducible repeat (first|apply aR|apply nR|apply dR));exact HO379.out⟩,⟨by (with_reducible repeat (first|apply aR|apply nR|apply dR));exact HO381.out⟩,⟨by repeat (first|(with_reducible first|exact HB.out|apply aZ|apply nZ|apply dZ)|exact HB.out)⟩⟩
 case rest =>
  clear HC6
  try clear c1
  try clear p2
  try clear c3
  try clear c8
  try clear c9
  try clear c11
  try clear c12
  try clear c12b0
  try clear c12b1
  obtain⟨kq,x28_5,rfl,HA,HJ5,HO_3,HO_4,HO_5,HB⟩:=hcut
  cases kq with
  | zero=>exact absurd HA.out (by simp [laws_FnCommon.j0])
  | succ kj5 =>
   have H:=HA.out
   clear HA
   simp only [laws_FnCommon.j0] at H
   by_cases c15:x28_5 = true
   ·subst c15
    have H1:((spec_CommonLen.f kj5 t373 t374).bind fun t384=>(some (t382 == t384))) = some r:=by rw [if_pos rfl] at H;exact H
    clear H
    have H:=H1
    clear H1
    replace H:=Option.bind_eq_some_iff.mp H
    obtain⟨t384,A160,H⟩:=H
    replace H:(some (t382 == t384)) = some r:=H
    have A16:=mk0 A160
    clear A160
    obtain rfl:=Option.some.inj H
    go_wp2_with (first|((with_reducible refine gate_callee (f:=9) rfl ?_);refine goesL_ (some 32) rfl rfl Try.func9 (by kernel_rfl) rfl #[.slice Ao8 t373.length co8,.slice Ao9 t374.length co9] rfl (by (try simp only [mA,mC,mN]);first|done|rfl|(simp only [List.length_drop,List.length_take];rfl)) ?_;(with_reducible refine (spec_CommonLen.calls kj5 _ _ t373 _ _ t374 t384 _ ?side1 ?side2 ?side3 ?side4 A16.out).mono ?_);(case side1=>repeat (first|exact (Kd.R_reads' HO_3.out).2.2|(with_reducible first|refine aC ?_ _|refine nC ?_ _|refine dC ?_)));(case side2=>exact (Kd.R_reads' HO_3.out).2.1);(case side3=>repeat (first|exact (Kd.R_reads' HO_4.out).2.2|(with_reducible first|refine aC ?_ _|refine nC ?_ _|refine dC ?_)));(case side4=>exact (Kd.R_reads' HO_4.out).2.1);rintro e w17 ⟨rfl,hb⟩;refine⟨_,rfl,?_⟩;have n0_:=mk0 (Kd.R_below (by (with_reducible repeat (first|apply aR|apply nR|apply dR));exact HO_3.out) hb);have n1_:=mk0 (Kd.R_below (by (with_reducible repeat (first|apply aR|apply nR|apply dR));exact HO_4.out) hb);have n2_:=mk0 (Kd.R_below (by (with_reducible repeat (first|apply aR|apply nR|apply dR));exact HO_5.out) hb);have n3_:=mk0 (below_step (by repeat (first|(with_reducible first|exact HB.out|apply aZ|apply nZ|apply dZ)|exact HB.out)) hb);clear HO_3 HO_4 HO_5 HB;have HO_3:=n0_;have HO_4:=n1_;have HO_5:=n2_;have HB:=n3_;clear n0_ n1_ n2_ n3_;(try clear hb);(try clear hb2);(try clear hk);(try clear hi)))
    go_ret
    exact⟨by first|rfl|(simp [errW_none,errW_some] <;> rfl)|(simp [*,errW_none,errW_some] <;> rfl),by repeat (first|(with_reducible first|exact HB.out|apply aZ|apply nZ|apply dZ)|exact HB.out)⟩
   replace c15:=Bool.eq_false_iff.mpr c15
   subst c15
   have H1:((some (([]:List Int):List Int)).bind fun y385=>(if y385.length + t373.length < 17592186044416 then ((some (([]:List Int):List Int)).bind fun y391=>(if y391.length + t374.length < 17592186044416 then ((impl_CommonOf.f kj5 (y385 ++ t373) (y391 ++ t374)).bind fun t397=>((laws_pairs.f t375).bind fun t400=>((impl_CommonOk.f kj5 t373 t374 t400).bind fun t403=>((spec_CommonOk.f kj5 t373 t374 t375).bind fun t404=>(if (t403 != t404) = true then (laws_FnCommon.j1 kj5 t373 t374 t382 t397 true) else (if t403 = true then (laws_FnCommon.j1 kj5 t373 t374 t382 t397 (decide ((t375.length:Int) > t382))) else (laws_FnCommon.j1 kj5 t373 t374 t382 t397 false))))))) else (none))) else (none))) = some r:=by rw [if_neg (show ¬ (false = true) by decide)] at H;exact H
   clear H
   have H:=H1
   clear H1
   obtain⟨y385,hy385⟩:∃ y_:List Int,y_ = (([]:List Int)):=⟨_,rfl⟩
   replace H:(if y385.length + t373.length < 17592186044416 then ((some (([]:List Int):List Int)).bind fun y391=>(if y391.length + t374.length < 17592186044416 then ((impl_CommonOf.f kj5 (y385 ++ t373) (y391 ++ t374)).bind fun t397=>((laws_pairs.f t375).bind fun t400=>((impl_CommonOk.f kj5 t373 t374 t400).bind fun t403=>((spec_CommonOk.f kj5 t373 t374 t375).bind fun t404=>(if (t403 != t404) = true then (laws_FnCommon.j1 kj5 t373 t374 t382 t397 true) else (if t403 = true then (laws_FnCommon.j1 kj5 t373 t374 t382 t397 (decide ((t375.length:Int) > t382))) else (laws_FnCommon.j1 kj5 t373 t374 t382 t397 false))))))) else (none))) else (none)) = some r:=by first|(rw [hy385];with_reducible exact H)|(have H2_:=(Option.bind_some _ _).symm.trans H;rw [hy385];with_reducible exact H2_)|(have H2_:=(Option.bind_some _ _).symm.trans H;with_reducible exact H2_)|with_reducible exact H|(rw [hy385];exact H)|exact H
   have Ny385:=mk0 hy385
   clear hy385
   by_cases c18:y385.length + t373.length < 17592186044416
   rotate_left
   ·rw [if_neg c18] at H
    exact absurd H (by simp)

   rw [if_pos c18] at H
   have LMc18:=mk0 c18
   clear c18
   obtain⟨y388,hy388⟩:∃ y_:List Int,y_ = (y385 ++ t373):=⟨_,rfl⟩
   replace H:((some (([]:List Int):List Int)).bind fun y391=>(if y391.length + t374.length < 17592186044416 then ((impl_CommonOf.f kj5 y388 (y391 ++ t374)).bind fun t397=>((laws_pairs.f t375).bind fun t400=>((impl_CommonOk.f kj5 t373 t374 t400).bind fun t403=>((spec_CommonOk.f kj5 t373 t374 t375).bind fun t404=>(if (t403 != t404) = true then (laws_FnCommon.j1 kj5 t373 t374 t382 t397 true) else (if t403 = true then (laws_FnCommon.j1 kj5 t373 t374 t382 t397 (decide ((t375.length:Int) > t382))) else (laws_FnCommon.j1 kj5 t373 t374 t382 t397 false))))))) else (none))) = some r:=by first|(rw [hy388];with_reducible exact H)|(have H2_:=(Option.bind_some _ _).symm.trans H;rw [hy388];with_reducible exact H2_)|(have H2_:=(Option.bind_some _ _).symm.trans H;with_reducible exact H2_)|with_reducible exact H|(rw [hy388];exact H)|exact H
   have Ny388:=mk0 hy388
   clear hy388
   obtain⟨y391,hy391⟩:∃ y_:List Int,y_ = (([]:List Int)):=⟨_,rfl⟩
   replace H:(if y391.length + t374.length < 17592186044416 then ((impl_CommonOf.f kj5 y388 (y391 ++ t374)).bind fun t397=>((laws_pairs.f t375).bind fun t400=>((impl_CommonOk.f kj5 t373 t374 t400).bind fun t403=>((spec_CommonOk.f kj5 t373 t374 t375).bind fun t404=>(if (t403 != t404) = true then (laws_FnCommon.j1 kj5 t373 t374 t382 t397 true) else (if t403 = true then (laws_FnCommon.j1 kj5 t373 t374 t382 t397 (decide ((t375.length:Int) > t382))) else (laws_FnCommon.j1 kj5 t373 t374 t382 t397 false))))))) else (none)) = some r:=by first|(rw [hy391];with_reducible exact H)|(have H2_:=(Option.bind_some _ _).symm.trans H;rw [hy391];with_reducible exact H2_)|(have H2_:=(Option.bind_some _ _).symm.trans H;with_reducible exact H2_)|with_reducible exact H|(rw [hy391];exact H)|exact H
   have Ny391:=mk0 hy391
   clear hy391
   by_cases c19:y391.length + t374.length < 17592186044416
   rotate_left
   ·rw [if_neg c19] at H
    exact absurd H (by simp)
   rw [if_pos c19] at H
   have LMc19:=mk0 c19
   clear c19
   obtain⟨y394,hy394⟩:∃ y_:List Int,y_ = (y391 ++ t374):=⟨_,rfl⟩
   replace H:((impl_CommonOf.f kj5 y388 y394).bind fun t397=>((laws_pairs.f t375).bind fun t400=>((impl_CommonOk.f kj5 t373 t374 t400).bind fun t403=>((spec_CommonOk.f kj5 t373 t374 t375).bind fun t404=>(if (t403 != t404) = true then (laws_FnCommon.j1 kj5 t373 t374 t382 t397 true) else (if t403 = true then (laws_FnCommon.j1 kj5 t373 t374 t382 t397 (decide ((t375.length:Int) > t382))) else (laws_FnCommon.j1 kj5 t373 t374 t382 t397 false))))))) = some r:=by first|(rw [hy394];with_reducible exact H)|(have H2_:=(Option.bind_some _ _).symm.trans H;rw [hy394];with_reducible exact H2_)|(have H2_:=(Option.bind_some _ _).symm.trans H;with_reducible exact H2_)|with_reducible exact H|(rw [hy394];exact H)|exact H
   have Ny394:=mk0 hy394
   clear hy394
   replace H:=Option.bind_eq_some_iff.mp H
   obtain⟨t397,A200,H⟩:=H
   replace H:((laws_pairs.f t375).bind fun t400=>((impl_CommonOk.f kj5 t373 t374 t400).bind fun t403=>((spec_CommonOk.f kj5 t373 t374 t375).bind fun t404=>(if (t403 != t404) = true then (laws_FnCommon.j1 kj5 t373 t374 t382 t397 true) else (if t403 = true then (laws_FnCommon.j1 kj5 t373 t374 t382 t397 (decide ((t375.length:Int) > t382))) else (laws_FnCommon.j1 kj5 t373 t374 t382 t397 false)))))) = some r:=H
   have A20:=mk0 A200
   clear A200
   replace H:=Option.bind_eq_some_iff.mp H
   obtain⟨t400,A210,H⟩:=H
   replace H:((impl_CommonOk.f kj5 t373 t374 t400).bind fun t403=>((spec_CommonOk.f kj5 t373 t374 t375).bind fun t404=>(if (t403 != t404) = true then (laws_FnCommon.j1 kj5 t373 t374 t382 t397 true) else (if t403 = true then (laws_FnCommon.j1 kj5 t373 t374 t382 t397 (decide ((t375.length:Int) > t382))) else (laws_FnCommon.j1 kj5 t373 t374 t382 t397 false))))) = some r:=H
   have A21:=mk0 A210
   clear A210
   replace H:=Option.bind_eq_some_iff.mp H
   obtain⟨t403,A220,H⟩:=H
   replace H:((spec_CommonOk.f kj5 t373 t374 t375).bind fun t404=>(if (t403 != t404) = true then (laws_FnCommon.j1 kj5 t373 t374 t382 t397 true) else (if t403 = true then (laws_FnCommon.j1 kj5 t373 t374 t382 t397 (decide ((t375.length:Int) > t382))) else (laws_FnCommon.j1 kj5 t373 t374 t382 t397 false)))) = some r:=H
   have A22:=mk0 A220
   clear A220
   have HC23:=mk0 H
   clear H
   go_upto_region 9 with (first|((with_reducible refine gate_dst (N:=34) rfl ?_);(try (refine gate_guard (by rfl) ?_;dsimp only));refine Kd.R_lit (Kd.int .i64) _ 3 ?hg (N:=34) ?hd (xs:=([]:List Int)) (inner:=[]) (ok:=fun _=>True) (okp:=fun _=>True) ?hr ?hp (fun _ hk=>hk) trivial (Below.refl _ _) (Nat.le_refl _) (by simp) ?_;(case hd=>rfl);(case hg=>rfl);(case hr=>first|(go_simp;done)|(go_simp;rfl));(case hp=>exact (Reps.none _ _));intro v386 w24 ho25 hb hg_ hnew_;clear hg_ hnew_;(first|rw [← Ny385.out] at ho25|(simp only [Int.reduceToNat] at ho25;rw [← Ny385.out] at ho25));have n0_:=mk0 (Kd.R_elder' (by (with_reducible repeat (first|apply aR|apply nR|apply dR));exact HO_3.out) (Kd.R_base ho25) hb);have n1_:=mk0 (Kd.R_elder' (by (with_reducible repeat (first|apply aR|apply nR|apply dR));exact HO_4.out) (Kd.R_base ho25) hb);have n2_:=mk0 (Kd.R_below (by (with_reducible repeat (first|apply aR|apply nR|apply dR));exact HO_5.out) hb);have n3_:=mk0 (Kd.R_lower (Kd.R_new' (Kd.R_new' ho25 (Kd.R_lt (by (with_reducible repeat (first|apply aR|apply nR|apply dR));exact HO_3.out))) (Kd.R_lt (by (with_reducible repeat (first|apply aR|apply nR|apply dR));exact HO_4.out))) (below_size (by repeat (first|(with_reducible first|exact HB.out|apply aZ|apply nZ|apply dZ)|exact HB.out))));have n4_:=mk0 (below_step (by repeat (first|(with_reducible first|exact HB.out|apply aZ|apply nZ|apply dZ)|exact HB.out)) hb);clear HO_3 HO_4 HO_5 HB;have HO_3:=n0_;have HO_4:=n1_;have HO_5:=n2_;have HO387:=n3_;have HB:=n4_;clear n0_ n1_ n2_ n3_ n4_ hb ho25)|((with_reducible refine gate_builtin (b:=.append) (xs:=#[.tmp 34,.tmp 35]) rfl ?_);(try (refine gate_guard (by rfl) ?_;dsimp only));at_builtin;refine Kd.R_append_rows (Kd.int .i64) (w0:=w) w.heap.size rfl (.tmp 34) (.tmp 35) 22 3 (.int .i64 0) 8 rfl Try.underlying22 info3 rfl (by decide) (by omega) v386 y385 t373 _ _ _ (fun k_=>some k_ ≠ (.slice Ao8 t373.length co8:Value).ownBlock ∧ some k_ ≠ (.slice Ao9 t374.length co9:Value).ownBlock) (fun _=>False) rfl rfl ?aO ?aR (fun _ _ h=>h) (fun _ h=>h.elim) ?aF ?aB ?aS ?aL ?_;(case aR=>repeat (first|exact (Kd.R_reads' HO_3.out).2.2|(with_reducible first|refine aC ?_ _|refine nC ?_ _|refine dC ?_)));(case aB=>exact (by repeat (first|(with_reducible first|exact HB.out|apply aZ|apply nZ|apply dZ)|exact HB.out)));(case aF=>exact (fun k_ hk=>⟨Kd.fresh' (Kd.R_lt (by (with_reducible repeat (first|apply aR|apply nR|apply dR));exact HO_3.out)) k_ hk,Kd.fresh' (Kd.R_lt (by (with_reducible repeat (first|apply aR|apply nR|apply dR));exact HO_4.out)) k_ hk⟩));(case aO=>exact (by (with_reducible repeat (first|apply aR|apply nR|apply dR));exact Kd.R_mono HO387.out (fun _ hk=>⟨hk.1.2,hk.2⟩)));(case aS=>exact (below_size (by repeat (first|(with_reducible first|exact HB.out|apply aZ|apply nZ|apply dZ)|exact HB.out))));(case aL=>have:=LMc18.out;omega);intro v389 w26 ho hb hg hat;rw [← Ny388.out] at ho;have n0_:=mk0 (Kd.R_after (ok:=(fun k_=>some k_ ≠ (.slice Ao9 t374.length co9:Value).ownBlock)) (by (with_reducible repeat (first|apply aR|apply nR|apply dR));exact HO_3.out) hg hat);have n1_:=mk0 (Kd.R_after (ok:=(fun k_=>some k_ ≠ (.slice Ao8 t373.length co8:Value).ownBlock)) (by (with_reducible repeat (first|apply aR|apply nR|apply dR));exact HO_4.out) hg hat);have n2_:=mk0 (Kd.R_over' (by (with_reducible repeat (first|apply aR|apply nR|apply dR));exact HO_5.out) (Kd.R_typed (by (with_reducible repeat (first|apply aR|apply nR|apply dR));exact HO387.out)) (by decide) hg);have n3_:=mk0 (hb);have n4_:=mk0 (ho);clear HO_3 HO_4 HO_5 HB HO387;have HO_3:=n0_;have HO_4:=n1_;have HO_5:=n2_;have HB:=n3_;have HO390:=n4_;clear n0_ n1_ n2_ n3_ n4_ ho hb hg hat)|((with_reducible refine gate_dst (N:=37) rfl ?_);(try (refine gate_guard (by rfl) ?_;dsimp only));refine Kd.R_lit (Kd.int .i64) _ 3 ?hg (N:=37) ?hd (xs:=([]:List Int)) (inner:=[]) (ok:=fun _=>True) (okp:=fun _=>True) ?hr ?hp (fun _ hk=>hk) trivial (Below.refl _ _) (Nat.le_refl _) (by simp) ?_;(case hd=>rfl);(case hg=>rfl);(case hr=>first|(go_simp;done)|(go_simp;rfl));(case hp=>exact (Reps.none _ _));intro v392 w27 ho28 hb hg_ hnew_;clear hg_ hnew_;(first|rw [← Ny391.out] at ho28|(simp only [Int.reduceToNat] at ho28;rw [← Ny391.out] at ho28));have n0_:=mk0 (Kd.R_elder' (by (with_reducible repeat (first|apply aR|apply nR|apply dR));exact HO_3.out) (Kd.R_base ho28) hb);have n1_:=mk0 (Kd.R_elder' (by (with_reducible repeat (first|apply aR|apply nR|apply dR));exact HO_4.out) (Kd.R_base ho28) hb);have n2_:=mk0 (Kd.R_below (by (with_reducible repeat (first|apply aR|apply nR|apply dR));exact HO_5.out) hb);have n3_:=mk0 (Kd.R_elder' (by (with_reducible repeat (first|apply aR|apply nR|apply dR));exact HO390.out) (Kd.R_base ho28) hb);have n4_:=mk0 (Kd.R_lower (Kd.R_new' (Kd.R_new' (Kd.R_new' ho28 (Kd.R_lt (by (with_reducible repeat (first|apply aR|apply nR|apply dR));exact HO_3.out))) (Kd.R_lt (by (with_reducible repeat (first|apply aR|apply nR|apply dR));exact HO_4.out))) (Kd.R_lt (by (with_reducible repeat (first|apply aR|apply nR|apply dR));exact HO390.out))) (below_size (by repeat (first|(with_reducible first|exact HB.out|apply aZ|apply nZ|apply dZ)|exact HB.out))));have n5_:=mk0 (below_step (by repeat (first|(with_reducible first|exact HB.out|apply aZ|apply nZ|apply dZ)|exact HB.out)) hb);clear HO_3 HO_4 HO_5 HO390 HB;have HO_3:=n0_;have HO_4:=n1_;have HO_5:=n2_;have HO390:=n3_;have HO393:=n4_;have HB:=n5_;clear n0_ n1_ n2_ n3_ n4_ n5_ hb ho28)|((with_reducible refine gate_builtin (b:=.append) (xs:=#[.tmp 37,.tmp 38]) rfl ?_);(try (refine gate_guard (by rfl) ?_;dsimp only));at_builtin;refine Kd.R_append_rows (Kd.int .i64) (w0:=w) w.heap.size rfl (.tmp 37) (.tmp 38) 22 3 (.int .i64 0) 8 rfl Try.underlying22 info3 rfl (by decide) (by omega) v392 y391 t374 _ _ _ (fun k_=>some k_ ≠ (.slice Ao8 t373.length co8:Value).ownBlock ∧ some k_ ≠ (.slice Ao9 t374.length co9:Value).ownBlock ∧ some k_ ≠ (v389:Value).ownBlock) (fun _=>False) rfl rfl ?aO ?aR (fun _ _ h=>h) (fun _ h=>h.elim) ?aF ?aB ?aS ?aL ?_;(case aR=>repeat (first|exact (Kd.R_reads' HO_4.out).2.2|(with_reducible first|refine aC ?_ _|refine nC ?_ _|refine dC ?_)));(case aB=>exact (by repeat (first|(with_reducible first|exact HB.out|apply aZ|apply nZ|apply dZ)|exact HB.out)));(case aF=>exact (fun k_ hk=>⟨Kd.fresh' (Kd.R_lt (by (with_reducible repeat (first|apply aR|apply nR|apply dR));exact HO_3.out)) k_ hk,Kd.fresh' (Kd.R_lt (by (with_reducible repeat (first|apply aR|apply nR|apply dR));exact HO_4.out)) k_ hk,Kd.fresh' (Kd.R_lt (by (with_reducible repeat (first|apply aR|apply nR|apply dR));exact HO390.out)) k_ hk⟩));(case aO=>exact (by (with_reducible repeat (first|apply aR|apply nR|apply dR));exact Kd.R_mono HO393.out (fun _ hk=>⟨hk.1.1.2,⟨hk.1.2,hk.2⟩⟩)));(case aS=>exact (below_size (by repeat (first|(with_reducible first|exact HB.out|apply aZ|apply nZ|apply dZ)|exact HB.out))));(case aL=>have:=LMc19.out;omega);intro v395 w29 ho hb hg hat;rw [← Ny394.out] at ho;have n0_:=mk0 (Kd.R_after (ok:=(fun k_=>some k_ ≠ (.slice Ao9 t374.length co9:Value).ownBlock ∧ some k_ ≠ (v389:Value).ownBlock)) (by (with_reducible repeat (first|apply aR|apply nR|apply dR));exact HO_3.out) hg hat);have n1_:=mk0 (Kd.R_after (ok:=(fun k_=>some k_ ≠ (.slice Ao8 t373.length co8:Value).ownBlock ∧ some k_ ≠ (v389:Value).ownBlock)) (by (with_reducible repeat (first|apply aR|apply nR|apply dR));exact HO_4.out) hg hat);have n2_:=mk0 (Kd.R_over' (by (with_reducible repeat (first|apply aR|apply nR|apply dR));exact HO_5.out) (Kd.R_typed (by (with_reducible repeat (first|apply aR|apply nR|apply dR));exact HO393.out)) (by decide) hg);have n3_:=mk0 (Kd.R_after (ok:=(fun k_=>some k_ ≠ (.slice Ao8 t373.length co8:Value).ownBlock ∧ some k_ ≠ (.slice Ao9 t374.length co9:Value).ownBlock)) (by (with_reducible repeat (first|apply aR|apply nR|apply dR));exact HO390.out) hg hat);have n4_:=mk0 (hb);have n5_:=mk0 (ho);clear HO_3 HO_4 HO_5 HO390 HB HO393;have HO_3:=n0_;have HO_4:=n1_;have HO_5:=n2_;have HO390:=n3_;have HB:=n4_;have HO396:=n5_;clear n0_ n1_ n2_ n3_ n4_ n5_ ho hb hg hat;obtain⟨Ao30,co30,eo30⟩:=Kd.R_slice HO390.out;subst eo30;obtain⟨Ao31,co31,eo31⟩:=Kd.R_slice HO396.out;subst eo31)|((with_reducible refine gate_callee (f:=26) rfl ?_);refine goesL_ (some 40) rfl rfl Try.func26 (by kernel_rfl) rfl #[.slice Ao30 y388.length co30,.slice Ao31 y394.length co31] rfl (by (try simp only [mA,mC,mN]);first|done|rfl|(simp only [List.length_drop,List.length_take];rfl)) ?_;(with_reducible refine (impl_CommonOf.calls kj5 _ _ y388 _ _ y394 t397 _ ?side1 ?side2 ?side3 ?side4 A20.out).mono ?_);(case side1=>repeat (first|exact (Kd.R_reads' HO390.out).2.2|(with_reducible first|refine aC ?_ _|refine nC ?_ _|refine dC ?_)));(case side2=>exact (Kd.R_reads' HO390.out).2.1);(case side3=>repeat (first|exact (Kd.R_reads' HO396.out).2.2|(with_reducible first|refine aC ?_ _|refine nC ?_ _|refine dC ?_)));(case side4=>exact (Kd.R_reads' HO396.out).2.1);rintro e w32 ⟨v398,rfl,ho0,hb⟩;refine⟨_,rfl,?_⟩;have n0_:=mk0 (Kd.R_below (by (with_reducible repeat (first|apply aR|apply nR|apply dR));exact HO_3.out) hb);have n1_:=mk0 (Kd.R_below (by (with_reducible repeat (first|apply aR|apply nR|apply dR));exact HO_4.out) hb);have n2_:=mk0 (Kd.R_elder' (by (with_reducible repeat (first|apply aR|apply nR|apply dR));exact HO_5.out) (Kd.R_base ho0) hb);have n3_:=mk0 (Kd.R_below (by (with_reducible repeat (first|apply aR|apply nR|apply dR));exact HO390.out) hb);have n4_:=mk0 (Kd.R_below (by (with_reducible repeat (first|apply aR|apply nR|apply dR));exact HO396.out) hb);have n5_:=mk0 (Kd.R_lower (Kd.R_new' ho0 (Kd.R_lt (by (with_reducible repeat (first|apply aR|apply nR|apply dR));exact HO_5.out))) (below_size (by repeat (first|(with_reducible first|exact HB.out|apply aZ|apply nZ|apply dZ)|exact HB.out))));have n6_:=mk0 (below_step (by repeat (first|(with_reducible first|exact HB.out|apply aZ|apply nZ|apply dZ)|exact HB.out)) hb);clear HO_3 HO_4 HO_5 HO390 HO396 HB;have HO_3:=n0_;have HO_4:=n1_;have HO_5:=n2_;have HO390:=n3_;have HO396:=n4_;have HO399:=n5_;have HB:=n6_;clear n0_ n1_ n2_ n3_ n4_ n5_ n6_;(try clear hb);(try clear hb2);(try clear hk);(try clear hi);(try clear ho0);obtain⟨Ao33,co33,eo33⟩:=Kd.R_slice HO_5.out;subst eo33)|((with_reducible refine gate_callee (f:=34) rfl ?_);refine goesL_ (some 44) rfl rfl Try.func34 (by kernel_rfl) rfl #[.slice Ao33 t375.length co33] rfl (by (try simp only [mA,mC,mN]);first|done|rfl|(simp only [List.length_drop,List.length_take];rfl)) ?_;(with_reducible refine (laws_pairs.calls _ _ t375 t400 _ ?side1 ?side2 A21.out).mono ?_);(case side1=>repeat (first|exact (Kd.R_reads' HO_5.out).2.2|(with_reducible first|refine aC ?_ _|refine nC ?_ _|refine dC ?_)));(case side2=>exact (Kd.R_reads' HO_5.out).2.1);rintro e w34 ⟨v401,rfl,ho0,hb⟩;refine⟨_,rfl,?_⟩;have n0_:=mk0 (Kd.R_below (by (with_reducible repeat (first|apply aR|apply nR|apply dR));exact HO_3.out) hb);have n1_:=mk0 (Kd.R_below (by (with_reducible repeat (first|apply aR|apply nR|apply dR));exact HO_4.out) hb);have n2_:=mk0 (Kd.R_elder' (by (with_reducible repeat (first|apply aR|apply nR|apply dR));exact HO_5.out) (Kd.R_base ho0) hb);have n3_:=mk0 (Kd.R_below (by (with_reducible repeat (first|apply aR|apply nR|apply dR));exact HO390.out) hb);have n4_:=mk0 (Kd.R_below (by (with_reducible repeat (first|apply aR|apply nR|apply dR));exact HO396.out) hb);have n5_:=mk0 (Kd.R_elder' (by (with_reducible repeat (first|apply aR|apply nR|apply dR));exact HO399.out) (Kd.R_base ho0) hb);have n6_:=mk0 (Kd.R_lower (Kd.R_new' (Kd.R_new' ho0 (Kd.R_lt (by (with_reducible repeat (first|apply aR|apply nR|apply dR));exact HO_5.out))) (Kd.R_lt (by (with_reducible repeat (first|apply aR|apply nR|apply dR));exact HO399.out))) (below_size (by repeat (first|(with_reducible first|exact HB.out|apply aZ|apply nZ|apply dZ)|exact HB.out))));have n7_:=mk0 (below_step (by repeat (first|(with_reducible first|exact HB.out|apply aZ|apply nZ|apply dZ)|exact HB.out)) hb);clear HO_3 HO_4 HO_5 HO390 HO396 HO399 HB;have HO_3:=n0_;have HO_4:=n1_;have HO_5:=n2_;have HO390:=n3_;have HO396:=n4_;have HO399:=n5_;have HO402:=n6_;have HB:=n7_;clear n0_ n1_ n2_ n3_ n4_ n5_ n6_ n7_;(try clear hb);(try clear hb2);(try clear hk);(try clear hi);(try clear ho0);obtain⟨Ao35,co35,eo35⟩:=Kd.R_slice HO402.out;subst eo35)|((with_reducible refine gate_callee (f:=16) rfl ?_);refine goesL_ (some 45) rfl rfl Try.func16 (by kernel_rfl) rfl #[.slice Ao8 t373.length co8,.slice Ao9 t374.length co9,.slice Ao35 t400.length co35] rfl (by (try simp only [mA,mC,mN]);first|done|rfl|(simp only [List.length_drop,List.length_take];rfl)) ?_;(with_reducible refine (impl_CommonOk.calls kj5 _ _ t373 _ _ t374 _ _ t400 t403 _ ?side1 ?side2 ?side3 ?side4 ?side5 ?side6 A22.out).mono ?_);(case side1=>repeat (first|exact (Kd.R_reads' HO_3.out).2.2|(with_reducible first|refine aC ?_ _|refine nC ?_ _|refine dC ?_)));(case side2=>exact (Kd.R_reads' HO_3.out).2.1);(case side3=>repeat (first|exact (Kd.R_reads' HO_4.out).2.2|(with_reducible first|refine aC ?_ _|refine nC ?_ _|refine dC ?_)));(case side4=>exact (Kd.R_reads' HO_4.out).2.1);(case side5=>repeat (first|exact (Kd.R_reads' HO402.out).2.2|(with_reducible first|refine aC ?_ _|refine nC ?_ _|refine dC ?_)));(case side6=>exact (Kd.R_reads' HO402.out).2.1);rintro e w36 ⟨rfl,hb⟩;refine⟨_,rfl,?_⟩;have n0_:=mk0 (Kd.R_below (by (with_reducible repeat (first|apply aR|apply nR|apply dR));exact HO_3.out) hb);have n1_:=mk0 (Kd.R_below (by (with_reducible repeat (first|apply aR|apply nR|apply dR));exact HO_4.out) hb);have n2_:=mk0 (Kd.R_below (by (with_reducible repeat (first|apply aR|apply nR|apply dR));exact HO_5.out) hb);have n3_:=mk0 (Kd.R_below (by (with_reducible repeat (first|apply aR|apply nR|apply dR));exact HO390.out) hb);have n4_:=mk0 (Kd.R_below (by (with_reducible repeat (first|apply aR|apply nR|apply dR));exact HO396.out) hb);have n5_:=mk0 (Kd.R_below (by (with_reducible repeat (first|apply aR|apply nR|apply dR));exact HO399.out) hb);have n6_:=mk0 (Kd.R_below (by (with_reducible repeat (first|apply aR|apply nR|apply dR));exact HO402.out) hb);have n7_:=mk0 (below_step (by repeat (first|(with_reducible first|exact HB.out|apply aZ|apply nZ|apply dZ)|exact HB.out)) hb);clear HO_3 HO_4 HO_5 HO390 HO396 HO399 HO402 HB;have HO_3:=n0_;have HO_4:=n1_;have HO_5:=n2_;have HO390:=n3_;have HO396:=n4_;have HO399:=n5_;have HO402:=n6_;have HB:=n7_;clear n0_ n1_ n2_ n3_ n4_ n5_ n6_ n7_;(try clear hb);(try clear hb2);(try clear hk);(try clear hi)))
   (try simp only [Act.put,sA,sO,sS])
   go_cut [60] (fun v60 wc=>∃ (kq:Nat) (x60_22:Bool),v60 = .bool x60_22 ∧ Aside0 (laws_FnCommon.j1 kq t373 t374 t382 t397 x60_22 = some r) ∧ Aside0 (kq ≤ kj5) ∧ Aside0 (Kd.R (Kd.int .i64) 3 wc w.heap.size (fun k_=>some k_ ≠ ((.slice Ao9 t374.length co9):Value).ownBlock) (.slice Ao8 t373.length co8) t373) ∧ Aside0 (Kd.R (Kd.int .i64) 3 wc w.heap.size (fun k_=>some k_ ≠ ((.slice Ao8 t373.length co8):Value).ownBlock) (.slice Ao9 t374.length co9) t374) ∧ Aside0 (Kd.R k56 56 wc w.heap.size (fun _=>True) v398 t397) ∧ Aside0 (Below w.heap.size w wc))
   case first =>
    have H:=HC23.out
    clear HC23
    replace H:=Option.bind_eq_some_iff.mp H
    obtain⟨t404,A370,H⟩:=H
    replace H:(if (t403 != t404) = true then (laws_FnCommon.j1 kj5 t373 t374 t382 t397 true) else (if t403 = true then (laws_FnCommon.j1 kj5 t373 t374 t382 t397 (decide ((t375.length:Int) > t382))) else (laws_FnCommon.j1 kj5 t373 t374 t382 t397 false))) = some r:=H
    have A37:=mk0 A370
    clear A370
    by_cases c38:(t403 != t404) = true
    ·rw [if_pos c38] at H
     have c38b0:(t403 != t404) = true:=c38
     (try (have c38b1:decide (t403 = t404) = false:=by simpa using c38))
     (try (have c38b2:(t403 == t404) = false:=by simpa using c38))
     (try (have c38b3:¬ (t403 = t404):=by simpa using c38))
     clear c38
     (first|rw [c38b0]|(simp only [i64_w,i32_w];rw [c38b0])|skip)
     have H':=mk0 H
     clear H
     go_wp2_with (first|((with_reducible refine gate_callee (f:=14) rfl ?_);refine goesL_ (some 50) rfl rfl Try.func14 (by kernel_rfl) rfl #[.slice Ao8 t373.length co8,.slice Ao9 t374.length co9,.slice Ao33 t375.length co33] rfl (by (try simp only [mA,mC,mN]);first|done|rfl|(simp only [List.length_drop,List.length_take];rfl)) ?_;(with_reducible refine (spec_CommonOk.calls kj5 _ _ t373 _ _ t374 _ _ t375 t404 _ ?side1 ?side2 ?side3 ?side4 ?side5 ?side6 A37.out).mono ?_);(case side1=>repeat (first|exact (Kd.R_reads' HO_3.out).2.2|(with_reducible first|refine aC ?_ _|refine nC ?_ _|refine dC ?_)));(case side2=>exact (Kd.R_reads' HO_3.out).2.1);(case side3=>repeat (first|exact (Kd.R_reads' HO_4.out).2.2|(with_reducible first|refine aC ?_ _|refine nC ?_ _|refine dC ?_)));(case side4=>exact (Kd.R_reads' HO_4.out).2.1);(case side5=>repeat (first|exact (Kd.R_reads' HO_5.out).2.2|(with_reducible first|refine aC ?_ _|refine nC ?_ _|refine dC ?_)));(case side6=>exact (Kd.R_reads' HO_5.out).2.1);rintro e w39 ⟨rfl,hb⟩;refine⟨_,rfl,?_⟩;have n0_:=mk0 (Kd.R_below (by (with_reducible repeat (first|apply aR|apply nR|apply dR));exact HO_3.out) hb);have n1_:=mk0 (Kd.R_below (by (with_reducible repeat (first|apply aR|apply nR|apply dR));exact HO_4.out) hb);have n2_:=mk0 (Kd.R_below (by (with_reducible repeat (first|apply aR|apply nR|apply dR));exact HO_5.out) hb);have n3_:=mk0 (Kd.R_below (by (with_reducible repeat (first|apply aR|apply nR|apply dR));exact HO390.out) hb);have n4_:=mk0 (Kd.R_below (by (with_reducible repeat (first|apply aR|apply nR|apply dR));exact HO396.out) hb);have n5_:=mk0 (Kd.R_below (by (with_reducible repeat (first|apply aR|apply nR|apply dR));exact HO399.out) hb);have n6_:=mk0 (Kd.R_below (by (with_reducible repeat (first|apply aR|apply nR|apply dR));exact HO402.out) hb);have n7_:=mk0 (below_step (by repeat (first|(with_reducible first|exact HB.out|apply aZ|apply nZ|apply dZ)|exact HB.out)) hb);clear HO_3 HO_4 HO_5 HO390 HO396 HO399 HO402 HB;have HO_3:=n0_;have HO_4:=n1_;have HO_5:=n2_;have HO390:=n3_;have HO396:=n4_;have HO399:=n5_;have HO402:=n6_;have HB:=n7_;clear n0_ n1_ n2_ n3_ n4_ n5_ n6_ n7_;(try clear hb);(try clear hb2);(try clear hk);(try clear hi)))
     go_meet
     case rel=>exact⟨_,(true),(by first|rfl|(simp;done)|(simp [*];done)),H',⟨by have:=HJ5.out;first|omega|exact Nat.le_refl _⟩,⟨by (with_reducible repeat (first|apply aR|apply nR|apply dR));exact Kd.R_mono HO_3.out (fun _ hk=>hk.1.1)⟩,⟨by (with_reducible repeat (first|apply aR|apply nR|apply dR));exact Kd.R_mono HO_4.out (fun _ hk=>hk.1.1)⟩,⟨by (with_reducible repeat (first|apply aR|apply nR|apply dR));exact Kd.R_mono HO399.out (fun _ hk=>trivial)⟩,⟨by repeat (first|(with_reducible first|exact HB.out|apply aZ|apply nZ|apply dZ)|exact HB.out)⟩⟩
    rw [if_neg c38] at H
    have c38b0:(t403 != t404) = false:=by simpa using c38
    (try (have c38b1:decide (t403 = t404) = true:=by simpa using c38))
    (try (have c38b2:(t403 == t404) = true:=by simpa using c38))
    clear c38
    (first|rw [c38b0]|(simp only [i64_w,i32_w];rw [c38b0])|skip)
    by_cases c40:t403 = true
    ·subst c40
     have H1:(laws_FnCommon.j1 kj5 t373 t374 t382 t397 (decide ((t375.length:Int) > t382))) = some r:=by rw [if_pos rfl] at H;exact H
     clear H
     have H:=H1
     clear H1
     have H':=mk0 H
     clear H
     go_wp2_with (first|((with_reducible refine gate_callee (f:=14) rfl ?_);refine goesL_ (some 50) rfl rfl Try.func14 (by kernel_rfl) rfl #[.slice Ao8 t373.length co8,.slice Ao9 t374.length co9,.slice Ao33 t375.length co33] rfl (by (try simp only [mA,mC,mN]);first|done|rfl|(simp only [List.length_drop,List.length_take];rfl)) ?_;(with_reducible refine (spec_CommonOk.calls kj5 _ _ t373 _ _ t374 _ _ t375 t404 _ ?side1 ?side2 ?side3 ?side4 ?side5 ?side6 A37.out).mono ?_);(case side1=>repeat (first|exact (Kd.R_reads' HO_3.out).2.2|(with_reducible first|refine aC ?_ _|refine nC ?_ _|refine dC ?_)));(case side2=>exact (Kd.R_reads' HO_3.out).2.1);(case side3=>repeat (first|exact (Kd.R_reads' HO_4.out).2.2|(with_reducible first|refine aC ?_ _|refine nC ?_ _|refine dC ?_)));(case side4=>exact (Kd.R_reads' HO_4.out).2.1);(case side5=>repeat (first|exact (Kd.R_reads' HO_5.out).2.2|(with_reducible first|refine aC ?_ _|refine nC ?_ _|refine dC ?_)));(case side6=>exact (Kd.R_reads' HO_5.out).2.1);rintro e w41 ⟨rfl,hb⟩;refine⟨_,rfl,?_⟩;have n0_:=mk0 (Kd.R_below (by (with_reducible repeat (first|apply aR|apply nR|apply dR));exact HO_3.out) hb);have n1_:=mk0 (Kd.R_below (by (with_reducible repeat (first|apply aR|apply nR|apply dR));exact HO_4.out) hb);have n2_:=mk0 (Kd.R_below (by (with_reducible repeat (first|apply aR|apply nR|apply dR));exact HO_5.out) hb);have n3_:=mk0 (Kd.R_below (by (with_reducible repeat (first|apply aR|apply nR|apply dR));exact HO390.out) hb);have n4_:=mk0 (Kd.R_below (by (with_reducible repeat (first|apply aR|apply nR|apply dR));exact HO396.out) hb);have n5_:=mk0 (Kd.R_below (by (with_reducible repeat (first|apply aR|apply nR|apply dR));exact HO399.out) hb);have n6_:=mk0 (Kd.R_below (by (with_reducible repeat (first|apply aR|apply nR|apply dR));exact HO402.out) hb);have n7_:=mk0 (below_step (by repeat (first|(with_reducible first|exact HB.out|apply aZ|apply nZ|apply dZ)|exact HB.out)) hb);clear HO_3 HO_4 HO_5 HO390 HO396 HO399 HO402 HB;have HO_3:=n0_;have HO_4:=n1_;have HO_5:=n2_;have HO390:=n3_;have HO396:=n4_;have HO399:=n5_;have HO402:=n6_;have HB:=n7_;clear n0_ n1_ n2_ n3_ n4_ n5_ n6_ n7_;(try clear hb);(try clear hb2);(try clear hk);(try clear hi)))
     go_meet
     case rel=>exact⟨_,(decide ((t375.length:Int) > t382)),(by first|rfl|(simp;done)|(simp [*];done)),H',⟨by have:=HJ5.out;first|omega|exact Nat.le_refl _⟩,⟨by (with_reducible repeat (first|apply aR|apply nR|apply dR));exact Kd.R_mono HO_3.out (fun _ hk=>hk.1.1)⟩,⟨by (with_reducible repeat (first|apply aR|apply nR|apply dR));exact Kd.R_mono HO_4.out (fun _ hk=>hk.1.1)⟩,⟨by (with_reducible repeat (first|apply aR|apply nR|apply dR));exact Kd.R_mono HO399.out (fun _ hk=>trivial)⟩,⟨by repeat (first|(with_reducible first|exact HB.out|apply aZ|apply nZ|apply dZ)|exact HB.out)⟩⟩
    replace c40:=Bool.eq_false_iff.mpr c40
    subst c40
    have H1:(laws_FnCommon.j1 kj5 t373 t374 t382 t397 false) = some r:=by rw [if_neg (show ¬ (false = true) by decide)] at H;exact H
    clear H
    have H:=H1
    clear H1
    have H':=mk0 H
    clear H
    go_wp2_with (first|((with_reducible refine gate_callee (f:=14) rfl ?_);refine goesL_ (some 50) rfl rfl Try.func14 (by kernel_rfl) rfl #[.slice Ao8 t373.length co8,.slice Ao9 t374.length co9,.slice Ao33 t375.length co33] rfl (by (try simp only [mA,mC,mN]);first|done|rfl|(simp only [List.length_drop,List.length_take];rfl)) ?_;(with_reducible refine (spec_CommonOk.calls kj5 _ _ t373 _ _ t374 _ _ t375 t404 _ ?side1 ?side2 ?side3 ?side4 ?side5 ?side6 A37.out).mono ?_);(case side1=>repeat (first|exact (Kd.R_reads' HO_3.out).2.2|(with_reducible first|refine aC ?_ _|refine nC ?_ _|refine dC ?_)));(case side2=>exact (Kd.R_reads' HO_3.out).2.1);(case side3=>repeat (first|exact (Kd.R_reads' HO_4.out).2.2|(with_reducible first|refine aC ?_ _|refine nC ?_ _|refine dC ?_)));(case side4=>exact (Kd.R_reads' HO_4.out).2.1);(case side5=>repeat (first|exact (Kd.R_reads' HO_5.out).2.2|(with_reducible first|refine aC ?_ _|refine nC ?_ _|refine dC ?_)));(case side6=>exact (Kd.R_reads' HO_5.out).2.1);rintro e w42 ⟨rfl,hb⟩;refine⟨_,rfl,?_⟩;have n0_:=mk0 (Kd.R_below (by (with_reducible repeat (first|apply aR|apply nR|apply dR));exact HO_3.out) hb);have n1_:=mk0 (Kd.R_below (by (with_reducible repeat (first|apply aR|apply nR|apply dR));exact HO_4.out) hb);have n2_:=mk0 (Kd.R_below (by (with_reducible repeat (first|apply aR|apply nR|apply dR));exact HO_5.out) hb);have n3_:=mk0 (Kd.R_below (by (with_reducible repeat (first|apply aR|apply nR|apply dR));exact HO390.out) hb);have n4_:=mk0 (Kd.R_below (by (with_reducible repeat (first|apply aR|apply nR|apply dR));exact HO396.out) hb);have n5_:=mk0 (Kd.R_below (by (with_reducible repeat (first|apply aR|apply nR|apply dR));exact HO399.out) hb);have n6_:=mk0 (Kd.R_below (by (with_reducible repeat (first|apply aR|apply nR|apply dR));exact HO402.out) hb);have n7_:=mk0 (below_step (by repeat (first|(with_reducible first|exact HB.out|apply aZ|apply nZ|apply dZ)|exact HB.out)) hb);clear HO_3 HO_4 HO_5 HO390 HO396 HO399 HO402 HB;have HO_3:=n0_;have HO_4:=n1_;have HO_5:=n2_;have HO390:=n3_;have HO396:=n4_;have HO399:=n5_;have HO402:=n6_;have HB:=n7_;clear n0_ n1_ n2_ n3_ n4_ n5_ n6_ n7_;(try clear hb);(try clear hb2);(try clear hk);(try clear hi)))
    go_meet
    case rel=>exact⟨_,(false),(by first|rfl|(simp;done)|(simp [*];done)),H',⟨by have:=HJ5.out;first|omega|exact Nat.le_refl _⟩,⟨by (with_reducible repeat (first|apply aR|apply nR|apply dR));exact Kd.R_mono HO_3.out (fun _ hk=>hk.1.1)⟩,⟨by (with_reducible repeat (first|apply aR|apply nR|apply dR));exact Kd.R_mono HO_4.out (fun _ hk=>hk.1.1)⟩,⟨by (with_reducible repeat (first|apply aR|apply nR|apply dR));exact Kd.R_mono HO399.out (fun _ hk=>trivial)⟩,⟨by repeat (first|(with_reducible first|exact HB.out|apply aZ|apply nZ|apply dZ)|exact HB.out)⟩⟩
   case rest =>
    clear HC23
    try clear c1
    try clear c2
    try clear p2
    try clear c3
    try clear c4
    try clear c8
    try clear c9
    try clear c11
    try clear c12
    try clear c12b0
    try clear c12b1
    try clear c14
    try clear c15
    try clear c16
    try clear c18
    try clear c19
    try clear c26
    try clear c32
    try clear c33
    try clear c34
    try clear c38
    try clear c38b0
    try clear c38b1
    try clear c38b2
    try clear c40
    try clear p2
    obtain⟨kq,x60_22,rfl,HA,HJ22,HO_3,HO_4,HO_7,HB⟩:=hcut
    cases kq with
    | zero=>exact absurd HA.out (by simp [laws_FnCommon.j1])
    | succ kj22 =>
     have H:=HA.out
     clear HA
     simp only [laws_FnCommon.j1] at H
     by_cases c43:x60_22 = true
     ·subst c43
      have H1:(some false) = some r:=by rw [if_pos rfl] at H;exact H
      clear H
      have H:=H1
      clear H1
      obtain rfl:=Option.some.inj H
      go_wp2
      go_ret
      exact⟨by first|rfl|(simp [errW_none,errW_some] <;> rfl)|(simp [*,errW_none,errW_some] <;> rfl),by repeat (first|(with_reducible first|exact HB.out|apply aZ|apply nZ|apply dZ)|exact HB.out)⟩
     replace c43:=Bool.eq_false_iff.mpr c43
     subst c43
     have H1:(if (t397.length:Int) = t382 then ((spec_CommonOk.f kj22 t373 t374 t397).bind fun t405=>(if t405 = true then ((impl_CommonLen.f kj22 t374 t373).bind fun t406=>(some (t406 == t382))) else (some false))) else (some false)) = some r:=by rw [if_neg (show ¬ (false = true) by decide)] at H;exact H
     clear H
     have H:=H1
     clear H1
     by_cases c44:(t397.length:Int) = t382
     rotate_left
     ·rw [if_neg c44] at H
      have c44b0:((t397.length:Int) == t382) = false:=beq_eq_false_iff_ne.mpr c44
      have c44b1:((t397.length:Int) != t382) = true:=bne_iff_ne.mpr c44
      obtain rfl:=Option.some.inj H
      obtain⟨Ao53,co53,eo53⟩:=Kd.R_slice HO_7.out
      subst eo53
      go_wp2
      go_ret
      exact⟨by first|rfl|(simp [errW_none,errW_some] <;> rfl)|(simp [*,errW_none,errW_some] <;> rfl),by repeat (first|(with_reducible first|exact HB.out|apply aZ|apply nZ|apply dZ)|exact HB.out)⟩
     rw [if_pos c44] at H
     have c44b0:((t397.length:Int) == t382) = true:=beq_iff_eq.mpr c44
     have c44b1:((t397.length:Int) != t382) = false:=bne_eq_false_iff_eq.mpr c44
     clear c44
     replace H:=Option.bind_eq_some_iff.mp H
     obtain⟨t405,A450,H⟩:=H
     replace H:(if t405 = true then ((impl_CommonLen.f kj22 t374 t373).bind fun t406=>(some (t406 == t382))) else (some false)) = some r:=H
     have A45:=mk0 A450
     clear A450
     by_cases c46:t405 = true
     rotate_left
     ·replace c46:=Bool.eq_false_iff.mpr c46
      subst c46
      have H1:(some false) = some r:=by rw [if_neg (show ¬ (false = true) by decide)] at H;exact H
      clear H
      have H:=H1
      clear H1
      obtain rfl:=Option.some.inj H
      obtain⟨Ao51,co51,eo51⟩:=Kd.R_slice HO_7.out
      subst eo51
      go_wp2_with (first|(go_at_call 14;(with_reducible refine (spec_CommonOk.calls kj22 _ _ t373 _ _ t374 _ _ t397 false _ ?side1 ?side2 ?side3 ?side4 ?side5 ?side6 A45.out).mono ?_);(case side1=>repeat (first|exact (Kd.R_reads' HO_3.out).2.2|(with_reducible first|refine aC ?_ _|refine nC ?_ _|refine dC ?_)));(case side2=>exact (Kd.R_reads' HO_3.out).2.1);(case side3=>repeat (first|exact (Kd.R_reads' HO_4.out).2.2|(with_reducible first|refine aC ?_ _|refine nC ?_ _|refine dC ?_)));(case side4=>exact (Kd.R_reads' HO_4.out).2.1);(case side5=>repeat (first|exact (Kd.R_reads' HO_7.out).2.2|(with_reducible first|refine aC ?_ _|refine nC ?_ _|refine dC ?_)));(case side6=>exact (Kd.R_reads' HO_7.out).2.1);rintro e w52 ⟨rfl,hb⟩;have n0_:=mk0 (Kd.R_below (by (with_reducible repeat (first|apply aR|apply nR|apply dR));exact HO_3.out) hb);have n1_:=mk0 (Kd.R_below (by (with_reducible repeat (first|apply aR|apply nR|apply dR));exact HO_4.out) hb);have n2_:=mk0 (Kd.R_below (by (with_reducible repeat (first|apply aR|apply nR|apply dR));exact HO_7.out) hb);have n3_:=mk0 (below_step (by repeat (first|(with_reducible first|exact HB.out|apply aZ|apply nZ|apply dZ)|exact HB.out)) hb);clear HO_3 HO_4 HO_7 HB;have HO_3:=n0_;have HO_4:=n1_;have HO_7:=n2_;have HB:=n3_;clear n0_ n1_ n2_ n3_;(try clear hb);(try clear hb2);(try clear hk);(try clear hi)))
      go_ret
      exact⟨by first|rfl|(simp [errW_none,errW_some] <;> rfl)|(simp [*,errW_none,errW_some] <;> rfl),by repeat (first|(with_reducible first|exact HB.out|apply aZ|apply nZ|apply dZ)|exact HB.out)⟩
     subst c46
     have H1:((impl_CommonLen.f kj22 t374 t373).bind fun t406=>(some (t406 == t382))) = some r:=by rw [if_pos rfl] at H;exact H
     clear H
     have H:=H1
     clear H1
     replace H:=Option.bind_eq_some_iff.mp H
     obtain⟨t406,A470,H⟩:=H
     replace H:(some (t406 == t382)) = some r:=H
     have A47:=mk0 A470
     clear A470
     obtain rfl:=Option.some.inj H
     obtain⟨Ao48,co48,eo48⟩:=Kd.R_slice HO_7.out
     subst eo48
     go_wp2_with (first|(go_at_call 14;(with_reducible refine (spec_CommonOk.calls kj22 _ _ t373 _ _ t374 _ _ t397 true _ ?side1 ?side2 ?side3 ?side4 ?side5 ?side6 A45.out).mono ?_);(case side1=>repeat (first|exact (Kd.R_reads' HO_3.out).2.2|(with_reducible first|refine aC ?_ _|refine nC ?_ _|refine dC ?_)));(case side2=>exact (Kd.R_reads' HO_3.out).2.1);(case side3=>repeat (first|exact (Kd.R_reads' HO_4.out).2.2|(with_reducible first|refine aC ?_ _|refine nC ?_ _|refine dC ?_)));(case side4=>exact (Kd.R_reads' HO_4.out).2.1);(case side5=>repeat (first|exact (Kd.R_reads' HO_7.out).2.2|(with_reducible first|refine aC ?_ _|refine nC ?_ _|refine dC ?_)));(case side6=>exact (Kd.R_reads' HO_7.out).2.1);rintro e w49 ⟨rfl,hb⟩;have n0_:=mk0 (Kd.R_below (by (with_reducible repeat (first|apply aR|apply nR|apply dR));exact HO_3.out) hb);have n1_:=mk0 (Kd.R_below (by (with_reducible repeat (first|apply aR|apply nR|apply dR));exact HO_4.out) hb);have n2_:=mk0 (Kd.R_below (by (with_reducible repeat (first|apply aR|apply nR|apply dR));exact HO_7.out) hb);have n3_:=mk0 (below_step (by repeat (first|(with_reducible first|exact HB.out|apply aZ|apply nZ|apply dZ)|exact HB.out)) hb);clear HO_3 HO_4 HO_7 HB;have HO_3:=n0_;have HO_4:=n1_;have HO_7:=n2_;have HB:=n3_;clear n0_ n1_ n2_ n3_;(try clear hb);(try clear hb2);(try clear hk);(try clear hi))|(go_at_call 11;(with_reducible refine (impl_CommonLen.calls kj22 _ _ t374 _ _ t373 t406 _ ?side1 ?side2 ?side3 ?side4 A47.out).mono ?_);(case side1=>repeat (first|exact (Kd.R_reads' HO_4.out).2.2|(with_reducible first|refine aC ?_ _|refine nC ?_ _|refine dC ?_)));(case side2=>exact (Kd.R_reads' HO_4.out).2.1);(case side3=>repeat (first|exact (Kd.R_reads' HO_3.out).2.2|(with_reducible first|refine aC ?_ _|refine nC ?_ _|refine dC ?_)));(case side4=>exact (Kd.R_reads' HO_3.out).2.1);rintro e w50 ⟨rfl,hb⟩;have n0_:=mk0 (Kd.R_below (by (with_reducible repeat (first|apply aR|apply nR|apply dR));exact HO_3.out) hb);have n1_:=mk0 (Kd.R_below (by (with_reducible repeat (first|apply aR|apply nR|apply dR));exact HO_4.out) hb);have n2_:=mk0 (Kd.R_below (by (with_reducible repeat (first|apply aR|apply nR|apply dR));exact HO_7.out) hb);have n3_:=mk0 (below_step (by repeat (first|(with_reducible first|exact HB.out|apply aZ|apply nZ|apply dZ)|exact HB.out)) hb);clear HO_3 HO_4 HO_7 HB;have HO_3:=n0_;have HO_4:=n1_;have HO_7:=n2_;have HB:=n3_;clear n0_ n1_ n2_ n3_;(try clear hb);(try clear hb2);(try clear hk);(try clear hi)))
     go_ret
     exact⟨by first|rfl|(simp [errW_none,errW_some] <;> rfl)|(simp [*,errW_none,errW_some] <;> rfl),by repeat (first|(with_reducible first|exact HB.out|apply aZ|apply nZ|apply dZ)|exact HB.out)⟩
/-- THE ONE PURE STATEMENT of laws_FnCommon: yours. -/
def laws_FnCommon.Pure : Prop := ∀ (l0 : List Int), l0.length ≤ maxLen → l0.length * 1 ≤ 140737488351232 → (∀ x ∈ l0, (Lit.int .u8 x).wf = true) → ∃ k, laws_FnCommon.f k l0 = some true
theorem laws_FnCommon.walk (P : laws_FnCommon.Pure) (a0 : Option Addr) (len0 cap0 : Nat) (z0 : List Int) (w : World) (w0 : (a0 = none ∧ len0 = 0 ∧ cap0 = 0 ∧ z0 = []) ∨ ∃ x, a0 = some x ∧ len0 ≤ cap0 ∧ cap0 ≤ maxLen ∧ z0.length = cap0 ∧ (∀ i, i < z0.length → w.cell? (x.add i) = some (.int .u8 (z0.getD i 0))) ∧ ∀ n ∈ z0, (Lit.int .u8 n).wf = true) (y0 : len0 * 1 ≤ 140737488351232) :
    Calls Try.prog 8 #[.slice a0 len0 cap0] w fun e w' => e = .returned (.bool true) ∧ Below w.heap.size w w' := by
  obtain ⟨l0, rfl, hr0, hm0, hw0, hc0⟩ := ReadsInt.ofRowC w0
  obtain ⟨k, h⟩ := P l0 hm0 y0 hw0
  refine (laws_FnCommon.calls k _ _ l0 true w (Kd.C_of_reads (d := (0 : Int)) (h1 := fun _ => rfl) hr0) hc0 h).mono ?_
  rintro e w' ⟨rfl, hd⟩
  exact ⟨rfl, hd⟩

end Go.Proofs.Ytlnmkgeoiinjfaa.QFnCommon
