-- A walk, made by walk.py, a program of this session's.
import Derived.Test.YtgjmmegmkdklbaaQFnHuffBestx0
import Derived.Test.YtgjmmegmkdklbaaQFnHuffBestx1
import Derived.Test.YtgjmmegmkdklbaaQFnHuffBestx2
import Derived.Test.YtgjmmegmkdklbaaQFnHuffBestx4
import Derived.Test.YtgjmmegmkdklbaaQFnHuffBestx5
import Derived.Test.YtgjmmegmkdklbaaQFnHuffBestx6
namespace Go.Proofs.Ytgjmmegmkdklbaa.QFnHuffBest
open Go.RowKit Go.Proofs.YtgjmmegmkdklbaaW.PrintWords Go.Proofs.YtgjmmegmkdklbaaW.PrintLast Go.Proofs.YtgjmmegmkdklbaaW.PrintMore
attribute [local go_sem] max2_int min2_int max_two min_two max_three min_three max_four min_four   -- for this text's walks alone
set_option linter.unusedVariables false
set_option linter.unusedSimpArgs false

/-! ### laws_FnHuffBest: function 5 -/
def laws_FnHuffBest.l0 : Nat → Int → Int → Int → Int → List Int → List Int → List Int → Option (Bool)
 | 0, _, _, _, _, _, _, _ => none
 | k + 1, x7, x8, x10, x11, x18, x21, x36 => if x11 < (x18.length : Int) then (if 0 ≤ x11 then (if (rd x18 x11) > 0 then (if x11 < (x36.length : Int) then ((some (x36.set (x11 : Int).toNat (wrap64 (x10 + 1)) : List Int)).bind fun y370 => ((laws_lastUsed.f k x18).bind fun t371 => (if x11 = t371 then (if (wrap64 (x10 + 1)) > 1 then (laws_FnHuffBest.l0 k x7 x8 (wrap64 (x10 + 1)) (wrap64 (x11 + 1)) x18 x21 (y370.set (x11 : Int).toNat (wrap64 ((wrap64 (x10 + 1)) - 1)))) else (laws_FnHuffBest.l0 k x7 x8 (wrap64 (x10 + 1)) (wrap64 (x11 + 1)) x18 x21 y370)) else (laws_FnHuffBest.l0 k x7 x8 (wrap64 (x10 + 1)) (wrap64 (x11 + 1)) x18 x21 y370)))) else (none)) else (laws_FnHuffBest.l0 k x7 x8 x10 (wrap64 (x11 + 1)) x18 x21 x36)) else (none)) else ((spec_HuffSize.f k x18 x36).bind fun t373 => ((spec_HuffSize.f k x18 x21).bind fun t374 => (if x7 = t374 then (if x7 < 0 then (some true) else (if x8 < 0 then (if t373 < 0 then (some true) else (some (decide (x7 ≤ t373)))) else (if x7 ≤ x8 then (if t373 < 0 then (some true) else (some (decide (x7 ≤ t373)))) else (some false)))) else (some false))))
def laws_FnHuffBest.f (k : Nat) (l0 : List Int) : Option (Bool) := (laws_big.f l0).bind fun t350 => (if t350 = true then (some true) else ((spec_DrawHuffSize.f k l0).bind fun bt351 => ((spec_HuffLens.f k bt351.1).bind fun t357 => ((impl_HuffLens.f bt351.1).bind fun t360 => ((laws_same.f k t360 t357).bind fun t363 => (if t363 = true then ((impl_HuffSize.f k bt351.1 t360).bind fun t364 => ((spec_HuffSize.f k bt351.1 bt351.2).bind fun t365 => (if 0 ≤ (bt351.1.length : Int) then (if ((bt351.1.length : Int) : Int).toNat ≤ 35184372088832 then (laws_FnHuffBest.l0 k t364 t365 0 0 bt351.1 t357 (List.replicate ((bt351.1.length : Int) : Int).toNat 0)) else (none)) else (none)))) else (some false)))))))
theorem laws_FnHuffBest.mono_l : ∀ k, (∀ y0 y1 y2 y3 y4 y5 y6, LeO (laws_FnHuffBest.l0 k y0 y1 y2 y3 y4 y5 y6) (laws_FnHuffBest.l0 (k + 1) y0 y1 y2 y3 y4 y5 y6))
 | 0 => fun _ _ _ _ _ _ _ r h => by simp [laws_FnHuffBest.l0] at h
 | k + 1 => by
  have ih0 := laws_FnHuffBest.mono_l k
  ·intro y0 y1 y2 y3 y4 y5 y6
   unfold laws_FnHuffBest.l0
   repeat' first|(with_reducible first|exact ih0 _ _ _ _ _ _ _|exact impl_HuffSize.mono _ _ _|exact laws_lastUsed.mono _ _|exact laws_same.mono _ _ _|exact spec_DrawHuffSize.mono _ _|exact spec_HuffLens.mono _ _|exact spec_HuffSize.mono _ _ _|exact LeO.refl _|exact LeO.none _|refine LeO.ite ?_ ?_|refine LeO.bind ?_ (fun _ => ?_))|exact LeO.none _|refine LeO.ite ?_ ?_|refine LeO.bind ?_ (fun _ => ?_)
theorem laws_FnHuffBest.mono : ∀ a0 k, LeO (laws_FnHuffBest.f k a0) (laws_FnHuffBest.f (k + 1) a0) := by
 intro a0 k
 have ih0 := laws_FnHuffBest.mono_l k
 unfold laws_FnHuffBest.f
 repeat' first|(with_reducible first|exact ih0 _ _ _ _ _ _ _|exact impl_HuffSize.mono _ _ _|exact laws_lastUsed.mono _ _|exact laws_same.mono _ _ _|exact spec_DrawHuffSize.mono _ _|exact spec_HuffLens.mono _ _|exact spec_HuffSize.mono _ _ _|exact LeO.refl _|exact LeO.none _|refine LeO.ite ?_ ?_|refine LeO.bind ?_ (fun _ => ?_))|exact LeO.none _|refine LeO.ite ?_ ?_|refine LeO.bind ?_ (fun _ => ?_)
set_option maxHeartbeats 8000000 in
set_option maxRecDepth 100000 in
theorem laws_FnHuffBest.calls (k : Nat) (A0 : Option Addr) (c0 : Nat) (l0 : List Int) (r : Bool) (w : World) (hr0 : Kd.C (Kd.int .u8) w A0 l0.length l0) (hc0 : l0.length ≤ c0) (h : laws_FnHuffBest.f k l0 = some r) :
  Calls Try.prog 5 #[.slice A0 l0.length c0] w fun e w' => e = .returned (.bool r) ∧ Below w.heap.size w w' := by
 have HR0:=mk0 hr0
 have HC0:=mk0 hc0
 clear hr0 hc0
 have HB:=mk0 (Below.refl w.heap.size w)
 have H:((laws_big.f l0).bind fun t350=>(if t350 = true then (some true) else ((spec_DrawHuffSize.f k l0).bind fun bt351=>((spec_HuffLens.f k bt351.1).bind fun t357=>((impl_HuffLens.f bt351.1).bind fun t360=>((laws_same.f k t360 t357).bind fun t363=>(if t363 = true then ((impl_HuffSize.f k bt351.1 t360).bind fun t364=>((spec_HuffSize.f k bt351.1 bt351.2).bind fun t365=>(if 0 ≤ (bt351.1.length:Int) then (if ((bt351.1.length:Int):Int).toNat ≤ 35184372088832 then (laws_FnHuffBest.l0 k t364 t365 0 0 bt351.1 t357 (List.replicate ((bt351.1.length:Int):Int).toNat 0)) else (none)) else (none)))) else (some false)))))))) = some r:=h
 clear h
 replace H:=Option.bind_eq_some_iff.mp H
 obtain⟨t350,A20,H⟩:=H
 replace H:(if t350 = true then (some true) else ((spec_DrawHuffSize.f k l0).bind fun bt351=>((spec_HuffLens.f k bt351.1).bind fun t357=>((impl_HuffLens.f bt351.1).bind fun t360=>((laws_same.f k t360 t357).bind fun t363=>(if t363 = true then ((impl_HuffSize.f k bt351.1 t360).bind fun t364=>((spec_HuffSize.f k bt351.1 bt351.2).bind fun t365=>(if 0 ≤ (bt351.1.length:Int) then (if ((bt351.1.length:Int):Int).toNat ≤ 35184372088832 then (laws_FnHuffBest.l0 k t364 t365 0 0 bt351.1 t357 (List.replicate ((bt351.1.length:Int):Int).toNat 0)) else (none)) else (none)))) else (some false))))))) = some r:=H
 have A2:=mk0 A20
 clear A20
 by_cases c3:t350 = true
 ·subst c3
  have H1:(some true) = some r:=by rw [if_pos rfl] at H;exact H
  clear H
  have H:=H1
  clear H1
  obtain rfl:=Option.some.inj H
  go_enter Try.func5,Try.ntmps5
  go_wp2_with (first|((with_reducible refine gate_callee (f:=8) rfl ?_);refine goesL_ (some 14) rfl rfl Try.func8 (by kernel_rfl) rfl #[.slice A0 l0.length c0] rfl (by (try simp only [mA,mC,mN]);first|done|rfl|(simp only [List.length_drop,List.length_take];done)|(simp only [List.length_drop,List.length_take];rfl)) ?_;(with_reducible refine (laws_big.calls _ _ l0 true _ ?side1 ?side2 A2.out).mono ?_);(case side1=>repeat (first|exact HR0.out|(with_reducible first|apply aC|apply nC|apply dC)));(case side2=>exact HC0.out);rintro e w' ⟨rfl,⟨nd,rfl⟩⟩;refine⟨_,rfl,?_⟩))
  go_ret
  exact⟨by first|rfl|(simp [errW_none,errW_some] <;> rfl)|(simp [*,errW_none,errW_some] <;> rfl),kB HB.out⟩
 replace c3:=Bool.eq_false_iff.mpr c3
 subst c3
 have H1:((spec_DrawHuffSize.f k l0).bind fun bt351=>((spec_HuffLens.f k bt351.1).bind fun t357=>((impl_HuffLens.f bt351.1).bind fun t360=>((laws_same.f k t360 t357).bind fun t363=>(if t363 = true then ((impl_HuffSize.f k bt351.1 t360).bind fun t364=>((spec_HuffSize.f k bt351.1 bt351.2).bind fun t365=>(if 0 ≤ (bt351.1.length:Int) then (if ((bt351.1.length:Int):Int).toNat ≤ 35184372088832 then (laws_FnHuffBest.l0 k t364 t365 0 0 bt351.1 t357 (List.replicate ((bt351.1.length:Int):Int).toNat 0)) else (none)) else (none)))) else (some false)))))) = some r:=by rw [if_neg (show ¬ (false = true) by decide)] at H;exact H
 clear H
 have H:=H1
 clear H1
 replace H:=Option.bind_eq_some_iff.mp H
 obtain⟨⟨t351,t352⟩,A40,H⟩:=H
 replace H:((spec_HuffLens.f k t351).bind fun t357=>((impl_HuffLens.f t351).bind fun t360=>((laws_same.f k t360 t357).bind fun t363=>(if t363 = true then ((impl_HuffSize.f k t351 t360).bind fun t364=>((spec_HuffSize.f k t351 t352).bind fun t365=>(if 0 ≤ (t351.length:Int) then (if ((t351.length:Int):Int).toNat ≤ 35184372088832 then (laws_FnHuffBest.l0 k t364 t365 0 0 t351 t357 (List.replicate ((t351.length:Int):Int).toNat 0)) else (none)) else (none)))) else (some false))))) = some r:=H
 have A4:=mk0 A40
 clear A40
 replace H:=Option.bind_eq_some_iff.mp H
 obtain⟨t357,A50,H⟩:=H
 replace H:((impl_HuffLens.f t351).bind fun t360=>((laws_same.f k t360 t357).bind fun t363=>(if t363 = true then ((impl_HuffSize.f k t351 t360).bind fun t364=>((spec_HuffSize.f k t351 t352).bind fun t365=>(if 0 ≤ (t351.length:Int) then (if ((t351.length:Int):Int).toNat ≤ 35184372088832 then (laws_FnHuffBest.l0 k t364 t365 0 0 t351 t357 (List.replicate ((t351.length:Int):Int).toNat 0)) else (none)) else (none)))) else (some false)))) = some r:=H
 have A5:=mk0 A50
 clear A50
 replace H:=Option.bind_eq_some_iff.mp H
 obtain⟨t360,A60,H⟩:=H
 replace H:((laws_same.f k t360 t357).bind fun t363=>(if t363 = true then ((impl_HuffSize.f k t351 t360).bind fun t364=>((spec_HuffSize.f k t351 t352).bind fun t365=>(if 0 ≤ (t351.length:Int) then (if ((t351.length:Int):Int).toNat ≤ 35184372088832 then (laws_FnHuffBest.l0 k t364 t365 0 0 t351 t357 (List.replicate ((t351.length:Int):Int).toNat 0)) else (none)) else (none)))) else (some false))) = some r:=H
 have A6:=mk0 A60
 clear A60
 replace H:=Option.bind_eq_some_iff.mp H
 obtain⟨t363,A70,H⟩:=H
 replace H:(if t363 = true then ((impl_HuffSize.f k t351 t360).bind fun t364=>((spec_HuffSize.f k t351 t352).bind fun t365=>(if 0 ≤ (t351.length:Int) then (if ((t351.length:Int):Int).toNat ≤ 35184372088832 then (laws_FnHuffBest.l0 k t364 t365 0 0 t351 t357 (List.replicate ((t351.length:Int):Int).toNat 0)) else (none)) else (none)))) else (some false)) = some r:=H
 have A7:=mk0 A70
 clear A70
 by_cases c8:t363 = true
 rotate_left
 ·replace c8:=Bool.eq_false_iff.mpr c8
  subst c8
  have H1:(some false) = some r:=by rw [if_neg (show ¬ (false = true) by decide)] at H;exact H
  clear H
  have H:=H1
  clear H1
  obtain rfl:=Option.some.inj H
  go_enter Try.func5,Try.ntmps5
  go_wp2_with (first|((with_reducible refine gate_callee (f:=8) rfl ?_);refine goesL_ (some 14) rfl rfl Try.func8 (by kernel_rfl) rfl #[.slice A0 l0.length c0] rfl (by (try simp only [mA,mC,mN]);first|done|rfl|(simp only [List.length_drop,List.length_take];done)|(simp only [List.length_drop,List.length_take];rfl)) ?_;(with_reducible refine (laws_big.calls _ _ l0 false _ ?side1 ?side2 A2.out).mono ?_);(case side1=>repeat (first|exact HR0.out|(with_reducible first|apply aC|apply nC|apply dC)));(case side2=>exact HC0.out);rintro e w' ⟨rfl,⟨nd,rfl⟩⟩;refine⟨_,rfl,?_⟩)|((with_reducible refine gate_callee (f:=20) rfl ?_);refine goesL_ (some 17) rfl rfl Try.func20 (by kernel_rfl) rfl #[.slice A0 l0.length c0] rfl (by (try simp only [mA,mC,mN]);first|done|rfl|(simp only [List.length_drop,List.length_take];done)|(simp only [List.length_drop,List.length_take];rfl)) ?_;(with_reducible refine (spec_DrawHuffSize.calls k _ _ l0 t351 t352 _ ?side1 ?side2 A4.out).mono ?_);(case side1=>repeat (first|exact HR0.out|(with_reducible first|apply aC|apply nC|apply dC)));(case side2=>exact HC0.out);rintro e w55 ⟨v353,v355,rfl,ho0,ho1,hb⟩;refine⟨_,rfl,?_⟩;have HO354:=mk0 (Kd.R_lower ho0 (kZ HB.out));have HO356:=mk0 (Kd.R_lower ho1 (kZ HB.out));replace HB:=mk0 (kS HB.out hb);(try clear hb);(try clear ho0);(try clear ho1);obtain⟨Ao56,co56,eo56⟩:=Kd.R_slice HO354.out;subst eo56)|((with_reducible refine gate_callee (f:=21) rfl ?_);refine goesL_ (some 21) rfl rfl Try.func21 (by kernel_rfl) rfl #[.slice Ao56 t351.length co56] rfl (by (try simp only [mA,mC,mN]);first|done|rfl|(simp only [List.length_drop,List.length_take];done)|(simp only [List.length_drop,List.length_take];rfl)) ?_;(with_reducible refine (spec_HuffLens.calls k _ _ t351 t357 _ ?side1 ?side2 A5.out).mono ?_);(case side1=>exact kC (Kd.R_reads' HO354.out).2.2);(case side2=>exact (Kd.R_reads' HO354.out).2.1);rintro e w57 ⟨v358,rfl,ho0,hb⟩;refine⟨_,rfl,?_⟩;have HO359:=mk0 (Kd.R_lower (Kd.R_new' (Kd.R_new' ho0 (Kd.R_lt (rR HO354.out))) (Kd.R_lt (rR HO356.out))) (kZ HB.out));replace HO354:=mk0 (Kd.R_elder' (rR HO354.out) (Kd.R_base ho0) hb);replace HO356:=mk0 (Kd.R_elder' (rR HO356.out) (Kd.R_base ho0) hb);replace HB:=mk0 (kS HB.out hb);(try clear hb);(try clear ho0))|((with_reducible refine gate_callee (f:=22) rfl ?_);refine goesL_ (some 23) rfl rfl Try.func22 (by kernel_rfl) rfl #[.slice Ao56 t351.length co56] rfl (by (try simp only [mA,mC,mN]);first|done|rfl|(simp only [List.length_drop,List.length_take];done)|(simp only [List.length_drop,List.length_take];rfl)) ?_;(with_reducible refine (impl_HuffLens.calls _ _ t351 t360 _ ?side1 ?side2 A6.out).mono ?_);(case side1=>exact kC (Kd.R_reads' HO354.out).2.2);(case side2=>exact (Kd.R_reads' HO354.out).2.1);rintro e w58 ⟨v361,rfl,ho0,hb⟩;refine⟨_,rfl,?_⟩;have HO362:=mk0 (Kd.R_lower (Kd.R_new' (Kd.R_new' (Kd.R_new' ho0 (Kd.R_lt (rR HO354.out))) (Kd.R_lt (rR HO356.out))) (Kd.R_lt (rR HO359.out))) (kZ HB.out));replace HO354:=mk0 (Kd.R_elder' (rR HO354.out) (Kd.R_base ho0) hb);replace HO356:=mk0 (Kd.R_elder' (rR HO356.out) (Kd.R_base ho0) hb);replace HO359:=mk0 (Kd.R_elder' (rR HO359.out) (Kd.R_base ho0) hb);replace HB:=mk0 (kS HB.out hb);(try clear hb);(try clear ho0);obtain⟨Ao59,co59,eo59⟩:=Kd.R_slice HO362.out;subst eo59;obtain⟨Ao60,co60,eo60⟩:=Kd.R_slice HO359.out;subst eo60)|((with_reducible refine gate_callee (f:=23) rfl ?_);refine goesL_ (some 26) rfl rfl Try.func23 (by kernel_rfl) rfl #[.slice Ao59 t360.length co59,.slice Ao60 t357.length co60] rfl (by (try simp only [mA,mC,mN]);first|done|rfl|(simp only [List.length_drop,List.length_take];done)|(simp only [List.length_drop,List.length_take];rfl)) ?_;(with_reducible refine (laws_same.calls k _ _ t360 _ _ t357 false _ ?side1 ?side2 ?side3 ?side4 A7.out).mono ?_);(case side1=>exact kC (Kd.R_reads' HO362.out).2.2);(case side2=>exact (Kd.R_reads' HO362.out).2.1);(case side3=>exact kC (Kd.R_reads' HO359.out).2.2);(case side4=>exact (Kd.R_reads' HO359.out).2.1);rintro e w' ⟨rfl,⟨nd,rfl⟩⟩;refine⟨_,rfl,?_⟩))
  go_ret
  exact⟨by first|rfl|(simp [errW_none,errW_some] <;> rfl)|(simp [*,errW_none,errW_some] <;> rfl),kB HB.out⟩

 subst c8
 have H1:((impl_HuffSize.f k t351 t360).bind fun t364=>((spec_HuffSize.f k t351 t352).bind fun t365=>(if 0 ≤ (t351.length:Int) then (if ((t351.length:Int):Int).toNat ≤ 35184372088832 then (laws_FnHuffBest.l0 k t364 t365 0 0 t351 t357 (List.replicate ((t351.length:Int):Int).toNat 0)) else (none)) else (none)))) = some r:=by rw [if_pos rfl] at H;exact H
 clear H
 have H:=H1
 clear H1
 replace H:=Option.bind_eq_some_iff.mp H
 obtain⟨t364,A90,H⟩:=H
 replace H:((spec_HuffSize.f k t351 t352).bind fun t365=>(if 0 ≤ (t351.length:Int) then (if ((t351.length:Int):Int).toNat ≤ 35184372088832 then (laws_FnHuffBest.l0 k t364 t365 0 0 t351 t357 (List.replicate ((t351.length:Int):Int).toNat 0)) else (none)) else (none))) = some r:=H
 have A9:=mk0 A90
 clear A90
 replace H:=Option.bind_eq_some_iff.mp H
 obtain⟨t365,A100,H⟩:=H
 replace H:(if 0 ≤ (t351.length:Int) then (if ((t351.length:Int):Int).toNat ≤ 35184372088832 then (laws_FnHuffBest.l0 k t364 t365 0 0 t351 t357 (List.replicate ((t351.length:Int):Int).toNat 0)) else (none)) else (none)) = some r:=H
 have A10:=mk0 A100
 clear A100
 by_cases c11:0 ≤ (t351.length:Int)
 rotate_left
 ·rw [if_neg c11] at H
  exact absurd H (by simp)
 rw [if_pos c11] at H
 have c11b0:=eq_true c11
 have c11b1:decide (0 ≤ (t351.length:Int)) = true:=decide_eq_true c11
 clear c11
 by_cases c12:((t351.length:Int):Int).toNat ≤ 35184372088832
 rotate_left
 ·rw [if_neg c12] at H
  exact absurd H (by simp)
 rw [if_pos c12] at H
 have c12b0:=eq_true c12
 have c12b1:decide (((t351.length:Int):Int).toNat ≤ 35184372088832) = true:=decide_eq_true c12
 clear c12
 obtain⟨y366,hy366⟩:∃ y_:List Int,y_ = (List.replicate ((t351.length:Int):Int).toNat 0):=⟨_,rfl⟩
 replace H:(laws_FnHuffBest.l0 k t364 t365 0 0 t351 t357 y366) = some r:=by first|(rw [hy366];with_reducible exact H)|(have H2_:=(Option.bind_some _ _).symm.trans H;rw [hy366];with_reducible exact H2_)|(have H2_:=(Option.bind_some _ _).symm.trans H;with_reducible exact H2_)|with_reducible exact H|(rw [hy366];exact H)|exact H
 have Ny366:=mk0 hy366
 clear hy366
 have H':=mk0 H
 clear H
 go_enter Try.func5,Try.ntmps5
 go_wp2_with (first|((with_reducible refine gate_callee (f:=8) rfl ?_);refine goesL_ (some 14) rfl rfl Try.func8 (by kernel_rfl) rfl #[.slice A0 l0.length c0] rfl (by (try simp only [mA,mC,mN]);first|done|rfl|(simp only [List.length_drop,List.length_take];done)|(simp only [List.length_drop,List.length_take];rfl)) ?_;(with_reducible refine (laws_big.calls _ _ l0 false _ ?side1 ?side2 A2.out).mono ?_);(case side1=>repeat (first|exact HR0.out|(with_reducible first|apply aC|apply nC|apply dC)));(case side2=>exact HC0.out);rintro e w' ⟨rfl,⟨nd,rfl⟩⟩;refine⟨_,rfl,?_⟩)|((with_reducible refine gate_callee (f:=20) rfl ?_);refine goesL_ (some 17) rfl rfl Try.func20 (by kernel_rfl) rfl #[.slice A0 l0.length c0] rfl (by (try simp only [mA,mC,mN]);first|done|rfl|(simp only [List.length_drop,List.length_take];done)|(simp only [List.length_drop,List.length_take];rfl)) ?_;(with_reducible refine (spec_DrawHuffSize.calls k _ _ l0 t351 t352 _ ?side1 ?side2 A4.out).mono ?_);(case side1=>repeat (first|exact HR0.out|(with_reducible first|apply aC|apply nC|apply dC)));(case side2=>exact HC0.out);rintro e w13 ⟨v353,v355,rfl,ho0,ho1,hb⟩;refine⟨_,rfl,?_⟩;have HO354:=mk0 (Kd.R_lower ho0 (kZ HB.out));have HO356:=mk0 (Kd.R_lower ho1 (kZ HB.out));replace HB:=mk0 (kS HB.out hb);(try clear hb);(try clear ho0);(try clear ho1);obtain⟨Ao14,co14,eo14⟩:=Kd.R_slice HO354.out;subst eo14)|((with_reducible refine gate_callee (f:=21) rfl ?_);refine goesL_ (some 21) rfl rfl Try.func21 (by kernel_rfl) rfl #[.slice Ao14 t351.length co14] rfl (by (try simp only [mA,mC,mN]);first|done|rfl|(simp only [List.length_drop,List.length_take];done)|(simp only [List.length_drop,List.length_take];rfl)) ?_;(with_reducible refine (spec_HuffLens.calls k _ _ t351 t357 _ ?side1 ?side2 A5.out).mono ?_);(case side1=>exact kC (Kd.R_reads' HO354.out).2.2);(case side2=>exact (Kd.R_reads' HO354.out).2.1);rintro e w15 ⟨v358,rfl,ho0,hb⟩;refine⟨_,rfl,?_⟩;have HO359:=mk0 (Kd.R_lower (Kd.R_new' (Kd.R_new' ho0 (Kd.R_lt (rR HO354.out))) (Kd.R_lt (rR HO356.out))) (kZ HB.out));replace HO354:=mk0 (Kd.R_elder' (rR HO354.out) (Kd.R_base ho0) hb);replace HO356:=mk0 (Kd.R_elder' (rR HO356.out) (Kd.R_base ho0) hb);replace HB:=mk0 (kS HB.out hb);(try clear hb);(try clear ho0))|((with_reducible refine gate_callee (f:=22) rfl ?_);refine goesL_ (some 23) rfl rfl Try.func22 (by kernel_rfl) rfl #[.slice Ao14 t351.length co14] rfl (by (try simp only [mA,mC,mN]);first|done|rfl|(simp only [List.length_drop,List.length_take];done)|(simp only [List.length_drop,List.length_take];rfl)) ?_;(with_reducible refine (impl_HuffLens.calls _ _ t351 t360 _ ?side1 ?side2 A6.out).mono ?_);(case side1=>exact kC (Kd.R_reads' HO354.out).2.2);(case side2=>exact (Kd.R_reads' HO354.out).2.1);rintro e w16 ⟨v361,rfl,ho0,hb⟩;refine⟨_,rfl,?_⟩;have HO362:=mk0 (Kd.R_lower (Kd.R_new' (Kd.R_new' (Kd.R_new' ho0 (Kd.R_lt (rR HO354.out))) (Kd.R_lt (rR HO356.out))) (Kd.R_lt (rR HO359.out))) (kZ HB.out));replace HO354:=mk0 (Kd.R_elder' (rR HO354.out) (Kd.R_base ho0) hb);replace HO356:=mk0 (Kd.R_elder' (rR HO356.out) (Kd.R_base ho0) hb);replace HO359:=mk0 (Kd.R_elder' (rR HO359.out) (Kd.R_base ho0) hb);replace HB:=mk0 (kS HB.out hb);(try clear hb);(try clear ho0);obtain⟨Ao17,co17,eo17⟩:=Kd.R_slice HO362.out;subst eo17;obtain⟨Ao18,co18,eo18⟩:=Kd.R_slice HO359.out;subst eo18)|((with_reducible refine gate_callee (f:=23) rfl ?_);refine goesL_ (some 26) rfl rfl Try.func23 (by kernel_rfl) rfl #[.slice Ao17 t360.length co17,.slice Ao18 t357.length co18] rfl (by (try simp only [mA,mC,mN]);first|done|rfl|(simp only [List.length_drop,List.length_take];done)|(simp only [List.length_drop,List.length_take];rfl)) ?_;(with_reducible refine (laws_same.calls k _ _ t360 _ _ t357 true _ ?side1 ?side2 ?side3 ?side4 A7.out).mono ?_);(case side1=>exact kC (Kd.R_reads' HO362.out).2.2);(case side2=>exact (Kd.R_reads' HO362.out).2.1);(case side3=>exact kC (Kd.R_reads' HO359.out).2.2);(case side4=>exact (Kd.R_reads' HO359.out).2.1);rintro e w' ⟨rfl,⟨nd,rfl⟩⟩;refine⟨_,rfl,?_⟩)|((with_reducible refine gate_callee (f:=24) rfl ?_);refine goesL_ (some 30) rfl rfl Try.func24 (by kernel_rfl) rfl #[.slice Ao14 t351.length co14,.slice Ao17 t360.length co17] rfl (by (try simp only [mA,mC,mN]);first|done|rfl|(simp only [List.length_drop,List.length_take];done)|(simp only [List.length_drop,List.length_take];rfl)) ?_;(with_reducible refine (impl_HuffSize.calls k _ _ t351 _ _ t360 t364 _ ?side1 ?side2 ?side3 ?side4 A9.out).mono ?_);(case side1=>exact kC (Kd.R_reads' HO354.out).2.2);(case side2=>exact (Kd.R_reads' HO354.out).2.1);(case side3=>exact kC (Kd.R_reads' HO362.out).2.2);(case side4=>exact (Kd.R_reads' HO362.out).2.1);rintro e w19 ⟨rfl,hb⟩;refine⟨_,rfl,?_⟩;replace HO354:=mk0 (bR HO354.out hb);replace HO356:=mk0 (bR HO356.out hb);replace HO359:=mk0 (bR HO359.out hb);replace HO362:=mk0 (bR HO362.out hb);replace HB:=mk0 (kS HB.out hb);(try clear hb);obtain⟨Ao20,co20,eo20⟩:=Kd.R_slice HO356.out;subst eo20)|((with_reducible refine gate_callee (f:=25) rfl ?_);refine goesL_ (some 33) rfl rfl Try.func25 (by kernel_rfl) rfl #[.slice Ao14 t351.length co14,.slice Ao20 t352.length co20] rfl (by (try simp only [mA,mC,mN]);first|done|rfl|(simp only [List.length_drop,List.length_take];done)|(simp only [List.length_drop,List.length_take];rfl)) ?_;(with_reducible refine (spec_HuffSize.calls k _ _ t351 _ _ t352 t365 _ ?side1 ?side2 ?side3 ?side4 A10.out).mono ?_);(case side1=>exact kC (Kd.R_reads' HO354.out).2.2);(case side2=>exact (Kd.R_reads' HO354.out).2.1);(case side3=>exact kC (Kd.R_reads' HO356.out).2.2);(case side4=>exact (Kd.R_reads' HO356.out).2.1);rintro e w' ⟨rfl,⟨nd,rfl⟩⟩;refine⟨_,rfl,?_⟩)|((with_reducible refine gate_dst (N:=36) rfl ?_);refine Kd.R_make (Kd.int .i64) _ 3 rfl (N:=36) rfl 24 _ _ rfl (t351.length:Int) rfl rfl Try.underlying24 (.int .i64 0) 8 info3 rfl (by decide) (by omega) 0 (ok:=fun _=>True) (okp:=fun _=>True) rfl (fun _ hk=>hk) trivial (of_decide_eq_true (by first|(with_reducible assumption)|assumption)) (Nat.le_trans (Nat.mul_le_mul_right _ (of_decide_eq_true (by first|(with_reducible assumption)|assumption):(t351.length:Int).toNat ≤ 35184372088832)) (by omega)) (Below.refl _ _) (Nat.le_refl _) ?_;intro v367 w21 ho22 hb hg_ hnew_;clear hg_ hnew_;(first|rw [← Ny366.out] at ho22|(simp only [Int.reduceToNat] at ho22;rw [← Ny366.out] at ho22));have HO368:=mk0 (Kd.R_lower (Kd.R_new' (Kd.R_new' (Kd.R_new' (Kd.R_new' ho22 (Kd.R_lt (rR HO354.out))) (Kd.R_lt (rR HO356.out))) (Kd.R_lt (rR HO359.out))) (Kd.R_lt (rR HO362.out))) (kZ HB.out));replace HO354:=mk0 (Kd.R_elder' (rR HO354.out) (Kd.R_base ho22) hb);replace HO356:=mk0 (Kd.R_elder' (rR HO356.out) (Kd.R_base ho22) hb);replace HO359:=mk0 (Kd.R_elder' (rR HO359.out) (Kd.R_base ho22) hb);replace HO362:=mk0 (Kd.R_elder' (rR HO362.out) (Kd.R_base ho22) hb);replace HB:=mk0 (kS HB.out hb);clear hb ho22))
 go_loopg [10,11] k (fun kq v10 v11 w'=>∃ (x10_1:Int) (x11_1:Int) (x36_1:List Int),v10 = .int .i64 x10_1 ∧ v11 = .int .i64 x11_1 ∧ Aside0 (laws_FnHuffBest.l0 kq t364 t365 x10_1 x11_1 t351 t357 x36_1 = some r) ∧ Aside0 (kq ≤ k) ∧ Aside0 (Kd.R (Kd.int .i64) 3 w' w.heap.size (fun k_=>some k_ ≠ ((.slice Ao18 t357.length co18):Value).ownBlock ∧ some k_ ≠ (v367:Value).ownBlock) (.slice Ao14 t351.length co14) t351) ∧ Aside0 (Kd.R (Kd.int .i64) 3 w' w.heap.size (fun k_=>some k_ ≠ ((.slice Ao14 t351.length co14):Value).ownBlock ∧ some k_ ≠ (v367:Value).ownBlock) (.slice Ao18 t357.length co18) t357) ∧ Aside0 (Kd.R (Kd.int .i64) 3 w' w.heap.size (fun k_=>some k_ ≠ ((.slice Ao14 t351.length co14):Value).ownBlock ∧ some k_ ≠ ((.slice Ao18 t357.length co18):Value).ownBlock) v367 x36_1) ∧ Aside0 (Below w.heap.size w w'))
 case atStart=>exact⟨(0),(0),(y366),(by first|rfl|(simp;done)|(simp [*];done)),(by first|rfl|(simp;done)|(simp [*];done)),H',⟨Nat.le_refl _⟩,⟨by (with_reducible repeat (first|apply aR|apply nR|apply dR));exact Kd.R_mono HO354.out (by first|exact fun _ hk=>⟨hk.1.1.2,hk.2⟩|(intro k_ hk;simp only [hk,ne_eq,and_self,not_false_eq_true]))⟩,⟨by (with_reducible repeat (first|apply aR|apply nR|apply dR));exact Kd.R_mono HO359.out (by first|exact fun _ hk=>⟨hk.1.1.1.2,hk.2⟩|(intro k_ hk;simp only [hk,ne_eq,and_self,not_false_eq_true]))⟩,⟨by (with_reducible repeat (first|apply aR|apply nR|apply dR));exact Kd.R_mono HO368.out (by first|exact fun _ hk=>⟨hk.1.1.1.2,hk.1.2⟩|(intro k_ hk;simp only [hk,ne_eq,and_self,not_false_eq_true]))⟩,⟨kB HB.out⟩⟩
 case round =>
  clear H'
  try clear c1
  try clear c2
  try clear p2
  try clear c3
  try clear c5
  try clear c8
  try clear c11
  try clear c11b0
  try clear c11b1
  try clear c12
  try clear c12b0
  try clear c12b1
  try clear c20
  try clear c21
  try clear c22
  obtain⟨x10_1,x11_1,x36_1,rfl,rfl,HA,HK1,HO_18,HO_21,HO_36,HB⟩:=hrel
  cases gk with
  | zero=>exact absurd HA.out (by simp [laws_FnHuffBest.l0])
  | succ k1 =>
   have H:=HA.out
   clear HA
   simp only [laws_FnHuffBest.l0] at H
   by_cases c23:x11_1 < (t351.length:Int)
   rotate_left
   ·rw [if_neg c23] at H
    have c23b0:decide (x11_1 < (t351.length:Int)) = false:=decide_eq_false c23
    clear c23
    replace H:=Option.bind_eq_some_iff.mp H
    obtain⟨t373,A400,H⟩:=H
    replace H:((spec_HuffSize.f k1 t351 t357).bind fun t374=>(if t364 = t374 then (if t364 < 0 then (some true) else (if t365 < 0 then (if t373 < 0 then (some true) else (some (decide (t364 ≤ t373)))) else (if t364 ≤ t365 then (if t373 < 0 then (some true) else (some (decide (t364 ≤ t373)))) else (some false)))) else (some false))) = some r:=H
    have A40:=mk0 A400
    clear A400
    replace H:=Option.bind_eq_some_iff.mp H
    obtain⟨t374,A410,H⟩:=H
    replace H:(if t364 = t374 then (if t364 < 0 then (some true) else (if t365 < 0 then (if t373 < 0 then (some true) else (some (decide (t364 ≤ t373)))) else (if t364 ≤ t365 then (if t373 < 0 then (some true) else (some (decide (t364 ≤ t373)))) else (some false)))) else (some false)) = some r:=H
    have A41:=mk0 A410
    clear A410
    by_cases c42:t364 = t374
    rotate_left
    ·rw [if_neg c42] at H
     have c42b0:(t364 == t374) = false:=beq_eq_false_iff_ne.mpr c42
     have c42b1:(t364 != t374) = true:=bne_iff_ne.mpr c42
     obtain rfl:=Option.some.inj H
     obtain⟨Ao54,co54,eo54⟩:=Kd.R_slice HO_36.out
     subst eo54
     go_wp2_with (first|((with_reducible refine gate_callee (f:=25) rfl ?_);refine goesL_ (some 69) rfl rfl Try.func25 (by kernel_rfl) rfl #[.slice Ao14 t351.length co14,.slice Ao54 x36_1.length co54] rfl (by (try simp only [mA,mC,mN]);first|done|rfl|(simp only [List.length_drop,List.length_take];done)|(simp only [List.length_drop,List.length_take];rfl)) ?_;(with_reducible refine (spec_HuffSize.calls k1 _ _ t351 _ _ x36_1 t373 _ ?side1 ?side2 ?side3 ?side4 A40.out).mono ?_);(case side1=>exact kC (Kd.R_reads' HO_18.out).2.2);(case side2=>exact (Kd.R_reads' HO_18.out).2.1);(case side3=>exact kC (Kd.R_reads' HO_36.out).2.2);(case side4=>exact (Kd.R_reads' HO_36.out).2.1);rintro e w' ⟨rfl,⟨nd,rfl⟩⟩;refine⟨_,rfl,?_⟩)|((with_reducible refine gate_callee (f:=25) rfl ?_);refine goesL_ (some 73) rfl rfl Try.func25 (by kernel_rfl) rfl #[.slice Ao14 t351.length co14,.slice Ao18 t357.length co18] rfl (by (try simp only [mA,mC,mN]);first|done|rfl|(simp only [List.length_drop,List.length_take];done)|(simp only [List.length_drop,List.length_take];rfl)) ?_;(with_reducible refine (spec_HuffSize.calls k1 _ _ t351 _ _ t357 t374 _ ?side1 ?side2 ?side3 ?side4 A41.out).mono ?_);(case side1=>exact kC (Kd.R_reads' HO_18.out).2.2);(case side2=>exact (Kd.R_reads' HO_18.out).2.1);(case side3=>exact kC (Kd.R_reads' HO_21.out).2.2);(case side4=>exact (Kd.R_reads' HO_21.out).2.1);rintro e w' ⟨rfl,⟨nd,rfl⟩⟩;refine⟨_,rfl,?_⟩))
     go_ret
     exact⟨by first|rfl|(simp [errW_none,errW_some] <;> rfl)|(simp [*,errW_none,errW_some] <;> rfl),kB HB.out⟩
    rw [if_pos c42] at H
    have c42b0:(t364 == t374) = true:=beq_iff_eq.mpr c42
    have c42b1:(t364 != t374) = false:=bne_eq_false_iff_eq.mpr c42
    clear c42
    by_cases c43:t364 < 0
    ·rw [if_pos c43] at H
     have c43b0:decide (t364 < 0) = true:=decide_eq_true c43
     clear c43
     obtain rfl:=Option.some.inj H
     obtain⟨Ao44,co44,eo44⟩:=Kd.R_slice HO_36.out
     subst eo44
     go_wp2_with (first|((with_reducible refine gate_callee (f:=25) rfl ?_);refine goesL_ (some 69) rfl rfl Try.func25 (by kernel_rfl) rfl #[.slice Ao14 t351.length co14,.slice Ao44 x36_1.length co44] rfl (by (try simp only [mA,mC,mN]);first|done|rfl|(simp only [List.length_drop,List.length_take];done)|(simp only [List.length_drop,List.length_take];rfl)) ?_;(with_reducible refine (spec_HuffSize.calls k1 _ _ t351 _ _ x36_1 t373 _ ?side1 ?side2 ?side3 ?side4 A40.out).mono ?_);(case side1=>exact kC (Kd.R_reads' HO_18.out).2.2);(case side2=>exact (Kd.R_reads' HO_18.out).2.1);(case side3=>exact kC (Kd.R_reads' HO_36.out).2.2);(case side4=>exact (Kd.R_reads' HO_36.out).2.1);rintro e w' ⟨rfl,⟨nd,rfl⟩⟩;refine⟨_,rfl,?_⟩)|((with_reducible refine gate_callee (f:=25) rfl ?_);refine goesL_ (some 73) rfl rfl Try.func25 (by kernel_rfl) rfl #[.slice Ao14 t351.length co14,.slice Ao18 t357.length co18] rfl (by (try simp only [mA,mC,mN]);first|done|rfl|(simp only [List.length_drop,List.length_take];done)|(simp only [List.length_drop,List.length_take];rfl)) ?_;(with_reducible refine (spec_HuffSize.calls k1 _ _ t351 _ _ t357 t374 _ ?side1 ?side2 ?side3 ?side4 A41.out).mono ?_);(case side1=>exact kC (Kd.R_reads' HO_18.out).2.2);(case side2=>exact (Kd.R_reads' HO_18.out).2.1);(case side3=>exact kC (Kd.R_reads' HO_21.out).2.2);(case side4=>exact (Kd.R_reads' HO_21.out).2.1);rintro e w' ⟨rfl,⟨nd,rfl⟩⟩;refine⟨_,rfl,?_⟩))
     go_ret
     exact⟨by first|rfl|(simp [errW_none,errW_some] <;> rfl)|(simp [*,errW_none,errW_some] <;> rfl),kB HB.out⟩
    rw [if_neg c43] at H
    have c43b0:decide (t364 < 0) = false:=decide_eq_false c43
    clear c43
    by_cases c45:t365 < 0
    ·rw [if_pos c45] at H
     have c45b0:decide (t365 < 0) = true:=decide_eq_true c45
     clear c45
     by_cases c46:t373 < 0
     ·rw [if_pos c46] at H
      have c46b0:decide (t373 < 0) = true:=decide_eq_true c46
      clear c46
      obtain rfl:=Option.some.inj H
      obtain⟨Ao47,co47,eo47⟩:=Kd.R_slice HO_36.out
      subst eo47
      go_wp2_with (first|((with_reducible refine gate_callee (f:=25) rfl ?_);refine goesL_ (some 69) rfl rfl Try.func25 (by kernel_rfl) rfl #[.slice Ao14 t351.length co14,.slice Ao47 x36_1.length co47] rfl (by (try simp only [mA,mC,mN]);first|done|rfl|(simp only [List.length_drop,List.length_take];done)|(simp only [List.length_drop,List.length_take];rfl)) ?_;(with_reducible refine (spec_HuffSize.calls k1 _ _ t351 _ _ x36_1 t373 _ ?side1 ?side2 ?side3 ?side4 A40.out).mono ?_);(case side1=>exact kC (Kd.R_reads' HO_18.out).2.2);(case side2=>exact (Kd.R_reads' HO_18.out).2.1);(case side3=>exact kC (Kd.R_reads' HO_36.out).2.2);(case side4=>exact (Kd.R_reads' HO_36.out).2.1);rintro e w' ⟨rfl,⟨nd,rfl⟩⟩;refine⟨_,rfl,?_⟩)|((with_reducible refine gate_callee (f:=25) rfl ?_);refine goesL_ (some 73) rfl rfl Try.func25 (by kernel_rfl) rfl #[.slice Ao14 t351.length co14,.slice Ao18 t357.length co18] rfl (by (try simp only [mA,mC,mN]);first|done|rfl|(simp only [List.length_drop,List.length_take];done)|(simp only [List.length_drop,List.length_take];rfl)) ?_;(with_reducible refine (spec_HuffSize.calls k1 _ _ t351 _ _ t357 t374 _ ?side1 ?side2 ?side3 ?side4 A41.out).mono ?_);(case side1=>exact kC (Kd.R_reads' HO_18.out).2.2);(case side2=>exact (Kd.R_reads' HO_18.out).2.1);(case side3=>exact kC (Kd.R_reads' HO_21.out).2.2);(case side4=>exact (Kd.R_reads' HO_21.out).2.1);rintro e w' ⟨rfl,⟨nd,rfl⟩⟩;refine⟨_,rfl,?_⟩))
      go_ret
      exact⟨by first|rfl|(simp [errW_none,errW_some] <;> rfl)|(simp [*,errW_none,errW_some] <;> rfl),kB HB.out⟩
     rw [if_neg c46] at H
     have c46b0:decide (t373 < 0) = false:=decide_eq_false c46
     clear c46
     obtain rfl:=Option.some.inj H
     obtain⟨Ao48,co48,eo48⟩:=Kd.R_slice HO_36.out
     subst eo48
     go_wp2_with (first|((with_reducible refine gate_callee (f:=25) rfl ?_);refine goesL_ (some 69) rfl rfl Try.func25 (by kernel_rfl) rfl #[.slice Ao14 t351.length co14,.slice Ao48 x36_1.length co48] rfl (by (try simp only [mA,mC,mN]);first|done|rfl|(simp only [List.length_drop,List.length_take];done)|(simp only [List.length_drop,List.length_take];rfl)) ?_;(with_reducible refine (spec_HuffSize.calls k1 _ _ t351 _ _ x36_1 t373 _ ?side1 ?side2 ?side3 ?side4 A40.out).mono ?_);(case side1=>exact kC (Kd.R_reads' HO_18.out).2.2);(case side2=>exact (Kd.R_reads' HO_18.out).2.1);(case side3=>exact kC (Kd.R_reads' HO_36.out).2.2);(case side4=>exact (Kd.R_reads' HO_36.out).2.1);rintro e w' ⟨rfl,⟨nd,rfl⟩⟩;refine⟨_,rfl,?_⟩)|((with_reducible refine gate_callee (f:=25) rfl ?_);refine goesL_ (some 73) rfl rfl Try.func25 (by kernel_rfl) rfl #[.slice Ao14 t351.length co14,.slice Ao18 t357.length co18] rfl (by (try simp only [mA,mC,mN]);first|done|rfl|(simp only [List.length_drop,List.length_take];done)|(simp only [List.length_drop,List.length_take];rfl)) ?_;(with_reducible refine (spec_HuffSize.calls k1 _ _ t351 _ _ t357 t374 _ ?side1 ?side2 ?side3 ?side4 A41.out).mono ?_);(case side1=>exact kC (Kd.R_reads' HO_18.out).2.2);(case side2=>exact (Kd.R_reads' HO_18.out).2.1);(case side3=>exact kC (Kd.R_reads' HO_21.out).2.2);(case side4=>exact (Kd.R_reads' HO_21.out).2.1);rintro e w' ⟨rfl,⟨nd,rfl⟩⟩;refine⟨_,rfl,?_⟩))
     go_ret
     exact⟨by first|rfl|(simp [errW_none,errW_some] <;> rfl)|(simp [*,errW_none,errW_some] <;> rfl),kB HB.out⟩
    rw [if_neg c45] at H
    have c45b0:decide (t365 < 0) = false:=decide_eq_false c45
    clear c45
    by_cases c49:t364 ≤ t365
    rotate_left
    ·rw [if_neg c49] at H
     have c49b0:decide (t364 ≤ t365) = false:=decide_eq_false c49
     clear c49
     obtain rfl:=Option.some.inj H
     obtain⟨Ao53,co53,eo53⟩:=Kd.R_slice HO_36.out
     subst eo53
     go_wp2_with (first|((with_reducible refine gate_callee (f:=25) rfl ?_);refine goesL_ (some 69) rfl rfl Try.func25 (by kernel_rfl) rfl #[.slice Ao14 t351.length co14,.slice Ao53 x36_1.length co53] rfl (by (try simp only [mA,mC,mN]);first|done|rfl|(simp only [List.length_drop,List.length_take];done)|(simp only [List.length_drop,List.length_take];rfl)) ?_;(with_reducible refine (spec_HuffSize.calls k1 _ _ t351 _ _ x36_1 t373 _ ?side1 ?side2 ?side3 ?side4 A40.out).mono ?_);(case side1=>exact kC (Kd.R_reads' HO_18.out).2.2);(case side2=>exact (Kd.R_reads' HO_18.out).2.1);(case side3=>exact kC (Kd.R_reads' HO_36.out).2.2);(case side4=>exact (Kd.R_reads' HO_36.out).2.1);rintro e w' ⟨rfl,⟨nd,rfl⟩⟩;refine⟨_,rfl,?_⟩)|((with_reducible refine gate_callee (f:=25) rfl ?_);refine goesL_ (some 73) rfl rfl Try.func25 (by kernel_rfl) rfl #[.slice Ao14 t351.length co14,.slice Ao18 t357.length co18] rfl (by (try simp only [mA,mC,mN]);first|done|rfl|(simp only [List.length_drop,List.length_take];done)|(simp only [List.length_drop,List.length_take];rfl)) ?_;(with_reducible refine (spec_HuffSize.calls k1 _ _ t351 _ _ t357 t374 _ ?side1 ?side2 ?side3 ?side4 A41.out).mono ?_);(case side1=>exact kC (Kd.R_reads' HO_18.out).2.2);(case side2=>exact (Kd.R_reads' HO_18.out).2.1);(case side3=>exact kC (Kd.R_reads' HO_21.out).2.2);(case side4=>exact (Kd.R_reads' HO_21.out).2.1);rintro e w' ⟨rfl,⟨nd,rfl⟩⟩;refine⟨_,rfl,?_⟩))
     go_ret
     exact⟨by first|rfl|(simp [errW_none,errW_some] <;> rfl)|(simp [*,errW_none,errW_some] <;> rfl),kB HB.out⟩
    rw [if_pos c49] at H
    have c49b0:decide (t364 ≤ t365) = true:=decide_eq_true c49
    clear c49
    by_cases c50:t373 < 0
    ·rw [if_pos c50] at H
     have c50b0:decide (t373 < 0) = true:=decide_eq_true c50
     clear c50
     obtain rfl:=Option.some.inj H
     obtain⟨Ao51,co51,eo51⟩:=Kd.R_slice HO_36.out
     subst eo51
     go_wp2_with (first|((with_reducible refine gate_callee (f:=25) rfl ?_);refine goesL_ (some 69) rfl rfl Try.func25 (by kernel_rfl) rfl #[.slice Ao14 t351.length co14,.slice Ao51 x36_1.length co51] rfl (by (try simp only [mA,mC,mN]);first|done|rfl|(simp only [List.length_drop,List.length_take];done)|(simp only [List.length_drop,List.length_take];rfl)) ?_;(with_reducible refine (spec_HuffSize.calls k1 _ _ t351 _ _ x36_1 t373 _ ?side1 ?side2 ?side3 ?side4 A40.out).mono ?_);(case side1=>exact kC (Kd.R_reads' HO_18.out).2.2);(case side2=>exact (Kd.R_reads' HO_18.out).2.1);(case side3=>exact kC (Kd.R_reads' HO_36.out).2.2);(case side4=>exact (Kd.R_reads' HO_36.out).2.1);rintro e w' ⟨rfl,⟨nd,rfl⟩⟩;refine⟨_,rfl,?_⟩)|((with_reducible refine gate_callee (f:=25) rfl ?_);refine goesL_ (some 73) rfl rfl Try.func25 (by kernel_rfl) rfl #[.slice Ao14 t351.length co14,.slice Ao18 t357.length co18] rfl (by (try simp only [mA,mC,mN]);first|done|rfl|(simp only [List.length_drop,List.length_take];done)|(simp only [List.length_drop,List.length_take];rfl)) ?_;(with_reducible refine (spec_HuffSize.calls k1 _ _ t351 _ _ t357 t374 _ ?side1 ?side2 ?side3 ?side4 A41.out).mono ?_);(case side1=>exact kC (Kd.R_reads' HO_18.out).2.2);(case side2=>exact (Kd.R_reads' HO_18.out).2.1);(case side3=>exact kC (Kd.R_reads' HO_21.out).2.2);(case side4=>exact (Kd.R_reads' HO_21.out).2.1);rintro e w' ⟨rfl,⟨nd,rfl⟩⟩;refine⟨_,rfl,?_⟩))
     go_ret
     exact⟨by first|rfl|(simp [errW_none,errW_some] <;> rfl)|(simp [*,errW_none,errW_some] <;> rfl),kB HB.out⟩
    rw [if_neg c50] at H
    have c50b0:decide (t373 < 0) = false:=decide_eq_false c50
    clear c50
    obtain rfl:=Option.some.inj H
    obtain⟨Ao52,co52,eo52⟩:=Kd.R_slice HO_36.out
    subst eo52
    go_wp2_with (first|((with_reducible refine gate_callee (f:=25) rfl ?_);refine goesL_ (some 69) rfl rfl Try.func25 (by kernel_rfl) rfl #[.slice Ao14 t351.length co14,.slice Ao52 x36_1.length co52] rfl (by (try simp only [mA,mC,mN]);first|done|rfl|(simp only [List.length_drop,List.length_take];done)|(simp only [List.length_drop,List.length_take];rfl)) ?_;(with_reducible refine (spec_HuffSize.calls k1 _ _ t351 _ _ x36_1 t373 _ ?side1 ?side2 ?side3 ?side4 A40.out).mono ?_);(case side1=>exact kC (Kd.R_reads' HO_18.out).2.2);(case side2=>exact (Kd.R_reads' HO_18.out).2.1);(case side3=>exact kC (Kd.R_reads' HO_36.out).2.2);(case side4=>exact (Kd.R_reads' HO_36.out).2.1);rintro e w' ⟨rfl,⟨nd,rfl⟩⟩;refine⟨_,rfl,?_⟩)|((with_reducible refine gate_callee (f:=25) rfl ?_);refine goesL_ (some 73) rfl rfl Try.func25 (by kernel_rfl) rfl #[.slice Ao14 t351.length co14,.slice Ao18 t357.length co18] rfl (by (try simp only [mA,mC,mN]);first|done|rfl|(simp only [List.length_drop,List.length_take];done)|(simp only [List.length_drop,List.length_take];rfl)) ?_;(with_reducible refine (spec_HuffSize.calls k1 _ _ t351 _ _ t357 t374 _ ?side1 ?side2 ?side3 ?side4 A41.out).mono ?_);(case side1=>exact kC (Kd.R_reads' HO_18.out).2.2);(case side2=>exact (Kd.R_reads' HO_18.out).2.1);(case side3=>exact kC (Kd.R_reads' HO_21.out).2.2);(case side4=>exact (Kd.R_reads' HO_21.out).2.1);rintro e w' ⟨rfl,⟨nd,rfl⟩⟩;refine⟨_,rfl,?_⟩))
    go_ret
    exact⟨by first|rfl|(simp [errW_none,errW_some] <;> rfl)|(simp [*,errW_none,errW_some] <;> rfl),kB HB.out⟩
   rw [if_pos c23] at H
   have c23b0:decide (x11_1 < (t351.length:Int)) = true:=decide_eq_true c23
   clear c23
   by_cases c24:0 ≤ x11_1
   rotate_left
   ·rw [if_neg c24] at H
    exact absurd H (by simp)
   rw [if_pos c24] at H
   have c24b0:decide (0 ≤ x11_1) = true:=decide_eq_true c24
   clear c24
   by_cases c25:(rd t351 x11_1) > 0
   rotate_left
   ·rw [if_neg c25] at H
    have c25b0:decide (0 < (rd t351 x11_1)) = false:=decide_eq_false c25
    clear c25
    have H':=mk0 H
    clear H
    have p369:0 ≤ (x11_1:Int):=of_decide_eq_true (by first|(with_reducible assumption)|assumption)
    have q369:x11_1 < (t351.length:Int):=of_decide_eq_true (by first|(with_reducible assumption)|assumption)
    obtain⟨ad369,e369,hx369_0⟩:=Kd.at_int (Kd.R_reads' HO_18.out).2.2 x11_1 p369 q369
    cases e369
    replace p369:=eq_true p369
    replace q369:=eq_true q369
    go_wp2
    go_roundg k1
    case measure=>have:=HK1.out;omega
    case rel=>exact⟨(x10_1),(wrap64 (x11_1 + 1)),(x36_1),(by first|rfl|(simp;done)|(simp [*];done)),(by first|rfl|(simp;done)|(simp [*];done)),H',⟨by have:=HK1.out;omega⟩,⟨rR HO_18.out⟩,⟨rR HO_21.out⟩,⟨rR HO_36.out⟩,⟨kB HB.out⟩⟩
   rw [if_pos c25] at H
   have c25b0:decide (0 < (rd t351 x11_1)) = true:=decide_eq_true c25
   clear c25
   by_cases c26:x11_1 < (x36_1.length:Int)
   rotate_left
   ·rw [if_neg c26] at H
    exact absurd H (by simp)
   rw [if_pos c26] at H
   have c26b0:decide (x11_1 < (x36_1.length:Int)) = true:=decide_eq_true c26
   clear c26
   obtain⟨y370,hy370⟩:∃ y_:List Int,y_ = (x36_1.set (x11_1:Int).toNat (wrap64 (x10_1 + 1))):=⟨_,rfl⟩
   replace H:((laws_lastUsed.f k1 t351).bind fun t371=>(if x11_1 = t371 then (if (wrap64 (x10_1 + 1)) > 1 then (laws_FnHuffBest.l0 k1 t364 t365 (wrap64 (x10_1 + 1)) (wrap64 (x11_1 + 1)) t351 t357 (y370.set (x11_1:Int).toNat (wrap64 ((wrap64 (x10_1 + 1)) - 1)))) else (laws_FnHuffBest.l0 k1 t364 t365 (wrap64 (x10_1 + 1)) (wrap64 (x11_1 + 1)) t351 t357 y370)) else (laws_FnHuffBest.l0 k1 t364 t365 (wrap64 (x10_1 + 1)) (wrap64 (x11_1 + 1)) t351 t357 y370))) = some r:=by first|(rw [hy370];with_reducible exact H)|(have H2_:=(Option.bind_some _ _).symm.trans H;rw [hy370];with_reducible exact H2_)|(have H2_:=(Option.bind_some _ _).symm.trans H;with_reducible exact H2_)|with_reducible exact H|(rw [hy370];exact H)|exact H
   have Ny370:=mk0 hy370
   clear hy370
   replace H:=Option.bind_eq_some_iff.mp H
   obtain⟨t371,A280,H⟩:=H
   replace H:(if x11_1 = t371 then (if (wrap64 (x10_1 + 1)) > 1 then (laws_FnHuffBest.l0 k1 t364 t365 (wrap64 (x10_1 + 1)) (wrap64 (x11_1 + 1)) t351 t357 (y370.set (x11_1:Int).toNat (wrap64 ((wrap64 (x10_1 + 1)) - 1)))) else (laws_FnHuffBest.l0 k1 t364 t365 (wrap64 (x10_1 + 1)) (wrap64 (x11_1 + 1)) t351 t357 y370)) else (laws_FnHuffBest.l0 k1 t364 t365 (wrap64 (x10_1 + 1)) (wrap64 (x11_1 + 1)) t351 t357 y370)) = some r:=H
   have A28:=mk0 A280
   clear A280
   by_cases c29:x11_1 = t371
   rotate_left
   ·rw [if_neg c29] at H
    have c29b0:(x11_1 == t371) = false:=beq_eq_false_iff_ne.mpr c29
    have c29b1:(x11_1 != t371) = true:=bne_iff_ne.mpr c29
    have H':=mk0 H
    clear H
    have p369:0 ≤ (x11_1:Int):=of_decide_eq_true (by first|(with_reducible assumption)|assumption)
    have q369:x11_1 < (t351.length:Int):=of_decide_eq_true (by first|(with_reducible assumption)|assumption)
    obtain⟨ad369,e369,hx369_0⟩:=Kd.at_int (Kd.R_reads' HO_18.out).2.2 x11_1 p369 q369
    cases e369
    replace p369:=eq_true p369
    replace q369:=eq_true q369
    have p27:0 ≤ (x11_1:Int):=of_decide_eq_true (by first|(with_reducible assumption)|assumption)
    have q27:(x11_1:Int) < ((x36_1.length:Int):Int):=of_decide_eq_true (by first|(with_reducible assumption)|assumption)
    obtain⟨go27,co27,eo27,gb27,gl27,cl27,HG27⟩:=Kd.R_form HO_36.out (by omega)
    (first|cases eo27|(injection eo27 with ea_ en_ ec_;(first|subst ea_|(injection ea_ with ea_;subst ea_));subst ec_;clear en_))
    have GB27:=mk0 gb27
    have GG27:=mk0 HG27
    clear gb27 gl27 HG27
    obtain⟨hx27_0,hf27_0⟩:=Kd.R_celln 0 HO_36.out (x11_1:Int) p27 q27
    replace p27:=eq_true p27
    replace q27:=eq_true q27
    have HP38:=Kd.R_putg HO_36.out (x11_1:Int) (wrap64 (x10_1 + 1))
    go_wp2_with (first|((with_reducible refine gate_store (t:=3) (p:=53) rfl ?_);refine store_event (t:=3) (p:=53) (v:=?vo_w39) (w1:=(wr.setCell ⟨go27,(x11_1:Int).toNat,none⟩ (.int .i64 (wrap64 (x10_1 + 1))))) ?hg ?ho ?hn ?hr ?_;(case ho=>rfl);(case hg=>rfl);(case hn=>rfl);(case hr=>first|(go_simp;done)|(go_simp;rfl));intro w39 hw;have hg:wr.grownBy w39 (some go27):=(by rw [hw];exact HP38.2);have hp_:Kd.R (Kd.int .i64) 3 w39 w.heap.size (fun k_=>some k_ ≠ (.slice (some ad369) t351.length co14:Value).ownBlock ∧ some k_ ≠ (.slice Ao18 t357.length co18:Value).ownBlock) (.slice (some ⟨go27,0,none⟩) x36_1.length co27) y370:=(by rw [hw,Ny370.out];exact HP38.1);clear HP38;replace HO_18:=mk0 (Kd.R_after (v:=(.slice (some ⟨go27,0,none⟩) x36_1.length co27)) (v1:=(.slice (some ⟨go27,0,none⟩) x36_1.length co27)) (ok:=(fun k_=>some k_ ≠ (.slice Ao18 t357.length co18:Value).ownBlock)) (rR HO_18.out) hg (.inl rfl));replace HO_21:=mk0 (Kd.R_after (v:=(.slice (some ⟨go27,0,none⟩) x36_1.length co27)) (v1:=(.slice (some ⟨go27,0,none⟩) x36_1.length co27)) (ok:=(fun k_=>some k_ ≠ (.slice (some ad369) t351.length co14:Value).ownBlock)) (rR HO_21.out) hg (.inl rfl));replace HO_36:=mk0 (hp_);replace HB:=mk0 ((by rw [hw];exact sZ (HB.out) GB27.out:Below w.heap.size w w39));clear hg hw hp_)|((with_reducible refine gate_callee (f:=26) rfl ?_);refine goesL_ (some 56) rfl rfl Try.func26 (by kernel_rfl) rfl #[.slice (some ad369) t351.length co14] rfl (by (try simp only [mA,mC,mN]);first|done|rfl|(simp only [List.length_drop,List.length_take];done)|(simp only [List.length_drop,List.length_take];rfl)) ?_;(with_reducible refine (laws_lastUsed.calls k1 _ _ t351 t371 _ ?side1 ?side2 A28.out).mono ?_);(case side1=>exact kC (Kd.R_reads' HO_18.out).2.2);(case side2=>exact (Kd.R_reads' HO_18.out).2.1);rintro e w' ⟨rfl,⟨nd,rfl⟩⟩;refine⟨_,rfl,?_⟩))
    go_roundg k1
    case measure=>have:=HK1.out;omega
    case rel=>exact⟨(wrap64 (x10_1 + 1)),(wrap64 (x11_1 + 1)),(y370),(by first|rfl|(simp;done)|(simp [*];done)),(by first|rfl|(simp;done)|(simp [*];done)),H',⟨by have:=HK1.out;omega⟩,⟨rR HO_18.out⟩,⟨rR HO_21.out⟩,⟨rR HO_36.out⟩,⟨kB HB.out⟩⟩
   rw [if_pos c29] at H
   have c29b0:(x11_1 == t371) = true:=beq_iff_eq.mpr c29
   have c29b1:(x11_1 != t371) = false:=bne_eq_false_iff_eq.mpr c29
   clear c29
   by_cases c30:(wrap64 (x10_1 + 1)) > 1
   rotate_left
   ·rw [if_neg c30] at H
    have c30b0:decide (1 < (wrap64 (x10_1 + 1))) = false:=decide_eq_false c30
    clear c30
    have H':=mk0 H
    clear H
    have p369:0 ≤ (x11_1:Int):=of_decide_eq_true (by first|(with_reducible assumption)|assumption)
    have q369:x11_1 < (t351.length:Int):=of_decide_eq_true (by first|(with_reducible assumption)|assumption)
    obtain⟨ad369,e369,hx369_0⟩:=Kd.at_int (Kd.R_reads' HO_18.out).2.2 x11_1 p369 q369
    cases e369
    replace p369:=eq_true p369
    replace q369:=eq_true q369
    have p27:0 ≤ (x11_1:Int):=of_decide_eq_true (by first|(with_reducible assumption)|assumption)
    have q27:(x11_1:Int) < ((x36_1.length:Int):Int):=of_decide_eq_true (by first|(with_reducible assumption)|assumption)
    obtain⟨go27,co27,eo27,gb27,gl27,cl27,HG27⟩:=Kd.R_form HO_36.out (by omega)
    (first|cases eo27|(injection eo27 with ea_ en_ ec_;(first|subst ea_|(injection ea_ with ea_;subst ea_));subst ec_;clear en_))
    have GB27:=mk0 gb27
    have GG27:=mk0 HG27
    clear gb27 gl27 HG27
    obtain⟨hx27_0,hf27_0⟩:=Kd.R_celln 0 HO_36.out (x11_1:Int) p27 q27
    replace p27:=eq_true p27
    replace q27:=eq_true q27
    have HP36:=Kd.R_putg HO_36.out (x11_1:Int) (wrap64 (x10_1 + 1))
    go_wp2_with (first|((with_reducible refine gate_store (t:=3) (p:=53) rfl ?_);refine store_event (t:=3) (p:=53) (v:=?vo_w37) (w1:=(wr.setCell ⟨go27,(x11_1:Int).toNat,none⟩ (.int .i64 (wrap64 (x10_1 + 1))))) ?hg ?ho ?hn ?hr ?_;(case ho=>rfl);(case hg=>rfl);(case hn=>rfl);(case hr=>first|(go_simp;done)|(go_simp;rfl));intro w37 hw;have hg:wr.grownBy w37 (some go27):=(by rw [hw];exact HP36.2);have hp_:Kd.R (Kd.int .i64) 3 w37 w.heap.size (fun k_=>some k_ ≠ (.slice (some ad369) t351.length co14:Value).ownBlock ∧ some k_ ≠ (.slice Ao18 t357.length co18:Value).ownBlock) (.slice (some ⟨go27,0,none⟩) x36_1.length co27) y370:=(by rw [hw,Ny370.out];exact HP36.1);clear HP36;replace HO_18:=mk0 (Kd.R_after (v:=(.slice (some ⟨go27,0,none⟩) x36_1.length co27)) (v1:=(.slice (some ⟨go27,0,none⟩) x36_1.length co27)) (ok:=(fun k_=>some k_ ≠ (.slice Ao18 t357.length co18:Value).ownBlock)) (rR HO_18.out) hg (.inl rfl));replace HO_21:=mk0 (Kd.R_after (v:=(.slice (some ⟨go27,0,none⟩) x36_1.length co27)) (v1:=(.slice (some ⟨go27,0,none⟩) x36_1.length co27)) (ok:=(fun k_=>some k_ ≠ (.slice (some ad369) t351.length co14:Value).ownBlock)) (rR HO_21.out) hg (.inl rfl));replace HO_36:=mk0 (hp_);replace HB:=mk0 ((by rw [hw];exact sZ (HB.out) GB27.out:Below w.heap.size w w37));clear hg hw hp_)|((with_reducible refine gate_callee (f:=26) rfl ?_);refine goesL_ (some 56) rfl rfl Try.func26 (by kernel_rfl) rfl #[.slice (some ad369) t351.length co14] rfl (by (try simp only [mA,mC,mN]);first|done|rfl|(simp only [List.length_drop,List.length_take];done)|(simp only [List.length_drop,List.length_take];rfl)) ?_;(with_reducible refine (laws_lastUsed.calls k1 _ _ t351 t371 _ ?side1 ?side2 A28.out).mono ?_);(case side1=>exact kC (Kd.R_reads' HO_18.out).2.2);(case side2=>exact (Kd.R_reads' HO_18.out).2.1);rintro e w' ⟨rfl,⟨nd,rfl⟩⟩;refine⟨_,rfl,?_⟩))
    go_roundg k1
    case measure=>have:=HK1.out;omega
    case rel=>exact⟨(wrap64 (x10_1 + 1)),(wrap64 (x11_1 + 1)),(y370),(by first|rfl|(simp;done)|(simp [*];done)),(by first|rfl|(simp;done)|(simp [*];done)),H',⟨by have:=HK1.out;omega⟩,⟨rR HO_18.out⟩,⟨rR HO_21.out⟩,⟨rR HO_36.out⟩,⟨kB HB.out⟩⟩
   rw [if_pos c30] at H
   have c30b0:decide (1 < (wrap64 (x10_1 + 1))) = true:=decide_eq_true c30
   clear c30
   obtain⟨y372,hy372⟩:∃ y_:List Int,y_ = (y370.set (x11_1:Int).toNat (wrap64 ((wrap64 (x10_1 + 1)) - 1))):=⟨_,rfl⟩
   replace H:(laws_FnHuffBest.l0 k1 t364 t365 (wrap64 (x10_1 + 1)) (wrap64 (x11_1 + 1)) t351 t357 y372) = some r:=by first|(rw [hy372];with_reducible exact H)|(have H2_:=(Option.bind_some _ _).symm.trans H;rw [hy372];with_reducible exact H2_)|(have H2_:=(Option.bind_some _ _).symm.trans H;with_reducible exact H2_)|with_reducible exact H|(rw [hy372];exact H)|exact H
   have Ny372:=mk0 hy372
   clear hy372
   have H':=mk0 H
   clear H
   have p369:0 ≤ (x11_1:Int):=of_decide_eq_true (by first|(with_reducible assumption)|assumption)
   have q369:x11_1 < (t351.length:Int):=of_decide_eq_true (by first|(with_reducible assumption)|assumption)
   obtain⟨ad369,e369,hx369_0⟩:=Kd.at_int (Kd.R_reads' HO_18.out).2.2 x11_1 p369 q369
   cases e369
   replace p369:=eq_true p369
   replace q369:=eq_true q369
   have p27:0 ≤ (x11_1:Int):=of_decide_eq_true (by first|(with_reducible assumption)|assumption)
   have q27:(x11_1:Int) < ((x36_1.length:Int):Int):=of_decide_eq_true (by first|(with_reducible assumption)|assumption)
   obtain⟨go27,co27,eo27,gb27,gl27,cl27,HG27⟩:=Kd.R_form HO_36.out (by omega)
   (first|cases eo27|(injection eo27 with ea_ en_ ec_;(first|subst ea_|(injection ea_ with ea_;subst ea_));subst ec_;clear en_))
   have GB27:=mk0 gb27
   have GG27:=mk0 HG27
   clear gb27 gl27 HG27
   obtain⟨hx27_0,hf27_0⟩:=Kd.R_celln 0 HO_36.out (x11_1:Int) p27 q27
   replace p27:=eq_true p27
   replace q27:=eq_true q27
   have HP32:=Kd.R_putg HO_36.out (x11_1:Int) (wrap64 (x10_1 + 1))
   go_wp2_with (first|((with_reducible refine gate_store (t:=3) (p:=53) rfl ?_);refine store_event (t:=3) (p:=53) (v:=?vo_w33) (w1:=(wr.setCell ⟨go27,(x11_1:Int).toNat,none⟩ (.int .i64 (wrap64 (x10_1 + 1))))) ?hg ?ho ?hn ?hr ?_;(case ho=>rfl);(case hg=>rfl);(case hn=>rfl);(case hr=>first|(go_simp;done)|(go_simp;rfl));intro w33 hw;have hg:wr.grownBy w33 (some go27):=(by rw [hw];exact HP32.2);have hp_:Kd.R (Kd.int .i64) 3 w33 w.heap.size (fun k_=>some k_ ≠ (.slice (some ad369) t351.length co14:Value).ownBlock ∧ some k_ ≠ (.slice Ao18 t357.length co18:Value).ownBlock) (.slice (some ⟨go27,0,none⟩) x36_1.length co27) y370:=(by rw [hw,Ny370.out];exact HP32.1);clear HP32;replace HO_18:=mk0 (Kd.R_after (v:=(.slice (some ⟨go27,0,none⟩) x36_1.length co27)) (v1:=(.slice (some ⟨go27,0,none⟩) x36_1.length co27)) (ok:=(fun k_=>some k_ ≠ (.slice Ao18 t357.length co18:Value).ownBlock)) (rR HO_18.out) hg (.inl rfl));replace HO_21:=mk0 (Kd.R_after (v:=(.slice (some ⟨go27,0,none⟩) x36_1.length co27)) (v1:=(.slice (some ⟨go27,0,none⟩) x36_1.length co27)) (ok:=(fun k_=>some k_ ≠ (.slice (some ad369) t351.length co14:Value).ownBlock)) (rR HO_21.out) hg (.inl rfl));replace HO_36:=mk0 (hp_);replace HB:=mk0 ((by rw [hw];exact sZ (HB.out) GB27.out:Below w.heap.size w w33));clear hg hw hp_)|((with_reducible refine gate_callee (f:=26) rfl ?_);refine goesL_ (some 56) rfl rfl Try.func26 (by kernel_rfl) rfl #[.slice (some ad369) t351.length co14] rfl (by (try simp only [mA,mC,mN]);first|done|rfl|(simp only [List.length_drop,List.length_take];done)|(simp only [List.length_drop,List.length_take];rfl)) ?_;(with_reducible refine (laws_lastUsed.calls k1 _ _ t351 t371 _ ?side1 ?side2 A28.out).mono ?_);(case side1=>exact kC (Kd.R_reads' HO_18.out).2.2);(case side2=>exact (Kd.R_reads' HO_18.out).2.1);rintro e w' ⟨rfl,⟨nd,rfl⟩⟩;refine⟨_,rfl,?_⟩;(try (rw [drewN_self w33];generalize hq_:World.drewN w33 _ = w33;have n0_:Aside0 (Kd.R (Kd.int .i64) 3 w33 w.heap.size (fun k_=>some k_ ≠ (.slice Ao18 t357.length co18:Value).ownBlock ∧ some k_ ≠ (.slice (some ⟨go27,0,none⟩) x36_1.length co27:Value).ownBlock) (.slice (some ad369) t351.length co14) t351):=⟨by rw [← hq_];exact (rR HO_18.out)⟩;have n1_:Aside0 (Kd.R (Kd.int .i64) 3 w33 w.heap.size (fun k_=>some k_ ≠ (.slice (some ad369) t351.length co14:Value).ownBlock ∧ some k_ ≠ (.slice (some ⟨go27,0,none⟩) x36_1.length co27:Value).ownBlock) (.slice Ao18 t357.length co18) t357):=⟨by rw [← hq_];exact (rR HO_21.out)⟩;have n2_:Aside0 (Kd.R (Kd.int .i64) 3 w33 w.heap.size (fun k_=>some k_ ≠ (.slice (some ad369) t351.length co14:Value).ownBlock ∧ some k_ ≠ (.slice Ao18 t357.length co18:Value).ownBlock) (.slice (some ⟨go27,0,none⟩) x36_1.length co27) y370):=⟨by rw [← hq_];exact (rR HO_36.out)⟩;have n3_:Aside0 (Below w.heap.size w w33):=⟨by rw [← hq_];exact (kB HB.out)⟩;clear HO_18 HO_21 HO_36 HB hq_;have HO_18:=n0_;have HO_21:=n1_;have HO_36:=n2_;have HB:=n3_;clear n0_ n1_ n2_ n3_));have p31:0 ≤ (x11_1:Int):=of_decide_eq_true (by first|(with_reducible assumption)|assumption);have q31:(x11_1:Int) < ((x36_1.length:Int):Int):=of_decide_eq_true (by first|(with_reducible assumption)|assumption);obtain⟨hx31_0,hf31_0⟩:=Kd.R_celln 0 HO_36.out (x11_1:Int) p31 q31;replace p31:=eq_true p31;replace q31:=eq_true q31;obtain⟨hy34_,hz34_⟩:=Kd.R_celln 0 HO_36.out (x11_1:Int) (of_decide_eq_true (by first|(with_reducible assumption)|assumption)) (of_decide_eq_true (by first|(with_reducible assumption)|assumption));have HP34:=Kd.R_putg HO_36.out (x11_1:Int) (wrap64 ((wrap64 (x10_1 + 1)) - 1)))|((with_reducible refine gate_store (t:=3) (p:=66) rfl ?_);refine store_event (t:=3) (p:=66) (v:=?vo_w35) (w1:=(w33.setCell ⟨go27,(x11_1:Int).toNat,none⟩ (.int .i64 (wrap64 ((wrap64 (x10_1 + 1)) - 1))))) ?hg ?ho ?hn ?hr ?_;(case ho=>rfl);(case hg=>rfl);(case hn=>rfl);(case hr=>first|(go_simp;done)|(go_simp;rfl));intro w35 hw;have hg:w33.grownBy w35 (some go27):=(by rw [hw];exact HP34.2);have hp_:Kd.R (Kd.int .i64) 3 w35 w.heap.size (fun k_=>some k_ ≠ (.slice (some ad369) t351.length co14:Value).ownBlock ∧ some k_ ≠ (.slice Ao18 t357.length co18:Value).ownBlock) (.slice (some ⟨go27,0,none⟩) x36_1.length co27) y372:=(by rw [hw,Ny372.out];exact HP34.1);clear HP34;replace HO_18:=mk0 (Kd.R_after (v:=(.slice (some ⟨go27,0,none⟩) x36_1.length co27)) (v1:=(.slice (some ⟨go27,0,none⟩) x36_1.length co27)) (ok:=(fun k_=>some k_ ≠ (.slice Ao18 t357.length co18:Value).ownBlock)) (rR HO_18.out) hg (.inl rfl));replace HO_21:=mk0 (Kd.R_after (v:=(.slice (some ⟨go27,0,none⟩) x36_1.length co27)) (v1:=(.slice (some ⟨go27,0,none⟩) x36_1.length co27)) (ok:=(fun k_=>some k_ ≠ (.slice (some ad369) t351.length co14:Value).ownBlock)) (rR HO_21.out) hg (.inl rfl));replace HO_36:=mk0 (hp_);replace HB:=mk0 ((by rw [hw];exact sZ (HB.out) GB27.out:Below w.heap.size w w35));clear hg hw hp_))
   go_roundg k1
   case measure=>have:=HK1.out;omega
   case rel=>exact⟨(wrap64 (x10_1 + 1)),(wrap64 (x11_1 + 1)),(y372),(by first|rfl|(simp;done)|(simp [*];done)),(by first|rfl|(simp;done)|(simp [*];done)),H',⟨by have:=HK1.out;omega⟩,⟨rR HO_18.out⟩,⟨rR HO_21.out⟩,⟨rR HO_36.out⟩,⟨kB HB.out⟩⟩
/-- THE ONE PURE STATEMENT of laws_FnHuffBest: yours. -/
def laws_FnHuffBest.Pure : Prop := ∀ (l0 : List Int), l0.length ≤ maxLen → l0.length * 1 ≤ 140737488351232 → (∀ x ∈ l0, (Lit.int .u8 x).wf = true) → ∃ k, laws_FnHuffBest.f k l0 = some true
theorem laws_FnHuffBest.walk (P : laws_FnHuffBest.Pure) (a0 : Option Addr) (len0 cap0 : Nat) (z0 : List Int) (w : World) (w0 : (a0 = none ∧ len0 = 0 ∧ cap0 = 0 ∧ z0 = []) ∨ ∃ x, a0 = some x ∧ len0 ≤ cap0 ∧ cap0 ≤ maxLen ∧ z0.length = cap0 ∧ (∀ i, i < z0.length → w.cell? (x.add i) = some (.int .u8 (z0.getD i 0))) ∧ ∀ n ∈ z0, (Lit.int .u8 n).wf = true) (y0 : len0 * 1 ≤ 140737488351232) :
    Calls Try.prog 5 #[.slice a0 len0 cap0] w fun e w' => e = .returned (.bool true) ∧ Below w.heap.size w w' := by
  obtain ⟨l0, rfl, hr0, hm0, hw0, hc0⟩ := ReadsInt.ofRowC w0
  obtain ⟨k, h⟩ := P l0 hm0 y0 hw0
  refine (laws_FnHuffBest.calls k _ _ l0 true w (Kd.C_of_reads (d := (0 : Int)) (h1 := fun _ => rfl) hr0) hc0 h).mono ?_
  rintro e w' ⟨rfl, hd⟩
  exact ⟨rfl, hd⟩

end Go.Proofs.Ytgjmmegmkdklbaa.QFnHuffBest
