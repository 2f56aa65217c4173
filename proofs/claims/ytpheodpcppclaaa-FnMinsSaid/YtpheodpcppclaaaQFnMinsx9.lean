-- A walk, made by walk.py, a program of this session's.
import Derived.Test.YtpheodpcppclaaaQFnMinsx0
import Derived.Test.YtpheodpcppclaaaQFnMinsx7
import Derived.Test.YtpheodpcppclaaaQFnMinsx8
namespace Go.Proofs.Ytpheodpcppclaaa.QFnMins
open Go.RowKit Go.Proofs.YtpheodpcppclaaaW.PrintWords Go.Proofs.YtpheodpcppclaaaW.PrintLast Go.Proofs.YtpheodpcppclaaaW.PrintMore
attribute [local go_sem] max2_int min2_int max_two min_two max_three min_three max_four min_four   -- for this text's walks alone
set_option linter.unusedVariables false
set_option linter.unusedSimpArgs false

/-! ### spec_l01Cur_once: function 61 -/
def spec_l01Cur_once.f (s0_0 : List Int) (s0_1 : Int) (s0_2 : Int) (a1 : Int) : Option (Bool × Int × Int) := (spec_l01Cur_pick.f s0_0 s0_1 s0_2 a1).bind fun bt326 => (some ((bt326.1 == (wrap64 (a1 - 1))), bt326.2.1, bt326.2.2))
set_option maxHeartbeats 8000000 in
set_option maxRecDepth 100000 in
theorem spec_l01Cur_once.calls (g : Nat) (s0_0 : List Int) (s0_1 : Int) (s0_2 : Int) (a1 : Int) (r1 : Bool) (r2 : Int) (r3 : Int) (w0 w : World) (hI : IsS62 w0 w g s0_0 s0_1 s0_2) (hB : Below w0.heap.size w0 w) (h : spec_l01Cur_once.f s0_0 s0_1 s0_2 a1 = some (r1, r2, r3)) :
  Calls Try.prog 61 #[.pointer (some ⟨g, 0, none⟩), .int .i64 a1] w fun e w' => e = .returned (.bool r1) ∧ IsS62 w0 w' g s0_0 r2 r3 ∧ Below w0.heap.size w0 w' ∧ KeepBut w w' g none := by
 have HI0:=mk0 hI
 have HK:=mk0 (KeepBut.refl w g none)
 have HL:=mk0 hB.size
 clear hI
 have HW0:=mk0 hB.size
 have HB:=mk0 hB
 clear hB
 have H:((spec_l01Cur_pick.f s0_0 s0_1 s0_2 a1).bind fun bt326=>(some ((bt326.1 == (wrap64 (a1 - 1))),bt326.2.1,bt326.2.2))) = some (r1,r2,r3):=h
 clear h
 replace H:=Option.bind_eq_some_iff.mp H
 obtain⟨⟨t326,t327,t328⟩,A30,H⟩:=H
 replace H:(some ((t326 == (wrap64 (a1 - 1))),t327,t328)) = some (r1,r2,r3):=H
 have A3:=mk0 A30
 clear A30
 simp only [Option.some.injEq,Prod.mk.injEq] at H
 obtain⟨rfl,rfl,rfl⟩:=H
 go_enter Try.func61,Try.ntmps61
 go_wp2_with (first|((with_reducible refine gate_callee (f:=52) rfl ?_);refine goesL_ (some 7) rfl rfl Try.func52 (by kernel_rfl) rfl #[.pointer (some ⟨g,0,none⟩),.int .i64 a1] rfl (by (try simp only [mA,mC,mN]);first|done|rfl|(simp only [List.length_drop,List.length_take];rfl)) ?_;(with_reducible refine (spec_l01Cur_pick.calls g s0_0 s0_1 s0_2 a1 t326 t327 t328 w0 _ ?side1 ?side2 A3.out).mono ?_);(case side1=>repeat (first|(with_reducible first|exact HI0.out|apply IsS62.alloc|apply IsS62.drewN|apply IsS62.drew|apply IsS62.set_1|apply IsS62.set_2)|exact HI0.out));(case side2=>repeat (first|(with_reducible first|exact HB.out|apply aZ|apply nZ|apply dZ|refine sZ ?_ (IsS62.ge HI0.out))|exact HB.out));rintro e w4 ⟨rfl,hi,hb,hk⟩;refine⟨_,rfl,?_⟩;have n0_:=mk0 (KeepBut.trans (by repeat (first|(with_reducible first|exact HK.out|apply KeepBut.set_|apply keep_drewN|apply keep_drew|apply keep_alloc)|exact HK.out)) hk (.inl rfl));have n1_:=mk0 (hb);have n2_:=mk0 (hi);clear HK HB HI0;have HK:=n0_;have HB:=n1_;have HI0:=n2_;clear n0_ n1_ n2_;(try clear hb);(try clear hb2);(try clear hk);(try clear hi)))
 go_ret
 exact⟨by first|rfl|(simp [errW_none,errW_some] <;> rfl)|(simp [*,errW_none,errW_some] <;> rfl),by repeat (first|(with_reducible first|exact HI0.out|apply IsS62.alloc|apply IsS62.drewN|apply IsS62.drew|apply IsS62.set_1|apply IsS62.set_2)|exact HI0.out),by repeat (first|(with_reducible first|exact HB.out|apply aZ|apply nZ|apply dZ|refine sZ ?_ (IsS62.ge HI0.out))|exact HB.out),by repeat (first|(with_reducible first|exact HK.out|apply KeepBut.set_|apply keep_drewN|apply keep_drew|apply keep_alloc)|exact HK.out)⟩

/-! ### spec_l01Cur_spanIn: function 54 -/
def spec_l01Cur_spanIn.f (s0_0 : List Int) (s0_1 : Int) (s0_2 : Int) (a1 : Int) : Option (Int × Int × Int × Int) := (spec_l01Cur_once.f s0_0 s0_1 s0_2 9).bind fun bt329 => (if bt329.1 = true then ((spec_l01Cur_raw.f s0_0 bt329.2.1 bt329.2.2).bind fun bt332 => ((spec_l01Cur_raw.f s0_0 bt332.2.1 bt332.2.2).bind fun bt335 => (some (bt332.1, bt335.1, bt335.2.1, bt335.2.2)))) else ((spec_l01Cur_pick.f s0_0 bt329.2.1 bt329.2.2 (mx 1 (wrap64 (a1 + 1)))).bind fun bt338 => ((spec_l01Cur_pick.f s0_0 bt338.2.1 bt338.2.2 (mx 1 (wrap64 ((wrap64 (a1 - bt338.1)) + 1)))).bind fun bt341 => (some (bt338.1, wrap64 (bt338.1 + bt341.1), bt341.2.1, bt341.2.2)))))
set_option maxHeartbeats 8000000 in
set_option maxRecDepth 100000 in
theorem spec_l01Cur_spanIn.calls (g : Nat) (s0_0 : List Int) (s0_1 : Int) (s0_2 : Int) (a1 : Int) (r1 : Int) (r2 : Int) (r3 : Int) (r4 : Int) (w0 w : World) (hI : IsS62 w0 w g s0_0 s0_1 s0_2) (hB : Below w0.heap.size w0 w) (h : spec_l01Cur_spanIn.f s0_0 s0_1 s0_2 a1 = some (r1, r2, r3, r4)) :
  Calls Try.prog 54 #[.pointer (some ⟨g, 0, none⟩), .int .i64 a1] w fun e w' => e = .returned (.tuple #[.int .i64 r1, .int .i64 r2]) ∧ IsS62 w0 w' g s0_0 r3 r4 ∧ Below w0.heap.size w0 w' ∧ KeepBut w w' g none := by
 have HI0:=mk0 hI
 have HK:=mk0 (KeepBut.refl w g none)
 have HL:=mk0 hB.size
 clear hI
 have HW0:=mk0 hB.size
 have HB:=mk0 hB
 clear hB
 have H:((spec_l01Cur_once.f s0_0 s0_1 s0_2 9).bind fun bt329=>(if bt329.1 = true then ((spec_l01Cur_raw.f s0_0 bt329.2.1 bt329.2.2).bind fun bt332=>((spec_l01Cur_raw.f s0_0 bt332.2.1 bt332.2.2).bind fun bt335=>(some (bt332.1,bt335.1,bt335.2.1,bt335.2.2)))) else ((spec_l01Cur_pick.f s0_0 bt329.2.1 bt329.2.2 (mx 1 (wrap64 (a1 + 1)))).bind fun bt338=>((spec_l01Cur_pick.f s0_0 bt338.2.1 bt338.2.2 (mx 1 (wrap64 ((wrap64 (a1 - bt338.1)) + 1)))).bind fun bt341=>(some (bt338.1,wrap64 (bt338.1 + bt341.1),bt341.2.1,bt341.2.2)))))) = some (r1,r2,r3,r4):=h
 clear h
 replace H:=Option.bind_eq_some_iff.mp H
 obtain⟨⟨t329,t330,t331⟩,A30,H⟩:=H
 replace H:(if t329 = true then ((spec_l01Cur_raw.f s0_0 t330 t331).bind fun bt332=>((spec_l01Cur_raw.f s0_0 bt332.2.1 bt332.2.2).bind fun bt335=>(some (bt332.1,bt335.1,bt335.2.1,bt335.2.2)))) else ((spec_l01Cur_pick.f s0_0 t330 t331 (mx 1 (wrap64 (a1 + 1)))).bind fun bt338=>((spec_l01Cur_pick.f s0_0 bt338.2.1 bt338.2.2 (mx 1 (wrap64 ((wrap64 (a1 - bt338.1)) + 1)))).bind fun bt341=>(some (bt338.1,wrap64 (bt338.1 + bt341.1),bt341.2.1,bt341.2.2))))) = some (r1,r2,r3,r4):=H
 have A3:=mk0 A30
 clear A30
 by_cases c4:t329 = true
 ·subst c4
  have H1:((spec_l01Cur_raw.f s0_0 t330 t331).bind fun bt332=>((spec_l01Cur_raw.f s0_0 bt332.2.1 bt332.2.2).bind fun bt335=>(some (bt332.1,bt335.1,bt335.2.1,bt335.2.2)))) = some (r1,r2,r3,r4):=by rw [if_pos rfl] at H;exact H
  clear H
  have H:=H1
  clear H1
  replace H:=Option.bind_eq_some_iff.mp H
  obtain⟨⟨t332,t333,t334⟩,A50,H⟩:=H
  replace H:((spec_l01Cur_raw.f s0_0 t333 t334).bind fun bt335=>(some (t332,bt335.1,bt335.2.1,bt335.2.2))) = some (r1,r2,r3,r4):=H
  have A5:=mk0 A50
  clear A50
  replace H:=Option.bind_eq_some_iff.mp H
  obtain⟨⟨t335,t336,t337⟩,A60,H⟩:=H
  replace H:(some (t332,t335,t336,t337)) = some (r1,r2,r3,r4):=H
  have A6:=mk0 A60
  clear A60
  simp only [Option.some.injEq,Prod.mk.injEq] at H
  obtain⟨rfl,rfl,rfl,rfl⟩:=H
  go_enter Try.func54,Try.ntmps54
  go_wp2_with (first|((with_reducible refine gate_callee (f:=61) rfl ?_);refine goesL_ (some 8) rfl rfl Try.func61 (by kernel_rfl) rfl #[.pointer (some ⟨g,0,none⟩),.int .i64 9] rfl (by (try simp only [mA,mC,mN]);first|done|rfl|(simp only [List.length_drop,List.length_take];rfl)) ?_;(with_reducible refine (spec_l01Cur_once.calls g s0_0 s0_1 s0_2 9 true t330 t331 w0 _ ?side1 ?side2 A3.out).mono ?_);(case side1=>repeat (first|(with_reducible first|exact HI0.out|apply IsS62.alloc|apply IsS62.drewN|apply IsS62.drew|apply IsS62.set_1|apply IsS62.set_2)|exact HI0.out));(case side2=>repeat (first|(with_reducible first|exact HB.out|apply aZ|apply nZ|apply dZ|refine sZ ?_ (IsS62.ge HI0.out))|exact HB.out));rintro e w7 ⟨rfl,hi,hb,hk⟩;refine⟨_,rfl,?_⟩;have n0_:=mk0 (KeepBut.trans (by repeat (first|(with_reducible first|exact HK.out|apply KeepBut.set_|apply keep_drewN|apply keep_drew|apply keep_alloc)|exact HK.out)) hk (.inl rfl));have n1_:=mk0 (hb);have n2_:=mk0 (hi);clear HK HB HI0;have HK:=n0_;have HB:=n1_;have HI0:=n2_;clear n0_ n1_ n2_;(try clear hb);(try clear hb2);(try clear hk);(try clear hi))|((with_reducible refine gate_callee (f:=53) rfl ?_);refine goesL_ (some 10) rfl rfl Try.func53 (by kernel_rfl) rfl #[.pointer (some ⟨g,0,none⟩)] rfl (by (try simp only [mA,mC,mN]);first|done|rfl|(simp only [List.length_drop,List.length_take];rfl)) ?_;(with_reducible refine (spec_l01Cur_raw.calls g s0_0 t330 t331 t332 t333 t334 w0 _ ?side1 ?side2 A5.out).mono ?_);(case side1=>repeat (first|(with_reducible first|exact HI0.out|apply IsS62.alloc|apply IsS62.drewN|apply IsS62.drew|apply IsS62.set_1|apply IsS62.set_2)|exact HI0.out));(case side2=>repeat (first|(with_reducible first|exact HB.out|apply aZ|apply nZ|apply dZ|refine sZ ?_ (IsS62.ge HI0.out))|exact HB.out));rintro e w8 ⟨rfl,hi,hb,hk⟩;refine⟨_,rfl,?_⟩;have n0_:=mk0 (KeepBut.trans (by repeat (first|(with_reducible first|exact HK.out|apply KeepBut.set_|apply keep_drewN|apply keep_drew|apply keep_alloc)|exact HK.out)) hk (.inl rfl));have n1_:=mk0 (hb);have n2_:=mk0 (hi);clear HK HB HI0;have HK:=n0_;have HB:=n1_;have HI0:=n2_;clear n0_ n1_ n2_;(try clear hb);(try clear hb2);(try clear hk);(try clear hi))|((with_reducible refine gate_callee (f:=53) rfl ?_);refine goesL_ (some 12) rfl rfl Try.func53 (by kernel_rfl) rfl #[.pointer (some ⟨g,0,none⟩)] rfl (by (try simp only [mA,mC,mN]);first|done|rfl|(simp only [List.length_drop,List.length_take];rfl)) ?_;(with_reducible refine (spec_l01Cur_raw.calls g s0_0 t333 t334 t335 t336 t337 w0 _ ?side1 ?side2 A6.out).mono ?_);(case side1=>repeat (first|(with_reducible first|exact HI0.out|apply IsS62.alloc|apply IsS62.drewN|apply IsS62.drew|apply IsS62.set_1|apply IsS62.set_2)|exact HI0.out));(case side2=>repeat (first|(with_reducible first|exact HB.out|apply aZ|apply nZ|apply dZ|refine sZ ?_ (IsS62.ge HI0.out))|exact HB.out));rintro e w9 ⟨rfl,hi,hb,hk⟩;refine⟨_,rfl,?_⟩;have n0_:=mk0 (KeepBut.trans (by repeat (first|(with_reducible first|exact HK.out|apply KeepBut.set_|apply keep_drewN|apply keep_drew|apply keep_alloc)|exact HK.out)) hk (.inl rfl));have n1_:=mk0 (hb);have n2_:=mk0 (hi);clear HK HB HI0;have HK:=n0_;have HB:=n1_;have HI0:=n2_;clear n0_ n1_ n2_;(try clear hb);(try clear hb2);(try clear hk);(try clear hi)))
  go_ret2
  exact⟨by first|rfl|(simp [errW_none,errW_some] <;> rfl)|(simp [*,errW_none,errW_some] <;> rfl),by repeat (first|(with_reducible first|exact HI0.out|apply IsS62.alloc|apply IsS62.drewN|apply IsS62.drew|apply IsS62.set_1|apply IsS62.set_2)|exact HI0.out),by repeat (first|(with_reducible first|exact HB.out|apply aZ|apply nZ|apply dZ|refine sZ ?_ (IsS62.ge HI0.out))|exact HB.out),by repeat (first|(with_reducible first|exact HK.out|apply KeepBut.set_|apply keep_drewN|apply keep_drew|apply keep_alloc)|exact HK.out)⟩
 ·replace c4:=Bool.eq_false_iff.mpr c4
  subst c4
  have H1:((spec_l01Cur_pick.f s0_0 t330 t331 (mx 1 (wrap64 (a1 + 1)))).bind fun bt338=>((spec_l01Cur_pick.f s0_0 bt338.2.1 bt338.2.2 (mx 1 (wrap64 ((wrap64 (a1 - bt338.1)) + 1)))).bind fun bt341=>(some (bt338.1,wrap64 (bt338.1 + bt341.1),bt341.2.1,bt341.2.2)))) = some (r1,r2,r3,r4):=by rw [if_neg (show ¬ (false = true) by decide)] at H;exact H
  clear H
  have H:=H1
  clear H1
  obtain⟨ji10,hji10⟩:∃ j_:Int,(mx 1 (wrap64 (a1 + 1))) = j_:=⟨_,rfl⟩
  replace H:((spec_l01Cur_pick.f s0_0 t330 t331 (ji10)).bind fun bt338=>((spec_l01Cur_pick.f s0_0 bt338.2.1 bt338.2.2 (mx 1 (wrap64 ((wrap64 (a1 - bt338.1)) + 1)))).bind fun bt341=>(some (bt338.1,wrap64 (bt338.1 + bt341.1),bt341.2.1,bt341.2.2)))) = some (r1,r2,r3,r4):=by first|(rw [hji10] at H;exact H)|(simp only [hji10] at H ⊢;exact H)
  (try rw [hji10] at A3)
  (try (have hji10l:1 ≤ ji10:=by (rw [← hji10];unfold mx;(repeat' split) <;> omega)))
  (try (have hji10m:0 ≤ ji10:=by omega))
  have hji10_:(if 1 < (wrap64 (a1 + 1)) then (wrap64 (a1 + 1)) else 1) = ji10:=hji10
  replace H:=Option.bind_eq_some_iff.mp H
  obtain⟨⟨t338,t339,t340⟩,A110,H⟩:=H
  replace H:((spec_l01Cur_pick.f s0_0 t339 t340 (mx 1 (wrap64 ((wrap64 (a1 - t338)) + 1)))).bind fun bt341=>(some (t338,wrap64 (t338 + bt341.1),bt341.2.1,bt341.2.2))) = some (r1,r2,r3,r4):=H
  have A11:=mk0 A110
  clear A110
  obtain⟨ji12,hji12⟩:∃ j_:Int,(mx 1 (wrap64 ((wrap64 (a1 - t338)) + 1))) = j_:=⟨_,rfl⟩
  replace H:((spec_l01Cur_pick.f s0_0 t339 t340 (ji12)).bind fun bt341=>(some (t338,wrap64 (t338 + bt341.1),bt341.2.1,bt341.2.2))) = some (r1,r2,r3,r4):=by first|(rw [hji12] at H;exact H)|(simp only [hji12] at H ⊢;exact H)
  (try rw [hji12] at A3)
  (try rw [hji12] at A11)
  (try (have hji12l:1 ≤ ji12:=by (rw [← hji12];unfold mx;(repeat' split) <;> omega)))
  (try (have hji12m:0 ≤ ji12:=by omega))
  have hji12_:(if 1 < (wrap64 ((wrap64 (a1 - t338)) + 1)) then (wrap64 ((wrap64 (a1 - t338)) + 1)) else 1) = ji12:=hji12
  replace H:=Option.bind_eq_some_iff.mp H
  obtain⟨⟨t341,t342,t343⟩,A130,H⟩:=H
  replace H:(some (t338,wrap64 (t338 + t341),t342,t343)) = some (r1,r2,r3,r4):=H
  have A13:=mk0 A130
  clear A130
  simp only [Option.some.injEq,Prod.mk.injEq] at H
  obtain⟨rfl,rfl,rfl,rfl⟩:=H
  go_enter Try.func54,Try.ntmps54
  go_wp2_with (first|((with_reducible refine gate_callee (f:=61) rfl ?_);refine goesL_ (some 8) rfl rfl Try.func61 (by kernel_rfl) rfl #[.pointer (some ⟨g,0,none⟩),.int .i64 9] rfl (by (try simp only [mA,mC,mN]);first|done|rfl|(simp only [List.length_drop,List.length_take];rfl)) ?_;(with_reducible refine (spec_l01Cur_once.calls g s0_0 s0_1 s0_2 9 false t330 t331 w0 _ ?side1 ?side2 A3.out).mono ?_);(case side1=>repeat (first|(with_reducible first|exact HI0.out|apply IsS62.alloc|apply IsS62.drewN|apply IsS62.drew|apply IsS62.set_1|apply IsS62.set_2)|exact HI0.out));(case side2=>repeat (first|(with_reducible first|exact HB.out|apply aZ|apply nZ|apply dZ|refine sZ ?_ (IsS62.ge HI0.out))|exact HB.out));rintro e w14 ⟨rfl,hi,hb,hk⟩;refine⟨_,rfl,?_⟩;have n0_:=mk0 (KeepBut.trans (by repeat (first|(with_reducible first|exact HK.out|apply KeepBut.set_|apply keep_drewN|apply keep_drew|apply keep_alloc)|exact HK.out)) hk (.inl rfl));have n1_:=mk0 (hb);have n2_:=mk0 (hi);clear HK HB HI0;have HK:=n0_;have HB:=n1_;have HI0:=n2_;clear n0_ n1_ n2_;(try clear hb);(try clear hb2);(try clear hk);(try clear hi))|((with_reducible refine gate_callee (f:=52) rfl ?_);refine goesL_ (some 17) rfl rfl Try.func52 (by kernel_rfl) rfl #[.pointer (some ⟨g,0,none⟩),.int .i64 ji10] rfl (by (try simp only [mA,mC,mN]);first|done|(simp only [hji10];rfl)|rfl|(simp only [List.length_drop,List.length_take];rfl)) ?_;(with_reducible refine (spec_l01Cur_pick.calls g s0_0 t330 t331 ji10 t338 t339 t340 w0 _ ?side1 ?side2 A11.out).mono ?_);(case side1=>repeat (first|(with_reducible first|exact HI0.out|apply IsS62.alloc|apply IsS62.drewN|apply IsS62.drew|apply IsS62.set_1|apply IsS62.set_2)|exact HI0.out));(case side2=>repeat (first|(with_reducible first|exact HB.out|apply aZ|apply nZ|apply dZ|refine sZ ?_ (IsS62.ge HI0.out))|exact HB.out));rintro e w15 ⟨rfl,hi,hb,hk⟩;refine⟨_,rfl,?_⟩;have n0_:=mk0 (KeepBut.trans (by repeat (first|(with_reducible first|exact HK.out|apply KeepBut.set_|apply keep_drewN|apply keep_drew|apply keep_alloc)|exact HK.out)) hk (.inl rfl));have n1_:=mk0 (hb);have n2_:=mk0 (hi);clear HK HB HI0;have HK:=n0_;have HB:=n1_;have HI0:=n2_;clear n0_ n1_ n2_;(try clear hb);(try clear hb2);(try clear hk);(try clear hi))|((with_reducible refine gate_callee (f:=52) rfl ?_);refine goesL_ (some 26) rfl rfl Try.func52 (by kernel_rfl) rfl #[.pointer (some ⟨g,0,none⟩),.int .i64 ji12] rfl (by (try simp only [mA,mC,mN]);first|done|(simp only [hji12];rfl)|rfl|(simp only [List.length_drop,List.length_take];rfl)) ?_;(with_reducible refine (spec_l01Cur_pick.calls g s0_0 t339 t340 ji12 t341 t342 t343 w0 _ ?side1 ?side2 A13.out).mono ?_);(case side1=>repeat (first|(with_reducible first|exact HI0.out|apply IsS62.alloc|apply IsS62.drewN|apply IsS62.drew|apply IsS62.set_1|apply IsS62.set_2)|exact HI0.out));(case side2=>repeat (first|(with_reducible first|exact HB.out|apply aZ|apply nZ|apply dZ|refine sZ ?_ (IsS62.ge HI0.out))|exact HB.out));rintro e w16 ⟨rfl,hi,hb,hk⟩;refine⟨_,rfl,?_⟩;have n0_:=mk0 (KeepBut.trans (by repeat (first|(with_reducible first|exact HK.out|apply KeepBut.set_|apply keep_drewN|apply keep_drew|apply keep_alloc)|exact HK.out)) hk (.inl rfl));have n1_:=mk0 (hb);have n2_:=mk0 (hi);clear HK HB HI0;have HK:=n0_;have HB:=n1_;have HI0:=n2_;clear n0_ n1_ n2_;(try clear hb);(try clear hb2);(try clear hk);(try clear hi)))
  go_ret2
  exact⟨by first|rfl|(simp [errW_none,errW_some] <;> rfl)|(simp only [← hji10, ← hji12];first|rfl|(simp [errW_none,errW_some] <;> rfl))|(simp [*,errW_none,errW_some] <;> rfl),by repeat (first|(with_reducible first|exact HI0.out|apply IsS62.alloc|apply IsS62.drewN|apply IsS62.drew|apply IsS62.set_1|apply IsS62.set_2)|exact HI0.out),by repeat (first|(with_reducible first|exact HB.out|apply aZ|apply nZ|apply dZ|refine sZ ?_ (IsS62.ge HI0.out))|exact HB.out),by repeat (first|(with_reducible first|exact HK.out|apply KeepBut.set_|apply keep_drewN|apply keep_drew|apply keep_alloc)|exact HK.out)⟩

/-! ### spec_DrawMinsRange: function 36 -/
def spec_DrawMinsRange.f (k : Nat) (l0 : List Int) : Option (Int × List Int × Int × Int) := (spec_l01Open.f l0).bind fun bt345 => ((spec_l01Cur_mins.f k bt345.1 bt345.2.1 bt345.2.2).bind fun bt349 => ((spec_l01Cur_spanIn.f bt345.1 bt349.2.2.1 bt349.2.2.2 (mn 30 (mx 0 bt349.1))).bind fun bt356 => (some (bt349.1, bt349.2.1, bt356.1, bt356.2.1))))
theorem spec_DrawMinsRange.mono : ∀ a0 k, LeO (spec_DrawMinsRange.f k a0) (spec_DrawMinsRange.f (k + 1) a0) := by
 intro a0 k
 unfold spec_DrawMinsRange.f
 repeat' first|(with_reducible first|exact spec_l01Cur_mins.mono _ _ _ _|exact LeO.refl _|exact LeO.none _|refine LeO.ite ?_ ?_|refine LeO.bind ?_ (fun _ => ?_))|exact LeO.none _|refine LeO.ite ?_ ?_|refine LeO.bind ?_ (fun _ => ?_)
set_option maxHeartbeats 8000000 in
set_option maxRecDepth 100000 in
theorem spec_DrawMinsRange.calls (k : Nat) (A0 : Option Addr) (c0 : Nat) (l0 : List Int) (r1 : Int) (r2 : List Int) (r3 : Int) (r4 : Int) (w : World) (hr0 : Kd.C (Kd.int .u8) w A0 l0.length l0) (hc0 : l0.length ≤ c0) (h : spec_DrawMinsRange.f k l0 = some (r1, r2, r3, r4)) :
  Calls Try.prog 36 #[.slice A0 l0.length c0] w fun e w' => ∃ v1_ : Value, e = .returned (.tuple #[.agg #[.int .i64 r1, v1_], .int .i64 r3, .int .i64 r4]) ∧ Kd.R (Kd.int .i64) 3 w' w.heap.size (fun _ => True) v1_ r2 ∧ Below w.heap.size w w' := by
 have hu24:=Try.underlying24
 have HR0:=mk0 hr0
 have HC0:=mk0 hc0
 clear hr0 hc0
 have HB:=mk0 (Below.refl w.heap.size w)
 have H:((spec_l01Open.f l0).bind fun bt345=>((spec_l01Cur_mins.f k bt345.1 bt345.2.1 bt345.2.2).bind fun bt349=>((spec_l01Cur_spanIn.f bt345.1 bt349.2.2.1 bt349.2.2.2 (mn 30 (mx 0 bt349.1))).bind fun bt356=>(some (bt349.1,bt349.2.1,bt356.1,bt356.2.1))))) = some (r1,r2,r3,r4):=h
 clear h
 replace H:=Option.bind_eq_some_iff.mp H
 obtain⟨⟨t345,t346,t347⟩,A20,H⟩:=H
 replace H:((spec_l01Cur_mins.f k t345 t346 t347).bind fun bt349=>((spec_l01Cur_spanIn.f t345 bt349.2.2.1 bt349.2.2.2 (mn 30 (mx 0 bt349.1))).bind fun bt356=>(some (bt349.1,bt349.2.1,bt356.1,bt356.2.1)))) = some (r1,r2,r3,r4):=H
 have A2:=mk0 A20
 clear A20
 replace H:=Option.bind_eq_some_iff.mp H
 obtain⟨⟨t349,t350,t353,t354⟩,A30,H⟩:=H
 replace H:((spec_l01Cur_spanIn.f t345 t353 t354 (mn 30 (mx 0 t349))).bind fun bt356=>(some (t349,t350,bt356.1,bt356.2.1))) = some (r1,r2,r3,r4):=H
 have A3:=mk0 A30
 clear A30
 obtain⟨ji4,hji4⟩:∃ j_:Int,(mx 0 t349) = j_:=⟨_,rfl⟩
 replace H:((spec_l01Cur_spanIn.f t345 t353 t354 (mn 30 (ji4))).bind fun bt356=>(some (t349,t350,bt356.1,bt356.2.1))) = some (r1,r2,r3,r4):=by first|(rw [hji4] at H;exact H)|(simp only [hji4] at H ⊢;exact H)
 (try rw [hji4] at A2)
 (try rw [hji4] at A3)
 (try (have hji4l:0 ≤ ji4:=by (rw [← hji4];unfold mx;(repeat' split) <;> omega)))
 (try (have hji4m:0 ≤ ji4:=by omega))
 have hji4_:(if 0 < t349 then t349 else 0) = ji4:=hji4
 obtain⟨ji5,hji5⟩:∃ j_:Int,(mn 30 (ji4)) = j_:=⟨_,rfl⟩
 replace H:((spec_l01Cur_spanIn.f t345 t353 t354 (ji5)).bind fun bt356=>(some (t349,t350,bt356.1,bt356.2.1))) = some (r1,r2,r3,r4):=by first|(rw [hji5] at H;exact H)|(simp only [hji5] at H ⊢;exact H)
 (try rw [hji5] at A2)
 (try rw [hji5] at A3)
 have hji5_:(if (ji4) < 30 then (ji4) else 30) = ji5:=hji5
 replace H:=Option.bind_eq_some_iff.mp H
 obtain⟨⟨t356,t357,t358,t359⟩,A60,H⟩:=H
 replace H:(some (t349,t350,t356,t357)) = some (r1,r2,r3,r4):=H
 have A6:=mk0 A60
 clear A60
 simp only [Option.some.injEq,Prod.mk.injEq] at H
 obtain⟨rfl,rfl,rfl,rfl⟩:=H
 go_enter Try.func36,Try.ntmps36
 go_wp2_with (first|((with_reducible refine gate_dst (N:=2) rfl ?_);refine box_event ?hg (N:=2) ?hd (cs:=#[.int .i64 0,.slice none 0 0]) (t:=24) ?hr ?_;(case hd=>rfl);(case hg=>rfl);(case hr=>first|(go_simp;done)|(go_simp;rfl));intro gb344 hg w7 hbox hb;have n0_:=mk0 (below_step (by repeat (first|(with_reducible first|exact HB.out|apply aZ|apply nZ|apply dZ)|exact HB.out)) hb);have n1_:=mk0 (hbox);have n2_:=mk0 ((by rw [hg];exact (below_size (by repeat (first|(with_reducible first|exact HB.out|apply aZ|apply nZ|apply dZ)|exact HB.out))):w.heap.size ≤ gb344));have n3_:=mk0 ((by rw [hg];exact (below_size (by repeat (first|(with_reducible first|exact HB.out|apply aZ|apply nZ|apply dZ)|exact HB.out))):w.heap.size ≤ gb344));clear HB;have HB:=n0_;have BK344:=n1_;have GW344:=n2_;have GE344:=n3_;clear n0_ n1_ n2_ n3_ hb hbox hg)|((with_reducible refine gate_callee (f:=49) rfl ?_);refine goesL_ (some 10) rfl rfl Try.func49 (by kernel_rfl) rfl #[.slice A0 l0.length c0] rfl (by (try simp only [mA,mC,mN]);first|done|rfl|(simp only [List.length_drop,List.length_take];rfl)) ?_;(with_reducible refine (spec_l01Open.calls _ _ l0 t345 t346 t347 w _ ?side1 ?side2 ?side3 A2.out).mono ?_);(case side1=>repeat (first|(with_reducible first|exact HB.out|apply aZ|apply nZ|apply dZ|refine sZ ?_ GE344.out)|exact HB.out));(case side2=>exact HR0.out);(case side3=>exact HC0.out);rintro e w8 ⟨g348,rfl,hi,hb,hb2⟩;refine⟨_,rfl,?_⟩;have n0_:=mk0 (blk_below (g:=gb344) (o:=.cells #[.int .i64 0,.slice none 0 0] 24 (0,0)) (by (with_reducible repeat (first|apply nB|apply dB|apply aB));exact BK344.out) hb2);have n1_:=mk0 (hb);have n2_:=mk0 (hi);have n3_:=mk0 (IsS62.ne_blk hi (blk_below (g:=gb344) (o:=.cells #[.int .i64 0,.slice none 0 0] 24 (0,0)) (by (with_reducible repeat (first|apply nB|apply dB|apply aB));exact BK344.out) hb2) (by decide));have n4_:=mk0 (Ne.symm (IsS62.ne_blk hi (blk_below (g:=gb344) (o:=.cells #[.int .i64 0,.slice none 0 0] 24 (0,0)) (by (with_reducible repeat (first|apply nB|apply dB|apply aB));exact BK344.out) hb2) (by decide)));clear BK344 HB;have BK344:=n0_;have HB:=n1_;have HI348:=n2_;have NB348_344:=n3_;have NB344_348:=n4_;clear n0_ n1_ n2_ n3_ n4_;(try clear hb);(try clear hb2);(try clear hk);(try clear hi))|((with_reducible refine gate_callee (f:=50) rfl ?_);refine goesL_ (some 12) rfl rfl Try.func50 (by kernel_rfl) rfl #[.pointer (some ⟨g348,0,none⟩)] rfl (by (try simp only [mA,mC,mN]);first|done|rfl|(simp only [List.length_drop,List.length_take];rfl)) ?_;(with_reducible refine (spec_l01Cur_mins.calls k g348 t345 t346 t347 t349 t350 t353 t354 w _ ?side1 ?side2 A3.out).mono ?_);(case side1=>repeat (first|(with_reducible first|exact HI348.out|apply IsS62.alloc|apply IsS62.drewN|apply IsS62.drew|apply IsS62.set_1|apply IsS62.set_2|refine IsS62.far ?_ NB348_344.out _)|exact HI348.out));(case side2=>repeat (first|(with_reducible first|exact HB.out|apply aZ|apply nZ|apply dZ|refine sZ ?_ (IsS62.ge HI348.out)|refine sZ ?_ GE344.out)|exact HB.out));rintro e w9 ⟨v351,rfl,ho0,hi,hb,hk⟩;refine⟨_,rfl,?_⟩;have n0_:=mk0 (KeepBut.blk hk (g':=gb344) (o:=.cells #[.int .i64 0,.slice none 0 0] 24 (0,0)) (by (with_reducible repeat (first|apply nB|apply dB|apply aB));exact BK344.out) NB344_348.out (by simp));have n1_:=mk0 (Kd.R_lower ho0 (below_size (by repeat (first|(with_reducible first|exact HB.out|apply aZ|apply nZ|apply dZ|refine sZ ?_ (IsS62.ge HI348.out)|refine sZ ?_ GE344.out)|exact HB.out))));have n2_:=mk0 (hb);have n3_:=mk0 (hi);clear BK344 HB HI348;have BK344:=n0_;have HO352:=n1_;have HB:=n2_;have HI348:=n3_;clear n0_ n1_ n2_ n3_;(try clear hb);(try clear hb2);(try clear hk);(try clear hi);(try clear ho0))|((with_reducible refine gate_dst (N:=6) rfl ?_);refine box_event ?hg (N:=6) ?hd (cs:=#[.int .i64 0,.slice none 0 0]) (t:=24) ?hr ?_;(case hd=>rfl);(case hg=>rfl);(case hr=>first|(go_simp;done)|(go_simp;rfl));intro gb355 hg w10 hbox hb;have n0_:=mk0 (Kd.R_below (by (with_reducible repeat (first|apply aR|apply nR|apply dR));exact HO352.out) hb);have n1_:=mk0 (blk_below (g:=gb344) (o:=.cells #[.int .i64 0,.slice none 0 0] 24 (0,0)) (by (with_reducible repeat (first|apply nB|apply dB|apply aB));exact BK344.out) hb);have n2_:=mk0 (IsS62.below (by repeat (first|(with_reducible first|exact HI348.out|apply IsS62.alloc|apply IsS62.drewN|apply IsS62.drew|apply IsS62.set_1|apply IsS62.set_2|refine IsS62.far ?_ NB348_344.out _)|exact HI348.out)) hb);have n3_:=mk0 (below_step (by repeat (first|(with_reducible first|exact HB.out|apply aZ|apply nZ|apply dZ|refine sZ ?_ (IsS62.ge HI348.out)|refine sZ ?_ GE344.out)|exact HB.out)) hb);have n4_:=mk0 (hbox);have n5_:=mk0 ((by rw [hg];exact (below_size (by repeat (first|(with_reducible first|exact HB.out|apply aZ|apply nZ|apply dZ|refine sZ ?_ (IsS62.ge HI348.out)|refine sZ ?_ GE344.out)|exact HB.out))):w.heap.size ≤ gb355));have n6_:=mk0 ((by rw [hg];exact (below_size (by repeat (first|(with_reducible first|exact HB.out|apply aZ|apply nZ|apply dZ|refine sZ ?_ (IsS62.ge HI348.out)|refine sZ ?_ GE344.out)|exact HB.out))):w.heap.size ≤ gb355));have n7_:=mk0 ((by rw [hg];exact Nat.ne_of_lt (blk_lt (g:=gb344) (o:=.cells #[.int .i64 0,.slice none 0 0] 24 (0,0)) (by (with_reducible repeat (first|apply nB|apply dB|apply aB));exact BK344.out)):gb344 ≠ gb355));have n8_:=mk0 ((by rw [hg];exact Nat.ne_of_gt (blk_lt (g:=gb344) (o:=.cells #[.int .i64 0,.slice none 0 0] 24 (0,0)) (by (with_reducible repeat (first|apply nB|apply dB|apply aB));exact BK344.out)):gb355 ≠ gb344));have n9_:=mk0 ((by rw [hg];exact Nat.ne_of_lt (IsS62.lt (show IsS62 w _ g348 t345 t353 t354 from by repeat (first|(with_reducible first|exact HI348.out|apply IsS62.alloc|apply IsS62.drewN|apply IsS62.drew|apply IsS62.set_1|apply IsS62.set_2|refine IsS62.far ?_ NB348_344.out _)|exact HI348.out))):g348 ≠ gb355));have n10_:=mk0 ((by rw [hg];exact Nat.ne_of_gt (IsS62.lt (show IsS62 w _ g348 t345 t353 t354 from by repeat (first|(with_reducible first|exact HI348.out|apply IsS62.alloc|apply IsS62.drewN|apply IsS62.drew|apply IsS62.set_1|apply IsS62.set_2|refine IsS62.far ?_ NB348_344.out _)|exact HI348.out))):gb355 ≠ g348));clear HO352 BK344 HI348 HB;have HO352:=n0_;have BK344:=n1_;have HI348:=n2_;have HB:=n3_;have BK355:=n4_;have GW355:=n5_;have GE355:=n6_;have NB344_355:=n7_;have NB355_344:=n8_;have NB348_355:=n9_;have NB355_348:=n10_;clear n0_ n1_ n2_ n3_ n4_ n5_ n6_ n7_ n8_ n9_ n10_ hb hbox hg;have hnb11:=NB355_344.out;have hnc11:=NB344_355.out;have hnb12:=NB355_348.out;have hnc12:=NB348_355.out;have hcz13_0:w10.cell? ⟨gb355,0,none⟩ = some (.int .i64 0):=(blk_cell BK355.out 0).trans rfl;have hcz13_1:w10.cell? ⟨gb355,1,none⟩ = some (.slice none 0 0):=(blk_cell BK355.out 1).trans rfl;have hfz13_0:=blk_frozen BK355.out 0;have hfz13_1:=blk_frozen BK355.out 1;obtain⟨Ao14,co14,eo14⟩:=Kd.R_slice HO352.out;subst eo14)|((with_reducible refine gate_callee (f:=54) rfl ?_);refine goesL_ (some 19) rfl rfl Try.func54 (by kernel_rfl) rfl #[.pointer (some ⟨g348,0,none⟩),.int .i64 ji5] rfl (by (try simp only [mA,mC,mN]);first|done|(simp only [hji5];rfl)|rfl|(simp only [List.length_drop,List.length_take];rfl)) ?_;(with_reducible refine (spec_l01Cur_spanIn.calls g348 t345 t353 t354 ji5 t356 t357 t358 t359 w _ ?side1 ?side2 A6.out).mono ?_);(case side1=>repeat (first|(with_reducible first|exact HI348.out|apply IsS62.alloc|apply IsS62.drewN|apply IsS62.drew|apply IsS62.set_1|apply IsS62.set_2|refine IsS62.far ?_ NB348_344.out _|refine IsS62.far ?_ NB348_355.out _)|exact HI348.out));(case side2=>repeat (first|(with_reducible first|exact HB.out|apply aZ|apply nZ|apply dZ|refine sZ ?_ (IsS62.ge HI348.out)|refine sZ ?_ GE344.out|refine sZ ?_ GE355.out)|exact HB.out));rintro e w15 ⟨rfl,hi,hb,hk⟩;refine⟨_,rfl,?_⟩;have n0_:=mk0 (KeepBut.blk hk (g':=gb344) (o:=.cells #[.int .i64 0,.slice none 0 0] 24 (0,0)) (by (with_reducible repeat (first|apply nB|apply dB|apply aB));refine blk_far ?_ NB344_355.out _;(with_reducible repeat (first|apply nB|apply dB|apply aB));refine blk_far ?_ NB344_355.out _;(with_reducible repeat (first|apply nB|apply dB|apply aB));exact BK344.out) NB344_348.out (by simp));have n1_:=mk0 (Kd.R_mono (Kd.R_keep (IsS62.apart (show IsS62 w _ g348 t345 t353 t354 from by repeat (first|(with_reducible first|exact HI348.out|apply IsS62.alloc|apply IsS62.drewN|apply IsS62.drew|apply IsS62.set_1|apply IsS62.set_2|refine IsS62.far ?_ NB348_344.out _|refine IsS62.far ?_ NB348_355.out _)|exact HI348.out)) (by (with_reducible repeat (first|apply aR|apply nR|apply dR));exact (Kd.R_mono (Kd.R_far (p:=⟨gb355,1,none⟩) (Kd.R_far (p:=⟨gb355,0,none⟩) (Kd.R_types HO352.out BK355.out (by decide)) (by first|exact fun _ hk=>hk.2|(intro k_ hk;simp only [hk,ne_eq,and_self,not_false_eq_true])) (.int .i64 t349)) (by first|exact fun _ hk=>hk.2|(intro k_ hk;simp only [hk,ne_eq,and_self,not_false_eq_true])) (.slice Ao14 t350.length co14)) (fun _ h_=>h_.1))) (by decide)) hk (fun _ h=>h.2)) (fun _ h=>h.1));have n2_:=mk0 (KeepBut.blk hk (g':=gb355) (o:=.cells #[.int .i64 t349,.slice Ao14 t350.length co14] 24 (0,0)) (by (with_reducible repeat (first|apply nB|apply dB|apply aB));refine blk_put (cs:=#[.int .i64 t349,.slice none 0 0]) ?_ 1 _ rfl;(with_reducible repeat (first|apply nB|apply dB|apply aB));refine blk_put (cs:=#[.int .i64 0,.slice none 0 0]) ?_ 0 _ rfl;(with_reducible repeat (first|apply nB|apply dB|apply aB));exact BK355.out) NB355_348.out (by simp));have n3_:=mk0 (hb);have n4_:=mk0 (hi);clear BK344 HO352 BK355 HB HI348;have BK344:=n0_;have HO352:=n1_;have BK355:=n2_;have HB:=n3_;have HI348:=n4_;clear n0_ n1_ n2_ n3_ n4_;(try clear hb);(try clear hb2);(try clear hk);(try clear hi);have hcz16_0:w15.cell? ⟨gb355,0,none⟩ = some (.int .i64 t349):=(blk_cell BK355.out 0).trans rfl;have hcz16_1:w15.cell? ⟨gb355,1,none⟩ = some (.slice Ao14 t350.length co14):=(blk_cell BK355.out 1).trans rfl;have hfz16_0:=blk_frozen BK355.out 0;have hfz16_1:=blk_frozen BK355.out 1;have hnb17:=NB344_348.out;have hnc17:=NB348_344.out;have hcz18_0:w15.cell? ⟨gb344,0,none⟩ = some (.int .i64 0):=(blk_cell BK344.out 0).trans rfl;have hcz18_1:w15.cell? ⟨gb344,1,none⟩ = some (.slice none 0 0):=(blk_cell BK344.out 1).trans rfl;have hfz18_0:=blk_frozen BK344.out 0;have hfz18_1:=blk_frozen BK344.out 1))
 refine bodyPost_ret (results_ctt rfl _ _ gb344 24 #[.int .i64 t349,.slice Ao14 t350.length co14] (0,0) _ rfl (by (with_reducible repeat (first|apply nB|apply dB|apply aB));refine blk_put (cs:=#[.int .i64 t349,.slice none 0 0]) ?_ 1 _ rfl;(with_reducible repeat (first|apply nB|apply dB|apply aB));refine blk_put (cs:=#[.int .i64 0,.slice none 0 0]) ?_ 0 _ rfl;(with_reducible repeat (first|apply nB|apply dB|apply aB));exact BK344.out) Try.underlying24 rfl (by kernel_rfl)) rfl ?_
 exact⟨_,by first|rfl|(simp [errW_none,errW_some] <;> rfl)|(simp only [← hji4, ← hji5];first|rfl|(simp [errW_none,errW_some] <;> rfl))|(simp [*,errW_none,errW_some] <;> rfl),by (with_reducible repeat (first|apply aR|apply nR|apply dR));exact Kd.R_mono (Kd.R_far (p:=⟨gb344,1,none⟩) (Kd.R_far (p:=⟨gb344,0,none⟩) (Kd.R_types HO352.out BK344.out (by decide)) (by first|exact fun _ hk=>hk.2|(intro k_ hk;simp only [hk,ne_eq,and_self,not_false_eq_true])) (.int .i64 t349)) (by first|exact fun _ hk=>hk.2|(intro k_ hk;simp only [hk,ne_eq,and_self,not_false_eq_true])) (.slice Ao14 t350.length co14)) (fun _ hk=>trivial),by repeat (first|(with_reducible first|exact HB.out|apply aZ|apply nZ|apply dZ|refine sZ ?_ (IsS62.ge HI348.out)|refine sZ ?_ GE344.out|refine sZ ?_ GE355.out)|exact HB.out)⟩

/-! ### laws_count: function 37 -/
def laws_count.l0 : Nat → List Int → Int → Int → Int → Option (Int)
 | 0, _, _, _, _ => none
 | k + 1, x0, x1, x5, x6 => if x6 < (x0.length : Int) then (if 0 ≤ x6 then (if (rd x0 x6) = x1 then (laws_count.l0 k x0 x1 (wrap64 (x5 + 1)) (wrap64 (x6 + 1))) else (laws_count.l0 k x0 x1 x5 (wrap64 (x6 + 1)))) else (none)) else (some x5)
def laws_count.f (k : Nat) (l0 : List Int) (a1 : Int) : Option (Int) := laws_count.l0 k l0 a1 0 0
theorem laws_count.mono_l : ∀ k, (∀ y0 y1 y2 y3, LeO (laws_count.l0 k y0 y1 y2 y3) (laws_count.l0 (k + 1) y0 y1 y2 y3))
 | 0 => fun _ _ _ _ r h => by simp [laws_count.l0] at h
 | k + 1 => by
  have ih0 := laws_count.mono_l k
  ·intro y0 y1 y2 y3
   unfold laws_count.l0
   repeat' first|(with_reducible first|exact ih0 _ _ _ _|exact LeO.refl _|exact LeO.none _|refine LeO.ite ?_ ?_|refine LeO.bind ?_ (fun _ => ?_))|exact LeO.none _|refine LeO.ite ?_ ?_|refine LeO.bind ?_ (fun _ => ?_)
theorem laws_count.mono : ∀ a0 a1 k, LeO (laws_count.f k a0 a1) (laws_count.f (k + 1) a0 a1) := by
 intro a0 a1 k
 have ih0 := laws_count.mono_l k
 unfold laws_count.f
 repeat' first|(with_reducible first|exact ih0 _ _ _ _|exact LeO.refl _|exact LeO.none _|refine LeO.ite ?_ ?_|refine LeO.bind ?_ (fun _ => ?_))|exact LeO.none _|refine LeO.ite ?_ ?_|refine LeO.bind ?_ (fun _ => ?_)
set_option maxHeartbeats 8000000 in
set_option maxRecDepth 100000 in
theorem laws_count.calls (k : Nat) (A0 : Option Addr) (c0 : Nat) (l0 : List Int) (a1 : Int) (r : Int) (w : World) (hr0 : Kd.C (Kd.int .i64) w A0 l0.length l0) (hc0 : l0.length ≤ c0) (h : laws_count.f k l0 a1 = some r) :
  Calls Try.prog 37 #[.slice A0 l0.length c0, .int .i64 a1] w fun e w' => e = .returned (.int .i64 r) ∧ Drawn0 w w' := by
 have HR0:=mk0 hr0
 have HC0:=mk0 hc0
 clear hr0 hc0
 have H:(laws_count.l0 k l0 a1 0 0) = some r:=h
 clear h
 have H':=mk0 H
 clear H
 go_enter Try.func37,Try.ntmps37
 go_wp2
 go_loopg [5,6] k (fun kq v5 v6 w'=>∃ (x5_1:Int) (x6_1:Int),v5 = .int .i64 x5_1 ∧ v6 = .int .i64 x6_1 ∧ Aside0 (laws_count.l0 kq l0 a1 x5_1 x6_1 = some r) ∧ Aside0 (kq ≤ k) ∧ Drawn0 w w')
 case atStart=>exact⟨(0),(0),(by first|rfl|(simp;done)|(simp [*];done)),(by first|rfl|(simp;done)|(simp [*];done)),H',⟨Nat.le_refl _⟩,by repeat (first|exact Drawn0.refl _|apply Drawn0.step)⟩
 case round =>
  clear H'
  try clear p2
  obtain⟨x5_1,x6_1,rfl,rfl,HA,HK1,⟨m1,rfl⟩⟩:=hrel
  cases gk with
  | zero=>exact absurd HA.out (by simp [laws_count.l0])
  | succ k1 =>
   have H:=HA.out
   clear HA
   simp only [laws_count.l0] at H
   by_cases c3:x6_1 < (l0.length:Int)
   ·rw [if_pos c3] at H
    have c3b0:decide (x6_1 < (l0.length:Int)) = true:=decide_eq_true c3
    clear c3
    by_cases c4:0 ≤ x6_1
    ·rw [if_pos c4] at H
     have c4b0:decide (0 ≤ x6_1) = true:=decide_eq_true c4
     clear c4
     by_cases c5:(rd l0 x6_1) = a1
     ·rw [if_pos c5] at H
      have c5b0:((rd l0 x6_1) == a1) = true:=beq_iff_eq.mpr c5
      have c5b1:((rd l0 x6_1) != a1) = false:=bne_eq_false_iff_eq.mpr c5
      clear c5
      have H':=mk0 H
      clear H
      have p360:0 ≤ (x6_1:Int):=of_decide_eq_true (by first|(with_reducible assumption)|assumption)
      have q360:x6_1 < (l0.length:Int):=of_decide_eq_true (by first|(with_reducible assumption)|assumption)
      obtain⟨ad360,e360,hx360_0⟩:=Kd.at_int HR0.out x6_1 p360 q360
      cases e360
      replace p360:=eq_true p360
      replace q360:=eq_true q360
      go_wp2
      go_roundg k1
      case measure=>have:=HK1.out;omega
      case rel=>exact⟨(wrap64 (x5_1 + 1)),(wrap64 (x6_1 + 1)),(by first|rfl|(simp;done)|(simp [*];done)),(by first|rfl|(simp;done)|(simp [*];done)),H',⟨by have:=HK1.out;omega⟩,by repeat (first|exact Drawn0.refl _|apply Drawn0.step)⟩
     ·rw [if_neg c5] at H
      have c5b0:((rd l0 x6_1) == a1) = false:=beq_eq_false_iff_ne.mpr c5
      have c5b1:((rd l0 x6_1) != a1) = true:=bne_iff_ne.mpr c5
      have H':=mk0 H
      clear H
      have p360:0 ≤ (x6_1:Int):=of_decide_eq_true (by first|(with_reducible assumption)|assumption)
      have q360:x6_1 < (l0.length:Int):=of_decide_eq_true (by first|(with_reducible assumption)|assumption)
      obtain⟨ad360,e360,hx360_0⟩:=Kd.at_int HR0.out x6_1 p360 q360
      cases e360
      replace p360:=eq_true p360
      replace q360:=eq_true q360
      go_wp2
      go_roundg k1
      case measure=>have:=HK1.out;omega
      case rel=>exact⟨(x5_1),(wrap64 (x6_1 + 1)),(by first|rfl|(simp;done)|(simp [*];done)),(by first|rfl|(simp;done)|(simp [*];done)),H',⟨by have:=HK1.out;omega⟩,by repeat (first|exact Drawn0.refl _|apply Drawn0.step)⟩
    ·rw [if_neg c4] at H
     exact absurd H (by simp)
   ·rw [if_neg c3] at H
    have c3b0:decide (x6_1 < (l0.length:Int)) = false:=decide_eq_false c3
    clear c3
    obtain rfl:=Option.some.inj H
    go_wp2
    go_ret
    exact⟨by first|rfl|(simp;done)|(simp [*];done),by repeat (first|exact Drawn0.refl _|apply Drawn0.step)⟩

end Go.Proofs.Ytpheodpcppclaaa.QFnMins
