-- A walk, made by walk.py, a program of this session's.
import Derived.Test.YtpheodpcppclaaaQFnMinsSetx0
import Derived.Test.YtpheodpcppclaaaQFnMinsSetx5
import Derived.Test.YtpheodpcppclaaaQFnMinsSetx6
import Derived.Test.YtpheodpcppclaaaQFnMinsSetx7
import Derived.Test.YtpheodpcppclaaaQFnMinsSetx8
namespace Go.Proofs.Ytpheodpcppclaaa.QFnMinsSet
open Go.RowKit Go.Proofs.YtpheodpcppclaaaW.PrintWords Go.Proofs.YtpheodpcppclaaaW.PrintLast Go.Proofs.YtpheodpcppclaaaW.PrintMore
attribute [local go_sem] max2_int min2_int max_two min_two max_three min_three max_four min_four   -- for this text's walks alone
set_option linter.unusedVariables false
set_option linter.unusedSimpArgs false

/-! ### spec_DrawMinsSet: function 33 -/
def spec_DrawMinsSet.f (k : Nat) (l0 : List Int) : Option (Int × List Int × Int × Int) := (spec_l01Open.f l0).bind fun bt354 => ((spec_l01Cur_mins.f k bt354.1 bt354.2.1 bt354.2.2).bind fun bt358 => ((spec_l01Cur_place.f bt354.1 bt358.2.2.1 bt358.2.2.2 (mn 30 (mx 0 bt358.1))).bind fun bt365 => ((spec_l01Cur_pick.f bt354.1 bt365.2.1 bt365.2.2 30).bind fun bt368 => ((spec_l01Cur_raw.f bt354.1 bt368.2.1 bt368.2.2).bind fun bt371 => ((some (([bt368.1, bt371.1, 1000001] : List Int) : List Int)).bind fun y374 => ((spec_l01Cur_pick.f bt354.1 bt371.2.1 bt371.2.2 3).bind fun bt377 => (if 0 ≤ bt377.1 then (if bt377.1 < (y374.length : Int) then (some (bt358.1, bt358.2.1, bt365.1, rd y374 bt377.1)) else (none)) else (none))))))))
theorem spec_DrawMinsSet.mono : ∀ a0 k, LeO (spec_DrawMinsSet.f k a0) (spec_DrawMinsSet.f (k + 1) a0) := by
 intro a0 k
 unfold spec_DrawMinsSet.f
 repeat' first|(with_reducible first|exact spec_l01Cur_mins.mono _ _ _ _|exact LeO.refl _|exact LeO.none _|refine LeO.ite ?_ ?_|refine LeO.bind ?_ (fun _ => ?_))|exact LeO.none _|refine LeO.ite ?_ ?_|refine LeO.bind ?_ (fun _ => ?_)
def spec_DrawMinsSet.T3 : Bool × List (List Nat × List Nat) := (true, [([], []), ([], []), ([], []), ([2], [2]), ([3], [3]), ([4], [4]), ([1, 5], [1, 5]), ([], []), ([7, 6], [7]), ([], []), ([9, 8], [9]), ([8, 10], [8, 10]), ([], []), ([12, 10], [12]), ([11, 13], [11, 13]), ([14], [14]), ([0, 13, 0], [0]), ([6, 16, 0, 1, 2, 3, 4, 5, 6, 16], [6]), ([15, 17, 0, 1, 2, 3, 4, 5, 6, 7, 8, 9, 10, 11, 12, 13, 14, 15, 16, 17], [15])])
def spec_DrawMinsSet.B3 : List Nat := [0, 0, 0, 4, 12, 28, 62, 0, 254, 0, 1022, 2046, 0, 6142, 16382, 32766, 14335, 79871, 262143]
theorem spec_DrawMinsSet.tab3 : rtab .any (opsOf Try.f33 3) = spec_DrawMinsSet.T3 := by kernel_rfl
theorem spec_DrawMinsSet.bits3 : waitsOk spec_DrawMinsSet.T3.2 spec_DrawMinsSet.B3 = true := by kernel_rfl
abbrev spec_DrawMinsSet.m0 : Array Bool := #[F,F,F,F,F,F,F,F,F,F,F,F,F,F,F,F,F,F,F]
abbrev spec_DrawMinsSet.m1 : Array Bool := #[F,T,F,F,F,F,F,F,F,F,F,F,F,F,F,F,F,F,F]
abbrev spec_DrawMinsSet.m2 : Array Bool := #[F,T,T,F,F,F,F,F,F,F,F,F,F,F,F,F,F,F,F]
abbrev spec_DrawMinsSet.m3 : Array Bool := #[F,T,T,F,F,F,F,T,F,F,F,F,F,F,F,F,F,F,F]
abbrev spec_DrawMinsSet.m4 : Array Bool := #[F,T,T,F,F,F,F,T,F,T,F,F,F,F,F,F,F,F,F]
abbrev spec_DrawMinsSet.m5 : Array Bool := #[F,T,T,F,F,F,F,T,F,T,F,F,T,F,F,F,F,F,F]
abbrev spec_DrawMinsSet.m6 : Array Bool := #[T,T,T,F,F,F,F,T,F,T,F,F,T,F,F,F,F,F,F]
abbrev spec_DrawMinsSet.m7 : Array Bool := #[T,T,T,T,F,F,F,T,F,T,F,F,T,F,F,F,F,F,F]
abbrev spec_DrawMinsSet.m8 : Array Bool := #[T,T,T,T,T,F,F,T,F,T,F,F,T,F,F,F,F,F,F]
abbrev spec_DrawMinsSet.m9 : Array Bool := #[T,T,T,T,T,T,F,T,F,T,F,F,T,F,F,F,F,F,F]
abbrev spec_DrawMinsSet.m10 : Array Bool := #[T,T,T,T,T,T,T,T,F,T,F,F,T,F,F,F,F,F,F]
abbrev spec_DrawMinsSet.m11 : Array Bool := #[T,T,T,T,T,T,T,T,T,T,F,F,T,F,F,F,F,F,F]
abbrev spec_DrawMinsSet.m12 : Array Bool := #[T,T,T,T,T,T,T,T,T,T,T,F,T,F,F,F,F,F,F]
abbrev spec_DrawMinsSet.m13 : Array Bool := #[T,T,T,T,T,T,T,T,T,T,T,T,T,T,T,T,T,T,F]
abbrev spec_DrawMinsSet.m14 : Array Bool := #[T,T,T,T,T,T,T,T,T,T,T,T,T,T,T,T,F,F,F]
abbrev spec_DrawMinsSet.m15 : Array Bool := #[T,T,T,T,T,T,T,T,T,T,T,T,T,T,T,F,T,T,F]
abbrev spec_DrawMinsSet.m16 : Array Bool := #[T,T,T,T,T,T,T,T,T,T,T,T,T,T,T,F,F,F,F]
abbrev spec_DrawMinsSet.m17 : Array Bool := #[T,T,T,T,T,T,T,T,T,T,T,F,T,T,F,F,T,T,F]
abbrev spec_DrawMinsSet.m18 : Array Bool := #[T,T,T,T,T,T,T,T,T,T,T,T,T,F,F,F,F,F,F]
abbrev spec_DrawMinsSet.m19 : Array Bool := #[T,T,T,T,T,T,T,T,T,T,T,F,T,T,F,F,F,F,F]
abbrev spec_DrawMinsSet.m20 : Array Bool := #[T,T,T,T,T,T,T,T,T,T,T,T,T,T,F,F,F,F,F]
abbrev spec_DrawMinsSet.m21 : Array Bool := #[T,T,T,T,T,T,T,T,T,T,T,F,T,T,F,F,T,F,F]
abbrev spec_DrawMinsSet.m22 : Array Bool := #[T,T,T,T,T,T,T,T,T,T,T,T,T,T,F,F,T,T,F]
abbrev spec_DrawMinsSet.m23 : Array Bool := #[T,T,T,T,T,T,T,T,T,T,T,T,T,T,T,F,T,F,F]
abbrev spec_DrawMinsSet.m24 : Array Bool := #[T,T,T,T,T,T,T,T,T,T,T,T,T,T,T,T,T,F,F]
abbrev spec_DrawMinsSet.m25 : Array Bool := #[T,T,T,T,T,T,T,T,T,T,T,T,T,T,T,T,T,T,T]
set_option maxHeartbeats 8000000 in
set_option maxRecDepth 100000 in
theorem spec_DrawMinsSet.calls (k : Nat) (A0 : Option Addr) (c0 : Nat) (l0 : List Int) (r1 : Int) (r2 : List Int) (r3 : Int) (r4 : Int) (w : World) (hr0 : Kd.C (Kd.int .u8) w A0 l0.length l0) (hc0 : l0.length ≤ c0) (h : spec_DrawMinsSet.f k l0 = some (r1, r2, r3, r4)) :
  Calls Try.prog 33 #[.slice A0 l0.length c0] w fun e w' => ∃ v1_ : Value, e = .returned (.tuple #[.agg #[.int .i64 r1, v1_], .int .i64 r3, .int .i64 r4]) ∧ Kd.R (Kd.int .i64) 3 w' w.heap.size (fun _ => True) v1_ r2 ∧ Below w.heap.size w w' := by
 have hu24:=Try.underlying24
 have HR0:=mk0 hr0
 have HC0:=mk0 hc0
 clear hr0 hc0
 have HB:=mk0 (Below.refl w.heap.size w)
 have H:((spec_l01Open.f l0).bind fun bt354=>((spec_l01Cur_mins.f k bt354.1 bt354.2.1 bt354.2.2).bind fun bt358=>((spec_l01Cur_place.f bt354.1 bt358.2.2.1 bt358.2.2.2 (mn 30 (mx 0 bt358.1))).bind fun bt365=>((spec_l01Cur_pick.f bt354.1 bt365.2.1 bt365.2.2 30).bind fun bt368=>((spec_l01Cur_raw.f bt354.1 bt368.2.1 bt368.2.2).bind fun bt371=>((some (([bt368.1,bt371.1,1000001]:List Int):List Int)).bind fun y374=>((spec_l01Cur_pick.f bt354.1 bt371.2.1 bt371.2.2 3).bind fun bt377=>(if 0 ≤ bt377.1 then (if bt377.1 < (y374.length:Int) then (some (bt358.1,bt358.2.1,bt365.1,rd y374 bt377.1)) else (none)) else (none))))))))) = some (r1,r2,r3,r4):=h
 clear h
 replace H:=Option.bind_eq_some_iff.mp H
 obtain⟨⟨t354,t355,t356⟩,A20,H⟩:=H
 replace H:((spec_l01Cur_mins.f k t354 t355 t356).bind fun bt358=>((spec_l01Cur_place.f t354 bt358.2.2.1 bt358.2.2.2 (mn 30 (mx 0 bt358.1))).bind fun bt365=>((spec_l01Cur_pick.f t354 bt365.2.1 bt365.2.2 30).bind fun bt368=>((spec_l01Cur_raw.f t354 bt368.2.1 bt368.2.2).bind fun bt371=>((some (([bt368.1,bt371.1,1000001]:List Int):List Int)).bind fun y374=>((spec_l01Cur_pick.f t354 bt371.2.1 bt371.2.2 3).bind fun bt377=>(if 0 ≤ bt377.1 then (if bt377.1 < (y374.length:Int) then (some (bt358.1,bt358.2.1,bt365.1,rd y374 bt377.1)) else (none)) else (none)))))))) = some (r1,r2,r3,r4):=H
 have A2:=mk0 A20
 clear A20
 replace H:=Option.bind_eq_some_iff.mp H
 obtain⟨⟨t358,t359,t362,t363⟩,A30,H⟩:=H
 replace H:((spec_l01Cur_place.f t354 t362 t363 (mn 30 (mx 0 t358))).bind fun bt365=>((spec_l01Cur_pick.f t354 bt365.2.1 bt365.2.2 30).bind fun bt368=>((spec_l01Cur_raw.f t354 bt368.2.1 bt368.2.2).bind fun bt371=>((some (([bt368.1,bt371.1,1000001]:List Int):List Int)).bind fun y374=>((spec_l01Cur_pick.f t354 bt371.2.1 bt371.2.2 3).bind fun bt377=>(if 0 ≤ bt377.1 then (if bt377.1 < (y374.length:Int) then (some (t358,t359,bt365.1,rd y374 bt377.1)) else (none)) else (none))))))) = some (r1,r2,r3,r4):=H
 have A3:=mk0 A30
 clear A30
 obtain⟨ji4,hji4⟩:∃ j_:Int,(mx 0 t358) = j_:=⟨_,rfl⟩
 replace H:((spec_l01Cur_place.f t354 t362 t363 (mn 30 (ji4))).bind fun bt365=>((spec_l01Cur_pick.f t354 bt365.2.1 bt365.2.2 30).bind fun bt368=>((spec_l01Cur_raw.f t354 bt368.2.1 bt368.2.2).bind fun bt371=>((some (([bt368.1,bt371.1,1000001]:List Int):List Int)).bind fun y374=>((spec_l01Cur_pick.f t354 bt371.2.1 bt371.2.2 3).bind fun bt377=>(if 0 ≤ bt377.1 then (if bt377.1 < (y374.length:Int) then (some (t358,t359,bt365.1,rd y374 bt377.1)) else (none)) else (none))))))) = some (r1,r2,r3,r4):=by first|(rw [hji4] at H;exact H)|(simp only [hji4] at H ⊢;exact H)
 (try rw [hji4] at A2)
 (try rw [hji4] at A3)
 (try (have hji4l:0 ≤ ji4:=by (rw [← hji4];unfold mx;(repeat' split) <;> omega)))
 (try (have hji4m:0 ≤ ji4:=by omega))
 have hji4_:(if 0 < t358 then t358 else 0) = ji4:=hji4
 obtain⟨ji5,hji5⟩:∃ j_:Int,(mn 30 (ji4)) = j_:=⟨_,rfl⟩
 replace H:((spec_l01Cur_place.f t354 t362 t363 (ji5)).bind fun bt365=>((spec_l01Cur_pick.f t354 bt365.2.1 bt365.2.2 30).bind fun bt368=>((spec_l01Cur_raw.f t354 bt368.2.1 bt368.2.2).bind fun bt371=>((some (([bt368.1,bt371.1,1000001]:List Int):List Int)).bind fun y374=>((spec_l01Cur_pick.f t354 bt371.2.1 bt371.2.2 3).bind fun bt377=>(if 0 ≤ bt377.1 then (if bt377.1 < (y374.length:Int) then (some (t358,t359,bt365.1,rd y374 bt377.1)) else (none)) else (none))))))) = some (r1,r2,r3,r4):=by first|(rw [hji5] at H;exact H)|(simp only [hji5] at H ⊢;exact H)
 (try rw [hji5] at A2)
 (try rw [hji5] at A3)
 have hji5_:(if (ji4) < 30 then (ji4) else 30) = ji5:=hji5
 replace H:=Option.bind_eq_some_iff.mp H
 obtain⟨⟨t365,t366,t367⟩,A60,H⟩:=H
 replace H:((spec_l01Cur_pick.f t354 t366 t367 30).bind fun bt368=>((spec_l01Cur_raw.f t354 bt368.2.1 bt368.2.2).bind fun bt371=>((some (([bt368.1,bt371.1,1000001]:List Int):List Int)).bind fun y374=>((spec_l01Cur_pick.f t354 bt371.2.1 bt371.2.2 3).bind fun bt377=>(if 0 ≤ bt377.1 then (if bt377.1 < (y374.length:Int) then (some (t358,t359,t365,rd y374 bt377.1)) else (none)) else (none)))))) = some (r1,r2,r3,r4):=H
 have A6:=mk0 A60
 clear A60
 replace H:=Option.bind_eq_some_iff.mp H
 obtain⟨⟨t368,t369,t370⟩,A70,H⟩:=H
 replace H:((spec_l01Cur_raw.f t354 t369 t370).bind fun bt371=>((some (([t368,bt371.1,1000001]:List Int):List Int)).bind fun y374=>((spec_l01Cur_pick.f t354 bt371.2.1 bt371.2.2 3).bind fun bt377=>(if 0 ≤ bt377.1 then (if bt377.1 < (y374.length:Int) then (some (t358,t359,t365,rd y374 bt377.1)) else (none)) else (none))))) = some (r1,r2,r3,r4):=H
 have A7:=mk0 A70
 clear A70
 replace H:=Option.bind_eq_some_iff.mp H
 obtain⟨⟨t371,t372,t373⟩,A80,H⟩:=H
 replace H:((some (([t368,t371,1000001]:List Int):List Int)).bind fun y374=>((spec_l01Cur_pick.f t354 t372 t373 3).bind fun bt377=>(if 0 ≤ bt377.1 then (if bt377.1 < (y374.length:Int) then (some (t358,t359,t365,rd y374 bt377.1)) else (none)) else (none)))) = some (r1,r2,r3,r4):=H
 have A8:=mk0 A80
 clear A80
 obtain⟨y374,hy374⟩:∃ y_:List Int,y_ = (([t368,t371,1000001]:List Int)):=⟨_,rfl⟩
 replace H:((spec_l01Cur_pick.f t354 t372 t373 3).bind fun bt377=>(if 0 ≤ bt377.1 then (if bt377.1 < (y374.length:Int) then (some (t358,t359,t365,rd y374 bt377.1)) else (none)) else (none))) = some (r1,r2,r3,r4):=by first|(rw [hy374];with_reducible exact H)|(have H2_:=(Option.bind_some _ _).symm.trans H;rw [hy374];with_reducible exact H2_)|(have H2_:=(Option.bind_some _ _).symm.trans H;with_reducible exact H2_)|with_reducible exact H|(rw [hy374];exact H)|exact H
 have Ny374:=mk0 hy374
 clear hy374
 replace H:=Option.bind_eq_some_iff.mp H
 obtain⟨⟨t377,t378,t379⟩,A90,H⟩:=H
 replace H:(if 0 ≤ t377 then (if t377 < (y374.length:Int) then (some (t358,t359,t365,rd y374 t377)) else (none)) else (none)) = some (r1,r2,r3,r4):=H
 have A9:=mk0 A90
 clear A90
 by_cases c10:0 ≤ t377
 rotate_left
 ·rw [if_neg c10] at H
  exact absurd H (by simp)

 rw [if_pos c10] at H
 have c10b0:decide (0 ≤ t377) = true:=decide_eq_true c10
 clear c10
 by_cases c11:t377 < (y374.length:Int)
 rotate_left
 ·rw [if_neg c11] at H
  exact absurd H (by simp)
 rw [if_pos c11] at H
 have c11b0:decide (t377 < (y374.length:Int)) = true:=decide_eq_true c11
 clear c11
 simp only [Option.some.injEq,Prod.mk.injEq] at H
 obtain⟨rfl,rfl,rfl,rfl⟩:=H
 go_enter Try.func33,Try.ntmps33
 try go_wp2_with (first|((with_reducible refine gate_dst (N:=2) rfl ?_);refine box_event ?hg (N:=2) ?hd (cs:=#[.int .i64 0,.slice none 0 0]) (t:=24) ?hr ?_;(case hd=>rfl);(case hg=>rfl);(case hr=>first|(go_simp;done)|(go_simp;rfl));intro gb353 hg w12 hbox hb;have n0_:=mk0 (below_step (by repeat (first|(with_reducible first|exact HB.out|apply aZ|apply nZ|apply dZ)|exact HB.out)) hb);have n1_:=mk0 (hbox);have n2_:=mk0 ((by rw [hg];exact (below_size (by repeat (first|(with_reducible first|exact HB.out|apply aZ|apply nZ|apply dZ)|exact HB.out))):w.heap.size ≤ gb353));have n3_:=mk0 ((by rw [hg];exact (below_size (by repeat (first|(with_reducible first|exact HB.out|apply aZ|apply nZ|apply dZ)|exact HB.out))):w.heap.size ≤ gb353));clear HB;have HB:=n0_;have BK353:=n1_;have GW353:=n2_;have GE353:=n3_;clear n0_ n1_ n2_ n3_ hb hbox hg)|((with_reducible refine gate_callee (f:=49) rfl ?_);refine goesL_ (some 8) rfl rfl Try.func49 (by kernel_rfl) rfl #[.slice A0 l0.length c0] rfl (by (try simp only [mA,mC,mN]);first|done|rfl|(simp only [List.length_drop,List.length_take];rfl)) ?_;(with_reducible refine (spec_l01Open.calls _ _ l0 t354 t355 t356 w _ ?side1 ?side2 ?side3 A2.out).mono ?_);(case side1=>repeat (first|(with_reducible first|exact HB.out|apply aZ|apply nZ|apply dZ|refine sZ ?_ GE353.out)|exact HB.out));(case side2=>exact HR0.out);(case side3=>exact HC0.out);rintro e w13 ⟨g357,rfl,hi,hb,hb2⟩;refine⟨_,rfl,?_⟩;have n0_:=mk0 (blk_below (g:=gb353) (o:=.cells #[.int .i64 0,.slice none 0 0] 24 (0,0)) (by (with_reducible repeat (first|apply nB|apply dB|apply aB));exact BK353.out) hb2);have n1_:=mk0 (hb);have n2_:=mk0 (hi);have n3_:=mk0 (IsS62.ne_blk hi (blk_below (g:=gb353) (o:=.cells #[.int .i64 0,.slice none 0 0] 24 (0,0)) (by (with_reducible repeat (first|apply nB|apply dB|apply aB));exact BK353.out) hb2) (by decide));have n4_:=mk0 (Ne.symm (IsS62.ne_blk hi (blk_below (g:=gb353) (o:=.cells #[.int .i64 0,.slice none 0 0] 24 (0,0)) (by (with_reducible repeat (first|apply nB|apply dB|apply aB));exact BK353.out) hb2) (by decide)));clear BK353 HB;have BK353:=n0_;have HB:=n1_;have HI357:=n2_;have NB357_353:=n3_;have NB353_357:=n4_;clear n0_ n1_ n2_ n3_ n4_;(try clear hb);(try clear hb2);(try clear hk);(try clear hi))|((with_reducible refine gate_callee (f:=50) rfl ?_);refine goesL_ (some 10) rfl rfl Try.func50 (by kernel_rfl) rfl #[.pointer (some ⟨g357,0,none⟩)] rfl (by (try simp only [mA,mC,mN]);first|done|rfl|(simp only [List.length_drop,List.length_take];rfl)) ?_;(with_reducible refine (spec_l01Cur_mins.calls k g357 t354 t355 t356 t358 t359 t362 t363 w _ ?side1 ?side2 A3.out).mono ?_);(case side1=>repeat (first|(with_reducible first|exact HI357.out|apply IsS62.alloc|apply IsS62.drewN|apply IsS62.drew|apply IsS62.set_1|apply IsS62.set_2|refine IsS62.far ?_ NB357_353.out _)|exact HI357.out));(case side2=>repeat (first|(with_reducible first|exact HB.out|apply aZ|apply nZ|apply dZ|refine sZ ?_ (IsS62.ge HI357.out)|refine sZ ?_ GE353.out)|exact HB.out));rintro e w14 ⟨v360,rfl,ho0,hi,hb,hk⟩;refine⟨_,rfl,?_⟩;have n0_:=mk0 (KeepBut.blk hk (g':=gb353) (o:=.cells #[.int .i64 0,.slice none 0 0] 24 (0,0)) (by (with_reducible repeat (first|apply nB|apply dB|apply aB));exact BK353.out) NB353_357.out (by simp));have n1_:=mk0 (Kd.R_lower ho0 (below_size (by repeat (first|(with_reducible first|exact HB.out|apply aZ|apply nZ|apply dZ|refine sZ ?_ (IsS62.ge HI357.out)|refine sZ ?_ GE353.out)|exact HB.out))));have n2_:=mk0 (hb);have n3_:=mk0 (hi);clear BK353 HB HI357;have BK353:=n0_;have HO361:=n1_;have HB:=n2_;have HI357:=n3_;clear n0_ n1_ n2_ n3_;(try clear hb);(try clear hb2);(try clear hk);(try clear hi);(try clear ho0))|((with_reducible refine gate_dst (N:=6) rfl ?_);refine box_event ?hg (N:=6) ?hd (cs:=#[.int .i64 0,.slice none 0 0]) (t:=24) ?hr ?_;(case hd=>rfl);(case hg=>rfl);(case hr=>first|(go_simp;done)|(go_simp;rfl));intro gb364 hg w15 hbox hb;have n0_:=mk0 (Kd.R_below (by (with_reducible repeat (first|apply aR|apply nR|apply dR));exact HO361.out) hb);have n1_:=mk0 (blk_below (g:=gb353) (o:=.cells #[.int .i64 0,.slice none 0 0] 24 (0,0)) (by (with_reducible repeat (first|apply nB|apply dB|apply aB));exact BK353.out) hb);have n2_:=mk0 (IsS62.below (by repeat (first|(with_reducible first|exact HI357.out|apply IsS62.alloc|apply IsS62.drewN|apply IsS62.drew|apply IsS62.set_1|apply IsS62.set_2|refine IsS62.far ?_ NB357_353.out _)|exact HI357.out)) hb);have n3_:=mk0 (below_step (by repeat (first|(with_reducible first|exact HB.out|apply aZ|apply nZ|apply dZ|refine sZ ?_ (IsS62.ge HI357.out)|refine sZ ?_ GE353.out)|exact HB.out)) hb);have n4_:=mk0 (hbox);have n5_:=mk0 ((by rw [hg];exact (below_size (by repeat (first|(with_reducible first|exact HB.out|apply aZ|apply nZ|apply dZ|refine sZ ?_ (IsS62.ge HI357.out)|refine sZ ?_ GE353.out)|exact HB.out))):w.heap.size ≤ gb364));have n6_:=mk0 ((by rw [hg];exact (below_size (by repeat (first|(with_reducible first|exact HB.out|apply aZ|apply nZ|apply dZ|refine sZ ?_ (IsS62.ge HI357.out)|refine sZ ?_ GE353.out)|exact HB.out))):w.heap.size ≤ gb364));have n7_:=mk0 ((by rw [hg];exact Nat.ne_of_lt (blk_lt (g:=gb353) (o:=.cells #[.int .i64 0,.slice none 0 0] 24 (0,0)) (by (with_reducible repeat (first|apply nB|apply dB|apply aB));exact BK353.out)):gb353 ≠ gb364));have n8_:=mk0 ((by rw [hg];exact Nat.ne_of_gt (blk_lt (g:=gb353) (o:=.cells #[.int .i64 0,.slice none 0 0] 24 (0,0)) (by (with_reducible repeat (first|apply nB|apply dB|apply aB));exact BK353.out)):gb364 ≠ gb353));have n9_:=mk0 ((by rw [hg];exact Nat.ne_of_lt (IsS62.lt (show IsS62 w _ g357 t354 t362 t363 from by repeat (first|(with_reducible first|exact HI357.out|apply IsS62.alloc|apply IsS62.drewN|apply IsS62.drew|apply IsS62.set_1|apply IsS62.set_2|refine IsS62.far ?_ NB357_353.out _)|exact HI357.out))):g357 ≠ gb364));have n10_:=mk0 ((by rw [hg];exact Nat.ne_of_gt (IsS62.lt (show IsS62 w _ g357 t354 t362 t363 from by repeat (first|(with_reducible first|exact HI357.out|apply IsS62.alloc|apply IsS62.drewN|apply IsS62.drew|apply IsS62.set_1|apply IsS62.set_2|refine IsS62.far ?_ NB357_353.out _)|exact HI357.out))):gb364 ≠ g357));clear HO361 BK353 HI357 HB;have HO361:=n0_;have BK353:=n1_;have HI357:=n2_;have HB:=n3_;have BK364:=n4_;have GW364:=n5_;have GE364:=n6_;have NB353_364:=n7_;have NB364_353:=n8_;have NB357_364:=n9_;have NB364_357:=n10_;clear n0_ n1_ n2_ n3_ n4_ n5_ n6_ n7_ n8_ n9_ n10_ hb hbox hg;have hnb16:=NB364_353.out;have hnc16:=NB353_364.out;have hnb17:=NB364_357.out;have hnc17:=NB357_364.out;have hcz18_0:w15.cell? ⟨gb364,0,none⟩ = some (.int .i64 0):=(blk_cell BK364.out 0).trans rfl;have hcz18_1:w15.cell? ⟨gb364,1,none⟩ = some (.slice none 0 0):=(blk_cell BK364.out 1).trans rfl;have hfz18_0:=blk_frozen BK364.out 0;have hfz18_1:=blk_frozen BK364.out 1;obtain⟨Ao19,co19,eo19⟩:=Kd.R_slice HO361.out;subst eo19))
 have pi380:(0 ≤ (t377:Int)) = True:=eq_true (of_decide_eq_true (by first|(with_reducible assumption)|assumption))
 have qi380:(t377 < (y374.length:Int)) = True:=eq_true (of_decide_eq_true (by first|(with_reducible assumption)|assumption))
 have n0_:Aside0 (Kd.R (Kd.int .i64) 3 ((w15.setCell ⟨gb364,0,none⟩ (.int .i64 t358)).setCell ⟨gb364,1,none⟩ (.slice Ao19 t359.length co19)) w.heap.size (fun _=>True) (.slice Ao19 t359.length co19) t359):=⟨by (with_reducible repeat (first|apply aR|apply nR|apply dR));exact Kd.R_mono (Kd.R_far (p:=⟨gb364,1,none⟩) (Kd.R_far (p:=⟨gb364,0,none⟩) (Kd.R_types HO361.out BK364.out (by decide)) (fun _ hk=>hk.2) (.int .i64 t358)) (fun _ hk=>hk.2) (.slice Ao19 t359.length co19)) (fun _ hk=>trivial)⟩
 have n1_:Aside0 (((w15.setCell ⟨gb364,0,none⟩ (.int .i64 t358)).setCell ⟨gb364,1,none⟩ (.slice Ao19 t359.length co19)).heap[gb353]? = some (.cells #[.int .i64 0,.slice none 0 0] 24 (0,0))):=⟨by (with_reducible repeat (first|apply nB|apply dB|apply aB));refine blk_far ?_ NB353_364.out _;(with_reducible repeat (first|apply nB|apply dB|apply aB));refine blk_far ?_ NB353_364.out _;(with_reducible repeat (first|apply nB|apply dB|apply aB));exact BK353.out⟩
 have n2_:Aside0 (((w15.setCell ⟨gb364,0,none⟩ (.int .i64 t358)).setCell ⟨gb364,1,none⟩ (.slice Ao19 t359.length co19)).heap[gb364]? = some (.cells #[.int .i64 t358,.slice Ao19 t359.length co19] 24 (0,0))):=⟨by (with_reducible repeat (first|apply nB|apply dB|apply aB));refine blk_put (cs:=#[.int .i64 t358,.slice none 0 0]) ?_ 1 _ rfl;(with_reducible repeat (first|apply nB|apply dB|apply aB));refine blk_put (cs:=#[.int .i64 0,.slice none 0 0]) ?_ 0 _ rfl;(with_reducible repeat (first|apply nB|apply dB|apply aB));exact BK364.out⟩
 have n3_:Aside0 (IsS62 w ((w15.setCell ⟨gb364,0,none⟩ (.int .i64 t358)).setCell ⟨gb364,1,none⟩ (.slice Ao19 t359.length co19)) g357 t354 t362 t363):=⟨by repeat (first|(with_reducible first|exact HI357.out|apply IsS62.alloc|apply IsS62.drewN|apply IsS62.drew|apply IsS62.set_1|apply IsS62.set_2|refine IsS62.far ?_ NB357_353.out _|refine IsS62.far ?_ NB357_364.out _)|exact HI357.out)⟩
 have n4_:Aside0 (Below w.heap.size w ((w15.setCell ⟨gb364,0,none⟩ (.int .i64 t358)).setCell ⟨gb364,1,none⟩ (.slice Ao19 t359.length co19))):=⟨by repeat (first|(with_reducible first|exact HB.out|apply aZ|apply nZ|apply dZ|refine sZ ?_ (IsS62.ge HI357.out)|refine sZ ?_ GE353.out|refine sZ ?_ GE364.out)|exact HB.out)⟩
 (try clear HO361)
 (try clear BK353)
 (try clear BK364)
 (try clear HI357)
 (try clear HB)
 generalize ((w15.setCell ⟨gb364,0,none⟩ (.int .i64 t358)).setCell ⟨gb364,1,none⟩ (.slice Ao19 t359.length co19)) = w20 at n0_ n1_ n2_ n3_ n4_ ⊢
 have HO361:=n0_
 have BK353:=n1_
 have BK364:=n2_
 have HI357:=n3_
 have HB:=n4_
 clear n0_ n1_ n2_ n3_ n4_
 have n0_:=mk0 (dR HO361.out)
 have n1_:=mk0 (dB BK353.out)
 have n2_:=mk0 (dB BK364.out)
 have n3_:=mk0 (IsS62.drew HI357.out)
 have n4_:=mk0 (dZ HB.out)
 clear HO361
 clear BK353
 clear BK364
 clear HI357
 clear HB
 have HO361:=n0_
 have BK353:=n1_
 have BK364:=n2_
 have HI357:=n3_
 have HB:=n4_
 clear n0_ n1_ n2_ n3_ n4_
 refine start_ (n:=19) (S:=fun w'=>w'.cell? ⟨gb364,0,none⟩ = some (.int .i64 t358) ∧ w'.cell? ⟨gb364,1,none⟩ = some (.slice Ao19 t359.length co19)) (ds:=[]) spec_DrawMinsSet.m0 (by kernel_rfl) rfl rfl ⟨(blk_cell BK364.out 0).trans rfl,(blk_cell BK364.out 1).trans rfl⟩ (fun hHeld=>?_);refine with_tabW spec_DrawMinsSet.tab3 spec_DrawMinsSet.bits3 (fun HT_ HW_=>?_)
 generalize w20.drew = w21 at HO361 BK353 BK364 HI357 HB hHeld ⊢
 refine pure_ (i:=1) (N:=some 12) (v:=?_) (a':=?_) spec_DrawMinsSet.m1 rfl rfl (any_of HT_.out (by kernel_rfl)) (fun _ _ _ h=>h) (Or.inl ⟨by rfl,?_⟩) ?_ ?_
 rotate_left
 ·intro w'
  go_simp
  with_reducible rfl
 rotate_left
 ·simp only [Act.put,sA,sO,sS,i64_w,i32_w]
  rfl
 refine pure_ (i:=2) (N:=some 13) (v:=?_) (a':=?_) spec_DrawMinsSet.m2 rfl rfl (any_of HT_.out (by kernel_rfl)) (fun _ _ _ h=>h) (Or.inl ⟨by rfl,?_⟩) ?_ ?_
 rotate_left
 ·intro w'
  go_simp
  with_reducible rfl
 rotate_left
 ·simp only [Act.put,sA,sO,sS,i64_w,i32_w]
  rfl
 refine pure_ (i:=7) (N:=some 18) (v:=?_) (a':=?_) spec_DrawMinsSet.m3 rfl rfl (any_of HT_.out (by kernel_rfl)) (fun _ _ _ h=>h) (Or.inl ⟨by rfl,?_⟩) ?_ ?_
 rotate_left
 ·intro w'
  go_simp
  with_reducible rfl
 rotate_left
 ·simp only [Act.put,sA,sO,sS,i64_w,i32_w]
  rfl
 refine pure_ (i:=9) (N:=some 20) (v:=?_) (a':=?_) spec_DrawMinsSet.m4 rfl rfl (any_of HT_.out (by kernel_rfl)) (fun _ _ _ h=>h) (Or.inl ⟨by rfl,?_⟩) ?_ ?_
 rotate_left
 ·intro w'
  go_simp
  with_reducible rfl
 rotate_left
 ·simp only [Act.put,sA,sO,sS,i64_w,i32_w]
  rfl
 refine pure_ (i:=12) (N:=some 23) (v:=?_) (a':=?_) spec_DrawMinsSet.m5 rfl rfl (any_of HT_.out (by kernel_rfl)) (fun _ _ _ h=>h) (Or.inl ⟨by rfl,?_⟩) ?_ ?_
 rotate_left
 ·intro w'
  go_simp
  with_reducible rfl
 rotate_left
 ·simp only [Act.put,sA,sO,sS,i64_w,i32_w]
  rfl
 refine take_ (i:=0) (N:=some 11) (v:=?_) (a':=?_) spec_DrawMinsSet.m6 rfl rfl (take_ofW HT_.out HW_.out (by kernel_rfl)) (fun _ _ _ h=>h) (Or.inl ⟨by rfl,?_⟩) hHeld ?_ ?_
 rotate_left
 ·rintro w' ⟨s0,s1⟩
  go_simp
  with_reducible rfl
 rotate_left
 ·simp only [Act.put,sA,sO,sS,i64_w,i32_w]
  rfl
 refine take_ (i:=3) (N:=some 14) (v:=?_) (a':=?_) spec_DrawMinsSet.m7 rfl rfl (take_ofW HT_.out HW_.out (by kernel_rfl)) (fun _ _ _ h=>h) (Or.inl ⟨by rfl,?_⟩) hHeld ?_ ?_
 rotate_left
 ·rintro w' ⟨s0,s1⟩
  go_simp
  with_reducible rfl
 rotate_left
 ·simp only [Act.put,sA,sO,sS,i64_w,i32_w]
  rfl
 refine pure_ (i:=4) (N:=some 15) (v:=?_) (a':=?_) spec_DrawMinsSet.m8 rfl rfl (any_of HT_.out (by kernel_rfl)) (fun _ _ _ h=>h) (Or.inl ⟨by rfl,?_⟩) ?_ ?_
 rotate_left
 ·intro w'
  go_simp
  with_reducible rfl
 rotate_left
 ·simp only [Act.put,sA,sO,sS,i64_w,i32_w]
  rfl
 refine pure_ (i:=5) (N:=some 16) (v:=?_) (a':=?_) spec_DrawMinsSet.m9 rfl rfl (any_of HT_.out (by kernel_rfl)) (fun _ _ _ h=>h) (Or.inl ⟨by rfl,?_⟩) ?_ ?_
 rotate_left
 ·intro w'
  go_simp
  with_reducible rfl
 rotate_left
 ·simp only [Act.put,sA,sO,sS,i64_w,i32_w]
  rfl
 refine one_ (i:=6) (N:=some 17) spec_DrawMinsSet.m10 rfl rfl (one_of HT_.out (by kernel_rfl)) (by decide) (fun K hK=>?_)
 refine goes_ Try.func51 (by kernel_rfl) rfl #[.pointer (some ⟨g357,0,none⟩),.int .i64 ji5] (by rfl) rfl rfl (by (try simp only [mA,mC,mN]);first|done|(simp only [hji5];rfl)|rfl|(simp only [List.length_drop,List.length_take];rfl)) ?_
 with_reducible refine (spec_l01Cur_place.calls g357 t354 t362 t363 ji5 t365 t366 t367 w _ ?side1 ?side2 A6.out).mono ?_
 (case side1=>repeat (first|(with_reducible first|exact HI357.out|apply IsS62.alloc|apply IsS62.drewN|apply IsS62.drew|apply IsS62.set_1|apply IsS62.set_2|refine IsS62.far ?_ NB357_353.out _|refine IsS62.far ?_ NB357_364.out _)|exact HI357.out))
 (case side2=>repeat (first|(with_reducible first|exact HB.out|apply aZ|apply nZ|apply dZ|refine sZ ?_ (IsS62.ge HI357.out)|refine sZ ?_ GE353.out|refine sZ ?_ GE364.out)|exact HB.out))
 rintro e w22 ⟨rfl,hi,hb,hk⟩
 refine⟨_,rfl,?_⟩
 have n0_:=mk0 (KeepBut.blk hk (g':=gb353) (o:=.cells #[.int .i64 0,.slice none 0 0] 24 (0,0)) (by (with_reducible repeat (first|apply nB|apply dB|apply aB));exact BK353.out) NB353_357.out (by simp))
 have n1_:=mk0 (Kd.R_mono (Kd.R_keep (IsS62.apart (show IsS62 w _ g357 t354 t362 t363 from by repeat (first|(with_reducible first|exact HI357.out|apply IsS62.alloc|apply IsS62.drewN|apply IsS62.drew|apply IsS62.set_1|apply IsS62.set_2|refine IsS62.far ?_ NB357_353.out _|refine IsS62.far ?_ NB357_364.out _)|exact HI357.out)) (by (with_reducible repeat (first|apply aR|apply nR|apply dR));exact HO361.out) (by decide)) hk (fun _ h=>h.2)) (fun _ h=>h.1))
 have n2_:=mk0 (KeepBut.blk hk (g':=gb364) (o:=.cells #[.int .i64 t358,.slice Ao19 t359.length co19] 24 (0,0)) (by (with_reducible repeat (first|apply nB|apply dB|apply aB));exact BK364.out) NB364_357.out (by simp))
 have n3_:=mk0 (hb)
 have n4_:=mk0 (hi)
 clear BK353
 clear HO361
 clear BK364
 clear HB
 clear HI357
 have BK353:=n0_
 have HO361:=n1_
 have BK364:=n2_
 have HB:=n3_
 have HI357:=n4_
 clear n0_ n1_ n2_ n3_ n4_
 (try clear hb)
 (try clear hb2)
 (try clear hk)
 (try clear hi)
 refine hK.out _ _ ⟨(blk_cell BK364.out 0).trans rfl,(blk_cell BK364.out 1).trans rfl⟩ (fun hHeld=>?_)
 clear hK K
 refine norm_ (a':=?_) ?_ ?_
 rotate_left
 ·show Act.put _ (some 17) _ = _
  simp only [Act.put,sA,sO,sS,i64_w,i32_w]
  rfl
 refine one_ (i:=8) (N:=some 19) spec_DrawMinsSet.m11 rfl rfl (one_of HT_.out (by kernel_rfl)) (by decide) (fun K hK=>?_)
 refine goes_ Try.func52 (by kernel_rfl) rfl #[.pointer (some ⟨g357,0,none⟩),.int .i64 30] (by rfl) rfl rfl (by (try simp only [mA,mC,mN]);first|done|rfl|(simp only [List.length_drop,List.length_take];rfl)) ?_
 with_reducible refine (spec_l01Cur_pick.calls g357 t354 t366 t367 30 t368 t369 t370 w _ ?side1 ?side2 A7.out).mono ?_
 (case side1=>repeat (first|(with_reducible first|exact HI357.out|apply IsS62.alloc|apply IsS62.drewN|apply IsS62.drew|apply IsS62.set_1|apply IsS62.set_2|refine IsS62.far ?_ NB357_353.out _|refine IsS62.far ?_ NB357_364.out _)|exact HI357.out))
 (case side2=>repeat (first|(with_reducible first|exact HB.out|apply aZ|apply nZ|apply dZ|refine sZ ?_ (IsS62.ge HI357.out)|refine sZ ?_ GE353.out|refine sZ ?_ GE364.out)|exact HB.out))
 rintro e w23 ⟨rfl,hi,hb,hk⟩
 refine⟨_,rfl,?_⟩
 have n0_:=mk0 (KeepBut.blk hk (g':=gb353) (o:=.cells #[.int .i64 0,.slice none 0 0] 24 (0,0)) (by (with_reducible repeat (first|apply nB|apply dB|apply aB));exact BK353.out) NB353_357.out (by simp))
 have n1_:=mk0 (Kd.R_mono (Kd.R_keep (IsS62.apart (show IsS62 w _ g357 t354 t366 t367 from by repeat (first|(with_reducible first|exact HI357.out|apply IsS62.alloc|apply IsS62.drewN|apply IsS62.drew|apply IsS62.set_1|apply IsS62.set_2|refine IsS62.far ?_ NB357_353.out _|refine IsS62.far ?_ NB357_364.out _)|exact HI357.out)) (by (with_reducible repeat (first|apply aR|apply nR|apply dR));exact HO361.out) (by decide)) hk (fun _ h=>h.2)) (fun _ h=>h.1))
 have n2_:=mk0 (KeepBut.blk hk (g':=gb364) (o:=.cells #[.int .i64 t358,.slice Ao19 t359.length co19] 24 (0,0)) (by (with_reducible repeat (first|apply nB|apply dB|apply aB));exact BK364.out) NB364_357.out (by simp))
 have n3_:=mk0 (hb)
 have n4_:=mk0 (hi)
 clear BK353
 clear HO361
 clear BK364
 clear HB
 clear HI357
 have BK353:=n0_
 have HO361:=n1_
 have BK364:=n2_
 have HB:=n3_
 have HI357:=n4_
 clear n0_ n1_ n2_ n3_ n4_
 (try clear hb)
 (try clear hb2)
 (try clear hk)
 (try clear hi)
 refine hK.out _ _ ⟨(blk_cell BK364.out 0).trans rfl,(blk_cell BK364.out 1).trans rfl⟩ (fun hHeld=>?_)
 clear hK K
 refine norm_ (a':=?_) ?_ ?_
 rotate_left
 ·show Act.put _ (some 19) _ = _
  simp only [Act.put,sA,sO,sS,i64_w,i32_w]
  rfl
 refine one_ (i:=10) (N:=some 21) spec_DrawMinsSet.m12 rfl rfl (one_of HT_.out (by kernel_rfl)) (by decide) (fun K hK=>?_)
 refine goes_ Try.func53 (by kernel_rfl) rfl #[.pointer (some ⟨g357,0,none⟩)] (by rfl) rfl rfl (by (try simp only [mA,mC,mN]);first|done|rfl|(simp only [List.length_drop,List.length_take];rfl)) ?_
 with_reducible refine (spec_l01Cur_raw.calls g357 t354 t369 t370 t371 t372 t373 w _ ?side1 ?side2 A8.out).mono ?_
 (case side1=>repeat (first|(with_reducible first|exact HI357.out|apply IsS62.alloc|apply IsS62.drewN|apply IsS62.drew|apply IsS62.set_1|apply IsS62.set_2|refine IsS62.far ?_ NB357_353.out _|refine IsS62.far ?_ NB357_364.out _)|exact HI357.out))
 (case side2=>repeat (first|(with_reducible first|exact HB.out|apply aZ|apply nZ|apply dZ|refine sZ ?_ (IsS62.ge HI357.out)|refine sZ ?_ GE353.out|refine sZ ?_ GE364.out)|exact HB.out))
 rintro e w24 ⟨rfl,hi,hb,hk⟩
 refine⟨_,rfl,?_⟩
 have n0_:=mk0 (KeepBut.blk hk (g':=gb353) (o:=.cells #[.int .i64 0,.slice none 0 0] 24 (0,0)) (by (with_reducible repeat (first|apply nB|apply dB|apply aB));exact BK353.out) NB353_357.out (by simp))
 have n1_:=mk0 (Kd.R_mono (Kd.R_keep (IsS62.apart (show IsS62 w _ g357 t354 t369 t370 from by repeat (first|(with_reducible first|exact HI357.out|apply IsS62.alloc|apply IsS62.drewN|apply IsS62.drew|apply IsS62.set_1|apply IsS62.set_2|refine IsS62.far ?_ NB357_353.out _|refine IsS62.far ?_ NB357_364.out _)|exact HI357.out)) (by (with_reducible repeat (first|apply aR|apply nR|apply dR));exact HO361.out) (by decide)) hk (fun _ h=>h.2)) (fun _ h=>h.1))
 have n2_:=mk0 (KeepBut.blk hk (g':=gb364) (o:=.cells #[.int .i64 t358,.slice Ao19 t359.length co19] 24 (0,0)) (by (with_reducible repeat (first|apply nB|apply dB|apply aB));exact BK364.out) NB364_357.out (by simp))
 have n3_:=mk0 (hb)
 have n4_:=mk0 (hi)
 clear BK353
 clear HO361
 clear BK364
 clear HB
 clear HI357
 have BK353:=n0_
 have HO361:=n1_
 have BK364:=n2_
 have HB:=n3_
 have HI357:=n4_
 clear n0_ n1_ n2_ n3_ n4_
 (try clear hb)
 (try clear hb2)
 (try clear hk)
 (try clear hi)
 refine hK.out _ _ ⟨(blk_cell BK364.out 0).trans rfl,(blk_cell BK364.out 1).trans rfl⟩ (fun hHeld=>?_)
 clear hK K
 refine norm_ (a':=?_) ?_ ?_
 rotate_left
 ·show Act.put _ (some 21) _ = _
  simp only [Act.put,sA,sO,sS,i64_w,i32_w]
  rfl
 refine join_ (σ:=Value × Addr) 1 spec_DrawMinsSet.m13 (fun s_=>[(22,s_.1),(24,.int .i64 t377),(26,.int .i64 (rd y374 t377)),(25,.pointer (some (s_.2.add (t377).toNat))),(3,.int .i64 t365)]) (fun s_ w'=>(w'.cell? ⟨gb364,0,none⟩ = some (.int .i64 t358) ∧ w'.cell? ⟨gb364,1,none⟩ = some (.slice Ao19 t359.length co19)) ∧ (Kd.R (Kd.int .i64) 3 w' w.heap.size (fun k_=>some k_ ≠ (s_.1:Value).ownBlock) (.slice Ao19 t359.length co19) t359) ∧ (Kd.R (Kd.int .i64) 3 w' w.heap.size (fun k_=>some k_ ≠ (.slice Ao19 t359.length co19:Value).ownBlock) s_.1 y374) ∧ (∃ c_,(s_.1:Value) = .slice (some s_.2) y374.length c_) ∧ (w'.heap[gb353]? = some (.cells #[.int .i64 t358,.slice Ao19 t359.length co19] 24 (0,0))) ∧ (w'.heap[gb364]? = some (.cells #[.int .i64 t358,.slice Ao19 t359.length co19] 24 (0,0))) ∧ (IsS62 w w' g357 t354 t378 t379) ∧ (Below w.heap.size w w')) ?_ ?_
 rotate_left
 ·intro hJ11_13_15_16
  refine join_ (σ:=Value × Addr) 3 spec_DrawMinsSet.m14 (fun s_=>[(22,s_.1),(24,.int .i64 t377),(26,.int .i64 (rd y374 t377)),(25,.pointer (some (s_.2.add (t377).toNat)))]) (fun s_ w'=>(w'.cell? ⟨gb364,0,none⟩ = some (.int .i64 t358) ∧ w'.cell? ⟨gb364,1,none⟩ = some (.slice Ao19 t359.length co19)) ∧ (Kd.R (Kd.int .i64) 3 w' w.heap.size (fun k_=>some k_ ≠ (s_.1:Value).ownBlock) (.slice Ao19 t359.length co19) t359) ∧ (Kd.R (Kd.int .i64) 3 w' w.heap.size (fun k_=>some k_ ≠ (.slice Ao19 t359.length co19:Value).ownBlock) s_.1 y374) ∧ (∃ c_,(s_.1:Value) = .slice (some s_.2) y374.length c_) ∧ (w'.heap[gb353]? = some (.cells #[.int .i64 0,.slice none 0 0] 24 (0,0))) ∧ (w'.heap[gb364]? = some (.cells #[.int .i64 t358,.slice Ao19 t359.length co19] 24 (0,0))) ∧ (IsS62 w w' g357 t354 t378 t379) ∧ (Below w.heap.size w w')) ?_ ?_
  rotate_left
  ·intro hJ11_13_15
   refine join_ (σ:=Value × Addr) 2 spec_DrawMinsSet.m15 (fun s_=>[(22,s_.1),(24,.int .i64 t377),(25,.pointer (some (s_.2.add (t377).toNat))),(3,.int .i64 t365)]) (fun s_ w'=>(w'.cell? ⟨gb364,0,none⟩ = some (.int .i64 t358) ∧ w'.cell? ⟨gb364,1,none⟩ = some (.slice Ao19 t359.length co19)) ∧ (Kd.R (Kd.int .i64) 3 w' w.heap.size (fun k_=>some k_ ≠ (s_.1:Value).ownBlock) (.slice Ao19 t359.length co19) t359) ∧ (Kd.R (Kd.int .i64) 3 w' w.heap.size (fun k_=>some k_ ≠ (.slice Ao19 t359.length co19:Value).ownBlock) s_.1 y374) ∧ (∃ c_,(s_.1:Value) = .slice (some s_.2) y374.length c_) ∧ (w'.heap[gb353]? = some (.cells #[.int .i64 t358,.slice Ao19 t359.length co19] 24 (0,0))) ∧ (w'.heap[gb364]? = some (.cells #[.int .i64 t358,.slice Ao19 t359.length co19] 24 (0,0))) ∧ (IsS62 w w' g357 t354 t378 t379) ∧ (Below w.heap.size w w')) ?_ ?_
   rotate_left
   ·intro hJ11_13_16
    refine join_ (σ:=Value × Addr) 4 spec_DrawMinsSet.m16 (fun s_=>[(22,s_.1),(24,.int .i64 t377),(25,.pointer (some (s_.2.add (t377).toNat)))]) (fun s_ w'=>(w'.cell? ⟨gb364,0,none⟩ = some (.int .i64 t358) ∧ w'.cell? ⟨gb364,1,none⟩ = some (.slice Ao19 t359.length co19)) ∧ (Kd.R (Kd.int .i64) 3 w' w.heap.size (fun k_=>some k_ ≠ (s_.1:Value).ownBlock) (.slice Ao19 t359.length co19) t359) ∧ (Kd.R (Kd.int .i64) 3 w' w.heap.size (fun k_=>some k_ ≠ (.slice Ao19 t359.length co19:Value).ownBlock) s_.1 y374) ∧ (∃ c_,(s_.1:Value) = .slice (some s_.2) y374.length c_) ∧ (w'.heap[gb353]? = some (.cells #[.int .i64 0,.slice none 0 0] 24 (0,0))) ∧ (w'.heap[gb364]? = some (.cells #[.int .i64 t358,.slice Ao19 t359.length co19] 24 (0,0))) ∧ (IsS62 w w' g357 t354 t378 t379) ∧ (Below w.heap.size w w')) ?_ ?_
    rotate_left
    ·intro hJ11_13
     refine join_ (σ:=Unit) 4 spec_DrawMinsSet.m17 (fun s_=>[(24,.int .i64 t377),(3,.int .i64 t365)]) (fun s_ w'=>(w'.cell? ⟨gb364,0,none⟩ = some (.int .i64 t358) ∧ w'.cell? ⟨gb364,1,none⟩ = some (.slice Ao19 t359.length co19)) ∧ (Kd.R (Kd.int .i64) 3 w' w.heap.size (fun _=>True) (.slice Ao19 t359.length co19) t359) ∧ (w'.heap[gb353]? = some (.cells #[.int .i64 t358,.slice Ao19 t359.length co19] 24 (0,0))) ∧ (w'.heap[gb364]? = some (.cells #[.int .i64 t358,.slice Ao19 t359.length co19] 24 (0,0))) ∧ (IsS62 w w' g357 t354 t378 t379) ∧ (Below w.heap.size w w')) ?_ ?_
     rotate_left
     ·intro hJ13_16
      refine join_ (σ:=Value × Addr) 6 spec_DrawMinsSet.m18 (fun s_=>[(22,s_.1)]) (fun s_ w'=>(w'.cell? ⟨gb364,0,none⟩ = some (.int .i64 t358) ∧ w'.cell? ⟨gb364,1,none⟩ = some (.slice Ao19 t359.length co19)) ∧ (Kd.R (Kd.int .i64) 3 w' w.heap.size (fun k_=>some k_ ≠ (s_.1:Value).ownBlock) (.slice Ao19 t359.length co19) t359) ∧ (Kd.R (Kd.int .i64) 3 w' w.heap.size (fun k_=>some k_ ≠ (.slice Ao19 t359.length co19:Value).ownBlock) s_.1 y374) ∧ (∃ c_,(s_.1:Value) = .slice (some s_.2) y374.length c_) ∧ (w'.heap[gb353]? = some (.cells #[.int .i64 0,.slice none 0 0] 24 (0,0))) ∧ (w'.heap[gb364]? = some (.cells #[.int .i64 t358,.slice Ao19 t359.length co19] 24 (0,0))) ∧ (IsS62 w w' g357 t354 t372 t373) ∧ (Below w.heap.size w w')) ?_ ?_
      rotate_left
      ·intro hJ11
       refine join_ (σ:=Unit) 6 spec_DrawMinsSet.m19 (fun s_=>[(24,.int .i64 t377)]) (fun s_ w'=>(w'.cell? ⟨gb364,0,none⟩ = some (.int .i64 t358) ∧ w'.cell? ⟨gb364,1,none⟩ = some (.slice Ao19 t359.length co19)) ∧ (Kd.R (Kd.int .i64) 3 w' w.heap.size (fun _=>True) (.slice Ao19 t359.length co19) t359) ∧ (w'.heap[gb353]? = some (.cells #[.int .i64 0,.slice none 0 0] 24 (0,0))) ∧ (w'.heap[gb364]? = some (.cells #[.int .i64 t358,.slice Ao19 t359.length co19] 24 (0,0))) ∧ (IsS62 w w' g357 t354 t378 t379) ∧ (Below w.heap.size w w')) ?_ ?_
       rotate_left
       ·intro hJ13
        refine two_ (i:=11) (j:=13) (Ni:=some 22) (Nj:=some 24) spec_DrawMinsSet.m18 spec_DrawMinsSet.m19 rfl rfl rfl rfl (two_of HT_.out (by kernel_rfl)) (by decide) (by decide) (fun K hK=>?_) (fun K hK=>?_)
        ·skip
         refine Kd.R_lit_step (Kd.int .i64) _ 3 ?hg (N:=22) ?hd (xs:=([t368,t371,1000001]:List Int)) (inner:=[.int .i64 t368,.int .i64 t371,.int .i64 1000001]) (ok:=fun _=>True) (okp:=fun _=>True) ?hr ?hp (fun _ hk=>hk) trivial (Below.refl _ _) (Nat.le_refl _) (by simp) ?_;(case hd=>rfl);(case hg=>rfl);(case hr=>first|(go_simp;done)|(go_simp;rfl));(case hp=>exact (Reps.one (show Kd.M (Kd.int .i64) _ _ _ t368 [.int .i64 t368] from rfl) (Reps.one (show Kd.M (Kd.int .i64) _ _ _ t371 [.int .i64 t371] from rfl) (Reps.one (show Kd.M (Kd.int .i64) _ _ _ 1000001 [.int .i64 1000001] from rfl) (Reps.none _ _)))))
         intro v375 w25 ho26 hb hg_ hnew_
         clear hg_ hnew_
         (first|rw [← Ny374.out] at ho26|(simp only [Int.reduceToNat] at ho26;rw [← Ny374.out] at ho26))
         have n0_:=mk0 (Kd.R_elder' (by (with_reducible repeat (first|apply aR|apply nR|apply dR));exact HO361.out) (Kd.R_base ho26) hb)
         have n1_:=mk0 (Kd.R_lower (Kd.R_new' ho26 (Kd.R_lt (by (with_reducible repeat (first|apply aR|apply nR|apply dR));exact HO361.out))) (below_size (by repeat (first|(with_reducible first|exact HB.out|apply aZ|apply nZ|apply dZ|refine sZ ?_ (IsS62.ge HI357.out)|refine sZ ?_ GE353.out|refine sZ ?_ GE364.out)|exact HB.out))))
         have n2_:=mk0 (blk_below (g:=gb353) (o:=.cells #[.int .i64 0,.slice none 0 0] 24 (0,0)) (by (with_reducible repeat (first|apply nB|apply dB|apply aB));exact BK353.out) hb)
         have n3_:=mk0 (IsS62.below (by repeat (first|(with_reducible first|exact HI357.out|apply IsS62.alloc|apply IsS62.drewN|apply IsS62.drew|apply IsS62.set_1|apply IsS62.set_2|refine IsS62.far ?_ NB357_353.out _|refine IsS62.far ?_ NB357_364.out _)|exact HI357.out)) hb)
         have n4_:=mk0 (blk_below (g:=gb364) (o:=.cells #[.int .i64 t358,.slice Ao19 t359.length co19] 24 (0,0)) (by (with_reducible repeat (first|apply nB|apply dB|apply aB));exact BK364.out) hb)
         have n5_:=mk0 (below_step (by repeat (first|(with_reducible first|exact HB.out|apply aZ|apply nZ|apply dZ|refine sZ ?_ (IsS62.ge HI357.out)|refine sZ ?_ GE353.out|refine sZ ?_ GE364.out)|exact HB.out)) hb)
         clear HO361
         clear BK353
         clear HI357
         clear BK364
         clear HB
         have HO361:=n0_
         have HO376:=n1_
         have BK353:=n2_
         have HI357:=n3_
         have BK364:=n4_
         have HB:=n5_
         clear n0_ n1_ n2_ n3_ n4_ n5_
         clear hb ho26
         obtain⟨Ao27,co27,eo27⟩:=Kd.R_slice HO376.out
         subst eo27
         obtain⟨ado27,fo27,_⟩:=Kd.at_int (Kd.R_reads' HO376.out).2.2 0 (by decide) (by rw [Ny374.out];simp)
         cases fo27
         refine hK.out _ _ ⟨(blk_cell BK364.out 0).trans rfl,(blk_cell BK364.out 1).trans rfl⟩ (fun hHeld=>?_)
         clear hK K
         refine norm_ (a':=?_) ?_ ?_
         rotate_left
         ·show Act.put _ (some 22) _ = _
          simp only [Act.put,sA,sO,sS,i64_w,i32_w]
          rfl
         exact norm_ (by first|(simp only [putAll,Act.put,sA,sO,sS];done)|(simp only [putAll,Act.put,sA,sO,sS];rfl)) (hJ11 (.slice (some ado27) y374.length co27,ado27) _ ⟨hHeld,(by (with_reducible repeat (first|apply aR|apply nR|apply dR));exact Kd.R_mono HO361.out (fun _ hk=>hk.2)),(by (with_reducible repeat (first|apply aR|apply nR|apply dR));exact Kd.R_mono HO376.out (fun _ hk=>hk.2)),⟨_,rfl⟩,(by (with_reducible repeat (first|apply nB|apply dB|apply aB));exact BK353.out),(by (with_reducible repeat (first|apply nB|apply dB|apply aB));exact BK364.out),(by repeat (first|(with_reducible first|exact HI357.out|apply IsS62.alloc|apply IsS62.drewN|apply IsS62.drew|apply IsS62.set_1|apply IsS62.set_2|refine IsS62.far ?_ NB357_353.out _|refine IsS62.far ?_ NB357_364.out _)|exact HI357.out)),(by repeat (first|(with_reducible first|exact HB.out|apply aZ|apply nZ|apply dZ|refine sZ ?_ (IsS62.ge HI357.out)|refine sZ ?_ GE353.out|refine sZ ?_ GE364.out)|exact HB.out))⟩)
        ·skip
         refine goes_ Try.func52 (by kernel_rfl) rfl #[.pointer (some ⟨g357,0,none⟩),.int .i64 3] (by rfl) rfl rfl (by (try simp only [mA,mC,mN]);first|done|rfl|(simp only [List.length_drop,List.length_take];rfl)) ?_
         with_reducible refine (spec_l01Cur_pick.calls g357 t354 t372 t373 3 t377 t378 t379 w _ ?side1 ?side2 A9.out).mono ?_
         (case side1=>repeat (first|(with_reducible first|exact HI357.out|apply IsS62.alloc|apply IsS62.drewN|apply IsS62.drew|apply IsS62.set_1|apply IsS62.set_2|refine IsS62.far ?_ NB357_353.out _|refine IsS62.far ?_ NB357_364.out _)|exact HI357.out))
         (case side2=>repeat (first|(with_reducible first|exact HB.out|apply aZ|apply nZ|apply dZ|refine sZ ?_ (IsS62.ge HI357.out)|refine sZ ?_ GE353.out|refine sZ ?_ GE364.out)|exact HB.out))
         rintro e w25 ⟨rfl,hi,hb,hk⟩
         refine⟨_,rfl,?_⟩
         have n0_:=mk0 (KeepBut.blk hk (g':=gb353) (o:=.cells #[.int .i64 0,.slice none 0 0] 24 (0,0)) (by (with_reducible repeat (first|apply nB|apply dB|apply aB));exact BK353.out) NB353_357.out (by simp))
         have n1_:=mk0 (Kd.R_mono (Kd.R_keep (IsS62.apart (show IsS62 w _ g357 t354 t372 t373 from by repeat (first|(with_reducible first|exact HI357.out|apply IsS62.alloc|apply IsS62.drewN|apply IsS62.drew|apply IsS62.set_1|apply IsS62.set_2|refine IsS62.far ?_ NB357_353.out _|refine IsS62.far ?_ NB357_364.out _)|exact HI357.out)) (by (with_reducible repeat (first|apply aR|apply nR|apply dR));exact HO361.out) (by decide)) hk (fun _ h=>h.2)) (fun _ h=>h.1))
         have n2_:=mk0 (KeepBut.blk hk (g':=gb364) (o:=.cells #[.int .i64 t358,.slice Ao19 t359.length co19] 24 (0,0)) (by (with_reducible repeat (first|apply nB|apply dB|apply aB));exact BK364.out) NB364_357.out (by simp))
         have n3_:=mk0 (hb)
         have n4_:=mk0 (hi)
         clear BK353
         clear HO361
         clear BK364
         clear HB
         clear HI357
         have BK353:=n0_
         have HO361:=n1_
         have BK364:=n2_
         have HB:=n3_
         have HI357:=n4_
         clear n0_ n1_ n2_ n3_ n4_
         (try clear hb)
         (try clear hb2)
         (try clear hk)
         (try clear hi)
         refine hK.out _ _ ⟨(blk_cell BK364.out 0).trans rfl,(blk_cell BK364.out 1).trans rfl⟩ (fun hHeld=>?_)
         clear hK K
         refine norm_ (a':=?_) ?_ ?_
         rotate_left
         ·show Act.put _ (some 24) _ = _
          simp only [Act.put,sA,sO,sS,i64_w,i32_w]
          rfl
         exact norm_ (by first|(simp only [putAll,Act.put,sA,sO,sS];done)|(simp only [putAll,Act.put,sA,sO,sS];rfl)) (hJ13 () _ ⟨hHeld,(by (with_reducible repeat (first|apply aR|apply nR|apply dR));exact HO361.out),(by (with_reducible repeat (first|apply nB|apply dB|apply aB));exact BK353.out),(by (with_reducible repeat (first|apply nB|apply dB|apply aB));exact BK364.out),(by repeat (first|(with_reducible first|exact HI357.out|apply IsS62.alloc|apply IsS62.drewN|apply IsS62.drew|apply IsS62.set_1|apply IsS62.set_2|refine IsS62.far ?_ NB357_353.out _|refine IsS62.far ?_ NB357_364.out _)|exact HI357.out)),(by repeat (first|(with_reducible first|exact HB.out|apply aZ|apply nZ|apply dZ|refine sZ ?_ (IsS62.ge HI357.out)|refine sZ ?_ GE353.out|refine sZ ?_ GE364.out)|exact HB.out))⟩)
       ·skip
        rintro _ w26 ⟨hS_,h0_,h1_,h2_,h3_,h4_⟩
        have n0_:Aside0 (Kd.R (Kd.int .i64) 3 w26 w.heap.size (fun _=>True) (.slice Ao19 t359.length co19) t359):=⟨h0_⟩
        have n1_:Aside0 (w26.heap[gb353]? = some (.cells #[.int .i64 0,.slice none 0 0] 24 (0,0))):=⟨h1_⟩
        have n2_:Aside0 (w26.heap[gb364]? = some (.cells #[.int .i64 t358,.slice Ao19 t359.length co19] 24 (0,0))):=⟨h2_⟩
        have n3_:Aside0 (IsS62 w w26 g357 t354 t378 t379):=⟨h3_⟩
        have n4_:Aside0 (Below w.heap.size w w26):=⟨h4_⟩
        clear HO361
        clear BK353
        clear BK364
        clear HI357
        clear HB
        clear h0_ h1_ h2_ h3_ h4_
        have HO361:=n0_
        have BK353:=n1_
        have BK364:=n2_
        have HI357:=n3_
        have HB:=n4_
        clear n0_ n1_ n2_ n3_ n4_
        have hHeld:w26.cell? ⟨gb364,0,none⟩ = some (.int .i64 t358) ∧ w26.cell? ⟨gb364,1,none⟩ = some (.slice Ao19 t359.length co19):=hS_
        refine norm_ (a':=?_) ?_ ?_
        rotate_left
        ·simp only [putAll,Act.put,sA,sO,sS]
         rfl
        refine two_ (i:=11) (j:=16) (Ni:=some 22) (Nj:=none) spec_DrawMinsSet.m20 spec_DrawMinsSet.m21 rfl rfl rfl rfl (two_of HT_.out (by kernel_rfl)) (by decide) (by decide) (fun K hK=>?_) (fun K hK=>?_)
        ·skip
         refine Kd.R_lit_step (Kd.int .i64) _ 3 ?hg (N:=22) ?hd (xs:=([t368,t371,1000001]:List Int)) (inner:=[.int .i64 t368,.int .i64 t371,.int .i64 1000001]) (ok:=fun _=>True) (okp:=fun _=>True) ?hr ?hp (fun _ hk=>hk) trivial (Below.refl _ _) (Nat.le_refl _) (by simp) ?_;(case hd=>rfl);(case hg=>rfl);(case hr=>first|(go_simp;done)|(go_simp;rfl));(case hp=>exact (Reps.one (show Kd.M (Kd.int .i64) _ _ _ t368 [.int .i64 t368] from rfl) (Reps.one (show Kd.M (Kd.int .i64) _ _ _ t371 [.int .i64 t371] from rfl) (Reps.one (show Kd.M (Kd.int .i64) _ _ _ 1000001 [.int .i64 1000001] from rfl) (Reps.none _ _)))))
         intro v375 w27 ho28 hb hg_ hnew_
         clear hg_ hnew_
         (first|rw [← Ny374.out] at ho28|(simp only [Int.reduceToNat] at ho28;rw [← Ny374.out] at ho28))
         have n0_:=mk0 (Kd.R_elder' (by (with_reducible repeat (first|apply aR|apply nR|apply dR));exact HO361.out) (Kd.R_base ho28) hb)
         have n1_:=mk0 (Kd.R_lower (Kd.R_new' ho28 (Kd.R_lt (by (with_reducible repeat (first|apply aR|apply nR|apply dR));exact HO361.out))) (below_size (by repeat (first|(with_reducible first|exact HB.out|apply aZ|apply nZ|apply dZ|refine sZ ?_ (IsS62.ge HI357.out)|refine sZ ?_ GE353.out|refine sZ ?_ GE364.out)|exact HB.out))))
         have n2_:=mk0 (blk_below (g:=gb353) (o:=.cells #[.int .i64 0,.slice none 0 0] 24 (0,0)) (by (with_reducible repeat (first|apply nB|apply dB|apply aB));exact BK353.out) hb)
         have n3_:=mk0 (IsS62.below (by repeat (first|(with_reducible first|exact HI357.out|apply IsS62.alloc|apply IsS62.drewN|apply IsS62.drew|apply IsS62.set_1|apply IsS62.set_2|refine IsS62.far ?_ NB357_353.out _|refine IsS62.far ?_ NB357_364.out _)|exact HI357.out)) hb)
         have n4_:=mk0 (blk_below (g:=gb364) (o:=.cells #[.int .i64 t358,.slice Ao19 t359.length co19] 24 (0,0)) (by (with_reducible repeat (first|apply nB|apply dB|apply aB));exact BK364.out) hb)
         have n5_:=mk0 (below_step (by repeat (first|(with_reducible first|exact HB.out|apply aZ|apply nZ|apply dZ|refine sZ ?_ (IsS62.ge HI357.out)|refine sZ ?_ GE353.out|refine sZ ?_ GE364.out)|exact HB.out)) hb)
         clear HO361
         clear BK353
         clear HI357
         clear BK364
         clear HB
         have HO361:=n0_
         have HO376:=n1_
         have BK353:=n2_
         have HI357:=n3_
         have BK364:=n4_
         have HB:=n5_
         clear n0_ n1_ n2_ n3_ n4_ n5_
         clear hb ho28
         obtain⟨Ao29,co29,eo29⟩:=Kd.R_slice HO376.out
         subst eo29
         obtain⟨ado29,fo29,_⟩:=Kd.at_int (Kd.R_reads' HO376.out).2.2 0 (by decide) (by rw [Ny374.out];simp)
         cases fo29
         refine hK.out _ _ ⟨(blk_cell BK364.out 0).trans rfl,(blk_cell BK364.out 1).trans rfl⟩ (fun hHeld=>?_)
         clear hK K
         refine norm_ (a':=?_) ?_ ?_
         rotate_left
         ·show Act.put _ (some 22) _ = _
          simp only [Act.put,sA,sO,sS,i64_w,i32_w]
          rfl
         refine pure_ (i:=14) (N:=some 25) (v:=?_) (a':=?_) spec_DrawMinsSet.m16 rfl rfl (any_of HT_.out (by kernel_rfl)) (fun _ _ _ h=>h) (Or.inl ⟨by rfl,?_⟩) ?_ ?_
         rotate_left
         ·intro w'
          go_simp
          with_reducible rfl
         rotate_left
         ·simp only [Act.put,sA,sO,sS,i64_w,i32_w]
          rfl
         exact norm_ (by first|(simp only [putAll,Act.put,sA,sO,sS];done)|(simp only [putAll,Act.put,sA,sO,sS];rfl)) (hJ11_13 (.slice (some ado29) y374.length co29,ado29) _ ⟨hHeld,(by (with_reducible repeat (first|apply aR|apply nR|apply dR));exact Kd.R_mono HO361.out (fun _ hk=>hk.2)),(by (with_reducible repeat (first|apply aR|apply nR|apply dR));exact Kd.R_mono HO376.out (fun _ hk=>hk.2)),⟨_,rfl⟩,(by (with_reducible repeat (first|apply nB|apply dB|apply aB));exact BK353.out),(by (with_reducible repeat (first|apply nB|apply dB|apply aB));exact BK364.out),(by repeat (first|(with_reducible first|exact HI357.out|apply IsS62.alloc|apply IsS62.drewN|apply IsS62.drew|apply IsS62.set_1|apply IsS62.set_2|refine IsS62.far ?_ NB357_353.out _|refine IsS62.far ?_ NB357_364.out _)|exact HI357.out)),(by repeat (first|(with_reducible first|exact HB.out|apply aZ|apply nZ|apply dZ|refine sZ ?_ (IsS62.ge HI357.out)|refine sZ ?_ GE353.out|refine sZ ?_ GE364.out)|exact HB.out))⟩)
        ·skip
         have hs27:w26.cell? ⟨gb353,0,none⟩ = some (.int .i64 0):=(blk_cell BK353.out 0).trans rfl
         have hfs27:=blk_frozen BK353.out 0
         have hns27_1:=NB364_353.out
         have hms27_1:=NB353_364.out
         have hs28:w26.cell? ⟨gb353,1,none⟩ = some (.slice none 0 0):=(blk_cell BK353.out 1).trans rfl
         have hfs28:=blk_frozen BK353.out 1
         have hns28_1:=NB364_353.out
         have hms28_1:=NB353_364.out
         refine skip_ (w1:=?_) (by rfl) rfl ?_ ?_
         rotate_left
         ·go_simp
          rfl
         refine hK.out _ _ ⟨((cell_far (p:=⟨gb353,_,none⟩) NB364_353.out _).trans (((cell_far (p:=⟨gb353,_,none⟩) NB364_353.out _).trans (hHeld.1)))),((cell_far (p:=⟨gb353,_,none⟩) NB364_353.out _).trans (((cell_far (p:=⟨gb353,_,none⟩) NB364_353.out _).trans (hHeld.2))))⟩ (fun hHeld=>?_)
         clear hK K
         refine pure_ (i:=17) (N:=some 3) (v:=?_) (a':=?_) spec_DrawMinsSet.m17 rfl rfl (any_of HT_.out (by kernel_rfl)) (fun _ _ _ h=>h) (Or.inl ⟨by rfl,?_⟩) ?_ ?_
         rotate_left
         ·intro w'
          go_simp
          with_reducible rfl
         rotate_left
         ·simp only [Act.put,sA,sO,sS,i64_w,i32_w]
          rfl
         exact norm_ (by first|(simp only [putAll,Act.put,sA,sO,sS];done)|(simp only [putAll,Act.put,sA,sO,sS];rfl)) (hJ13_16 () _ ⟨hHeld,(by (with_reducible repeat (first|apply aR|apply nR|apply dR));exact Kd.R_mono (Kd.R_far (p:=⟨gb353,1,none⟩) (Kd.R_far (p:=⟨gb353,0,none⟩) (Kd.R_types HO361.out BK353.out (by decide)) (fun _ hk=>hk.2) (.int .i64 t358)) (fun _ hk=>hk.2) (.slice Ao19 t359.length co19)) (fun _ hk=>trivial)),(by (with_reducible repeat (first|apply nB|apply dB|apply aB));refine blk_put (cs:=#[.int .i64 t358,.slice none 0 0]) ?_ 1 _ rfl;(with_reducible repeat (first|apply nB|apply dB|apply aB));refine blk_put (cs:=#[.int .i64 0,.slice none 0 0]) ?_ 0 _ rfl;(with_reducible repeat (first|apply nB|apply dB|apply aB));exact BK353.out),(by (with_reducible repeat (first|apply nB|apply dB|apply aB));refine blk_far ?_ NB364_353.out _;(with_reducible repeat (first|apply nB|apply dB|apply aB));refine blk_far ?_ NB364_353.out _;(with_reducible repeat (first|apply nB|apply dB|apply aB));exact BK364.out),(by repeat (first|(with_reducible first|exact HI357.out|apply IsS62.alloc|apply IsS62.drewN|apply IsS62.drew|apply IsS62.set_1|apply IsS62.set_2|refine IsS62.far ?_ NB357_353.out _|refine IsS62.far ?_ NB357_364.out _)|exact HI357.out)),(by repeat (first|(with_reducible first|exact HB.out|apply aZ|apply nZ|apply dZ|refine sZ ?_ (IsS62.ge HI357.out)|refine sZ ?_ GE353.out|refine sZ ?_ GE364.out)|exact HB.out))⟩)
      ·skip
       rintro⟨v375,adz_v375⟩ w28 ⟨hS_,h0_,h1_,h2_,h3_,h4_,h5_,h6_⟩
       have n0_:Aside0 (Kd.R (Kd.int .i64) 3 w28 w.heap.size (fun k_=>some k_ ≠ (v375:Value).ownBlock) (.slice Ao19 t359.length co19) t359):=⟨h0_⟩
       have n1_:Aside0 (Kd.R (Kd.int .i64) 3 w28 w.heap.size (fun k_=>some k_ ≠ (.slice Ao19 t359.length co19:Value).ownBlock) v375 y374):=⟨h1_⟩
       have n2_:Aside0 (∃ c_,(v375:Value) = .slice (some adz_v375) y374.length c_):=⟨h2_⟩
       have n3_:Aside0 (w28.heap[gb353]? = some (.cells #[.int .i64 0,.slice none 0 0] 24 (0,0))):=⟨h3_⟩
       have n4_:Aside0 (w28.heap[gb364]? = some (.cells #[.int .i64 t358,.slice Ao19 t359.length co19] 24 (0,0))):=⟨h4_⟩
       have n5_:Aside0 (IsS62 w w28 g357 t354 t372 t373):=⟨h5_⟩
       have n6_:Aside0 (Below w.heap.size w w28):=⟨h6_⟩
       clear HO361
       clear BK353
       clear BK364
       clear HI357
       clear HB
       clear h0_ h1_ h2_ h3_ h4_ h5_ h6_
       have HO361:=n0_
       have HO376:=n1_
       have HA_HO376:=n2_
       have BK353:=n3_
       have BK364:=n4_
       have HI357:=n5_
       have HB:=n6_
       clear n0_ n1_ n2_ n3_ n4_ n5_ n6_
       have hHeld:w28.cell? ⟨gb364,0,none⟩ = some (.int .i64 t358) ∧ w28.cell? ⟨gb364,1,none⟩ = some (.slice Ao19 t359.length co19):=hS_
       obtain⟨co29,eo29⟩:=HA_HO376.out
       clear HA_HO376
       subst eo29
       refine norm_ (a':=?_) ?_ ?_
       rotate_left
       ·simp only [putAll,Act.put,sA,sO,sS]
        rfl
       refine one_ (i:=13) (N:=some 24) spec_DrawMinsSet.m20 rfl rfl (one_of HT_.out (by kernel_rfl)) (by decide) (fun K hK=>?_)
       refine goes_ Try.func52 (by kernel_rfl) rfl #[.pointer (some ⟨g357,0,none⟩),.int .i64 3] (by rfl) rfl rfl (by (try simp only [mA,mC,mN]);first|done|rfl|(simp only [List.length_drop,List.length_take];rfl)) ?_
       with_reducible refine (spec_l01Cur_pick.calls g357 t354 t372 t373 3 t377 t378 t379 w _ ?side1 ?side2 A9.out).mono ?_
       (case side1=>repeat (first|(with_reducible first|exact HI357.out|apply IsS62.alloc|apply IsS62.drewN|apply IsS62.drew|apply IsS62.set_1|apply IsS62.set_2|refine IsS62.far ?_ NB357_353.out _|refine IsS62.far ?_ NB357_364.out _)|exact HI357.out))
       (case side2=>repeat (first|(with_reducible first|exact HB.out|apply aZ|apply nZ|apply dZ|refine sZ ?_ (IsS62.ge HI357.out)|refine sZ ?_ GE353.out|refine sZ ?_ GE364.out)|exact HB.out))
       rintro e w30 ⟨rfl,hi,hb,hk⟩
       refine⟨_,rfl,?_⟩
       have n0_:=mk0 (KeepBut.blk hk (g':=gb353) (o:=.cells #[.int .i64 0,.slice none 0 0] 24 (0,0)) (by (with_reducible repeat (first|apply nB|apply dB|apply aB));exact BK353.out) NB353_357.out (by simp))
       have n1_:=mk0 (Kd.R_mono (Kd.R_keep (IsS62.apart (show IsS62 w _ g357 t354 t372 t373 from by repeat (first|(with_reducible first|exact HI357.out|apply IsS62.alloc|apply IsS62.drewN|apply IsS62.drew|apply IsS62.set_1|apply IsS62.set_2|refine IsS62.far ?_ NB357_353.out _|refine IsS62.far ?_ NB357_364.out _)|exact HI357.out)) (by (with_reducible repeat (first|apply aR|apply nR|apply dR));exact HO361.out) (by decide)) hk (fun _ h=>h.2)) (fun _ h=>h.1))
       have n2_:=mk0 (KeepBut.blk hk (g':=gb364) (o:=.cells #[.int .i64 t358,.slice Ao19 t359.length co19] 24 (0,0)) (by (with_reducible repeat (first|apply nB|apply dB|apply aB));exact BK364.out) NB364_357.out (by simp))
       have n3_:=mk0 (Kd.R_mono (Kd.R_keep (IsS62.apart (show IsS62 w _ g357 t354 t372 t373 from by repeat (first|(with_reducible first|exact HI357.out|apply IsS62.alloc|apply IsS62.drewN|apply IsS62.drew|apply IsS62.set_1|apply IsS62.set_2|refine IsS62.far ?_ NB357_353.out _|refine IsS62.far ?_ NB357_364.out _)|exact HI357.out)) (by (with_reducible repeat (first|apply aR|apply nR|apply dR));exact HO376.out) (by decide)) hk (fun _ h=>h.2)) (fun _ h=>h.1))
       have n4_:=mk0 (hb)
       have n5_:=mk0 (hi)
       clear BK353
       clear HO361
       clear BK364
       clear HO376
       clear HB
       clear HI357
       have BK353:=n0_
       have HO361:=n1_
       have BK364:=n2_
       have HO376:=n3_
       have HB:=n4_
       have HI357:=n5_
       clear n0_ n1_ n2_ n3_ n4_ n5_
       (try clear hb)
       (try clear hb2)
       (try clear hk)
       (try clear hi)
       refine hK.out _ _ ⟨(blk_cell BK364.out 0).trans rfl,(blk_cell BK364.out 1).trans rfl⟩ (fun hHeld=>?_)
       clear hK K
       refine norm_ (a':=?_) ?_ ?_
       rotate_left
       ·show Act.put _ (some 24) _ = _
        simp only [Act.put,sA,sO,sS,i64_w,i32_w]
        rfl
       refine pure_ (i:=14) (N:=some 25) (v:=?_) (a':=?_) spec_DrawMinsSet.m16 rfl rfl (any_of HT_.out (by kernel_rfl)) (fun _ _ _ h=>h) (Or.inl ⟨by rfl,?_⟩) ?_ ?_
       rotate_left
       ·intro w'
        go_simp
        with_reducible rfl
       rotate_left
       ·simp only [Act.put,sA,sO,sS,i64_w,i32_w]
        rfl
       exact norm_ (by first|(simp only [putAll,Act.put,sA,sO,sS];done)|(simp only [putAll,Act.put,sA,sO,sS];rfl)) (hJ11_13 (.slice (some adz_v375) y374.length co29,adz_v375) _ ⟨hHeld,(by (with_reducible repeat (first|apply aR|apply nR|apply dR));exact HO361.out),(by (with_reducible repeat (first|apply aR|apply nR|apply dR));exact HO376.out),⟨_,rfl⟩,(by (with_reducible repeat (first|apply nB|apply dB|apply aB));exact BK353.out),(by (with_reducible repeat (first|apply nB|apply dB|apply aB));exact BK364.out),(by repeat (first|(with_reducible first|exact HI357.out|apply IsS62.alloc|apply IsS62.drewN|apply IsS62.drew|apply IsS62.set_1|apply IsS62.set_2|refine IsS62.far ?_ NB357_353.out _|refine IsS62.far ?_ NB357_364.out _)|exact HI357.out)),(by repeat (first|(with_reducible first|exact HB.out|apply aZ|apply nZ|apply dZ|refine sZ ?_ (IsS62.ge HI357.out)|refine sZ ?_ GE353.out|refine sZ ?_ GE364.out)|exact HB.out))⟩)
     ·skip
      rintro _ w28 ⟨hS_,h0_,h1_,h2_,h3_,h4_⟩
      have n0_:Aside0 (Kd.R (Kd.int .i64) 3 w28 w.heap.size (fun _=>True) (.slice Ao19 t359.length co19) t359):=⟨h0_⟩
      have n1_:Aside0 (w28.heap[gb353]? = some (.cells #[.int .i64 t358,.slice Ao19 t359.length co19] 24 (0,0))):=⟨h1_⟩
      have n2_:Aside0 (w28.heap[gb364]? = some (.cells #[.int .i64 t358,.slice Ao19 t359.length co19] 24 (0,0))):=⟨h2_⟩
      have n3_:Aside0 (IsS62 w w28 g357 t354 t378 t379):=⟨h3_⟩
      have n4_:Aside0 (Below w.heap.size w w28):=⟨h4_⟩
      clear HO361
      clear BK353
      clear BK364
      clear HI357
      clear HB
      clear h0_ h1_ h2_ h3_ h4_
      have HO361:=n0_
      have BK353:=n1_
      have BK364:=n2_
      have HI357:=n3_
      have HB:=n4_
      clear n0_ n1_ n2_ n3_ n4_
      have hHeld:w28.cell? ⟨gb364,0,none⟩ = some (.int .i64 t358) ∧ w28.cell? ⟨gb364,1,none⟩ = some (.slice Ao19 t359.length co19):=hS_
      refine norm_ (a':=?_) ?_ ?_
      rotate_left
      ·simp only [putAll,Act.put,sA,sO,sS]
       rfl
      refine one_ (i:=11) (N:=some 22) spec_DrawMinsSet.m22 rfl rfl (one_of HT_.out (by kernel_rfl)) (by decide) (fun K hK=>?_)
      refine Kd.R_lit_step (Kd.int .i64) _ 3 ?hg (N:=22) ?hd (xs:=([t368,t371,1000001]:List Int)) (inner:=[.int .i64 t368,.int .i64 t371,.int .i64 1000001]) (ok:=fun _=>True) (okp:=fun _=>True) ?hr ?hp (fun _ hk=>hk) trivial (Below.refl _ _) (Nat.le_refl _) (by simp) ?_;(case hd=>rfl);(case hg=>rfl);(case hr=>first|(go_simp;done)|(go_simp;rfl));(case hp=>exact (Reps.one (show Kd.M (Kd.int .i64) _ _ _ t368 [.int .i64 t368] from rfl) (Reps.one (show Kd.M (Kd.int .i64) _ _ _ t371 [.int .i64 t371] from rfl) (Reps.one (show Kd.M (Kd.int .i64) _ _ _ 1000001 [.int .i64 1000001] from rfl) (Reps.none _ _)))))
      intro v375 w29 ho30 hb hg_ hnew_
      clear hg_ hnew_
      (first|rw [← Ny374.out] at ho30|(simp only [Int.reduceToNat] at ho30;rw [← Ny374.out] at ho30))
      have n0_:=mk0 (Kd.R_elder' (by (with_reducible repeat (first|apply aR|apply nR|apply dR));exact HO361.out) (Kd.R_base ho30) hb)
      have n1_:=mk0 (Kd.R_lower (Kd.R_new' ho30 (Kd.R_lt (by (with_reducible repeat (first|apply aR|apply nR|apply dR));exact HO361.out))) (below_size (by repeat (first|(with_reducible first|exact HB.out|apply aZ|apply nZ|apply dZ|refine sZ ?_ (IsS62.ge HI357.out)|refine sZ ?_ GE353.out|refine sZ ?_ GE364.out)|exact HB.out))))
      have n2_:=mk0 (blk_below (g:=gb353) (o:=.cells #[.int .i64 t358,.slice Ao19 t359.length co19] 24 (0,0)) (by (with_reducible repeat (first|apply nB|apply dB|apply aB));exact BK353.out) hb)
      have n3_:=mk0 (IsS62.below (by repeat (first|(with_reducible first|exact HI357.out|apply IsS62.alloc|apply IsS62.drewN|apply IsS62.drew|apply IsS62.set_1|apply IsS62.set_2|refine IsS62.far ?_ NB357_353.out _|refine IsS62.far ?_ NB357_364.out _)|exact HI357.out)) hb)
      have n4_:=mk0 (blk_below (g:=gb364) (o:=.cells #[.int .i64 t358,.slice Ao19 t359.length co19] 24 (0,0)) (by (with_reducible repeat (first|apply nB|apply dB|apply aB));exact BK364.out) hb)
      have n5_:=mk0 (below_step (by repeat (first|(with_reducible first|exact HB.out|apply aZ|apply nZ|apply dZ|refine sZ ?_ (IsS62.ge HI357.out)|refine sZ ?_ GE353.out|refine sZ ?_ GE364.out)|exact HB.out)) hb)
      clear HO361
      clear BK353
      clear HI357
      clear BK364
      clear HB
      have HO361:=n0_
      have HO376:=n1_
      have BK353:=n2_
      have HI357:=n3_
      have BK364:=n4_
      have HB:=n5_
      clear n0_ n1_ n2_ n3_ n4_ n5_
      clear hb ho30
      obtain⟨Ao31,co31,eo31⟩:=Kd.R_slice HO376.out
      subst eo31
      obtain⟨ado31,fo31,_⟩:=Kd.at_int (Kd.R_reads' HO376.out).2.2 0 (by decide) (by rw [Ny374.out];simp)
      cases fo31
      refine hK.out _ _ ⟨(blk_cell BK364.out 0).trans rfl,(blk_cell BK364.out 1).trans rfl⟩ (fun hHeld=>?_)
      clear hK K
      refine norm_ (a':=?_) ?_ ?_
      rotate_left
      ·show Act.put _ (some 22) _ = _
       simp only [Act.put,sA,sO,sS,i64_w,i32_w]
       rfl
      refine pure_ (i:=14) (N:=some 25) (v:=?_) (a':=?_) spec_DrawMinsSet.m15 rfl rfl (any_of HT_.out (by kernel_rfl)) (fun _ _ _ h=>h) (Or.inl ⟨by rfl,?_⟩) ?_ ?_
      rotate_left
      ·intro w'
       go_simp
       with_reducible rfl
      rotate_left
      ·simp only [Act.put,sA,sO,sS,i64_w,i32_w]
       rfl
      exact norm_ (by first|(simp only [putAll,Act.put,sA,sO,sS];done)|(simp only [putAll,Act.put,sA,sO,sS];rfl)) (hJ11_13_16 (.slice (some ado31) y374.length co31,ado31) _ ⟨hHeld,(by (with_reducible repeat (first|apply aR|apply nR|apply dR));exact Kd.R_mono HO361.out (fun _ hk=>hk.2)),(by (with_reducible repeat (first|apply aR|apply nR|apply dR));exact Kd.R_mono HO376.out (fun _ hk=>hk.2)),⟨_,rfl⟩,(by (with_reducible repeat (first|apply nB|apply dB|apply aB));exact BK353.out),(by (with_reducible repeat (first|apply nB|apply dB|apply aB));exact BK364.out),(by repeat (first|(with_reducible first|exact HI357.out|apply IsS62.alloc|apply IsS62.drewN|apply IsS62.drew|apply IsS62.set_1|apply IsS62.set_2|refine IsS62.far ?_ NB357_353.out _|refine IsS62.far ?_ NB357_364.out _)|exact HI357.out)),(by repeat (first|(with_reducible first|exact HB.out|apply aZ|apply nZ|apply dZ|refine sZ ?_ (IsS62.ge HI357.out)|refine sZ ?_ GE353.out|refine sZ ?_ GE364.out)|exact HB.out))⟩)
    ·skip
     rintro⟨v375,adz_v375⟩ w29 ⟨hS_,h0_,h1_,h2_,h3_,h4_,h5_,h6_⟩
     have n0_:Aside0 (Kd.R (Kd.int .i64) 3 w29 w.heap.size (fun k_=>some k_ ≠ (v375:Value).ownBlock) (.slice Ao19 t359.length co19) t359):=⟨h0_⟩
     have n1_:Aside0 (Kd.R (Kd.int .i64) 3 w29 w.heap.size (fun k_=>some k_ ≠ (.slice Ao19 t359.length co19:Value).ownBlock) v375 y374):=⟨h1_⟩
     have n2_:Aside0 (∃ c_,(v375:Value) = .slice (some adz_v375) y374.length c_):=⟨h2_⟩
     have n3_:Aside0 (w29.heap[gb353]? = some (.cells #[.int .i64 0,.slice none 0 0] 24 (0,0))):=⟨h3_⟩
     have n4_:Aside0 (w29.heap[gb364]? = some (.cells #[.int .i64 t358,.slice Ao19 t359.length co19] 24 (0,0))):=⟨h4_⟩
     have n5_:Aside0 (IsS62 w w29 g357 t354 t378 t379):=⟨h5_⟩
     have n6_:Aside0 (Below w.heap.size w w29):=⟨h6_⟩
     clear HO361
     clear BK353
     clear BK364
     clear HI357
     clear HB
     clear h0_ h1_ h2_ h3_ h4_ h5_ h6_
     have HO361:=n0_
     have HO376:=n1_
     have HA_HO376:=n2_
     have BK353:=n3_
     have BK364:=n4_
     have HI357:=n5_
     have HB:=n6_
     clear n0_ n1_ n2_ n3_ n4_ n5_ n6_
     have hHeld:w29.cell? ⟨gb364,0,none⟩ = some (.int .i64 t358) ∧ w29.cell? ⟨gb364,1,none⟩ = some (.slice Ao19 t359.length co19):=hS_
     obtain⟨co30,eo30⟩:=HA_HO376.out
     clear HA_HO376
     subst eo30
     refine norm_ (a':=?_) ?_ ?_
     rotate_left
     ·simp only [putAll,Act.put,sA,sO,sS]
      rfl
     refine two_ (i:=15) (j:=16) (Ni:=some 26) (Nj:=none) spec_DrawMinsSet.m14 spec_DrawMinsSet.m23 rfl rfl rfl rfl (two_of HT_.out (by kernel_rfl)) (by decide) (by decide) (fun K hK=>?_) (fun K hK=>?_)
     ·skip
      (have p380:0 ≤ (t377:Int):=of_decide_eq_true (by first|(with_reducible assumption)|assumption);have q380:t377 < (y374.length:Int):=of_decide_eq_true (by first|(with_reducible assumption)|assumption);obtain⟨ad380,e380,hx380_0⟩:=Kd.at_int (Kd.R_reads' HO376.out).2.2 t377 p380 q380;obtain rfl:adz_v375 = ad380:=(by injection e380))
      refine value_ (w1:=?_) (v:=?_) (by rfl) rfl ?_ ?_
      rotate_left 2
      ·go_simp
       constructor
       ·rfl
       ·rfl
      clear hx380_0
      refine hK.out _ _ ⟨(blk_cell BK364.out 0).trans rfl,(blk_cell BK364.out 1).trans rfl⟩ (fun hHeld=>?_)
      clear hK K
      refine norm_ (a':=?_) ?_ ?_
      rotate_left
      ·show Act.put _ (some 26) _ = _
       simp only [Act.put,sA,sO,sS,i64_w,i32_w]
       rfl
      exact norm_ (by first|(simp only [putAll,Act.put,sA,sO,sS];done)|(simp only [putAll,Act.put,sA,sO,sS];rfl)) (hJ11_13_15 (.slice (some adz_v375) y374.length co30,adz_v375) _ ⟨hHeld,(by (with_reducible repeat (first|apply aR|apply nR|apply dR));exact HO361.out),(by (with_reducible repeat (first|apply aR|apply nR|apply dR));exact HO376.out),⟨_,rfl⟩,(by (with_reducible repeat (first|apply nB|apply dB|apply aB));exact BK353.out),(by (with_reducible repeat (first|apply nB|apply dB|apply aB));exact BK364.out),(by repeat (first|(with_reducible first|exact HI357.out|apply IsS62.alloc|apply IsS62.drewN|apply IsS62.drew|apply IsS62.set_1|apply IsS62.set_2|refine IsS62.far ?_ NB357_353.out _|refine IsS62.far ?_ NB357_364.out _)|exact HI357.out)),(by repeat (first|(with_reducible first|exact HB.out|apply aZ|apply nZ|apply dZ|refine sZ ?_ (IsS62.ge HI357.out)|refine sZ ?_ GE353.out|refine sZ ?_ GE364.out)|exact HB.out))⟩)
     ·skip
      have hs31:w29.cell? ⟨gb353,0,none⟩ = some (.int .i64 0):=(blk_cell BK353.out 0).trans rfl
      have hfs31:=blk_frozen BK353.out 0
      have hns31_1:=NB364_353.out
      have hms31_1:=NB353_364.out
      have hs32:w29.cell? ⟨gb353,1,none⟩ = some (.slice none 0 0):=(blk_cell BK353.out 1).trans rfl
      have hfs32:=blk_frozen BK353.out 1
      have hns32_1:=NB364_353.out
      have hms32_1:=NB353_364.out
      refine skip_ (w1:=?_) (by rfl) rfl ?_ ?_
      rotate_left
      ·go_simp
       rfl
      refine hK.out _ _ ⟨((cell_far (p:=⟨gb353,_,none⟩) NB364_353.out _).trans (((cell_far (p:=⟨gb353,_,none⟩) NB364_353.out _).trans (hHeld.1)))),((cell_far (p:=⟨gb353,_,none⟩) NB364_353.out _).trans (((cell_far (p:=⟨gb353,_,none⟩) NB364_353.out _).trans (hHeld.2))))⟩ (fun hHeld=>?_)
      clear hK K
      refine pure_ (i:=17) (N:=some 3) (v:=?_) (a':=?_) spec_DrawMinsSet.m15 rfl rfl (any_of HT_.out (by kernel_rfl)) (fun _ _ _ h=>h) (Or.inl ⟨by rfl,?_⟩) ?_ ?_
      rotate_left
      ·intro w'
       go_simp
       with_reducible rfl
      rotate_left
      ·simp only [Act.put,sA,sO,sS,i64_w,i32_w]
       rfl
      exact norm_ (by first|(simp only [putAll,Act.put,sA,sO,sS];done)|(simp only [putAll,Act.put,sA,sO,sS];rfl)) (hJ11_13_16 (.slice (some adz_v375) y374.length co30,adz_v375) _ ⟨hHeld,(by (with_reducible repeat (first|apply aR|apply nR|apply dR));exact Kd.R_mono (Kd.R_far (p:=⟨gb353,1,none⟩) (Kd.R_far (p:=⟨gb353,0,none⟩) (Kd.R_types HO361.out BK353.out (by decide)) (fun _ hk=>hk.2) (.int .i64 t358)) (fun _ hk=>hk.2) (.slice Ao19 t359.length co19)) (fun _ hk=>hk.1)),(by (with_reducible repeat (first|apply aR|apply nR|apply dR));exact Kd.R_mono (Kd.R_far (p:=⟨gb353,1,none⟩) (Kd.R_far (p:=⟨gb353,0,none⟩) (Kd.R_types HO376.out BK353.out (by decide)) (fun _ hk=>hk.2) (.int .i64 t358)) (fun _ hk=>hk.2) (.slice Ao19 t359.length co19)) (fun _ hk=>hk.1)),⟨_,rfl⟩,(by (with_reducible repeat (first|apply nB|apply dB|apply aB));refine blk_put (cs:=#[.int .i64 t358,.slice none 0 0]) ?_ 1 _ rfl;(with_reducible repeat (first|apply nB|apply dB|apply aB));refine blk_put (cs:=#[.int .i64 0,.slice none 0 0]) ?_ 0 _ rfl;(with_reducible repeat (first|apply nB|apply dB|apply aB));exact BK353.out),(by (with_reducible repeat (first|apply nB|apply dB|apply aB));refine blk_far ?_ NB364_353.out _;(with_reducible repeat (first|apply nB|apply dB|apply aB));refine blk_far ?_ NB364_353.out _;(with_reducible repeat (first|apply nB|apply dB|apply aB));exact BK364.out),(by repeat (first|(with_reducible first|exact HI357.out|apply IsS62.alloc|apply IsS62.drewN|apply IsS62.drew|apply IsS62.set_1|apply IsS62.set_2|refine IsS62.far ?_ NB357_353.out _|refine IsS62.far ?_ NB357_364.out _)|exact HI357.out)),(by repeat (first|(with_reducible first|exact HB.out|apply aZ|apply nZ|apply dZ|refine sZ ?_ (IsS62.ge HI357.out)|refine sZ ?_ GE353.out|refine sZ ?_ GE364.out)|exact HB.out))⟩)
   ·skip
    rintro⟨v375,adz_v375⟩ w31 ⟨hS_,h0_,h1_,h2_,h3_,h4_,h5_,h6_⟩
    have n0_:Aside0 (Kd.R (Kd.int .i64) 3 w31 w.heap.size (fun k_=>some k_ ≠ (v375:Value).ownBlock) (.slice Ao19 t359.length co19) t359):=⟨h0_⟩
    have n1_:Aside0 (Kd.R (Kd.int .i64) 3 w31 w.heap.size (fun k_=>some k_ ≠ (.slice Ao19 t359.length co19:Value).ownBlock) v375 y374):=⟨h1_⟩
    have n2_:Aside0 (∃ c_,(v375:Value) = .slice (some adz_v375) y374.length c_):=⟨h2_⟩
    have n3_:Aside0 (w31.heap[gb353]? = some (.cells #[.int .i64 t358,.slice Ao19 t359.length co19] 24 (0,0))):=⟨h3_⟩
    have n4_:Aside0 (w31.heap[gb364]? = some (.cells #[.int .i64 t358,.slice Ao19 t359.length co19] 24 (0,0))):=⟨h4_⟩
    have n5_:Aside0 (IsS62 w w31 g357 t354 t378 t379):=⟨h5_⟩
    have n6_:Aside0 (Below w.heap.size w w31):=⟨h6_⟩
    clear HO361
    clear BK353
    clear BK364
    clear HI357
    clear HB
    clear h0_ h1_ h2_ h3_ h4_ h5_ h6_
    have HO361:=n0_
    have HO376:=n1_
    have HA_HO376:=n2_
    have BK353:=n3_
    have BK364:=n4_
    have HI357:=n5_
    have HB:=n6_
    clear n0_ n1_ n2_ n3_ n4_ n5_ n6_
    have hHeld:w31.cell? ⟨gb364,0,none⟩ = some (.int .i64 t358) ∧ w31.cell? ⟨gb364,1,none⟩ = some (.slice Ao19 t359.length co19):=hS_
    obtain⟨co32,eo32⟩:=HA_HO376.out
    clear HA_HO376
    subst eo32
    refine norm_ (a':=?_) ?_ ?_
    rotate_left
    ·simp only [putAll,Act.put,sA,sO,sS]
     rfl
    refine one_ (i:=15) (N:=some 26) spec_DrawMinsSet.m13 rfl rfl (one_of HT_.out (by kernel_rfl)) (by decide) (fun K hK=>?_)
    (have p380:0 ≤ (t377:Int):=of_decide_eq_true (by first|(with_reducible assumption)|assumption);have q380:t377 < (y374.length:Int):=of_decide_eq_true (by first|(with_reducible assumption)|assumption);obtain⟨ad380,e380,hx380_0⟩:=Kd.at_int (Kd.R_reads' HO376.out).2.2 t377 p380 q380;obtain rfl:adz_v375 = ad380:=(by injection e380))
    refine value_ (w1:=?_) (v:=?_) (by rfl) rfl ?_ ?_
    rotate_left 2
    ·go_simp
     constructor
     ·rfl
     ·rfl
    clear hx380_0
    refine hK.out _ _ ⟨(blk_cell BK364.out 0).trans rfl,(blk_cell BK364.out 1).trans rfl⟩ (fun hHeld=>?_)
    clear hK K
    refine norm_ (a':=?_) ?_ ?_
    rotate_left
    ·show Act.put _ (some 26) _ = _
     simp only [Act.put,sA,sO,sS,i64_w,i32_w]
     rfl
    exact norm_ (by first|(simp only [putAll,Act.put,sA,sO,sS];done)|(simp only [putAll,Act.put,sA,sO,sS];rfl)) (hJ11_13_15_16 (.slice (some adz_v375) y374.length co32,adz_v375) _ ⟨hHeld,(by (with_reducible repeat (first|apply aR|apply nR|apply dR));exact HO361.out),(by (with_reducible repeat (first|apply aR|apply nR|apply dR));exact HO376.out),⟨_,rfl⟩,(by (with_reducible repeat (first|apply nB|apply dB|apply aB));exact BK353.out),(by (with_reducible repeat (first|apply nB|apply dB|apply aB));exact BK364.out),(by repeat (first|(with_reducible first|exact HI357.out|apply IsS62.alloc|apply IsS62.drewN|apply IsS62.drew|apply IsS62.set_1|apply IsS62.set_2|refine IsS62.far ?_ NB357_353.out _|refine IsS62.far ?_ NB357_364.out _)|exact HI357.out)),(by repeat (first|(with_reducible first|exact HB.out|apply aZ|apply nZ|apply dZ|refine sZ ?_ (IsS62.ge HI357.out)|refine sZ ?_ GE353.out|refine sZ ?_ GE364.out)|exact HB.out))⟩)
  ·skip
   rintro⟨v375,adz_v375⟩ w29 ⟨hS_,h0_,h1_,h2_,h3_,h4_,h5_,h6_⟩
   have n0_:Aside0 (Kd.R (Kd.int .i64) 3 w29 w.heap.size (fun k_=>some k_ ≠ (v375:Value).ownBlock) (.slice Ao19 t359.length co19) t359):=⟨h0_⟩
   have n1_:Aside0 (Kd.R (Kd.int .i64) 3 w29 w.heap.size (fun k_=>some k_ ≠ (.slice Ao19 t359.length co19:Value).ownBlock) v375 y374):=⟨h1_⟩
   have n2_:Aside0 (∃ c_,(v375:Value) = .slice (some adz_v375) y374.length c_):=⟨h2_⟩
   have n3_:Aside0 (w29.heap[gb353]? = some (.cells #[.int .i64 0,.slice none 0 0] 24 (0,0))):=⟨h3_⟩
   have n4_:Aside0 (w29.heap[gb364]? = some (.cells #[.int .i64 t358,.slice Ao19 t359.length co19] 24 (0,0))):=⟨h4_⟩
   have n5_:Aside0 (IsS62 w w29 g357 t354 t378 t379):=⟨h5_⟩
   have n6_:Aside0 (Below w.heap.size w w29):=⟨h6_⟩
   clear HO361
   clear BK353
   clear BK364
   clear HI357
   clear HB
   clear h0_ h1_ h2_ h3_ h4_ h5_ h6_
   have HO361:=n0_
   have HO376:=n1_
   have HA_HO376:=n2_
   have BK353:=n3_
   have BK364:=n4_
   have HI357:=n5_
   have HB:=n6_
   clear n0_ n1_ n2_ n3_ n4_ n5_ n6_
   have hHeld:w29.cell? ⟨gb364,0,none⟩ = some (.int .i64 t358) ∧ w29.cell? ⟨gb364,1,none⟩ = some (.slice Ao19 t359.length co19):=hS_
   obtain⟨co30,eo30⟩:=HA_HO376.out
   clear HA_HO376
   subst eo30
   refine norm_ (a':=?_) ?_ ?_
   rotate_left
   ·simp only [putAll,Act.put,sA,sO,sS]
    rfl
   refine one_ (i:=16) (N:=none) spec_DrawMinsSet.m24 rfl rfl (one_of HT_.out (by kernel_rfl)) (by decide) (fun K hK=>?_)
   have hs31:w29.cell? ⟨gb353,0,none⟩ = some (.int .i64 0):=(blk_cell BK353.out 0).trans rfl
   have hfs31:=blk_frozen BK353.out 0
   have hns31_1:=NB364_353.out
   have hms31_1:=NB353_364.out
   have hs32:w29.cell? ⟨gb353,1,none⟩ = some (.slice none 0 0):=(blk_cell BK353.out 1).trans rfl
   have hfs32:=blk_frozen BK353.out 1
   have hns32_1:=NB364_353.out
   have hms32_1:=NB353_364.out
   refine skip_ (w1:=?_) (by rfl) rfl ?_ ?_
   rotate_left
   ·go_simp
    rfl
   refine hK.out _ _ ⟨((cell_far (p:=⟨gb353,_,none⟩) NB364_353.out _).trans (((cell_far (p:=⟨gb353,_,none⟩) NB364_353.out _).trans (hHeld.1)))),((cell_far (p:=⟨gb353,_,none⟩) NB364_353.out _).trans (((cell_far (p:=⟨gb353,_,none⟩) NB364_353.out _).trans (hHeld.2))))⟩ (fun hHeld=>?_)
   clear hK K
   refine pure_ (i:=17) (N:=some 3) (v:=?_) (a':=?_) spec_DrawMinsSet.m13 rfl rfl (any_of HT_.out (by kernel_rfl)) (fun _ _ _ h=>h) (Or.inl ⟨by rfl,?_⟩) ?_ ?_
   rotate_left
   ·intro w'
    go_simp
    with_reducible rfl
   rotate_left
   ·simp only [Act.put,sA,sO,sS,i64_w,i32_w]
    rfl
   exact norm_ (by first|(simp only [putAll,Act.put,sA,sO,sS];done)|(simp only [putAll,Act.put,sA,sO,sS];rfl)) (hJ11_13_15_16 (.slice (some adz_v375) y374.length co30,adz_v375) _ ⟨hHeld,(by (with_reducible repeat (first|apply aR|apply nR|apply dR));exact Kd.R_mono (Kd.R_far (p:=⟨gb353,1,none⟩) (Kd.R_far (p:=⟨gb353,0,none⟩) (Kd.R_types HO361.out BK353.out (by decide)) (fun _ hk=>hk.2) (.int .i64 t358)) (fun _ hk=>hk.2) (.slice Ao19 t359.length co19)) (fun _ hk=>hk.1)),(by (with_reducible repeat (first|apply aR|apply nR|apply dR));exact Kd.R_mono (Kd.R_far (p:=⟨gb353,1,none⟩) (Kd.R_far (p:=⟨gb353,0,none⟩) (Kd.R_types HO376.out BK353.out (by decide)) (fun _ hk=>hk.2) (.int .i64 t358)) (fun _ hk=>hk.2) (.slice Ao19 t359.length co19)) (fun _ hk=>hk.1)),⟨_,rfl⟩,(by (with_reducible repeat (first|apply nB|apply dB|apply aB));refine blk_put (cs:=#[.int .i64 t358,.slice none 0 0]) ?_ 1 _ rfl;(with_reducible repeat (first|apply nB|apply dB|apply aB));refine blk_put (cs:=#[.int .i64 0,.slice none 0 0]) ?_ 0 _ rfl;(with_reducible repeat (first|apply nB|apply dB|apply aB));exact BK353.out),(by (with_reducible repeat (first|apply nB|apply dB|apply aB));refine blk_far ?_ NB364_353.out _;(with_reducible repeat (first|apply nB|apply dB|apply aB));refine blk_far ?_ NB364_353.out _;(with_reducible repeat (first|apply nB|apply dB|apply aB));exact BK364.out),(by repeat (first|(with_reducible first|exact HI357.out|apply IsS62.alloc|apply IsS62.drewN|apply IsS62.drew|apply IsS62.set_1|apply IsS62.set_2|refine IsS62.far ?_ NB357_353.out _|refine IsS62.far ?_ NB357_364.out _)|exact HI357.out)),(by repeat (first|(with_reducible first|exact HB.out|apply aZ|apply nZ|apply dZ|refine sZ ?_ (IsS62.ge HI357.out)|refine sZ ?_ GE353.out|refine sZ ?_ GE364.out)|exact HB.out))⟩)
 rintro⟨v375,adz_v375⟩ w31 ⟨hS_,h0_,h1_,h2_,h3_,h4_,h5_,h6_⟩
 have n0_:Aside0 (Kd.R (Kd.int .i64) 3 w31 w.heap.size (fun k_=>some k_ ≠ (v375:Value).ownBlock) (.slice Ao19 t359.length co19) t359):=⟨h0_⟩
 have n1_:Aside0 (Kd.R (Kd.int .i64) 3 w31 w.heap.size (fun k_=>some k_ ≠ (.slice Ao19 t359.length co19:Value).ownBlock) v375 y374):=⟨h1_⟩
 have n2_:Aside0 (∃ c_,(v375:Value) = .slice (some adz_v375) y374.length c_):=⟨h2_⟩
 have n3_:Aside0 (w31.heap[gb353]? = some (.cells #[.int .i64 t358,.slice Ao19 t359.length co19] 24 (0,0))):=⟨h3_⟩
 have n4_:Aside0 (w31.heap[gb364]? = some (.cells #[.int .i64 t358,.slice Ao19 t359.length co19] 24 (0,0))):=⟨h4_⟩
 have n5_:Aside0 (IsS62 w w31 g357 t354 t378 t379):=⟨h5_⟩
 have n6_:Aside0 (Below w.heap.size w w31):=⟨h6_⟩
 clear HO361
 clear BK353
 clear BK364
 clear HI357
 clear HB
 clear h0_ h1_ h2_ h3_ h4_ h5_ h6_
 have HO361:=n0_
 have HO376:=n1_
 have HA_HO376:=n2_
 have BK353:=n3_
 have BK364:=n4_
 have HI357:=n5_
 have HB:=n6_
 clear n0_ n1_ n2_ n3_ n4_ n5_ n6_
 have hHeld:w31.cell? ⟨gb364,0,none⟩ = some (.int .i64 t358) ∧ w31.cell? ⟨gb364,1,none⟩ = some (.slice Ao19 t359.length co19):=hS_
 obtain⟨co32,eo32⟩:=HA_HO376.out
 clear HA_HO376
 subst eo32
 refine norm_ (a':=?_) ?_ ?_
 rotate_left
 ·simp only [putAll,Act.put,sA,sO,sS]
  rfl
 refine pure_ (i:=18) (N:=some 4) (v:=?_) (a':=?_) spec_DrawMinsSet.m25 rfl rfl (any_of HT_.out (by kernel_rfl)) (fun _ _ _ h=>h) (Or.inl ⟨by rfl,?_⟩) ?_ ?_
 rotate_left
 ·intro w'
  go_simp
  with_reducible rfl
 rotate_left
 ·simp only [Act.put,sA,sO,sS,i64_w,i32_w]
  rfl
 refine done_ (done_of HT_.out (by kernel_rfl)) ?_
 try go_wp2
 refine bodyPost_ret (results_ctt rfl _ _ gb353 24 #[.int .i64 t358,.slice Ao19 t359.length co19] (0,0) _ rfl (by (with_reducible repeat (first|apply nB|apply dB|apply aB));exact BK353.out) Try.underlying24 rfl (by kernel_rfl)) rfl ?_
 exact⟨_,by first|rfl|(simp [errW_none,errW_some] <;> rfl)|(simp only [← hji4, ← hji5];first|rfl|(simp [errW_none,errW_some] <;> rfl))|(simp [*,errW_none,errW_some] <;> rfl),by (with_reducible repeat (first|apply aR|apply nR|apply dR));exact Kd.R_mono HO361.out (fun _ hk=>trivial),by repeat (first|(with_reducible first|exact HB.out|apply aZ|apply nZ|apply dZ|refine sZ ?_ (IsS62.ge HI357.out)|refine sZ ?_ GE353.out|refine sZ ?_ GE364.out)|exact HB.out)⟩
end Go.Proofs.Ytpheodpcppclaaa.QFnMinsSet
