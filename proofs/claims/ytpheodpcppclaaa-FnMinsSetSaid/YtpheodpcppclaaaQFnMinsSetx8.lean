-- A walk, made by walk.py, a program of this session's.
import Derived.Test.YtpheodpcppclaaaQFnMinsSetx0
import Derived.Test.YtpheodpcppclaaaQFnMinsSetx5
import Derived.Test.YtpheodpcppclaaaQFnMinsSetx6
namespace Go.Proofs.Ytpheodpcppclaaa.QFnMinsSet
open Go.RowKit Go.Proofs.YtpheodpcppclaaaW.PrintWords Go.Proofs.YtpheodpcppclaaaW.PrintLast Go.Proofs.YtpheodpcppclaaaW.PrintMore
attribute [local go_sem] max2_int min2_int max_two min_two max_three min_three max_four min_four   -- for this text's walks alone
set_option linter.unusedVariables false
set_option linter.unusedSimpArgs false

/-! ### spec_l01Cur_place: function 51 -/
def spec_l01Cur_place.f (s0_0 : List Int) (s0_1 : Int) (s0_2 : Int) (a1 : Int) : Option (Int × Int × Int) := (spec_l01Cur_pick.f s0_0 s0_1 s0_2 (mx 1 (wrap64 (a1 + 2)))).bind fun bt337 => ((spec_l01Cur_raw.f s0_0 bt337.2.1 bt337.2.2).bind fun bt340 => ((spec_l01Cur_pick.f s0_0 bt340.2.1 bt340.2.2 (mx 1 a1)).bind fun bt343 => ((some (([bt337.1, a1, wrap64 (a1 - 1), bt340.1, bt343.1] : List Int) : List Int)).bind fun y346 => ((spec_l01Cur_pick.f s0_0 bt343.2.1 bt343.2.2 5).bind fun bt349 => (if 0 ≤ bt349.1 then (if bt349.1 < (y346.length : Int) then (some (rd y346 bt349.1, bt349.2.1, bt349.2.2)) else (none)) else (none))))))
set_option maxHeartbeats 8000000 in
set_option maxRecDepth 100000 in
theorem spec_l01Cur_place.calls (g : Nat) (s0_0 : List Int) (s0_1 : Int) (s0_2 : Int) (a1 : Int) (r1 : Int) (r2 : Int) (r3 : Int) (w0 w : World) (hI : IsS62 w0 w g s0_0 s0_1 s0_2) (hB : Below w0.heap.size w0 w) (h : spec_l01Cur_place.f s0_0 s0_1 s0_2 a1 = some (r1, r2, r3)) :
  Calls Try.prog 51 #[.pointer (some ⟨g, 0, none⟩), .int .i64 a1] w fun e w' => e = .returned (.int .i64 r1) ∧ IsS62 w0 w' g s0_0 r2 r3 ∧ Below w0.heap.size w0 w' ∧ KeepBut w w' g none := by
 have HI0:=mk0 hI
 have HK:=mk0 (KeepBut.refl w g none)
 have HL:=mk0 hB.size
 clear hI
 have HW0:=mk0 hB.size
 have HB:=mk0 hB
 clear hB
 have H:((spec_l01Cur_pick.f s0_0 s0_1 s0_2 (mx 1 (wrap64 (a1 + 2)))).bind fun bt337=>((spec_l01Cur_raw.f s0_0 bt337.2.1 bt337.2.2).bind fun bt340=>((spec_l01Cur_pick.f s0_0 bt340.2.1 bt340.2.2 (mx 1 a1)).bind fun bt343=>((some (([bt337.1,a1,wrap64 (a1 - 1),bt340.1,bt343.1]:List Int):List Int)).bind fun y346=>((spec_l01Cur_pick.f s0_0 bt343.2.1 bt343.2.2 5).bind fun bt349=>(if 0 ≤ bt349.1 then (if bt349.1 < (y346.length:Int) then (some (rd y346 bt349.1,bt349.2.1,bt349.2.2)) else (none)) else (none))))))) = some (r1,r2,r3):=h
 clear h
 obtain⟨ji3,hji3⟩:∃ j_:Int,(mx 1 (wrap64 (a1 + 2))) = j_:=⟨_,rfl⟩
 replace H:((spec_l01Cur_pick.f s0_0 s0_1 s0_2 (ji3)).bind fun bt337=>((spec_l01Cur_raw.f s0_0 bt337.2.1 bt337.2.2).bind fun bt340=>((spec_l01Cur_pick.f s0_0 bt340.2.1 bt340.2.2 (mx 1 a1)).bind fun bt343=>((some (([bt337.1,a1,wrap64 (a1 - 1),bt340.1,bt343.1]:List Int):List Int)).bind fun y346=>((spec_l01Cur_pick.f s0_0 bt343.2.1 bt343.2.2 5).bind fun bt349=>(if 0 ≤ bt349.1 then (if bt349.1 < (y346.length:Int) then (some (rd y346 bt349.1,bt349.2.1,bt349.2.2)) else (none)) else (none))))))) = some (r1,r2,r3):=by first|(rw [hji3] at H;exact H)|(simp only [hji3] at H ⊢;exact H)
 (try (have hji3l:1 ≤ ji3:=by (rw [← hji3];unfold mx;(repeat' split) <;> omega)))
 (try (have hji3m:0 ≤ ji3:=by omega))
 have hji3_:(if 1 < (wrap64 (a1 + 2)) then (wrap64 (a1 + 2)) else 1) = ji3:=hji3
 replace H:=Option.bind_eq_some_iff.mp H
 obtain⟨⟨t337,t338,t339⟩,A40,H⟩:=H
 replace H:((spec_l01Cur_raw.f s0_0 t338 t339).bind fun bt340=>((spec_l01Cur_pick.f s0_0 bt340.2.1 bt340.2.2 (mx 1 a1)).bind fun bt343=>((some (([t337,a1,wrap64 (a1 - 1),bt340.1,bt343.1]:List Int):List Int)).bind fun y346=>((spec_l01Cur_pick.f s0_0 bt343.2.1 bt343.2.2 5).bind fun bt349=>(if 0 ≤ bt349.1 then (if bt349.1 < (y346.length:Int) then (some (rd y346 bt349.1,bt349.2.1,bt349.2.2)) else (none)) else (none)))))) = some (r1,r2,r3):=H
 have A4:=mk0 A40
 clear A40
 replace H:=Option.bind_eq_some_iff.mp H
 obtain⟨⟨t340,t341,t342⟩,A50,H⟩:=H
 replace H:((spec_l01Cur_pick.f s0_0 t341 t342 (mx 1 a1)).bind fun bt343=>((some (([t337,a1,wrap64 (a1 - 1),t340,bt343.1]:List Int):List Int)).bind fun y346=>((spec_l01Cur_pick.f s0_0 bt343.2.1 bt343.2.2 5).bind fun bt349=>(if 0 ≤ bt349.1 then (if bt349.1 < (y346.length:Int) then (some (rd y346 bt349.1,bt349.2.1,bt349.2.2)) else (none)) else (none))))) = some (r1,r2,r3):=H
 have A5:=mk0 A50
 clear A50
 obtain⟨ji6,hji6⟩:∃ j_:Int,(mx 1 a1) = j_:=⟨_,rfl⟩
 replace H:((spec_l01Cur_pick.f s0_0 t341 t342 (ji6)).bind fun bt343=>((some (([t337,a1,wrap64 (a1 - 1),t340,bt343.1]:List Int):List Int)).bind fun y346=>((spec_l01Cur_pick.f s0_0 bt343.2.1 bt343.2.2 5).bind fun bt349=>(if 0 ≤ bt349.1 then (if bt349.1 < (y346.length:Int) then (some (rd y346 bt349.1,bt349.2.1,bt349.2.2)) else (none)) else (none))))) = some (r1,r2,r3):=by first|(rw [hji6] at H;exact H)|(simp only [hji6] at H ⊢;exact H)
 (try rw [hji6] at A4)
 (try rw [hji6] at A5)
 (try (have hji6l:1 ≤ ji6:=by (rw [← hji6];unfold mx;(repeat' split) <;> omega)))
 (try (have hji6m:0 ≤ ji6:=by omega))
 have hji6_:(if 1 < a1 then a1 else 1) = ji6:=hji6
 replace H:=Option.bind_eq_some_iff.mp H
 obtain⟨⟨t343,t344,t345⟩,A70,H⟩:=H
 replace H:((some (([t337,a1,wrap64 (a1 - 1),t340,t343]:List Int):List Int)).bind fun y346=>((spec_l01Cur_pick.f s0_0 t344 t345 5).bind fun bt349=>(if 0 ≤ bt349.1 then (if bt349.1 < (y346.length:Int) then (some (rd y346 bt349.1,bt349.2.1,bt349.2.2)) else (none)) else (none)))) = some (r1,r2,r3):=H
 have A7:=mk0 A70
 clear A70
 obtain⟨y346,hy346⟩:∃ y_:List Int,y_ = (([t337,a1,wrap64 (a1 - 1),t340,t343]:List Int)):=⟨_,rfl⟩
 replace H:((spec_l01Cur_pick.f s0_0 t344 t345 5).bind fun bt349=>(if 0 ≤ bt349.1 then (if bt349.1 < (y346.length:Int) then (some (rd y346 bt349.1,bt349.2.1,bt349.2.2)) else (none)) else (none))) = some (r1,r2,r3):=by first|(rw [hy346];with_reducible exact H)|(have H2_:=(Option.bind_some _ _).symm.trans H;rw [hy346];with_reducible exact H2_)|(have H2_:=(Option.bind_some _ _).symm.trans H;with_reducible exact H2_)|with_reducible exact H|(rw [hy346];exact H)|exact H
 have Ny346:=mk0 hy346
 clear hy346
 replace H:=Option.bind_eq_some_iff.mp H
 obtain⟨⟨t349,t350,t351⟩,A80,H⟩:=H
 replace H:(if 0 ≤ t349 then (if t349 < (y346.length:Int) then (some (rd y346 t349,t350,t351)) else (none)) else (none)) = some (r1,r2,r3):=H
 have A8:=mk0 A80
 clear A80
 by_cases c9:0 ≤ t349
 ·rw [if_pos c9] at H
  have c9b0:decide (0 ≤ t349) = true:=decide_eq_true c9
  clear c9
  by_cases c10:t349 < (y346.length:Int)
  ·rw [if_pos c10] at H
   have c10b0:decide (t349 < (y346.length:Int)) = true:=decide_eq_true c10
   clear c10
   simp only [Option.some.injEq,Prod.mk.injEq] at H
   obtain⟨rfl,rfl,rfl⟩:=H
   go_enter Try.func51,Try.ntmps51
   go_wp2_with (first|((with_reducible refine gate_callee (f:=52) rfl ?_);refine goesL_ (some 9) rfl rfl Try.func52 (by kernel_rfl) rfl #[.pointer (some ⟨g,0,none⟩),.int .i64 ji3] rfl (by (try simp only [mA,mC,mN]);first|done|(simp only [hji3];rfl)|rfl|(simp only [List.length_drop,List.length_take];rfl)) ?_;(with_reducible refine (spec_l01Cur_pick.calls g s0_0 s0_1 s0_2 ji3 t337 t338 t339 w0 _ ?side1 ?side2 A4.out).mono ?_);(case side1=>repeat (first|(with_reducible first|exact HI0.out|apply IsS62.alloc|apply IsS62.drewN|apply IsS62.drew|apply IsS62.set_1|apply IsS62.set_2)|exact HI0.out));(case side2=>repeat (first|(with_reducible first|exact HB.out|apply aZ|apply nZ|apply dZ|refine sZ ?_ (IsS62.ge HI0.out))|exact HB.out));rintro e w11 ⟨rfl,hi,hb,hk⟩;refine⟨_,rfl,?_⟩;have n0_:=mk0 (KeepBut.trans (by repeat (first|(with_reducible first|exact HK.out|apply KeepBut.set_|apply keep_drewN|apply keep_drew|apply keep_alloc)|exact HK.out)) hk (.inl rfl));have n1_:=mk0 (hb);have n2_:=mk0 (hi);clear HK HB HI0;have HK:=n0_;have HB:=n1_;have HI0:=n2_;clear n0_ n1_ n2_;(try clear hb);(try clear hb2);(try clear hk);(try clear hi))|((with_reducible refine gate_callee (f:=53) rfl ?_);refine goesL_ (some 14) rfl rfl Try.func53 (by kernel_rfl) rfl #[.pointer (some ⟨g,0,none⟩)] rfl (by (try simp only [mA,mC,mN]);first|done|rfl|(simp only [List.length_drop,List.length_take];rfl)) ?_;(with_reducible refine (spec_l01Cur_raw.calls g s0_0 t338 t339 t340 t341 t342 w0 _ ?side1 ?side2 A5.out).mono ?_);(case side1=>repeat (first|(with_reducible first|exact HI0.out|apply IsS62.alloc|apply IsS62.drewN|apply IsS62.drew|apply IsS62.set_1|apply IsS62.set_2)|exact HI0.out));(case side2=>repeat (first|(with_reducible first|exact HB.out|apply aZ|apply nZ|apply dZ|refine sZ ?_ (IsS62.ge HI0.out))|exact HB.out));rintro e w12 ⟨rfl,hi,hb,hk⟩;refine⟨_,rfl,?_⟩;have n0_:=mk0 (KeepBut.trans (by repeat (first|(with_reducible first|exact HK.out|apply KeepBut.set_|apply keep_drewN|apply keep_drew|apply keep_alloc)|exact HK.out)) hk (.inl rfl));have n1_:=mk0 (hb);have n2_:=mk0 (hi);clear HK HB HI0;have HK:=n0_;have HB:=n1_;have HI0:=n2_;clear n0_ n1_ n2_;(try clear hb);(try clear hb2);(try clear hk);(try clear hi))|((with_reducible refine gate_callee (f:=52) rfl ?_);refine goesL_ (some 18) rfl rfl Try.func52 (by kernel_rfl) rfl #[.pointer (some ⟨g,0,none⟩),.int .i64 ji6] rfl (by (try simp only [mA,mC,mN]);first|done|(simp only [hji6];rfl)|rfl|(simp only [List.length_drop,List.length_take];rfl)) ?_;(with_reducible refine (spec_l01Cur_pick.calls g s0_0 t341 t342 ji6 t343 t344 t345 w0 _ ?side1 ?side2 A7.out).mono ?_);(case side1=>repeat (first|(with_reducible first|exact HI0.out|apply IsS62.alloc|apply IsS62.drewN|apply IsS62.drew|apply IsS62.set_1|apply IsS62.set_2)|exact HI0.out));(case side2=>repeat (first|(with_reducible first|exact HB.out|apply aZ|apply nZ|apply dZ|refine sZ ?_ (IsS62.ge HI0.out))|exact HB.out));rintro e w13 ⟨rfl,hi,hb,hk⟩;refine⟨_,rfl,?_⟩;have n0_:=mk0 (KeepBut.trans (by repeat (first|(with_reducible first|exact HK.out|apply KeepBut.set_|apply keep_drewN|apply keep_drew|apply keep_alloc)|exact HK.out)) hk (.inl rfl));have n1_:=mk0 (hb);have n2_:=mk0 (hi);clear HK HB HI0;have HK:=n0_;have HB:=n1_;have HI0:=n2_;clear n0_ n1_ n2_;(try clear hb);(try clear hb2);(try clear hk);(try clear hi))|((with_reducible refine gate_dst (N:=19) rfl ?_);refine Kd.R_lit (Kd.int .i64) _ 3 ?hg (N:=19) ?hd (xs:=([t337,a1,wrap64 (a1 - 1),t340,t343]:List Int)) (inner:=[.int .i64 t337,.int .i64 a1,.int .i64 (wrap64 (a1 - 1)),.int .i64 t340,.int .i64 t343]) (ok:=fun _=>True) (okp:=fun _=>True) ?hr ?hp (fun _ hk=>hk) trivial (Below.refl _ _) (Nat.le_refl _) (by simp) ?_;(case hd=>rfl);(case hg=>rfl);(case hr=>first|(go_simp;done)|(go_simp;rfl));(case hp=>exact (Reps.one (show Kd.M (Kd.int .i64) _ _ _ t337 [.int .i64 t337] from rfl) (Reps.one (show Kd.M (Kd.int .i64) _ _ _ a1 [.int .i64 a1] from rfl) (Reps.one (show Kd.M (Kd.int .i64) _ _ _ (wrap64 (a1 - 1)) [.int .i64 (wrap64 (a1 - 1))] from rfl) (Reps.one (show Kd.M (Kd.int .i64) _ _ _ t340 [.int .i64 t340] from rfl) (Reps.one (show Kd.M (Kd.int .i64) _ _ _ t343 [.int .i64 t343] from rfl) (Reps.none _ _)))))));intro v347 w14 ho15 hb hg_ hnew_;clear hg_ hnew_;(first|rw [← Ny346.out] at ho15|(simp only [Int.reduceToNat] at ho15;rw [← Ny346.out] at ho15));have n0_:=mk0 (Kd.R_lower ho15 (keep_size (w:=w) (g:=g) (row:=none) (by repeat (first|(with_reducible first|exact HK.out|apply KeepBut.set_|apply keep_drewN|apply keep_drew|apply keep_alloc)|exact HK.out))));have n1_:=mk0 (IsS62.below (by repeat (first|(with_reducible first|exact HI0.out|apply IsS62.alloc|apply IsS62.drewN|apply IsS62.drew|apply IsS62.set_1|apply IsS62.set_2)|exact HI0.out)) hb);have n2_:=mk0 (KeepBut.trans (by repeat (first|(with_reducible first|exact HK.out|apply KeepBut.set_|apply keep_drewN|apply keep_drew|apply keep_alloc)|exact HK.out)) (KeepBut.of_below hb g none) (.inl rfl));have n3_:=mk0 (below_step (by repeat (first|(with_reducible first|exact HB.out|apply aZ|apply nZ|apply dZ|refine sZ ?_ (IsS62.ge HI0.out))|exact HB.out)) hb);clear HI0 HK HB;have HO348:=n0_;have HI0:=n1_;have HK:=n2_;have HB:=n3_;clear n0_ n1_ n2_ n3_ hb ho15)|((with_reducible refine gate_callee (f:=52) rfl ?_);refine goesL_ (some 21) rfl rfl Try.func52 (by kernel_rfl) rfl #[.pointer (some ⟨g,0,none⟩),.int .i64 5] rfl (by (try simp only [mA,mC,mN]);first|done|rfl|(simp only [List.length_drop,List.length_take];rfl)) ?_;(with_reducible refine (spec_l01Cur_pick.calls g s0_0 t344 t345 5 t349 t350 t351 w0 _ ?side1 ?side2 A8.out).mono ?_);(case side1=>repeat (first|(with_reducible first|exact HI0.out|apply IsS62.alloc|apply IsS62.drewN|apply IsS62.drew|apply IsS62.set_1|apply IsS62.set_2)|exact HI0.out));(case side2=>repeat (first|(with_reducible first|exact HB.out|apply aZ|apply nZ|apply dZ|refine sZ ?_ (IsS62.ge HI0.out))|exact HB.out));rintro e w16 ⟨rfl,hi,hb,hk⟩;refine⟨_,rfl,?_⟩;have n0_:=mk0 (Kd.R_mono (Kd.R_keep (IsS62.apart (show IsS62 w0 _ g s0_0 t344 t345 from by repeat (first|(with_reducible first|exact HI0.out|apply IsS62.alloc|apply IsS62.drewN|apply IsS62.drew|apply IsS62.set_1|apply IsS62.set_2)|exact HI0.out)) (by (with_reducible repeat (first|apply aR|apply nR|apply dR));exact HO348.out) (by decide)) hk (fun _ h=>h.2)) (fun _ h=>h.1));have n1_:=mk0 (KeepBut.trans (by repeat (first|(with_reducible first|exact HK.out|apply KeepBut.set_|apply keep_drewN|apply keep_drew|apply keep_alloc)|exact HK.out)) hk (.inl rfl));have n2_:=mk0 (hb);have n3_:=mk0 (hi);clear HO348 HK HB HI0;have HO348:=n0_;have HK:=n1_;have HB:=n2_;have HI0:=n3_;clear n0_ n1_ n2_ n3_;(try clear hb);(try clear hb2);(try clear hk);(try clear hi);obtain⟨Ao17,co17,eo17⟩:=Kd.R_slice HO348.out;subst eo17;have p352:0 ≤ (t349:Int):=of_decide_eq_true (by first|(with_reducible assumption)|assumption);have q352:t349 < (y346.length:Int):=of_decide_eq_true (by first|(with_reducible assumption)|assumption);obtain⟨ad352,e352,hx352_0⟩:=Kd.at_int (Kd.R_reads' HO348.out).2.2 t349 p352 q352;cases e352;replace p352:=eq_true p352;replace q352:=eq_true q352))
   go_ret
   exact⟨by first|rfl|(simp [errW_none,errW_some] <;> rfl)|(simp only [← hji3, ← hji6];first|rfl|(simp [errW_none,errW_some] <;> rfl))|(simp [*,errW_none,errW_some] <;> rfl),by repeat (first|(with_reducible first|exact HI0.out|apply IsS62.alloc|apply IsS62.drewN|apply IsS62.drew|apply IsS62.set_1|apply IsS62.set_2)|exact HI0.out),by repeat (first|(with_reducible first|exact HB.out|apply aZ|apply nZ|apply dZ|refine sZ ?_ (IsS62.ge HI0.out))|exact HB.out),by repeat (first|(with_reducible first|exact HK.out|apply KeepBut.set_|apply keep_drewN|apply keep_drew|apply keep_alloc)|exact HK.out)⟩
  ·rw [if_neg c10] at H
   exact absurd H (by simp)
 ·rw [if_neg c9] at H
  exact absurd H (by simp)

end Go.Proofs.Ytpheodpcppclaaa.QFnMinsSet
