-- A walk, made by walk.py, a program of this session's.
import Derived.Test.YtlnmkgeoiinjfaaQFnCommonx0
import Derived.Test.YtlnmkgeoiinjfaaQFnCommonx8
import Derived.Test.YtlnmkgeoiinjfaaQFnCommonx9
namespace Go.Proofs.Ytlnmkgeoiinjfaa.QFnCommon
open Go.RowKit Go.Proofs.YtlnmkgeoiinjfaaW.PrintWords Go.Proofs.YtlnmkgeoiinjfaaW.PrintLast Go.Proofs.YtlnmkgeoiinjfaaW.PrintMore
attribute [local go_sem] max2_int min2_int max_two min_two max_three min_three max_four min_four   -- for this text's walks alone
set_option linter.unusedVariables false
set_option linter.unusedSimpArgs false

/-! ### spec_l01Cur_raw: function 51 -/
def spec_l01Cur_raw.f (s0_0 : List Int) (s0_1 : Int) (s0_2 : Int) : Option (Int × Int × Int) := (spec_l01Cur_pick.f s0_0 s0_1 s0_2 8).bind fun bt300 => (if bt300.1 = 0 then ((spec_l01Cur_pick.f s0_0 bt300.2.1 bt300.2.2 256).bind fun bt303 => (some (wrap64 (bt303.1 - 128), bt303.2.1, bt303.2.2))) else (if bt300.1 = 1 then ((some (([9223372036854775807, (-9223372036854775808), 4611686018427387904, 4294967295, 4294967296, (-1000), 1000, 257] : List Int) : List Int)).bind fun y306 => ((spec_l01Cur_pick.f s0_0 bt300.2.1 bt300.2.2 8).bind fun bt309 => (if 0 ≤ bt309.1 then (if bt309.1 < (y306.length : Int) then (some (rd y306 bt309.1, bt309.2.1, bt309.2.2)) else (none)) else (none)))) else ((spec_l01Cur_pick.f s0_0 bt300.2.1 bt300.2.2 14).bind fun bt313 => (some (wrap64 (bt313.1 - 3), bt313.2.1, bt313.2.2)))))
set_option maxHeartbeats 8000000 in
set_option maxRecDepth 100000 in
theorem spec_l01Cur_raw.calls (g : Nat) (s0_0 : List Int) (s0_1 : Int) (s0_2 : Int) (r1 : Int) (r2 : Int) (r3 : Int) (w0 w : World) (hI : IsS76 w0 w g s0_0 s0_1 s0_2) (hB : Below w0.heap.size w0 w) (h : spec_l01Cur_raw.f s0_0 s0_1 s0_2 = some (r1, r2, r3)) :
  Calls Try.prog 51 #[.pointer (some ⟨g, 0, none⟩)] w fun e w' => e = .returned (.int .i64 r1) ∧ IsS76 w0 w' g s0_0 r2 r3 ∧ Below w0.heap.size w0 w' ∧ KeepBut w w' g none := by
 have HI0:=mk0 hI
 have HK:=mk0 (KeepBut.refl w g none)
 have HL:=mk0 hB.size
 clear hI
 have HW0:=mk0 hB.size
 have HB:=mk0 hB
 clear hB
 have H:((spec_l01Cur_pick.f s0_0 s0_1 s0_2 8).bind fun bt300=>(if bt300.1 = 0 then ((spec_l01Cur_pick.f s0_0 bt300.2.1 bt300.2.2 256).bind fun bt303=>(some (wrap64 (bt303.1 - 128),bt303.2.1,bt303.2.2))) else (if bt300.1 = 1 then ((some (([9223372036854775807,(-9223372036854775808),4611686018427387904,4294967295,4294967296,(-1000),1000,257]:List Int):List Int)).bind fun y306=>((spec_l01Cur_pick.f s0_0 bt300.2.1 bt300.2.2 8).bind fun bt309=>(if 0 ≤ bt309.1 then (if bt309.1 < (y306.length:Int) then (some (rd y306 bt309.1,bt309.2.1,bt309.2.2)) else (none)) else (none)))) else ((spec_l01Cur_pick.f s0_0 bt300.2.1 bt300.2.2 14).bind fun bt313=>(some (wrap64 (bt313.1 - 3),bt313.2.1,bt313.2.2)))))) = some (r1,r2,r3):=h
 clear h
 replace H:=Option.bind_eq_some_iff.mp H
 obtain⟨⟨t300,t301,t302⟩,A20,H⟩:=H
 replace H:(if t300 = 0 then ((spec_l01Cur_pick.f s0_0 t301 t302 256).bind fun bt303=>(some (wrap64 (bt303.1 - 128),bt303.2.1,bt303.2.2))) else (if t300 = 1 then ((some (([9223372036854775807,(-9223372036854775808),4611686018427387904,4294967295,4294967296,(-1000),1000,257]:List Int):List Int)).bind fun y306=>((spec_l01Cur_pick.f s0_0 t301 t302 8).bind fun bt309=>(if 0 ≤ bt309.1 then (if bt309.1 < (y306.length:Int) then (some (rd y306 bt309.1,bt309.2.1,bt309.2.2)) else (none)) else (none)))) else ((spec_l01Cur_pick.f s0_0 t301 t302 14).bind fun bt313=>(some (wrap64 (bt313.1 - 3),bt313.2.1,bt313.2.2))))) = some (r1,r2,r3):=H
 have A2:=mk0 A20
 clear A20
 by_cases c3:t300 = 0
 ·rw [if_pos c3] at H
  have c3b0:(t300 == 0) = true:=beq_iff_eq.mpr c3
  have c3b1:(t300 != 0) = false:=bne_eq_false_iff_eq.mpr c3
  clear c3
  replace H:=Option.bind_eq_some_iff.mp H
  obtain⟨⟨t303,t304,t305⟩,A40,H⟩:=H
  replace H:(some (wrap64 (t303 - 128),t304,t305)) = some (r1,r2,r3):=H
  have A4:=mk0 A40
  clear A40
  simp only [Option.some.injEq,Prod.mk.injEq] at H
  obtain⟨rfl,rfl,rfl⟩:=H
  go_enter Try.func51,Try.ntmps51
  go_wp2_with (first|((with_reducible refine gate_callee (f:=50) rfl ?_);refine goesL_ (some 4) rfl rfl Try.func50 (by kernel_rfl) rfl #[.pointer (some ⟨g,0,none⟩),.int .i64 8] rfl (by (try simp only [mA,mC,mN]);first|done|rfl|(simp only [List.length_drop,List.length_take];rfl)) ?_;(with_reducible refine (spec_l01Cur_pick.calls g s0_0 s0_1 s0_2 8 t300 t301 t302 w0 _ ?side1 ?side2 A2.out).mono ?_);(case side1=>repeat (first|(with_reducible first|exact HI0.out|apply IsS76.alloc|apply IsS76.drewN|apply IsS76.drew|apply IsS76.set_1|apply IsS76.set_2)|exact HI0.out));(case side2=>repeat (first|(with_reducible first|exact HB.out|apply aZ|apply nZ|apply dZ|refine sZ ?_ (IsS76.ge HI0.out))|exact HB.out));rintro e w5 ⟨rfl,hi,hb,hk⟩;refine⟨_,rfl,?_⟩;have n0_:=mk0 (KeepBut.trans (by repeat (first|(with_reducible first|exact HK.out|apply KeepBut.set_|apply keep_drewN|apply keep_drew|apply keep_alloc)|exact HK.out)) hk (.inl rfl));have n1_:=mk0 (hb);have n2_:=mk0 (hi);clear HK HB HI0;have HK:=n0_;have HB:=n1_;have HI0:=n2_;clear n0_ n1_ n2_;(try clear hb);(try clear hb2);(try clear hk);(try clear hi))|((with_reducible refine gate_callee (f:=50) rfl ?_);refine goesL_ (some 8) rfl rfl Try.func50 (by kernel_rfl) rfl #[.pointer (some ⟨g,0,none⟩),.int .i64 256] rfl (by (try simp only [mA,mC,mN]);first|done|rfl|(simp only [List.length_drop,List.length_take];rfl)) ?_;(with_reducible refine (spec_l01Cur_pick.calls g s0_0 t301 t302 256 t303 t304 t305 w0 _ ?side1 ?side2 A4.out).mono ?_);(case side1=>repeat (first|(with_reducible first|exact HI0.out|apply IsS76.alloc|apply IsS76.drewN|apply IsS76.drew|apply IsS76.set_1|apply IsS76.set_2)|exact HI0.out));(case side2=>repeat (first|(with_reducible first|exact HB.out|apply aZ|apply nZ|apply dZ|refine sZ ?_ (IsS76.ge HI0.out))|exact HB.out));rintro e w6 ⟨rfl,hi,hb,hk⟩;refine⟨_,rfl,?_⟩;have n0_:=mk0 (KeepBut.trans (by repeat (first|(with_reducible first|exact HK.out|apply KeepBut.set_|apply keep_drewN|apply keep_drew|apply keep_alloc)|exact HK.out)) hk (.inl rfl));have n1_:=mk0 (hb);have n2_:=mk0 (hi);clear HK HB HI0;have HK:=n0_;have HB:=n1_;have HI0:=n2_;clear n0_ n1_ n2_;(try clear hb);(try clear hb2);(try clear hk);(try clear hi)))
  go_ret
  exact⟨by first|rfl|(simp [errW_none,errW_some] <;> rfl)|(simp [*,errW_none,errW_some] <;> rfl),by repeat (first|(with_reducible first|exact HI0.out|apply IsS76.alloc|apply IsS76.drewN|apply IsS76.drew|apply IsS76.set_1|apply IsS76.set_2)|exact HI0.out),by repeat (first|(with_reducible first|exact HB.out|apply aZ|apply nZ|apply dZ|refine sZ ?_ (IsS76.ge HI0.out))|exact HB.out),by repeat (first|(with_reducible first|exact HK.out|apply KeepBut.set_|apply keep_drewN|apply keep_drew|apply keep_alloc)|exact HK.out)⟩
 ·rw [if_neg c3] at H
  have c3b0:(t300 == 0) = false:=beq_eq_false_iff_ne.mpr c3
  have c3b1:(t300 != 0) = true:=bne_iff_ne.mpr c3
  by_cases c7:t300 = 1
  ·rw [if_pos c7] at H
   have c7b0:(t300 == 1) = true:=beq_iff_eq.mpr c7
   have c7b1:(t300 != 1) = false:=bne_eq_false_iff_eq.mpr c7
   clear c7
   obtain⟨y306,hy306⟩:∃ y_:List Int,y_ = (([9223372036854775807,(-9223372036854775808),4611686018427387904,4294967295,4294967296,(-1000),1000,257]:List Int)):=⟨_,rfl⟩
   replace H:((spec_l01Cur_pick.f s0_0 t301 t302 8).bind fun bt309=>(if 0 ≤ bt309.1 then (if bt309.1 < (y306.length:Int) then (some (rd y306 bt309.1,bt309.2.1,bt309.2.2)) else (none)) else (none))) = some (r1,r2,r3):=by first|(rw [hy306];with_reducible exact H)|(have H2_:=(Option.bind_some _ _).symm.trans H;rw [hy306];with_reducible exact H2_)|(have H2_:=(Option.bind_some _ _).symm.trans H;with_reducible exact H2_)|with_reducible exact H|(rw [hy306];exact H)|exact H
   have Ny306:=mk0 hy306
   clear hy306
   replace H:=Option.bind_eq_some_iff.mp H
   obtain⟨⟨t309,t310,t311⟩,A80,H⟩:=H
   replace H:(if 0 ≤ t309 then (if t309 < (y306.length:Int) then (some (rd y306 t309,t310,t311)) else (none)) else (none)) = some (r1,r2,r3):=H
   have A8:=mk0 A80
   clear A80
   by_cases c9:0 ≤ t309
   ·rw [if_pos c9] at H
    have c9b0:decide (0 ≤ t309) = true:=decide_eq_true c9
    clear c9
    by_cases c10:t309 < (y306.length:Int)
    ·rw [if_pos c10] at H
     have c10b0:decide (t309 < (y306.length:Int)) = true:=decide_eq_true c10
     clear c10
     simp only [Option.some.injEq,Prod.mk.injEq] at H
     obtain⟨rfl,rfl,rfl⟩:=H
     go_enter Try.func51,Try.ntmps51
     go_wp2_with (first|((with_reducible refine gate_callee (f:=50) rfl ?_);refine goesL_ (some 4) rfl rfl Try.func50 (by kernel_rfl) rfl #[.pointer (some ⟨g,0,none⟩),.int .i64 8] rfl (by (try simp only [mA,mC,mN]);first|done|rfl|(simp only [List.length_drop,List.length_take];rfl)) ?_;(with_reducible refine (spec_l01Cur_pick.calls g s0_0 s0_1 s0_2 8 t300 t301 t302 w0 _ ?side1 ?side2 A2.out).mono ?_);(case side1=>repeat (first|(with_reducible first|exact HI0.out|apply IsS76.alloc|apply IsS76.drewN|apply IsS76.drew|apply IsS76.set_1|apply IsS76.set_2)|exact HI0.out));(case side2=>repeat (first|(with_reducible first|exact HB.out|apply aZ|apply nZ|apply dZ|refine sZ ?_ (IsS76.ge HI0.out))|exact HB.out));rintro e w11 ⟨rfl,hi,hb,hk⟩;refine⟨_,rfl,?_⟩;have n0_:=mk0 (KeepBut.trans (by repeat (first|(with_reducible first|exact HK.out|apply KeepBut.set_|apply keep_drewN|apply keep_drew|apply keep_alloc)|exact HK.out)) hk (.inl rfl));have n1_:=mk0 (hb);have n2_:=mk0 (hi);clear HK HB HI0;have HK:=n0_;have HB:=n1_;have HI0:=n2_;clear n0_ n1_ n2_;(try clear hb);(try clear hb2);(try clear hk);(try clear hi))|((with_reducible refine gate_dst (N:=12) rfl ?_);refine Kd.R_lit (Kd.int .i64) _ 3 ?hg (N:=12) ?hd (xs:=([9223372036854775807,(-9223372036854775808),4611686018427387904,4294967295,4294967296,(-1000),1000,257]:List Int)) (inner:=[.int .i64 9223372036854775807,.int .i64 (-9223372036854775808),.int .i64 4611686018427387904,.int .i64 4294967295,.int .i64 4294967296,.int .i64 (-1000),.int .i64 1000,.int .i64 257]) (ok:=fun _=>True) (okp:=fun _=>True) ?hr ?hp (fun _ hk=>hk) trivial (Below.refl _ _) (Nat.le_refl _) (by simp) ?_;(case hd=>rfl);(case hg=>rfl);(case hr=>first|(go_simp;done)|(go_simp;rfl));(case hp=>exact (Reps.one (show Kd.M (Kd.int .i64) _ _ _ 9223372036854775807 [.int .i64 9223372036854775807] from rfl) (Reps.one (show Kd.M (Kd.int .i64) _ _ _ (-9223372036854775808) [.int .i64 (-9223372036854775808)] from rfl) (Reps.one (show Kd.M (Kd.int .i64) _ _ _ 4611686018427387904 [.int .i64 4611686018427387904] from rfl) (Reps.one (show Kd.M (Kd.int .i64) _ _ _ 4294967295 [.int .i64 4294967295] from rfl) (Reps.one (show Kd.M (Kd.int .i64) _ _ _ 4294967296 [.int .i64 4294967296] from rfl) (Reps.one (show Kd.M (Kd.int .i64) _ _ _ (-1000) [.int .i64 (-1000)] from rfl) (Reps.one (show Kd.M (Kd.int .i64) _ _ _ 1000 [.int .i64 1000] from rfl) (Reps.one (show Kd.M (Kd.int .i64) _ _ _ 257 [.int .i64 257] from rfl) (Reps.none _ _))))))))));intro v307 w12 ho13 hb hg_ hnew_;clear hg_ hnew_;(first|rw [← Ny306.out] at ho13|(simp only [Int.reduceToNat] at ho13;rw [← Ny306.out] at ho13));have n0_:=mk0 (Kd.R_lower ho13 (keep_size (w:=w) (g:=g) (row:=none) (by repeat (first|(with_reducible first|exact HK.out|apply KeepBut.set_|apply keep_drewN|apply keep_drew|apply keep_alloc)|exact HK.out))));have n1_:=mk0 (IsS76.below (by repeat (first|(with_reducible first|exact HI0.out|apply IsS76.alloc|apply IsS76.drewN|apply IsS76.drew|apply IsS76.set_1|apply IsS76.set_2)|exact HI0.out)) hb);have n2_:=mk0 (KeepBut.trans (by repeat (first|(with_reducible first|exact HK.out|apply KeepBut.set_|apply keep_drewN|apply keep_drew|apply keep_alloc)|exact HK.out)) (KeepBut.of_below hb g none) (.inl rfl));have n3_:=mk0 (below_step (by repeat (first|(with_reducible first|exact HB.out|apply aZ|apply nZ|apply dZ|refine sZ ?_ (IsS76.ge HI0.out))|exact HB.out)) hb);clear HI0 HK HB;have HO308:=n0_;have HI0:=n1_;have HK:=n2_;have HB:=n3_;clear n0_ n1_ n2_ n3_ hb ho13)|((with_reducible refine gate_callee (f:=50) rfl ?_);refine goesL_ (some 14) rfl rfl Try.func50 (by kernel_rfl) rfl #[.pointer (some ⟨g,0,none⟩),.int .i64 8] rfl (by (try simp only [mA,mC,mN]);first|done|rfl|(simp only [List.length_drop,List.length_take];rfl)) ?_;(with_reducible refine (spec_l01Cur_pick.calls g s0_0 t301 t302 8 t309 t310 t311 w0 _ ?side1 ?side2 A8.out).mono ?_);(case side1=>repeat (first|(with_reducible first|exact HI0.out|apply IsS76.alloc|apply IsS76.drewN|apply IsS76.drew|apply IsS76.set_1|apply IsS76.set_2)|exact HI0.out));(case side2=>repeat (first|(with_reducible first|exact HB.out|apply aZ|apply nZ|apply dZ|refine sZ ?_ (IsS76.ge HI0.out))|exact HB.out));rintro e w14 ⟨rfl,hi,hb,hk⟩;refine⟨_,rfl,?_⟩;have n0_:=mk0 (Kd.R_mono (Kd.R_keep (IsS76.apart (show IsS76 w0 _ g s0_0 t301 t302 from by repeat (first|(with_reducible first|exact HI0.out|apply IsS76.alloc|apply IsS76.drewN|apply IsS76.drew|apply IsS76.set_1|apply IsS76.set_2)|exact HI0.out)) (by (with_reducible repeat (first|apply aR|apply nR|apply dR));exact HO308.out) (by decide)) hk (fun _ h=>h.2)) (fun _ h=>h.1));have n1_:=mk0 (KeepBut.trans (by repeat (first|(with_reducible first|exact HK.out|apply KeepBut.set_|apply keep_drewN|apply keep_drew|apply keep_alloc)|exact HK.out)) hk (.inl rfl));have n2_:=mk0 (hb);have n3_:=mk0 (hi);clear HO308 HK HB HI0;have HO308:=n0_;have HK:=n1_;have HB:=n2_;have HI0:=n3_;clear n0_ n1_ n2_ n3_;(try clear hb);(try clear hb2);(try clear hk);(try clear hi);obtain⟨Ao15,co15,eo15⟩:=Kd.R_slice HO308.out;subst eo15;have p312:0 ≤ (t309:Int):=of_decide_eq_true (by first|(with_reducible assumption)|assumption);have q312:t309 < (y306.length:Int):=of_decide_eq_true (by first|(with_reducible assumption)|assumption);obtain⟨ad312,e312,hx312_0⟩:=Kd.at_int (Kd.R_reads' HO308.out).2.2 t309 p312 q312;cases e312;replace p312:=eq_true p312;replace q312:=eq_true q312))
     go_ret
     exact⟨by first|rfl|(simp [errW_none,errW_some] <;> rfl)|(simp [*,errW_none,errW_some] <;> rfl),by repeat (first|(with_reducible first|exact HI0.out|apply IsS76.alloc|apply IsS76.drewN|apply IsS76.drew|apply IsS76.set_1|apply IsS76.set_2)|exact HI0.out),by repeat (first|(with_reducible first|exact HB.out|apply aZ|apply nZ|apply dZ|refine sZ ?_ (IsS76.ge HI0.out))|exact HB.out),by repeat (first|(with_reducible first|exact HK.out|apply KeepBut.set_|apply keep_drewN|apply keep_drew|apply keep_alloc)|exact HK.out)⟩
    ·rw [if_neg c10] at H
     exact absurd H (by simp)
   ·rw [if_neg c9] at H
    exact absurd H (by simp)
  ·rw [if_neg c7] at H
   have c7b0:(t300 == 1) = false:=beq_eq_false_iff_ne.mpr c7
   have c7b1:(t300 != 1) = true:=bne_iff_ne.mpr c7
   replace H:=Option.bind_eq_some_iff.mp H
   obtain⟨⟨t313,t314,t315⟩,A160,H⟩:=H
   replace H:(some (wrap64 (t313 - 3),t314,t315)) = some (r1,r2,r3):=H
   have A16:=mk0 A160
   clear A160
   simp only [Option.some.injEq,Prod.mk.injEq] at H
   obtain⟨rfl,rfl,rfl⟩:=H
   go_enter Try.func51,Try.ntmps51
   go_wp2_with (first|((with_reducible refine gate_callee (f:=50) rfl ?_);refine goesL_ (some 4) rfl rfl Try.func50 (by kernel_rfl) rfl #[.pointer (some ⟨g,0,none⟩),.int .i64 8] rfl (by (try simp only [mA,mC,mN]);first|done|rfl|(simp only [List.length_drop,List.length_take];rfl)) ?_;(with_reducible refine (spec_l01Cur_pick.calls g s0_0 s0_1 s0_2 8 t300 t301 t302 w0 _ ?side1 ?side2 A2.out).mono ?_);(case side1=>repeat (first|(with_reducible first|exact HI0.out|apply IsS76.alloc|apply IsS76.drewN|apply IsS76.drew|apply IsS76.set_1|apply IsS76.set_2)|exact HI0.out));(case side2=>repeat (first|(with_reducible first|exact HB.out|apply aZ|apply nZ|apply dZ|refine sZ ?_ (IsS76.ge HI0.out))|exact HB.out));rintro e w17 ⟨rfl,hi,hb,hk⟩;refine⟨_,rfl,?_⟩;have n0_:=mk0 (KeepBut.trans (by repeat (first|(with_reducible first|exact HK.out|apply KeepBut.set_|apply keep_drewN|apply keep_drew|apply keep_alloc)|exact HK.out)) hk (.inl rfl));have n1_:=mk0 (hb);have n2_:=mk0 (hi);clear HK HB HI0;have HK:=n0_;have HB:=n1_;have HI0:=n2_;clear n0_ n1_ n2_;(try clear hb);(try clear hb2);(try clear hk);(try clear hi))|((with_reducible refine gate_callee (f:=50) rfl ?_);refine goesL_ (some 18) rfl rfl Try.func50 (by kernel_rfl) rfl #[.pointer (some ⟨g,0,none⟩),.int .i64 14] rfl (by (try simp only [mA,mC,mN]);first|done|rfl|(simp only [List.length_drop,List.length_take];rfl)) ?_;(with_reducible refine (spec_l01Cur_pick.calls g s0_0 t301 t302 14 t313 t314 t315 w0 _ ?side1 ?side2 A16.out).mono ?_);(case side1=>repeat (first|(with_reducible first|exact HI0.out|apply IsS76.alloc|apply IsS76.drewN|apply IsS76.drew|apply IsS76.set_1|apply IsS76.set_2)|exact HI0.out));(case side2=>repeat (first|(with_reducible first|exact HB.out|apply aZ|apply nZ|apply dZ|refine sZ ?_ (IsS76.ge HI0.out))|exact HB.out));rintro e w18 ⟨rfl,hi,hb,hk⟩;refine⟨_,rfl,?_⟩;have n0_:=mk0 (KeepBut.trans (by repeat (first|(with_reducible first|exact HK.out|apply KeepBut.set_|apply keep_drewN|apply keep_drew|apply keep_alloc)|exact HK.out)) hk (.inl rfl));have n1_:=mk0 (hb);have n2_:=mk0 (hi);clear HK HB HI0;have HK:=n0_;have HB:=n1_;have HI0:=n2_;clear n0_ n1_ n2_;(try clear hb);(try clear hb2);(try clear hk);(try clear hi)))
   go_ret
   exact⟨by first|rfl|(simp [errW_none,errW_some] <;> rfl)|(simp [*,errW_none,errW_some] <;> rfl),by repeat (first|(with_reducible first|exact HI0.out|apply IsS76.alloc|apply IsS76.drewN|apply IsS76.drew|apply IsS76.set_1|apply IsS76.set_2)|exact HI0.out),by repeat (first|(with_reducible first|exact HB.out|apply aZ|apply nZ|apply dZ|refine sZ ?_ (IsS76.ge HI0.out))|exact HB.out),by repeat (first|(with_reducible first|exact HK.out|apply KeepBut.set_|apply keep_drewN|apply keep_drew|apply keep_alloc)|exact HK.out)⟩

/-! ### spec_DrawCommonOk: function 33 -/
def spec_DrawCommonOk.f (k : Nat) (l0 : List Int) : Option (List Int × List Int × (List (S56))) := (spec_l01Open.f l0).bind fun bt316 => ((spec_l01Cur_rows.f k bt316.1 bt316.2.1 bt316.2.2).bind fun bt320 => ((spec_CommonOf.f k bt320.1 bt320.2.1).bind fun t328 => (if (t328.length : Int) > 0 then ((spec_l01Cur_pick.f bt316.1 bt320.2.2.1 bt320.2.2.2 (mn 200 (t328.length : Int))).bind fun bt331 => ((spec_l01Cur_pick.f bt316.1 bt331.2.1 bt331.2.2 5).bind fun bt334 => (if bt334.1 = 0 then ((spec_l01Cur_raw.f bt316.1 bt334.2.1 bt334.2.2).bind fun bt337 => ((spec_l01Cur_pick.f bt316.1 bt337.2.1 bt337.2.2 9).bind fun bt340 => ((some (([bt337.1, bt340.1] : List Int) : List Int)).bind fun y343 => ((spec_l01Cur_pick.f bt316.1 bt340.2.1 bt340.2.2 2).bind fun bt346 => (if 0 ≤ bt346.1 then (if bt346.1 < (y343.length : Int) then (if 0 ≤ bt331.1 then (if bt331.1 < (t328.length : Int) then (some (bt320.1, bt320.2.1, (t328.set (bt331.1 : Int).toNat (⟨rd y343 bt346.1, (rd_T56 t328 bt331.1).f1⟩ : S56)))) else (none)) else (none)) else (none)) else (none)))))) else (if bt334.1 = 1 then ((spec_l01Cur_pick.f bt316.1 bt334.2.1 bt334.2.2 9).bind fun bt351 => (if 0 ≤ bt331.1 then (if bt331.1 < (t328.length : Int) then (some (bt320.1, bt320.2.1, (t328.set (bt331.1 : Int).toNat (⟨(rd_T56 t328 bt331.1).f0, bt351.1⟩ : S56)))) else (none)) else (none))) else (if bt334.1 = 2 then (if 0 ≤ bt331.1 then (if bt331.1 ≤ (t328.length : Int) then (if 0 ≤ (wrap64 (bt331.1 + 1)) then (if (wrap64 (bt331.1 + 1)) ≤ (t328.length : Int) then (some (bt320.1, bt320.2.1, (t328.eraseIdx (bt331.1 : Int).toNat))) else (none)) else (none)) else (none)) else (none)) else (some (bt320.1, bt320.2.1, t328))))))) else (some (bt320.1, bt320.2.1, t328)))))
theorem spec_DrawCommonOk.mono : ∀ a0 k, LeO (spec_DrawCommonOk.f k a0) (spec_DrawCommonOk.f (k + 1) a0) := by
 intro a0 k
 unfold spec_DrawCommonOk.f
 repeat' first
   | (with_reducible exact spec_CommonOf.mono _ _ _)
   | (with_reducible exact spec_l01Cur_rows.mono _ _ _ _)
   | (with_reducible exact LeO.refl _)
   | (with_reducible exact LeO.none _)
   | (with_reducible refine LeO.ite ?_ ?_)
   | (with_reducible refine LeO.bind ?_ (fun _ => ?_))
   | exact spec_CommonOf.mono _ _ _
   | exact spec_l01Cur_rows.mono _ _ _ _
   | exact LeO.none _
   | refine LeO.ite ?_ ?_
   | refine LeO.bind ?_ (fun _ => ?_)
def spec_DrawCommonOk.T12 : Bool × List (List Nat × List Nat) := (true, [([], []), ([], []), ([0, 1], [0, 1]), ([], []), ([], []), ([4], [4]), ([3, 5], [3, 5]), ([2, 6], [2, 6]), ([7, 7, 0, 1, 2, 3, 4, 5, 6, 7], [0, 3, 7])])
def spec_DrawCommonOk.B12 : List Nat := [0, 0, 3, 0, 0, 16, 56, 127, 255]
theorem spec_DrawCommonOk.tab12 : rtab .any (opsOf Try.f33 12) = spec_DrawCommonOk.T12 := by kernel_rfl
theorem spec_DrawCommonOk.bits12 : waitsOk spec_DrawCommonOk.T12.2 spec_DrawCommonOk.B12 = true := by kernel_rfl
abbrev spec_DrawCommonOk.m0 : Array Bool := #[F,F,F,F,F,F,F,F,F]
abbrev spec_DrawCommonOk.m1 : Array Bool := #[T,F,F,F,F,F,F,F,F]
abbrev spec_DrawCommonOk.m2 : Array Bool := #[T,T,F,F,F,F,F,F,F]
abbrev spec_DrawCommonOk.m3 : Array Bool := #[T,T,T,F,F,F,F,F,F]
abbrev spec_DrawCommonOk.m4 : Array Bool := #[T,T,T,T,F,F,F,F,F]
abbrev spec_DrawCommonOk.m5 : Array Bool := #[T,T,T,T,T,F,F,F,F]
abbrev spec_DrawCommonOk.m6 : Array Bool := #[T,T,T,T,T,T,F,F,F]
abbrev spec_DrawCommonOk.m7 : Array Bool := #[T,T,T,T,T,T,T,F,F]
abbrev spec_DrawCommonOk.m8 : Array Bool := #[T,T,T,T,T,T,T,T,F]
abbrev spec_DrawCommonOk.m9 : Array Bool := #[T,T,T,T,T,T,T,T,T]
set_option maxHeartbeats 8000000 in
set_option maxRecDepth 100000 in
theorem spec_DrawCommonOk.calls (k : Nat) (A0 : Option Addr) (c0 : Nat) (l0 : List Int) (r1 : List Int) (r2 : List Int) (r3 : List (S56)) (w : World) (hr0 : Kd.C (Kd.int .u8) w A0 l0.length l0) (hc0 : l0.length ≤ c0) (h : spec_DrawCommonOk.f k l0 = some (r1, r2, r3)) :
  Calls Try.prog 33 #[.slice A0 l0.length c0] w fun e w' => ∃ v0_ v1_ v2_ : Value, e = .returned (.tuple #[v0_, v1_, v2_]) ∧ Kd.R (Kd.int .i64) 3 w' w.heap.size (fun k_ => some k_ ≠ (v1_ : Value).ownBlock) v0_ r1 ∧ Kd.R (Kd.int .i64) 3 w' w.heap.size (fun k_ => some k_ ≠ (v0_ : Value).ownBlock) v1_ r2 ∧ Kd.R k56 56 w' w.heap.size (fun _ => True) v2_ r3 ∧ Below w.heap.size w w' := by
 have HR0:=mk0 hr0
 have HC0:=mk0 hc0
 clear hr0 hc0
 have HB:=mk0 (Below.refl w.heap.size w)
 have H:((spec_l01Open.f l0).bind fun bt316=>((spec_l01Cur_rows.f k bt316.1 bt316.2.1 bt316.2.2).bind fun bt320=>((spec_CommonOf.f k bt320.1 bt320.2.1).bind fun t328=>(if (t328.length:Int) > 0 then ((spec_l01Cur_pick.f bt316.1 bt320.2.2.1 bt320.2.2.2 (mn 200 (t328.length:Int))).bind fun bt331=>((spec_l01Cur_pick.f bt316.1 bt331.2.1 bt331.2.2 5).bind fun bt334=>(if bt334.1 = 0 then ((spec_l01Cur_raw.f bt316.1 bt334.2.1 bt334.2.2).bind fun bt337=>((spec_l01Cur_pick.f bt316.1 bt337.2.1 bt337.2.2 9).bind fun bt340=>((some (([bt337.1,bt340.1]:List Int):List Int)).bind fun y343=>((spec_l01Cur_pick.f bt316.1 bt340.2.1 bt340.2.2 2).bind fun bt346=>(if 0 ≤ bt346.1 then (if bt346.1 < (y343.length:Int) then (if 0 ≤ bt331.1 then (if bt331.1 < (t328.length:Int) then (some (bt320.1,bt320.2.1,(t328.set (bt331.1:Int).toNat (⟨rd y343 bt346.1,(rd_T56 t328 bt331.1).f1⟩:S56)))) else (none)) else (none)) else (none)) else (none)))))) else (if bt334.1 = 1 then ((spec_l01Cur_pick.f bt316.1 bt334.2.1 bt334.2.2 9).bind fun bt351=>(if 0 ≤ bt331.1 then (if bt331.1 < (t328.length:Int) then (some (bt320.1,bt320.2.1,(t328.set (bt331.1:Int).toNat (⟨(rd_T56 t328 bt331.1).f0,bt351.1⟩:S56)))) else (none)) else (none))) else (if bt334.1 = 2 then (if 0 ≤ bt331.1 then (if bt331.1 ≤ (t328.length:Int) then (if 0 ≤ (wrap64 (bt331.1 + 1)) then (if (wrap64 (bt331.1 + 1)) ≤ (t328.length:Int) then (some (bt320.1,bt320.2.1,(t328.eraseIdx (bt331.1:Int).toNat))) else (none)) else (none)) else (none)) else (none)) else (some (bt320.1,bt320.2.1,t328))))))) else (some (bt320.1,bt320.2.1,t328)))))) = some (r1,r2,r3):=h
 clear h
 replace H:=Option.bind_eq_some_iff.mp H
 obtain⟨⟨t316,t317,t318⟩,A20,H⟩:=H
 replace H:((spec_l01Cur_rows.f k t316 t317 t318).bind fun bt320=>((spec_CommonOf.f k bt320.1 bt320.2.1).bind fun t328=>(if (t328.length:Int) > 0 then ((spec_l01Cur_pick.f t316 bt320.2.2.1 bt320.2.2.2 (mn 200 (t328.length:Int))).bind fun bt331=>((spec_l01Cur_pick.f t316 bt331.2.1 bt331.2.2 5).bind fun bt334=>(if bt334.1 = 0 then ((spec_l01Cur_raw.f t316 bt334.2.1 bt334.2.2).bind fun bt337=>((spec_l01Cur_pick.f t316 bt337.2.1 bt337.2.2 9).bind fun bt340=>((some (([bt337.1,bt340.1]:List Int):List Int)).bind fun y343=>((spec_l01Cur_pick.f t316 bt340.2.1 bt340.2.2 2).bind fun bt346=>(if 0 ≤ bt346.1 then (if bt346.1 < (y343.length:Int) then (if 0 ≤ bt331.1 then (if bt331.1 < (t328.length:Int) then (some (bt320.1,bt320.2.1,(t328.set (bt331.1:Int).toNat (⟨rd y343 bt346.1,(rd_T56 t328 bt331.1).f1⟩:S56)))) else (none)) else (none)) else (none)) else (none)))))) else (if bt334.1 = 1 then ((spec_l01Cur_pick.f t316 bt334.2.1 bt334.2.2 9).bind fun bt351=>(if 0 ≤ bt331.1 then (if bt331.1 < (t328.length:Int) then (some (bt320.1,bt320.2.1,(t328.set (bt331.1:Int).toNat (⟨(rd_T56 t328 bt331.1).f0,bt351.1⟩:S56)))) else (none)) else (none))) else (if bt334.1 = 2 then (if 0 ≤ bt331.1 then (if bt331.1 ≤ (t328.length:Int) then (if 0 ≤ (wrap64 (bt331.1 + 1)) then (if (wrap64 (bt331.1 + 1)) ≤ (t328.length:Int) then (some (bt320.1,bt320.2.1,(t328.eraseIdx (bt331.1:Int).toNat))) else (none)) else (none)) else (none)) else (none)) else (some (bt320.1,bt320.2.1,t328))))))) else (some (bt320.1,bt320.2.1,t328))))) = some (r1,r2,r3):=H
 have A2:=mk0 A20
 clear A20
 replace H:=Option.bind_eq_some_iff.mp H
 obtain⟨⟨t320,t323,t326,t327⟩,A30,H⟩:=H
 replace H:((spec_CommonOf.f k t320 t323).bind fun t328=>(if (t328.length:Int) > 0 then ((spec_l01Cur_pick.f t316 t326 t327 (mn 200 (t328.length:Int))).bind fun bt331=>((spec_l01Cur_pick.f t316 bt331.2.1 bt331.2.2 5).bind fun bt334=>(if bt334.1 = 0 then ((spec_l01Cur_raw.f t316 bt334.2.1 bt334.2.2).bind fun bt337=>((spec_l01Cur_pick.f t316 bt337.2.1 bt337.2.2 9).bind fun bt340=>((some (([bt337.1,bt340.1]:List Int):List Int)).bind fun y343=>((spec_l01Cur_pick.f t316 bt340.2.1 bt340.2.2 2).bind fun bt346=>(if 0 ≤ bt346.1 then (if bt346.1 < (y343.length:Int) then (if 0 ≤ bt331.1 then (if bt331.1 < (t328.length:Int) then (some (t320,t323,(t328.set (bt331.1:Int).toNat (⟨rd y343 bt346.1,(rd_T56 t328 bt331.1).f1⟩:S56)))) else (none)) else (none)) else (none)) else (none)))))) else (if bt334.1 = 1 then ((spec_l01Cur_pick.f t316 bt334.2.1 bt334.2.2 9).bind fun bt351=>(if 0 ≤ bt331.1 then (if bt331.1 < (t328.length:Int) then (some (t320,t323,(t328.set (bt331.1:Int).toNat (⟨(rd_T56 t328 bt331.1).f0,bt351.1⟩:S56)))) else (none)) else (none))) else (if bt334.1 = 2 then (if 0 ≤ bt331.1 then (if bt331.1 ≤ (t328.length:Int) then (if 0 ≤ (wrap64 (bt331.1 + 1)) then (if (wrap64 (bt331.1 + 1)) ≤ (t328.length:Int) then (some (t320,t323,(t328.eraseIdx (bt331.1:Int).toNat))) else (none)) else (none)) else (none)) else (none)) else (some (t320,t323,t328))))))) else (some (t320,t323,t328)))) = some (r1,r2,r3):=H
 have A3:=mk0 A30
 clear A30
 replace H:=Option.bind_eq_some_iff.mp H
 obtain⟨t328,A40,H⟩:=H
 replace H:(if (t328.length:Int) > 0 then ((spec_l01Cur_pick.f t316 t326 t327 (mn 200 (t328.length:Int))).bind fun bt331=>((spec_l01Cur_pick.f t316 bt331.2.1 bt331.2.2 5).bind fun bt334=>(if bt334.1 = 0 then ((spec_l01Cur_raw.f t316 bt334.2.1 bt334.2.2).bind fun bt337=>((spec_l01Cur_pick.f t316 bt337.2.1 bt337.2.2 9).bind fun bt340=>((some (([bt337.1,bt340.1]:List Int):List Int)).bind fun y343=>((spec_l01Cur_pick.f t316 bt340.2.1 bt340.2.2 2).bind fun bt346=>(if 0 ≤ bt346.1 then (if bt346.1 < (y343.length:Int) then (if 0 ≤ bt331.1 then (if bt331.1 < (t328.length:Int) then (some (t320,t323,(t328.set (bt331.1:Int).toNat (⟨rd y343 bt346.1,(rd_T56 t328 bt331.1).f1⟩:S56)))) else (none)) else (none)) else (none)) else (none)))))) else (if bt334.1 = 1 then ((spec_l01Cur_pick.f t316 bt334.2.1 bt334.2.2 9).bind fun bt351=>(if 0 ≤ bt331.1 then (if bt331.1 < (t328.length:Int) then (some (t320,t323,(t328.set (bt331.1:Int).toNat (⟨(rd_T56 t328 bt331.1).f0,bt351.1⟩:S56)))) else (none)) else (none))) else (if bt334.1 = 2 then (if 0 ≤ bt331.1 then (if bt331.1 ≤ (t328.length:Int) then (if 0 ≤ (wrap64 (bt331.1 + 1)) then (if (wrap64 (bt331.1 + 1)) ≤ (t328.length:Int) then (some (t320,t323,(t328.eraseIdx (bt331.1:Int).toNat))) else (none)) else (none)) else (none)) else (none)) else (some (t320,t323,t328))))))) else (some (t320,t323,t328))) = some (r1,r2,r3):=H
 have A4:=mk0 A40
 clear A40
 by_cases c5:(t328.length:Int) > 0
 rotate_left
 ·rw [if_neg c5] at H
  have c5b0:decide (0 < (t328.length:Int)) = false:=decide_eq_false c5
  have c5b1:decide (0 < t328.length) = false:=decide_eq_false (by omega)
  clear c5
  simp only [Option.some.injEq,Prod.mk.injEq] at H
  obtain⟨rfl,rfl,rfl⟩:=H
  go_enter Try.func33,Try.ntmps33
  go_wp2_with (first|((with_reducible refine gate_callee (f:=48) rfl ?_);refine goesL_ (some 11) rfl rfl Try.func48 (by kernel_rfl) rfl #[.slice A0 l0.length c0] rfl (by (try simp only [mA,mC,mN]);first|done|rfl|(simp only [List.length_drop,List.length_take];rfl)) ?_;(with_reducible refine (spec_l01Open.calls _ _ l0 t316 t317 t318 w _ ?side1 ?side2 ?side3 A2.out).mono ?_);(case side1=>repeat (first|(with_reducible first|exact HB.out|apply aZ|apply nZ|apply dZ)|exact HB.out));(case side2=>exact HR0.out);(case side3=>exact HC0.out);rintro e w77 ⟨g319,rfl,hi,hb,hb2⟩;refine⟨_,rfl,?_⟩;have n0_:=mk0 (hb);have n1_:=mk0 (hi);clear HB;have HB:=n0_;have HI319:=n1_;clear n0_ n1_;(try clear hb);(try clear hb2);(try clear hk);(try clear hi))|((with_reducible refine gate_callee (f:=49) rfl ?_);refine goesL_ (some 14) rfl rfl Try.func49 (by kernel_rfl) rfl #[.pointer (some ⟨g319,0,none⟩)] rfl (by (try simp only [mA,mC,mN]);first|done|rfl|(simp only [List.length_drop,List.length_take];rfl)) ?_;(with_reducible refine (spec_l01Cur_rows.calls k g319 t316 t317 t318 t320 t323 t326 t327 w _ ?side1 ?side2 A3.out).mono ?_);(case side1=>repeat (first|(with_reducible first|exact HI319.out|apply IsS76.alloc|apply IsS76.drewN|apply IsS76.drew|apply IsS76.set_1|apply IsS76.set_2)|exact HI319.out));(case side2=>repeat (first|(with_reducible first|exact HB.out|apply aZ|apply nZ|apply dZ|refine sZ ?_ (IsS76.ge HI319.out))|exact HB.out));rintro e w78 ⟨v321,v324,rfl,ho0,ho1,hi,hb,hk⟩;refine⟨_,rfl,?_⟩;have n0_:=mk0 (Kd.R_lower ho0 (below_size (by repeat (first|(with_reducible first|exact HB.out|apply aZ|apply nZ|apply dZ|refine sZ ?_ (IsS76.ge HI319.out))|exact HB.out))));have n1_:=mk0 (Kd.R_lower ho1 (below_size (by repeat (first|(with_reducible first|exact HB.out|apply aZ|apply nZ|apply dZ|refine sZ ?_ (IsS76.ge HI319.out))|exact HB.out))));have n2_:=mk0 (hb);have n3_:=mk0 (hi);clear HB HI319;have HO322:=n0_;have HO325:=n1_;have HB:=n2_;have HI319:=n3_;clear n0_ n1_ n2_ n3_;(try clear hb);(try clear hb2);(try clear hk);(try clear hi);(try clear ho0);(try clear ho1);obtain⟨Ao79,co79,eo79⟩:=Kd.R_slice HO322.out;subst eo79;obtain⟨Ao80,co80,eo80⟩:=Kd.R_slice HO325.out;subst eo80)|((with_reducible refine gate_callee (f:=25) rfl ?_);refine goesL_ (some 19) rfl rfl Try.func25 (by kernel_rfl) rfl #[.slice Ao79 t320.length co79,.slice Ao80 t323.length co80] rfl (by (try simp only [mA,mC,mN]);first|done|rfl|(simp only [List.length_drop,List.length_take];rfl)) ?_;(with_reducible refine (spec_CommonOf.calls k _ _ t320 _ _ t323 t328 _ ?side1 ?side2 ?side3 ?side4 A4.out).mono ?_);(case side1=>repeat (first|exact (Kd.R_reads' HO322.out).2.2|(with_reducible first|refine aC ?_ _|refine nC ?_ _|refine dC ?_)));(case side2=>exact (Kd.R_reads' HO322.out).2.1);(case side3=>repeat (first|exact (Kd.R_reads' HO325.out).2.2|(with_reducible first|refine aC ?_ _|refine nC ?_ _|refine dC ?_)));(case side4=>exact (Kd.R_reads' HO325.out).2.1);rintro e w81 ⟨v329,rfl,ho0,hb⟩;refine⟨_,rfl,?_⟩;have n0_:=mk0 (Kd.R_below (by (with_reducible repeat (first|apply aR|apply nR|apply dR));exact HO322.out) hb);have n1_:=mk0 (Kd.R_below (by (with_reducible repeat (first|apply aR|apply nR|apply dR));exact HO325.out) hb);have n2_:=mk0 (Kd.R_lower ho0 (below_size (by repeat (first|(with_reducible first|exact HB.out|apply aZ|apply nZ|apply dZ|refine sZ ?_ (IsS76.ge HI319.out))|exact HB.out))));have n3_:=mk0 (IsS76.below (by repeat (first|(with_reducible first|exact HI319.out|apply IsS76.alloc|apply IsS76.drewN|apply IsS76.drew|apply IsS76.set_1|apply IsS76.set_2)|exact HI319.out)) hb);have n4_:=mk0 (below_step (by repeat (first|(with_reducible first|exact HB.out|apply aZ|apply nZ|apply dZ|refine sZ ?_ (IsS76.ge HI319.out))|exact HB.out)) hb);clear HO322 HO325 HI319 HB;have HO322:=n0_;have HO325:=n1_;have HO330:=n2_;have HI319:=n3_;have HB:=n4_;clear n0_ n1_ n2_ n3_ n4_;(try clear hb);(try clear hb2);(try clear hk);(try clear hi);(try clear ho0);obtain⟨Ao82,co82,eo82⟩:=Kd.R_slice HO330.out;subst eo82))
  go_ret3
  exact⟨_,_,_,by first|rfl|(simp [errW_none,errW_some] <;> rfl)|(simp [*,errW_none,errW_some] <;> rfl),by (with_reducible repeat (first|apply aR|apply nR|apply dR));exact HO322.out,by (with_reducible repeat (first|apply aR|apply nR|apply dR));exact HO325.out,by (with_reducible repeat (first|apply aR|apply nR|apply dR));exact HO330.out,by repeat (first|(with_reducible first|exact HB.out|apply aZ|apply nZ|apply dZ|refine sZ ?_ (IsS76.ge HI319.out))|exact HB.out)⟩

 rw [if_pos c5] at H
 have c5b0:decide (0 < (t328.length:Int)) = true:=decide_eq_true c5
 have c5b1:decide (0 < t328.length) = true:=decide_eq_true (by omega)
 clear c5
 obtain⟨ji6,hji6⟩:∃ j_:Int,(mn 200 (t328.length:Int)) = j_:=⟨_,rfl⟩
 replace H:((spec_l01Cur_pick.f t316 t326 t327 (ji6)).bind fun bt331=>((spec_l01Cur_pick.f t316 bt331.2.1 bt331.2.2 5).bind fun bt334=>(if bt334.1 = 0 then ((spec_l01Cur_raw.f t316 bt334.2.1 bt334.2.2).bind fun bt337=>((spec_l01Cur_pick.f t316 bt337.2.1 bt337.2.2 9).bind fun bt340=>((some (([bt337.1,bt340.1]:List Int):List Int)).bind fun y343=>((spec_l01Cur_pick.f t316 bt340.2.1 bt340.2.2 2).bind fun bt346=>(if 0 ≤ bt346.1 then (if bt346.1 < (y343.length:Int) then (if 0 ≤ bt331.1 then (if bt331.1 < (t328.length:Int) then (some (t320,t323,(t328.set (bt331.1:Int).toNat (⟨rd y343 bt346.1,(rd_T56 t328 bt331.1).f1⟩:S56)))) else (none)) else (none)) else (none)) else (none)))))) else (if bt334.1 = 1 then ((spec_l01Cur_pick.f t316 bt334.2.1 bt334.2.2 9).bind fun bt351=>(if 0 ≤ bt331.1 then (if bt331.1 < (t328.length:Int) then (some (t320,t323,(t328.set (bt331.1:Int).toNat (⟨(rd_T56 t328 bt331.1).f0,bt351.1⟩:S56)))) else (none)) else (none))) else (if bt334.1 = 2 then (if 0 ≤ bt331.1 then (if bt331.1 ≤ (t328.length:Int) then (if 0 ≤ (wrap64 (bt331.1 + 1)) then (if (wrap64 (bt331.1 + 1)) ≤ (t328.length:Int) then (some (t320,t323,(t328.eraseIdx (bt331.1:Int).toNat))) else (none)) else (none)) else (none)) else (none)) else (some (t320,t323,t328))))))) = some (r1,r2,r3):=by first|(rw [hji6] at H;exact H)|(simp only [hji6] at H ⊢;exact H)
 (try rw [hji6] at A2)
 (try rw [hji6] at A3)
 (try rw [hji6] at A4)
 (try (have hji6h:ji6 ≤ 200:=by (rw [← hji6];unfold mn;(repeat' split) <;> omega)))
 (try (have hji6g:ji6 ≤ 64:=by omega))
 (try (have hji6l:0 ≤ ji6:=by (rw [← hji6];unfold mn;(repeat' split) <;> omega)))
 (try (have hji6m:0 ≤ ji6:=by omega))
 have hji6_:(if (t328.length:Int) < 200 then (t328.length:Int) else 200) = ji6:=hji6
 replace H:=Option.bind_eq_some_iff.mp H
 obtain⟨⟨t331,t332,t333⟩,A70,H⟩:=H
 replace H:((spec_l01Cur_pick.f t316 t332 t333 5).bind fun bt334=>(if bt334.1 = 0 then ((spec_l01Cur_raw.f t316 bt334.2.1 bt334.2.2).bind fun bt337=>((spec_l01Cur_pick.f t316 bt337.2.1 bt337.2.2 9).bind fun bt340=>((some (([bt337.1,bt340.1]:List Int):List Int)).bind fun y343=>((spec_l01Cur_pick.f t316 bt340.2.1 bt340.2.2 2).bind fun bt346=>(if 0 ≤ bt346.1 then (if bt346.1 < (y343.length:Int) then (if 0 ≤ t331 then (if t331 < (t328.length:Int) then (some (t320,t323,(t328.set (t331:Int).toNat (⟨rd y343 bt346.1,(rd_T56 t328 t331).f1⟩:S56)))) else (none)) else (none)) else (none)) else (none)))))) else (if bt334.1 = 1 then ((spec_l01Cur_pick.f t316 bt334.2.1 bt334.2.2 9).bind fun bt351=>(if 0 ≤ t331 then (if t331 < (t328.length:Int) then (some (t320,t323,(t328.set (t331:Int).toNat (⟨(rd_T56 t328 t331).f0,bt351.1⟩:S56)))) else (none)) else (none))) else (if bt334.1 = 2 then (if 0 ≤ t331 then (if t331 ≤ (t328.length:Int) then (if 0 ≤ (wrap64 (t331 + 1)) then (if (wrap64 (t331 + 1)) ≤ (t328.length:Int) then (some (t320,t323,(t328.eraseIdx (t331:Int).toNat))) else (none)) else (none)) else (none)) else (none)) else (some (t320,t323,t328)))))) = some (r1,r2,r3):=H
 have A7:=mk0 A70
 clear A70
 replace H:=Option.bind_eq_some_iff.mp H
 obtain⟨⟨t334,t335,t336⟩,A80,H⟩:=H
 replace H:(if t334 = 0 then ((spec_l01Cur_raw.f t316 t335 t336).bind fun bt337=>((spec_l01Cur_pick.f t316 bt337.2.1 bt337.2.2 9).bind fun bt340=>((some (([bt337.1,bt340.1]:List Int):List Int)).bind fun y343=>((spec_l01Cur_pick.f t316 bt340.2.1 bt340.2.2 2).bind fun bt346=>(if 0 ≤ bt346.1 then (if bt346.1 < (y343.length:Int) then (if 0 ≤ t331 then (if t331 < (t328.length:Int) then (some (t320,t323,(t328.set (t331:Int).toNat (⟨rd y343 bt346.1,(rd_T56 t328 t331).f1⟩:S56)))) else (none)) else (none)) else (none)) else (none)))))) else (if t334 = 1 then ((spec_l01Cur_pick.f t316 t335 t336 9).bind fun bt351=>(if 0 ≤ t331 then (if t331 < (t328.length:Int) then (some (t320,t323,(t328.set (t331:Int).toNat (⟨(rd_T56 t328 t331).f0,bt351.1⟩:S56)))) else (none)) else (none))) else (if t334 = 2 then (if 0 ≤ t331 then (if t331 ≤ (t328.length:Int) then (if 0 ≤ (wrap64 (t331 + 1)) then (if (wrap64 (t331 + 1)) ≤ (t328.length:Int) then (some (t320,t323,(t328.eraseIdx (t331:Int).toNat))) else (none)) else (none)) else (none)) else (none)) else (some (t320,t323,t328))))) = some (r1,r2,r3):=H
 have A8:=mk0 A80
 clear A80
 by_cases c9:t334 = 0
 ·rw [if_pos c9] at H
  have c9b0:(t334 == 0) = true:=beq_iff_eq.mpr c9
  have c9b1:(t334 != 0) = false:=bne_eq_false_iff_eq.mpr c9
  clear c9
  replace H:=Option.bind_eq_some_iff.mp H
  obtain⟨⟨t337,t338,t339⟩,A100,H⟩:=H
  replace H:((spec_l01Cur_pick.f t316 t338 t339 9).bind fun bt340=>((some (([t337,bt340.1]:List Int):List Int)).bind fun y343=>((spec_l01Cur_pick.f t316 bt340.2.1 bt340.2.2 2).bind fun bt346=>(if 0 ≤ bt346.1 then (if bt346.1 < (y343.length:Int) then (if 0 ≤ t331 then (if t331 < (t328.length:Int) then (some (t320,t323,(t328.set (t331:Int).toNat (⟨rd y343 bt346.1,(rd_T56 t328 t331).f1⟩:S56)))) else (none)) else (none)) else (none)) else (none))))) = some (r1,r2,r3):=H
  have A10:=mk0 A100
  clear A100
  replace H:=Option.bind_eq_some_iff.mp H
  obtain⟨⟨t340,t341,t342⟩,A110,H⟩:=H
  replace H:((some (([t337,t340]:List Int):List Int)).bind fun y343=>((spec_l01Cur_pick.f t316 t341 t342 2).bind fun bt346=>(if 0 ≤ bt346.1 then (if bt346.1 < (y343.length:Int) then (if 0 ≤ t331 then (if t331 < (t328.length:Int) then (some (t320,t323,(t328.set (t331:Int).toNat (⟨rd y343 bt346.1,(rd_T56 t328 t331).f1⟩:S56)))) else (none)) else (none)) else (none)) else (none)))) = some (r1,r2,r3):=H
  have A11:=mk0 A110
  clear A110
  obtain⟨y343,hy343⟩:∃ y_:List Int,y_ = (([t337,t340]:List Int)):=⟨_,rfl⟩
  replace H:((spec_l01Cur_pick.f t316 t341 t342 2).bind fun bt346=>(if 0 ≤ bt346.1 then (if bt346.1 < (y343.length:Int) then (if 0 ≤ t331 then (if t331 < (t328.length:Int) then (some (t320,t323,(t328.set (t331:Int).toNat (⟨rd y343 bt346.1,(rd_T56 t328 t331).f1⟩:S56)))) else (none)) else (none)) else (none)) else (none))) = some (r1,r2,r3):=by first|(rw [hy343];with_reducible exact H)|(have H2_:=(Option.bind_some _ _).symm.trans H;rw [hy343];with_reducible exact H2_)|(have H2_:=(Option.bind_some _ _).symm.trans H;with_reducible exact H2_)|with_reducible exact H|(rw [hy343];exact H)|exact H
  have Ny343:=mk0 hy343
  clear hy343
  replace H:=Option.bind_eq_some_iff.mp H
  obtain⟨⟨t346,t347,t348⟩,A120,H⟩:=H
  replace H:(if 0 ≤ t346 then (if t346 < (y343.length:Int) then (if 0 ≤ t331 then (if t331 < (t328.length:Int) then (some (t320,t323,(t328.set (t331:Int).toNat (⟨rd y343 t346,(rd_T56 t328 t331).f1⟩:S56)))) else (none)) else (none)) else (none)) else (none)) = some (r1,r2,r3):=H
  have A12:=mk0 A120
  clear A120
  by_cases c13:0 ≤ t346
  rotate_left
  ·rw [if_neg c13] at H
   exact absurd H (by simp)
  rw [if_pos c13] at H
  have c13b0:decide (0 ≤ t346) = true:=decide_eq_true c13
  clear c13
  by_cases c14:t346 < (y343.length:Int)
  rotate_left
  ·rw [if_neg c14] at H
   exact absurd H (by simp)
  rw [if_pos c14] at H
  have c14b0:decide (t346 < (y343.length:Int)) = true:=decide_eq_true c14
  clear c14
  by_cases c15:0 ≤ t331
  rotate_left
  ·rw [if_neg c15] at H
   exact absurd H (by simp)
  rw [if_pos c15] at H
  have c15b0:decide (0 ≤ t331) = true:=decide_eq_true c15
  clear c15
  by_cases c16:t331 < (t328.length:Int)
  rotate_left
  ·rw [if_neg c16] at H
   exact absurd H (by simp)
  rw [if_pos c16] at H
  have c16b0:decide (t331 < (t328.length:Int)) = true:=decide_eq_true c16
  clear c16
  obtain⟨y350,hy350⟩:∃ y_:List (S56),y_ = (t328.set (t331:Int).toNat (⟨rd y343 t346,(rd_T56 t328 t331).f1⟩:S56)):=⟨_,rfl⟩
  replace H:(some (t320,t323,y350)) = some (r1,r2,r3):=by first|(rw [hy350];with_reducible exact H)|(have H2_:=(Option.bind_some _ _).symm.trans H;rw [hy350];with_reducible exact H2_)|(have H2_:=(Option.bind_some _ _).symm.trans H;with_reducible exact H2_)|with_reducible exact H|(rw [hy350];exact H)|exact H
  have Ny350:=mk0 hy350
  clear hy350
  simp only [Option.some.injEq,Prod.mk.injEq] at H
  obtain⟨rfl,rfl,rfl⟩:=H
  go_enter Try.func33,Try.ntmps33
  go_wp2_with (first|((with_reducible refine gate_callee (f:=48) rfl ?_);refine goesL_ (some 11) rfl rfl Try.func48 (by kernel_rfl) rfl #[.slice A0 l0.length c0] rfl (by (try simp only [mA,mC,mN]);first|done|rfl|(simp only [List.length_drop,List.length_take];rfl)) ?_;(with_reducible refine (spec_l01Open.calls _ _ l0 t316 t317 t318 w _ ?side1 ?side2 ?side3 A2.out).mono ?_);(case side1=>repeat (first|(with_reducible first|exact HB.out|apply aZ|apply nZ|apply dZ)|exact HB.out));(case side2=>exact HR0.out);(case side3=>exact HC0.out);rintro e w18 ⟨g319,rfl,hi,hb,hb2⟩;refine⟨_,rfl,?_⟩;have n0_:=mk0 (hb);have n1_:=mk0 (hi);clear HB;have HB:=n0_;have HI319:=n1_;clear n0_ n1_;(try clear hb);(try clear hb2);(try clear hk);(try clear hi))|((with_reducible refine gate_callee (f:=49) rfl ?_);refine goesL_ (some 14) rfl rfl Try.func49 (by kernel_rfl) rfl #[.pointer (some ⟨g319,0,none⟩)] rfl (by (try simp only [mA,mC,mN]);first|done|rfl|(simp only [List.length_drop,List.length_take];rfl)) ?_;(with_reducible refine (spec_l01Cur_rows.calls k g319 t316 t317 t318 t320 t323 t326 t327 w _ ?side1 ?side2 A3.out).mono ?_);(case side1=>repeat (first|(with_reducible first|exact HI319.out|apply IsS76.alloc|apply IsS76.drewN|apply IsS76.drew|apply IsS76.set_1|apply IsS76.set_2)|exact HI319.out));(case side2=>repeat (first|(with_reducible first|exact HB.out|apply aZ|apply nZ|apply dZ|refine sZ ?_ (IsS76.ge HI319.out))|exact HB.out));rintro e w19 ⟨v321,v324,rfl,ho0,ho1,hi,hb,hk⟩;refine⟨_,rfl,?_⟩;have n0_:=mk0 (Kd.R_lower ho0 (below_size (by repeat (first|(with_reducible first|exact HB.out|apply aZ|apply nZ|apply dZ|refine sZ ?_ (IsS76.ge HI319.out))|exact HB.out))));have n1_:=mk0 (Kd.R_lower ho1 (below_size (by repeat (first|(with_reducible first|exact HB.out|apply aZ|apply nZ|apply dZ|refine sZ ?_ (IsS76.ge HI319.out))|exact HB.out))));have n2_:=mk0 (hb);have n3_:=mk0 (hi);clear HB HI319;have HO322:=n0_;have HO325:=n1_;have HB:=n2_;have HI319:=n3_;clear n0_ n1_ n2_ n3_;(try clear hb);(try clear hb2);(try clear hk);(try clear hi);(try clear ho0);(try clear ho1);obtain⟨Ao20,co20,eo20⟩:=Kd.R_slice HO322.out;subst eo20;obtain⟨Ao21,co21,eo21⟩:=Kd.R_slice HO325.out;subst eo21)|((with_reducible refine gate_callee (f:=25) rfl ?_);refine goesL_ (some 19) rfl rfl Try.func25 (by kernel_rfl) rfl #[.slice Ao20 t320.length co20,.slice Ao21 t323.length co21] rfl (by (try simp only [mA,mC,mN]);first|done|rfl|(simp only [List.length_drop,List.length_take];rfl)) ?_;(with_reducible refine (spec_CommonOf.calls k _ _ t320 _ _ t323 t328 _ ?side1 ?side2 ?side3 ?side4 A4.out).mono ?_);(case side1=>repeat (first|exact (Kd.R_reads' HO322.out).2.2|(with_reducible first|refine aC ?_ _|refine nC ?_ _|refine dC ?_)));(case side2=>exact (Kd.R_reads' HO322.out).2.1);(case side3=>repeat (first|exact (Kd.R_reads' HO325.out).2.2|(with_reducible first|refine aC ?_ _|refine nC ?_ _|refine dC ?_)));(case side4=>exact (Kd.R_reads' HO325.out).2.1);rintro e w22 ⟨v329,rfl,ho0,hb⟩;refine⟨_,rfl,?_⟩;have n0_:=mk0 (Kd.R_below (by (with_reducible repeat (first|apply aR|apply nR|apply dR));exact HO322.out) hb);have n1_:=mk0 (Kd.R_below (by (with_reducible repeat (first|apply aR|apply nR|apply dR));exact HO325.out) hb);have n2_:=mk0 (Kd.R_lower ho0 (below_size (by repeat (first|(with_reducible first|exact HB.out|apply aZ|apply nZ|apply dZ|refine sZ ?_ (IsS76.ge HI319.out))|exact HB.out))));have n3_:=mk0 (IsS76.below (by repeat (first|(with_reducible first|exact HI319.out|apply IsS76.alloc|apply IsS76.drewN|apply IsS76.drew|apply IsS76.set_1|apply IsS76.set_2)|exact HI319.out)) hb);have n4_:=mk0 (below_step (by repeat (first|(with_reducible first|exact HB.out|apply aZ|apply nZ|apply dZ|refine sZ ?_ (IsS76.ge HI319.out))|exact HB.out)) hb);clear HO322 HO325 HI319 HB;have HO322:=n0_;have HO325:=n1_;have HO330:=n2_;have HI319:=n3_;have HB:=n4_;clear n0_ n1_ n2_ n3_ n4_;(try clear hb);(try clear hb2);(try clear hk);(try clear hi);(try clear ho0);obtain⟨Ao23,co23,eo23⟩:=Kd.R_slice HO330.out;subst eo23)|((with_reducible refine gate_callee (f:=50) rfl ?_);refine goesL_ (some 27) rfl rfl Try.func50 (by kernel_rfl) rfl #[.pointer (some ⟨g319,0,none⟩),.int .i64 ji6] rfl (by (try simp only [mA,mC,mN]);first|done|(simp only [hji6];rfl)|rfl|(simp only [List.length_drop,List.length_take];rfl)) ?_;(with_reducible refine (spec_l01Cur_pick.calls g319 t316 t326 t327 ji6 t331 t332 t333 w _ ?side1 ?side2 A7.out).mono ?_);(case side1=>repeat (first|(with_reducible first|exact HI319.out|apply IsS76.alloc|apply IsS76.drewN|apply IsS76.drew|apply IsS76.set_1|apply IsS76.set_2)|exact HI319.out));(case side2=>repeat (first|(with_reducible first|exact HB.out|apply aZ|apply nZ|apply dZ|refine sZ ?_ (IsS76.ge HI319.out))|exact HB.out));rintro e w24 ⟨rfl,hi,hb,hk⟩;refine⟨_,rfl,?_⟩;have n0_:=mk0 (Kd.R_mono (Kd.R_keep (IsS76.apart (show IsS76 w _ g319 t316 t326 t327 from by repeat (first|(with_reducible first|exact HI319.out|apply IsS76.alloc|apply IsS76.drewN|apply IsS76.drew|apply IsS76.set_1|apply IsS76.set_2)|exact HI319.out)) (by (with_reducible repeat (first|apply aR|apply nR|apply dR));exact HO322.out) (by decide)) hk (fun _ h=>h.2)) (fun _ h=>h.1));have n1_:=mk0 (Kd.R_mono (Kd.R_keep (IsS76.apart (show IsS76 w _ g319 t316 t326 t327 from by repeat (first|(with_reducible first|exact HI319.out|apply IsS76.alloc|apply IsS76.drewN|apply IsS76.drew|apply IsS76.set_1|apply IsS76.set_2)|exact HI319.out)) (by (with_reducible repeat (first|apply aR|apply nR|apply dR));exact HO325.out) (by decide)) hk (fun _ h=>h.2)) (fun _ h=>h.1));have n2_:=mk0 (Kd.R_mono (Kd.R_keep (IsS76.apart (show IsS76 w _ g319 t316 t326 t327 from by repeat (first|(with_reducible first|exact HI319.out|apply IsS76.alloc|apply IsS76.drewN|apply IsS76.drew|apply IsS76.set_1|apply IsS76.set_2)|exact HI319.out)) (by (with_reducible repeat (first|apply aR|apply nR|apply dR));exact HO330.out) (by decide)) hk (fun _ h=>h.2)) (fun _ h=>h.1));have n3_:=mk0 (hb);have n4_:=mk0 (hi);clear HO322 HO325 HO330 HB HI319;have HO322:=n0_;have HO325:=n1_;have HO330:=n2_;have HB:=n3_;have HI319:=n4_;clear n0_ n1_ n2_ n3_ n4_;(try clear hb);(try clear hb2);(try clear hk);(try clear hi))|((with_reducible refine gate_callee (f:=50) rfl ?_);refine goesL_ (some 29) rfl rfl Try.func50 (by kernel_rfl) rfl #[.pointer (some ⟨g319,0,none⟩),.int .i64 5] rfl (by (try simp only [mA,mC,mN]);first|done|rfl|(simp only [List.length_drop,List.length_take];rfl)) ?_;(with_reducible refine (spec_l01Cur_pick.calls g319 t316 t332 t333 5 t334 t335 t336 w _ ?side1 ?side2 A8.out).mono ?_);(case side1=>repeat (first|(with_reducible first|exact HI319.out|apply IsS76.alloc|apply IsS76.drewN|apply IsS76.drew|apply IsS76.set_1|apply IsS76.set_2)|exact HI319.out));(case side2=>repeat (first|(with_reducible first|exact HB.out|apply aZ|apply nZ|apply dZ|refine sZ ?_ (IsS76.ge HI319.out))|exact HB.out));rintro e w25 ⟨rfl,hi,hb,hk⟩;refine⟨_,rfl,?_⟩;have n0_:=mk0 (Kd.R_mono (Kd.R_keep (IsS76.apart (show IsS76 w _ g319 t316 t332 t333 from by repeat (first|(with_reducible first|exact HI319.out|apply IsS76.alloc|apply IsS76.drewN|apply IsS76.drew|apply IsS76.set_1|apply IsS76.set_2)|exact HI319.out)) (by (with_reducible repeat (first|apply aR|apply nR|apply dR));exact HO322.out) (by decide)) hk (fun _ h=>h.2)) (fun _ h=>h.1));have n1_:=mk0 (Kd.R_mono (Kd.R_keep (IsS76.apart (show IsS76 w _ g319 t316 t332 t333 from by repeat (first|(with_reducible first|exact HI319.out|apply IsS76.alloc|apply IsS76.drewN|apply IsS76.drew|apply IsS76.set_1|apply IsS76.set_2)|exact HI319.out)) (by (with_reducible repeat (first|apply aR|apply nR|apply dR));exact HO325.out) (by decide)) hk (fun _ h=>h.2)) (fun _ h=>h.1));have n2_:=mk0 (Kd.R_mono (Kd.R_keep (IsS76.apart (show IsS76 w _ g319 t316 t332 t333 from by repeat (first|(with_reducible first|exact HI319.out|apply IsS76.alloc|apply IsS76.drewN|apply IsS76.drew|apply IsS76.set_1|apply IsS76.set_2)|exact HI319.out)) (by (with_reducible repeat (first|apply aR|apply nR|apply dR));exact HO330.out) (by decide)) hk (fun _ h=>h.2)) (fun _ h=>h.1));have n3_:=mk0 (hb);have n4_:=mk0 (hi);clear HO322 HO325 HO330 HB HI319;have HO322:=n0_;have HO325:=n1_;have HO330:=n2_;have HB:=n3_;have HI319:=n4_;clear n0_ n1_ n2_ n3_ n4_;(try clear hb);(try clear hb2);(try clear hk);(try clear hi))|((with_reducible refine gate_callee (f:=51) rfl ?_);refine goesL_ (some 35) rfl rfl Try.func51 (by kernel_rfl) rfl #[.pointer (some ⟨g319,0,none⟩)] rfl (by (try simp only [mA,mC,mN]);first|done|rfl|(simp only [List.length_drop,List.length_take];rfl)) ?_;(with_reducible refine (spec_l01Cur_raw.calls g319 t316 t335 t336 t337 t338 t339 w _ ?side1 ?side2 A10.out).mono ?_);(case side1=>repeat (first|(with_reducible first|exact HI319.out|apply IsS76.alloc|apply IsS76.drewN|apply IsS76.drew|apply IsS76.set_1|apply IsS76.set_2)|exact HI319.out));(case side2=>repeat (first|(with_reducible first|exact HB.out|apply aZ|apply nZ|apply dZ|refine sZ ?_ (IsS76.ge HI319.out))|exact HB.out));rintro e w26 ⟨rfl,hi,hb,hk⟩;refine⟨_,rfl,?_⟩;have n0_:=mk0 (Kd.R_mono (Kd.R_keep (IsS76.apart (show IsS76 w _ g319 t316 t335 t336 from by repeat (first|(with_reducible first|exact HI319.out|apply IsS76.alloc|apply IsS76.drewN|apply IsS76.drew|apply IsS76.set_1|apply IsS76.set_2)|exact HI319.out)) (by (with_reducible repeat (first|apply aR|apply nR|apply dR));exact HO322.out) (by decide)) hk (fun _ h=>h.2)) (fun _ h=>h.1));have n1_:=mk0 (Kd.R_mono (Kd.R_keep (IsS76.apart (show IsS76 w _ g319 t316 t335 t336 from by repeat (first|(with_reducible first|exact HI319.out|apply IsS76.alloc|apply IsS76.drewN|apply IsS76.drew|apply IsS76.set_1|apply IsS76.set_2)|exact HI319.out)) (by (with_reducible repeat (first|apply aR|apply nR|apply dR));exact HO325.out) (by decide)) hk (fun _ h=>h.2)) (fun _ h=>h.1));have n2_:=mk0 (Kd.R_mono (Kd.R_keep (IsS76.apart (show IsS76 w _ g319 t316 t335 t336 from by repeat (first|(with_reducible first|exact HI319.out|apply IsS76.alloc|apply IsS76.drewN|apply IsS76.drew|apply IsS76.set_1|apply IsS76.set_2)|exact HI319.out)) (by (with_reducible repeat (first|apply aR|apply nR|apply dR));exact HO330.out) (by decide)) hk (fun _ h=>h.2)) (fun _ h=>h.1));have n3_:=mk0 (hb);have n4_:=mk0 (hi);clear HO322 HO325 HO330 HB HI319;have HO322:=n0_;have HO325:=n1_;have HO330:=n2_;have HB:=n3_;have HI319:=n4_;clear n0_ n1_ n2_ n3_ n4_;(try clear hb);(try clear hb2);(try clear hk);(try clear hi))|((with_reducible refine gate_callee (f:=50) rfl ?_);refine goesL_ (some 37) rfl rfl Try.func50 (by kernel_rfl) rfl #[.pointer (some ⟨g319,0,none⟩),.int .i64 9] rfl (by (try simp only [mA,mC,mN]);first|done|rfl|(simp only [List.length_drop,List.length_take];rfl)) ?_;(with_reducible refine (spec_l01Cur_pick.calls g319 t316 t338 t339 9 t340 t341 t342 w _ ?side1 ?side2 A11.out).mono ?_);(case side1=>repeat (first|(with_reducible first|exact HI319.out|apply IsS76.alloc|apply IsS76.drewN|apply IsS76.drew|apply IsS76.set_1|apply IsS76.set_2)|exact HI319.out));(case side2=>repeat (first|(with_reducible first|exact HB.out|apply aZ|apply nZ|apply dZ|refine sZ ?_ (IsS76.ge HI319.out))|exact HB.out));rintro e w27 ⟨rfl,hi,hb,hk⟩;refine⟨_,rfl,?_⟩;have n0_:=mk0 (Kd.R_mono (Kd.R_keep (IsS76.apart (show IsS76 w _ g319 t316 t338 t339 from by repeat (first|(with_reducible first|exact HI319.out|apply IsS76.alloc|apply IsS76.drewN|apply IsS76.drew|apply IsS76.set_1|apply IsS76.set_2)|exact HI319.out)) (by (with_reducible repeat (first|apply aR|apply nR|apply dR));exact HO322.out) (by decide)) hk (fun _ h=>h.2)) (fun _ h=>h.1));have n1_:=mk0 (Kd.R_mono (Kd.R_keep (IsS76.apart (show IsS76 w _ g319 t316 t338 t339 from by repeat (first|(with_reducible first|exact HI319.out|apply IsS76.alloc|apply IsS76.drewN|apply IsS76.drew|apply IsS76.set_1|apply IsS76.set_2)|exact HI319.out)) (by (with_reducible repeat (first|apply aR|apply nR|apply dR));exact HO325.out) (by decide)) hk (fun _ h=>h.2)) (fun _ h=>h.1));have n2_:=mk0 (Kd.R_mono (Kd.R_keep (IsS76.apart (show IsS76 w _ g319 t316 t338 t339 from by repeat (first|(with_reducible first|exact HI319.out|apply IsS76.alloc|apply IsS76.drewN|apply IsS76.drew|apply IsS76.set_1|apply IsS76.set_2)|exact HI319.out)) (by (with_reducible repeat (first|apply aR|apply nR|apply dR));exact HO330.out) (by decide)) hk (fun _ h=>h.2)) (fun _ h=>h.1));have n3_:=mk0 (hb);have n4_:=mk0 (hi);clear HO322 HO325 HO330 HB HI319;have HO322:=n0_;have HO325:=n1_;have HO330:=n2_;have HB:=n3_;have HI319:=n4_;clear n0_ n1_ n2_ n3_ n4_;(try clear hb);(try clear hb2);(try clear hk);(try clear hi))|((with_reducible refine gate_dst (N:=38) rfl ?_);refine Kd.R_lit (Kd.int .i64) _ 3 ?hg (N:=38) ?hd (xs:=([t337,t340]:List Int)) (inner:=[.int .i64 t337,.int .i64 t340]) (ok:=fun _=>True) (okp:=fun _=>True) ?hr ?hp (fun _ hk=>hk) trivial (Below.refl _ _) (Nat.le_refl _) (by simp) ?_;(case hd=>rfl);(case hg=>rfl);(case hr=>first|(go_simp;done)|(go_simp;rfl));(case hp=>exact (Reps.one (show Kd.M (Kd.int .i64) _ _ _ t337 [.int .i64 t337] from rfl) (Reps.one (show Kd.M (Kd.int .i64) _ _ _ t340 [.int .i64 t340] from rfl) (Reps.none _ _))));intro v344 w28 ho29 hb hg_ hnew_;clear hg_ hnew_;(first|rw [← Ny343.out] at ho29|(simp only [Int.reduceToNat] at ho29;rw [← Ny343.out] at ho29));have n0_:=mk0 (Kd.R_elder' (by (with_reducible repeat (first|apply aR|apply nR|apply dR));exact HO322.out) (Kd.R_base ho29) hb);have n1_:=mk0 (Kd.R_elder' (by (with_reducible repeat (first|apply aR|apply nR|apply dR));exact HO325.out) (Kd.R_base ho29) hb);have n2_:=mk0 (Kd.R_below (by (with_reducible repeat (first|apply aR|apply nR|apply dR));exact HO330.out) hb);have n3_:=mk0 (Kd.R_lower (Kd.R_new' (Kd.R_new' ho29 (Kd.R_lt (by (with_reducible repeat (first|apply aR|apply nR|apply dR));exact HO322.out))) (Kd.R_lt (by (with_reducible repeat (first|apply aR|apply nR|apply dR));exact HO325.out))) (below_size (by repeat (first|(with_reducible first|exact HB.out|apply aZ|apply nZ|apply dZ|refine sZ ?_ (IsS76.ge HI319.out))|exact HB.out))));have n4_:=mk0 (IsS76.below (by repeat (first|(with_reducible first|exact HI319.out|apply IsS76.alloc|apply IsS76.drewN|apply IsS76.drew|apply IsS76.set_1|apply IsS76.set_2)|exact HI319.out)) hb);have n5_:=mk0 (below_step (by repeat (first|(with_reducible first|exact HB.out|apply aZ|apply nZ|apply dZ|refine sZ ?_ (IsS76.ge HI319.out))|exact HB.out)) hb);clear HO322 HO325 HO330 HI319 HB;have HO322:=n0_;have HO325:=n1_;have HO330:=n2_;have HO345:=n3_;have HI319:=n4_;have HB:=n5_;clear n0_ n1_ n2_ n3_ n4_ n5_ hb ho29)|((with_reducible refine gate_callee (f:=50) rfl ?_);refine goesL_ (some 40) rfl rfl Try.func50 (by kernel_rfl) rfl #[.pointer (some ⟨g319,0,none⟩),.int .i64 2] rfl (by (try simp only [mA,mC,mN]);first|done|rfl|(simp only [List.length_drop,List.length_take];rfl)) ?_;(with_reducible refine (spec_l01Cur_pick.calls g319 t316 t341 t342 2 t346 t347 t348 w _ ?side1 ?side2 A12.out).mono ?_);(case side1=>repeat (first|(with_reducible first|exact HI319.out|apply IsS76.alloc|apply IsS76.drewN|apply IsS76.drew|apply IsS76.set_1|apply IsS76.set_2)|exact HI319.out));(case side2=>repeat (first|(with_reducible first|exact HB.out|apply aZ|apply nZ|apply dZ|refine sZ ?_ (IsS76.ge HI319.out))|exact HB.out));rintro e w30 ⟨rfl,hi,hb,hk⟩;refine⟨_,rfl,?_⟩;have n0_:=mk0 (Kd.R_mono (Kd.R_keep (IsS76.apart (show IsS76 w _ g319 t316 t341 t342 from by repeat (first|(with_reducible first|exact HI319.out|apply IsS76.alloc|apply IsS76.drewN|apply IsS76.drew|apply IsS76.set_1|apply IsS76.set_2)|exact HI319.out)) (by (with_reducible repeat (first|apply aR|apply nR|apply dR));exact HO322.out) (by decide)) hk (fun _ h=>h.2)) (fun _ h=>h.1));have n1_:=mk0 (Kd.R_mono (Kd.R_keep (IsS76.apart (show IsS76 w _ g319 t316 t341 t342 from by repeat (first|(with_reducible first|exact HI319.out|apply IsS76.alloc|apply IsS76.drewN|apply IsS76.drew|apply IsS76.set_1|apply IsS76.set_2)|exact HI319.out)) (by (with_reducible repeat (first|apply aR|apply nR|apply dR));exact HO325.out) (by decide)) hk (fun _ h=>h.2)) (fun _ h=>h.1));have n2_:=mk0 (Kd.R_mono (Kd.R_keep (IsS76.apart (show IsS76 w _ g319 t316 t341 t342 from by repeat (first|(with_reducible first|exact HI319.out|apply IsS76.alloc|apply IsS76.drewN|apply IsS76.drew|apply IsS76.set_1|apply IsS76.set_2)|exact HI319.out)) (by (with_reducible repeat (first|apply aR|apply nR|apply dR));exact HO330.out) (by decide)) hk (fun _ h=>h.2)) (fun _ h=>h.1));have n3_:=mk0 (Kd.R_mono (Kd.R_keep (IsS76.apart (show IsS76 w _ g319 t316 t341 t342 from by repeat (first|(with_reducible first|exact HI319.out|apply IsS76.alloc|apply IsS76.drewN|apply IsS76.drew|apply IsS76.set_1|apply IsS76.set_2)|exact HI319.out)) (by (with_reducible repeat (first|apply aR|apply nR|apply dR));exact HO345.out) (by decide)) hk (fun _ h=>h.2)) (fun _ h=>h.1));have n4_:=mk0 (hb);have n5_:=mk0 (hi);clear HO322 HO325 HO330 HO345 HB HI319;have HO322:=n0_;have HO325:=n1_;have HO330:=n2_;have HO345:=n3_;have HB:=n4_;have HI319:=n5_;clear n0_ n1_ n2_ n3_ n4_ n5_;(try clear hb);(try clear hb2);(try clear hk);(try clear hi);obtain⟨Ao31,co31,eo31⟩:=Kd.R_slice HO345.out;subst eo31;have p349:0 ≤ (t346:Int):=of_decide_eq_true (by first|(with_reducible assumption)|assumption);have q349:t346 < (y343.length:Int):=of_decide_eq_true (by first|(with_reducible assumption)|assumption);obtain⟨ad349,e349,hx349_0⟩:=Kd.at_int (Kd.R_reads' HO345.out).2.2 t346 p349 q349;cases e349;replace p349:=eq_true p349;replace q349:=eq_true q349;have p17:0 ≤ (t331:Int):=of_decide_eq_true (by first|(with_reducible assumption)|assumption);have q17:(t331:Int) < ((t328.length:Int):Int):=of_decide_eq_true (by first|(with_reducible assumption)|assumption);obtain⟨go17,co17,eo17,gb17,gl17,cl17,HG17⟩:=Kd.R_form HO330.out (by omega);(first|cases eo17|(injection eo17 with ea_ en_ ec_;(first|subst ea_|(injection ea_ with ea_;subst ea_));subst ec_;clear en_));have GB17:=mk0 gb17;have GG17:=mk0 HG17;clear gb17 gl17 HG17;obtain⟨ce17,hcl17,hM17,hcc17,hfr17⟩:=Kd.R_elem HO330.out z56 (t331:Int) p17 q17;obtain rfl:=k56_openM hM17;have hx17_0:w30.cell? ⟨go17,(t331:Int).toNat * 2,none⟩ = some (.int .i64 ((rd_T56 t328 t331).f0)):=hcc17 0 _ rfl;have hx17_1:w30.cell? ⟨go17,(t331:Int).toNat * 2 + 1,none⟩ = some (.int .i64 ((rd_T56 t328 t331).f1)):=hcc17 1 _ rfl;have hf17_0:w30.frozen? ⟨go17,(t331:Int).toNat * 2,none⟩ = false:=hfr17 0;have hf17_1:w30.frozen? ⟨go17,(t331:Int).toNat * 2 + 1,none⟩ = false:=hfr17 1;clear hcl17 hcc17 hfr17;(try clear hM17);replace p17:=eq_true p17;replace q17:=eq_true q17;have HX32:=mk0 (show Kd.R k56 56 w30 w.heap.size (fun _=>True) (.slice (some ⟨go17,0,none⟩) t328.length co23) t328 from (by (with_reducible repeat (first|apply aR|apply nR|apply dR));exact HO330.out));obtain⟨ce32,hcl32,hM32,hcc32,hfr32⟩:=Kd.R_elem HX32.out z56 (t331:Int) (of_decide_eq_true (by first|(with_reducible assumption)|assumption)) (by have h_:(t331:Int) < ((t328.length:Int):Int):=of_decide_eq_true (by first|(with_reducible assumption)|assumption);first|exact h_|(have e_:=(Kd.R_reads' HO330.out).1;omega)|simpa using h_);obtain rfl:=k56_openM hM32;have HP32:=Kd.R_seg HX32.out (t331:Int) (of_decide_eq_true (by first|(with_reducible assumption)|assumption)) (by have h_:(t331:Int) < ((t328.length:Int):Int):=of_decide_eq_true (by first|(with_reducible assumption)|assumption);first|exact h_|(have e_:=(Kd.R_reads' HO330.out).1;omega)|simpa using h_) (seg:=[.int .i64 (rd y343 t346)]) (j:=0) hcl32 hcc32 (show 1 ≤ 2 from by decide) (x':=(⟨rd y343 t346,(rd_T56 t328 t331).f1⟩:S56)) (k56_mkM _ _ _ (⟨rd y343 t346,(rd_T56 t328 t331).f1⟩:S56) ) (fun _ hk=>hk);have hx32_0:=hcc32 0 _ rfl;(try simp only [show (k56).sz = 2 from rfl,Nat.mul_one,Nat.add_zero] at hx32_0);have hf32_0:=hfr32 0;(try simp only [show (k56).sz = 2 from rfl,Nat.mul_one,Nat.add_zero] at hf32_0);clear hcl32 hcc32 hfr32;(try clear hM32))|((with_reducible refine gate_store (t:=3) (p:=44) rfl ?_);refine store_event (t:=3) (p:=44) (v:=?vo_w33) (w1:=(w30.setCell ⟨go17,(t331:Int).toNat * 2,none⟩ (.int .i64 (rd y343 t346)))) ?hg ?ho ?hn ?hr ?_;(case ho=>rfl);(case hg=>rfl);(case hn=>rfl);(case hr=>first|(go_simp;done)|(go_simp;rfl));intro w33 hw;have hg:w30.grownBy w33 (some go17):=(by rw [hw];exact HP32.2);have hp_:Kd.R k56 56 w33 w.heap.size (fun _=>True) (.slice (some ⟨go17,0,none⟩) t328.length co23) y350:=(by rw [hw,Ny350.out];exact HP32.1);clear HP32;have n0_:=mk0 (IsS76.grown (by repeat (first|(with_reducible first|exact HI319.out|apply IsS76.alloc|apply IsS76.drewN|apply IsS76.drew|apply IsS76.set_1|apply IsS76.set_2)|exact HI319.out)) hg (IsS76.own_ne HI319.out HO330.out (by decide)));have n1_:=mk0 (Kd.R_over' (v:=(.slice (some ⟨go17,0,none⟩) t328.length co23)) (by (with_reducible repeat (first|apply aR|apply nR|apply dR));exact HO322.out) (Kd.R_typed HO330.out) (by decide) hg);have n2_:=mk0 (Kd.R_over' (v:=(.slice (some ⟨go17,0,none⟩) t328.length co23)) (by (with_reducible repeat (first|apply aR|apply nR|apply dR));exact HO325.out) (Kd.R_typed HO330.out) (by decide) hg);have n3_:=mk0 (hp_);have n4_:=mk0 (Kd.R_over' (v:=(.slice (some ⟨go17,0,none⟩) t328.length co23)) (by (with_reducible repeat (first|apply aR|apply nR|apply dR));exact HO345.out) (Kd.R_typed HO330.out) (by decide) hg);have n5_:=mk0 ((by rw [hw];exact sZ (HB.out) GB17.out:Below w.heap.size w w33));clear HI319 HO322 HO325 HO330 HO345 HB;have HI319:=n0_;have HO322:=n1_;have HO325:=n2_;have HO330:=n3_;have HO345:=n4_;have HB:=n5_;clear n0_ n1_ n2_ n3_ n4_ n5_ hg hw hp_))
  go_ret3
  exact⟨_,_,_,by first|rfl|(simp [errW_none,errW_some] <;> rfl)|(simp only [← hji6];first|rfl|(simp [errW_none,errW_some] <;> rfl))|(simp [*,errW_none,errW_some] <;> rfl),by (with_reducible repeat (first|apply aR|apply nR|apply dR));exact Kd.R_mono HO322.out (fun _ hk=>hk.1),by (with_reducible repeat (first|apply aR|apply nR|apply dR));exact Kd.R_mono HO325.out (fun _ hk=>hk.1),by (with_reducible repeat (first|apply aR|apply nR|apply dR));exact HO330.out,by repeat (first|(with_reducible first|exact HB.out|apply aZ|apply nZ|apply dZ|refine sZ ?_ (IsS76.ge HI319.out))|exact HB.out)⟩
 rw [if_neg c9] at H
 have c9b0:(t334 == 0) = false:=beq_eq_false_iff_ne.mpr c9
 have c9b1:(t334 != 0) = true:=bne_iff_ne.mpr c9
 by_cases c34:t334 = 1
 ·rw [if_pos c34] at H
  have c34b0:(t334 == 1) = true:=beq_iff_eq.mpr c34
  have c34b1:(t334 != 1) = false:=bne_eq_false_iff_eq.mpr c34
  clear c34
  replace H:=Option.bind_eq_some_iff.mp H
  obtain⟨⟨t351,t352,t353⟩,A350,H⟩:=H
  replace H:(if 0 ≤ t331 then (if t331 < (t328.length:Int) then (some (t320,t323,(t328.set (t331:Int).toNat (⟨(rd_T56 t328 t331).f0,t351⟩:S56)))) else (none)) else (none)) = some (r1,r2,r3):=H
  have A35:=mk0 A350
  clear A350
  by_cases c36:0 ≤ t331
  rotate_left
  ·rw [if_neg c36] at H
   exact absurd H (by simp)
  rw [if_pos c36] at H
  have c36b0:decide (0 ≤ t331) = true:=decide_eq_true c36
  clear c36
  by_cases c37:t331 < (t328.length:Int)
  rotate_left
  ·rw [if_neg c37] at H
   exact absurd H (by simp)
  rw [if_pos c37] at H
  have c37b0:decide (t331 < (t328.length:Int)) = true:=decide_eq_true c37
  clear c37
  obtain⟨y354,hy354⟩:∃ y_:List (S56),y_ = (t328.set (t331:Int).toNat (⟨(rd_T56 t328 t331).f0,t351⟩:S56)):=⟨_,rfl⟩
  replace H:(some (t320,t323,y354)) = some (r1,r2,r3):=by first|(rw [hy354];with_reducible exact H)|(have H2_:=(Option.bind_some _ _).symm.trans H;rw [hy354];with_reducible exact H2_)|(have H2_:=(Option.bind_some _ _).symm.trans H;with_reducible exact H2_)|with_reducible exact H|(rw [hy354];exact H)|exact H
  have Ny354:=mk0 hy354
  clear hy354
  simp only [Option.some.injEq,Prod.mk.injEq] at H
  obtain⟨rfl,rfl,rfl⟩:=H
  go_enter Try.func33,Try.ntmps33
  go_wp2_with (first|((with_reducible refine gate_callee (f:=48) rfl ?_);refine goesL_ (some 11) rfl rfl Try.func48 (by kernel_rfl) rfl #[.slice A0 l0.length c0] rfl (by (try simp only [mA,mC,mN]);first|done|rfl|(simp only [List.length_drop,List.length_take];rfl)) ?_;(with_reducible refine (spec_l01Open.calls _ _ l0 t316 t317 t318 w _ ?side1 ?side2 ?side3 A2.out).mono ?_);(case side1=>repeat (first|(with_reducible first|exact HB.out|apply aZ|apply nZ|apply dZ)|exact HB.out));(case side2=>exact HR0.out);(case side3=>exact HC0.out);rintro e w39 ⟨g319,rfl,hi,hb,hb2⟩;refine⟨_,rfl,?_⟩;have n0_:=mk0 (hb);have n1_:=mk0 (hi);clear HB;have HB:=n0_;have HI319:=n1_;clear n0_ n1_;(try clear hb);(try clear hb2);(try clear hk);(try clear hi))|((with_reducible refine gate_callee (f:=49) rfl ?_);refine goesL_ (some 14) rfl rfl Try.func49 (by kernel_rfl) rfl #[.pointer (some ⟨g319,0,none⟩)] rfl (by (try simp only [mA,mC,mN]);first|done|rfl|(simp only [List.length_drop,List.length_take];rfl)) ?_;(with_reducible refine (spec_l01Cur_rows.calls k g319 t316 t317 t318 t320 t323 t326 t327 w _ ?side1 ?side2 A3.out).mono ?_);(case side1=>repeat (first|(with_reducible first|exact HI319.out|apply IsS76.alloc|apply IsS76.drewN|apply IsS76.drew|apply IsS76.set_1|apply IsS76.set_2)|exact HI319.out));(case side2=>repeat (first|(with_reducible first|exact HB.out|apply aZ|apply nZ|apply dZ|refine sZ ?_ (IsS76.ge HI319.out))|exact HB.out));rintro e w40 ⟨v321,v324,rfl,ho0,ho1,hi,hb,hk⟩;refine⟨_,rfl,?_⟩;have n0_:=mk0 (Kd.R_lower ho0 (below_size (by repeat (first|(with_reducible first|exact HB.out|apply aZ|apply nZ|apply dZ|refine sZ ?_ (IsS76.ge HI319.out))|exact HB.out))));have n1_:=mk0 (Kd.R_lower ho1 (below_size (by repeat (first|(with_reducible first|exact HB.out|apply aZ|apply nZ|apply dZ|refine sZ ?_ (IsS76.ge HI319.out))|exact HB.out))));have n2_:=mk0 (hb);have n3_:=mk0 (hi);clear HB HI319;have HO322:=n0_;have HO325:=n1_;have HB:=n2_;have HI319:=n3_;clear n0_ n1_ n2_ n3_;(try clear hb);(try clear hb2);(try clear hk);(try clear hi);(try clear ho0);(try clear ho1);obtain⟨Ao41,co41,eo41⟩:=Kd.R_slice HO322.out;subst eo41;obtain⟨Ao42,co42,eo42⟩:=Kd.R_slice HO325.out;subst eo42)|((with_reducible refine gate_callee (f:=25) rfl ?_);refine goesL_ (some 19) rfl rfl Try.func25 (by kernel_rfl) rfl #[.slice Ao41 t320.length co41,.slice Ao42 t323.length co42] rfl (by (try simp only [mA,mC,mN]);first|done|rfl|(simp only [List.length_drop,List.length_take];rfl)) ?_;(with_reducible refine (spec_CommonOf.calls k _ _ t320 _ _ t323 t328 _ ?side1 ?side2 ?side3 ?side4 A4.out).mono ?_);(case side1=>repeat (first|exact (Kd.R_reads' HO322.out).2.2|(with_reducible first|refine aC ?_ _|refine nC ?_ _|refine dC ?_)));(case side2=>exact (Kd.R_reads' HO322.out).2.1);(case side3=>repeat (first|exact (Kd.R_reads' HO325.out).2.2|(with_reducible first|refine aC ?_ _|refine nC ?_ _|refine dC ?_)));(case side4=>exact (Kd.R_reads' HO325.out).2.1);rintro e w43 ⟨v329,rfl,ho0,hb⟩;refine⟨_,rfl,?_⟩;have n0_:=mk0 (Kd.R_below (by (with_reducible repeat (first|apply aR|apply nR|apply dR));exact HO322.out) hb);have n1_:=mk0 (Kd.R_below (by (with_reducible repeat (first|apply aR|apply nR|apply dR));exact HO325.out) hb);have n2_:=mk0 (Kd.R_lower ho0 (below_size (by repeat (first|(with_reducible first|exact HB.out|apply aZ|apply nZ|apply dZ|refine sZ ?_ (IsS76.ge HI319.out))|exact HB.out))));have n3_:=mk0 (IsS76.below (by repeat (first|(with_reducible first|exact HI319.out|apply IsS76.alloc|apply IsS76.drewN|apply IsS76.drew|apply IsS76.set_1|apply IsS76.set_2)|exact HI319.out)) hb);have n4_:=mk0 (below_step (by repeat (first|(with_reducible first|exact HB.out|apply aZ|apply nZ|apply dZ|refine sZ ?_ (IsS76.ge HI319.out))|exact HB.out)) hb);clear HO322 HO325 HI319 HB;have HO322:=n0_;have HO325:=n1_;have HO330:=n2_;have HI319:=n3_;have HB:=n4_;clear n0_ n1_ n2_ n3_ n4_;(try clear hb);(try clear hb2);(try clear hk);(try clear hi);(try clear ho0);obtain⟨Ao44,co44,eo44⟩:=Kd.R_slice HO330.out;subst eo44)|((with_reducible refine gate_callee (f:=50) rfl ?_);refine goesL_ (some 27) rfl rfl Try.func50 (by kernel_rfl) rfl #[.pointer (some ⟨g319,0,none⟩),.int .i64 ji6] rfl (by (try simp only [mA,mC,mN]);first|done|(simp only [hji6];rfl)|rfl|(simp only [List.length_drop,List.length_take];rfl)) ?_;(with_reducible refine (spec_l01Cur_pick.calls g319 t316 t326 t327 ji6 t331 t332 t333 w _ ?side1 ?side2 A7.out).mono ?_);(case side1=>repeat (first|(with_reducible first|exact HI319.out|apply IsS76.alloc|apply IsS76.drewN|apply IsS76.drew|apply IsS76.set_1|apply IsS76.set_2)|exact HI319.out));(case side2=>repeat (first|(with_reducible first|exact HB.out|apply aZ|apply nZ|apply dZ|refine sZ ?_ (IsS76.ge HI319.out))|exact HB.out));rintro e w45 ⟨rfl,hi,hb,hk⟩;refine⟨_,rfl,?_⟩;have n0_:=mk0 (Kd.R_mono (Kd.R_keep (IsS76.apart (show IsS76 w _ g319 t316 t326 t327 from by repeat (first|(with_reducible first|exact HI319.out|apply IsS76.alloc|apply IsS76.drewN|apply IsS76.drew|apply IsS76.set_1|apply IsS76.set_2)|exact HI319.out)) (by (with_reducible repeat (first|apply aR|apply nR|apply dR));exact HO322.out) (by decide)) hk (fun _ h=>h.2)) (fun _ h=>h.1));have n1_:=mk0 (Kd.R_mono (Kd.R_keep (IsS76.apart (show IsS76 w _ g319 t316 t326 t327 from by repeat (first|(with_reducible first|exact HI319.out|apply IsS76.alloc|apply IsS76.drewN|apply IsS76.drew|apply IsS76.set_1|apply IsS76.set_2)|exact HI319.out)) (by (with_reducible repeat (first|apply aR|apply nR|apply dR));exact HO325.out) (by decide)) hk (fun _ h=>h.2)) (fun _ h=>h.1));have n2_:=mk0 (Kd.R_mono (Kd.R_keep (IsS76.apart (show IsS76 w _ g319 t316 t326 t327 from by repeat (first|(with_reducible first|exact HI319.out|apply IsS76.alloc|apply IsS76.drewN|apply IsS76.drew|apply IsS76.set_1|apply IsS76.set_2)|exact HI319.out)) (by (with_reducible repeat (first|apply aR|apply nR|apply dR));exact HO330.out) (by decide)) hk (fun _ h=>h.2)) (fun _ h=>h.1));have n3_:=mk0 (hb);have n4_:=mk0 (hi);clear HO322 HO325 HO330 HB HI319;have HO322:=n0_;have HO325:=n1_;have HO330:=n2_;have HB:=n3_;have HI319:=n4_;clear n0_ n1_ n2_ n3_ n4_;(try clear hb);(try clear hb2);(try clear hk);(try clear hi))|((with_reducible refine gate_callee (f:=50) rfl ?_);refine goesL_ (some 29) rfl rfl Try.func50 (by kernel_rfl) rfl #[.pointer (some ⟨g319,0,none⟩),.int .i64 5] rfl (by (try simp only [mA,mC,mN]);first|done|rfl|(simp only [List.length_drop,List.length_take];rfl)) ?_;(with_reducible refine (spec_l01Cur_pick.calls g319 t316 t332 t333 5 t334 t335 t336 w _ ?side1 ?side2 A8.out).mono ?_);(case side1=>repeat (first|(with_reducible first|exact HI319.out|apply IsS76.alloc|apply IsS76.drewN|apply IsS76.drew|apply IsS76.set_1|apply IsS76.set_2)|exact HI319.out));(case side2=>repeat (first|(with_reducible first|exact HB.out|apply aZ|apply nZ|apply dZ|refine sZ ?_ (IsS76.ge HI319.out))|exact HB.out));rintro e w46 ⟨rfl,hi,hb,hk⟩;refine⟨_,rfl,?_⟩;have n0_:=mk0 (Kd.R_mono (Kd.R_keep (IsS76.apart (show IsS76 w _ g319 t316 t332 t333 from by repeat (first|(with_reducible first|exact HI319.out|apply IsS76.alloc|apply IsS76.drewN|apply IsS76.drew|apply IsS76.set_1|apply IsS76.set_2)|exact HI319.out)) (by (with_reducible repeat (first|apply aR|apply nR|apply dR));exact HO322.out) (by decide)) hk (fun _ h=>h.2)) (fun _ h=>h.1));have n1_:=mk0 (Kd.R_mono (Kd.R_keep (IsS76.apart (show IsS76 w _ g319 t316 t332 t333 from by repeat (first|(with_reducible first|exact HI319.out|apply IsS76.alloc|apply IsS76.drewN|apply IsS76.drew|apply IsS76.set_1|apply IsS76.set_2)|exact HI319.out)) (by (with_reducible repeat (first|apply aR|apply nR|apply dR));exact HO325.out) (by decide)) hk (fun _ h=>h.2)) (fun _ h=>h.1));have n2_:=mk0 (Kd.R_mono (Kd.R_keep (IsS76.apart (show IsS76 w _ g319 t316 t332 t333 from by repeat (first|(with_reducible first|exact HI319.out|apply IsS76.alloc|apply IsS76.drewN|apply IsS76.drew|apply IsS76.set_1|apply IsS76.set_2)|exact HI319.out)) (by (with_reducible repeat (first|apply aR|apply nR|apply dR));exact HO330.out) (by decide)) hk (fun _ h=>h.2)) (fun _ h=>h.1));have n3_:=mk0 (hb);have n4_:=mk0 (hi);clear HO322 HO325 HO330 HB HI319;have HO322:=n0_;have HO325:=n1_;have HO330:=n2_;have HB:=n3_;have HI319:=n4_;clear n0_ n1_ n2_ n3_ n4_;(try clear hb);(try clear hb2);(try clear hk);(try clear hi))|((with_reducible refine gate_callee (f:=50) rfl ?_);refine goesL_ (some 50) rfl rfl Try.func50 (by kernel_rfl) rfl #[.pointer (some ⟨g319,0,none⟩),.int .i64 9] rfl (by (try simp only [mA,mC,mN]);first|done|rfl|(simp only [List.length_drop,List.length_take];rfl)) ?_;(with_reducible refine (spec_l01Cur_pick.calls g319 t316 t335 t336 9 t351 t352 t353 w _ ?side1 ?side2 A35.out).mono ?_);(case side1=>repeat (first|(with_reducible first|exact HI319.out|apply IsS76.alloc|apply IsS76.drewN|apply IsS76.drew|apply IsS76.set_1|apply IsS76.set_2)|exact HI319.out));(case side2=>repeat (first|(with_reducible first|exact HB.out|apply aZ|apply nZ|apply dZ|refine sZ ?_ (IsS76.ge HI319.out))|exact HB.out));rintro e w47 ⟨rfl,hi,hb,hk⟩;refine⟨_,rfl,?_⟩;have n0_:=mk0 (Kd.R_mono (Kd.R_keep (IsS76.apart (show IsS76 w _ g319 t316 t335 t336 from by repeat (first|(with_reducible first|exact HI319.out|apply IsS76.alloc|apply IsS76.drewN|apply IsS76.drew|apply IsS76.set_1|apply IsS76.set_2)|exact HI319.out)) (by (with_reducible repeat (first|apply aR|apply nR|apply dR));exact HO322.out) (by decide)) hk (fun _ h=>h.2)) (fun _ h=>h.1));have n1_:=mk0 (Kd.R_mono (Kd.R_keep (IsS76.apart (show IsS76 w _ g319 t316 t335 t336 from by repeat (first|(with_reducible first|exact HI319.out|apply IsS76.alloc|apply IsS76.drewN|apply IsS76.drew|apply IsS76.set_1|apply IsS76.set_2)|exact HI319.out)) (by (with_reducible repeat (first|apply aR|apply nR|apply dR));exact HO325.out) (by decide)) hk (fun _ h=>h.2)) (fun _ h=>h.1));have n2_:=mk0 (Kd.R_mono (Kd.R_keep (IsS76.apart (show IsS76 w _ g319 t316 t335 t336 from by repeat (first|(with_reducible first|exact HI319.out|apply IsS76.alloc|apply IsS76.drewN|apply IsS76.drew|apply IsS76.set_1|apply IsS76.set_2)|exact HI319.out)) (by (with_reducible repeat (first|apply aR|apply nR|apply dR));exact HO330.out) (by decide)) hk (fun _ h=>h.2)) (fun _ h=>h.1));have n3_:=mk0 (hb);have n4_:=mk0 (hi);clear HO322 HO325 HO330 HB HI319;have HO322:=n0_;have HO325:=n1_;have HO330:=n2_;have HB:=n3_;have HI319:=n4_;clear n0_ n1_ n2_ n3_ n4_;(try clear hb);(try clear hb2);(try clear hk);(try clear hi);have p38:0 ≤ (t331:Int):=of_decide_eq_true (by first|(with_reducible assumption)|assumption);have q38:(t331:Int) < ((t328.length:Int):Int):=of_decide_eq_true (by first|(with_reducible assumption)|assumption);obtain⟨go38,co38,eo38,gb38,gl38,cl38,HG38⟩:=Kd.R_form HO330.out (by omega);(first|cases eo38|(injection eo38 with ea_ en_ ec_;(first|subst ea_|(injection ea_ with ea_;subst ea_));subst ec_;clear en_));have GB38:=mk0 gb38;have GG38:=mk0 HG38;clear gb38 gl38 HG38;obtain⟨ce38,hcl38,hM38,hcc38,hfr38⟩:=Kd.R_elem HO330.out z56 (t331:Int) p38 q38;obtain rfl:=k56_openM hM38;have hx38_0:w47.cell? ⟨go38,(t331:Int).toNat * 2,none⟩ = some (.int .i64 ((rd_T56 t328 t331).f0)):=hcc38 0 _ rfl;have hx38_1:w47.cell? ⟨go38,(t331:Int).toNat * 2 + 1,none⟩ = some (.int .i64 ((rd_T56 t328 t331).f1)):=hcc38 1 _ rfl;have hf38_0:w47.frozen? ⟨go38,(t331:Int).toNat * 2,none⟩ = false:=hfr38 0;have hf38_1:w47.frozen? ⟨go38,(t331:Int).toNat * 2 + 1,none⟩ = false:=hfr38 1;clear hcl38 hcc38 hfr38;(try clear hM38);replace p38:=eq_true p38;replace q38:=eq_true q38;have HX48:=mk0 (show Kd.R k56 56 w47 w.heap.size (fun _=>True) (.slice (some ⟨go38,0,none⟩) t328.length co44) t328 from (by (with_reducible repeat (first|apply aR|apply nR|apply dR));exact HO330.out));obtain⟨ce48,hcl48,hM48,hcc48,hfr48⟩:=Kd.R_elem HX48.out z56 (t331:Int) (of_decide_eq_true (by first|(with_reducible assumption)|assumption)) (by have h_:(t331:Int) < ((t328.length:Int):Int):=of_decide_eq_true (by first|(with_reducible assumption)|assumption);first|exact h_|(have e_:=(Kd.R_reads' HO330.out).1;omega)|simpa using h_);obtain rfl:=k56_openM hM48;have HP48:=Kd.R_seg HX48.out (t331:Int) (of_decide_eq_true (by first|(with_reducible assumption)|assumption)) (by have h_:(t331:Int) < ((t328.length:Int):Int):=of_decide_eq_true (by first|(with_reducible assumption)|assumption);first|exact h_|(have e_:=(Kd.R_reads' HO330.out).1;omega)|simpa using h_) (seg:=[.int .i64 t351]) (j:=1) hcl48 hcc48 (show 2 ≤ 2 from by decide) (x':=(⟨(rd_T56 t328 t331).f0,t351⟩:S56)) (k56_mkM _ _ _ (⟨(rd_T56 t328 t331).f0,t351⟩:S56) ) (fun _ hk=>hk);have hx48_1:=hcc48 1 _ rfl;(try simp only [show (k56).sz = 2 from rfl,Nat.mul_one,Nat.add_zero] at hx48_1);have hf48_1:=hfr48 1;(try simp only [show (k56).sz = 2 from rfl,Nat.mul_one,Nat.add_zero] at hf48_1);clear hcl48 hcc48 hfr48;(try clear hM48))|((with_reducible refine gate_store (t:=3) (p:=52) rfl ?_);refine store_event (t:=3) (p:=52) (v:=?vo_w49) (w1:=(w47.setCell ⟨go38,(t331:Int).toNat * 2 + 1,none⟩ (.int .i64 t351))) ?hg ?ho ?hn ?hr ?_;(case ho=>rfl);(case hg=>rfl);(case hn=>rfl);(case hr=>first|(go_simp;done)|(go_simp;rfl));intro w49 hw;have hg:w47.grownBy w49 (some go38):=(by rw [hw];exact HP48.2);have hp_:Kd.R k56 56 w49 w.heap.size (fun _=>True) (.slice (some ⟨go38,0,none⟩) t328.length co44) y354:=(by rw [hw,Ny354.out];exact HP48.1);clear HP48;have n0_:=mk0 (IsS76.grown (by repeat (first|(with_reducible first|exact HI319.out|apply IsS76.alloc|apply IsS76.drewN|apply IsS76.drew|apply IsS76.set_1|apply IsS76.set_2)|exact HI319.out)) hg (IsS76.own_ne HI319.out HO330.out (by decide)));have n1_:=mk0 (Kd.R_over' (v:=(.slice (some ⟨go38,0,none⟩) t328.length co44)) (by (with_reducible repeat (first|apply aR|apply nR|apply dR));exact HO322.out) (Kd.R_typed HO330.out) (by decide) hg);have n2_:=mk0 (Kd.R_over' (v:=(.slice (some ⟨go38,0,none⟩) t328.length co44)) (by (with_reducible repeat (first|apply aR|apply nR|apply dR));exact HO325.out) (Kd.R_typed HO330.out) (by decide) hg);have n3_:=mk0 (hp_);have n4_:=mk0 ((by rw [hw];exact sZ (HB.out) GB38.out:Below w.heap.size w w49));clear HI319 HO322 HO325 HO330 HB;have HI319:=n0_;have HO322:=n1_;have HO325:=n2_;have HO330:=n3_;have HB:=n4_;clear n0_ n1_ n2_ n3_ n4_ hg hw hp_))
  go_ret3
  exact⟨_,_,_,by first|rfl|(simp [errW_none,errW_some] <;> rfl)|(simp only [← hji6];first|rfl|(simp [errW_none,errW_some] <;> rfl))|(simp [*,errW_none,errW_some] <;> rfl),by (with_reducible repeat (first|apply aR|apply nR|apply dR));exact HO322.out,by (with_reducible repeat (first|apply aR|apply nR|apply dR));exact HO325.out,by (with_reducible repeat (first|apply aR|apply nR|apply dR));exact HO330.out,by repeat (first|(with_reducible first|exact HB.out|apply aZ|apply nZ|apply dZ|refine sZ ?_ (IsS76.ge HI319.out))|exact HB.out)⟩
 rw [if_neg c34] at H
 have c34b0:(t334 == 1) = false:=beq_eq_false_iff_ne.mpr c34
 have c34b1:(t334 != 1) = true:=bne_iff_ne.mpr c34
 by_cases c50:t334 = 2
 rotate_left
 ·rw [if_neg c50] at H
  have c50b0:(t334 == 2) = false:=beq_eq_false_iff_ne.mpr c50
  have c50b1:(t334 != 2) = true:=bne_iff_ne.mpr c50
  simp only [Option.some.injEq,Prod.mk.injEq] at H
  obtain⟨rfl,rfl,rfl⟩:=H
  go_enter Try.func33,Try.ntmps33
  go_wp2_with (first|((with_reducible refine gate_callee (f:=48) rfl ?_);refine goesL_ (some 11) rfl rfl Try.func48 (by kernel_rfl) rfl #[.slice A0 l0.length c0] rfl (by (try simp only [mA,mC,mN]);first|done|rfl|(simp only [List.length_drop,List.length_take];rfl)) ?_;(with_reducible refine (spec_l01Open.calls _ _ l0 t316 t317 t318 w _ ?side1 ?side2 ?side3 A2.out).mono ?_);(case side1=>repeat (first|(with_reducible first|exact HB.out|apply aZ|apply nZ|apply dZ)|exact HB.out));(case side2=>exact HR0.out);(case side3=>exact HC0.out);rintro e w69 ⟨g319,rfl,hi,hb,hb2⟩;refine⟨_,rfl,?_⟩;have n0_:=mk0 (hb);have n1_:=mk0 (hi);clear HB;have HB:=n0_;have HI319:=n1_;clear n0_ n1_;(try clear hb);(try clear hb2);(try clear hk);(try clear hi))|((with_reducible refine gate_callee (f:=49) rfl ?_);refine goesL_ (some 14) rfl rfl Try.func49 (by kernel_rfl) rfl #[.pointer (some ⟨g319,0,none⟩)] rfl (by (try simp only [mA,mC,mN]);first|done|rfl|(simp only [List.length_drop,List.length_take];rfl)) ?_;(with_reducible refine (spec_l01Cur_rows.calls k g319 t316 t317 t318 t320 t323 t326 t327 w _ ?side1 ?side2 A3.out).mono ?_);(case side1=>repeat (first|(with_reducible first|exact HI319.out|apply IsS76.alloc|apply IsS76.drewN|apply IsS76.drew|apply IsS76.set_1|apply IsS76.set_2)|exact HI319.out));(case side2=>repeat (first|(with_reducible first|exact HB.out|apply aZ|apply nZ|apply dZ|refine sZ ?_ (IsS76.ge HI319.out))|exact HB.out));rintro e w70 ⟨v321,v324,rfl,ho0,ho1,hi,hb,hk⟩;refine⟨_,rfl,?_⟩;have n0_:=mk0 (Kd.R_lower ho0 (below_size (by repeat (first|(with_reducible first|exact HB.out|apply aZ|apply nZ|apply dZ|refine sZ ?_ (IsS76.ge HI319.out))|exact HB.out))));have n1_:=mk0 (Kd.R_lower ho1 (below_size (by repeat (first|(with_reducible first|exact HB.out|apply aZ|apply nZ|apply dZ|refine sZ ?_ (IsS76.ge HI319.out))|exact HB.out))));have n2_:=mk0 (hb);have n3_:=mk0 (hi);clear HB HI319;have HO322:=n0_;have HO325:=n1_;have HB:=n2_;have HI319:=n3_;clear n0_ n1_ n2_ n3_;(try clear hb);(try clear hb2);(try clear hk);(try clear hi);(try clear ho0);(try clear ho1);obtain⟨Ao71,co71,eo71⟩:=Kd.R_slice HO322.out;subst eo71;obtain⟨Ao72,co72,eo72⟩:=Kd.R_slice HO325.out;subst eo72)|((with_reducible refine gate_callee (f:=25) rfl ?_);refine goesL_ (some 19) rfl rfl Try.func25 (by kernel_rfl) rfl #[.slice Ao71 t320.length co71,.slice Ao72 t323.length co72] rfl (by (try simp only [mA,mC,mN]);first|done|rfl|(simp only [List.length_drop,List.length_take];rfl)) ?_;(with_reducible refine (spec_CommonOf.calls k _ _ t320 _ _ t323 t328 _ ?side1 ?side2 ?side3 ?side4 A4.out).mono ?_);(case side1=>repeat (first|exact (Kd.R_reads' HO322.out).2.2|(with_reducible first|refine aC ?_ _|refine nC ?_ _|refine dC ?_)));(case side2=>exact (Kd.R_reads' HO322.out).2.1);(case side3=>repeat (first|exact (Kd.R_reads' HO325.out).2.2|(with_reducible first|refine aC ?_ _|refine nC ?_ _|refine dC ?_)));(case side4=>exact (Kd.R_reads' HO325.out).2.1);rintro e w73 ⟨v329,rfl,ho0,hb⟩;refine⟨_,rfl,?_⟩;have n0_:=mk0 (Kd.R_below (by (with_reducible repeat (first|apply aR|apply nR|apply dR));exact HO322.out) hb);have n1_:=mk0 (Kd.R_below (by (with_reducible repeat (first|apply aR|apply nR|apply dR));exact HO325.out) hb);have n2_:=mk0 (Kd.R_lower ho0 (below_size (by repeat (first|(with_reducible first|exact HB.out|apply aZ|apply nZ|apply dZ|refine sZ ?_ (IsS76.ge HI319.out))|exact HB.out))));have n3_:=mk0 (IsS76.below (by repeat (first|(with_reducible first|exact HI319.out|apply IsS76.alloc|apply IsS76.drewN|apply IsS76.drew|apply IsS76.set_1|apply IsS76.set_2)|exact HI319.out)) hb);have n4_:=mk0 (below_step (by repeat (first|(with_reducible first|exact HB.out|apply aZ|apply nZ|apply dZ|refine sZ ?_ (IsS76.ge HI319.out))|exact HB.out)) hb);clear HO322 HO325 HI319 HB;have HO322:=n0_;have HO325:=n1_;have HO330:=n2_;have HI319:=n3_;have HB:=n4_;clear n0_ n1_ n2_ n3_ n4_;(try clear hb);(try clear hb2);(try clear hk);(try clear hi);(try clear ho0);obtain⟨Ao74,co74,eo74⟩:=Kd.R_slice HO330.out;subst eo74)|((with_reducible refine gate_callee (f:=50) rfl ?_);refine goesL_ (some 27) rfl rfl Try.func50 (by kernel_rfl) rfl #[.pointer (some ⟨g319,0,none⟩),.int .i64 ji6] rfl (by (try simp only [mA,mC,mN]);first|done|(simp only [hji6];rfl)|rfl|(simp only [List.length_drop,List.length_take];rfl)) ?_;(with_reducible refine (spec_l01Cur_pick.calls g319 t316 t326 t327 ji6 t331 t332 t333 w _ ?side1 ?side2 A7.out).mono ?_);(case side1=>repeat (first|(with_reducible first|exact HI319.out|apply IsS76.alloc|apply IsS76.drewN|apply IsS76.drew|apply IsS76.set_1|apply IsS76.set_2)|exact HI319.out));(case side2=>repeat (first|(with_reducible first|exact HB.out|apply aZ|apply nZ|apply dZ|refine sZ ?_ (IsS76.ge HI319.out))|exact HB.out));rintro e w75 ⟨rfl,hi,hb,hk⟩;refine⟨_,rfl,?_⟩;have n0_:=mk0 (Kd.R_mono (Kd.R_keep (IsS76.apart (show IsS76 w _ g319 t316 t326 t327 from by repeat (first|(with_reducible first|exact HI319.out|apply IsS76.alloc|apply IsS76.drewN|apply IsS76.drew|apply IsS76.set_1|apply IsS76.set_2)|exact HI319.out)) (by (with_reducible repeat (first|apply aR|apply nR|apply dR));exact HO322.out) (by decide)) hk (fun _ h=>h.2)) (fun _ h=>h.1));have n1_:=mk0 (Kd.R_mono (Kd.R_keep (IsS76.apart (show IsS76 w _ g319 t316 t326 t327 from by repeat (first|(with_reducible first|exact HI319.out|apply IsS76.alloc|apply IsS76.drewN|apply IsS76.drew|apply IsS76.set_1|apply IsS76.set_2)|exact HI319.out)) (by (with_reducible repeat (first|apply aR|apply nR|apply dR));exact HO325.out) (by decide)) hk (fun _ h=>h.2)) (fun _ h=>h.1));have n2_:=mk0 (Kd.R_mono (Kd.R_keep (IsS76.apart (show IsS76 w _ g319 t316 t326 t327 from by repeat (first|(with_reducible first|exact HI319.out|apply IsS76.alloc|apply IsS76.drewN|apply IsS76.drew|apply IsS76.set_1|apply IsS76.set_2)|exact HI319.out)) (by (with_reducible repeat (first|apply aR|apply nR|apply dR));exact HO330.out) (by decide)) hk (fun _ h=>h.2)) (fun _ h=>h.1));have n3_:=mk0 (hb);have n4_:=mk0 (hi);clear HO322 HO325 HO330 HB HI319;have HO322:=n0_;have HO325:=n1_;have HO330:=n2_;have HB:=n3_;have HI319:=n4_;clear n0_ n1_ n2_ n3_ n4_;(try clear hb);(try clear hb2);(try clear hk);(try clear hi))|((with_reducible refine gate_callee (f:=50) rfl ?_);refine goesL_ (some 29) rfl rfl Try.func50 (by kernel_rfl) rfl #[.pointer (some ⟨g319,0,none⟩),.int .i64 5] rfl (by (try simp only [mA,mC,mN]);first|done|rfl|(simp only [List.length_drop,List.length_take];rfl)) ?_;(with_reducible refine (spec_l01Cur_pick.calls g319 t316 t332 t333 5 t334 t335 t336 w _ ?side1 ?side2 A8.out).mono ?_);(case side1=>repeat (first|(with_reducible first|exact HI319.out|apply IsS76.alloc|apply IsS76.drewN|apply IsS76.drew|apply IsS76.set_1|apply IsS76.set_2)|exact HI319.out));(case side2=>repeat (first|(with_reducible first|exact HB.out|apply aZ|apply nZ|apply dZ|refine sZ ?_ (IsS76.ge HI319.out))|exact HB.out));rintro e w76 ⟨rfl,hi,hb,hk⟩;refine⟨_,rfl,?_⟩;have n0_:=mk0 (Kd.R_mono (Kd.R_keep (IsS76.apart (show IsS76 w _ g319 t316 t332 t333 from by repeat (first|(with_reducible first|exact HI319.out|apply IsS76.alloc|apply IsS76.drewN|apply IsS76.drew|apply IsS76.set_1|apply IsS76.set_2)|exact HI319.out)) (by (with_reducible repeat (first|apply aR|apply nR|apply dR));exact HO322.out) (by decide)) hk (fun _ h=>h.2)) (fun _ h=>h.1));have n1_:=mk0 (Kd.R_mono (Kd.R_keep (IsS76.apart (show IsS76 w _ g319 t316 t332 t333 from by repeat (first|(with_reducible first|exact HI319.out|apply IsS76.alloc|apply IsS76.drewN|apply IsS76.drew|apply IsS76.set_1|apply IsS76.set_2)|exact HI319.out)) (by (with_reducible repeat (first|apply aR|apply nR|apply dR));exact HO325.out) (by decide)) hk (fun _ h=>h.2)) (fun _ h=>h.1));have n2_:=mk0 (Kd.R_mono (Kd.R_keep (IsS76.apart (show IsS76 w _ g319 t316 t332 t333 from by repeat (first|(with_reducible first|exact HI319.out|apply IsS76.alloc|apply IsS76.drewN|apply IsS76.drew|apply IsS76.set_1|apply IsS76.set_2)|exact HI319.out)) (by (with_reducible repeat (first|apply aR|apply nR|apply dR));exact HO330.out) (by decide)) hk (fun _ h=>h.2)) (fun _ h=>h.1));have n3_:=mk0 (hb);have n4_:=mk0 (hi);clear HO322 HO325 HO330 HB HI319;have HO322:=n0_;have HO325:=n1_;have HO330:=n2_;have HB:=n3_;have HI319:=n4_;clear n0_ n1_ n2_ n3_ n4_;(try clear hb);(try clear hb2);(try clear hk);(try clear hi)))
  go_ret3
  exact⟨_,_,_,by first|rfl|(simp [errW_none,errW_some] <;> rfl)|(simp only [← hji6];first|rfl|(simp [errW_none,errW_some] <;> rfl))|(simp [*,errW_none,errW_some] <;> rfl),by (with_reducible repeat (first|apply aR|apply nR|apply dR));exact HO322.out,by (with_reducible repeat (first|apply aR|apply nR|apply dR));exact HO325.out,by (with_reducible repeat (first|apply aR|apply nR|apply dR));exact HO330.out,by repeat (first|(with_reducible first|exact HB.out|apply aZ|apply nZ|apply dZ|refine sZ ?_ (IsS76.ge HI319.out))|exact HB.out)⟩
 rw [if_pos c50] at H
 have c50b0:(t334 == 2) = true:=beq_iff_eq.mpr c50
 have c50b1:(t334 != 2) = false:=bne_eq_false_iff_eq.mpr c50
 clear c50
 by_cases c51:0 ≤ t331
 rotate_left
 ·rw [if_neg c51] at H
  exact absurd H (by simp)
 rw [if_pos c51] at H
 have c51b0:=eq_true c51
 have c51b1:decide (0 ≤ t331) = true:=decide_eq_true c51
 clear c51
 by_cases c52:t331 ≤ (t328.length:Int)
 rotate_left
 ·rw [if_neg c52] at H
  exact absurd H (by simp)
 rw [if_pos c52] at H
 have c52b0:=eq_true c52
 have c52b1:decide (t331 ≤ (t328.length:Int)) = true:=decide_eq_true c52
 clear c52
 obtain⟨y355,hy355⟩:∃ y_:List (S56),y_ = (t328.take (t331:Int).toNat):=⟨_,rfl⟩
 replace H:(if 0 ≤ (wrap64 (t331 + 1)) then (if (wrap64 (t331 + 1)) ≤ (t328.length:Int) then (some (t320,t323,(t328.eraseIdx (t331:Int).toNat))) else (none)) else (none)) = some (r1,r2,r3):=by first|(rw [hy355];with_reducible exact H)|(have H2_:=(Option.bind_some _ _).symm.trans H;rw [hy355];with_reducible exact H2_)|(have H2_:=(Option.bind_some _ _).symm.trans H;with_reducible exact H2_)|with_reducible exact H|(rw [hy355];exact H)|exact H
 have Ny355:=mk0 hy355
 clear hy355
 obtain⟨ji53,hji53⟩:∃ j_:Int,(wrap64 (t331 + 1)) = j_:=⟨_,rfl⟩
 replace H:(if 0 ≤ (ji53) then (if (ji53) ≤ (t328.length:Int) then (some (t320,t323,(t328.eraseIdx (t331:Int).toNat))) else (none)) else (none)) = some (r1,r2,r3):=by first|(rw [hji53] at H;exact H)|(simp only [hji53] at H ⊢;exact H)
 (try rw [hji53] at A2)
 (try rw [hji53] at A3)
 (try rw [hji53] at A4)
 (try rw [hji53] at A7)
 (try rw [hji53] at A8)
 have hji53w:(IntKind.i64.wrap (t331 + 1)) = ji53:=(i64_w _).trans hji53
 by_cases c54:0 ≤ (ji53)
 rotate_left
 ·rw [if_neg c54] at H
  exact absurd H (by simp)
 rw [if_pos c54] at H
 have c54b0:=eq_true c54
 have c54b1:decide (0 ≤ (ji53)) = true:=decide_eq_true c54
 clear c54
 by_cases c55:(ji53) ≤ (t328.length:Int)
 rotate_left
 ·rw [if_neg c55] at H
  exact absurd H (by simp)
 rw [if_pos c55] at H
 have c55b0:=eq_true c55
 have c55b1:decide ((ji53) ≤ (t328.length:Int)) = true:=decide_eq_true c55
 clear c55
 obtain⟨y359,hy359⟩:∃ y_:List (S56),y_ = (t328.drop ((ji53):Int).toNat):=⟨_,rfl⟩
 replace H:(some (t320,t323,(t328.eraseIdx (t331:Int).toNat))) = some (r1,r2,r3):=by first|(rw [hy359];with_reducible exact H)|(have H2_:=(Option.bind_some _ _).symm.trans H;rw [hy359];with_reducible exact H2_)|(have H2_:=(Option.bind_some _ _).symm.trans H;with_reducible exact H2_)|with_reducible exact H|(rw [hy359];exact H)|exact H
 have Ny359:=mk0 hy359
 clear hy359
 obtain⟨y363,hy363⟩:∃ y_:List (S56),y_ = (t328.eraseIdx (t331:Int).toNat):=⟨_,rfl⟩
 replace H:(some (t320,t323,y363)) = some (r1,r2,r3):=by first|(rw [hy363];with_reducible exact H)|(have H2_:=(Option.bind_some _ _).symm.trans H;rw [hy363];with_reducible exact H2_)|(have H2_:=(Option.bind_some _ _).symm.trans H;with_reducible exact H2_)|with_reducible exact H|(rw [hy363];exact H)|exact H
 have Ny363:=mk0 hy363
 clear hy363
 simp only [Option.some.injEq,Prod.mk.injEq] at H
 obtain⟨rfl,rfl,rfl⟩:=H
 go_enter Try.func33,Try.ntmps33
 try go_wp2_with (first|((with_reducible refine gate_callee (f:=48) rfl ?_);refine goesL_ (some 11) rfl rfl Try.func48 (by kernel_rfl) rfl #[.slice A0 l0.length c0] rfl (by (try simp only [mA,mC,mN]);first|done|rfl|(simp only [List.length_drop,List.length_take];rfl)) ?_;(with_reducible refine (spec_l01Open.calls _ _ l0 t316 t317 t318 w _ ?side1 ?side2 ?side3 A2.out).mono ?_);(case side1=>repeat (first|(with_reducible first|exact HB.out|apply aZ|apply nZ|apply dZ)|exact HB.out));(case side2=>exact HR0.out);(case side3=>exact HC0.out);rintro e w56 ⟨g319,rfl,hi,hb,hb2⟩;refine⟨_,rfl,?_⟩;have n0_:=mk0 (hb);have n1_:=mk0 (hi);clear HB;have HB:=n0_;have HI319:=n1_;clear n0_ n1_;(try clear hb);(try clear hb2);(try clear hk);(try clear hi))|((with_reducible refine gate_callee (f:=49) rfl ?_);refine goesL_ (some 14) rfl rfl Try.func49 (by kernel_rfl) rfl #[.pointer (some ⟨g319,0,none⟩)] rfl (by (try simp only [mA,mC,mN]);first|done|rfl|(simp only [List.length_drop,List.length_take];rfl)) ?_;(with_reducible refine (spec_l01Cur_rows.calls k g319 t316 t317 t318 t320 t323 t326 t327 w _ ?side1 ?side2 A3.out).mono ?_);(case side1=>repeat (first|(with_reducible first|exact HI319.out|apply IsS76.alloc|apply IsS76.drewN|apply IsS76.drew|apply IsS76.set_1|apply IsS76.set_2)|exact HI319.out));(case side2=>repeat (first|(with_reducible first|exact HB.out|apply aZ|apply nZ|apply dZ|refine sZ ?_ (IsS76.ge HI319.out))|exact HB.out));rintro e w57 ⟨v321,v324,rfl,ho0,ho1,hi,hb,hk⟩;refine⟨_,rfl,?_⟩;have n0_:=mk0 (Kd.R_lower ho0 (below_size (by repeat (first|(with_reducible first|exact HB.out|apply aZ|apply nZ|apply dZ|refine sZ ?_ (IsS76.ge HI319.out))|exact HB.out))));have n1_:=mk0 (Kd.R_lower ho1 (below_size (by repeat (first|(with_reducible first|exact HB.out|apply aZ|apply nZ|apply dZ|refine sZ ?_ (IsS76.ge HI319.out))|exact HB.out))));have n2_:=mk0 (hb);have n3_:=mk0 (hi);clear HB HI319;have HO322:=n0_;have HO325:=n1_;have HB:=n2_;have HI319:=n3_;clear n0_ n1_ n2_ n3_;(try clear hb);(try clear hb2);(try clear hk);(try clear hi);(try clear ho0);(try clear ho1);obtain⟨Ao58,co58,eo58⟩:=Kd.R_slice HO322.out;subst eo58;obtain⟨Ao59,co59,eo59⟩:=Kd.R_slice HO325.out;subst eo59)|((with_reducible refine gate_callee (f:=25) rfl ?_);refine goesL_ (some 19) rfl rfl Try.func25 (by kernel_rfl) rfl #[.slice Ao58 t320.length co58,.slice Ao59 t323.length co59] rfl (by (try simp only [mA,mC,mN]);first|done|rfl|(simp only [List.length_drop,List.length_take];rfl)) ?_;(with_reducible refine (spec_CommonOf.calls k _ _ t320 _ _ t323 t328 _ ?side1 ?side2 ?side3 ?side4 A4.out).mono ?_);(case side1=>repeat (first|exact (Kd.R_reads' HO322.out).2.2|(with_reducible first|refine aC ?_ _|refine nC ?_ _|refine dC ?_)));(case side2=>exact (Kd.R_reads' HO322.out).2.1);(case side3=>repeat (first|exact (Kd.R_reads' HO325.out).2.2|(with_reducible first|refine aC ?_ _|refine nC ?_ _|refine dC ?_)));(case side4=>exact (Kd.R_reads' HO325.out).2.1);rintro e w60 ⟨v329,rfl,ho0,hb⟩;refine⟨_,rfl,?_⟩;have n0_:=mk0 (Kd.R_below (by (with_reducible repeat (first|apply aR|apply nR|apply dR));exact HO322.out) hb);have n1_:=mk0 (Kd.R_below (by (with_reducible repeat (first|apply aR|apply nR|apply dR));exact HO325.out) hb);have n2_:=mk0 (Kd.R_lower ho0 (below_size (by repeat (first|(with_reducible first|exact HB.out|apply aZ|apply nZ|apply dZ|refine sZ ?_ (IsS76.ge HI319.out))|exact HB.out))));have n3_:=mk0 (IsS76.below (by repeat (first|(with_reducible first|exact HI319.out|apply IsS76.alloc|apply IsS76.drewN|apply IsS76.drew|apply IsS76.set_1|apply IsS76.set_2)|exact HI319.out)) hb);have n4_:=mk0 (below_step (by repeat (first|(with_reducible first|exact HB.out|apply aZ|apply nZ|apply dZ|refine sZ ?_ (IsS76.ge HI319.out))|exact HB.out)) hb);clear HO322 HO325 HI319 HB;have HO322:=n0_;have HO325:=n1_;have HO330:=n2_;have HI319:=n3_;have HB:=n4_;clear n0_ n1_ n2_ n3_ n4_;(try clear hb);(try clear hb2);(try clear hk);(try clear hi);(try clear ho0);obtain⟨Ao61,co61,eo61⟩:=Kd.R_slice HO330.out;subst eo61)|((with_reducible refine gate_callee (f:=50) rfl ?_);refine goesL_ (some 27) rfl rfl Try.func50 (by kernel_rfl) rfl #[.pointer (some ⟨g319,0,none⟩),.int .i64 ji6] rfl (by (try simp only [mA,mC,mN]);first|done|(simp only [hji6];rfl)|rfl|(simp only [List.length_drop,List.length_take];rfl)) ?_;(with_reducible refine (spec_l01Cur_pick.calls g319 t316 t326 t327 ji6 t331 t332 t333 w _ ?side1 ?side2 A7.out).mono ?_);(case side1=>repeat (first|(with_reducible first|exact HI319.out|apply IsS76.alloc|apply IsS76.drewN|apply IsS76.drew|apply IsS76.set_1|apply IsS76.set_2)|exact HI319.out));(case side2=>repeat (first|(with_reducible first|exact HB.out|apply aZ|apply nZ|apply dZ|refine sZ ?_ (IsS76.ge HI319.out))|exact HB.out));rintro e w62 ⟨rfl,hi,hb,hk⟩;refine⟨_,rfl,?_⟩;have n0_:=mk0 (Kd.R_mono (Kd.R_keep (IsS76.apart (show IsS76 w _ g319 t316 t326 t327 from by repeat (first|(with_reducible first|exact HI319.out|apply IsS76.alloc|apply IsS76.drewN|apply IsS76.drew|apply IsS76.set_1|apply IsS76.set_2)|exact HI319.out)) (by (with_reducible repeat (first|apply aR|apply nR|apply dR));exact HO322.out) (by decide)) hk (fun _ h=>h.2)) (fun _ h=>h.1));have n1_:=mk0 (Kd.R_mono (Kd.R_keep (IsS76.apart (show IsS76 w _ g319 t316 t326 t327 from by repeat (first|(with_reducible first|exact HI319.out|apply IsS76.alloc|apply IsS76.drewN|apply IsS76.drew|apply IsS76.set_1|apply IsS76.set_2)|exact HI319.out)) (by (with_reducible repeat (first|apply aR|apply nR|apply dR));exact HO325.out) (by decide)) hk (fun _ h=>h.2)) (fun _ h=>h.1));have n2_:=mk0 (Kd.R_mono (Kd.R_keep (IsS76.apart (show IsS76 w _ g319 t316 t326 t327 from by repeat (first|(with_reducible first|exact HI319.out|apply IsS76.alloc|apply IsS76.drewN|apply IsS76.drew|apply IsS76.set_1|apply IsS76.set_2)|exact HI319.out)) (by (with_reducible repeat (first|apply aR|apply nR|apply dR));exact HO330.out) (by decide)) hk (fun _ h=>h.2)) (fun _ h=>h.1));have n3_:=mk0 (hb);have n4_:=mk0 (hi);clear HO322 HO325 HO330 HB HI319;have HO322:=n0_;have HO325:=n1_;have HO330:=n2_;have HB:=n3_;have HI319:=n4_;clear n0_ n1_ n2_ n3_ n4_;(try clear hb);(try clear hb2);(try clear hk);(try clear hi))|((with_reducible refine gate_callee (f:=50) rfl ?_);refine goesL_ (some 29) rfl rfl Try.func50 (by kernel_rfl) rfl #[.pointer (some ⟨g319,0,none⟩),.int .i64 5] rfl (by (try simp only [mA,mC,mN]);first|done|rfl|(simp only [List.length_drop,List.length_take];rfl)) ?_;(with_reducible refine (spec_l01Cur_pick.calls g319 t316 t332 t333 5 t334 t335 t336 w _ ?side1 ?side2 A8.out).mono ?_);(case side1=>repeat (first|(with_reducible first|exact HI319.out|apply IsS76.alloc|apply IsS76.drewN|apply IsS76.drew|apply IsS76.set_1|apply IsS76.set_2)|exact HI319.out));(case side2=>repeat (first|(with_reducible first|exact HB.out|apply aZ|apply nZ|apply dZ|refine sZ ?_ (IsS76.ge HI319.out))|exact HB.out));rintro e w63 ⟨rfl,hi,hb,hk⟩;refine⟨_,rfl,?_⟩;have n0_:=mk0 (Kd.R_mono (Kd.R_keep (IsS76.apart (show IsS76 w _ g319 t316 t332 t333 from by repeat (first|(with_reducible first|exact HI319.out|apply IsS76.alloc|apply IsS76.drewN|apply IsS76.drew|apply IsS76.set_1|apply IsS76.set_2)|exact HI319.out)) (by (with_reducible repeat (first|apply aR|apply nR|apply dR));exact HO322.out) (by decide)) hk (fun _ h=>h.2)) (fun _ h=>h.1));have n1_:=mk0 (Kd.R_mono (Kd.R_keep (IsS76.apart (show IsS76 w _ g319 t316 t332 t333 from by repeat (first|(with_reducible first|exact HI319.out|apply IsS76.alloc|apply IsS76.drewN|apply IsS76.drew|apply IsS76.set_1|apply IsS76.set_2)|exact HI319.out)) (by (with_reducible repeat (first|apply aR|apply nR|apply dR));exact HO325.out) (by decide)) hk (fun _ h=>h.2)) (fun _ h=>h.1));have n2_:=mk0 (Kd.R_mono (Kd.R_keep (IsS76.apart (show IsS76 w _ g319 t316 t332 t333 from by repeat (first|(with_reducible first|exact HI319.out|apply IsS76.alloc|apply IsS76.drewN|apply IsS76.drew|apply IsS76.set_1|apply IsS76.set_2)|exact HI319.out)) (by (with_reducible repeat (first|apply aR|apply nR|apply dR));exact HO330.out) (by decide)) hk (fun _ h=>h.2)) (fun _ h=>h.1));have n3_:=mk0 (hb);have n4_:=mk0 (hi);clear HO322 HO325 HO330 HB HI319;have HO322:=n0_;have HO325:=n1_;have HO330:=n2_;have HB:=n3_;have HI319:=n4_;clear n0_ n1_ n2_ n3_ n4_;(try clear hb);(try clear hb2);(try clear hk);(try clear hi)))
 have n0_:=mk0 (dR HO322.out)
 have n1_:=mk0 (dR HO325.out)
 have n2_:=mk0 (dR HO330.out)
 have n3_:=mk0 (IsS76.drew HI319.out)
 have n4_:=mk0 (dZ HB.out)
 clear HO322
 clear HO325
 clear HO330
 clear HI319
 clear HB
 have HO322:=n0_
 have HO325:=n1_
 have HO330:=n2_
 have HI319:=n3_
 have HB:=n4_
 clear n0_ n1_ n2_ n3_ n4_
 have q65:(t331:Int) ≤ ((t328.length:Int):Int):=of_decide_eq_true (by first|(with_reducible assumption)|assumption)
 obtain⟨i065,hi065,_,hsz65,_⟩:=info_parts info56
 have hroom65:t328.length ≤ co61:=(Kd.R_reads' HO330.out).2.1
 have hC65:Kd.C k56 _ Ao61 t328.length t328:=(Kd.R_reads' HO330.out).2.2
 have hcut65:=cut_to (P:=Try.prog) 29 56 .i64 Try.underlying29 hi065 Ao61 t328.length co61 t331 (of_decide_eq_true (by first|(with_reducible assumption)|assumption)) q65 hroom65
 have hr65:=Kd.C_take (m:=(t331:Int).toNat) hC65 (by omega)
 have hy65:y355.length = (t331:Int).toNat:=(by rw [Ny355.out,List.length_take];omega)
 rw [← Ny355.out] at hr65
 rw [← hy65] at hcut65
 have HR358:=mk0 hr65
 have HC358:=mk0 (show y355.length ≤ co61 from by omega)
 clear hr65 hC65 hroom65 hi065 hsz65
 have KY65:=mk0 hy65
 clear hy65
 have KL65:=mk0 (show (t331:Int).toNat ≤ t328.length from by omega)
 replace q65:=eq_true q65
 have q66:((ji53):Int) ≤ ((t328.length:Int):Int):=of_decide_eq_true (by first|(with_reducible assumption)|assumption)
 obtain⟨i066,hi066,_,hsz66,_⟩:=info_parts info56
 have hroom66:t328.length ≤ co61:=(Kd.R_reads' HO330.out).2.1
 have hC66:Kd.C k56 _ Ao61 t328.length t328:=(Kd.R_reads' HO330.out).2.2
 have q066:(0:Int) ≤ ((ji53):Int):=of_decide_eq_true (by first|(with_reducible assumption)|assumption)
 have hcut66:=cut_from (P:=Try.prog) 29 56 .i64 Try.underlying29 hi066 2 hsz66 Ao61 t328.length co61 (ji53) q066 q66
 have hr66:=Kd.C_drop (m:=((ji53):Int).toNat) (c:=co61) hC66 (by omega) hroom66
 obtain⟨A66,hA66⟩:∃ A1,A1 = (if co61 = ((ji53):Int).toNat then Ao61 else (Ao61:Option Addr).map (·.add (((ji53):Int).toNat * 2))):=⟨_,rfl⟩
 obtain⟨c66,hc66⟩:∃ c1,c1 = co61 - ((ji53):Int).toNat:=⟨_,rfl⟩
 have hy66:y359.length = t328.length - ((ji53):Int).toNat:=(by rw [Ny359.out,List.length_drop] <;> omega)
 rw [show (t328).drop ((ji53):Int).toNat = y359 from Ny359.out.symm] at hr66
 replace hr66:Kd.C k56 _ A66 y359.length y359:=(by rw [hA66];exact hr66)
 rw [← hy66, ← hA66, ← hc66] at hcut66
 have HR362:=mk0 hr66
 have HC362:=mk0 (show y359.length ≤ c66 from by rw [hy66,hc66];exact Nat.sub_le_sub_right hroom66 _)
 clear hr66 hC66 hroom66 hi066 hsz66 hc66
 have KY66:=mk0 hy66
 have KA66:=mk0 hA66
 clear hy66 hA66
 have KL66:=mk0 (show ((ji53):Int).toNat ≤ t328.length from by omega)
 replace q66:=eq_true q66
 obtain⟨go68,co68,eo68,gb68,gl68,cl68,HG68⟩:=Kd.R_form HO330.out (by have hj_:0 ≤ (t331:Int):=of_decide_eq_true (by first|(with_reducible assumption)|assumption);have hl_:(ji53:Int) ≤ (t328.length:Int):=of_decide_eq_true (by first|(with_reducible assumption)|assumption);have hh_:(t331:Int) ≤ (t328.length:Int):=of_decide_eq_true (by first|(with_reducible assumption)|assumption);rw [← hji53] at hl_;unfold wrap64 at hl_;omega)
 (first|cases eo68|(injection eo68 with ea_ en_ ec_;(first|subst ea_|(injection ea_ with ea_;subst ea_));subst ec_;clear en_))
 have GB68:=mk0 gb68
 have GG68:=mk0 HG68
 clear gb68 gl68 HG68
 refine start_ (n:=9) (S:=fun w'=>True) (ds:=[]) spec_DrawCommonOk.m0 (by kernel_rfl) rfl rfl trivial (fun hHeld=>?_);refine with_tabW spec_DrawCommonOk.tab12 spec_DrawCommonOk.bits12 (fun HT_ HW_=>?_)
 generalize w63.drew = w64 at HO322 HO325 HO330 HI319 HB GG68 HR358 HR362 hHeld ⊢
 refine pure_ (i:=0) (N:=some 55) (v:=?_) (a':=?_) spec_DrawCommonOk.m1 rfl rfl (any_of HT_.out (by kernel_rfl)) (fun _ _ _ h=>h) (Or.inl ⟨by rfl,?_⟩) ?_ ?_
 rotate_left
 ·intro w'
  go_simp
  with_reducible rfl
 rotate_left
 ·simp only [Act.put,sA,sO,sS,i64_w,i32_w]
  rfl
 refine pure_ (i:=1) (N:=some 56) (v:=?_) (a':=?_) spec_DrawCommonOk.m2 rfl rfl (any_of HT_.out (by kernel_rfl)) (fun _ _ _ h=>h) (Or.inl ⟨by rfl,?_⟩) ?_ ?_
 rotate_left
 ·intro w'
  go_simp
  with_reducible rfl
 rotate_left
 ·simp only [Act.put,sA,sO,sS,i64_w,i32_w]
  rfl
 refine pure_ (i:=2) (N:=some 57) (v:=?_) (a':=?_) spec_DrawCommonOk.m3 rfl rfl (any_of HT_.out (by kernel_rfl)) (fun _ _ _ h=>h) (Or.inl ⟨by rfl,?_⟩) ?_ ?_
 rotate_left
 ·intro w'
  go_simp
  with_reducible rfl
 rotate_left
 ·simp only [Act.put,sA,sO,sS,i64_w,i32_w]
  rfl
 refine pure_ (i:=3) (N:=some 58) (v:=?_) (a':=?_) spec_DrawCommonOk.m4 rfl rfl (any_of HT_.out (by kernel_rfl)) (fun _ _ _ h=>h) (Or.inl ⟨by rfl,?_⟩) ?_ ?_
 rotate_left
 ·intro w'
  go_simp
  with_reducible rfl
 rotate_left
 ·simp only [Act.put,sA,sO,sS,i64_w,i32_w]
  rfl
 refine pure_ (i:=4) (N:=some 59) (v:=?_) (a':=?_) spec_DrawCommonOk.m5 rfl rfl (any_of HT_.out (by kernel_rfl)) (fun _ _ _ h=>h) (Or.inl ⟨by rfl,?_⟩) ?_ ?_
 rotate_left
 ·intro w'
  go_simp
  with_reducible rfl
 rotate_left
 ·simp only [Act.put,sA,sO,sS,i64_w,i32_w]
  rfl
 refine pure_ (i:=5) (N:=some 60) (v:=?_) (a':=?_) spec_DrawCommonOk.m6 rfl rfl (any_of HT_.out (by kernel_rfl)) (fun _ _ _ h=>h) (Or.inl ⟨by rfl,?_⟩) ?_ ?_
 rotate_left
 ·intro w'
  go_simp
  with_reducible rfl
 rotate_left
 ·simp only [Act.put,sA,sO,sS,i64_w,i32_w]
  rfl
 refine pure_ (i:=6) (N:=some 61) (v:=?_) (a':=?_) spec_DrawCommonOk.m7 rfl rfl (any_of HT_.out (by kernel_rfl)) (fun _ _ _ h=>h) (Or.inl ⟨by rfl,?_⟩) ?_ ?_
 rotate_left
 ·intro w'
  go_simp
  with_reducible rfl
 rotate_left
 ·simp only [Act.put,sA,sO,sS,i64_w,i32_w]
  rfl
 refine one_ (i:=7) (N:=some 62) spec_DrawCommonOk.m8 rfl rfl (one_of HT_.out (by kernel_rfl)) (by decide) (fun K hK=>?_)
 have hj_:0 ≤ (t331:Int):=of_decide_eq_true (by first|(with_reducible assumption)|assumption)
 have hl_:(ji53:Int) ≤ (t328.length:Int):=of_decide_eq_true (by first|(with_reducible assumption)|assumption)
 have hh_:(t331:Int) ≤ (t328.length:Int):=of_decide_eq_true (by first|(with_reducible assumption)|assumption)
 have hb_:=(Kd.R_reads' HO330.out).2.2.2.1
 have h0_:(0:Int) ≤ (ji53:Int):=of_decide_eq_true (by first|(with_reducible assumption)|assumption)
 have hy1_:=KY65.out
 have hk_:(ji53:Int).toNat = y355.length + 1:=(by have hw_:(ji53:Int) = t331 + 1:=(by have h00_:=h0_;rw [← hji53] at h00_ ⊢;unfold wrap64 at h00_ ⊢;omega);rw [hw_];omega)
 refine Kd.R_delete_step k56 (w0:=w) w.heap.size (by rfl) (.tmp 57) (.tmp 61) 29 56 rfl Try.underlying29 (by kernel_rfl) (g:=go68) (n:=t328.length) (c:=co61) (k:=y355.length) rfl rfl ?hA ?hm (by (with_reducible repeat (first|apply aR|apply nR|apply dR));exact HO330.out) ?hk (by repeat (first|(with_reducible first|exact HB.out|apply aZ|apply nZ|apply dZ|refine sZ ?_ (IsS76.ge HI319.out))|exact HB.out)) (below_size (by repeat (first|(with_reducible first|exact HB.out|apply aZ|apply nZ|apply dZ|refine sZ ?_ (IsS76.ge HI319.out))|exact HB.out))) ?_
 (case hA=>have ha_:=KA66.out;rw [hk_] at ha_;exact ha_)
 (case hm=>have ha_:=KY66.out;omega)
 (case hk=>omega)
 intro w67 ho hb hg
 clear hj_ hl_ hh_ hb_ hk_ h0_
 rw [hy1_, ← Ny363.out] at ho
 clear hy1_
 have hn_:t328.length - 1 = y363.length:=(by have:=(Kd.R_reads' ho).1;omega)
 rw [hn_] at ho ⊢
 clear hn_
 have n0_:=mk0 (Kd.R_over' (v:=(.slice (some ⟨go68,0,none⟩) t328.length co61)) (by (with_reducible repeat (first|apply aR|apply nR|apply dR));exact HO322.out) (Kd.R_typed HO330.out) (by decide) hg)
 have n1_:=mk0 (Kd.R_over' (v:=(.slice (some ⟨go68,0,none⟩) t328.length co61)) (by (with_reducible repeat (first|apply aR|apply nR|apply dR));exact HO325.out) (Kd.R_typed HO330.out) (by decide) hg)
 have n2_:=mk0 (ho)
 have n3_:=mk0 (IsS76.grown (by repeat (first|(with_reducible first|exact HI319.out|apply IsS76.alloc|apply IsS76.drewN|apply IsS76.drew|apply IsS76.set_1|apply IsS76.set_2)|exact HI319.out)) hg (IsS76.own_ne HI319.out HO330.out (by decide)))
 have n4_:=mk0 (hb)
 clear HO322
 clear HO325
 clear HO330
 clear HI319
 clear HB
 have HO322:=n0_
 have HO325:=n1_
 have HO330:=n2_
 have HI319:=n3_
 have HB:=n4_
 clear n0_ n1_ n2_ n3_ n4_
 clear ho hb hg
 refine hK.out _ _ trivial (fun hHeld=>?_)
 clear hK K
 refine norm_ (a':=?_) ?_ ?_
 rotate_left
 ·show Act.put _ (some 62) _ = _
  simp only [Act.put,sA,sO,sS,i64_w,i32_w]
  rfl
 refine pure_ (i:=8) (N:=some 8) (v:=?_) (a':=?_) spec_DrawCommonOk.m9 rfl rfl (any_of HT_.out (by kernel_rfl)) (fun _ _ _ h=>h) (Or.inl ⟨by rfl,?_⟩) ?_ ?_
 rotate_left
 ·intro w'
  go_simp
  with_reducible rfl
 rotate_left
 ·simp only [Act.put,sA,sO,sS,i64_w,i32_w]
  rfl
 refine done_ (done_of HT_.out (by kernel_rfl)) ?_
 try go_wp2
 go_ret3
 exact⟨_,_,_,by first|rfl|(simp [errW_none,errW_some] <;> rfl)|(simp only [← hji6, ← hji53];first|rfl|(simp [errW_none,errW_some] <;> rfl))|(simp [*,errW_none,errW_some] <;> rfl),by (with_reducible repeat (first|apply aR|apply nR|apply dR));exact HO322.out,by (with_reducible repeat (first|apply aR|apply nR|apply dR));exact HO325.out,by (with_reducible repeat (first|apply aR|apply nR|apply dR));exact HO330.out,by repeat (first|(with_reducible first|exact HB.out|apply aZ|apply nZ|apply dZ|refine sZ ?_ (IsS76.ge HI319.out))|exact HB.out)⟩
/-! ### laws_pairs: function 34 -/
def laws_pairs.f (l0 : List (S56)) : Option ((List (S56))) := (some (([] : List (S56)) : List (S56))).bind fun y366 => (if y366.length + l0.length < 8796093022208 then (some (y366 ++ l0)) else (none))
set_option maxHeartbeats 8000000 in
set_option maxRecDepth 100000 in
theorem laws_pairs.calls (A0 : Option Addr) (c0 : Nat) (l0 : List (S56)) (r : List (S56)) (w : World) (hr0 : Kd.C k56 w A0 l0.length l0) (hc0 : l0.length ≤ c0) (h : laws_pairs.f l0 = some r) :
  Calls Try.prog 34 #[.slice A0 l0.length c0] w fun e w' => ∃ v0_ : Value, e = .returned (v0_) ∧ Kd.R k56 56 w' w.heap.size (fun _ => True) v0_ r ∧ Below w.heap.size w w' := by
 have HR0:=mk0 hr0
 have HC0:=mk0 hc0
 clear hr0 hc0
 have HB:=mk0 (Below.refl w.heap.size w)
 have H:((some (([]:List (S56)):List (S56))).bind fun y366=>(if y366.length + l0.length < 8796093022208 then (some (y366 ++ l0)) else (none))) = some r:=h
 clear h
 obtain⟨y366,hy366⟩:∃ y_:List (S56),y_ = (([]:List (S56))):=⟨_,rfl⟩
 replace H:(if y366.length + l0.length < 8796093022208 then (some (y366 ++ l0)) else (none)) = some r:=by first|(rw [hy366];with_reducible exact H)|(have H2_:=(Option.bind_some _ _).symm.trans H;rw [hy366];with_reducible exact H2_)|(have H2_:=(Option.bind_some _ _).symm.trans H;with_reducible exact H2_)|with_reducible exact H|(rw [hy366];exact H)|exact H
 have Ny366:=mk0 hy366
 clear hy366
 by_cases c2:y366.length + l0.length < 8796093022208
 ·rw [if_pos c2] at H
  have LMc2:=mk0 c2
  clear c2
  obtain⟨y369,hy369⟩:∃ y_:List (S56),y_ = (y366 ++ l0):=⟨_,rfl⟩
  replace H:(some y369) = some r:=by first|(rw [hy369];with_reducible exact H)|(have H2_:=(Option.bind_some _ _).symm.trans H;rw [hy369];with_reducible exact H2_)|(have H2_:=(Option.bind_some _ _).symm.trans H;with_reducible exact H2_)|with_reducible exact H|(rw [hy369];exact H)|exact H
  have Ny369:=mk0 hy369
  clear hy369
  obtain rfl:=Option.some.inj H
  go_enter Try.func34,Try.ntmps34
  go_wp2_with (first|((with_reducible refine gate_dst (N:=3) rfl ?_);refine Kd.R_lit k56 _ 56 ?hg (N:=3) ?hd (xs:=([]:List (S56))) (inner:=[]) (ok:=fun _=>True) (okp:=fun _=>True) ?hr ?hp (fun _ hk=>hk) trivial (Below.refl _ _) (Nat.le_refl _) (by simp) ?_;(case hd=>rfl);(case hg=>rfl);(case hr=>first|(go_simp;done)|(go_simp;rfl));(case hp=>exact (Reps.none _ _));intro v367 w3 ho4 hb hg_ hnew_;clear hg_ hnew_;(first|rw [← Ny366.out] at ho4|(simp only [Int.reduceToNat] at ho4;rw [← Ny366.out] at ho4));have n0_:=mk0 (Kd.R_lower ho4 (below_size (by repeat (first|(with_reducible first|exact HB.out|apply aZ|apply nZ|apply dZ)|exact HB.out))));have n1_:=mk0 (below_step (by repeat (first|(with_reducible first|exact HB.out|apply aZ|apply nZ|apply dZ)|exact HB.out)) hb);clear HB;have HO368:=n0_;have HB:=n1_;clear n0_ n1_ hb ho4)|((with_reducible refine gate_builtin (b:=.append) (xs:=#[.tmp 3,.tmp 4]) rfl ?_);at_builtin;refine Kd.R_append_rows k56 (w0:=w) w.heap.size rfl (.tmp 3) (.tmp 4) 29 56 (.agg #[(.int .i64 0),(.int .i64 0)]) 16 rfl Try.underlying29 info56 rfl (by decide) (by omega) v367 y366 l0 _ _ _ (fun _=>True) (fun _=>False) rfl rfl ?aO ?aR (fun _ _ h=>h) (fun _ h=>h.elim) ?aF ?aB ?aS ?aL ?_;(case aR=>repeat (first|exact (Kd.C_below HR0.out HB.out)|(with_reducible first|refine aC ?_ _|refine nC ?_ _|refine dC ?_)));(case aB=>exact (by repeat (first|(with_reducible first|exact HB.out|apply aZ|apply nZ|apply dZ)|exact HB.out)));(case aF=>exact (fun _ _=>trivial));(case aO=>exact (by (with_reducible repeat (first|apply aR|apply nR|apply dR));exact HO368.out));(case aS=>exact (below_size (by repeat (first|(with_reducible first|exact HB.out|apply aZ|apply nZ|apply dZ)|exact HB.out))));(case aL=>have:=LMc2.out;omega);intro v370 w5 ho hb hg hat;rw [← Ny369.out] at ho;have n0_:=mk0 (hb);have n1_:=mk0 (ho);clear HB HO368;have HB:=n0_;have HO371:=n1_;clear n0_ n1_ ho hb hg hat))
  go_ret
  exact⟨_,by first|rfl|(simp [errW_none,errW_some] <;> rfl)|(simp [*,errW_none,errW_some] <;> rfl),by (with_reducible repeat (first|apply aR|apply nR|apply dR));exact HO371.out,by repeat (first|(with_reducible first|exact HB.out|apply aZ|apply nZ|apply dZ)|exact HB.out)⟩
 ·rw [if_neg c2] at H
  exact absurd H (by simp)

end Go.Proofs.Ytlnmkgeoiinjfaa.QFnCommon
