-- A walk, made by walk.py, a program of this session's.
import Derived.Test.YtlnmkgeoiinjfaaQFnCommonx0
import Derived.Test.YtlnmkgeoiinjfaaQFnCommonx8
namespace Go.Proofs.Ytlnmkgeoiinjfaa.QFnCommon
open Go.RowKit Go.Proofs.YtlnmkgeoiinjfaaW.PrintWords Go.Proofs.YtlnmkgeoiinjfaaW.PrintLast Go.Proofs.YtlnmkgeoiinjfaaW.PrintMore
attribute [local go_sem] max2_int min2_int max_two min_two max_three min_three max_four min_four   -- for this text's walks alone
set_option linter.unusedVariables false
set_option linter.unusedSimpArgs false

/-! ### spec_l01Cur_pick: function 50 -/
def spec_l01Cur_pick.f (s0_0 : List Int) (s0_1 : Int) (s0_2 : Int) (a1 : Int) : Option (Int × Int × Int) := if a1 < 2 then (some (0, s0_1, s0_2)) else (if s0_1 < (s0_0.length : Int) then (if 0 ≤ s0_1 then (if a1 = 0 then (none) else (some (Int.tmod (wrap64 (rd s0_0 s0_1)) a1, wrap64 (s0_1 + 1), s0_2))) else (none)) else (if (s0_0.length : Int) > 0 then (if (s0_0.length : Int) = 0 then (none) else (if 0 ≤ (Int.tmod s0_1 (s0_0.length : Int)) then (if (Int.tmod s0_1 (s0_0.length : Int)) < (s0_0.length : Int) then (if a1 = 0 then (none) else (some (Int.tmod (wrap64 ((wrap64 (Int.tdiv (Int.tmod (wrap64 ((wrap64 (s0_2 * 1103)) + 12345)) 65521) 7)) + (wrap64 (rd s0_0 (Int.tmod s0_1 (s0_0.length : Int)))))) a1, wrap64 (s0_1 + 1), Int.tmod (wrap64 ((wrap64 (s0_2 * 1103)) + 12345)) 65521))) else (none)) else (none))) else (if a1 = 0 then (none) else (some ((0 : Int) % a1, wrap64 (s0_1 + 1), Int.tmod (wrap64 ((wrap64 (s0_2 * 1103)) + 12345)) 65521)))))
set_option maxHeartbeats 8000000 in
set_option maxRecDepth 100000 in
theorem spec_l01Cur_pick.calls (g : Nat) (s0_0 : List Int) (s0_1 : Int) (s0_2 : Int) (a1 : Int) (r1 : Int) (r2 : Int) (r3 : Int) (w0 w : World) (hI : IsS76 w0 w g s0_0 s0_1 s0_2) (hB : Below w0.heap.size w0 w) (h : spec_l01Cur_pick.f s0_0 s0_1 s0_2 a1 = some (r1, r2, r3)) :
  Calls Try.prog 50 #[.pointer (some ⟨g, 0, none⟩), .int .i64 a1] w fun e w' => e = .returned (.int .i64 r1) ∧ IsS76 w0 w' g s0_0 r2 r3 ∧ Below w0.heap.size w0 w' ∧ KeepBut w w' g none := by
 have HI0:=mk0 hI
 have HK:=mk0 (KeepBut.refl w g none)
 have HL:=mk0 hB.size
 clear hI
 have HW0:=mk0 hB.size
 have HB:=mk0 hB
 clear hB
 have H:(if a1 < 2 then (some (0,s0_1,s0_2)) else (if s0_1 < (s0_0.length:Int) then (if 0 ≤ s0_1 then (if a1 = 0 then (none) else (some (Int.tmod (wrap64 (rd s0_0 s0_1)) a1,wrap64 (s0_1 + 1),s0_2))) else (none)) else (if (s0_0.length:Int) > 0 then (if (s0_0.length:Int) = 0 then (none) else (if 0 ≤ (Int.tmod s0_1 (s0_0.length:Int)) then (if (Int.tmod s0_1 (s0_0.length:Int)) < (s0_0.length:Int) then (if a1 = 0 then (none) else (some (Int.tmod (wrap64 ((wrap64 (Int.tdiv (Int.tmod (wrap64 ((wrap64 (s0_2 * 1103)) + 12345)) 65521) 7)) + (wrap64 (rd s0_0 (Int.tmod s0_1 (s0_0.length:Int)))))) a1,wrap64 (s0_1 + 1),Int.tmod (wrap64 ((wrap64 (s0_2 * 1103)) + 12345)) 65521))) else (none)) else (none))) else (if a1 = 0 then (none) else (some ((0:Int) % a1,wrap64 (s0_1 + 1),Int.tmod (wrap64 ((wrap64 (s0_2 * 1103)) + 12345)) 65521)))))) = some (r1,r2,r3):=h
 clear h
 by_cases c3:a1 < 2
 ·rw [if_pos c3] at H
  have c3b0:decide (a1 < 2) = true:=decide_eq_true c3
  clear c3
  simp only [Option.some.injEq,Prod.mk.injEq] at H
  obtain⟨rfl,rfl,rfl⟩:=H
  go_enter Try.func50,Try.ntmps50
  go_wp2
  repeat (go_quiet (fail);try go_wp2)
  go_ret
  exact⟨by first|rfl|(simp [errW_none,errW_some] <;> rfl)|(simp [*,errW_none,errW_some] <;> rfl),by repeat (first|(with_reducible first|exact HI0.out|apply IsS76.alloc|apply IsS76.drewN|apply IsS76.drew|apply IsS76.set_1|apply IsS76.set_2)|exact HI0.out),by repeat (first|(with_reducible first|exact HB.out|apply aZ|apply nZ|apply dZ|refine sZ ?_ (IsS76.ge HI0.out))|exact HB.out),by repeat (first|(with_reducible first|exact HK.out|apply KeepBut.set_|apply keep_drewN|apply keep_drew|apply keep_alloc)|exact HK.out)⟩
 ·rw [if_neg c3] at H
  have c3b0:decide (a1 < 2) = false:=decide_eq_false c3
  clear c3
  by_cases c4:s0_1 < (s0_0.length:Int)
  ·rw [if_pos c4] at H
   have c4b0:decide (s0_1 < (s0_0.length:Int)) = true:=decide_eq_true c4
   clear c4
   by_cases c5:0 ≤ s0_1
   ·rw [if_pos c5] at H
    have c5b0:decide (0 ≤ s0_1) = true:=decide_eq_true c5
    clear c5
    by_cases c6:a1 = 0
    ·rw [if_pos c6] at H
     exact absurd H (by simp)
    ·rw [if_neg c6] at H
     have c6b0:(a1 == 0) = false:=beq_eq_false_iff_ne.mpr c6
     have c6b1:(a1 != 0) = true:=bne_iff_ne.mpr c6
     simp only [Option.some.injEq,Prod.mk.injEq] at H
     obtain⟨rfl,rfl,rfl⟩:=H
     obtain⟨ASz7_0,cSz7_0,HGz7,hgz7,HSz7_0⟩:=HI0.out
     have hcz7_0:=cellS76_0 HGz7
     have hcz7_1:=cellS76_1 HGz7
     have hcz7_2:=cellS76_2 HGz7
     have hfz7_1:=blk_frozen HGz7 1
     have hfz7_2:=blk_frozen HGz7 2
     clear HGz7 hgz7
     have p223:0 ≤ (s0_1:Int):=of_decide_eq_true (by first|(with_reducible assumption)|assumption)
     have q223:s0_1 < (s0_0.length:Int):=of_decide_eq_true (by first|(with_reducible assumption)|assumption)
     obtain⟨ad223,e223,hx223_0⟩:=Kd.at_int HSz7_0 s0_1 p223 q223
     cases e223
     replace hx223_0:=pw_cell_below HB.out hx223_0
     replace p223:=eq_true p223
     replace q223:=eq_true q223
     go_enter Try.func50,Try.ntmps50
     go_wp2
     repeat (go_quiet (fail);try go_wp2)
     go_ret
     exact⟨by first|rfl|(simp [errW_none,errW_some] <;> rfl)|(simp [*,errW_none,errW_some] <;> rfl),by repeat (first|(with_reducible first|exact HI0.out|apply IsS76.alloc|apply IsS76.drewN|apply IsS76.drew|apply IsS76.set_1|apply IsS76.set_2)|exact HI0.out),by repeat (first|(with_reducible first|exact HB.out|apply aZ|apply nZ|apply dZ|refine sZ ?_ (IsS76.ge HI0.out))|exact HB.out),by repeat (first|(with_reducible first|exact HK.out|apply KeepBut.set_|apply keep_drewN|apply keep_drew|apply keep_alloc)|exact HK.out)⟩
   ·rw [if_neg c5] at H
    exact absurd H (by simp)
  ·rw [if_neg c4] at H
   have c4b0:decide (s0_1 < (s0_0.length:Int)) = false:=decide_eq_false c4
   clear c4
   by_cases c8:(s0_0.length:Int) > 0
   ·rw [if_pos c8] at H
    have c8b0:decide (0 < (s0_0.length:Int)) = true:=decide_eq_true c8
    have c8b1:decide (0 < s0_0.length) = true:=decide_eq_true (by omega)
    clear c8
    by_cases c9:(s0_0.length:Int) = 0
    ·rw [if_pos c9] at H
     exact absurd H (by simp)
    ·rw [if_neg c9] at H
     have c9b0:((s0_0.length:Int) == 0) = false:=beq_eq_false_iff_ne.mpr c9
     have c9b1:((s0_0.length:Int) != 0) = true:=bne_iff_ne.mpr c9
     have c9b2:¬ (s0_0 = []):=fun h_=>c9 (by rw [h_];rfl)
     obtain⟨ji10,hji10⟩:∃ j_:Int,(Int.tmod s0_1 (s0_0.length:Int)) = j_:=⟨_,rfl⟩
     replace H:(if 0 ≤ (ji10) then (if (ji10) < (s0_0.length:Int) then (if a1 = 0 then (none) else (some (Int.tmod (wrap64 ((wrap64 (Int.tdiv (Int.tmod (wrap64 ((wrap64 (s0_2 * 1103)) + 12345)) 65521) 7)) + (wrap64 (rd s0_0 (ji10))))) a1,wrap64 (s0_1 + 1),Int.tmod (wrap64 ((wrap64 (s0_2 * 1103)) + 12345)) 65521))) else (none)) else (none)) = some (r1,r2,r3):=by first|(rw [hji10] at H;exact H)|(simp only [hji10] at H ⊢;exact H)
     by_cases c11:0 ≤ (ji10)
     ·rw [if_pos c11] at H
      have c11b0:decide (0 ≤ (ji10)) = true:=decide_eq_true c11
      clear c11
      by_cases c12:(ji10) < (s0_0.length:Int)
      ·rw [if_pos c12] at H
       have c12b0:decide ((ji10) < (s0_0.length:Int)) = true:=decide_eq_true c12
       clear c12
       by_cases c13:a1 = 0
       ·rw [if_pos c13] at H
        exact absurd H (by simp)
       ·rw [if_neg c13] at H
        have c13b0:(a1 == 0) = false:=beq_eq_false_iff_ne.mpr c13
        have c13b1:(a1 != 0) = true:=bne_iff_ne.mpr c13
        simp only [Option.some.injEq,Prod.mk.injEq] at H
        obtain⟨rfl,rfl,rfl⟩:=H
        obtain⟨ASz14_0,cSz14_0,HGz14,hgz14,HSz14_0⟩:=HI0.out
        have hcz14_0:=cellS76_0 HGz14
        have hcz14_1:=cellS76_1 HGz14
        have hcz14_2:=cellS76_2 HGz14
        have hfz14_1:=blk_frozen HGz14 1
        have hfz14_2:=blk_frozen HGz14 2
        clear HGz14 hgz14
        have p224:0 ≤ ((ji10):Int):=of_decide_eq_true (by first|(with_reducible assumption)|assumption)
        have q224:(ji10) < (s0_0.length:Int):=of_decide_eq_true (by first|(with_reducible assumption)|assumption)
        obtain⟨ad224,e224,hx224_0⟩:=Kd.at_int HSz14_0 (ji10) p224 q224
        cases e224
        have hn224_0:ad224.block ≠ g:=Nat.ne_of_lt (Nat.lt_of_lt_of_le (by have:=World.block_lt_of_cell? _ _ hx224_0;first|rwa [add_block] at this|exact this) (IsS76.ge HI0.out))
        replace hx224_0:=pw_cell_below HB.out hx224_0
        replace hx224_0:=(cell_far (p:=⟨g,2,none⟩) (by first|(rw [add_block];exact hn224_0)|(show (Addr.add _ _).block ≠ _;rw [add_block];exact hn224_0)|exact hn224_0) (.int .i64 (Int.tmod (wrap64 ((wrap64 (s0_2 * 1103)) + 12345)) 65521))).trans hx224_0
        (try have hy224_0:=fun (n_:Nat)=>(show (((w.drewN n_).setCell ⟨g,2,none⟩ (.int .i64 (Int.tmod (wrap64 ((wrap64 (s0_2 * 1103)) + 12345)) 65521)))).cell? _ = some _ from hx224_0))
        clear hn224_0
        replace p224:=eq_true p224
        replace q224:=eq_true q224
        go_enter Try.func50,Try.ntmps50
        go_wp2
        repeat (go_quiet (fail);try go_wp2)
        go_ret
        exact⟨by first|rfl|(simp [errW_none,errW_some] <;> rfl)|(simp only [← hji10];first|rfl|(simp [errW_none,errW_some] <;> rfl))|(simp [*,errW_none,errW_some] <;> rfl),by repeat (first|(with_reducible first|exact HI0.out|apply IsS76.alloc|apply IsS76.drewN|apply IsS76.drew|apply IsS76.set_1|apply IsS76.set_2)|exact HI0.out),by repeat (first|(with_reducible first|exact HB.out|apply aZ|apply nZ|apply dZ|refine sZ ?_ (IsS76.ge HI0.out))|exact HB.out),by repeat (first|(with_reducible first|exact HK.out|apply KeepBut.set_|apply keep_drewN|apply keep_drew|apply keep_alloc)|exact HK.out)⟩
      ·rw [if_neg c12] at H
       exact absurd H (by simp)
     ·rw [if_neg c11] at H
      exact absurd H (by simp)
   ·rw [if_neg c8] at H
    have c8b0:decide (0 < (s0_0.length:Int)) = false:=decide_eq_false c8
    have c8b1:decide (0 < s0_0.length) = false:=decide_eq_false (by omega)
    clear c8
    by_cases c15:a1 = 0
    ·rw [if_pos c15] at H
     exact absurd H (by simp)
    ·rw [if_neg c15] at H
     have c15b0:(a1 == 0) = false:=beq_eq_false_iff_ne.mpr c15
     have c15b1:(a1 != 0) = true:=bne_iff_ne.mpr c15
     simp only [Option.some.injEq,Prod.mk.injEq] at H
     obtain⟨rfl,rfl,rfl⟩:=H
     obtain⟨ASz16_0,cSz16_0,HGz16,hgz16,HSz16_0⟩:=HI0.out
     have hcz16_0:=cellS76_0 HGz16
     have hcz16_1:=cellS76_1 HGz16
     have hcz16_2:=cellS76_2 HGz16
     have hfz16_1:=blk_frozen HGz16 1
     have hfz16_2:=blk_frozen HGz16 2
     clear HGz16 hgz16
     go_enter Try.func50,Try.ntmps50
     go_wp2
     repeat (go_quiet (fail);try go_wp2)
     go_ret
     exact⟨by first|rfl|(simp [errW_none,errW_some] <;> rfl)|(simp [*,errW_none,errW_some] <;> rfl),by repeat (first|(with_reducible first|exact HI0.out|apply IsS76.alloc|apply IsS76.drewN|apply IsS76.drew|apply IsS76.set_1|apply IsS76.set_2)|exact HI0.out),by repeat (first|(with_reducible first|exact HB.out|apply aZ|apply nZ|apply dZ|refine sZ ?_ (IsS76.ge HI0.out))|exact HB.out),by repeat (first|(with_reducible first|exact HK.out|apply KeepBut.set_|apply keep_drewN|apply keep_drew|apply keep_alloc)|exact HK.out)⟩

/-! ### spec_l01Cur_size: function 57 -/
def spec_l01Cur_size.f (s0_0 : List Int) (s0_1 : Int) (s0_2 : Int) (a1 : Int) : Option (Int × Int × Int) := (spec_l01Cur_pick.f s0_0 s0_1 s0_2 (wrap64 ((mn a1 (wrap64 (1 + (wrap64 ((s0_0.length : Int) / 8))))) + 1))).bind fun bt225 => (some (bt225.1, bt225.2.1, bt225.2.2))
set_option maxHeartbeats 8000000 in
set_option maxRecDepth 100000 in
theorem spec_l01Cur_size.calls (g : Nat) (s0_0 : List Int) (s0_1 : Int) (s0_2 : Int) (a1 : Int) (r1 : Int) (r2 : Int) (r3 : Int) (w0 w : World) (hI : IsS76 w0 w g s0_0 s0_1 s0_2) (hB : Below w0.heap.size w0 w) (h : spec_l01Cur_size.f s0_0 s0_1 s0_2 a1 = some (r1, r2, r3)) :
  Calls Try.prog 57 #[.pointer (some ⟨g, 0, none⟩), .int .i64 a1] w fun e w' => e = .returned (.int .i64 r1) ∧ IsS76 w0 w' g s0_0 r2 r3 ∧ Below w0.heap.size w0 w' ∧ KeepBut w w' g none := by
 have HI0:=mk0 hI
 have HK:=mk0 (KeepBut.refl w g none)
 have HL:=mk0 hB.size
 clear hI
 have HW0:=mk0 hB.size
 have HB:=mk0 hB
 clear hB
 have H:((spec_l01Cur_pick.f s0_0 s0_1 s0_2 (wrap64 ((mn a1 (wrap64 (1 + (wrap64 ((s0_0.length:Int) / 8))))) + 1))).bind fun bt225=>(some (bt225.1,bt225.2.1,bt225.2.2))) = some (r1,r2,r3):=h
 clear h
 obtain⟨ji3,hji3⟩:∃ j_:Int,(mn a1 (wrap64 (1 + (wrap64 ((s0_0.length:Int) / 8))))) = j_:=⟨_,rfl⟩
 replace H:((spec_l01Cur_pick.f s0_0 s0_1 s0_2 (wrap64 ((ji3) + 1))).bind fun bt225=>(some (bt225.1,bt225.2.1,bt225.2.2))) = some (r1,r2,r3):=by first|(rw [hji3] at H;exact H)|(simp only [hji3] at H ⊢;exact H)
 have hji3_:(if (wrap64 (1 + (wrap64 ((s0_0.length:Int) / 8)))) < a1 then (wrap64 (1 + (wrap64 ((s0_0.length:Int) / 8)))) else a1) = ji3:=hji3
 replace H:=Option.bind_eq_some_iff.mp H
 obtain⟨⟨t225,t226,t227⟩,A40,H⟩:=H
 replace H:(some (t225,t226,t227)) = some (r1,r2,r3):=H
 have A4:=mk0 A40
 clear A40
 simp only [Option.some.injEq,Prod.mk.injEq] at H
 obtain⟨rfl,rfl,rfl⟩:=H
 obtain⟨ASz5_0,cSz5_0,HGz5,hgz5,HSz5_0⟩:=HI0.out
 have hcz5_0:=cellS76_0 HGz5
 have hcz5_1:=cellS76_1 HGz5
 have hcz5_2:=cellS76_2 HGz5
 have hfz5_1:=blk_frozen HGz5 1
 have hfz5_2:=blk_frozen HGz5 2
 clear HGz5 hgz5
 go_enter Try.func57,Try.ntmps57
 go_wp2_with (first|((with_reducible refine gate_callee (f:=50) rfl ?_);refine goesL_ (some 16) rfl rfl Try.func50 (by kernel_rfl) rfl #[.pointer (some ⟨g,0,none⟩),.int .i64 (wrap64 ((ji3) + 1))] rfl (by (try simp only [mA,mC,mN]);first|done|(simp only [hji3];rfl)|rfl|(simp only [List.length_drop,List.length_take];rfl)) ?_;(with_reducible refine (spec_l01Cur_pick.calls g s0_0 s0_1 s0_2 (wrap64 ((ji3) + 1)) t225 t226 t227 w0 _ ?side1 ?side2 A4.out).mono ?_);(case side1=>repeat (first|(with_reducible first|exact HI0.out|apply IsS76.alloc|apply IsS76.drewN|apply IsS76.drew|apply IsS76.set_1|apply IsS76.set_2)|exact HI0.out));(case side2=>repeat (first|(with_reducible first|exact HB.out|apply aZ|apply nZ|apply dZ|refine sZ ?_ (IsS76.ge HI0.out))|exact HB.out));rintro e w6 ⟨rfl,hi,hb,hk⟩;refine⟨_,rfl,?_⟩;have n0_:=mk0 (KeepBut.trans (by repeat (first|(with_reducible first|exact HK.out|apply KeepBut.set_|apply keep_drewN|apply keep_drew|apply keep_alloc)|exact HK.out)) hk (.inl rfl));have n1_:=mk0 (hb);have n2_:=mk0 (hi);clear HK HB HI0;have HK:=n0_;have HB:=n1_;have HI0:=n2_;clear n0_ n1_ n2_;(try clear hb);(try clear hb2);(try clear hk);(try clear hi)))
 go_ret
 exact⟨by first|rfl|(simp [errW_none,errW_some] <;> rfl)|(simp only [← hji3];first|rfl|(simp [errW_none,errW_some] <;> rfl))|(simp [*,errW_none,errW_some] <;> rfl),by repeat (first|(with_reducible first|exact HI0.out|apply IsS76.alloc|apply IsS76.drewN|apply IsS76.drew|apply IsS76.set_1|apply IsS76.set_2)|exact HI0.out),by repeat (first|(with_reducible first|exact HB.out|apply aZ|apply nZ|apply dZ|refine sZ ?_ (IsS76.ge HI0.out))|exact HB.out),by repeat (first|(with_reducible first|exact HK.out|apply KeepBut.set_|apply keep_drewN|apply keep_drew|apply keep_alloc)|exact HK.out)⟩

/-! ### spec_l01Cur_wide: function 58 -/
def spec_l01Cur_wide.f (s0_0 : List Int) (s0_1 : Int) (s0_2 : Int) (a1 : Int) : Option (Int × Int × Int) := (spec_l01Cur_pick.f s0_0 s0_1 s0_2 256).bind fun bt228 => ((spec_l01Cur_pick.f s0_0 bt228.2.1 bt228.2.2 256).bind fun bt231 => ((spec_l01Cur_pick.f s0_0 bt231.2.1 bt231.2.2 256).bind fun bt234 => (if a1 = 0 then (none) else (some (Int.tmod (wrap64 ((wrap64 ((wrap64 (65536 * bt228.1)) + (wrap64 (256 * bt231.1)))) + bt234.1)) a1, bt234.2.1, bt234.2.2)))))
set_option maxHeartbeats 8000000 in
set_option maxRecDepth 100000 in
theorem spec_l01Cur_wide.calls (g : Nat) (s0_0 : List Int) (s0_1 : Int) (s0_2 : Int) (a1 : Int) (r1 : Int) (r2 : Int) (r3 : Int) (w0 w : World) (hI : IsS76 w0 w g s0_0 s0_1 s0_2) (hB : Below w0.heap.size w0 w) (h : spec_l01Cur_wide.f s0_0 s0_1 s0_2 a1 = some (r1, r2, r3)) :
  Calls Try.prog 58 #[.pointer (some ⟨g, 0, none⟩), .int .i64 a1] w fun e w' => e = .returned (.int .i64 r1) ∧ IsS76 w0 w' g s0_0 r2 r3 ∧ Below w0.heap.size w0 w' ∧ KeepBut w w' g none := by
 have HI0:=mk0 hI
 have HK:=mk0 (KeepBut.refl w g none)
 have HL:=mk0 hB.size
 clear hI
 have HW0:=mk0 hB.size
 have HB:=mk0 hB
 clear hB
 have H:((spec_l01Cur_pick.f s0_0 s0_1 s0_2 256).bind fun bt228=>((spec_l01Cur_pick.f s0_0 bt228.2.1 bt228.2.2 256).bind fun bt231=>((spec_l01Cur_pick.f s0_0 bt231.2.1 bt231.2.2 256).bind fun bt234=>(if a1 = 0 then (none) else (some (Int.tmod (wrap64 ((wrap64 ((wrap64 (65536 * bt228.1)) + (wrap64 (256 * bt231.1)))) + bt234.1)) a1,bt234.2.1,bt234.2.2)))))) = some (r1,r2,r3):=h
 clear h
 replace H:=Option.bind_eq_some_iff.mp H
 obtain⟨⟨t228,t229,t230⟩,A30,H⟩:=H
 replace H:((spec_l01Cur_pick.f s0_0 t229 t230 256).bind fun bt231=>((spec_l01Cur_pick.f s0_0 bt231.2.1 bt231.2.2 256).bind fun bt234=>(if a1 = 0 then (none) else (some (Int.tmod (wrap64 ((wrap64 ((wrap64 (65536 * t228)) + (wrap64 (256 * bt231.1)))) + bt234.1)) a1,bt234.2.1,bt234.2.2))))) = some (r1,r2,r3):=H
 have A3:=mk0 A30
 clear A30
 replace H:=Option.bind_eq_some_iff.mp H
 obtain⟨⟨t231,t232,t233⟩,A40,H⟩:=H
 replace H:((spec_l01Cur_pick.f s0_0 t232 t233 256).bind fun bt234=>(if a1 = 0 then (none) else (some (Int.tmod (wrap64 ((wrap64 ((wrap64 (65536 * t228)) + (wrap64 (256 * t231)))) + bt234.1)) a1,bt234.2.1,bt234.2.2)))) = some (r1,r2,r3):=H
 have A4:=mk0 A40
 clear A40
 replace H:=Option.bind_eq_some_iff.mp H
 obtain⟨⟨t234,t235,t236⟩,A50,H⟩:=H
 replace H:(if a1 = 0 then (none) else (some (Int.tmod (wrap64 ((wrap64 ((wrap64 (65536 * t228)) + (wrap64 (256 * t231)))) + t234)) a1,t235,t236))) = some (r1,r2,r3):=H
 have A5:=mk0 A50
 clear A50
 by_cases c6:a1 = 0
 ·rw [if_pos c6] at H
  exact absurd H (by simp)
 ·rw [if_neg c6] at H
  have c6b0:(a1 == 0) = false:=beq_eq_false_iff_ne.mpr c6
  have c6b1:(a1 != 0) = true:=bne_iff_ne.mpr c6
  simp only [Option.some.injEq,Prod.mk.injEq] at H
  obtain⟨rfl,rfl,rfl⟩:=H
  go_enter Try.func58,Try.ntmps58
  go_wp2_with (first|((with_reducible refine gate_callee (f:=50) rfl ?_);refine goesL_ (some 6) rfl rfl Try.func50 (by kernel_rfl) rfl #[.pointer (some ⟨g,0,none⟩),.int .i64 256] rfl (by (try simp only [mA,mC,mN]);first|done|rfl|(simp only [List.length_drop,List.length_take];rfl)) ?_;(with_reducible refine (spec_l01Cur_pick.calls g s0_0 s0_1 s0_2 256 t228 t229 t230 w0 _ ?side1 ?side2 A3.out).mono ?_);(case side1=>repeat (first|(with_reducible first|exact HI0.out|apply IsS76.alloc|apply IsS76.drewN|apply IsS76.drew|apply IsS76.set_1|apply IsS76.set_2)|exact HI0.out));(case side2=>repeat (first|(with_reducible first|exact HB.out|apply aZ|apply nZ|apply dZ|refine sZ ?_ (IsS76.ge HI0.out))|exact HB.out));rintro e w7 ⟨rfl,hi,hb,hk⟩;refine⟨_,rfl,?_⟩;have n0_:=mk0 (KeepBut.trans (by repeat (first|(with_reducible first|exact HK.out|apply KeepBut.set_|apply keep_drewN|apply keep_drew|apply keep_alloc)|exact HK.out)) hk (.inl rfl));have n1_:=mk0 (hb);have n2_:=mk0 (hi);clear HK HB HI0;have HK:=n0_;have HB:=n1_;have HI0:=n2_;clear n0_ n1_ n2_;(try clear hb);(try clear hb2);(try clear hk);(try clear hi))|((with_reducible refine gate_callee (f:=50) rfl ?_);refine goesL_ (some 9) rfl rfl Try.func50 (by kernel_rfl) rfl #[.pointer (some ⟨g,0,none⟩),.int .i64 256] rfl (by (try simp only [mA,mC,mN]);first|done|rfl|(simp only [List.length_drop,List.length_take];rfl)) ?_;(with_reducible refine (spec_l01Cur_pick.calls g s0_0 t229 t230 256 t231 t232 t233 w0 _ ?side1 ?side2 A4.out).mono ?_);(case side1=>repeat (first|(with_reducible first|exact HI0.out|apply IsS76.alloc|apply IsS76.drewN|apply IsS76.drew|apply IsS76.set_1|apply IsS76.set_2)|exact HI0.out));(case side2=>repeat (first|(with_reducible first|exact HB.out|apply aZ|apply nZ|apply dZ|refine sZ ?_ (IsS76.ge HI0.out))|exact HB.out));rintro e w8 ⟨rfl,hi,hb,hk⟩;refine⟨_,rfl,?_⟩;have n0_:=mk0 (KeepBut.trans (by repeat (first|(with_reducible first|exact HK.out|apply KeepBut.set_|apply keep_drewN|apply keep_drew|apply keep_alloc)|exact HK.out)) hk (.inl rfl));have n1_:=mk0 (hb);have n2_:=mk0 (hi);clear HK HB HI0;have HK:=n0_;have HB:=n1_;have HI0:=n2_;clear n0_ n1_ n2_;(try clear hb);(try clear hb2);(try clear hk);(try clear hi))|((with_reducible refine gate_callee (f:=50) rfl ?_);refine goesL_ (some 13) rfl rfl Try.func50 (by kernel_rfl) rfl #[.pointer (some ⟨g,0,none⟩),.int .i64 256] rfl (by (try simp only [mA,mC,mN]);first|done|rfl|(simp only [List.length_drop,List.length_take];rfl)) ?_;(with_reducible refine (spec_l01Cur_pick.calls g s0_0 t232 t233 256 t234 t235 t236 w0 _ ?side1 ?side2 A5.out).mono ?_);(case side1=>repeat (first|(with_reducible first|exact HI0.out|apply IsS76.alloc|apply IsS76.drewN|apply IsS76.drew|apply IsS76.set_1|apply IsS76.set_2)|exact HI0.out));(case side2=>repeat (first|(with_reducible first|exact HB.out|apply aZ|apply nZ|apply dZ|refine sZ ?_ (IsS76.ge HI0.out))|exact HB.out));rintro e w9 ⟨rfl,hi,hb,hk⟩;refine⟨_,rfl,?_⟩;have n0_:=mk0 (KeepBut.trans (by repeat (first|(with_reducible first|exact HK.out|apply KeepBut.set_|apply keep_drewN|apply keep_drew|apply keep_alloc)|exact HK.out)) hk (.inl rfl));have n1_:=mk0 (hb);have n2_:=mk0 (hi);clear HK HB HI0;have HK:=n0_;have HB:=n1_;have HI0:=n2_;clear n0_ n1_ n2_;(try clear hb);(try clear hb2);(try clear hk);(try clear hi)))
  go_ret
  exact⟨by first|rfl|(simp [errW_none,errW_some] <;> rfl)|(simp [*,errW_none,errW_some] <;> rfl),by repeat (first|(with_reducible first|exact HI0.out|apply IsS76.alloc|apply IsS76.drewN|apply IsS76.drew|apply IsS76.set_1|apply IsS76.set_2)|exact HI0.out),by repeat (first|(with_reducible first|exact HB.out|apply aZ|apply nZ|apply dZ|refine sZ ?_ (IsS76.ge HI0.out))|exact HB.out),by repeat (first|(with_reducible first|exact HK.out|apply KeepBut.set_|apply keep_drewN|apply keep_drew|apply keep_alloc)|exact HK.out)⟩

/-! ### spec_l01Cur_numbers: function 55 -/
def spec_l01Cur_numbers.l0 : Nat → Int → List Int → Int → List Int → Int → Int → Option (List Int × Int × Int)
 | 0, _, _, _, _, _, _ => none
 | k + 1, x2, x7, x8, x1000, x1001, x1002 => if x8 > 0 then ((spec_l01Cur_wide.f x1000 x1001 x1002 (mx 1 x2)).bind fun bt243 => (if x7.length < 17592186044416 then (spec_l01Cur_numbers.l0 k x2 (x7 ++ [bt243.1]) (wrap64 (x8 - 1)) x1000 bt243.2.1 bt243.2.2) else (none))) else (some (x7, x1001, x1002))
def spec_l01Cur_numbers.f (k : Nat) (s0_0 : List Int) (s0_1 : Int) (s0_2 : Int) (a1 : Int) (a2 : Int) : Option (List Int × Int × Int) := (spec_l01Cur_size.f s0_0 s0_1 s0_2 a1).bind fun bt240 => (spec_l01Cur_numbers.l0 k a2 (([] : List Int)) bt240.1 s0_0 bt240.2.1 bt240.2.2)
theorem spec_l01Cur_numbers.mono_l : ∀ k, (∀ y0 y1 y2 y3 y4 y5, LeO (spec_l01Cur_numbers.l0 k y0 y1 y2 y3 y4 y5) (spec_l01Cur_numbers.l0 (k + 1) y0 y1 y2 y3 y4 y5))
 | 0 => fun _ _ _ _ _ _ r h => by simp [spec_l01Cur_numbers.l0] at h
 | k + 1 => by
  have ih0 := spec_l01Cur_numbers.mono_l k
  ·intro y0 y1 y2 y3 y4 y5
   unfold spec_l01Cur_numbers.l0
   repeat' first
   | (with_reducible exact ih0 _ _ _ _ _ _)
   | (with_reducible exact LeO.refl _)
   | (with_reducible exact LeO.none _)
   | (with_reducible refine LeO.ite ?_ ?_)
   | (with_reducible refine LeO.bind ?_ (fun _ => ?_))
   | exact ih0 _ _ _ _ _ _
   | exact LeO.none _
   | refine LeO.ite ?_ ?_
   | refine LeO.bind ?_ (fun _ => ?_)
theorem spec_l01Cur_numbers.mono : ∀ a0 a1 a2 a3 a4 k, LeO (spec_l01Cur_numbers.f k a0 a1 a2 a3 a4) (spec_l01Cur_numbers.f (k + 1) a0 a1 a2 a3 a4) := by
 intro a0 a1 a2 a3 a4 k
 have ih0 := spec_l01Cur_numbers.mono_l k
 unfold spec_l01Cur_numbers.f
 repeat' first
   | (with_reducible exact ih0 _ _ _ _ _ _)
   | (with_reducible exact LeO.refl _)
   | (with_reducible exact LeO.none _)
   | (with_reducible refine LeO.ite ?_ ?_)
   | (with_reducible refine LeO.bind ?_ (fun _ => ?_))
   | exact ih0 _ _ _ _ _ _
   | exact LeO.none _
   | refine LeO.ite ?_ ?_
   | refine LeO.bind ?_ (fun _ => ?_)
set_option maxHeartbeats 8000000 in
set_option maxRecDepth 100000 in
theorem spec_l01Cur_numbers.calls (k : Nat) (g : Nat) (s0_0 : List Int) (s0_1 : Int) (s0_2 : Int) (a1 : Int) (a2 : Int) (r1 : List Int) (r2 : Int) (r3 : Int) (w0 w : World) (hI : IsS76 w0 w g s0_0 s0_1 s0_2) (hB : Below w0.heap.size w0 w) (h : spec_l01Cur_numbers.f k s0_0 s0_1 s0_2 a1 a2 = some (r1, r2, r3)) :
  Calls Try.prog 55 #[.pointer (some ⟨g, 0, none⟩), .int .i64 a1, .int .i64 a2] w fun e w' => ∃ v0_ : Value, e = .returned (v0_) ∧ Kd.R (Kd.int .i64) 3 w' w.heap.size (fun _ => True) v0_ r1 ∧ IsS76 w0 w' g s0_0 r2 r3 ∧ Below w0.heap.size w0 w' ∧ KeepBut w w' g none := by
 have HI0:=mk0 hI
 have HK:=mk0 (KeepBut.refl w g none)
 have HL:=mk0 hB.size
 clear hI
 have HW0:=mk0 hB.size
 have HB:=mk0 hB
 clear hB
 have H:((spec_l01Cur_size.f s0_0 s0_1 s0_2 a1).bind fun bt240=>(spec_l01Cur_numbers.l0 k a2 (([]:List Int)) bt240.1 s0_0 bt240.2.1 bt240.2.2)) = some (r1,r2,r3):=h
 clear h
 obtain⟨y237,hy237⟩:∃ y_:List Int,y_ = (([]:List Int)):=⟨_,rfl⟩
 replace H:((spec_l01Cur_size.f s0_0 s0_1 s0_2 a1).bind fun bt240=>(spec_l01Cur_numbers.l0 k a2 y237 bt240.1 s0_0 bt240.2.1 bt240.2.2)) = some (r1,r2,r3):=by first|(rw [hy237];with_reducible exact H)|(have H2_:=(Option.bind_some _ _).symm.trans H;rw [hy237];with_reducible exact H2_)|(have H2_:=(Option.bind_some _ _).symm.trans H;with_reducible exact H2_)|with_reducible exact H|(rw [hy237];exact H)|exact H
 have Ny237:=mk0 hy237
 clear hy237
 replace H:=Option.bind_eq_some_iff.mp H
 obtain⟨⟨t240,t241,t242⟩,A40,H⟩:=H
 replace H:(spec_l01Cur_numbers.l0 k a2 y237 t240 s0_0 t241 t242) = some (r1,r2,r3):=H
 have A4:=mk0 A40
 clear A40
 have H':=mk0 H
 clear H
 go_enter Try.func55,Try.ntmps55
 go_wp2_with (first|((with_reducible refine gate_dst (N:=9) rfl ?_);refine Kd.R_lit (Kd.int .i64) _ 3 ?hg (N:=9) ?hd (xs:=([]:List Int)) (inner:=[]) (ok:=fun _=>True) (okp:=fun _=>True) ?hr ?hp (fun _ hk=>hk) trivial (Below.refl _ _) (Nat.le_refl _) (by simp) ?_;(case hd=>rfl);(case hg=>rfl);(case hr=>first|(go_simp;done)|(go_simp;rfl));(case hp=>exact (Reps.none _ _));intro v238 w5 ho6 hb hg_ hnew_;clear hg_ hnew_;(first|rw [← Ny237.out] at ho6|(simp only [Int.reduceToNat] at ho6;rw [← Ny237.out] at ho6));have n0_:=mk0 (Kd.R_lower ho6 (keep_size (w:=w) (g:=g) (row:=none) (by repeat (first|(with_reducible first|exact HK.out|apply KeepBut.set_|apply keep_drewN|apply keep_drew|apply keep_alloc)|exact HK.out))));have n1_:=mk0 (IsS76.below (by repeat (first|(with_reducible first|exact HI0.out|apply IsS76.alloc|apply IsS76.drewN|apply IsS76.drew|apply IsS76.set_1|apply IsS76.set_2)|exact HI0.out)) hb);have n2_:=mk0 (KeepBut.trans (by repeat (first|(with_reducible first|exact HK.out|apply KeepBut.set_|apply keep_drewN|apply keep_drew|apply keep_alloc)|exact HK.out)) (KeepBut.of_below hb g none) (.inl rfl));have n3_:=mk0 (below_step (by repeat (first|(with_reducible first|exact HB.out|apply aZ|apply nZ|apply dZ|refine sZ ?_ (IsS76.ge HI0.out))|exact HB.out)) hb);clear HI0 HK HB;have HO239:=n0_;have HI0:=n1_;have HK:=n2_;have HB:=n3_;clear n0_ n1_ n2_ n3_ hb ho6)|((with_reducible refine gate_callee (f:=57) rfl ?_);refine goesL_ (some 12) rfl rfl Try.func57 (by kernel_rfl) rfl #[.pointer (some ⟨g,0,none⟩),.int .i64 a1] rfl (by (try simp only [mA,mC,mN]);first|done|rfl|(simp only [List.length_drop,List.length_take];rfl)) ?_;(with_reducible refine (spec_l01Cur_size.calls g s0_0 s0_1 s0_2 a1 t240 t241 t242 w0 _ ?side1 ?side2 A4.out).mono ?_);(case side1=>repeat (first|(with_reducible first|exact HI0.out|apply IsS76.alloc|apply IsS76.drewN|apply IsS76.drew|apply IsS76.set_1|apply IsS76.set_2)|exact HI0.out));(case side2=>repeat (first|(with_reducible first|exact HB.out|apply aZ|apply nZ|apply dZ|refine sZ ?_ (IsS76.ge HI0.out))|exact HB.out));rintro e w7 ⟨rfl,hi,hb,hk⟩;refine⟨_,rfl,?_⟩;have n0_:=mk0 (Kd.R_mono (Kd.R_keep (IsS76.apart (show IsS76 w0 _ g s0_0 s0_1 s0_2 from by repeat (first|(with_reducible first|exact HI0.out|apply IsS76.alloc|apply IsS76.drewN|apply IsS76.drew|apply IsS76.set_1|apply IsS76.set_2)|exact HI0.out)) (by (with_reducible repeat (first|apply aR|apply nR|apply dR));exact HO239.out) (by decide)) hk (fun _ h=>h.2)) (fun _ h=>h.1));have n1_:=mk0 (KeepBut.trans (by repeat (first|(with_reducible first|exact HK.out|apply KeepBut.set_|apply keep_drewN|apply keep_drew|apply keep_alloc)|exact HK.out)) hk (.inl rfl));have n2_:=mk0 (hb);have n3_:=mk0 (hi);clear HO239 HK HB HI0;have HO239:=n0_;have HK:=n1_;have HB:=n2_;have HI0:=n3_;clear n0_ n1_ n2_ n3_;(try clear hb);(try clear hb2);(try clear hk);(try clear hi)))
 go_loopg [7,8] k (fun kq v7 v8 w'=>∃ (x7_1:List Int) (x8_1:Int) (x1001_1:Int) (x1002_1:Int),v8 = .int .i64 x8_1 ∧ Aside0 (spec_l01Cur_numbers.l0 kq a2 x7_1 x8_1 s0_0 x1001_1 x1002_1 = some (r1,r2,r3)) ∧ Aside0 (kq ≤ k) ∧ Aside0 (Kd.R (Kd.int .i64) 3 w' w.heap.size (fun _=>True) v7 x7_1) ∧ Aside0 (IsS76 w0 w' g s0_0 x1001_1 x1002_1) ∧ Aside0 (KeepBut w w' g none) ∧ Aside0 (Below w0.heap.size w0 w'))
 case atStart=>exact⟨(y237),(t240),(t241),(t242),(by first|rfl|(simp;done)|(simp [*];done)),H',⟨Nat.le_refl _⟩,⟨by (with_reducible repeat (first|apply aR|apply nR|apply dR));exact HO239.out⟩,⟨by repeat (first|(with_reducible first|exact HI0.out|apply IsS76.alloc|apply IsS76.drewN|apply IsS76.drew|apply IsS76.set_1|apply IsS76.set_2)|exact HI0.out)⟩,⟨by repeat (first|(with_reducible first|exact HK.out|apply KeepBut.set_|apply keep_drewN|apply keep_drew|apply keep_alloc)|exact HK.out)⟩,⟨by repeat (first|(with_reducible first|exact HB.out|apply aZ|apply nZ|apply dZ|refine sZ ?_ (IsS76.ge HI0.out))|exact HB.out)⟩⟩
 case round =>
  clear H'
  try clear p2
  try clear c5
  obtain⟨x7_1,x8_1,x1001_1,x1002_1,rfl,HA,HK1,HO_7,HI0,HK,HB⟩:=hrel
  cases gk with
  | zero=>exact absurd HA.out (by simp [spec_l01Cur_numbers.l0])
  | succ k1 =>
   have H:=HA.out
   clear HA
   simp only [spec_l01Cur_numbers.l0] at H
   by_cases c8:x8_1 > 0
   ·rw [if_pos c8] at H
    have c8b0:decide (0 < x8_1) = true:=decide_eq_true c8
    clear c8
    obtain⟨ji9,hji9⟩:∃ j_:Int,(mx 1 a2) = j_:=⟨_,rfl⟩
    replace H:((spec_l01Cur_wide.f s0_0 x1001_1 x1002_1 (ji9)).bind fun bt243=>(if x7_1.length < 17592186044416 then (spec_l01Cur_numbers.l0 k1 a2 (x7_1 ++ [bt243.1]) (wrap64 (x8_1 - 1)) s0_0 bt243.2.1 bt243.2.2) else (none))) = some (r1,r2,r3):=by first|(rw [hji9] at H;exact H)|(simp only [hji9] at H ⊢;exact H)
    have hji9_:(if 1 < a2 then a2 else 1) = ji9:=hji9
    replace H:=Option.bind_eq_some_iff.mp H
    obtain⟨⟨t243,t244,t245⟩,A100,H⟩:=H
    replace H:(if x7_1.length < 17592186044416 then (spec_l01Cur_numbers.l0 k1 a2 (x7_1 ++ [t243]) (wrap64 (x8_1 - 1)) s0_0 t244 t245) else (none)) = some (r1,r2,r3):=H
    have A10:=mk0 A100
    clear A100
    by_cases c11:x7_1.length < 17592186044416
    ·rw [if_pos c11] at H
     have LMc11:=mk0 c11
     clear c11
     obtain⟨y246,hy246⟩:∃ y_:List Int,y_ = (x7_1 ++ [t243]):=⟨_,rfl⟩
     replace H:(spec_l01Cur_numbers.l0 k1 a2 y246 (wrap64 (x8_1 - 1)) s0_0 t244 t245) = some (r1,r2,r3):=by first|(rw [hy246];with_reducible exact H)|(have H2_:=(Option.bind_some _ _).symm.trans H;rw [hy246];with_reducible exact H2_)|(have H2_:=(Option.bind_some _ _).symm.trans H;with_reducible exact H2_)|with_reducible exact H|(rw [hy246];exact H)|exact H
     have Ny246:=mk0 hy246
     clear hy246
     have H':=mk0 H
     clear H
     go_wp2_with (first|((with_reducible refine gate_callee (f:=58) rfl ?_);refine goesL_ (some 21) rfl rfl Try.func58 (by kernel_rfl) rfl #[.pointer (some ⟨g,0,none⟩),.int .i64 ji9] rfl (by (try simp only [mA,mC,mN]);first|done|(simp only [hji9];rfl)|rfl|(simp only [List.length_drop,List.length_take];rfl)) ?_;(with_reducible refine (spec_l01Cur_wide.calls g s0_0 x1001_1 x1002_1 ji9 t243 t244 t245 w0 _ ?side1 ?side2 A10.out).mono ?_);(case side1=>repeat (first|(with_reducible first|exact HI0.out|apply IsS76.alloc|apply IsS76.drewN|apply IsS76.drew|apply IsS76.set_1|apply IsS76.set_2)|exact HI0.out));(case side2=>repeat (first|(with_reducible first|exact HB.out|apply aZ|apply nZ|apply dZ|refine sZ ?_ (IsS76.ge HI0.out))|exact HB.out));rintro e w12 ⟨rfl,hi,hb,hk⟩;refine⟨_,rfl,?_⟩;have n0_:=mk0 (Kd.R_mono (Kd.R_keep (IsS76.apart (show IsS76 w0 _ g s0_0 x1001_1 x1002_1 from by repeat (first|(with_reducible first|exact HI0.out|apply IsS76.alloc|apply IsS76.drewN|apply IsS76.drew|apply IsS76.set_1|apply IsS76.set_2)|exact HI0.out)) (by (with_reducible repeat (first|apply aR|apply nR|apply dR));exact HO_7.out) (by decide)) hk (fun _ h=>h.2)) (fun _ h=>h.1));have n1_:=mk0 (KeepBut.trans (by repeat (first|(with_reducible first|exact HK.out|apply KeepBut.set_|apply keep_drewN|apply keep_drew|apply keep_alloc)|exact HK.out)) hk (.inl rfl));have n2_:=mk0 (hb);have n3_:=mk0 (hi);clear HO_7 HK HB HI0;have HO_7:=n0_;have HK:=n1_;have HB:=n2_;have HI0:=n3_;clear n0_ n1_ n2_ n3_;(try clear hb);(try clear hb2);(try clear hk);(try clear hi))|((with_reducible refine gate_builtin (b:=.append) (xs:=#[.tmp 17,.tmp 22]) rfl ?_);at_builtin;refine Kd.R_append (Kd.int .i64) w.heap.size rfl (.tmp 17) (.tmp 22) 22 3 (.int .i64 0) 8 rfl Try.underlying22 info3 rfl (by decide) (by omega) u7 x7_1 t243 [.int .i64 t243] (fun _=>True) (fun _=>False) rfl rfl ?aP (fun _ hk=>hk.elim) ?aF ?aO (Below.refl _ _) ?aS ?aL ?_;(case aP=>exact rfl);(case aF=>exact (fun _ _=>trivial));(case aO=>exact (by (with_reducible repeat (first|apply aR|apply nR|apply dR));exact HO_7.out));(case aS=>exact (keep_size (w:=w) (g:=g) (row:=none) (by repeat (first|(with_reducible first|exact HK.out|apply KeepBut.set_|apply keep_drewN|apply keep_drew|apply keep_alloc)|exact HK.out))));(case aL=>have:=LMc11.out;omega);intro v247 w13 ho hb hg hat;rw [← Ny246.out] at ho;have n0_:=mk0 (IsS76.grown (by repeat (first|(with_reducible first|exact HI0.out|apply IsS76.alloc|apply IsS76.drewN|apply IsS76.drew|apply IsS76.set_1|apply IsS76.set_2)|exact HI0.out)) hg (IsS76.own_ne HI0.out HO_7.out (by decide)));have n1_:=mk0 (below_weaken (by repeat (first|(with_reducible first|exact HB.out|apply aZ|apply nZ|apply dZ|refine sZ ?_ (IsS76.ge HI0.out))|exact HB.out)) HL.out hb);have n2_:=mk0 (KeepBut.trans (by repeat (first|(with_reducible first|exact HK.out|apply KeepBut.set_|apply keep_drewN|apply keep_drew|apply keep_alloc)|exact HK.out)) (KeepBut.of_grown hg g) (Kd.R_base2 HO_7.out));have n3_:=mk0 (ho);clear HI0 HB HK HO_7;have HI0:=n0_;have HB:=n1_;have HK:=n2_;have HO248:=n3_;clear n0_ n1_ n2_ n3_ ho hb hg hat))
     go_roundg k1
     case measure=>have:=HK1.out;omega
     case rel=>exact⟨(y246),(wrap64 (x8_1 - 1)),(t244),(t245),(by first|rfl|(simp;done)|(simp [*];done)),H',⟨by have:=HK1.out;omega⟩,⟨by (with_reducible repeat (first|apply aR|apply nR|apply dR));exact HO248.out⟩,⟨by repeat (first|(with_reducible first|exact HI0.out|apply IsS76.alloc|apply IsS76.drewN|apply IsS76.drew|apply IsS76.set_1|apply IsS76.set_2)|exact HI0.out)⟩,⟨by repeat (first|(with_reducible first|exact HK.out|apply KeepBut.set_|apply keep_drewN|apply keep_drew|apply keep_alloc)|exact HK.out)⟩,⟨by repeat (first|(with_reducible first|exact HB.out|apply aZ|apply nZ|apply dZ|refine sZ ?_ (IsS76.ge HI0.out))|exact HB.out)⟩⟩
    ·rw [if_neg c11] at H
     exact absurd H (by simp)
   ·rw [if_neg c8] at H
    have c8b0:decide (0 < x8_1) = false:=decide_eq_false c8
    clear c8
    simp only [Option.some.injEq,Prod.mk.injEq] at H
    obtain⟨rfl,rfl,rfl⟩:=H
    go_wp2
    go_ret
    exact⟨_,by first|rfl|(simp [errW_none,errW_some] <;> rfl)|(simp [*,errW_none,errW_some] <;> rfl),by (with_reducible repeat (first|apply aR|apply nR|apply dR));exact HO_7.out,by repeat (first|(with_reducible first|exact HI0.out|apply IsS76.alloc|apply IsS76.drewN|apply IsS76.drew|apply IsS76.set_1|apply IsS76.set_2)|exact HI0.out),by repeat (first|(with_reducible first|exact HB.out|apply aZ|apply nZ|apply dZ|refine sZ ?_ (IsS76.ge HI0.out))|exact HB.out),by repeat (first|(with_reducible first|exact HK.out|apply KeepBut.set_|apply keep_drewN|apply keep_drew|apply keep_alloc)|exact HK.out)⟩

/-! ### spec_l01Cur_once: function 56 -/
def spec_l01Cur_once.f (s0_0 : List Int) (s0_1 : Int) (s0_2 : Int) (a1 : Int) : Option (Bool × Int × Int) := (spec_l01Cur_pick.f s0_0 s0_1 s0_2 a1).bind fun bt249 => (some ((bt249.1 == (wrap64 (a1 - 1))), bt249.2.1, bt249.2.2))
set_option maxHeartbeats 8000000 in
set_option maxRecDepth 100000 in
theorem spec_l01Cur_once.calls (g : Nat) (s0_0 : List Int) (s0_1 : Int) (s0_2 : Int) (a1 : Int) (r1 : Bool) (r2 : Int) (r3 : Int) (w0 w : World) (hI : IsS76 w0 w g s0_0 s0_1 s0_2) (hB : Below w0.heap.size w0 w) (h : spec_l01Cur_once.f s0_0 s0_1 s0_2 a1 = some (r1, r2, r3)) :
  Calls Try.prog 56 #[.pointer (some ⟨g, 0, none⟩), .int .i64 a1] w fun e w' => e = .returned (.bool r1) ∧ IsS76 w0 w' g s0_0 r2 r3 ∧ Below w0.heap.size w0 w' ∧ KeepBut w w' g none := by
 have HI0:=mk0 hI
 have HK:=mk0 (KeepBut.refl w g none)
 have HL:=mk0 hB.size
 clear hI
 have HW0:=mk0 hB.size
 have HB:=mk0 hB
 clear hB
 have H:((spec_l01Cur_pick.f s0_0 s0_1 s0_2 a1).bind fun bt249=>(some ((bt249.1 == (wrap64 (a1 - 1))),bt249.2.1,bt249.2.2))) = some (r1,r2,r3):=h
 clear h
 replace H:=Option.bind_eq_some_iff.mp H
 obtain⟨⟨t249,t250,t251⟩,A30,H⟩:=H
 replace H:(some ((t249 == (wrap64 (a1 - 1))),t250,t251)) = some (r1,r2,r3):=H
 have A3:=mk0 A30
 clear A30
 simp only [Option.some.injEq,Prod.mk.injEq] at H
 obtain⟨rfl,rfl,rfl⟩:=H
 go_enter Try.func56,Try.ntmps56
 go_wp2_with (first|((with_reducible refine gate_callee (f:=50) rfl ?_);refine goesL_ (some 7) rfl rfl Try.func50 (by kernel_rfl) rfl #[.pointer (some ⟨g,0,none⟩),.int .i64 a1] rfl (by (try simp only [mA,mC,mN]);first|done|rfl|(simp only [List.length_drop,List.length_take];rfl)) ?_;(with_reducible refine (spec_l01Cur_pick.calls g s0_0 s0_1 s0_2 a1 t249 t250 t251 w0 _ ?side1 ?side2 A3.out).mono ?_);(case side1=>repeat (first|(with_reducible first|exact HI0.out|apply IsS76.alloc|apply IsS76.drewN|apply IsS76.drew|apply IsS76.set_1|apply IsS76.set_2)|exact HI0.out));(case side2=>repeat (first|(with_reducible first|exact HB.out|apply aZ|apply nZ|apply dZ|refine sZ ?_ (IsS76.ge HI0.out))|exact HB.out));rintro e w4 ⟨rfl,hi,hb,hk⟩;refine⟨_,rfl,?_⟩;have n0_:=mk0 (KeepBut.trans (by repeat (first|(with_reducible first|exact HK.out|apply KeepBut.set_|apply keep_drewN|apply keep_drew|apply keep_alloc)|exact HK.out)) hk (.inl rfl));have n1_:=mk0 (hb);have n2_:=mk0 (hi);clear HK HB HI0;have HK:=n0_;have HB:=n1_;have HI0:=n2_;clear n0_ n1_ n2_;(try clear hb);(try clear hb2);(try clear hk);(try clear hi)))
 go_ret
 exact⟨by first|rfl|(simp [errW_none,errW_some] <;> rfl)|(simp [*,errW_none,errW_some] <;> rfl),by repeat (first|(with_reducible first|exact HI0.out|apply IsS76.alloc|apply IsS76.drewN|apply IsS76.drew|apply IsS76.set_1|apply IsS76.set_2)|exact HI0.out),by repeat (first|(with_reducible first|exact HB.out|apply aZ|apply nZ|apply dZ|refine sZ ?_ (IsS76.ge HI0.out))|exact HB.out),by repeat (first|(with_reducible first|exact HK.out|apply KeepBut.set_|apply keep_drewN|apply keep_drew|apply keep_alloc)|exact HK.out)⟩

/-! ### spec_l01Cur_rows: function 49 -/
mutual
def spec_l01Cur_rows.l0 : Nat → List Int → List Int → Int → List Int → Int → Int → Option (List Int × List Int × Int × Int)
 | 0, _, _, _, _, _, _ => none
 | k + 1, x4, x5, x6, x1000, x1001, x1002 => if x6 < (x4.length : Int) then ((spec_l01Cur_once.f x1000 x1001 x1002 5).bind fun bt267 => (if bt267.1 = true then ((spec_l01Cur_pick.f x1000 bt267.2.1 bt267.2.2 4).bind fun bt270 => (if x5.length < 17592186044416 then (spec_l01Cur_rows.j1 k x4 (x5 ++ [bt270.1]) x6 x1000 bt270.2.1 bt270.2.2) else (none))) else (spec_l01Cur_rows.j1 k x4 x5 x6 x1000 bt267.2.1 bt267.2.2))) else ((spec_l01Cur_once.f x1000 x1001 x1002 5).bind fun bt283 => (if bt283.1 = true then ((spec_l01Cur_numbers.f k x1000 bt283.2.1 bt283.2.2 14 4).bind fun bt286 => (spec_l01Cur_rows.j2 k x4 bt286.1 x1000 bt286.2.1 bt286.2.2)) else (spec_l01Cur_rows.j2 k x4 x5 x1000 bt283.2.1 bt283.2.2)))
def spec_l01Cur_rows.j1 : Nat → List Int → List Int → Int → List Int → Int → Int → Option (List Int × List Int × Int × Int)
 | 0, _, _, _, _, _, _ => none
 | k + 1, x4, x5, x6, x1000, x1001, x1002 => (spec_l01Cur_once.f x1000 x1001 x1002 5).bind fun bt276 => (if bt276.1 = true then (spec_l01Cur_rows.l0 k x4 x5 (wrap64 (x6 + 1)) x1000 bt276.2.1 bt276.2.2) else (if 0 ≤ x6 then (if x6 < (x4.length : Int) then (if x5.length < 17592186044416 then (spec_l01Cur_rows.l0 k x4 (x5 ++ [rd x4 x6]) (wrap64 (x6 + 1)) x1000 bt276.2.1 bt276.2.2) else (none)) else (none)) else (none)))
def spec_l01Cur_rows.j2 : Nat → List Int → List Int → List Int → Int → Int → Option (List Int × List Int × Int × Int)
 | 0, _, _, _, _, _ => none
 | k + 1, x4, x5, x1000, x1001, x1002 => (spec_l01Cur_once.f x1000 x1001 x1002 60).bind fun bt291 => (if bt291.1 = true then ((spec_l01Cur_pick.f x1000 bt291.2.1 bt291.2.2 2).bind fun bt294 => (if 0 ≤ (wrap64 (301 + bt294.1)) then (if (wrap64 (301 + bt294.1) : Int).toNat ≤ 35184372088832 then (some ((List.replicate (wrap64 (301 + bt294.1) : Int).toNat 0), x5, bt294.2.1, bt294.2.2)) else (none)) else (none))) else (some (x4, x5, bt291.2.1, bt291.2.2)))
end
def spec_l01Cur_rows.f (k : Nat) (s0_0 : List Int) (s0_1 : Int) (s0_2 : Int) : Option (List Int × List Int × Int × Int) := (some (([2, 4, 30] : List Int) : List Int)).bind fun y252 => ((spec_l01Cur_pick.f s0_0 s0_1 s0_2 3).bind fun bt255 => (if 0 ≤ bt255.1 then (if bt255.1 < (y252.length : Int) then ((spec_l01Cur_numbers.f k s0_0 bt255.2.1 bt255.2.2 14 (rd y252 bt255.1)).bind fun bt259 => (spec_l01Cur_rows.l0 k bt259.1 (([] : List Int)) 0 s0_0 bt259.2.1 bt259.2.2)) else (none)) else (none)))
theorem spec_l01Cur_rows.mono_l : ∀ k, (∀ y0 y1 y2 y3 y4 y5, LeO (spec_l01Cur_rows.l0 k y0 y1 y2 y3 y4 y5) (spec_l01Cur_rows.l0 (k + 1) y0 y1 y2 y3 y4 y5)) ∧ (∀ y0 y1 y2 y3 y4 y5, LeO (spec_l01Cur_rows.j1 k y0 y1 y2 y3 y4 y5) (spec_l01Cur_rows.j1 (k + 1) y0 y1 y2 y3 y4 y5)) ∧ (∀ y0 y1 y2 y3 y4, LeO (spec_l01Cur_rows.j2 k y0 y1 y2 y3 y4) (spec_l01Cur_rows.j2 (k + 1) y0 y1 y2 y3 y4))
 | 0 => ⟨fun _ _ _ _ _ _ r h => by simp [spec_l01Cur_rows.l0] at h, fun _ _ _ _ _ _ r h => by simp [spec_l01Cur_rows.j1] at h, fun _ _ _ _ _ r h => by simp [spec_l01Cur_rows.j2] at h⟩
 | k + 1 => by
  obtain ⟨ih0, ih1, ih2⟩ := spec_l01Cur_rows.mono_l k
  refine ⟨?_, ?_, ?_⟩
  ·intro y0 y1 y2 y3 y4 y5
   unfold spec_l01Cur_rows.l0
   repeat' first
   | (with_reducible exact ih0 _ _ _ _ _ _)
   | (with_reducible exact ih1 _ _ _ _ _ _)
   | (with_reducible exact ih2 _ _ _ _ _)
   | (with_reducible exact spec_l01Cur_numbers.mono _ _ _ _ _ _)
   | (with_reducible exact LeO.refl _)
   | (with_reducible exact LeO.none _)
   | (with_reducible refine LeO.ite ?_ ?_)
   | (with_reducible refine LeO.bind ?_ (fun _ => ?_))
   | exact ih0 _ _ _ _ _ _
   | exact ih1 _ _ _ _ _ _
   | exact ih2 _ _ _ _ _
   | exact spec_l01Cur_numbers.mono _ _ _ _ _ _
   | exact LeO.none _
   | refine LeO.ite ?_ ?_
   | refine LeO.bind ?_ (fun _ => ?_)
  ·intro y0 y1 y2 y3 y4 y5
   unfold spec_l01Cur_rows.j1
   repeat' first
   | (with_reducible exact ih0 _ _ _ _ _ _)
   | (with_reducible exact ih1 _ _ _ _ _ _)
   | (with_reducible exact ih2 _ _ _ _ _)
   | (with_reducible exact spec_l01Cur_numbers.mono _ _ _ _ _ _)
   | (with_reducible exact LeO.refl _)
   | (with_reducible exact LeO.none _)
   | (with_reducible refine LeO.ite ?_ ?_)
   | (with_reducible refine LeO.bind ?_ (fun _ => ?_))
   | exact ih0 _ _ _ _ _ _
   | exact ih1 _ _ _ _ _ _
   | exact ih2 _ _ _ _ _
   | exact spec_l01Cur_numbers.mono _ _ _ _ _ _
   | exact LeO.none _
   | refine LeO.ite ?_ ?_
   | refine LeO.bind ?_ (fun _ => ?_)
  ·intro y0 y1 y2 y3 y4
   unfold spec_l01Cur_rows.j2
   repeat' first
   | (with_reducible exact ih0 _ _ _ _ _ _)
   | (with_reducible exact ih1 _ _ _ _ _ _)
   | (with_reducible exact ih2 _ _ _ _ _)
   | (with_reducible exact spec_l01Cur_numbers.mono _ _ _ _ _ _)
   | (with_reducible exact LeO.refl _)
   | (with_reducible exact LeO.none _)
   | (with_reducible refine LeO.ite ?_ ?_)
   | (with_reducible refine LeO.bind ?_ (fun _ => ?_))
   | exact ih0 _ _ _ _ _ _
   | exact ih1 _ _ _ _ _ _
   | exact ih2 _ _ _ _ _
   | exact spec_l01Cur_numbers.mono _ _ _ _ _ _
   | exact LeO.none _
   | refine LeO.ite ?_ ?_
   | refine LeO.bind ?_ (fun _ => ?_)
theorem spec_l01Cur_rows.mono : ∀ a0 a1 a2 k, LeO (spec_l01Cur_rows.f k a0 a1 a2) (spec_l01Cur_rows.f (k + 1) a0 a1 a2) := by
 intro a0 a1 a2 k
 obtain ⟨ih0, ih1, ih2⟩ := spec_l01Cur_rows.mono_l k
 unfold spec_l01Cur_rows.f
 repeat' first
   | (with_reducible exact ih0 _ _ _ _ _ _)
   | (with_reducible exact ih1 _ _ _ _ _ _)
   | (with_reducible exact ih2 _ _ _ _ _)
   | (with_reducible exact spec_l01Cur_numbers.mono _ _ _ _ _ _)
   | (with_reducible exact LeO.refl _)
   | (with_reducible exact LeO.none _)
   | (with_reducible refine LeO.ite ?_ ?_)
   | (with_reducible refine LeO.bind ?_ (fun _ => ?_))
   | exact ih0 _ _ _ _ _ _
   | exact ih1 _ _ _ _ _ _
   | exact ih2 _ _ _ _ _
   | exact spec_l01Cur_numbers.mono _ _ _ _ _ _
   | exact LeO.none _
   | refine LeO.ite ?_ ?_
   | refine LeO.bind ?_ (fun _ => ?_)
set_option maxHeartbeats 8000000 in
set_option maxRecDepth 100000 in
theorem spec_l01Cur_rows.calls (k : Nat) (g : Nat) (s0_0 : List Int) (s0_1 : Int) (s0_2 : Int) (r1 : List Int) (r2 : List Int) (r3 : Int) (r4 : Int) (w0 w : World) (hI : IsS76 w0 w g s0_0 s0_1 s0_2) (hB : Below w0.heap.size w0 w) (h : spec_l01Cur_rows.f k s0_0 s0_1 s0_2 = some (r1, r2, r3, r4)) :
  Calls Try.prog 49 #[.pointer (some ⟨g, 0, none⟩)] w fun e w' => ∃ v0_ v1_ : Value, e = .returned (.tuple #[v0_, v1_]) ∧ Kd.R (Kd.int .i64) 3 w' w.heap.size (fun k_ => some k_ ≠ (v1_ : Value).ownBlock) v0_ r1 ∧ Kd.R (Kd.int .i64) 3 w' w.heap.size (fun k_ => some k_ ≠ (v0_ : Value).ownBlock) v1_ r2 ∧ IsS76 w0 w' g s0_0 r3 r4 ∧ Below w0.heap.size w0 w' ∧ KeepBut w w' g none := by
 have HI0:=mk0 hI
 have HK:=mk0 (KeepBut.refl w g none)
 have HL:=mk0 hB.size
 clear hI
 have HW0:=mk0 hB.size
 have HB:=mk0 hB
 clear hB
 have H:((some (([2,4,30]:List Int):List Int)).bind fun y252=>((spec_l01Cur_pick.f s0_0 s0_1 s0_2 3).bind fun bt255=>(if 0 ≤ bt255.1 then (if bt255.1 < (y252.length:Int) then ((spec_l01Cur_numbers.f k s0_0 bt255.2.1 bt255.2.2 14 (rd y252 bt255.1)).bind fun bt259=>(spec_l01Cur_rows.l0 k bt259.1 (([]:List Int)) 0 s0_0 bt259.2.1 bt259.2.2)) else (none)) else (none)))) = some (r1,r2,r3,r4):=h
 clear h
 obtain⟨y252,hy252⟩:∃ y_:List Int,y_ = (([2,4,30]:List Int)):=⟨_,rfl⟩
 replace H:((spec_l01Cur_pick.f s0_0 s0_1 s0_2 3).bind fun bt255=>(if 0 ≤ bt255.1 then (if bt255.1 < (y252.length:Int) then ((spec_l01Cur_numbers.f k s0_0 bt255.2.1 bt255.2.2 14 (rd y252 bt255.1)).bind fun bt259=>(spec_l01Cur_rows.l0 k bt259.1 (([]:List Int)) 0 s0_0 bt259.2.1 bt259.2.2)) else (none)) else (none))) = some (r1,r2,r3,r4):=by first|(rw [hy252];with_reducible exact H)|(have H2_:=(Option.bind_some _ _).symm.trans H;rw [hy252];with_reducible exact H2_)|(have H2_:=(Option.bind_some _ _).symm.trans H;with_reducible exact H2_)|with_reducible exact H|(rw [hy252];exact H)|exact H
 have Ny252:=mk0 hy252
 clear hy252
 replace H:=Option.bind_eq_some_iff.mp H
 obtain⟨⟨t255,t256,t257⟩,A20,H⟩:=H
 replace H:(if 0 ≤ t255 then (if t255 < (y252.length:Int) then ((spec_l01Cur_numbers.f k s0_0 t256 t257 14 (rd y252 t255)).bind fun bt259=>(spec_l01Cur_rows.l0 k bt259.1 (([]:List Int)) 0 s0_0 bt259.2.1 bt259.2.2)) else (none)) else (none)) = some (r1,r2,r3,r4):=H
 have A2:=mk0 A20
 clear A20
 by_cases c3:0 ≤ t255
 rotate_left
 ·rw [if_neg c3] at H
  exact absurd H (by simp)

 rw [if_pos c3] at H
 have c3b0:decide (0 ≤ t255) = true:=decide_eq_true c3
 clear c3
 by_cases c4:t255 < (y252.length:Int)
 rotate_left
 ·rw [if_neg c4] at H
  exact absurd H (by simp)
 rw [if_pos c4] at H
 have c4b0:decide (t255 < (y252.length:Int)) = true:=decide_eq_true c4
 clear c4
 replace H:=Option.bind_eq_some_iff.mp H
 obtain⟨⟨t259,t262,t263⟩,A50,H⟩:=H
 replace H:(spec_l01Cur_rows.l0 k t259 (([]:List Int)) 0 s0_0 t262 t263) = some (r1,r2,r3,r4):=H
 have A5:=mk0 A50
 clear A50
 obtain⟨y264,hy264⟩:∃ y_:List Int,y_ = (([]:List Int)):=⟨_,rfl⟩
 replace H:(spec_l01Cur_rows.l0 k t259 y264 0 s0_0 t262 t263) = some (r1,r2,r3,r4):=by first|(rw [hy264];with_reducible exact H)|(have H2_:=(Option.bind_some _ _).symm.trans H;rw [hy264];with_reducible exact H2_)|(have H2_:=(Option.bind_some _ _).symm.trans H;with_reducible exact H2_)|with_reducible exact H|(rw [hy264];exact H)|exact H
 have Ny264:=mk0 hy264
 clear hy264
 have H':=mk0 H
 clear H
 go_enter Try.func49,Try.ntmps49
 go_wp2_with (first|((with_reducible refine gate_dst (N:=8) rfl ?_);refine Kd.R_lit (Kd.int .i64) _ 3 ?hg (N:=8) ?hd (xs:=([2,4,30]:List Int)) (inner:=[.int .i64 2,.int .i64 4,.int .i64 30]) (ok:=fun _=>True) (okp:=fun _=>True) ?hr ?hp (fun _ hk=>hk) trivial (Below.refl _ _) (Nat.le_refl _) (by simp) ?_;(case hd=>rfl);(case hg=>rfl);(case hr=>first|(go_simp;done)|(go_simp;rfl));(case hp=>exact (Reps.one (show Kd.M (Kd.int .i64) _ _ _ 2 [.int .i64 2] from rfl) (Reps.one (show Kd.M (Kd.int .i64) _ _ _ 4 [.int .i64 4] from rfl) (Reps.one (show Kd.M (Kd.int .i64) _ _ _ 30 [.int .i64 30] from rfl) (Reps.none _ _)))));intro v253 w6 ho7 hb hg_ hnew_;clear hg_ hnew_;(first|rw [← Ny252.out] at ho7|(simp only [Int.reduceToNat] at ho7;rw [← Ny252.out] at ho7));have n0_:=mk0 (Kd.R_lower ho7 (keep_size (w:=w) (g:=g) (row:=none) (by repeat (first|(with_reducible first|exact HK.out|apply KeepBut.set_|apply keep_drewN|apply keep_drew|apply keep_alloc)|exact HK.out))));have n1_:=mk0 (IsS76.below (by repeat (first|(with_reducible first|exact HI0.out|apply IsS76.alloc|apply IsS76.drewN|apply IsS76.drew|apply IsS76.set_1|apply IsS76.set_2)|exact HI0.out)) hb);have n2_:=mk0 (KeepBut.trans (by repeat (first|(with_reducible first|exact HK.out|apply KeepBut.set_|apply keep_drewN|apply keep_drew|apply keep_alloc)|exact HK.out)) (KeepBut.of_below hb g none) (.inl rfl));have n3_:=mk0 (below_step (by repeat (first|(with_reducible first|exact HB.out|apply aZ|apply nZ|apply dZ|refine sZ ?_ (IsS76.ge HI0.out))|exact HB.out)) hb);clear HI0 HK HB;have HO254:=n0_;have HI0:=n1_;have HK:=n2_;have HB:=n3_;clear n0_ n1_ n2_ n3_ hb ho7)|((with_reducible refine gate_callee (f:=50) rfl ?_);refine goesL_ (some 10) rfl rfl Try.func50 (by kernel_rfl) rfl #[.pointer (some ⟨g,0,none⟩),.int .i64 3] rfl (by (try simp only [mA,mC,mN]);first|done|rfl|(simp only [List.length_drop,List.length_take];rfl)) ?_;(with_reducible refine (spec_l01Cur_pick.calls g s0_0 s0_1 s0_2 3 t255 t256 t257 w0 _ ?side1 ?side2 A2.out).mono ?_);(case side1=>repeat (first|(with_reducible first|exact HI0.out|apply IsS76.alloc|apply IsS76.drewN|apply IsS76.drew|apply IsS76.set_1|apply IsS76.set_2)|exact HI0.out));(case side2=>repeat (first|(with_reducible first|exact HB.out|apply aZ|apply nZ|apply dZ|refine sZ ?_ (IsS76.ge HI0.out))|exact HB.out));rintro e w8 ⟨rfl,hi,hb,hk⟩;refine⟨_,rfl,?_⟩;have n0_:=mk0 (Kd.R_mono (Kd.R_keep (IsS76.apart (show IsS76 w0 _ g s0_0 s0_1 s0_2 from by repeat (first|(with_reducible first|exact HI0.out|apply IsS76.alloc|apply IsS76.drewN|apply IsS76.drew|apply IsS76.set_1|apply IsS76.set_2)|exact HI0.out)) (by (with_reducible repeat (first|apply aR|apply nR|apply dR));exact HO254.out) (by decide)) hk (fun _ h=>h.2)) (fun _ h=>h.1));have n1_:=mk0 (KeepBut.trans (by repeat (first|(with_reducible first|exact HK.out|apply KeepBut.set_|apply keep_drewN|apply keep_drew|apply keep_alloc)|exact HK.out)) hk (.inl rfl));have n2_:=mk0 (hb);have n3_:=mk0 (hi);clear HO254 HK HB HI0;have HO254:=n0_;have HK:=n1_;have HB:=n2_;have HI0:=n3_;clear n0_ n1_ n2_ n3_;(try clear hb);(try clear hb2);(try clear hk);(try clear hi);obtain⟨Ao9,co9,eo9⟩:=Kd.R_slice HO254.out;subst eo9;have p258:0 ≤ (t255:Int):=of_decide_eq_true (by first|(with_reducible assumption)|assumption);have q258:t255 < (y252.length:Int):=of_decide_eq_true (by first|(with_reducible assumption)|assumption);obtain⟨ad258,e258,hx258_0⟩:=Kd.at_int (Kd.R_reads' HO254.out).2.2 t255 p258 q258;cases e258;replace p258:=eq_true p258;replace q258:=eq_true q258)|((with_reducible refine gate_callee (f:=55) rfl ?_);refine goesL_ (some 13) rfl rfl Try.func55 (by kernel_rfl) rfl #[.pointer (some ⟨g,0,none⟩),.int .i64 14,.int .i64 (rd y252 t255)] rfl (by (try simp only [mA,mC,mN]);first|done|rfl|(simp only [List.length_drop,List.length_take];rfl)) ?_;(with_reducible refine (spec_l01Cur_numbers.calls k g s0_0 t256 t257 14 (rd y252 t255) t259 t262 t263 w0 _ ?side1 ?side2 A5.out).mono ?_);(case side1=>repeat (first|(with_reducible first|exact HI0.out|apply IsS76.alloc|apply IsS76.drewN|apply IsS76.drew|apply IsS76.set_1|apply IsS76.set_2)|exact HI0.out));(case side2=>repeat (first|(with_reducible first|exact HB.out|apply aZ|apply nZ|apply dZ|refine sZ ?_ (IsS76.ge HI0.out))|exact HB.out));rintro e w10 ⟨v260,rfl,ho0,hi,hb,hk⟩;refine⟨_,rfl,?_⟩;have n0_:=mk0 (Kd.R_mono (Kd.R_told (Kd.R_oldK (IsS76.apart (show IsS76 w0 _ g s0_0 t256 t257 from by repeat (first|(with_reducible first|exact HI0.out|apply IsS76.alloc|apply IsS76.drewN|apply IsS76.drew|apply IsS76.set_1|apply IsS76.set_2)|exact HI0.out)) (by (with_reducible repeat (first|apply aR|apply nR|apply dR));exact HO254.out) (by decide)) hk) (Kd.R_base ho0)) (fun _ h_=>h_.1));have n1_:=mk0 (Kd.R_lower (Kd.R_new' ho0 (Kd.R_lt (by (with_reducible repeat (first|apply aR|apply nR|apply dR));exact HO254.out))) (keep_size (w:=w) (g:=g) (row:=none) (by repeat (first|(with_reducible first|exact HK.out|apply KeepBut.set_|apply keep_drewN|apply keep_drew|apply keep_alloc)|exact HK.out))));have n2_:=mk0 (KeepBut.trans (by repeat (first|(with_reducible first|exact HK.out|apply KeepBut.set_|apply keep_drewN|apply keep_drew|apply keep_alloc)|exact HK.out)) hk (.inl rfl));have n3_:=mk0 (hb);have n4_:=mk0 (hi);clear HO254 HK HB HI0;have HO254:=n0_;have HO261:=n1_;have HK:=n2_;have HB:=n3_;have HI0:=n4_;clear n0_ n1_ n2_ n3_ n4_;(try clear hb);(try clear hb2);(try clear hk);(try clear hi);(try clear ho0))|((with_reducible refine gate_dst (N:=14) rfl ?_);refine Kd.R_lit (Kd.int .i64) _ 3 ?hg (N:=14) ?hd (xs:=([]:List Int)) (inner:=[]) (ok:=fun _=>True) (okp:=fun _=>True) ?hr ?hp (fun _ hk=>hk) trivial (Below.refl _ _) (Nat.le_refl _) (by simp) ?_;(case hd=>rfl);(case hg=>rfl);(case hr=>first|(go_simp;done)|(go_simp;rfl));(case hp=>exact (Reps.none _ _));intro v265 w11 ho12 hb hg_ hnew_;clear hg_ hnew_;(first|rw [← Ny264.out] at ho12|(simp only [Int.reduceToNat] at ho12;rw [← Ny264.out] at ho12));have n0_:=mk0 (Kd.R_elder' (by (with_reducible repeat (first|apply aR|apply nR|apply dR));exact HO254.out) (Kd.R_base ho12) hb);have n1_:=mk0 (Kd.R_elder' (by (with_reducible repeat (first|apply aR|apply nR|apply dR));exact HO261.out) (Kd.R_base ho12) hb);have n2_:=mk0 (Kd.R_lower (Kd.R_new' (Kd.R_new' ho12 (Kd.R_lt (by (with_reducible repeat (first|apply aR|apply nR|apply dR));exact HO254.out))) (Kd.R_lt (by (with_reducible repeat (first|apply aR|apply nR|apply dR));exact HO261.out))) (keep_size (w:=w) (g:=g) (row:=none) (by repeat (first|(with_reducible first|exact HK.out|apply KeepBut.set_|apply keep_drewN|apply keep_drew|apply keep_alloc)|exact HK.out))));have n3_:=mk0 (IsS76.below (by repeat (first|(with_reducible first|exact HI0.out|apply IsS76.alloc|apply IsS76.drewN|apply IsS76.drew|apply IsS76.set_1|apply IsS76.set_2)|exact HI0.out)) hb);have n4_:=mk0 (KeepBut.trans (by repeat (first|(with_reducible first|exact HK.out|apply KeepBut.set_|apply keep_drewN|apply keep_drew|apply keep_alloc)|exact HK.out)) (KeepBut.of_below hb g none) (.inl rfl));have n5_:=mk0 (below_step (by repeat (first|(with_reducible first|exact HB.out|apply aZ|apply nZ|apply dZ|refine sZ ?_ (IsS76.ge HI0.out))|exact HB.out)) hb);clear HO254 HO261 HI0 HK HB;have HO254:=n0_;have HO261:=n1_;have HO266:=n2_;have HI0:=n3_;have HK:=n4_;have HB:=n5_;clear n0_ n1_ n2_ n3_ n4_ n5_ hb ho12))
 go_loopg [5,6] k (fun kq v5 v6 w'=>∃ (x5_1:List Int) (x6_1:Int) (x1001_1:Int) (x1002_1:Int),v6 = .int .i64 x6_1 ∧ Aside0 (spec_l01Cur_rows.l0 kq t259 x5_1 x6_1 s0_0 x1001_1 x1002_1 = some (r1,r2,r3,r4)) ∧ Aside0 (kq ≤ k) ∧ Aside0 (Kd.R (Kd.int .i64) 3 w' w.heap.size (fun k_=>some k_ ≠ (v5:Value).ownBlock) v260 t259) ∧ Aside0 (Kd.R (Kd.int .i64) 3 w' w.heap.size (fun k_=>some k_ ≠ (v260:Value).ownBlock) v5 x5_1) ∧ Aside0 (IsS76 w0 w' g s0_0 x1001_1 x1002_1) ∧ Aside0 (KeepBut w w' g none) ∧ Aside0 (Below w0.heap.size w0 w'))
 case atStart=>exact⟨(y264),(0),(t262),(t263),(by first|rfl|(simp;done)|(simp [*];done)),H',⟨Nat.le_refl _⟩,⟨by (with_reducible repeat (first|apply aR|apply nR|apply dR));exact Kd.R_mono HO261.out (fun _ hk=>hk.2)⟩,⟨by (with_reducible repeat (first|apply aR|apply nR|apply dR));exact Kd.R_mono HO266.out (fun _ hk=>hk.2)⟩,⟨by repeat (first|(with_reducible first|exact HI0.out|apply IsS76.alloc|apply IsS76.drewN|apply IsS76.drew|apply IsS76.set_1|apply IsS76.set_2)|exact HI0.out)⟩,⟨by repeat (first|(with_reducible first|exact HK.out|apply KeepBut.set_|apply keep_drewN|apply keep_drew|apply keep_alloc)|exact HK.out)⟩,⟨by repeat (first|(with_reducible first|exact HB.out|apply aZ|apply nZ|apply dZ|refine sZ ?_ (IsS76.ge HI0.out))|exact HB.out)⟩⟩
 case round =>
  clear H'
  try clear p2
  try clear q2
  try clear hx2
  try clear c3
  try clear c3b0
  try clear c4
  try clear c4b0
  try clear c5
  try clear hx258_0
  try clear p258
  try clear q258
  obtain⟨x5_1,x6_1,x1001_1,x1002_1,rfl,HA,HK1,HO_4,HO_5,HI0,HK,HB⟩:=hrel
  cases gk with
  | zero=>exact absurd HA.out (by simp [spec_l01Cur_rows.l0])
  | succ k1 =>
   have H:=HA.out
   clear HA
   simp only [spec_l01Cur_rows.l0] at H
   by_cases c13:x6_1 < (t259.length:Int)
   ·rw [if_pos c13] at H
    have c13b0:decide (x6_1 < (t259.length:Int)) = true:=decide_eq_true c13
    clear c13
    replace H:=Option.bind_eq_some_iff.mp H
    obtain⟨⟨t267,t268,t269⟩,A140,H⟩:=H
    replace H:(if t267 = true then ((spec_l01Cur_pick.f s0_0 t268 t269 4).bind fun bt270=>(if x5_1.length < 17592186044416 then (spec_l01Cur_rows.j1 k1 t259 (x5_1 ++ [bt270.1]) x6_1 s0_0 bt270.2.1 bt270.2.2) else (none))) else (spec_l01Cur_rows.j1 k1 t259 x5_1 x6_1 s0_0 t268 t269)) = some (r1,r2,r3,r4):=H
    have A14:=mk0 A140
    clear A140
    have HC15:=mk0 H
    clear H
    obtain⟨Ao16,co16,eo16⟩:=Kd.R_slice HO_4.out
    subst eo16
    go_upto_if 22 with (first|((with_reducible refine gate_callee (f:=56) rfl ?_);refine goesL_ (some 22) rfl rfl Try.func56 (by kernel_rfl) rfl #[.pointer (some ⟨g,0,none⟩),.int .i64 5] rfl (by (try simp only [mA,mC,mN]);first|done|rfl|(simp only [List.length_drop,List.length_take];rfl)) ?_;(with_reducible refine (spec_l01Cur_once.calls g s0_0 x1001_1 x1002_1 5 t267 t268 t269 w0 _ ?side1 ?side2 A14.out).mono ?_);(case side1=>repeat (first|(with_reducible first|exact HI0.out|apply IsS76.alloc|apply IsS76.drewN|apply IsS76.drew|apply IsS76.set_1|apply IsS76.set_2)|exact HI0.out));(case side2=>repeat (first|(with_reducible first|exact HB.out|apply aZ|apply nZ|apply dZ|refine sZ ?_ (IsS76.ge HI0.out))|exact HB.out));rintro e w17 ⟨rfl,hi,hb,hk⟩;refine⟨_,rfl,?_⟩;have n0_:=mk0 (Kd.R_mono (Kd.R_keep (IsS76.apart (show IsS76 w0 _ g s0_0 x1001_1 x1002_1 from by repeat (first|(with_reducible first|exact HI0.out|apply IsS76.alloc|apply IsS76.drewN|apply IsS76.drew|apply IsS76.set_1|apply IsS76.set_2)|exact HI0.out)) (by (with_reducible repeat (first|apply aR|apply nR|apply dR));exact HO_4.out) (by decide)) hk (fun _ h=>h.2)) (fun _ h=>h.1));have n1_:=mk0 (Kd.R_mono (Kd.R_keep (IsS76.apart (show IsS76 w0 _ g s0_0 x1001_1 x1002_1 from by repeat (first|(with_reducible first|exact HI0.out|apply IsS76.alloc|apply IsS76.drewN|apply IsS76.drew|apply IsS76.set_1|apply IsS76.set_2)|exact HI0.out)) (by (with_reducible repeat (first|apply aR|apply nR|apply dR));exact HO_5.out) (by decide)) hk (fun _ h=>h.2)) (fun _ h=>h.1));have n2_:=mk0 (KeepBut.trans (by repeat (first|(with_reducible first|exact HK.out|apply KeepBut.set_|apply keep_drewN|apply keep_drew|apply keep_alloc)|exact HK.out)) hk (.inl rfl));have n3_:=mk0 (hb);have n4_:=mk0 (hi);clear HO_4 HO_5 HK HB HI0;have HO_4:=n0_;have HO_5:=n1_;have HK:=n2_;have HB:=n3_;have HI0:=n4_;clear n0_ n1_ n2_ n3_ n4_;(try clear hb);(try clear hb2);(try clear hk);(try clear hi)))
    (try simp only [Act.put,sA,sO,sS])
    go_cut [5] (fun v5 wc=>∃ (kq:Nat) (x5_14:List Int) (x1001_14:Int) (x1002_14:Int),Aside0 (spec_l01Cur_rows.j1 kq t259 x5_14 x6_1 s0_0 x1001_14 x1002_14 = some (r1,r2,r3,r4)) ∧ Aside0 (kq ≤ k1) ∧ Aside0 (Kd.R (Kd.int .i64) 3 wc w.heap.size (fun k_=>some k_ ≠ (v5:Value).ownBlock) (.slice Ao16 t259.length co16) t259) ∧ Aside0 (Kd.R (Kd.int .i64) 3 wc w.heap.size (fun k_=>some k_ ≠ ((.slice Ao16 t259.length co16):Value).ownBlock) v5 x5_14) ∧ Aside0 (IsS76 w0 wc g s0_0 x1001_14 x1002_14) ∧ Aside0 (KeepBut w wc g none) ∧ Aside0 (Below w0.heap.size w0 wc))
    case first =>
     have H:=HC15.out
     clear HC15
     by_cases c18:t267 = true
     rotate_left
     ·replace c18:=Bool.eq_false_iff.mpr c18
      subst c18
      have H1:(spec_l01Cur_rows.j1 k1 t259 x5_1 x6_1 s0_0 t268 t269) = some (r1,r2,r3,r4):=by rw [if_neg (show ¬ (false = true) by decide)] at H;exact H
      clear H
      have H:=H1
      clear H1
      have H':=mk0 H
      clear H
      go_wp2
      go_meet
      case rel=>exact⟨_,(x5_1),(t268),(t269),H',⟨by have:=HK1.out;first|omega|exact Nat.le_refl _⟩,⟨by (with_reducible repeat (first|apply aR|apply nR|apply dR));exact HO_4.out⟩,⟨by (with_reducible repeat (first|apply aR|apply nR|apply dR));exact HO_5.out⟩,⟨by repeat (first|(with_reducible first|exact HI0.out|apply IsS76.alloc|apply IsS76.drewN|apply IsS76.drew|apply IsS76.set_1|apply IsS76.set_2)|exact HI0.out)⟩,⟨by repeat (first|(with_reducible first|exact HK.out|apply KeepBut.set_|apply keep_drewN|apply keep_drew|apply keep_alloc)|exact HK.out)⟩,⟨by repeat (first|(with_reducible first|exact HB.out|apply aZ|apply nZ|apply dZ|refine sZ ?_ (IsS76.ge HI0.out))|exact HB.out)⟩⟩
     subst c18
     have H1:((spec_l01Cur_pick.f s0_0 t268 t269 4).bind fun bt270=>(if x5_1.length < 17592186044416 then (spec_l01Cur_rows.j1 k1 t259 (x5_1 ++ [bt270.1]) x6_1 s0_0 bt270.2.1 bt270.2.2) else (none))) = some (r1,r2,r3,r4):=by rw [if_pos rfl] at H;exact H
     clear H
     have H:=H1
     clear H1
     replace H:=Option.bind_eq_some_iff.mp H
     obtain⟨⟨t270,t271,t272⟩,A190,H⟩:=H
     replace H:(if x5_1.length < 17592186044416 then (spec_l01Cur_rows.j1 k1 t259 (x5_1 ++ [t270]) x6_1 s0_0 t271 t272) else (none)) = some (r1,r2,r3,r4):=H
     have A19:=mk0 A190
     clear A190
     by_cases c20:x5_1.length < 17592186044416
     rotate_left
     ·rw [if_neg c20] at H
      exact absurd H (by simp)
     rw [if_pos c20] at H
     have LMc20:=mk0 c20
     clear c20
     obtain⟨y273,hy273⟩:∃ y_:List Int,y_ = (x5_1 ++ [t270]):=⟨_,rfl⟩
     replace H:(spec_l01Cur_rows.j1 k1 t259 y273 x6_1 s0_0 t271 t272) = some (r1,r2,r3,r4):=by first|(rw [hy273];with_reducible exact H)|(have H2_:=(Option.bind_some _ _).symm.trans H;rw [hy273];with_reducible exact H2_)|(have H2_:=(Option.bind_some _ _).symm.trans H;with_reducible exact H2_)|with_reducible exact H|(rw [hy273];exact H)|exact H
     have Ny273:=mk0 hy273
     clear hy273
     have H':=mk0 H
     clear H
     go_wp2_with (first|((with_reducible refine gate_callee (f:=50) rfl ?_);refine goesL_ (some 25) rfl rfl Try.func50 (by kernel_rfl) rfl #[.pointer (some ⟨g,0,none⟩),.int .i64 4] rfl (by (try simp only [mA,mC,mN]);first|done|rfl|(simp only [List.length_drop,List.length_take];rfl)) ?_;(with_reducible refine (spec_l01Cur_pick.calls g s0_0 t268 t269 4 t270 t271 t272 w0 _ ?side1 ?side2 A19.out).mono ?_);(case side1=>repeat (first|(with_reducible first|exact HI0.out|apply IsS76.alloc|apply IsS76.drewN|apply IsS76.drew|apply IsS76.set_1|apply IsS76.set_2)|exact HI0.out));(case side2=>repeat (first|(with_reducible first|exact HB.out|apply aZ|apply nZ|apply dZ|refine sZ ?_ (IsS76.ge HI0.out))|exact HB.out));rintro e w21 ⟨rfl,hi,hb,hk⟩;refine⟨_,rfl,?_⟩;have n0_:=mk0 (Kd.R_mono (Kd.R_keep (IsS76.apart (show IsS76 w0 _ g s0_0 t268 t269 from by repeat (first|(with_reducible first|exact HI0.out|apply IsS76.alloc|apply IsS76.drewN|apply IsS76.drew|apply IsS76.set_1|apply IsS76.set_2)|exact HI0.out)) (by (with_reducible repeat (first|apply aR|apply nR|apply dR));exact HO_4.out) (by decide)) hk (fun _ h=>h.2)) (fun _ h=>h.1));have n1_:=mk0 (Kd.R_mono (Kd.R_keep (IsS76.apart (show IsS76 w0 _ g s0_0 t268 t269 from by repeat (first|(with_reducible first|exact HI0.out|apply IsS76.alloc|apply IsS76.drewN|apply IsS76.drew|apply IsS76.set_1|apply IsS76.set_2)|exact HI0.out)) (by (with_reducible repeat (first|apply aR|apply nR|apply dR));exact HO_5.out) (by decide)) hk (fun _ h=>h.2)) (fun _ h=>h.1));have n2_:=mk0 (KeepBut.trans (by repeat (first|(with_reducible first|exact HK.out|apply KeepBut.set_|apply keep_drewN|apply keep_drew|apply keep_alloc)|exact HK.out)) hk (.inl rfl));have n3_:=mk0 (hb);have n4_:=mk0 (hi);clear HO_4 HO_5 HK HB HI0;have HO_4:=n0_;have HO_5:=n1_;have HK:=n2_;have HB:=n3_;have HI0:=n4_;clear n0_ n1_ n2_ n3_ n4_;(try clear hb);(try clear hb2);(try clear hk);(try clear hi))|((with_reducible refine gate_builtin (b:=.append) (xs:=#[.tmp 23,.tmp 26]) rfl ?_);at_builtin;refine Kd.R_append (Kd.int .i64) w.heap.size rfl (.tmp 23) (.tmp 26) 22 3 (.int .i64 0) 8 rfl Try.underlying22 info3 rfl (by decide) (by omega) u5 x5_1 t270 [.int .i64 t270] (fun k_=>some k_ ≠ (.slice Ao16 t259.length co16:Value).ownBlock) (fun _=>False) rfl rfl ?aP (fun _ hk=>hk.elim) ?aF ?aO (Below.refl _ _) ?aS ?aL ?_;(case aP=>exact rfl);(case aF=>exact (fun k_ hk=>Kd.fresh' (Kd.R_lt (by (with_reducible repeat (first|apply aR|apply nR|apply dR));exact HO_4.out)) k_ hk));(case aO=>exact (by (with_reducible repeat (first|apply aR|apply nR|apply dR));exact HO_5.out));(case aS=>exact (keep_size (w:=w) (g:=g) (row:=none) (by repeat (first|(with_reducible first|exact HK.out|apply KeepBut.set_|apply keep_drewN|apply keep_drew|apply keep_alloc)|exact HK.out))));(case aL=>have:=LMc20.out;omega);intro v274 w22 ho hb hg hat;rw [← Ny273.out] at ho;have n0_:=mk0 (Kd.R_after (ok:=(fun _=>True)) (by (with_reducible repeat (first|apply aR|apply nR|apply dR));exact Kd.R_mono HO_4.out (fun _ hk=>⟨trivial,hk⟩)) hg hat);have n1_:=mk0 (IsS76.grown (by repeat (first|(with_reducible first|exact HI0.out|apply IsS76.alloc|apply IsS76.drewN|apply IsS76.drew|apply IsS76.set_1|apply IsS76.set_2)|exact HI0.out)) hg (IsS76.own_ne HI0.out HO_5.out (by decide)));have n2_:=mk0 (below_weaken (by repeat (first|(with_reducible first|exact HB.out|apply aZ|apply nZ|apply dZ|refine sZ ?_ (IsS76.ge HI0.out))|exact HB.out)) HL.out hb);have n3_:=mk0 (KeepBut.trans (by repeat (first|(with_reducible first|exact HK.out|apply KeepBut.set_|apply keep_drewN|apply keep_drew|apply keep_alloc)|exact HK.out)) (KeepBut.of_grown hg g) (Kd.R_base2 HO_5.out));have n4_:=mk0 (ho);clear HO_4 HI0 HB HK HO_5;have HO_4:=n0_;have HI0:=n1_;have HB:=n2_;have HK:=n3_;have HO275:=n4_;clear n0_ n1_ n2_ n3_ n4_ ho hb hg hat))
     go_meet
     case rel=>exact⟨_,(y273),(t271),(t272),H',⟨by have:=HK1.out;first|omega|exact Nat.le_refl _⟩,⟨by (with_reducible repeat (first|apply aR|apply nR|apply dR));exact Kd.R_mono HO_4.out (fun _ hk=>hk.2)⟩,⟨by (with_reducible repeat (first|apply aR|apply nR|apply dR));exact HO275.out⟩,⟨by repeat (first|(with_reducible first|exact HI0.out|apply IsS76.alloc|apply IsS76.drewN|apply IsS76.drew|apply IsS76.set_1|apply IsS76.set_2)|exact HI0.out)⟩,⟨by repeat (first|(with_reducible first|exact HK.out|apply KeepBut.set_|apply keep_drewN|apply keep_drew|apply keep_alloc)|exact HK.out)⟩,⟨by repeat (first|(with_reducible first|exact HB.out|apply aZ|apply nZ|apply dZ|refine sZ ?_ (IsS76.ge HI0.out))|exact HB.out)⟩⟩
    case rest =>
     clear HC15
     try clear c1
     try clear c2
     try clear p2
     try clear q2
     try clear hx2
     try clear c3
     try clear c3b0
     try clear c4
     try clear c4b0
     try clear c5
     try clear c13
     try clear c13b0
     try clear c18
     try clear c20
     try clear hx258_0
     try clear p2
     try clear p258
     try clear q2
     try clear q258
     obtain⟨kq,x5_14,x1001_14,x1002_14,HA,HJ14,HO_4,HO_5,HI0,HK,HB⟩:=hcut
     cases kq with
     | zero=>exact absurd HA.out (by simp [spec_l01Cur_rows.j1])
     | succ kj14 =>
      have H:=HA.out
      clear HA
      simp only [spec_l01Cur_rows.j1] at H
      replace H:=Option.bind_eq_some_iff.mp H
      obtain⟨⟨t276,t277,t278⟩,A230,H⟩:=H
      replace H:(if t276 = true then (spec_l01Cur_rows.l0 kj14 t259 x5_14 (wrap64 (x6_1 + 1)) s0_0 t277 t278) else (if 0 ≤ x6_1 then (if x6_1 < (t259.length:Int) then (if x5_14.length < 17592186044416 then (spec_l01Cur_rows.l0 kj14 t259 (x5_14 ++ [rd t259 x6_1]) (wrap64 (x6_1 + 1)) s0_0 t277 t278) else (none)) else (none)) else (none))) = some (r1,r2,r3,r4):=H
      have A23:=mk0 A230
      clear A230
      by_cases c24:t276 = true
      ·subst c24
       have H1:(spec_l01Cur_rows.l0 kj14 t259 x5_14 (wrap64 (x6_1 + 1)) s0_0 t277 t278) = some (r1,r2,r3,r4):=by rw [if_pos rfl] at H;exact H
       clear H
       have H:=H1
       clear H1
       have H':=mk0 H
       clear H
       go_wp2_with (first|((with_reducible refine gate_callee (f:=56) rfl ?_);refine goesL_ (some 29) rfl rfl Try.func56 (by kernel_rfl) rfl #[.pointer (some ⟨g,0,none⟩),.int .i64 5] rfl (by (try simp only [mA,mC,mN]);first|done|rfl|(simp only [List.length_drop,List.length_take];rfl)) ?_;(with_reducible refine (spec_l01Cur_once.calls g s0_0 x1001_14 x1002_14 5 true t277 t278 w0 _ ?side1 ?side2 A23.out).mono ?_);(case side1=>repeat (first|(with_reducible first|exact HI0.out|apply IsS76.alloc|apply IsS76.drewN|apply IsS76.drew|apply IsS76.set_1|apply IsS76.set_2)|exact HI0.out));(case side2=>repeat (first|(with_reducible first|exact HB.out|apply aZ|apply nZ|apply dZ|refine sZ ?_ (IsS76.ge HI0.out))|exact HB.out));rintro e w25 ⟨rfl,hi,hb,hk⟩;refine⟨_,rfl,?_⟩;have n0_:=mk0 (Kd.R_mono (Kd.R_keep (IsS76.apart (show IsS76 w0 _ g s0_0 x1001_14 x1002_14 from by repeat (first|(with_reducible first|exact HI0.out|apply IsS76.alloc|apply IsS76.drewN|apply IsS76.drew|apply IsS76.set_1|apply IsS76.set_2)|exact HI0.out)) (by (with_reducible repeat (first|apply aR|apply nR|apply dR));exact HO_4.out) (by decide)) hk (fun _ h=>h.2)) (fun _ h=>h.1));have n1_:=mk0 (Kd.R_mono (Kd.R_keep (IsS76.apart (show IsS76 w0 _ g s0_0 x1001_14 x1002_14 from by repeat (first|(with_reducible first|exact HI0.out|apply IsS76.alloc|apply IsS76.drewN|apply IsS76.drew|apply IsS76.set_1|apply IsS76.set_2)|exact HI0.out)) (by (with_reducible repeat (first|apply aR|apply nR|apply dR));exact HO_5.out) (by decide)) hk (fun _ h=>h.2)) (fun _ h=>h.1));have n2_:=mk0 (KeepBut.trans (by repeat (first|(with_reducible first|exact HK.out|apply KeepBut.set_|apply keep_drewN|apply keep_drew|apply keep_alloc)|exact HK.out)) hk (.inl rfl));have n3_:=mk0 (hb);have n4_:=mk0 (hi);clear HO_4 HO_5 HK HB HI0;have HO_4:=n0_;have HO_5:=n1_;have HK:=n2_;have HB:=n3_;have HI0:=n4_;clear n0_ n1_ n2_ n3_ n4_;(try clear hb);(try clear hb2);(try clear hk);(try clear hi)))
       go_roundg kj14
       case measure=>have:=HK1.out;have:=HJ14.out;omega
       case rel=>exact⟨(x5_14),(wrap64 (x6_1 + 1)),(t277),(t278),(by first|rfl|(simp;done)|(simp [*];done)),H',⟨by have:=HK1.out;have:=HJ14.out;omega⟩,⟨by (with_reducible repeat (first|apply aR|apply nR|apply dR));exact HO_4.out⟩,⟨by (with_reducible repeat (first|apply aR|apply nR|apply dR));exact HO_5.out⟩,⟨by repeat (first|(with_reducible first|exact HI0.out|apply IsS76.alloc|apply IsS76.drewN|apply IsS76.drew|apply IsS76.set_1|apply IsS76.set_2)|exact HI0.out)⟩,⟨by repeat (first|(with_reducible first|exact HK.out|apply KeepBut.set_|apply keep_drewN|apply keep_drew|apply keep_alloc)|exact HK.out)⟩,⟨by repeat (first|(with_reducible first|exact HB.out|apply aZ|apply nZ|apply dZ|refine sZ ?_ (IsS76.ge HI0.out))|exact HB.out)⟩⟩
      replace c24:=Bool.eq_false_iff.mpr c24
      subst c24
      have H1:(if 0 ≤ x6_1 then (if x6_1 < (t259.length:Int) then (if x5_14.length < 17592186044416 then (spec_l01Cur_rows.l0 kj14 t259 (x5_14 ++ [rd t259 x6_1]) (wrap64 (x6_1 + 1)) s0_0 t277 t278) else (none)) else (none)) else (none)) = some (r1,r2,r3,r4):=by rw [if_neg (show ¬ (false = true) by decide)] at H;exact H
      clear H
      have H:=H1
      clear H1
      by_cases c26:0 ≤ x6_1
      rotate_left
      ·rw [if_neg c26] at H
       exact absurd H (by simp)
      rw [if_pos c26] at H
      have c26b0:decide (0 ≤ x6_1) = true:=decide_eq_true c26
      clear c26
      by_cases c27:x6_1 < (t259.length:Int)
      rotate_left
      ·rw [if_neg c27] at H
       exact absurd H (by simp)
      rw [if_pos c27] at H
      have c27b0:decide (x6_1 < (t259.length:Int)) = true:=decide_eq_true c27
      clear c27
      by_cases c28:x5_14.length < 17592186044416
      rotate_left
      ·rw [if_neg c28] at H
       exact absurd H (by simp)
      rw [if_pos c28] at H
      have LMc28:=mk0 c28
      clear c28
      obtain⟨y280,hy280⟩:∃ y_:List Int,y_ = (x5_14 ++ [rd t259 x6_1]):=⟨_,rfl⟩
      replace H:(spec_l01Cur_rows.l0 kj14 t259 y280 (wrap64 (x6_1 + 1)) s0_0 t277 t278) = some (r1,r2,r3,r4):=by first|(rw [hy280];with_reducible exact H)|(have H2_:=(Option.bind_some _ _).symm.trans H;rw [hy280];with_reducible exact H2_)|(have H2_:=(Option.bind_some _ _).symm.trans H;with_reducible exact H2_)|with_reducible exact H|(rw [hy280];exact H)|exact H
      have Ny280:=mk0 hy280
      clear hy280
      have H':=mk0 H
      clear H
      go_wp2_with (first|((with_reducible refine gate_callee (f:=56) rfl ?_);refine goesL_ (some 29) rfl rfl Try.func56 (by kernel_rfl) rfl #[.pointer (some ⟨g,0,none⟩),.int .i64 5] rfl (by (try simp only [mA,mC,mN]);first|done|rfl|(simp only [List.length_drop,List.length_take];rfl)) ?_;(with_reducible refine (spec_l01Cur_once.calls g s0_0 x1001_14 x1002_14 5 false t277 t278 w0 _ ?side1 ?side2 A23.out).mono ?_);(case side1=>repeat (first|(with_reducible first|exact HI0.out|apply IsS76.alloc|apply IsS76.drewN|apply IsS76.drew|apply IsS76.set_1|apply IsS76.set_2)|exact HI0.out));(case side2=>repeat (first|(with_reducible first|exact HB.out|apply aZ|apply nZ|apply dZ|refine sZ ?_ (IsS76.ge HI0.out))|exact HB.out));rintro e w29 ⟨rfl,hi,hb,hk⟩;refine⟨_,rfl,?_⟩;have n0_:=mk0 (Kd.R_mono (Kd.R_keep (IsS76.apart (show IsS76 w0 _ g s0_0 x1001_14 x1002_14 from by repeat (first|(with_reducible first|exact HI0.out|apply IsS76.alloc|apply IsS76.drewN|apply IsS76.drew|apply IsS76.set_1|apply IsS76.set_2)|exact HI0.out)) (by (with_reducible repeat (first|apply aR|apply nR|apply dR));exact HO_4.out) (by decide)) hk (fun _ h=>h.2)) (fun _ h=>h.1));have n1_:=mk0 (Kd.R_mono (Kd.R_keep (IsS76.apart (show IsS76 w0 _ g s0_0 x1001_14 x1002_14 from by repeat (first|(with_reducible first|exact HI0.out|apply IsS76.alloc|apply IsS76.drewN|apply IsS76.drew|apply IsS76.set_1|apply IsS76.set_2)|exact HI0.out)) (by (with_reducible repeat (first|apply aR|apply nR|apply dR));exact HO_5.out) (by decide)) hk (fun _ h=>h.2)) (fun _ h=>h.1));have n2_:=mk0 (KeepBut.trans (by repeat (first|(with_reducible first|exact HK.out|apply KeepBut.set_|apply keep_drewN|apply keep_drew|apply keep_alloc)|exact HK.out)) hk (.inl rfl));have n3_:=mk0 (hb);have n4_:=mk0 (hi);clear HO_4 HO_5 HK HB HI0;have HO_4:=n0_;have HO_5:=n1_;have HK:=n2_;have HB:=n3_;have HI0:=n4_;clear n0_ n1_ n2_ n3_ n4_;(try clear hb);(try clear hb2);(try clear hk);(try clear hi);have p279:0 ≤ (x6_1:Int):=of_decide_eq_true (by first|(with_reducible assumption)|assumption);have q279:x6_1 < (t259.length:Int):=of_decide_eq_true (by first|(with_reducible assumption)|assumption);obtain⟨ad279,e279,hx279_0⟩:=Kd.at_int (Kd.R_reads' HO_4.out).2.2 x6_1 p279 q279;cases e279;replace p279:=eq_true p279;replace q279:=eq_true q279)|((with_reducible refine gate_builtin (b:=.append) (xs:=#[.tmp 31,.tmp 36]) rfl ?_);at_builtin;refine Kd.R_append (Kd.int .i64) w.heap.size rfl (.tmp 31) (.tmp 36) 22 3 (.int .i64 0) 8 rfl Try.underlying22 info3 rfl (by decide) (by omega) u5 x5_14 (rd t259 x6_1) [.int .i64 (rd t259 x6_1)] (fun k_=>some k_ ≠ (.slice (some ad279) t259.length co16:Value).ownBlock) (fun _=>False) rfl rfl ?aP (fun _ hk=>hk.elim) ?aF ?aO (Below.refl _ _) ?aS ?aL ?_;(case aP=>exact rfl);(case aF=>exact (fun k_ hk=>Kd.fresh' (Kd.R_lt (by (with_reducible repeat (first|apply aR|apply nR|apply dR));exact HO_4.out)) k_ hk));(case aO=>exact (by (with_reducible repeat (first|apply aR|apply nR|apply dR));exact HO_5.out));(case aS=>exact (keep_size (w:=w) (g:=g) (row:=none) (by repeat (first|(with_reducible first|exact HK.out|apply KeepBut.set_|apply keep_drewN|apply keep_drew|apply keep_alloc)|exact HK.out))));(case aL=>have:=LMc28.out;omega);intro v281 w30 ho hb hg hat;rw [← Ny280.out] at ho;have n0_:=mk0 (Kd.R_after (ok:=(fun _=>True)) (by (with_reducible repeat (first|apply aR|apply nR|apply dR));exact Kd.R_mono HO_4.out (fun _ hk=>⟨trivial,hk⟩)) hg hat);have n1_:=mk0 (IsS76.grown (by repeat (first|(with_reducible first|exact HI0.out|apply IsS76.alloc|apply IsS76.drewN|apply IsS76.drew|apply IsS76.set_1|apply IsS76.set_2)|exact HI0.out)) hg (IsS76.own_ne HI0.out HO_5.out (by decide)));have n2_:=mk0 (below_weaken (by repeat (first|(with_reducible first|exact HB.out|apply aZ|apply nZ|apply dZ|refine sZ ?_ (IsS76.ge HI0.out))|exact HB.out)) HL.out hb);have n3_:=mk0 (KeepBut.trans (by repeat (first|(with_reducible first|exact HK.out|apply KeepBut.set_|apply keep_drewN|apply keep_drew|apply keep_alloc)|exact HK.out)) (KeepBut.of_grown hg g) (Kd.R_base2 HO_5.out));have n4_:=mk0 (ho);clear HO_4 HI0 HB HK HO_5;have HO_4:=n0_;have HI0:=n1_;have HB:=n2_;have HK:=n3_;have HO282:=n4_;clear n0_ n1_ n2_ n3_ n4_ ho hb hg hat))
      go_roundg kj14
      case measure=>have:=HK1.out;have:=HJ14.out;omega
      case rel=>exact⟨(y280),(wrap64 (x6_1 + 1)),(t277),(t278),(by first|rfl|(simp;done)|(simp [*];done)),H',⟨by have:=HK1.out;have:=HJ14.out;omega⟩,⟨by (with_reducible repeat (first|apply aR|apply nR|apply dR));exact Kd.R_mono HO_4.out (fun _ hk=>hk.2)⟩,⟨by (with_reducible repeat (first|apply aR|apply nR|apply dR));exact HO282.out⟩,⟨by repeat (first|(with_reducible first|exact HI0.out|apply IsS76.alloc|apply IsS76.drewN|apply IsS76.drew|apply IsS76.set_1|apply IsS76.set_2)|exact HI0.out)⟩,⟨by repeat (first|(with_reducible first|exact HK.out|apply KeepBut.set_|apply keep_drewN|apply keep_drew|apply keep_alloc)|exact HK.out)⟩,⟨by repeat (first|(with_reducible first|exact HB.out|apply aZ|apply nZ|apply dZ|refine sZ ?_ (IsS76.ge HI0.out))|exact HB.out)⟩⟩
   rw [if_neg c13] at H
   have c13b0:decide (x6_1 < (t259.length:Int)) = false:=decide_eq_false c13
   clear c13
   replace H:=Option.bind_eq_some_iff.mp H
   obtain⟨⟨t283,t284,t285⟩,A310,H⟩:=H
   replace H:(if t283 = true then ((spec_l01Cur_numbers.f k1 s0_0 t284 t285 14 4).bind fun bt286=>(spec_l01Cur_rows.j2 k1 t259 bt286.1 s0_0 bt286.2.1 bt286.2.2)) else (spec_l01Cur_rows.j2 k1 t259 x5_1 s0_0 t284 t285)) = some (r1,r2,r3,r4):=H
   have A31:=mk0 A310
   clear A310
   have HC32:=mk0 H
   clear H
   obtain⟨Ao33,co33,eo33⟩:=Kd.R_slice HO_4.out
   subst eo33
   go_upto_if 39 with (first|((with_reducible refine gate_callee (f:=56) rfl ?_);refine goesL_ (some 39) rfl rfl Try.func56 (by kernel_rfl) rfl #[.pointer (some ⟨g,0,none⟩),.int .i64 5] rfl (by (try simp only [mA,mC,mN]);first|done|rfl|(simp only [List.length_drop,List.length_take];rfl)) ?_;(with_reducible refine (spec_l01Cur_once.calls g s0_0 x1001_1 x1002_1 5 t283 t284 t285 w0 _ ?side1 ?side2 A31.out).mono ?_);(case side1=>repeat (first|(with_reducible first|exact HI0.out|apply IsS76.alloc|apply IsS76.drewN|apply IsS76.drew|apply IsS76.set_1|apply IsS76.set_2)|exact HI0.out));(case side2=>repeat (first|(with_reducible first|exact HB.out|apply aZ|apply nZ|apply dZ|refine sZ ?_ (IsS76.ge HI0.out))|exact HB.out));rintro e w34 ⟨rfl,hi,hb,hk⟩;refine⟨_,rfl,?_⟩;have n0_:=mk0 (Kd.R_mono (Kd.R_keep (IsS76.apart (show IsS76 w0 _ g s0_0 x1001_1 x1002_1 from by repeat (first|(with_reducible first|exact HI0.out|apply IsS76.alloc|apply IsS76.drewN|apply IsS76.drew|apply IsS76.set_1|apply IsS76.set_2)|exact HI0.out)) (by (with_reducible repeat (first|apply aR|apply nR|apply dR));exact HO_4.out) (by decide)) hk (fun _ h=>h.2)) (fun _ h=>h.1));have n1_:=mk0 (Kd.R_mono (Kd.R_keep (IsS76.apart (show IsS76 w0 _ g s0_0 x1001_1 x1002_1 from by repeat (first|(with_reducible first|exact HI0.out|apply IsS76.alloc|apply IsS76.drewN|apply IsS76.drew|apply IsS76.set_1|apply IsS76.set_2)|exact HI0.out)) (by (with_reducible repeat (first|apply aR|apply nR|apply dR));exact HO_5.out) (by decide)) hk (fun _ h=>h.2)) (fun _ h=>h.1));have n2_:=mk0 (KeepBut.trans (by repeat (first|(with_reducible first|exact HK.out|apply KeepBut.set_|apply keep_drewN|apply keep_drew|apply keep_alloc)|exact HK.out)) hk (.inl rfl));have n3_:=mk0 (hb);have n4_:=mk0 (hi);clear HO_4 HO_5 HK HB HI0;have HO_4:=n0_;have HO_5:=n1_;have HK:=n2_;have HB:=n3_;have HI0:=n4_;clear n0_ n1_ n2_ n3_ n4_;(try clear hb);(try clear hb2);(try clear hk);(try clear hi)))
   (try simp only [Act.put,sA,sO,sS])
   go_cut [5] (fun v5 wc=>∃ (kq:Nat) (x5_31:List Int) (x1001_31:Int) (x1002_31:Int),Aside0 (spec_l01Cur_rows.j2 kq t259 x5_31 s0_0 x1001_31 x1002_31 = some (r1,r2,r3,r4)) ∧ Aside0 (kq ≤ k1) ∧ Aside0 (Kd.R (Kd.int .i64) 3 wc w.heap.size (fun k_=>some k_ ≠ (v5:Value).ownBlock) (.slice Ao33 t259.length co33) t259) ∧ Aside0 (Kd.R (Kd.int .i64) 3 wc w.heap.size (fun k_=>some k_ ≠ ((.slice Ao33 t259.length co33):Value).ownBlock) v5 x5_31) ∧ Aside0 (IsS76 w0 wc g s0_0 x1001_31 x1002_31) ∧ Aside0 (KeepBut w wc g none) ∧ Aside0 (Below w0.heap.size w0 wc))
   case first =>
    have H:=HC32.out
    clear HC32
    by_cases c35:t283 = true
    rotate_left
    ·replace c35:=Bool.eq_false_iff.mpr c35
     subst c35
     have H1:(spec_l01Cur_rows.j2 k1 t259 x5_1 s0_0 t284 t285) = some (r1,r2,r3,r4):=by rw [if_neg (show ¬ (false = true) by decide)] at H;exact H
     clear H
     have H:=H1
     clear H1
     have H':=mk0 H
     clear H
     go_wp2
     go_meet
     case rel=>exact⟨_,(x5_1),(t284),(t285),H',⟨by have:=HK1.out;first|omega|exact Nat.le_refl _⟩,⟨by (with_reducible repeat (first|apply aR|apply nR|apply dR));exact HO_4.out⟩,⟨by (with_reducible repeat (first|apply aR|apply nR|apply dR));exact HO_5.out⟩,⟨by repeat (first|(with_reducible first|exact HI0.out|apply IsS76.alloc|apply IsS76.drewN|apply IsS76.drew|apply IsS76.set_1|apply IsS76.set_2)|exact HI0.out)⟩,⟨by repeat (first|(with_reducible first|exact HK.out|apply KeepBut.set_|apply keep_drewN|apply keep_drew|apply keep_alloc)|exact HK.out)⟩,⟨by repeat (first|(with_reducible first|exact HB.out|apply aZ|apply nZ|apply dZ|refine sZ ?_ (IsS76.ge HI0.out))|exact HB.out)⟩⟩
    subst c35
    have H1:((spec_l01Cur_numbers.f k1 s0_0 t284 t285 14 4).bind fun bt286=>(spec_l01Cur_rows.j2 k1 t259 bt286.1 s0_0 bt286.2.1 bt286.2.2)) = some (r1,r2,r3,r4):=by rw [if_pos rfl] at H;exact H
    clear H
    have H:=H1
    clear H1
    replace H:=Option.bind_eq_some_iff.mp H
    obtain⟨⟨t286,t289,t290⟩,A360,H⟩:=H
    replace H:(spec_l01Cur_rows.j2 k1 t259 t286 s0_0 t289 t290) = some (r1,r2,r3,r4):=H
    have A36:=mk0 A360
    clear A360
    have H':=mk0 H
    clear H
    go_wp2_with (first|((with_reducible refine gate_callee (f:=55) rfl ?_);refine goesL_ (some 41) rfl rfl Try.func55 (by kernel_rfl) rfl #[.pointer (some ⟨g,0,none⟩),.int .i64 14,.int .i64 4] rfl (by (try simp only [mA,mC,mN]);first|done|rfl|(simp only [List.length_drop,List.length_take];rfl)) ?_;(with_reducible refine (spec_l01Cur_numbers.calls k1 g s0_0 t284 t285 14 4 t286 t289 t290 w0 _ ?side1 ?side2 A36.out).mono ?_);(case side1=>repeat (first|(with_reducible first|exact HI0.out|apply IsS76.alloc|apply IsS76.drewN|apply IsS76.drew|apply IsS76.set_1|apply IsS76.set_2)|exact HI0.out));(case side2=>repeat (first|(with_reducible first|exact HB.out|apply aZ|apply nZ|apply dZ|refine sZ ?_ (IsS76.ge HI0.out))|exact HB.out));rintro e w37 ⟨v287,rfl,ho0,hi,hb,hk⟩;refine⟨_,rfl,?_⟩;have n0_:=mk0 (Kd.R_mono (Kd.R_told (Kd.R_oldK (IsS76.apart (show IsS76 w0 _ g s0_0 t284 t285 from by repeat (first|(with_reducible first|exact HI0.out|apply IsS76.alloc|apply IsS76.drewN|apply IsS76.drew|apply IsS76.set_1|apply IsS76.set_2)|exact HI0.out)) (by (with_reducible repeat (first|apply aR|apply nR|apply dR));exact HO_4.out) (by decide)) hk) (Kd.R_base ho0)) (fun _ h_=>h_.1));have n1_:=mk0 (Kd.R_mono (Kd.R_told (Kd.R_oldK (IsS76.apart (show IsS76 w0 _ g s0_0 t284 t285 from by repeat (first|(with_reducible first|exact HI0.out|apply IsS76.alloc|apply IsS76.drewN|apply IsS76.drew|apply IsS76.set_1|apply IsS76.set_2)|exact HI0.out)) (by (with_reducible repeat (first|apply aR|apply nR|apply dR));exact HO_5.out) (by decide)) hk) (Kd.R_base ho0)) (fun _ h_=>h_.1));have n2_:=mk0 (Kd.R_lower (Kd.R_new' (Kd.R_new' ho0 (Kd.R_lt (by (with_reducible repeat (first|apply aR|apply nR|apply dR));exact HO_4.out))) (Kd.R_lt (by (with_reducible repeat (first|apply aR|apply nR|apply dR));exact HO_5.out))) (keep_size (w:=w) (g:=g) (row:=none) (by repeat (first|(with_reducible first|exact HK.out|apply KeepBut.set_|apply keep_drewN|apply keep_drew|apply keep_alloc)|exact HK.out))));have n3_:=mk0 (KeepBut.trans (by repeat (first|(with_reducible first|exact HK.out|apply KeepBut.set_|apply keep_drewN|apply keep_drew|apply keep_alloc)|exact HK.out)) hk (.inl rfl));have n4_:=mk0 (hb);have n5_:=mk0 (hi);clear HO_4 HO_5 HK HB HI0;have HO_4:=n0_;have HO_5:=n1_;have HO288:=n2_;have HK:=n3_;have HB:=n4_;have HI0:=n5_;clear n0_ n1_ n2_ n3_ n4_ n5_;(try clear hb);(try clear hb2);(try clear hk);(try clear hi);(try clear ho0)))
    go_meet
    case rel=>exact⟨_,(t286),(t289),(t290),H',⟨by have:=HK1.out;first|omega|exact Nat.le_refl _⟩,⟨by (with_reducible repeat (first|apply aR|apply nR|apply dR));exact Kd.R_mono HO_4.out (fun _ hk=>hk.2)⟩,⟨by (with_reducible repeat (first|apply aR|apply nR|apply dR));exact Kd.R_mono HO288.out (fun _ hk=>hk.1.2)⟩,⟨by repeat (first|(with_reducible first|exact HI0.out|apply IsS76.alloc|apply IsS76.drewN|apply IsS76.drew|apply IsS76.set_1|apply IsS76.set_2)|exact HI0.out)⟩,⟨by repeat (first|(with_reducible first|exact HK.out|apply KeepBut.set_|apply keep_drewN|apply keep_drew|apply keep_alloc)|exact HK.out)⟩,⟨by repeat (first|(with_reducible first|exact HB.out|apply aZ|apply nZ|apply dZ|refine sZ ?_ (IsS76.ge HI0.out))|exact HB.out)⟩⟩
   case rest =>
    clear HC32
    try clear c1
    try clear c2
    try clear p2
    try clear q2
    try clear hx2
    try clear c3
    try clear c3b0
    try clear c4
    try clear c4b0
    try clear c5
    try clear p6
    try clear c13
    try clear c13b0
    try clear c18
    try clear c20
    try clear c24
    try clear p25
    try clear q25
    try clear hx25
    try clear c26
    try clear c26b0
    try clear c27
    try clear c27b0
    try clear p27
    try clear q27
    try clear hx27
    try clear c28
    try clear c35
    try clear hx258_0
    try clear hx279_0
    try clear p2
    try clear p258
    try clear p279
    try clear q2
    try clear q258
    try clear q279
    obtain⟨kq,x5_31,x1001_31,x1002_31,HA,HJ31,HO_4,HO_5,HI0,HK,HB⟩:=hcut
    cases kq with
    | zero=>exact absurd HA.out (by simp [spec_l01Cur_rows.j2])
    | succ kj31 =>
     have H:=HA.out
     clear HA
     simp only [spec_l01Cur_rows.j2] at H
     replace H:=Option.bind_eq_some_iff.mp H
     obtain⟨⟨t291,t292,t293⟩,A380,H⟩:=H
     replace H:(if t291 = true then ((spec_l01Cur_pick.f s0_0 t292 t293 2).bind fun bt294=>(if 0 ≤ (wrap64 (301 + bt294.1)) then (if (wrap64 (301 + bt294.1):Int).toNat ≤ 35184372088832 then (some ((List.replicate (wrap64 (301 + bt294.1):Int).toNat 0),x5_31,bt294.2.1,bt294.2.2)) else (none)) else (none))) else (some (t259,x5_31,t292,t293))) = some (r1,r2,r3,r4):=H
     have A38:=mk0 A380
     clear A380
     by_cases c39:t291 = true
     rotate_left
     ·replace c39:=Bool.eq_false_iff.mpr c39
      subst c39
      have H1:(some (t259,x5_31,t292,t293)) = some (r1,r2,r3,r4):=by rw [if_neg (show ¬ (false = true) by decide)] at H;exact H
      clear H
      have H:=H1
      clear H1
      simp only [Option.some.injEq,Prod.mk.injEq] at H
      obtain⟨rfl,rfl,rfl,rfl⟩:=H
      go_wp2_with (first|((with_reducible refine gate_callee (f:=56) rfl ?_);refine goesL_ (some 43) rfl rfl Try.func56 (by kernel_rfl) rfl #[.pointer (some ⟨g,0,none⟩),.int .i64 60] rfl (by (try simp only [mA,mC,mN]);first|done|rfl|(simp only [List.length_drop,List.length_take];rfl)) ?_;(with_reducible refine (spec_l01Cur_once.calls g s0_0 x1001_31 x1002_31 60 false t292 t293 w0 _ ?side1 ?side2 A38.out).mono ?_);(case side1=>repeat (first|(with_reducible first|exact HI0.out|apply IsS76.alloc|apply IsS76.drewN|apply IsS76.drew|apply IsS76.set_1|apply IsS76.set_2)|exact HI0.out));(case side2=>repeat (first|(with_reducible first|exact HB.out|apply aZ|apply nZ|apply dZ|refine sZ ?_ (IsS76.ge HI0.out))|exact HB.out));rintro e w48 ⟨rfl,hi,hb,hk⟩;refine⟨_,rfl,?_⟩;have n0_:=mk0 (Kd.R_mono (Kd.R_keep (IsS76.apart (show IsS76 w0 _ g s0_0 x1001_31 x1002_31 from by repeat (first|(with_reducible first|exact HI0.out|apply IsS76.alloc|apply IsS76.drewN|apply IsS76.drew|apply IsS76.set_1|apply IsS76.set_2)|exact HI0.out)) (by (with_reducible repeat (first|apply aR|apply nR|apply dR));exact HO_4.out) (by decide)) hk (fun _ h=>h.2)) (fun _ h=>h.1));have n1_:=mk0 (Kd.R_mono (Kd.R_keep (IsS76.apart (show IsS76 w0 _ g s0_0 x1001_31 x1002_31 from by repeat (first|(with_reducible first|exact HI0.out|apply IsS76.alloc|apply IsS76.drewN|apply IsS76.drew|apply IsS76.set_1|apply IsS76.set_2)|exact HI0.out)) (by (with_reducible repeat (first|apply aR|apply nR|apply dR));exact HO_5.out) (by decide)) hk (fun _ h=>h.2)) (fun _ h=>h.1));have n2_:=mk0 (KeepBut.trans (by repeat (first|(with_reducible first|exact HK.out|apply KeepBut.set_|apply keep_drewN|apply keep_drew|apply keep_alloc)|exact HK.out)) hk (.inl rfl));have n3_:=mk0 (hb);have n4_:=mk0 (hi);clear HO_4 HO_5 HK HB HI0;have HO_4:=n0_;have HO_5:=n1_;have HK:=n2_;have HB:=n3_;have HI0:=n4_;clear n0_ n1_ n2_ n3_ n4_;(try clear hb);(try clear hb2);(try clear hk);(try clear hi)))
      go_ret2
      exact⟨_,_,by first|rfl|(simp [errW_none,errW_some] <;> rfl)|(simp [*,errW_none,errW_some] <;> rfl),by (with_reducible repeat (first|apply aR|apply nR|apply dR));exact HO_4.out,by (with_reducible repeat (first|apply aR|apply nR|apply dR));exact HO_5.out,by repeat (first|(with_reducible first|exact HI0.out|apply IsS76.alloc|apply IsS76.drewN|apply IsS76.drew|apply IsS76.set_1|apply IsS76.set_2)|exact HI0.out),by repeat (first|(with_reducible first|exact HB.out|apply aZ|apply nZ|apply dZ|refine sZ ?_ (IsS76.ge HI0.out))|exact HB.out),by repeat (first|(with_reducible first|exact HK.out|apply KeepBut.set_|apply keep_drewN|apply keep_drew|apply keep_alloc)|exact HK.out)⟩
     subst c39
     have H1:((spec_l01Cur_pick.f s0_0 t292 t293 2).bind fun bt294=>(if 0 ≤ (wrap64 (301 + bt294.1)) then (if (wrap64 (301 + bt294.1):Int).toNat ≤ 35184372088832 then (some ((List.replicate (wrap64 (301 + bt294.1):Int).toNat 0),x5_31,bt294.2.1,bt294.2.2)) else (none)) else (none))) = some (r1,r2,r3,r4):=by rw [if_pos rfl] at H;exact H
     clear H
     have H:=H1
     clear H1
     replace H:=Option.bind_eq_some_iff.mp H
     obtain⟨⟨t294,t295,t296⟩,A400,H⟩:=H
     replace H:(if 0 ≤ (wrap64 (301 + t294)) then (if (wrap64 (301 + t294):Int).toNat ≤ 35184372088832 then (some ((List.replicate (wrap64 (301 + t294):Int).toNat 0),x5_31,t295,t296)) else (none)) else (none)) = some (r1,r2,r3,r4):=H
     have A40:=mk0 A400
     clear A400
     obtain⟨ji41,hji41⟩:∃ j_:Int,(wrap64 (301 + t294)) = j_:=⟨_,rfl⟩
     replace H:(if 0 ≤ (ji41) then (if (ji41:Int).toNat ≤ 35184372088832 then (some ((List.replicate (ji41:Int).toNat 0),x5_31,t295,t296)) else (none)) else (none)) = some (r1,r2,r3,r4):=by first|(rw [hji41] at H;exact H)|(simp only [hji41] at H ⊢;exact H)
     (try rw [hji41] at A38)
     (try rw [hji41] at A40)
     have hji41w:(IntKind.i64.wrap (301 + t294)) = ji41:=(i64_w _).trans hji41
     by_cases c42:0 ≤ (ji41)
     rotate_left
     ·rw [if_neg c42] at H
      exact absurd H (by simp)
     rw [if_pos c42] at H
     have c42b0:=eq_true c42
     have c42b1:decide (0 ≤ (ji41)) = true:=decide_eq_true c42
     clear c42
     by_cases c43:(ji41:Int).toNat ≤ 35184372088832
     rotate_left
     ·rw [if_neg c43] at H
      exact absurd H (by simp)
     rw [if_pos c43] at H
     have c43b0:=eq_true c43
     have c43b1:decide ((ji41:Int).toNat ≤ 35184372088832) = true:=decide_eq_true c43
     clear c43
     obtain⟨y297,hy297⟩:∃ y_:List Int,y_ = (List.replicate (ji41:Int).toNat 0):=⟨_,rfl⟩
     replace H:(some (y297,x5_31,t295,t296)) = some (r1,r2,r3,r4):=by first|(rw [hy297];with_reducible exact H)|(have H2_:=(Option.bind_some _ _).symm.trans H;rw [hy297];with_reducible exact H2_)|(have H2_:=(Option.bind_some _ _).symm.trans H;with_reducible exact H2_)|with_reducible exact H|(rw [hy297];exact H)|exact H
     have Ny297:=mk0 hy297
     clear hy297
     simp only [Option.some.injEq,Prod.mk.injEq] at H
     obtain⟨rfl,rfl,rfl,rfl⟩:=H
     go_wp2_with (first|((with_reducible refine gate_callee (f:=56) rfl ?_);refine goesL_ (some 43) rfl rfl Try.func56 (by kernel_rfl) rfl #[.pointer (some ⟨g,0,none⟩),.int .i64 60] rfl (by (try simp only [mA,mC,mN]);first|done|rfl|(simp only [List.length_drop,List.length_take];rfl)) ?_;(with_reducible refine (spec_l01Cur_once.calls g s0_0 x1001_31 x1002_31 60 true t292 t293 w0 _ ?side1 ?side2 A38.out).mono ?_);(case side1=>repeat (first|(with_reducible first|exact HI0.out|apply IsS76.alloc|apply IsS76.drewN|apply IsS76.drew|apply IsS76.set_1|apply IsS76.set_2)|exact HI0.out));(case side2=>repeat (first|(with_reducible first|exact HB.out|apply aZ|apply nZ|apply dZ|refine sZ ?_ (IsS76.ge HI0.out))|exact HB.out));rintro e w44 ⟨rfl,hi,hb,hk⟩;refine⟨_,rfl,?_⟩;have n0_:=mk0 (Kd.R_mono (Kd.R_keep (IsS76.apart (show IsS76 w0 _ g s0_0 x1001_31 x1002_31 from by repeat (first|(with_reducible first|exact HI0.out|apply IsS76.alloc|apply IsS76.drewN|apply IsS76.drew|apply IsS76.set_1|apply IsS76.set_2)|exact HI0.out)) (by (with_reducible repeat (first|apply aR|apply nR|apply dR));exact HO_4.out) (by decide)) hk (fun _ h=>h.2)) (fun _ h=>h.1));have n1_:=mk0 (Kd.R_mono (Kd.R_keep (IsS76.apart (show IsS76 w0 _ g s0_0 x1001_31 x1002_31 from by repeat (first|(with_reducible first|exact HI0.out|apply IsS76.alloc|apply IsS76.drewN|apply IsS76.drew|apply IsS76.set_1|apply IsS76.set_2)|exact HI0.out)) (by (with_reducible repeat (first|apply aR|apply nR|apply dR));exact HO_5.out) (by decide)) hk (fun _ h=>h.2)) (fun _ h=>h.1));have n2_:=mk0 (KeepBut.trans (by repeat (first|(with_reducible first|exact HK.out|apply KeepBut.set_|apply keep_drewN|apply keep_drew|apply keep_alloc)|exact HK.out)) hk (.inl rfl));have n3_:=mk0 (hb);have n4_:=mk0 (hi);clear HO_4 HO_5 HK HB HI0;have HO_4:=n0_;have HO_5:=n1_;have HK:=n2_;have HB:=n3_;have HI0:=n4_;clear n0_ n1_ n2_ n3_ n4_;(try clear hb);(try clear hb2);(try clear hk);(try clear hi))|((with_reducible refine gate_callee (f:=50) rfl ?_);refine goesL_ (some 45) rfl rfl Try.func50 (by kernel_rfl) rfl #[.pointer (some ⟨g,0,none⟩),.int .i64 2] rfl (by (try simp only [mA,mC,mN]);first|done|rfl|(simp only [List.length_drop,List.length_take];rfl)) ?_;(with_reducible refine (spec_l01Cur_pick.calls g s0_0 t292 t293 2 t294 t295 t296 w0 _ ?side1 ?side2 A40.out).mono ?_);(case side1=>repeat (first|(with_reducible first|exact HI0.out|apply IsS76.alloc|apply IsS76.drewN|apply IsS76.drew|apply IsS76.set_1|apply IsS76.set_2)|exact HI0.out));(case side2=>repeat (first|(with_reducible first|exact HB.out|apply aZ|apply nZ|apply dZ|refine sZ ?_ (IsS76.ge HI0.out))|exact HB.out));rintro e w45 ⟨rfl,hi,hb,hk⟩;refine⟨_,rfl,?_⟩;have n0_:=mk0 (Kd.R_mono (Kd.R_keep (IsS76.apart (show IsS76 w0 _ g s0_0 t292 t293 from by repeat (first|(with_reducible first|exact HI0.out|apply IsS76.alloc|apply IsS76.drewN|apply IsS76.drew|apply IsS76.set_1|apply IsS76.set_2)|exact HI0.out)) (by (with_reducible repeat (first|apply aR|apply nR|apply dR));exact HO_4.out) (by decide)) hk (fun _ h=>h.2)) (fun _ h=>h.1));have n1_:=mk0 (Kd.R_mono (Kd.R_keep (IsS76.apart (show IsS76 w0 _ g s0_0 t292 t293 from by repeat (first|(with_reducible first|exact HI0.out|apply IsS76.alloc|apply IsS76.drewN|apply IsS76.drew|apply IsS76.set_1|apply IsS76.set_2)|exact HI0.out)) (by (with_reducible repeat (first|apply aR|apply nR|apply dR));exact HO_5.out) (by decide)) hk (fun _ h=>h.2)) (fun _ h=>h.1));have n2_:=mk0 (KeepBut.trans (by repeat (first|(with_reducible first|exact HK.out|apply KeepBut.set_|apply keep_drewN|apply keep_drew|apply keep_alloc)|exact HK.out)) hk (.inl rfl));have n3_:=mk0 (hb);have n4_:=mk0 (hi);clear HO_4 HO_5 HK HB HI0;have HO_4:=n0_;have HO_5:=n1_;have HK:=n2_;have HB:=n3_;have HI0:=n4_;clear n0_ n1_ n2_ n3_ n4_;(try clear hb);(try clear hb2);(try clear hk);(try clear hi))|((with_reducible refine gate_dst (N:=47) rfl ?_);refine Kd.R_make (Kd.int .i64) _ 3 rfl (N:=47) rfl 22 _ _ rfl ji41 rfl rfl Try.underlying22 (.int .i64 0) 8 info3 rfl (by decide) (by omega) 0 (ok:=fun _=>True) (okp:=fun _=>True) rfl (fun _ hk=>hk) trivial (of_decide_eq_true (by first|(with_reducible assumption)|assumption)) (Nat.le_trans (Nat.mul_le_mul_right _ (of_decide_eq_true (by first|(with_reducible assumption)|assumption):ji41.toNat ≤ 35184372088832)) (by omega)) (Below.refl _ _) (Nat.le_refl _) ?_;intro v298 w46 ho47 hb hg_ hnew_;clear hg_ hnew_;(first|rw [← Ny297.out] at ho47|(simp only [Int.reduceToNat] at ho47;rw [← Ny297.out] at ho47));have n0_:=mk0 (Kd.R_elder' (by (with_reducible repeat (first|apply aR|apply nR|apply dR));exact HO_4.out) (Kd.R_base ho47) hb);have n1_:=mk0 (Kd.R_elder' (by (with_reducible repeat (first|apply aR|apply nR|apply dR));exact HO_5.out) (Kd.R_base ho47) hb);have n2_:=mk0 (Kd.R_lower (Kd.R_new' (Kd.R_new' ho47 (Kd.R_lt (by (with_reducible repeat (first|apply aR|apply nR|apply dR));exact HO_4.out))) (Kd.R_lt (by (with_reducible repeat (first|apply aR|apply nR|apply dR));exact HO_5.out))) (keep_size (w:=w) (g:=g) (row:=none) (by repeat (first|(with_reducible first|exact HK.out|apply KeepBut.set_|apply keep_drewN|apply keep_drew|apply keep_alloc)|exact HK.out))));have n3_:=mk0 (IsS76.below (by repeat (first|(with_reducible first|exact HI0.out|apply IsS76.alloc|apply IsS76.drewN|apply IsS76.drew|apply IsS76.set_1|apply IsS76.set_2)|exact HI0.out)) hb);have n4_:=mk0 (KeepBut.trans (by repeat (first|(with_reducible first|exact HK.out|apply KeepBut.set_|apply keep_drewN|apply keep_drew|apply keep_alloc)|exact HK.out)) (KeepBut.of_below hb g none) (.inl rfl));have n5_:=mk0 (below_step (by repeat (first|(with_reducible first|exact HB.out|apply aZ|apply nZ|apply dZ|refine sZ ?_ (IsS76.ge HI0.out))|exact HB.out)) hb);clear HO_4 HO_5 HI0 HK HB;have HO_4:=n0_;have HO_5:=n1_;have HO299:=n2_;have HI0:=n3_;have HK:=n4_;have HB:=n5_;clear n0_ n1_ n2_ n3_ n4_ n5_ hb ho47))
     go_ret2
     exact⟨_,_,by first|rfl|(simp [errW_none,errW_some] <;> rfl)|(simp only [← hji41];first|rfl|(simp [errW_none,errW_some] <;> rfl))|(simp [*,errW_none,errW_some] <;> rfl),by (with_reducible repeat (first|apply aR|apply nR|apply dR));exact Kd.R_mono HO299.out (fun _ hk=>hk.2),by (with_reducible repeat (first|apply aR|apply nR|apply dR));exact Kd.R_mono HO_5.out (fun _ hk=>hk.2),by repeat (first|(with_reducible first|exact HI0.out|apply IsS76.alloc|apply IsS76.drewN|apply IsS76.drew|apply IsS76.set_1|apply IsS76.set_2)|exact HI0.out),by repeat (first|(with_reducible first|exact HB.out|apply aZ|apply nZ|apply dZ|refine sZ ?_ (IsS76.ge HI0.out))|exact HB.out),by repeat (first|(with_reducible first|exact HK.out|apply KeepBut.set_|apply keep_drewN|apply keep_drew|apply keep_alloc)|exact HK.out)⟩
end Go.Proofs.Ytlnmkgeoiinjfaa.QFnCommon
