-- A walk, made by walk.py, a program of this session's.
import Derived.Test.YtadhngelhognaaaQFnSharex0
import Derived.Test.YtadhngelhognaaaQFnSharex12
namespace Go.Proofs.Ytadhngelhognaaa.QFnShare
open Go.RowKit Go.Proofs.YtadhngelhognaaaW.PrintWords Go.Proofs.YtadhngelhognaaaW.PrintLast Go.Proofs.YtadhngelhognaaaW.PrintMore
attribute [local go_sem] max2_int min2_int max_two min_two max_three min_three max_four min_four   -- for this text's walks alone
set_option linter.unusedVariables false
set_option linter.unusedSimpArgs false
/-! ### spec_l01Cur_pick: function 68 -/
def spec_l01Cur_pick.f (s0_0 : List Int) (s0_1 : Int) (s0_2 : Int) (a1 : Int) : Option (Int × Int × Int) := if a1 < 2 then (some (0, s0_1, s0_2)) else (if s0_1 < (s0_0.length : Int) then (if 0 ≤ s0_1 then (if a1 = 0 then (none) else (some (Int.tmod (wrap64 (rd s0_0 s0_1)) a1, wrap64 (s0_1 + 1), s0_2))) else (none)) else (if (s0_0.length : Int) > 0 then (if (s0_0.length : Int) = 0 then (none) else (if 0 ≤ (Int.tmod s0_1 (s0_0.length : Int)) then (if (Int.tmod s0_1 (s0_0.length : Int)) < (s0_0.length : Int) then (if a1 = 0 then (none) else (some (Int.tmod (wrap64 ((wrap64 (Int.tdiv (Int.tmod (wrap64 ((wrap64 (s0_2 * 1103)) + 12345)) 65521) 7)) + (wrap64 (rd s0_0 (Int.tmod s0_1 (s0_0.length : Int)))))) a1, wrap64 (s0_1 + 1), Int.tmod (wrap64 ((wrap64 (s0_2 * 1103)) + 12345)) 65521))) else (none)) else (none))) else (if a1 = 0 then (none) else (some ((0 : Int) % a1, wrap64 (s0_1 + 1), Int.tmod (wrap64 ((wrap64 (s0_2 * 1103)) + 12345)) 65521)))))
set_option maxHeartbeats 8000000 in
set_option maxRecDepth 100000 in
theorem spec_l01Cur_pick.calls (g : Nat) (s0_0 : List Int) (s0_1 : Int) (s0_2 : Int) (a1 : Int) (r1 : Int) (r2 : Int) (r3 : Int) (w0 w : World) (hI : IsS79 w0 w g s0_0 s0_1 s0_2) (hB : Below w0.heap.size w0 w) (h : spec_l01Cur_pick.f s0_0 s0_1 s0_2 a1 = some (r1, r2, r3)) :
  Calls Try.prog 68 #[.pointer (some ⟨g, 0, none⟩), .int .i64 a1] w fun e w' => e = .returned (.int .i64 r1) ∧ IsS79 w0 w' g s0_0 r2 r3 ∧ Below w0.heap.size w0 w' ∧ KeepBut w w' g none := by
 have HI0:=mk0 hI
 have HK:=mk0 (KeepBut.refl w g none)
 have HL:=mk0 hB.size
 clear hI
 have HW0:=mk0 hB.size
 have HB:=mk0 hB
 clear hB
 have H:(if a1 < 2 then (some (0,s0_1,s0_2)) else (if s0_1 < (s0_0.length:Int) then (if 0 ≤ s0_1 then (if a1 = 0 then (none) else (some (Int.tmod (wrap64 (rd s0_0 s0_1)) a1,wrap64 (s0_1 + 1),s0_2))) else (none)) else (if (s0_0.length:Int) > 0 then (if (s0_0.length:Int) = 0 then (none) else (if 0 ≤ (Int.tmod s0_1 (s0_0.length:Int)) then (if (Int.tmod s0_1 (s0_0.length:Int)) < (s0_0.length:Int) then (if a1 = 0 then (none) else (some (Int.tmod (wrap64 ((wrap64 (Int.tdiv (Int.tmod (wrap64 ((wrap64 (s0_2 * 1103)) + 12345)) 65521) 7)) + (wrap64 (rd s0_0 (Int.tmod s0_1 (s0_0.length:Int)))))) a1,wrap64 (s0_1 + 1),Int.tmod (wrap64 ((wrap64 (s0_2 * 1103)) + 12345)) 65521))) else (none)) else (none))) else (if a1 = 0 then (none) else (some ((0:Int) % a1,wrap64 (s0_1 + 1),Int.tmod (wrap64 ((wrap64 (s0_2 * 1103)) + 12345)) 65521)))))) = some (r1,r2,r3):=h
 clear h
 by_cases c3:a1 < 2
 ·rw [if_pos c3] at H
  have c3b0:decide (a1 < 2) = true:=decide_eq_true c3
  clear c3
  simp only [Option.some.injEq,Prod.mk.injEq] at H
  obtain⟨rfl,rfl,rfl⟩:=H
  go_enter Try.func68,Try.ntmps68
  go_wp2
  repeat (go_quiet (fail);try go_wp2)
  go_ret
  exact⟨eR,by repeat (first|(with_reducible first|exact HI0.out|apply IsS79.alloc|apply IsS79.drewN|apply IsS79.drew|apply IsS79.set_1|apply IsS79.set_2)|exact HI0.out),by repeat (first|(with_reducible first|exact HB.out|apply aZ|apply nZ|apply dZ|refine sZ ?_ (IsS79.ge HI0.out))|exact HB.out),by repeat (first|(with_reducible first|exact HK.out|apply KeepBut.set_|apply keep_drewN|apply keep_drew|apply keep_alloc)|exact HK.out)⟩
 ·rw [if_neg c3] at H
  have c3b0:decide (a1 < 2) = false:=decide_eq_false c3
  clear c3
  by_cases c4:s0_1 < (s0_0.length:Int)
  ·rw [if_pos c4] at H
   have c4b0:decide (s0_1 < (s0_0.length:Int)) = true:=decide_eq_true c4
   clear c4
   by_cases c5:0 ≤ s0_1
   ·rw [if_pos c5] at H
    have c5b0:decide (0 ≤ s0_1) = true:=decide_eq_true c5
    clear c5
    by_cases c6:a1 = 0
    ·rw [if_pos c6] at H
     exact nn H
    ·rw [if_neg c6] at H
     have c6b0:(a1 == 0) = false:=beq_eq_false_iff_ne.mpr c6
     have c6b1:(a1 != 0) = true:=bne_iff_ne.mpr c6
     simp only [Option.some.injEq,Prod.mk.injEq] at H
     obtain⟨rfl,rfl,rfl⟩:=H
     obtain⟨ASz7_0,cSz7_0,HGz7,hgz7,HSz7_0⟩:=HI0.out
     have hcz7_0:=cellS79_0 HGz7
     have hcz7_1:=cellS79_1 HGz7
     have hcz7_2:=cellS79_2 HGz7
     have hfz7_1:=blk_frozen HGz7 1
     have hfz7_2:=blk_frozen HGz7 2
     clear HGz7 hgz7
     have p486:0 ≤ (s0_1:Int):=oD
     have q486:s0_1 < (s0_0.length:Int):=oD
     obtain⟨ad486,e486,hx486_0⟩:=Kd.at_int HSz7_0 s0_1 p486 q486
     cases e486
     replace hx486_0:=pw_cell_below HB.out hx486_0
     replace p486:=eq_true p486
     replace q486:=eq_true q486
     go_enter Try.func68,Try.ntmps68
     go_wp2
     repeat (go_quiet (fail);try go_wp2)
     go_ret
     exact⟨eR,by repeat (first|(with_reducible first|exact HI0.out|apply IsS79.alloc|apply IsS79.drewN|apply IsS79.drew|apply IsS79.set_1|apply IsS79.set_2)|exact HI0.out),by repeat (first|(with_reducible first|exact HB.out|apply aZ|apply nZ|apply dZ|refine sZ ?_ (IsS79.ge HI0.out))|exact HB.out),by repeat (first|(with_reducible first|exact HK.out|apply KeepBut.set_|apply keep_drewN|apply keep_drew|apply keep_alloc)|exact HK.out)⟩
   ·rw [if_neg c5] at H
    exact nn H
  ·rw [if_neg c4] at H
   have c4b0:decide (s0_1 < (s0_0.length:Int)) = false:=decide_eq_false c4
   clear c4
   by_cases c8:(s0_0.length:Int) > 0
   ·rw [if_pos c8] at H
    have c8b0:decide (0 < (s0_0.length:Int)) = true:=decide_eq_true c8
    have c8b1:decide (0 < s0_0.length) = true:=decide_eq_true (by omega)
    clear c8
    by_cases c9:(s0_0.length:Int) = 0
    ·rw [if_pos c9] at H
     exact nn H
    ·rw [if_neg c9] at H
     have c9b0:((s0_0.length:Int) == 0) = false:=beq_eq_false_iff_ne.mpr c9
     have c9b1:((s0_0.length:Int) != 0) = true:=bne_iff_ne.mpr c9
     have c9b2:¬ (s0_0 = []):=fun h_=>c9 (by rw [h_];rfl)
     obtain⟨ji10,hji10⟩:∃ j_:Int,(Int.tmod s0_1 (s0_0.length:Int)) = j_:=⟨_,rfl⟩
     first|rw [hji10] at H|simp only [hji10] at H
     by_cases c11:0 ≤ (ji10)
     ·rw [if_pos c11] at H
      have c11b0:decide (0 ≤ (ji10)) = true:=decide_eq_true c11
      clear c11
      by_cases c12:(ji10) < (s0_0.length:Int)
      ·rw [if_pos c12] at H
       have c12b0:decide ((ji10) < (s0_0.length:Int)) = true:=decide_eq_true c12
       clear c12
       by_cases c13:a1 = 0
       ·rw [if_pos c13] at H
        exact nn H
       ·rw [if_neg c13] at H
        have c13b0:(a1 == 0) = false:=beq_eq_false_iff_ne.mpr c13
        have c13b1:(a1 != 0) = true:=bne_iff_ne.mpr c13
        simp only [Option.some.injEq,Prod.mk.injEq] at H
        obtain⟨rfl,rfl,rfl⟩:=H
        obtain⟨ASz14_0,cSz14_0,HGz14,hgz14,HSz14_0⟩:=HI0.out
        have hcz14_0:=cellS79_0 HGz14
        have hcz14_1:=cellS79_1 HGz14
        have hcz14_2:=cellS79_2 HGz14
        have hfz14_1:=blk_frozen HGz14 1
        have hfz14_2:=blk_frozen HGz14 2
        clear HGz14 hgz14
        have p487:0 ≤ ((ji10):Int):=oD
        have q487:(ji10) < (s0_0.length:Int):=oD
        obtain⟨ad487,e487,hx487_0⟩:=Kd.at_int HSz14_0 (ji10) p487 q487
        cases e487
        have hn487_0:ad487.block ≠ g:=Nat.ne_of_lt (Nat.lt_of_lt_of_le (by have:=World.block_lt_of_cell? _ _ hx487_0;first|rwa [add_block] at this|exact this) (IsS79.ge HI0.out))
        replace hx487_0:=pw_cell_below HB.out hx487_0
        replace hx487_0:=(cell_far (p:=⟨g,2,none⟩) (by first|(rw [add_block];exact hn487_0)|(show (Addr.add _ _).block ≠ _;rw [add_block];exact hn487_0)|exact hn487_0) (.int .i64 (Int.tmod (wrap64 ((wrap64 (s0_2 * 1103)) + 12345)) 65521))).trans hx487_0
        (try have hy487_0:=fun (n_:Nat)=>(show (((w.drewN n_).setCell ⟨g,2,none⟩ (.int .i64 (Int.tmod (wrap64 ((wrap64 (s0_2 * 1103)) + 12345)) 65521)))).cell? _ = some _ from hx487_0))
        clear hn487_0
        replace p487:=eq_true p487
        replace q487:=eq_true q487
        go_enter Try.func68,Try.ntmps68
        go_wp2
        repeat (go_quiet (fail);try go_wp2)
        go_ret
        exact⟨by first|rfl|(simp [errW_none,errW_some] <;> rfl)|(simp only [← hji10];first|rfl|(simp [errW_none,errW_some] <;> rfl))|(simp [*,errW_none,errW_some] <;> rfl),by repeat (first|(with_reducible first|exact HI0.out|apply IsS79.alloc|apply IsS79.drewN|apply IsS79.drew|apply IsS79.set_1|apply IsS79.set_2)|exact HI0.out),by repeat (first|(with_reducible first|exact HB.out|apply aZ|apply nZ|apply dZ|refine sZ ?_ (IsS79.ge HI0.out))|exact HB.out),by repeat (first|(with_reducible first|exact HK.out|apply KeepBut.set_|apply keep_drewN|apply keep_drew|apply keep_alloc)|exact HK.out)⟩
      ·rw [if_neg c12] at H
       exact nn H
     ·rw [if_neg c11] at H
      exact nn H
   ·rw [if_neg c8] at H
    have c8b0:decide (0 < (s0_0.length:Int)) = false:=decide_eq_false c8
    have c8b1:decide (0 < s0_0.length) = false:=decide_eq_false (by omega)
    clear c8
    by_cases c15:a1 = 0
    ·rw [if_pos c15] at H
     exact nn H
    ·rw [if_neg c15] at H
     have c15b0:(a1 == 0) = false:=beq_eq_false_iff_ne.mpr c15
     have c15b1:(a1 != 0) = true:=bne_iff_ne.mpr c15
     simp only [Option.some.injEq,Prod.mk.injEq] at H
     obtain⟨rfl,rfl,rfl⟩:=H
     obtain⟨ASz16_0,cSz16_0,HGz16,hgz16,HSz16_0⟩:=HI0.out
     have hcz16_0:=cellS79_0 HGz16
     have hcz16_1:=cellS79_1 HGz16
     have hcz16_2:=cellS79_2 HGz16
     have hfz16_1:=blk_frozen HGz16 1
     have hfz16_2:=blk_frozen HGz16 2
     clear HGz16 hgz16
     go_enter Try.func68,Try.ntmps68
     go_wp2
     repeat (go_quiet (fail);try go_wp2)
     go_ret
     exact⟨eR,by repeat (first|(with_reducible first|exact HI0.out|apply IsS79.alloc|apply IsS79.drewN|apply IsS79.drew|apply IsS79.set_1|apply IsS79.set_2)|exact HI0.out),by repeat (first|(with_reducible first|exact HB.out|apply aZ|apply nZ|apply dZ|refine sZ ?_ (IsS79.ge HI0.out))|exact HB.out),by repeat (first|(with_reducible first|exact HK.out|apply KeepBut.set_|apply keep_drewN|apply keep_drew|apply keep_alloc)|exact HK.out)⟩
/-! ### spec_l01Cur_once: function 69 -/
def spec_l01Cur_once.f (s0_0 : List Int) (s0_1 : Int) (s0_2 : Int) (a1 : Int) : Option (Bool × Int × Int) := (spec_l01Cur_pick.f s0_0 s0_1 s0_2 a1).bind fun bt488 => (some ((bt488.1 == (wrap64 (a1 - 1))), bt488.2.1, bt488.2.2))
set_option maxHeartbeats 8000000 in
set_option maxRecDepth 100000 in
theorem spec_l01Cur_once.calls (g : Nat) (s0_0 : List Int) (s0_1 : Int) (s0_2 : Int) (a1 : Int) (r1 : Bool) (r2 : Int) (r3 : Int) (w0 w : World) (hI : IsS79 w0 w g s0_0 s0_1 s0_2) (hB : Below w0.heap.size w0 w) (h : spec_l01Cur_once.f s0_0 s0_1 s0_2 a1 = some (r1, r2, r3)) :
  Calls Try.prog 69 #[.pointer (some ⟨g, 0, none⟩), .int .i64 a1] w fun e w' => e = .returned (.bool r1) ∧ IsS79 w0 w' g s0_0 r2 r3 ∧ Below w0.heap.size w0 w' ∧ KeepBut w w' g none := by
 have HI0:=mk0 hI
 have HK:=mk0 (KeepBut.refl w g none)
 have HL:=mk0 hB.size
 clear hI
 have HW0:=mk0 hB.size
 have HB:=mk0 hB
 clear hB
 have H:((spec_l01Cur_pick.f s0_0 s0_1 s0_2 a1).bind fun bt488=>(some ((bt488.1 == (wrap64 (a1 - 1))),bt488.2.1,bt488.2.2))) = some (r1,r2,r3):=h
 clear h
 replace H:=bE H
 obtain⟨⟨t488,t489,t490⟩,A3,H⟩:=H
 dsimp only at H
 simp only [Option.some.injEq,Prod.mk.injEq] at H
 obtain⟨rfl,rfl,rfl⟩:=H
 go_enter Try.func69,Try.ntmps69
 go_wp2_with (first|((with_reducible refine gate_callee (f:=68) rfl ?_);refine gL (some 7) Try.func68 #[.pointer (some ⟨g,0,none⟩),.int .i64 a1] ?_;(with_reducible refine (spec_l01Cur_pick.calls g s0_0 s0_1 s0_2 a1 t488 t489 t490 w0 _ ?side1 ?side2 A3.out).mono ?_);(case side1=>repeat (first|(with_reducible first|exact HI0.out|apply IsS79.alloc|apply IsS79.drewN|apply IsS79.drew|apply IsS79.set_1|apply IsS79.set_2)|exact HI0.out));(case side2=>repeat (first|(with_reducible first|exact HB.out|apply aZ|apply nZ|apply dZ|refine sZ ?_ (IsS79.ge HI0.out))|exact HB.out));rintro e w4 ⟨rfl,hi,hb,hk⟩;refine⟨_,rfl,?_⟩;replace HK:=mk0 (KeepBut.trans (by repeat (first|(with_reducible first|exact HK.out|apply KeepBut.set_|apply keep_drewN|apply keep_drew|apply keep_alloc)|exact HK.out)) hk (.inl rfl));replace HB:=mk0 (hb);replace HI0:=mk0 (hi);(try clear hb);(try clear hk);(try clear hi)))
 go_ret
 exact⟨eR,by repeat (first|(with_reducible first|exact HI0.out|apply IsS79.alloc|apply IsS79.drewN|apply IsS79.drew|apply IsS79.set_1|apply IsS79.set_2)|exact HI0.out),by repeat (first|(with_reducible first|exact HB.out|apply aZ|apply nZ|apply dZ|refine sZ ?_ (IsS79.ge HI0.out))|exact HB.out),by repeat (first|(with_reducible first|exact HK.out|apply KeepBut.set_|apply keep_drewN|apply keep_drew|apply keep_alloc)|exact HK.out)⟩
/-! ### spec_l01Cur_size: function 82 -/
def spec_l01Cur_size.f (s0_0 : List Int) (s0_1 : Int) (s0_2 : Int) (a1 : Int) : Option (Int × Int × Int) := (spec_l01Cur_pick.f s0_0 s0_1 s0_2 (wrap64 ((mn a1 (wrap64 (1 + (wrap64 ((s0_0.length : Int) / 8))))) + 1))).bind fun bt491 => (some (bt491.1, bt491.2.1, bt491.2.2))
set_option maxHeartbeats 8000000 in
set_option maxRecDepth 100000 in
theorem spec_l01Cur_size.calls (g : Nat) (s0_0 : List Int) (s0_1 : Int) (s0_2 : Int) (a1 : Int) (r1 : Int) (r2 : Int) (r3 : Int) (w0 w : World) (hI : IsS79 w0 w g s0_0 s0_1 s0_2) (hB : Below w0.heap.size w0 w) (h : spec_l01Cur_size.f s0_0 s0_1 s0_2 a1 = some (r1, r2, r3)) :
  Calls Try.prog 82 #[.pointer (some ⟨g, 0, none⟩), .int .i64 a1] w fun e w' => e = .returned (.int .i64 r1) ∧ IsS79 w0 w' g s0_0 r2 r3 ∧ Below w0.heap.size w0 w' ∧ KeepBut w w' g none := by
 have HI0:=mk0 hI
 have HK:=mk0 (KeepBut.refl w g none)
 have HL:=mk0 hB.size
 clear hI
 have HW0:=mk0 hB.size
 have HB:=mk0 hB
 clear hB
 have H:((spec_l01Cur_pick.f s0_0 s0_1 s0_2 (wrap64 ((mn a1 (wrap64 (1 + (wrap64 ((s0_0.length:Int) / 8))))) + 1))).bind fun bt491=>(some (bt491.1,bt491.2.1,bt491.2.2))) = some (r1,r2,r3):=h
 clear h
 obtain⟨ji3,hji3⟩:∃ j_:Int,(mn a1 (wrap64 (1 + (wrap64 ((s0_0.length:Int) / 8))))) = j_:=⟨_,rfl⟩
 first|rw [hji3] at H|simp only [hji3] at H
 have hji3_:(if (wrap64 (1 + (wrap64 ((s0_0.length:Int) / 8)))) < a1 then (wrap64 (1 + (wrap64 ((s0_0.length:Int) / 8)))) else a1) = ji3:=hji3
 replace H:=bE H
 obtain⟨⟨t491,t492,t493⟩,A4,H⟩:=H
 dsimp only at H
 simp only [Option.some.injEq,Prod.mk.injEq] at H
 obtain⟨rfl,rfl,rfl⟩:=H
 obtain⟨ASz5_0,cSz5_0,HGz5,hgz5,HSz5_0⟩:=HI0.out
 have hcz5_0:=cellS79_0 HGz5
 have hcz5_1:=cellS79_1 HGz5
 have hcz5_2:=cellS79_2 HGz5
 have hfz5_1:=blk_frozen HGz5 1
 have hfz5_2:=blk_frozen HGz5 2
 clear HGz5 hgz5
 go_enter Try.func82,Try.ntmps82
 go_wp2_with (first|((with_reducible refine gate_callee (f:=68) rfl ?_);refine goesL_ (some 16) rfl rfl Try.func68 (by kernel_rfl) rfl #[.pointer (some ⟨g,0,none⟩),.int .i64 (wrap64 ((ji3) + 1))] rfl (by (try simp only [mA,mC,mN]);first|done|(simp only [hji3];rfl)|rfl|(simp only [List.length_drop,List.length_take];done)|(simp only [List.length_drop,List.length_take];rfl)) ?_;(with_reducible refine (spec_l01Cur_pick.calls g s0_0 s0_1 s0_2 (wrap64 ((ji3) + 1)) t491 t492 t493 w0 _ ?side1 ?side2 A4.out).mono ?_);(case side1=>repeat (first|(with_reducible first|exact HI0.out|apply IsS79.alloc|apply IsS79.drewN|apply IsS79.drew|apply IsS79.set_1|apply IsS79.set_2)|exact HI0.out));(case side2=>repeat (first|(with_reducible first|exact HB.out|apply aZ|apply nZ|apply dZ|refine sZ ?_ (IsS79.ge HI0.out))|exact HB.out));rintro e w6 ⟨rfl,hi,hb,hk⟩;refine⟨_,rfl,?_⟩;replace HK:=mk0 (KeepBut.trans (by repeat (first|(with_reducible first|exact HK.out|apply KeepBut.set_|apply keep_drewN|apply keep_drew|apply keep_alloc)|exact HK.out)) hk (.inl rfl));replace HB:=mk0 (hb);replace HI0:=mk0 (hi);(try clear hb);(try clear hk);(try clear hi)))
 go_ret
 exact⟨by first|rfl|(simp [errW_none,errW_some] <;> rfl)|(simp only [← hji3];first|rfl|(simp [errW_none,errW_some] <;> rfl))|(simp [*,errW_none,errW_some] <;> rfl),by repeat (first|(with_reducible first|exact HI0.out|apply IsS79.alloc|apply IsS79.drewN|apply IsS79.drew|apply IsS79.set_1|apply IsS79.set_2)|exact HI0.out),by repeat (first|(with_reducible first|exact HB.out|apply aZ|apply nZ|apply dZ|refine sZ ?_ (IsS79.ge HI0.out))|exact HB.out),by repeat (first|(with_reducible first|exact HK.out|apply KeepBut.set_|apply keep_drewN|apply keep_drew|apply keep_alloc)|exact HK.out)⟩
/-! ### spec_l01Cur_textOf: function 67 -/
mutual
def spec_l01Cur_textOf.l0 : Nat → Int → List Int → ByteArray → Int → List Int → Int → Int → Option (List Int × Int × Int)
 | 0, _, _, _, _, _, _, _ => none
 | k + 1, x1, x5, x6, x7, x1000, x1001, x1002 => if x7 > 0 then (if (x5.length : Int) > 3 then ((spec_l01Cur_once.f x1000 x1001 x1002 6).bind fun bt507 => (spec_l01Cur_textOf.j1 k x1 x5 x6 x7 bt507.1 x1000 bt507.2.1 bt507.2.2)) else (spec_l01Cur_textOf.j1 k x1 x5 x6 x7 false x1000 x1001 x1002)) else (if (x5.length : Int) > x1 then (if 0 ≤ x1 then (if x1 ≤ (x5.length : Int) then (some ((x5.take (x1 : Int).toNat), x1001, x1002)) else (none)) else (none)) else (some (x5, x1001, x1002)))
def spec_l01Cur_textOf.j1 : Nat → Int → List Int → ByteArray → Int → Bool → List Int → Int → Int → Option (List Int × Int × Int)
 | 0, _, _, _, _, _, _, _, _ => none
 | k + 1, x1, x5, x6, x7, x28, x1000, x1001, x1002 => if x28 = true then ((spec_l01Cur_pick.f x1000 x1001 x1002 (x5.length : Int)).bind fun bt510 => ((spec_l01Cur_pick.f x1000 bt510.2.1 bt510.2.2 6).bind fun bt513 => (if 0 ≤ bt510.1 then (if bt510.1 ≤ (mn (x5.length : Int) (wrap64 ((wrap64 (bt510.1 + 1)) + bt513.1))) then (if (mn (x5.length : Int) (wrap64 ((wrap64 (bt510.1 + 1)) + bt513.1))) ≤ (x5.length : Int) then ((some ((x5.take ((mn (x5.length : Int) (wrap64 ((wrap64 (bt510.1 + 1)) + bt513.1))) : Int).toNat).drop (bt510.1 : Int).toNat : List Int)).bind fun y516 => (if x5.length + y516.length < 140737488355328 then (spec_l01Cur_textOf.l0 k x1 (x5 ++ y516) x6 (wrap64 (x7 - 1)) x1000 bt513.2.1 bt513.2.2) else (none))) else (none)) else (none)) else (none)))) else ((spec_l01Cur_pick.f x1000 x1001 x1002 (x6.size : Int)).bind fun bt523 => (if 0 ≤ bt523.1 then (if bt523.1 < (x6.size : Int) then (if x5.length < 140737488355328 then (spec_l01Cur_textOf.l0 k x1 (x5 ++ [bt x6 bt523.1]) x6 (wrap64 (x7 - 1)) x1000 bt523.2.1 bt523.2.2) else (none)) else (none)) else (none)))
end
def spec_l01Cur_textOf.f (k : Nat) (s0_0 : List Int) (s0_1 : Int) (s0_2 : Int) (a1 : Int) : Option (List Int × Int × Int) := (some (([(⟨#[97]⟩ : ByteArray), (⟨#[97, 98]⟩ : ByteArray), (⟨#[97, 98, 99]⟩ : ByteArray), (⟨#[97, 99, 103, 116]⟩ : ByteArray), (⟨#[0, 255]⟩ : ByteArray)] : List ByteArray) : List ByteArray)).bind fun y497 => ((spec_l01Cur_pick.f s0_0 s0_1 s0_2 5).bind fun bt500 => (if 0 ≤ bt500.1 then (if bt500.1 < (y497.length : Int) then ((spec_l01Cur_size.f s0_0 bt500.2.1 bt500.2.2 a1).bind fun bt504 => (spec_l01Cur_textOf.l0 k a1 (([] : List Int)) (rdOf ByteArray.empty y497 bt500.1) bt504.1 s0_0 bt504.2.1 bt504.2.2)) else (none)) else (none)))
set_option maxHeartbeats 8000000 in
set_option maxRecDepth 100000 in
theorem spec_l01Cur_textOf.calls (k : Nat) (g : Nat) (s0_0 : List Int) (s0_1 : Int) (s0_2 : Int) (a1 : Int) (r1 : List Int) (r2 : Int) (r3 : Int) (w0 w : World) (hI : IsS79 w0 w g s0_0 s0_1 s0_2) (hB : Below w0.heap.size w0 w) (h : spec_l01Cur_textOf.f k s0_0 s0_1 s0_2 a1 = some (r1, r2, r3)) :
  Calls Try.prog 67 #[.pointer (some ⟨g, 0, none⟩), .int .i64 a1] w fun e w' => ∃ v0_ : Value, e = .returned (v0_) ∧ Kd.R (Kd.int .u8) 5 w' w.heap.size (fun _ => True) v0_ r1 ∧ IsS79 w0 w' g s0_0 r2 r3 ∧ Below w0.heap.size w0 w' ∧ KeepBut w w' g none := by
 have HI0:=mk0 hI
 have HK:=mk0 (KeepBut.refl w g none)
 have HL:=mk0 hB.size
 clear hI
 have HW0:=mk0 hB.size
 have HB:=mk0 hB
 clear hB
 have H:((some (([(⟨#[97]⟩:ByteArray),(⟨#[97,98]⟩:ByteArray),(⟨#[97,98,99]⟩:ByteArray),(⟨#[97,99,103,116]⟩:ByteArray),(⟨#[0,255]⟩:ByteArray)]:List ByteArray):List ByteArray)).bind fun y497=>((spec_l01Cur_pick.f s0_0 s0_1 s0_2 5).bind fun bt500=>(if 0 ≤ bt500.1 then (if bt500.1 < (y497.length:Int) then ((spec_l01Cur_size.f s0_0 bt500.2.1 bt500.2.2 a1).bind fun bt504=>(spec_l01Cur_textOf.l0 k a1 (([]:List Int)) (rdOf ByteArray.empty y497 bt500.1) bt504.1 s0_0 bt504.2.1 bt504.2.2)) else (none)) else (none)))) = some (r1,r2,r3):=h
 clear h
 obtain⟨y494,hy494⟩:∃ y_:List Int,y_ = (([]:List Int)):=⟨_,rfl⟩
 first|(with_reducible replace H:=yB hy494 H)|rw [← hy494] at H|skip
 have Ny494:=mk0 hy494
 clear hy494
 obtain⟨y497,hy497⟩:∃ y_:List ByteArray,y_ = (([(⟨#[97]⟩:ByteArray),(⟨#[97,98]⟩:ByteArray),(⟨#[97,98,99]⟩:ByteArray),(⟨#[97,99,103,116]⟩:ByteArray),(⟨#[0,255]⟩:ByteArray)]:List ByteArray)):=⟨_,rfl⟩
 first|(with_reducible replace H:=yB hy497 H)|rw [← hy497] at H|skip
 have Ny497:=mk0 hy497
 clear hy497
 replace H:=bE H
 obtain⟨⟨t500,t501,t502⟩,A3,H⟩:=H
 dsimp only at H
 by_cases c4:0 ≤ t500
 rotate_left
 ·rw [if_neg c4] at H
  exact nn H
 rw [if_pos c4] at H
 have c4b0:decide (0 ≤ t500) = true:=decide_eq_true c4
 clear c4
 by_cases c5:t500 < (y497.length:Int)
 rotate_left
 ·rw [if_neg c5] at H
  exact nn H
 rw [if_pos c5] at H
 have c5b0:decide (t500 < (y497.length:Int)) = true:=decide_eq_true c5
 clear c5
 replace H:=bE H
 obtain⟨⟨t504,t505,t506⟩,A6,H⟩:=H
 dsimp only at H
 have H':=mk0 H
 clear H
 go_enter Try.func67,Try.ntmps67
 go_wp2_with (first|((with_reducible refine gate_dst (N:=9) rfl ?_);refine Kd.R_lit (Kd.int .u8) _ 5 ?hg (N:=9) ?hd (xs:=([]:List Int)) (inner:=[]) (ok:=fun _=>True) (okp:=fun _=>True) ?hr ?hp (fun _ hk=>hk) trivial (Below.refl _ _) (Nat.le_refl _) (by simp) ?_;(case hd=>rfl);(case hg=>rfl);(case hr=>first|(go_simp;done)|(go_simp;rfl));(case hp=>exact (Reps.none _ _));intro v495 w7 ho8 hb hg_ hnew_;clear hg_ hnew_;(first|rw [← Ny494.out] at ho8|(simp only [Int.reduceToNat] at ho8;rw [← Ny494.out] at ho8));have HO496:=mk0 (Kd.R_lower ho8 (keep_size (w:=w) (g:=g) (row:=none) (by repeat (first|(with_reducible first|exact HK.out|apply KeepBut.set_|apply keep_drewN|apply keep_drew|apply keep_alloc)|exact HK.out))));replace HK:=mk0 (KeepBut.trans (by repeat (first|(with_reducible first|exact HK.out|apply KeepBut.set_|apply keep_drewN|apply keep_drew|apply keep_alloc)|exact HK.out)) (KeepBut.of_below hb g none) (.inl rfl));replace HB:=mk0 (below_step (by repeat (first|(with_reducible first|exact HB.out|apply aZ|apply nZ|apply dZ|refine sZ ?_ (IsS79.ge HI0.out))|exact HB.out)) hb);replace HI0:=mk0 (IsS79.below (by repeat (first|(with_reducible first|exact HI0.out|apply IsS79.alloc|apply IsS79.drewN|apply IsS79.drew|apply IsS79.set_1|apply IsS79.set_2)|exact HI0.out)) hb);clear hb ho8)|((with_reducible refine gate_dst (N:=10) rfl ?_);refine Kd.R_lit Kd.string _ 9 ?hg (N:=10) ?hd (xs:=([(⟨#[97]⟩:ByteArray),(⟨#[97,98]⟩:ByteArray),(⟨#[97,98,99]⟩:ByteArray),(⟨#[97,99,103,116]⟩:ByteArray),(⟨#[0,255]⟩:ByteArray)]:List ByteArray)) (inner:=[.string (⟨#[97]⟩:ByteArray),.string (⟨#[97,98]⟩:ByteArray),.string (⟨#[97,98,99]⟩:ByteArray),.string (⟨#[97,99,103,116]⟩:ByteArray),.string (⟨#[0,255]⟩:ByteArray)]) (ok:=fun _=>True) (okp:=fun _=>True) ?hr ?hp (fun _ hk=>hk) trivial (Below.refl _ _) (Nat.le_refl _) (by simp) ?_;(case hd=>rfl);(case hg=>rfl);(case hr=>first|(go_simp;done)|(go_simp;rfl));(case hp=>exact (Reps.one (show Kd.M Kd.string _ _ _ (⟨#[97]⟩:ByteArray) [.string (⟨#[97]⟩:ByteArray)] from rfl) (Reps.one (show Kd.M Kd.string _ _ _ (⟨#[97,98]⟩:ByteArray) [.string (⟨#[97,98]⟩:ByteArray)] from rfl) (Reps.one (show Kd.M Kd.string _ _ _ (⟨#[97,98,99]⟩:ByteArray) [.string (⟨#[97,98,99]⟩:ByteArray)] from rfl) (Reps.one (show Kd.M Kd.string _ _ _ (⟨#[97,99,103,116]⟩:ByteArray) [.string (⟨#[97,99,103,116]⟩:ByteArray)] from rfl) (Reps.one (show Kd.M Kd.string _ _ _ (⟨#[0,255]⟩:ByteArray) [.string (⟨#[0,255]⟩:ByteArray)] from rfl) (Reps.none _ _)))))));intro v498 w9 ho10 hb hg_ hnew_;clear hg_ hnew_;(first|rw [← Ny497.out] at ho10|(simp only [Int.reduceToNat] at ho10;rw [← Ny497.out] at ho10));replace HO496:=mk0 (bR HO496.out hb);have HO499:=mk0 (Kd.R_lower ho10 (keep_size (w:=w) (g:=g) (row:=none) (by repeat (first|(with_reducible first|exact HK.out|apply KeepBut.set_|apply keep_drewN|apply keep_drew|apply keep_alloc)|exact HK.out))));replace HK:=mk0 (KeepBut.trans (by repeat (first|(with_reducible first|exact HK.out|apply KeepBut.set_|apply keep_drewN|apply keep_drew|apply keep_alloc)|exact HK.out)) (KeepBut.of_below hb g none) (.inl rfl));replace HB:=mk0 (below_step (by repeat (first|(with_reducible first|exact HB.out|apply aZ|apply nZ|apply dZ|refine sZ ?_ (IsS79.ge HI0.out))|exact HB.out)) hb);replace HI0:=mk0 (IsS79.below (by repeat (first|(with_reducible first|exact HI0.out|apply IsS79.alloc|apply IsS79.drewN|apply IsS79.drew|apply IsS79.set_1|apply IsS79.set_2)|exact HI0.out)) hb);clear hb ho10)|((with_reducible refine gate_callee (f:=68) rfl ?_);refine gL (some 12) Try.func68 #[.pointer (some ⟨g,0,none⟩),.int .i64 5] ?_;(with_reducible refine (spec_l01Cur_pick.calls g s0_0 s0_1 s0_2 5 t500 t501 t502 w0 _ ?side1 ?side2 A3.out).mono ?_);(case side1=>repeat (first|(with_reducible first|exact HI0.out|apply IsS79.alloc|apply IsS79.drewN|apply IsS79.drew|apply IsS79.set_1|apply IsS79.set_2)|exact HI0.out));(case side2=>repeat (first|(with_reducible first|exact HB.out|apply aZ|apply nZ|apply dZ|refine sZ ?_ (IsS79.ge HI0.out))|exact HB.out));rintro e w11 ⟨rfl,hi,hb,hk⟩;refine⟨_,rfl,?_⟩;replace HO496:=mk0 (Kd.R_mono (Kd.R_keep (IsS79.apart (show IsS79 w0 _ g s0_0 s0_1 s0_2 from by repeat (first|(with_reducible first|exact HI0.out|apply IsS79.alloc|apply IsS79.drewN|apply IsS79.drew|apply IsS79.set_1|apply IsS79.set_2)|exact HI0.out)) (rR HO496.out) (by decide)) hk (fun _ h=>h.2)) (fun _ h=>h.1));replace HO499:=mk0 (Kd.R_mono (Kd.R_keep (IsS79.apart (show IsS79 w0 _ g s0_0 s0_1 s0_2 from by repeat (first|(with_reducible first|exact HI0.out|apply IsS79.alloc|apply IsS79.drewN|apply IsS79.drew|apply IsS79.set_1|apply IsS79.set_2)|exact HI0.out)) (rR HO499.out) (by decide)) hk (fun _ h=>h.2)) (fun _ h=>h.1));replace HK:=mk0 (KeepBut.trans (by repeat (first|(with_reducible first|exact HK.out|apply KeepBut.set_|apply keep_drewN|apply keep_drew|apply keep_alloc)|exact HK.out)) hk (.inl rfl));replace HB:=mk0 (hb);replace HI0:=mk0 (hi);(try clear hb);(try clear hk);(try clear hi);obtain⟨Ao12,co12,eo12⟩:=Kd.R_slice HO499.out;subst eo12;have p503:0 ≤ (t500:Int):=oD;have q503:t500 < (y497.length:Int):=oD;obtain⟨ad503,e503,hx503_0⟩:=Kd.at_string (Kd.R_reads' HO499.out).2.2 t500 p503 q503;cases e503;replace p503:=eq_true p503;replace q503:=eq_true q503)|((with_reducible refine gate_callee (f:=82) rfl ?_);refine gL (some 17) Try.func82 #[.pointer (some ⟨g,0,none⟩),.int .i64 a1] ?_;(with_reducible refine (spec_l01Cur_size.calls g s0_0 t501 t502 a1 t504 t505 t506 w0 _ ?side1 ?side2 A6.out).mono ?_);(case side1=>repeat (first|(with_reducible first|exact HI0.out|apply IsS79.alloc|apply IsS79.drewN|apply IsS79.drew|apply IsS79.set_1|apply IsS79.set_2)|exact HI0.out));(case side2=>repeat (first|(with_reducible first|exact HB.out|apply aZ|apply nZ|apply dZ|refine sZ ?_ (IsS79.ge HI0.out))|exact HB.out));rintro e w13 ⟨rfl,hi,hb,hk⟩;refine⟨_,rfl,?_⟩;replace HO496:=mk0 (Kd.R_mono (Kd.R_keep (IsS79.apart (show IsS79 w0 _ g s0_0 t501 t502 from by repeat (first|(with_reducible first|exact HI0.out|apply IsS79.alloc|apply IsS79.drewN|apply IsS79.drew|apply IsS79.set_1|apply IsS79.set_2)|exact HI0.out)) (rR HO496.out) (by decide)) hk (fun _ h=>h.2)) (fun _ h=>h.1));replace HO499:=mk0 (Kd.R_mono (Kd.R_keep (IsS79.apart (show IsS79 w0 _ g s0_0 t501 t502 from by repeat (first|(with_reducible first|exact HI0.out|apply IsS79.alloc|apply IsS79.drewN|apply IsS79.drew|apply IsS79.set_1|apply IsS79.set_2)|exact HI0.out)) (rR HO499.out) (by decide)) hk (fun _ h=>h.2)) (fun _ h=>h.1));replace HK:=mk0 (KeepBut.trans (by repeat (first|(with_reducible first|exact HK.out|apply KeepBut.set_|apply keep_drewN|apply keep_drew|apply keep_alloc)|exact HK.out)) hk (.inl rfl));replace HB:=mk0 (hb);replace HI0:=mk0 (hi);(try clear hb);(try clear hk);(try clear hi)))
 go_loopg [5,7] k (fun kq v5 v7 w'=>∃ (x5_1:List Int) (x7_1:Int) (x1001_1:Int) (x1002_1:Int),v7 = .int .i64 x7_1 ∧ Aside0 (spec_l01Cur_textOf.l0 kq a1 x5_1 (rdOf ByteArray.empty y497 t500) x7_1 s0_0 x1001_1 x1002_1 = some (r1,r2,r3)) ∧ Aside0 (kq ≤ k) ∧ Aside0 (Kd.R (Kd.int .u8) 5 w' w.heap.size (fun _=>True) v5 x5_1) ∧ Aside0 (IsS79 w0 w' g s0_0 x1001_1 x1002_1) ∧ Aside0 (KeepBut w w' g none) ∧ Aside0 (Below w0.heap.size w0 w'))
 case atStart=>exact⟨(y494),(t504),(t505),(t506),eS,H',⟨Nat.le_refl _⟩,⟨rR HO496.out⟩,⟨by repeat (first|(with_reducible first|exact HI0.out|apply IsS79.alloc|apply IsS79.drewN|apply IsS79.drew|apply IsS79.set_1|apply IsS79.set_2)|exact HI0.out)⟩,⟨by repeat (first|(with_reducible first|exact HK.out|apply KeepBut.set_|apply keep_drewN|apply keep_drew|apply keep_alloc)|exact HK.out)⟩,⟨by repeat (first|(with_reducible first|exact HB.out|apply aZ|apply nZ|apply dZ|refine sZ ?_ (IsS79.ge HI0.out))|exact HB.out)⟩⟩
 case round =>
  clear H'
  try clear p2
  try clear c4
  try clear c4b0
  try clear c5
  try clear c5b0
  try clear p5
  try clear q5
  try clear hx5
  try clear c6
  try clear c8
  try clear hx503_0
  try clear p503
  try clear q503
  obtain⟨x5_1,x7_1,x1001_1,x1002_1,rfl,HA,HK1,HO_5,HI0,HK,HB⟩:=hrel
  cases gk with
  | zero=>exact absurd HA.out (by simp [spec_l01Cur_textOf.l0])
  | succ k1 =>
   have H:=HA.out
   clear HA
   simp only [spec_l01Cur_textOf.l0] at H
   by_cases c14:x7_1 > 0
   rotate_left
   ·rw [if_neg c14] at H
    have c14b0:decide (0 < x7_1) = false:=decide_eq_false c14
    clear c14
    by_cases c41:(x5_1.length:Int) > a1
    rotate_left
    ·rw [if_neg c41] at H
     have c41b0:decide (a1 < (x5_1.length:Int)) = false:=decide_eq_false c41
     clear c41
     simp only [Option.some.injEq,Prod.mk.injEq] at H
     obtain⟨rfl,rfl,rfl⟩:=H
     obtain⟨Ao46,co46,eo46⟩:=Kd.R_slice HO_5.out
     subst eo46
     go_wp2
     go_ret
     exact⟨_,eR,rR HO_5.out,by repeat (first|(with_reducible first|exact HI0.out|apply IsS79.alloc|apply IsS79.drewN|apply IsS79.drew|apply IsS79.set_1|apply IsS79.set_2)|exact HI0.out),by repeat (first|(with_reducible first|exact HB.out|apply aZ|apply nZ|apply dZ|refine sZ ?_ (IsS79.ge HI0.out))|exact HB.out),by repeat (first|(with_reducible first|exact HK.out|apply KeepBut.set_|apply keep_drewN|apply keep_drew|apply keep_alloc)|exact HK.out)⟩
    rw [if_pos c41] at H
    have c41b0:decide (a1 < (x5_1.length:Int)) = true:=decide_eq_true c41
    clear c41
    by_cases c42:0 ≤ a1
    rotate_left
    ·rw [if_neg c42] at H
     exact nn H
    rw [if_pos c42] at H
    have c42b0:=eq_true c42
    have c42b1:decide (0 ≤ a1) = true:=decide_eq_true c42
    clear c42
    by_cases c43:a1 ≤ (x5_1.length:Int)
    rotate_left
    ·rw [if_neg c43] at H
     exact nn H
    rw [if_pos c43] at H
    have c43b0:=eq_true c43
    have c43b1:decide (a1 ≤ (x5_1.length:Int)) = true:=decide_eq_true c43
    clear c43
    obtain⟨y529,hy529⟩:∃ y_:List Int,y_ = (x5_1.take (a1:Int).toNat):=⟨_,rfl⟩
    first|(with_reducible replace H:=yB hy529 H)|rw [← hy529] at H|skip
    have Ny529:=mk0 hy529
    clear hy529
    simp only [Option.some.injEq,Prod.mk.injEq] at H
    obtain⟨rfl,rfl,rfl⟩:=H
    obtain⟨Ao44,co44,eo44⟩:=Kd.R_slice HO_5.out
    subst eo44
    have q45:(a1:Int) ≤ ((x5_1.length:Int):Int):=oD
    obtain⟨i045,hi045,_,hsz45,_⟩:=info_parts info5
    have hcut45:=cut_to (P:=Try.prog) 22 5 .i64 Try.underlying22 hi045 Ao44 x5_1.length co44 a1 (oD) q45 (Kd.R_reads' HO_5.out).2.1
    have hr45:=Kd.R_take (m:=(a1:Int).toNat) HO_5.out (by omega)
    have hy45:y529.length = (a1:Int).toNat:=(by rw [Ny529.out,List.length_take];omega)
    rw [← Ny529.out] at hr45
    rw [← hy45] at hr45 hcut45
    clear hy45 hi045 hsz45 HO_5
    have HO531:=mk0 hr45
    clear hr45
    replace q45:=eq_true q45
    go_wp2
    go_ret
    exact⟨_,eR,rR HO531.out,by repeat (first|(with_reducible first|exact HI0.out|apply IsS79.alloc|apply IsS79.drewN|apply IsS79.drew|apply IsS79.set_1|apply IsS79.set_2)|exact HI0.out),by repeat (first|(with_reducible first|exact HB.out|apply aZ|apply nZ|apply dZ|refine sZ ?_ (IsS79.ge HI0.out))|exact HB.out),by repeat (first|(with_reducible first|exact HK.out|apply KeepBut.set_|apply keep_drewN|apply keep_drew|apply keep_alloc)|exact HK.out)⟩
   rw [if_pos c14] at H
   have c14b0:decide (0 < x7_1) = true:=decide_eq_true c14
   clear c14
   have HC15:=mk0 H
   clear H
   go_upto_region 6 with (fail)
   go_cut [28] (fun v28 wc=>∃ (kq:Nat) (x28_14:Bool) (x1001_14:Int) (x1002_14:Int),v28 = .bool x28_14 ∧ Aside0 (spec_l01Cur_textOf.j1 kq a1 x5_1 (rdOf ByteArray.empty y497 t500) x7_1 x28_14 s0_0 x1001_14 x1002_14 = some (r1,r2,r3)) ∧ Aside0 (kq ≤ k1) ∧ Aside0 (Kd.R (Kd.int .u8) 5 wc w.heap.size (fun _=>True) u5 x5_1) ∧ Aside0 (IsS79 w0 wc g s0_0 x1001_14 x1002_14) ∧ Aside0 (KeepBut w wc g none) ∧ Aside0 (Below w0.heap.size w0 wc))
   case first =>
    have H:=HC15.out
    clear HC15
    by_cases c16:(x5_1.length:Int) > 3
    rotate_left
    ·rw [if_neg c16] at H
     have c16b0:decide (3 < (x5_1.length:Int)) = false:=decide_eq_false c16
     have c16b1:decide (3 < x5_1.length) = false:=decide_eq_false (by omega)
     clear c16
     (first|rw [c16b0]|(simp only [i64_w,i32_w];rw [c16b0])|skip)
     have H':=mk0 H
     clear H
     obtain⟨Ao20,co20,eo20⟩:=Kd.R_slice HO_5.out
     subst eo20
     go_wp2
     go_meet
     case rel=>exact⟨_,(false),(x1001_1),(x1002_1),eS,H',⟨by have:=HK1.out;first|omega|exact Nat.le_refl _⟩,⟨rR HO_5.out⟩,⟨by repeat (first|(with_reducible first|exact HI0.out|apply IsS79.alloc|apply IsS79.drewN|apply IsS79.drew|apply IsS79.set_1|apply IsS79.set_2)|exact HI0.out)⟩,⟨by repeat (first|(with_reducible first|exact HK.out|apply KeepBut.set_|apply keep_drewN|apply keep_drew|apply keep_alloc)|exact HK.out)⟩,⟨by repeat (first|(with_reducible first|exact HB.out|apply aZ|apply nZ|apply dZ|refine sZ ?_ (IsS79.ge HI0.out))|exact HB.out)⟩⟩
    rw [if_pos c16] at H
    have c16b0:decide (3 < (x5_1.length:Int)) = true:=decide_eq_true c16
    have c16b1:decide (3 < x5_1.length) = true:=decide_eq_true (by omega)
    clear c16
    (first|rw [c16b0]|(simp only [i64_w,i32_w];rw [c16b0])|skip)
    replace H:=bE H
    obtain⟨⟨t507,t508,t509⟩,A17,H⟩:=H
    dsimp only at H
    have H':=mk0 H
    clear H
    obtain⟨Ao18,co18,eo18⟩:=Kd.R_slice HO_5.out
    subst eo18
    go_wp2_with (first|(go_at_call 69;(with_reducible refine (spec_l01Cur_once.calls g s0_0 x1001_1 x1002_1 6 t507 t508 t509 w0 _ ?side1 ?side2 A17.out).mono ?_);(case side1=>repeat (first|(with_reducible first|exact HI0.out|apply IsS79.alloc|apply IsS79.drewN|apply IsS79.drew|apply IsS79.set_1|apply IsS79.set_2)|exact HI0.out));(case side2=>repeat (first|(with_reducible first|exact HB.out|apply aZ|apply nZ|apply dZ|refine sZ ?_ (IsS79.ge HI0.out))|exact HB.out));rintro e w19 ⟨rfl,hi,hb,hk⟩;replace HO_5:=mk0 (Kd.R_mono (Kd.R_keep (IsS79.apart (show IsS79 w0 _ g s0_0 x1001_1 x1002_1 from by repeat (first|(with_reducible first|exact HI0.out|apply IsS79.alloc|apply IsS79.drewN|apply IsS79.drew|apply IsS79.set_1|apply IsS79.set_2)|exact HI0.out)) (rR HO_5.out) (by decide)) hk (fun _ h=>h.2)) (fun _ h=>h.1));replace HK:=mk0 (KeepBut.trans (by repeat (first|(with_reducible first|exact HK.out|apply KeepBut.set_|apply keep_drewN|apply keep_drew|apply keep_alloc)|exact HK.out)) hk (.inl rfl));replace HB:=mk0 (hb);replace HI0:=mk0 (hi);(try clear hb);(try clear hk);(try clear hi)))
    go_meet
    case rel=>exact⟨_,(t507),(t508),(t509),eS,H',⟨by have:=HK1.out;first|omega|exact Nat.le_refl _⟩,⟨rR HO_5.out⟩,⟨by repeat (first|(with_reducible first|exact HI0.out|apply IsS79.alloc|apply IsS79.drewN|apply IsS79.drew|apply IsS79.set_1|apply IsS79.set_2)|exact HI0.out)⟩,⟨by repeat (first|(with_reducible first|exact HK.out|apply KeepBut.set_|apply keep_drewN|apply keep_drew|apply keep_alloc)|exact HK.out)⟩,⟨by repeat (first|(with_reducible first|exact HB.out|apply aZ|apply nZ|apply dZ|refine sZ ?_ (IsS79.ge HI0.out))|exact HB.out)⟩⟩
   case rest =>
    clear HC15
    try clear c1
    try clear p2
    try clear c4
    try clear c4b0
    try clear c5
    try clear c5b0
    try clear p5
    try clear q5
    try clear hx5
    try clear c6
    try clear c8
    try clear c14
    try clear c14b0
    try clear c16
    try clear c16b0
    try clear c16b1
    try clear hx503_0
    try clear p2
    try clear p5
    try clear p503
    try clear q5
    try clear q503
    obtain⟨kq,x28_14,x1001_14,x1002_14,rfl,HA,HJ14,HO_5,HI0,HK,HB⟩:=hcut
    cases kq with
    | zero=>exact absurd HA.out (by simp [spec_l01Cur_textOf.j1])
    | succ kj14 =>
     have H:=HA.out
     clear HA
     simp only [spec_l01Cur_textOf.j1] at H
     by_cases c21:x28_14 = true
     rotate_left
     ·replace c21:=Bool.eq_false_iff.mpr c21
      subst c21
      replace H:=iF H
      replace H:=bE H
      obtain⟨⟨t523,t524,t525⟩,A34,H⟩:=H
      dsimp only at H
      by_cases c35:0 ≤ t523
      rotate_left
      ·rw [if_neg c35] at H
       exact nn H
      rw [if_pos c35] at H
      have c35b0:decide (0 ≤ t523) = true:=decide_eq_true c35
      clear c35
      by_cases c36:t523 < ((rdOf ByteArray.empty y497 t500).size:Int)
      rotate_left
      ·rw [if_neg c36] at H
       exact nn H
      rw [if_pos c36] at H
      have c36b0:decide (t523 < ((rdOf ByteArray.empty y497 t500).size:Int)) = true:=decide_eq_true c36
      clear c36
      by_cases c38:x5_1.length < 140737488355328
      rotate_left
      ·rw [if_neg c38] at H
       exact nn H
      rw [if_pos c38] at H
      have LMc38:=mk0 c38
      clear c38
      obtain⟨y526,hy526⟩:∃ y_:List Int,y_ = (x5_1 ++ [bt (rdOf ByteArray.empty y497 t500) t523]):=⟨_,rfl⟩
      first|(with_reducible replace H:=yB hy526 H)|rw [← hy526] at H|skip
      have Ny526:=mk0 hy526
      clear hy526
      have H':=mk0 H
      clear H
      go_wp2_with (first|((with_reducible refine gate_callee (f:=68) rfl ?_);refine gL (some 51) Try.func68 #[.pointer (some ⟨g,0,none⟩),.int .i64 ((rdOf ByteArray.empty y497 t500).size:Int)] ?_;(with_reducible refine (spec_l01Cur_pick.calls g s0_0 x1001_14 x1002_14 ((rdOf ByteArray.empty y497 t500).size:Int) t523 t524 t525 w0 _ ?side1 ?side2 A34.out).mono ?_);(case side1=>repeat (first|(with_reducible first|exact HI0.out|apply IsS79.alloc|apply IsS79.drewN|apply IsS79.drew|apply IsS79.set_1|apply IsS79.set_2)|exact HI0.out));(case side2=>repeat (first|(with_reducible first|exact HB.out|apply aZ|apply nZ|apply dZ|refine sZ ?_ (IsS79.ge HI0.out))|exact HB.out));rintro e w39 ⟨rfl,hi,hb,hk⟩;refine⟨_,rfl,?_⟩;replace HO_5:=mk0 (Kd.R_mono (Kd.R_keep (IsS79.apart (show IsS79 w0 _ g s0_0 x1001_14 x1002_14 from by repeat (first|(with_reducible first|exact HI0.out|apply IsS79.alloc|apply IsS79.drewN|apply IsS79.drew|apply IsS79.set_1|apply IsS79.set_2)|exact HI0.out)) (rR HO_5.out) (by decide)) hk (fun _ h=>h.2)) (fun _ h=>h.1));replace HK:=mk0 (KeepBut.trans (by repeat (first|(with_reducible first|exact HK.out|apply KeepBut.set_|apply keep_drewN|apply keep_drew|apply keep_alloc)|exact HK.out)) hk (.inl rfl));replace HB:=mk0 (hb);replace HI0:=mk0 (hi);(try clear hb);(try clear hk);(try clear hi);have p37:0 ≤ (t523:Int):=oD;have q37:t523 < ((rdOf ByteArray.empty y497 t500).size:Int):=oD;have hx37:=bt_at (rdOf ByteArray.empty y497 t500) t523;replace p37:=eq_true p37;replace q37:=eq_true q37)|((with_reducible refine gate_builtin (b:=.append) (xs:=#[.tmp 46,.tmp 53]) rfl ?_);at_builtin;refine Kd.R_append (Kd.int .u8) w.heap.size rfl (.tmp 46) (.tmp 53) 22 5 (.int .u8 0) 1 rfl Try.underlying22 info5 rfl (by decide) (by omega) u5 x5_1 (bt (rdOf ByteArray.empty y497 t500) t523) [.int .u8 (bt (rdOf ByteArray.empty y497 t500) t523)] (fun _=>True) (fun _=>False) rfl rfl ?aP (fun _ hk=>hk.elim) ?aF ?aO (Below.refl _ _) ?aS ?aL ?_;(case aP=>exact rfl);(case aF=>exact (fun _ _=>trivial));(case aO=>exact (rR HO_5.out));(case aS=>exact (keep_size (w:=w) (g:=g) (row:=none) (by repeat (first|(with_reducible first|exact HK.out|apply KeepBut.set_|apply keep_drewN|apply keep_drew|apply keep_alloc)|exact HK.out))));(case aL=>have:=LMc38.out;omega);intro v527 w40 ho hb hg hat;rw [← Ny526.out] at ho;replace HB:=mk0 (below_weaken (by repeat (first|(with_reducible first|exact HB.out|apply aZ|apply nZ|apply dZ|refine sZ ?_ (IsS79.ge HI0.out))|exact HB.out)) HL.out hb);replace HI0:=mk0 (IsS79.grown (by repeat (first|(with_reducible first|exact HI0.out|apply IsS79.alloc|apply IsS79.drewN|apply IsS79.drew|apply IsS79.set_1|apply IsS79.set_2)|exact HI0.out)) hg (IsS79.own_ne HI0.out HO_5.out (by decide)));replace HK:=mk0 (KeepBut.trans (by repeat (first|(with_reducible first|exact HK.out|apply KeepBut.set_|apply keep_drewN|apply keep_drew|apply keep_alloc)|exact HK.out)) (KeepBut.of_grown hg g) (Kd.R_base2 HO_5.out));have HO528:=mk0 (ho);clear HO_5 ho hb hg hat))
      go_roundg kj14
      case measure=>have:=HK1.out;have:=HJ14.out;omega
      case rel=>exact⟨(y526),(wrap64 (x7_1 - 1)),(t524),(t525),eS,H',⟨by have:=HK1.out;have:=HJ14.out;omega⟩,⟨rR HO528.out⟩,⟨by repeat (first|(with_reducible first|exact HI0.out|apply IsS79.alloc|apply IsS79.drewN|apply IsS79.drew|apply IsS79.set_1|apply IsS79.set_2)|exact HI0.out)⟩,⟨by repeat (first|(with_reducible first|exact HK.out|apply KeepBut.set_|apply keep_drewN|apply keep_drew|apply keep_alloc)|exact HK.out)⟩,⟨by repeat (first|(with_reducible first|exact HB.out|apply aZ|apply nZ|apply dZ|refine sZ ?_ (IsS79.ge HI0.out))|exact HB.out)⟩⟩
     subst c21
     replace H:=iT H
     replace H:=bE H
     obtain⟨⟨t510,t511,t512⟩,A22,H⟩:=H
     dsimp only at H
     replace H:=bE H
     obtain⟨⟨t513,t514,t515⟩,A23,H⟩:=H
     dsimp only at H
     obtain⟨ji24,hji24⟩:∃ j_:Int,(mn (x5_1.length:Int) (wrap64 ((wrap64 (t510 + 1)) + t513))) = j_:=⟨_,rfl⟩
     first|rw [hji24] at H|simp only [hji24] at H
     (try rw [hji24] at A22)
     (try rw [hji24] at A23)
     have hji24_:(if (wrap64 ((wrap64 (t510 + 1)) + t513)) < (x5_1.length:Int) then (wrap64 ((wrap64 (t510 + 1)) + t513)) else (x5_1.length:Int)) = ji24:=hji24
     by_cases c25:0 ≤ t510
     rotate_left
     ·rw [if_neg c25] at H
      exact nn H
     rw [if_pos c25] at H
     have c25b0:=eq_true c25
     have c25b1:decide (0 ≤ t510) = true:=decide_eq_true c25
     clear c25
     by_cases c26:t510 ≤ (ji24)
     rotate_left
     ·rw [if_neg c26] at H
      exact nn H
     rw [if_pos c26] at H
     have c26b0:=eq_true c26
     have c26b1:decide (t510 ≤ (ji24)) = true:=decide_eq_true c26
     clear c26
     by_cases c27:(ji24) ≤ (x5_1.length:Int)
     rotate_left
     ·rw [if_neg c27] at H
      exact nn H
     rw [if_pos c27] at H
     have c27b0:=eq_true c27
     have c27b1:decide ((ji24) ≤ (x5_1.length:Int)) = true:=decide_eq_true c27
     clear c27
     obtain⟨y516,hy516⟩:∃ y_:List Int,y_ = ((x5_1.take ((ji24):Int).toNat).drop (t510:Int).toNat):=⟨_,rfl⟩
     first|(with_reducible replace H:=yB hy516 H)|rw [← hy516] at H|skip
     have Ny516:=mk0 hy516
     clear hy516
     by_cases c28:x5_1.length + y516.length < 140737488355328
     rotate_left
     ·rw [if_neg c28] at H
      exact nn H
     rw [if_pos c28] at H
     have LMc28:=mk0 c28
     clear c28
     obtain⟨y520,hy520⟩:∃ y_:List Int,y_ = (x5_1 ++ y516):=⟨_,rfl⟩
     first|(with_reducible replace H:=yB hy520 H)|rw [← hy520] at H|skip
     have Ny520:=mk0 hy520
     clear hy520
     have H':=mk0 H
     clear H
     obtain⟨Ao29,co29,eo29⟩:=Kd.R_slice HO_5.out
     subst eo29
     go_wp2_with (first|((with_reducible refine gate_callee (f:=68) rfl ?_);refine gL (some 32) Try.func68 #[.pointer (some ⟨g,0,none⟩),.int .i64 (x5_1.length:Int)] ?_;(with_reducible refine (spec_l01Cur_pick.calls g s0_0 x1001_14 x1002_14 (x5_1.length:Int) t510 t511 t512 w0 _ ?side1 ?side2 A22.out).mono ?_);(case side1=>repeat (first|(with_reducible first|exact HI0.out|apply IsS79.alloc|apply IsS79.drewN|apply IsS79.drew|apply IsS79.set_1|apply IsS79.set_2)|exact HI0.out));(case side2=>repeat (first|(with_reducible first|exact HB.out|apply aZ|apply nZ|apply dZ|refine sZ ?_ (IsS79.ge HI0.out))|exact HB.out));rintro e w30 ⟨rfl,hi,hb,hk⟩;refine⟨_,rfl,?_⟩;replace HO_5:=mk0 (Kd.R_mono (Kd.R_keep (IsS79.apart (show IsS79 w0 _ g s0_0 x1001_14 x1002_14 from by repeat (first|(with_reducible first|exact HI0.out|apply IsS79.alloc|apply IsS79.drewN|apply IsS79.drew|apply IsS79.set_1|apply IsS79.set_2)|exact HI0.out)) (rR HO_5.out) (by decide)) hk (fun _ h=>h.2)) (fun _ h=>h.1));replace HK:=mk0 (KeepBut.trans (by repeat (first|(with_reducible first|exact HK.out|apply KeepBut.set_|apply keep_drewN|apply keep_drew|apply keep_alloc)|exact HK.out)) hk (.inl rfl));replace HB:=mk0 (hb);replace HI0:=mk0 (hi);(try clear hb);(try clear hk);(try clear hi))|((with_reducible refine gate_callee (f:=68) rfl ?_);refine gL (some 41) Try.func68 #[.pointer (some ⟨g,0,none⟩),.int .i64 6] ?_;(with_reducible refine (spec_l01Cur_pick.calls g s0_0 t511 t512 6 t513 t514 t515 w0 _ ?side1 ?side2 A23.out).mono ?_);(case side1=>repeat (first|(with_reducible first|exact HI0.out|apply IsS79.alloc|apply IsS79.drewN|apply IsS79.drew|apply IsS79.set_1|apply IsS79.set_2)|exact HI0.out));(case side2=>repeat (first|(with_reducible first|exact HB.out|apply aZ|apply nZ|apply dZ|refine sZ ?_ (IsS79.ge HI0.out))|exact HB.out));rintro e w31 ⟨rfl,hi,hb,hk⟩;refine⟨_,rfl,?_⟩;replace HO_5:=mk0 (Kd.R_mono (Kd.R_keep (IsS79.apart (show IsS79 w0 _ g s0_0 t511 t512 from by repeat (first|(with_reducible first|exact HI0.out|apply IsS79.alloc|apply IsS79.drewN|apply IsS79.drew|apply IsS79.set_1|apply IsS79.set_2)|exact HI0.out)) (rR HO_5.out) (by decide)) hk (fun _ h=>h.2)) (fun _ h=>h.1));replace HK:=mk0 (KeepBut.trans (by repeat (first|(with_reducible first|exact HK.out|apply KeepBut.set_|apply keep_drewN|apply keep_drew|apply keep_alloc)|exact HK.out)) hk (.inl rfl));replace HB:=mk0 (hb);replace HI0:=mk0 (hi);(try clear hb);(try clear hk);(try clear hi);have q32:((ji24):Int) ≤ ((x5_1.length:Int):Int):=oD;obtain⟨i032,hi032,_,hsz32,_⟩:=info_parts info5;have hroom32:x5_1.length ≤ co29:=(Kd.R_reads' HO_5.out).2.1;have hC32:Kd.C (Kd.int .u8) _ Ao29 x5_1.length x5_1:=(Kd.R_reads' HO_5.out).2.2;have ql32:(t510:Int) ≤ ((ji24):Int):=oD;have q032:(0:Int) ≤ (t510:Int):=oD;have hcut32:=cut_mid (P:=Try.prog) 22 5 .i64 .i64 Try.underlying22 hi032 1 hsz32 Ao29 x5_1.length co29 t510 (ji24) q032 ql32 q32 hroom32;have hr32:=Kd.C_mid (lo:=(t510:Int).toNat) (hi:=((ji24):Int).toNat) (c:=co29) hC32 (by omega) (by omega) hroom32;obtain⟨A32,hA32⟩:∃ A1,A1 = (if co29 = (t510:Int).toNat then Ao29 else (Ao29:Option Addr).map (·.add ((t510:Int).toNat * 1))):=⟨_,rfl⟩;obtain⟨c32,hc32⟩:∃ c1,c1 = co29 - (t510:Int).toNat:=⟨_,rfl⟩;have hy32:y516.length = ((ji24):Int).toNat - (t510:Int).toNat:=(by rw [Ny516.out,List.length_drop,List.length_take] <;> omega);rw [show ((x5_1).take ((ji24):Int).toNat).drop (t510:Int).toNat = y516 from Ny516.out.symm] at hr32;replace hr32:Kd.C (Kd.int .u8) _ A32 y516.length y516:=(by rw [hA32];exact hr32);rw [← hy32, ← hA32, ← hc32] at hcut32;have HR519:=mk0 hr32;have HC519:=mk0 (show y516.length ≤ c32 from by rw [hy32,hc32];exact Nat.sub_le_sub_right (Nat.le_trans (by omega) hroom32) _);clear hr32 hC32 hroom32 hi032 hsz32 hc32;have KY32:=mk0 hy32;have KA32:=mk0 hA32;clear hy32 hA32;have KL32:=mk0 (show ((ji24):Int).toNat ≤ x5_1.length from by omega);have KM32:=mk0 (show (t510:Int).toNat ≤ ((ji24):Int).toNat from by omega);replace q32:=eq_true q32)|((with_reducible refine gate_builtin (b:=.append) (xs:=#[.tmp 33,.tmp 44]) rfl ?_);at_builtin;refine Kd.R_append_rows (Kd.int .u8) w.heap.size rfl (.tmp 33) (.tmp 44) 22 5 (.int .u8 0) 1 rfl Try.underlying22 info5 rfl (by decide) (by omega) (.slice Ao29 x5_1.length co29) x5_1 y516 _ _ _ (fun _=>True) (fun _=>False) rfl rfl ?aO ?aR (fun _ _ h=>h) (fun _ h=>h.elim) ?aF (Below.refl _ _) ?aS ?aL ?_;(case aR=>repeat (first|exact (by repeat (first|(with_reducible exact HR519.out)|(with_reducible first|apply aC|apply nC|apply dC)|exact HR519.out))|(with_reducible first|apply aC|apply nC|apply dC)));(case aF=>exact (fun _ _=>trivial));(case aO=>exact (rR HO_5.out));(case aS=>exact (keep_size (w:=w) (g:=g) (row:=none) (by repeat (first|(with_reducible first|exact HK.out|apply KeepBut.set_|apply keep_drewN|apply keep_drew|apply keep_alloc)|exact HK.out))));(case aL=>have:=LMc28.out;omega);intro v521 w33 ho hb hg hat;rw [← Ny520.out] at ho;replace HB:=mk0 (below_weaken (by repeat (first|(with_reducible first|exact HB.out|apply aZ|apply nZ|apply dZ|refine sZ ?_ (IsS79.ge HI0.out))|exact HB.out)) HL.out hb);replace HI0:=mk0 (IsS79.grown (by repeat (first|(with_reducible first|exact HI0.out|apply IsS79.alloc|apply IsS79.drewN|apply IsS79.drew|apply IsS79.set_1|apply IsS79.set_2)|exact HI0.out)) hg (IsS79.own_ne HI0.out HO_5.out (by decide)));replace HK:=mk0 (KeepBut.trans (by repeat (first|(with_reducible first|exact HK.out|apply KeepBut.set_|apply keep_drewN|apply keep_drew|apply keep_alloc)|exact HK.out)) (KeepBut.of_grown hg g) (Kd.R_base2 HO_5.out));have HO522:=mk0 (ho);clear HO_5 ho hb hg hat))
     go_roundg kj14
     case measure=>have:=HK1.out;have:=HJ14.out;omega
     case rel=>exact⟨(y520),(wrap64 (x7_1 - 1)),(t514),(t515),eS,H',⟨by have:=HK1.out;have:=HJ14.out;omega⟩,⟨rR HO522.out⟩,⟨by repeat (first|(with_reducible first|exact HI0.out|apply IsS79.alloc|apply IsS79.drewN|apply IsS79.drew|apply IsS79.set_1|apply IsS79.set_2)|exact HI0.out)⟩,⟨by repeat (first|(with_reducible first|exact HK.out|apply KeepBut.set_|apply keep_drewN|apply keep_drew|apply keep_alloc)|exact HK.out)⟩,⟨by repeat (first|(with_reducible first|exact HB.out|apply aZ|apply nZ|apply dZ|refine sZ ?_ (IsS79.ge HI0.out))|exact HB.out)⟩⟩
end Go.Proofs.Ytadhngelhognaaa.QFnShare
