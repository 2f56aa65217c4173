-- A walk, made by walk.py, a program of this session's.
import Derived.Test.YtgjmmegmkdklbaaQFnPrefixx0
import Derived.Test.YtgjmmegmkdklbaaQFnPrefixx1
import Derived.Test.YtgjmmegmkdklbaaQFnPrefixx2
namespace Go.Proofs.Ytgjmmegmkdklbaa.QFnPrefix
open Go.RowKit Go.Proofs.YtgjmmegmkdklbaaW.PrintWords Go.Proofs.YtgjmmegmkdklbaaW.PrintLast Go.Proofs.YtgjmmegmkdklbaaW.PrintMore
attribute [local go_sem] max2_int min2_int max_two min_two max_three min_three max_four min_four   -- for this text's walks alone
set_option linter.unusedVariables false
set_option linter.unusedSimpArgs false

/-! ### spec_l01Cur_pick: function 65 -/
def spec_l01Cur_pick.f (s0_0 : List Int) (s0_1 : Int) (s0_2 : Int) (a1 : Int) : Option (Int × Int × Int) := if a1 < 2 then (some (0, s0_1, s0_2)) else (if s0_1 < (s0_0.length : Int) then (if 0 ≤ s0_1 then (if a1 = 0 then (none) else (some (Int.tmod (wrap64 (rd s0_0 s0_1)) a1, wrap64 (s0_1 + 1), s0_2))) else (none)) else (if (s0_0.length : Int) > 0 then (if (s0_0.length : Int) = 0 then (none) else (if 0 ≤ (Int.tmod s0_1 (s0_0.length : Int)) then (if (Int.tmod s0_1 (s0_0.length : Int)) < (s0_0.length : Int) then (if a1 = 0 then (none) else (some (Int.tmod (wrap64 ((wrap64 (Int.tdiv (Int.tmod (wrap64 ((wrap64 (s0_2 * 1103)) + 12345)) 65521) 7)) + (wrap64 (rd s0_0 (Int.tmod s0_1 (s0_0.length : Int)))))) a1, wrap64 (s0_1 + 1), Int.tmod (wrap64 ((wrap64 (s0_2 * 1103)) + 12345)) 65521))) else (none)) else (none))) else (if a1 = 0 then (none) else (some ((0 : Int) % a1, wrap64 (s0_1 + 1), Int.tmod (wrap64 ((wrap64 (s0_2 * 1103)) + 12345)) 65521)))))
set_option maxHeartbeats 8000000 in
set_option maxRecDepth 100000 in
theorem spec_l01Cur_pick.calls (g : Nat) (s0_0 : List Int) (s0_1 : Int) (s0_2 : Int) (a1 : Int) (r1 : Int) (r2 : Int) (r3 : Int) (w0 w : World) (hI : IsS80 w0 w g s0_0 s0_1 s0_2) (hB : Below w0.heap.size w0 w) (h : spec_l01Cur_pick.f s0_0 s0_1 s0_2 a1 = some (r1, r2, r3)) :
  Calls Try.prog 65 #[.pointer (some ⟨g, 0, none⟩), .int .i64 a1] w fun e w' => e = .returned (.int .i64 r1) ∧ IsS80 w0 w' g s0_0 r2 r3 ∧ Below w0.heap.size w0 w' ∧ KeepBut w w' g none := by
 have HI0:=mk0 hI
 have HK:=mk0 (KeepBut.refl w g none)
 have HL:=mk0 hB.size
 clear hI
 have HW0:=mk0 hB.size
 have HB:=mk0 hB
 clear hB
 have H:(if a1 < 2 then (some (0,s0_1,s0_2)) else (if s0_1 < (s0_0.length:Int) then (if 0 ≤ s0_1 then (if a1 = 0 then (none) else (some (Int.tmod (wrap64 (rd s0_0 s0_1)) a1,wrap64 (s0_1 + 1),s0_2))) else (none)) else (if (s0_0.length:Int) > 0 then (if (s0_0.length:Int) = 0 then (none) else (if 0 ≤ (Int.tmod s0_1 (s0_0.length:Int)) then (if (Int.tmod s0_1 (s0_0.length:Int)) < (s0_0.length:Int) then (if a1 = 0 then (none) else (some (Int.tmod (wrap64 ((wrap64 (Int.tdiv (Int.tmod (wrap64 ((wrap64 (s0_2 * 1103)) + 12345)) 65521) 7)) + (wrap64 (rd s0_0 (Int.tmod s0_1 (s0_0.length:Int)))))) a1,wrap64 (s0_1 + 1),Int.tmod (wrap64 ((wrap64 (s0_2 * 1103)) + 12345)) 65521))) else (none)) else (none))) else (if a1 = 0 then (none) else (some ((0:Int) % a1,wrap64 (s0_1 + 1),Int.tmod (wrap64 ((wrap64 (s0_2 * 1103)) + 12345)) 65521)))))) = some (r1,r2,r3):=h
 clear h
 by_cases c3:a1 < 2
 ·rw [if_pos c3] at H
  have c3b0:decide (a1 < 2) = true:=decide_eq_true c3
  clear c3
  simp only [Option.some.injEq,Prod.mk.injEq] at H
  obtain⟨rfl,rfl,rfl⟩:=H
  go_enter Try.func65,Try.ntmps65
  go_wp2
  repeat (go_quiet (fail);try go_wp2)
  go_ret
  exact⟨by first|rfl|(simp [errW_none,errW_some] <;> rfl)|(simp [*,errW_none,errW_some] <;> rfl),by repeat (first|(with_reducible first|exact HI0.out|apply IsS80.alloc|apply IsS80.drewN|apply IsS80.drew|apply IsS80.set_1|apply IsS80.set_2)|exact HI0.out),by repeat (first|(with_reducible first|exact HB.out|apply aZ|apply nZ|apply dZ|refine sZ ?_ (IsS80.ge HI0.out))|exact HB.out),by repeat (first|(with_reducible first|exact HK.out|apply KeepBut.set_|apply keep_drewN|apply keep_drew|apply keep_alloc)|exact HK.out)⟩
 ·rw [if_neg c3] at H
  have c3b0:decide (a1 < 2) = false:=decide_eq_false c3
  clear c3
  by_cases c4:s0_1 < (s0_0.length:Int)
  ·rw [if_pos c4] at H
   have c4b0:decide (s0_1 < (s0_0.length:Int)) = true:=decide_eq_true c4
   clear c4
   by_cases c5:0 ≤ s0_1
   ·rw [if_pos c5] at H
    have c5b0:decide (0 ≤ s0_1) = true:=decide_eq_true c5
    clear c5
    by_cases c6:a1 = 0
    ·rw [if_pos c6] at H
     exact absurd H (by simp)
    ·rw [if_neg c6] at H
     have c6b0:(a1 == 0) = false:=beq_eq_false_iff_ne.mpr c6
     have c6b1:(a1 != 0) = true:=bne_iff_ne.mpr c6
     simp only [Option.some.injEq,Prod.mk.injEq] at H
     obtain⟨rfl,rfl,rfl⟩:=H
     obtain⟨ASz7_0,cSz7_0,HGz7,hgz7,HSz7_0⟩:=HI0.out
     have hcz7_0:=cellS80_0 HGz7
     have hcz7_1:=cellS80_1 HGz7
     have hcz7_2:=cellS80_2 HGz7
     have hfz7_1:=blk_frozen HGz7 1
     have hfz7_2:=blk_frozen HGz7 2
     clear HGz7 hgz7
     have p174:0 ≤ (s0_1:Int):=of_decide_eq_true (by first|(with_reducible assumption)|assumption)
     have q174:s0_1 < (s0_0.length:Int):=of_decide_eq_true (by first|(with_reducible assumption)|assumption)
     obtain⟨ad174,e174,hx174_0⟩:=Kd.at_int HSz7_0 s0_1 p174 q174
     cases e174
     replace hx174_0:=pw_cell_below HB.out hx174_0
     replace p174:=eq_true p174
     replace q174:=eq_true q174
     go_enter Try.func65,Try.ntmps65
     go_wp2
     repeat (go_quiet (fail);try go_wp2)
     go_ret
     exact⟨by first|rfl|(simp [errW_none,errW_some] <;> rfl)|(simp [*,errW_none,errW_some] <;> rfl),by repeat (first|(with_reducible first|exact HI0.out|apply IsS80.alloc|apply IsS80.drewN|apply IsS80.drew|apply IsS80.set_1|apply IsS80.set_2)|exact HI0.out),by repeat (first|(with_reducible first|exact HB.out|apply aZ|apply nZ|apply dZ|refine sZ ?_ (IsS80.ge HI0.out))|exact HB.out),by repeat (first|(with_reducible first|exact HK.out|apply KeepBut.set_|apply keep_drewN|apply keep_drew|apply keep_alloc)|exact HK.out)⟩
   ·rw [if_neg c5] at H
    exact absurd H (by simp)
  ·rw [if_neg c4] at H
   have c4b0:decide (s0_1 < (s0_0.length:Int)) = false:=decide_eq_false c4
   clear c4
   by_cases c8:(s0_0.length:Int) > 0
   ·rw [if_pos c8] at H
    have c8b0:decide (0 < (s0_0.length:Int)) = true:=decide_eq_true c8
    have c8b1:decide (0 < s0_0.length) = true:=decide_eq_true (by omega)
    clear c8
    by_cases c9:(s0_0.length:Int) = 0
    ·rw [if_pos c9] at H
     exact absurd H (by simp)
    ·rw [if_neg c9] at H
     have c9b0:((s0_0.length:Int) == 0) = false:=beq_eq_false_iff_ne.mpr c9
     have c9b1:((s0_0.length:Int) != 0) = true:=bne_iff_ne.mpr c9
     have c9b2:¬ (s0_0 = []):=fun h_=>c9 (by rw [h_];rfl)
     obtain⟨ji10,hji10⟩:∃ j_:Int,(Int.tmod s0_1 (s0_0.length:Int)) = j_:=⟨_,rfl⟩
     replace H:(if 0 ≤ (ji10) then (if (ji10) < (s0_0.length:Int) then (if a1 = 0 then (none) else (some (Int.tmod (wrap64 ((wrap64 (Int.tdiv (Int.tmod (wrap64 ((wrap64 (s0_2 * 1103)) + 12345)) 65521) 7)) + (wrap64 (rd s0_0 (ji10))))) a1,wrap64 (s0_1 + 1),Int.tmod (wrap64 ((wrap64 (s0_2 * 1103)) + 12345)) 65521))) else (none)) else (none)) = some (r1,r2,r3):=by first|(rw [hji10] at H;exact H)|(simp only [hji10] at H ⊢;exact H)
     by_cases c11:0 ≤ (ji10)
     ·rw [if_pos c11] at H
      have c11b0:decide (0 ≤ (ji10)) = true:=decide_eq_true c11
      clear c11
      by_cases c12:(ji10) < (s0_0.length:Int)
      ·rw [if_pos c12] at H
       have c12b0:decide ((ji10) < (s0_0.length:Int)) = true:=decide_eq_true c12
       clear c12
       by_cases c13:a1 = 0
       ·rw [if_pos c13] at H
        exact absurd H (by simp)
       ·rw [if_neg c13] at H
        have c13b0:(a1 == 0) = false:=beq_eq_false_iff_ne.mpr c13
        have c13b1:(a1 != 0) = true:=bne_iff_ne.mpr c13
        simp only [Option.some.injEq,Prod.mk.injEq] at H
        obtain⟨rfl,rfl,rfl⟩:=H
        obtain⟨ASz14_0,cSz14_0,HGz14,hgz14,HSz14_0⟩:=HI0.out
        have hcz14_0:=cellS80_0 HGz14
        have hcz14_1:=cellS80_1 HGz14
        have hcz14_2:=cellS80_2 HGz14
        have hfz14_1:=blk_frozen HGz14 1
        have hfz14_2:=blk_frozen HGz14 2
        clear HGz14 hgz14
        have p175:0 ≤ ((ji10):Int):=of_decide_eq_true (by first|(with_reducible assumption)|assumption)
        have q175:(ji10) < (s0_0.length:Int):=of_decide_eq_true (by first|(with_reducible assumption)|assumption)
        obtain⟨ad175,e175,hx175_0⟩:=Kd.at_int HSz14_0 (ji10) p175 q175
        cases e175
        have hn175_0:ad175.block ≠ g:=Nat.ne_of_lt (Nat.lt_of_lt_of_le (by have:=World.block_lt_of_cell? _ _ hx175_0;first|rwa [add_block] at this|exact this) (IsS80.ge HI0.out))
        replace hx175_0:=pw_cell_below HB.out hx175_0
        replace hx175_0:=(cell_far (p:=⟨g,2,none⟩) (by first|(rw [add_block];exact hn175_0)|(show (Addr.add _ _).block ≠ _;rw [add_block];exact hn175_0)|exact hn175_0) (.int .i64 (Int.tmod (wrap64 ((wrap64 (s0_2 * 1103)) + 12345)) 65521))).trans hx175_0
        (try have hy175_0:=fun (n_:Nat)=>(show (((w.drewN n_).setCell ⟨g,2,none⟩ (.int .i64 (Int.tmod (wrap64 ((wrap64 (s0_2 * 1103)) + 12345)) 65521)))).cell? _ = some _ from hx175_0))
        clear hn175_0
        replace p175:=eq_true p175
        replace q175:=eq_true q175
        go_enter Try.func65,Try.ntmps65
        go_wp2
        repeat (go_quiet (fail);try go_wp2)
        go_ret
        exact⟨by first|rfl|(simp [errW_none,errW_some] <;> rfl)|(simp only [← hji10];first|rfl|(simp [errW_none,errW_some] <;> rfl))|(simp [*,errW_none,errW_some] <;> rfl),by repeat (first|(with_reducible first|exact HI0.out|apply IsS80.alloc|apply IsS80.drewN|apply IsS80.drew|apply IsS80.set_1|apply IsS80.set_2)|exact HI0.out),by repeat (first|(with_reducible first|exact HB.out|apply aZ|apply nZ|apply dZ|refine sZ ?_ (IsS80.ge HI0.out))|exact HB.out),by repeat (first|(with_reducible first|exact HK.out|apply KeepBut.set_|apply keep_drewN|apply keep_drew|apply keep_alloc)|exact HK.out)⟩
      ·rw [if_neg c12] at H
       exact absurd H (by simp)
     ·rw [if_neg c11] at H
      exact absurd H (by simp)
   ·rw [if_neg c8] at H
    have c8b0:decide (0 < (s0_0.length:Int)) = false:=decide_eq_false c8
    have c8b1:decide (0 < s0_0.length) = false:=decide_eq_false (by omega)
    clear c8
    by_cases c15:a1 = 0
    ·rw [if_pos c15] at H
     exact absurd H (by simp)
    ·rw [if_neg c15] at H
     have c15b0:(a1 == 0) = false:=beq_eq_false_iff_ne.mpr c15
     have c15b1:(a1 != 0) = true:=bne_iff_ne.mpr c15
     simp only [Option.some.injEq,Prod.mk.injEq] at H
     obtain⟨rfl,rfl,rfl⟩:=H
     obtain⟨ASz16_0,cSz16_0,HGz16,hgz16,HSz16_0⟩:=HI0.out
     have hcz16_0:=cellS80_0 HGz16
     have hcz16_1:=cellS80_1 HGz16
     have hcz16_2:=cellS80_2 HGz16
     have hfz16_1:=blk_frozen HGz16 1
     have hfz16_2:=blk_frozen HGz16 2
     clear HGz16 hgz16
     go_enter Try.func65,Try.ntmps65
     go_wp2
     repeat (go_quiet (fail);try go_wp2)
     go_ret
     exact⟨by first|rfl|(simp [errW_none,errW_some] <;> rfl)|(simp [*,errW_none,errW_some] <;> rfl),by repeat (first|(with_reducible first|exact HI0.out|apply IsS80.alloc|apply IsS80.drewN|apply IsS80.drew|apply IsS80.set_1|apply IsS80.set_2)|exact HI0.out),by repeat (first|(with_reducible first|exact HB.out|apply aZ|apply nZ|apply dZ|refine sZ ?_ (IsS80.ge HI0.out))|exact HB.out),by repeat (first|(with_reducible first|exact HK.out|apply KeepBut.set_|apply keep_drewN|apply keep_drew|apply keep_alloc)|exact HK.out)⟩

/-! ### spec_l01Cur_once: function 49 -/
def spec_l01Cur_once.f (s0_0 : List Int) (s0_1 : Int) (s0_2 : Int) (a1 : Int) : Option (Bool × Int × Int) := (spec_l01Cur_pick.f s0_0 s0_1 s0_2 a1).bind fun bt176 => (some ((bt176.1 == (wrap64 (a1 - 1))), bt176.2.1, bt176.2.2))
set_option maxHeartbeats 8000000 in
set_option maxRecDepth 100000 in
theorem spec_l01Cur_once.calls (g : Nat) (s0_0 : List Int) (s0_1 : Int) (s0_2 : Int) (a1 : Int) (r1 : Bool) (r2 : Int) (r3 : Int) (w0 w : World) (hI : IsS80 w0 w g s0_0 s0_1 s0_2) (hB : Below w0.heap.size w0 w) (h : spec_l01Cur_once.f s0_0 s0_1 s0_2 a1 = some (r1, r2, r3)) :
  Calls Try.prog 49 #[.pointer (some ⟨g, 0, none⟩), .int .i64 a1] w fun e w' => e = .returned (.bool r1) ∧ IsS80 w0 w' g s0_0 r2 r3 ∧ Below w0.heap.size w0 w' ∧ KeepBut w w' g none := by
 have HI0:=mk0 hI
 have HK:=mk0 (KeepBut.refl w g none)
 have HL:=mk0 hB.size
 clear hI
 have HW0:=mk0 hB.size
 have HB:=mk0 hB
 clear hB
 have H:((spec_l01Cur_pick.f s0_0 s0_1 s0_2 a1).bind fun bt176=>(some ((bt176.1 == (wrap64 (a1 - 1))),bt176.2.1,bt176.2.2))) = some (r1,r2,r3):=h
 clear h
 replace H:=Option.bind_eq_some_iff.mp H
 obtain⟨⟨t176,t177,t178⟩,A30,H⟩:=H
 replace H:(some ((t176 == (wrap64 (a1 - 1))),t177,t178)) = some (r1,r2,r3):=H
 have A3:=mk0 A30
 clear A30
 simp only [Option.some.injEq,Prod.mk.injEq] at H
 obtain⟨rfl,rfl,rfl⟩:=H
 go_enter Try.func49,Try.ntmps49
 go_wp2_with (first|((with_reducible refine gate_callee (f:=65) rfl ?_);refine goesL_ (some 7) rfl rfl Try.func65 (by kernel_rfl) rfl #[.pointer (some ⟨g,0,none⟩),.int .i64 a1] rfl (by (try simp only [mA,mC,mN]);first|done|rfl|(simp only [List.length_drop,List.length_take];done)|(simp only [List.length_drop,List.length_take];rfl)) ?_;(with_reducible refine (spec_l01Cur_pick.calls g s0_0 s0_1 s0_2 a1 t176 t177 t178 w0 _ ?side1 ?side2 A3.out).mono ?_);(case side1=>repeat (first|(with_reducible first|exact HI0.out|apply IsS80.alloc|apply IsS80.drewN|apply IsS80.drew|apply IsS80.set_1|apply IsS80.set_2)|exact HI0.out));(case side2=>repeat (first|(with_reducible first|exact HB.out|apply aZ|apply nZ|apply dZ|refine sZ ?_ (IsS80.ge HI0.out))|exact HB.out));rintro e w4 ⟨rfl,hi,hb,hk⟩;refine⟨_,rfl,?_⟩;replace HK:=mk0 (KeepBut.trans (by repeat (first|(with_reducible first|exact HK.out|apply KeepBut.set_|apply keep_drewN|apply keep_drew|apply keep_alloc)|exact HK.out)) hk (.inl rfl));replace HB:=mk0 (hb);replace HI0:=mk0 (hi);(try clear hb);(try clear hk);(try clear hi)))
 go_ret
 exact⟨by first|rfl|(simp [errW_none,errW_some] <;> rfl)|(simp [*,errW_none,errW_some] <;> rfl),by repeat (first|(with_reducible first|exact HI0.out|apply IsS80.alloc|apply IsS80.drewN|apply IsS80.drew|apply IsS80.set_1|apply IsS80.set_2)|exact HI0.out),by repeat (first|(with_reducible first|exact HB.out|apply aZ|apply nZ|apply dZ|refine sZ ?_ (IsS80.ge HI0.out))|exact HB.out),by repeat (first|(with_reducible first|exact HK.out|apply KeepBut.set_|apply keep_drewN|apply keep_drew|apply keep_alloc)|exact HK.out)⟩

/-! ### spec_l01Cur_raw: function 66 -/
def spec_l01Cur_raw.f (s0_0 : List Int) (s0_1 : Int) (s0_2 : Int) : Option (Int × Int × Int) := (spec_l01Cur_pick.f s0_0 s0_1 s0_2 8).bind fun bt179 => (if bt179.1 = 0 then ((spec_l01Cur_pick.f s0_0 bt179.2.1 bt179.2.2 256).bind fun bt182 => (some (wrap64 (bt182.1 - 128), bt182.2.1, bt182.2.2))) else (if bt179.1 = 1 then ((some (([9223372036854775807, (-9223372036854775808), 4611686018427387904, 4294967295, 4294967296, (-1000), 1000, 257] : List Int) : List Int)).bind fun y185 => ((spec_l01Cur_pick.f s0_0 bt179.2.1 bt179.2.2 8).bind fun bt188 => (if 0 ≤ bt188.1 then (if bt188.1 < (y185.length : Int) then (some (rd y185 bt188.1, bt188.2.1, bt188.2.2)) else (none)) else (none)))) else ((spec_l01Cur_pick.f s0_0 bt179.2.1 bt179.2.2 14).bind fun bt192 => (some (wrap64 (bt192.1 - 3), bt192.2.1, bt192.2.2)))))
set_option maxHeartbeats 8000000 in
set_option maxRecDepth 100000 in
theorem spec_l01Cur_raw.calls (g : Nat) (s0_0 : List Int) (s0_1 : Int) (s0_2 : Int) (r1 : Int) (r2 : Int) (r3 : Int) (w0 w : World) (hI : IsS80 w0 w g s0_0 s0_1 s0_2) (hB : Below w0.heap.size w0 w) (h : spec_l01Cur_raw.f s0_0 s0_1 s0_2 = some (r1, r2, r3)) :
  Calls Try.prog 66 #[.pointer (some ⟨g, 0, none⟩)] w fun e w' => e = .returned (.int .i64 r1) ∧ IsS80 w0 w' g s0_0 r2 r3 ∧ Below w0.heap.size w0 w' ∧ KeepBut w w' g none := by
 have HI0:=mk0 hI
 have HK:=mk0 (KeepBut.refl w g none)
 have HL:=mk0 hB.size
 clear hI
 have HW0:=mk0 hB.size
 have HB:=mk0 hB
 clear hB
 have H:((spec_l01Cur_pick.f s0_0 s0_1 s0_2 8).bind fun bt179=>(if bt179.1 = 0 then ((spec_l01Cur_pick.f s0_0 bt179.2.1 bt179.2.2 256).bind fun bt182=>(some (wrap64 (bt182.1 - 128),bt182.2.1,bt182.2.2))) else (if bt179.1 = 1 then ((some (([9223372036854775807,(-9223372036854775808),4611686018427387904,4294967295,4294967296,(-1000),1000,257]:List Int):List Int)).bind fun y185=>((spec_l01Cur_pick.f s0_0 bt179.2.1 bt179.2.2 8).bind fun bt188=>(if 0 ≤ bt188.1 then (if bt188.1 < (y185.length:Int) then (some (rd y185 bt188.1,bt188.2.1,bt188.2.2)) else (none)) else (none)))) else ((spec_l01Cur_pick.f s0_0 bt179.2.1 bt179.2.2 14).bind fun bt192=>(some (wrap64 (bt192.1 - 3),bt192.2.1,bt192.2.2)))))) = some (r1,r2,r3):=h
 clear h
 replace H:=Option.bind_eq_some_iff.mp H
 obtain⟨⟨t179,t180,t181⟩,A20,H⟩:=H
 replace H:(if t179 = 0 then ((spec_l01Cur_pick.f s0_0 t180 t181 256).bind fun bt182=>(some (wrap64 (bt182.1 - 128),bt182.2.1,bt182.2.2))) else (if t179 = 1 then ((some (([9223372036854775807,(-9223372036854775808),4611686018427387904,4294967295,4294967296,(-1000),1000,257]:List Int):List Int)).bind fun y185=>((spec_l01Cur_pick.f s0_0 t180 t181 8).bind fun bt188=>(if 0 ≤ bt188.1 then (if bt188.1 < (y185.length:Int) then (some (rd y185 bt188.1,bt188.2.1,bt188.2.2)) else (none)) else (none)))) else ((spec_l01Cur_pick.f s0_0 t180 t181 14).bind fun bt192=>(some (wrap64 (bt192.1 - 3),bt192.2.1,bt192.2.2))))) = some (r1,r2,r3):=H
 have A2:=mk0 A20
 clear A20
 by_cases c3:t179 = 0
 ·rw [if_pos c3] at H
  have c3b0:(t179 == 0) = true:=beq_iff_eq.mpr c3
  have c3b1:(t179 != 0) = false:=bne_eq_false_iff_eq.mpr c3
  clear c3
  replace H:=Option.bind_eq_some_iff.mp H
  obtain⟨⟨t182,t183,t184⟩,A40,H⟩:=H
  replace H:(some (wrap64 (t182 - 128),t183,t184)) = some (r1,r2,r3):=H
  have A4:=mk0 A40
  clear A40
  simp only [Option.some.injEq,Prod.mk.injEq] at H
  obtain⟨rfl,rfl,rfl⟩:=H
  go_enter Try.func66,Try.ntmps66
  go_wp2_with (first|((with_reducible refine gate_callee (f:=65) rfl ?_);refine goesL_ (some 4) rfl rfl Try.func65 (by kernel_rfl) rfl #[.pointer (some ⟨g,0,none⟩),.int .i64 8] rfl (by (try simp only [mA,mC,mN]);first|done|rfl|(simp only [List.length_drop,List.length_take];done)|(simp only [List.length_drop,List.length_take];rfl)) ?_;(with_reducible refine (spec_l01Cur_pick.calls g s0_0 s0_1 s0_2 8 t179 t180 t181 w0 _ ?side1 ?side2 A2.out).mono ?_);(case side1=>repeat (first|(with_reducible first|exact HI0.out|apply IsS80.alloc|apply IsS80.drewN|apply IsS80.drew|apply IsS80.set_1|apply IsS80.set_2)|exact HI0.out));(case side2=>repeat (first|(with_reducible first|exact HB.out|apply aZ|apply nZ|apply dZ|refine sZ ?_ (IsS80.ge HI0.out))|exact HB.out));rintro e w5 ⟨rfl,hi,hb,hk⟩;refine⟨_,rfl,?_⟩;replace HK:=mk0 (KeepBut.trans (by repeat (first|(with_reducible first|exact HK.out|apply KeepBut.set_|apply keep_drewN|apply keep_drew|apply keep_alloc)|exact HK.out)) hk (.inl rfl));replace HB:=mk0 (hb);replace HI0:=mk0 (hi);(try clear hb);(try clear hk);(try clear hi))|((with_reducible refine gate_callee (f:=65) rfl ?_);refine goesL_ (some 8) rfl rfl Try.func65 (by kernel_rfl) rfl #[.pointer (some ⟨g,0,none⟩),.int .i64 256] rfl (by (try simp only [mA,mC,mN]);first|done|rfl|(simp only [List.length_drop,List.length_take];done)|(simp only [List.length_drop,List.length_take];rfl)) ?_;(with_reducible refine (spec_l01Cur_pick.calls g s0_0 t180 t181 256 t182 t183 t184 w0 _ ?side1 ?side2 A4.out).mono ?_);(case side1=>repeat (first|(with_reducible first|exact HI0.out|apply IsS80.alloc|apply IsS80.drewN|apply IsS80.drew|apply IsS80.set_1|apply IsS80.set_2)|exact HI0.out));(case side2=>repeat (first|(with_reducible first|exact HB.out|apply aZ|apply nZ|apply dZ|refine sZ ?_ (IsS80.ge HI0.out))|exact HB.out));rintro e w6 ⟨rfl,hi,hb,hk⟩;refine⟨_,rfl,?_⟩;replace HK:=mk0 (KeepBut.trans (by repeat (first|(with_reducible first|exact HK.out|apply KeepBut.set_|apply keep_drewN|apply keep_drew|apply keep_alloc)|exact HK.out)) hk (.inl rfl));replace HB:=mk0 (hb);replace HI0:=mk0 (hi);(try clear hb);(try clear hk);(try clear hi)))
  go_ret
  exact⟨by first|rfl|(simp [errW_none,errW_some] <;> rfl)|(simp [*,errW_none,errW_some] <;> rfl),by repeat (first|(with_reducible first|exact HI0.out|apply IsS80.alloc|apply IsS80.drewN|apply IsS80.drew|apply IsS80.set_1|apply IsS80.set_2)|exact HI0.out),by repeat (first|(with_reducible first|exact HB.out|apply aZ|apply nZ|apply dZ|refine sZ ?_ (IsS80.ge HI0.out))|exact HB.out),by repeat (first|(with_reducible first|exact HK.out|apply KeepBut.set_|apply keep_drewN|apply keep_drew|apply keep_alloc)|exact HK.out)⟩
 ·rw [if_neg c3] at H
  have c3b0:(t179 == 0) = false:=beq_eq_false_iff_ne.mpr c3
  have c3b1:(t179 != 0) = true:=bne_iff_ne.mpr c3
  by_cases c7:t179 = 1
  ·rw [if_pos c7] at H
   have c7b0:(t179 == 1) = true:=beq_iff_eq.mpr c7
   have c7b1:(t179 != 1) = false:=bne_eq_false_iff_eq.mpr c7
   clear c7
   obtain⟨y185,hy185⟩:∃ y_:List Int,y_ = (([9223372036854775807,(-9223372036854775808),4611686018427387904,4294967295,4294967296,(-1000),1000,257]:List Int)):=⟨_,rfl⟩
   replace H:((spec_l01Cur_pick.f s0_0 t180 t181 8).bind fun bt188=>(if 0 ≤ bt188.1 then (if bt188.1 < (y185.length:Int) then (some (rd y185 bt188.1,bt188.2.1,bt188.2.2)) else (none)) else (none))) = some (r1,r2,r3):=by first|(rw [hy185];with_reducible exact H)|(have H2_:=(Option.bind_some _ _).symm.trans H;rw [hy185];with_reducible exact H2_)|(have H2_:=(Option.bind_some _ _).symm.trans H;with_reducible exact H2_)|with_reducible exact H|(rw [hy185];exact H)|exact H
   have Ny185:=mk0 hy185
   clear hy185
   replace H:=Option.bind_eq_some_iff.mp H
   obtain⟨⟨t188,t189,t190⟩,A80,H⟩:=H
   replace H:(if 0 ≤ t188 then (if t188 < (y185.length:Int) then (some (rd y185 t188,t189,t190)) else (none)) else (none)) = some (r1,r2,r3):=H
   have A8:=mk0 A80
   clear A80
   by_cases c9:0 ≤ t188
   ·rw [if_pos c9] at H
    have c9b0:decide (0 ≤ t188) = true:=decide_eq_true c9
    clear c9
    by_cases c10:t188 < (y185.length:Int)
    ·rw [if_pos c10] at H
     have c10b0:decide (t188 < (y185.length:Int)) = true:=decide_eq_true c10
     clear c10
     simp only [Option.some.injEq,Prod.mk.injEq] at H
     obtain⟨rfl,rfl,rfl⟩:=H
     go_enter Try.func66,Try.ntmps66
     go_wp2_with (first|((with_reducible refine gate_callee (f:=65) rfl ?_);refine goesL_ (some 4) rfl rfl Try.func65 (by kernel_rfl) rfl #[.pointer (some ⟨g,0,none⟩),.int .i64 8] rfl (by (try simp only [mA,mC,mN]);first|done|rfl|(simp only [List.length_drop,List.length_take];done)|(simp only [List.length_drop,List.length_take];rfl)) ?_;(with_reducible refine (spec_l01Cur_pick.calls g s0_0 s0_1 s0_2 8 t179 t180 t181 w0 _ ?side1 ?side2 A2.out).mono ?_);(case side1=>repeat (first|(with_reducible first|exact HI0.out|apply IsS80.alloc|apply IsS80.drewN|apply IsS80.drew|apply IsS80.set_1|apply IsS80.set_2)|exact HI0.out));(case side2=>repeat (first|(with_reducible first|exact HB.out|apply aZ|apply nZ|apply dZ|refine sZ ?_ (IsS80.ge HI0.out))|exact HB.out));rintro e w11 ⟨rfl,hi,hb,hk⟩;refine⟨_,rfl,?_⟩;replace HK:=mk0 (KeepBut.trans (by repeat (first|(with_reducible first|exact HK.out|apply KeepBut.set_|apply keep_drewN|apply keep_drew|apply keep_alloc)|exact HK.out)) hk (.inl rfl));replace HB:=mk0 (hb);replace HI0:=mk0 (hi);(try clear hb);(try clear hk);(try clear hi))|((with_reducible refine gate_dst (N:=12) rfl ?_);refine Kd.R_lit (Kd.int .i64) _ 3 ?hg (N:=12) ?hd (xs:=([9223372036854775807,(-9223372036854775808),4611686018427387904,4294967295,4294967296,(-1000),1000,257]:List Int)) (inner:=[.int .i64 9223372036854775807,.int .i64 (-9223372036854775808),.int .i64 4611686018427387904,.int .i64 4294967295,.int .i64 4294967296,.int .i64 (-1000),.int .i64 1000,.int .i64 257]) (ok:=fun _=>True) (okp:=fun _=>True) ?hr ?hp (fun _ hk=>hk) trivial (Below.refl _ _) (Nat.le_refl _) (by simp) ?_;(case hd=>rfl);(case hg=>rfl);(case hr=>first|(go_simp;done)|(go_simp;rfl));(case hp=>exact (Reps.one (show Kd.M (Kd.int .i64) _ _ _ 9223372036854775807 [.int .i64 9223372036854775807] from rfl) (Reps.one (show Kd.M (Kd.int .i64) _ _ _ (-9223372036854775808) [.int .i64 (-9223372036854775808)] from rfl) (Reps.one (show Kd.M (Kd.int .i64) _ _ _ 4611686018427387904 [.int .i64 4611686018427387904] from rfl) (Reps.one (show Kd.M (Kd.int .i64) _ _ _ 4294967295 [.int .i64 4294967295] from rfl) (Reps.one (show Kd.M (Kd.int .i64) _ _ _ 4294967296 [.int .i64 4294967296] from rfl) (Reps.one (show Kd.M (Kd.int .i64) _ _ _ (-1000) [.int .i64 (-1000)] from rfl) (Reps.one (show Kd.M (Kd.int .i64) _ _ _ 1000 [.int .i64 1000] from rfl) (Reps.one (show Kd.M (Kd.int .i64) _ _ _ 257 [.int .i64 257] from rfl) (Reps.none _ _))))))))));intro v186 w12 ho13 hb hg_ hnew_;clear hg_ hnew_;(first|rw [← Ny185.out] at ho13|(simp only [Int.reduceToNat] at ho13;rw [← Ny185.out] at ho13));have HO187:=mk0 (Kd.R_lower ho13 (keep_size (w:=w) (g:=g) (row:=none) (by repeat (first|(with_reducible first|exact HK.out|apply KeepBut.set_|apply keep_drewN|apply keep_drew|apply keep_alloc)|exact HK.out))));replace HK:=mk0 (KeepBut.trans (by repeat (first|(with_reducible first|exact HK.out|apply KeepBut.set_|apply keep_drewN|apply keep_drew|apply keep_alloc)|exact HK.out)) (KeepBut.of_below hb g none) (.inl rfl));replace HB:=mk0 (below_step (by repeat (first|(with_reducible first|exact HB.out|apply aZ|apply nZ|apply dZ|refine sZ ?_ (IsS80.ge HI0.out))|exact HB.out)) hb);replace HI0:=mk0 (IsS80.below (by repeat (first|(with_reducible first|exact HI0.out|apply IsS80.alloc|apply IsS80.drewN|apply IsS80.drew|apply IsS80.set_1|apply IsS80.set_2)|exact HI0.out)) hb);clear hb ho13)|((with_reducible refine gate_callee (f:=65) rfl ?_);refine goesL_ (some 14) rfl rfl Try.func65 (by kernel_rfl) rfl #[.pointer (some ⟨g,0,none⟩),.int .i64 8] rfl (by (try simp only [mA,mC,mN]);first|done|rfl|(simp only [List.length_drop,List.length_take];done)|(simp only [List.length_drop,List.length_take];rfl)) ?_;(with_reducible refine (spec_l01Cur_pick.calls g s0_0 t180 t181 8 t188 t189 t190 w0 _ ?side1 ?side2 A8.out).mono ?_);(case side1=>repeat (first|(with_reducible first|exact HI0.out|apply IsS80.alloc|apply IsS80.drewN|apply IsS80.drew|apply IsS80.set_1|apply IsS80.set_2)|exact HI0.out));(case side2=>repeat (first|(with_reducible first|exact HB.out|apply aZ|apply nZ|apply dZ|refine sZ ?_ (IsS80.ge HI0.out))|exact HB.out));rintro e w14 ⟨rfl,hi,hb,hk⟩;refine⟨_,rfl,?_⟩;replace HO187:=mk0 (Kd.R_mono (Kd.R_keep (IsS80.apart (show IsS80 w0 _ g s0_0 t180 t181 from by repeat (first|(with_reducible first|exact HI0.out|apply IsS80.alloc|apply IsS80.drewN|apply IsS80.drew|apply IsS80.set_1|apply IsS80.set_2)|exact HI0.out)) (rR HO187.out) (by decide)) hk (fun _ h=>h.2)) (fun _ h=>h.1));replace HK:=mk0 (KeepBut.trans (by repeat (first|(with_reducible first|exact HK.out|apply KeepBut.set_|apply keep_drewN|apply keep_drew|apply keep_alloc)|exact HK.out)) hk (.inl rfl));replace HB:=mk0 (hb);replace HI0:=mk0 (hi);(try clear hb);(try clear hk);(try clear hi);obtain⟨Ao15,co15,eo15⟩:=Kd.R_slice HO187.out;subst eo15;have p191:0 ≤ (t188:Int):=of_decide_eq_true (by first|(with_reducible assumption)|assumption);have q191:t188 < (y185.length:Int):=of_decide_eq_true (by first|(with_reducible assumption)|assumption);obtain⟨ad191,e191,hx191_0⟩:=Kd.at_int (Kd.R_reads' HO187.out).2.2 t188 p191 q191;cases e191;replace p191:=eq_true p191;replace q191:=eq_true q191))
     go_ret
     exact⟨by first|rfl|(simp [errW_none,errW_some] <;> rfl)|(simp [*,errW_none,errW_some] <;> rfl),by repeat (first|(with_reducible first|exact HI0.out|apply IsS80.alloc|apply IsS80.drewN|apply IsS80.drew|apply IsS80.set_1|apply IsS80.set_2)|exact HI0.out),by repeat (first|(with_reducible first|exact HB.out|apply aZ|apply nZ|apply dZ|refine sZ ?_ (IsS80.ge HI0.out))|exact HB.out),by repeat (first|(with_reducible first|exact HK.out|apply KeepBut.set_|apply keep_drewN|apply keep_drew|apply keep_alloc)|exact HK.out)⟩
    ·rw [if_neg c10] at H
     exact absurd H (by simp)
   ·rw [if_neg c9] at H
    exact absurd H (by simp)
  ·rw [if_neg c7] at H
   have c7b0:(t179 == 1) = false:=beq_eq_false_iff_ne.mpr c7
   have c7b1:(t179 != 1) = true:=bne_iff_ne.mpr c7
   replace H:=Option.bind_eq_some_iff.mp H
   obtain⟨⟨t192,t193,t194⟩,A160,H⟩:=H
   replace H:(some (wrap64 (t192 - 3),t193,t194)) = some (r1,r2,r3):=H
   have A16:=mk0 A160
   clear A160
   simp only [Option.some.injEq,Prod.mk.injEq] at H
   obtain⟨rfl,rfl,rfl⟩:=H
   go_enter Try.func66,Try.ntmps66
   go_wp2_with (first|((with_reducible refine gate_callee (f:=65) rfl ?_);refine goesL_ (some 4) rfl rfl Try.func65 (by kernel_rfl) rfl #[.pointer (some ⟨g,0,none⟩),.int .i64 8] rfl (by (try simp only [mA,mC,mN]);first|done|rfl|(simp only [List.length_drop,List.length_take];done)|(simp only [List.length_drop,List.length_take];rfl)) ?_;(with_reducible refine (spec_l01Cur_pick.calls g s0_0 s0_1 s0_2 8 t179 t180 t181 w0 _ ?side1 ?side2 A2.out).mono ?_);(case side1=>repeat (first|(with_reducible first|exact HI0.out|apply IsS80.alloc|apply IsS80.drewN|apply IsS80.drew|apply IsS80.set_1|apply IsS80.set_2)|exact HI0.out));(case side2=>repeat (first|(with_reducible first|exact HB.out|apply aZ|apply nZ|apply dZ|refine sZ ?_ (IsS80.ge HI0.out))|exact HB.out));rintro e w17 ⟨rfl,hi,hb,hk⟩;refine⟨_,rfl,?_⟩;replace HK:=mk0 (KeepBut.trans (by repeat (first|(with_reducible first|exact HK.out|apply KeepBut.set_|apply keep_drewN|apply keep_drew|apply keep_alloc)|exact HK.out)) hk (.inl rfl));replace HB:=mk0 (hb);replace HI0:=mk0 (hi);(try clear hb);(try clear hk);(try clear hi))|((with_reducible refine gate_callee (f:=65) rfl ?_);refine goesL_ (some 18) rfl rfl Try.func65 (by kernel_rfl) rfl #[.pointer (some ⟨g,0,none⟩),.int .i64 14] rfl (by (try simp only [mA,mC,mN]);first|done|rfl|(simp only [List.length_drop,List.length_take];done)|(simp only [List.length_drop,List.length_take];rfl)) ?_;(with_reducible refine (spec_l01Cur_pick.calls g s0_0 t180 t181 14 t192 t193 t194 w0 _ ?side1 ?side2 A16.out).mono ?_);(case side1=>repeat (first|(with_reducible first|exact HI0.out|apply IsS80.alloc|apply IsS80.drewN|apply IsS80.drew|apply IsS80.set_1|apply IsS80.set_2)|exact HI0.out));(case side2=>repeat (first|(with_reducible first|exact HB.out|apply aZ|apply nZ|apply dZ|refine sZ ?_ (IsS80.ge HI0.out))|exact HB.out));rintro e w18 ⟨rfl,hi,hb,hk⟩;refine⟨_,rfl,?_⟩;replace HK:=mk0 (KeepBut.trans (by repeat (first|(with_reducible first|exact HK.out|apply KeepBut.set_|apply keep_drewN|apply keep_drew|apply keep_alloc)|exact HK.out)) hk (.inl rfl));replace HB:=mk0 (hb);replace HI0:=mk0 (hi);(try clear hb);(try clear hk);(try clear hi)))
   go_ret
   exact⟨by first|rfl|(simp [errW_none,errW_some] <;> rfl)|(simp [*,errW_none,errW_some] <;> rfl),by repeat (first|(with_reducible first|exact HI0.out|apply IsS80.alloc|apply IsS80.drewN|apply IsS80.drew|apply IsS80.set_1|apply IsS80.set_2)|exact HI0.out),by repeat (first|(with_reducible first|exact HB.out|apply aZ|apply nZ|apply dZ|refine sZ ?_ (IsS80.ge HI0.out))|exact HB.out),by repeat (first|(with_reducible first|exact HK.out|apply KeepBut.set_|apply keep_drewN|apply keep_drew|apply keep_alloc)|exact HK.out)⟩

/-! ### spec_l01Cur_size: function 70 -/
def spec_l01Cur_size.f (s0_0 : List Int) (s0_1 : Int) (s0_2 : Int) (a1 : Int) : Option (Int × Int × Int) := (spec_l01Cur_pick.f s0_0 s0_1 s0_2 (wrap64 ((mn a1 (wrap64 (1 + (wrap64 ((s0_0.length : Int) / 8))))) + 1))).bind fun bt195 => (some (bt195.1, bt195.2.1, bt195.2.2))
set_option maxHeartbeats 8000000 in
set_option maxRecDepth 100000 in
theorem spec_l01Cur_size.calls (g : Nat) (s0_0 : List Int) (s0_1 : Int) (s0_2 : Int) (a1 : Int) (r1 : Int) (r2 : Int) (r3 : Int) (w0 w : World) (hI : IsS80 w0 w g s0_0 s0_1 s0_2) (hB : Below w0.heap.size w0 w) (h : spec_l01Cur_size.f s0_0 s0_1 s0_2 a1 = some (r1, r2, r3)) :
  Calls Try.prog 70 #[.pointer (some ⟨g, 0, none⟩), .int .i64 a1] w fun e w' => e = .returned (.int .i64 r1) ∧ IsS80 w0 w' g s0_0 r2 r3 ∧ Below w0.heap.size w0 w' ∧ KeepBut w w' g none := by
 have HI0:=mk0 hI
 have HK:=mk0 (KeepBut.refl w g none)
 have HL:=mk0 hB.size
 clear hI
 have HW0:=mk0 hB.size
 have HB:=mk0 hB
 clear hB
 have H:((spec_l01Cur_pick.f s0_0 s0_1 s0_2 (wrap64 ((mn a1 (wrap64 (1 + (wrap64 ((s0_0.length:Int) / 8))))) + 1))).bind fun bt195=>(some (bt195.1,bt195.2.1,bt195.2.2))) = some (r1,r2,r3):=h
 clear h
 obtain⟨ji3,hji3⟩:∃ j_:Int,(mn a1 (wrap64 (1 + (wrap64 ((s0_0.length:Int) / 8))))) = j_:=⟨_,rfl⟩
 replace H:((spec_l01Cur_pick.f s0_0 s0_1 s0_2 (wrap64 ((ji3) + 1))).bind fun bt195=>(some (bt195.1,bt195.2.1,bt195.2.2))) = some (r1,r2,r3):=by first|(rw [hji3] at H;exact H)|(simp only [hji3] at H ⊢;exact H)
 have hji3_:(if (wrap64 (1 + (wrap64 ((s0_0.length:Int) / 8)))) < a1 then (wrap64 (1 + (wrap64 ((s0_0.length:Int) / 8)))) else a1) = ji3:=hji3
 replace H:=Option.bind_eq_some_iff.mp H
 obtain⟨⟨t195,t196,t197⟩,A40,H⟩:=H
 replace H:(some (t195,t196,t197)) = some (r1,r2,r3):=H
 have A4:=mk0 A40
 clear A40
 simp only [Option.some.injEq,Prod.mk.injEq] at H
 obtain⟨rfl,rfl,rfl⟩:=H
 obtain⟨ASz5_0,cSz5_0,HGz5,hgz5,HSz5_0⟩:=HI0.out
 have hcz5_0:=cellS80_0 HGz5
 have hcz5_1:=cellS80_1 HGz5
 have hcz5_2:=cellS80_2 HGz5
 have hfz5_1:=blk_frozen HGz5 1
 have hfz5_2:=blk_frozen HGz5 2
 clear HGz5 hgz5
 go_enter Try.func70,Try.ntmps70
 go_wp2_with (first|((with_reducible refine gate_callee (f:=65) rfl ?_);refine goesL_ (some 16) rfl rfl Try.func65 (by kernel_rfl) rfl #[.pointer (some ⟨g,0,none⟩),.int .i64 (wrap64 ((ji3) + 1))] rfl (by (try simp only [mA,mC,mN]);first|done|(simp only [hji3];rfl)|rfl|(simp only [List.length_drop,List.length_take];done)|(simp only [List.length_drop,List.length_take];rfl)) ?_;(with_reducible refine (spec_l01Cur_pick.calls g s0_0 s0_1 s0_2 (wrap64 ((ji3) + 1)) t195 t196 t197 w0 _ ?side1 ?side2 A4.out).mono ?_);(case side1=>repeat (first|(with_reducible first|exact HI0.out|apply IsS80.alloc|apply IsS80.drewN|apply IsS80.drew|apply IsS80.set_1|apply IsS80.set_2)|exact HI0.out));(case side2=>repeat (first|(with_reducible first|exact HB.out|apply aZ|apply nZ|apply dZ|refine sZ ?_ (IsS80.ge HI0.out))|exact HB.out));rintro e w6 ⟨rfl,hi,hb,hk⟩;refine⟨_,rfl,?_⟩;replace HK:=mk0 (KeepBut.trans (by repeat (first|(with_reducible first|exact HK.out|apply KeepBut.set_|apply keep_drewN|apply keep_drew|apply keep_alloc)|exact HK.out)) hk (.inl rfl));replace HB:=mk0 (hb);replace HI0:=mk0 (hi);(try clear hb);(try clear hk);(try clear hi)))
 go_ret
 exact⟨by first|rfl|(simp [errW_none,errW_some] <;> rfl)|(simp only [← hji3];first|rfl|(simp [errW_none,errW_some] <;> rfl))|(simp [*,errW_none,errW_some] <;> rfl),by repeat (first|(with_reducible first|exact HI0.out|apply IsS80.alloc|apply IsS80.drewN|apply IsS80.drew|apply IsS80.set_1|apply IsS80.set_2)|exact HI0.out),by repeat (first|(with_reducible first|exact HB.out|apply aZ|apply nZ|apply dZ|refine sZ ?_ (IsS80.ge HI0.out))|exact HB.out),by repeat (first|(with_reducible first|exact HK.out|apply KeepBut.set_|apply keep_drewN|apply keep_drew|apply keep_alloc)|exact HK.out)⟩

/-! ### spec_l01Cur_wide: function 71 -/
def spec_l01Cur_wide.f (s0_0 : List Int) (s0_1 : Int) (s0_2 : Int) (a1 : Int) : Option (Int × Int × Int) := (spec_l01Cur_pick.f s0_0 s0_1 s0_2 256).bind fun bt198 => ((spec_l01Cur_pick.f s0_0 bt198.2.1 bt198.2.2 256).bind fun bt201 => ((spec_l01Cur_pick.f s0_0 bt201.2.1 bt201.2.2 256).bind fun bt204 => (if a1 = 0 then (none) else (some (Int.tmod (wrap64 ((wrap64 ((wrap64 (65536 * bt198.1)) + (wrap64 (256 * bt201.1)))) + bt204.1)) a1, bt204.2.1, bt204.2.2)))))
set_option maxHeartbeats 8000000 in
set_option maxRecDepth 100000 in
theorem spec_l01Cur_wide.calls (g : Nat) (s0_0 : List Int) (s0_1 : Int) (s0_2 : Int) (a1 : Int) (r1 : Int) (r2 : Int) (r3 : Int) (w0 w : World) (hI : IsS80 w0 w g s0_0 s0_1 s0_2) (hB : Below w0.heap.size w0 w) (h : spec_l01Cur_wide.f s0_0 s0_1 s0_2 a1 = some (r1, r2, r3)) :
  Calls Try.prog 71 #[.pointer (some ⟨g, 0, none⟩), .int .i64 a1] w fun e w' => e = .returned (.int .i64 r1) ∧ IsS80 w0 w' g s0_0 r2 r3 ∧ Below w0.heap.size w0 w' ∧ KeepBut w w' g none := by
 have HI0:=mk0 hI
 have HK:=mk0 (KeepBut.refl w g none)
 have HL:=mk0 hB.size
 clear hI
 have HW0:=mk0 hB.size
 have HB:=mk0 hB
 clear hB
 have H:((spec_l01Cur_pick.f s0_0 s0_1 s0_2 256).bind fun bt198=>((spec_l01Cur_pick.f s0_0 bt198.2.1 bt198.2.2 256).bind fun bt201=>((spec_l01Cur_pick.f s0_0 bt201.2.1 bt201.2.2 256).bind fun bt204=>(if a1 = 0 then (none) else (some (Int.tmod (wrap64 ((wrap64 ((wrap64 (65536 * bt198.1)) + (wrap64 (256 * bt201.1)))) + bt204.1)) a1,bt204.2.1,bt204.2.2)))))) = some (r1,r2,r3):=h
 clear h
 replace H:=Option.bind_eq_some_iff.mp H
 obtain⟨⟨t198,t199,t200⟩,A30,H⟩:=H
 replace H:((spec_l01Cur_pick.f s0_0 t199 t200 256).bind fun bt201=>((spec_l01Cur_pick.f s0_0 bt201.2.1 bt201.2.2 256).bind fun bt204=>(if a1 = 0 then (none) else (some (Int.tmod (wrap64 ((wrap64 ((wrap64 (65536 * t198)) + (wrap64 (256 * bt201.1)))) + bt204.1)) a1,bt204.2.1,bt204.2.2))))) = some (r1,r2,r3):=H
 have A3:=mk0 A30
 clear A30
 replace H:=Option.bind_eq_some_iff.mp H
 obtain⟨⟨t201,t202,t203⟩,A40,H⟩:=H
 replace H:((spec_l01Cur_pick.f s0_0 t202 t203 256).bind fun bt204=>(if a1 = 0 then (none) else (some (Int.tmod (wrap64 ((wrap64 ((wrap64 (65536 * t198)) + (wrap64 (256 * t201)))) + bt204.1)) a1,bt204.2.1,bt204.2.2)))) = some (r1,r2,r3):=H
 have A4:=mk0 A40
 clear A40
 replace H:=Option.bind_eq_some_iff.mp H
 obtain⟨⟨t204,t205,t206⟩,A50,H⟩:=H
 replace H:(if a1 = 0 then (none) else (some (Int.tmod (wrap64 ((wrap64 ((wrap64 (65536 * t198)) + (wrap64 (256 * t201)))) + t204)) a1,t205,t206))) = some (r1,r2,r3):=H
 have A5:=mk0 A50
 clear A50
 by_cases c6:a1 = 0
 ·rw [if_pos c6] at H
  exact absurd H (by simp)
 ·rw [if_neg c6] at H
  have c6b0:(a1 == 0) = false:=beq_eq_false_iff_ne.mpr c6
  have c6b1:(a1 != 0) = true:=bne_iff_ne.mpr c6
  simp only [Option.some.injEq,Prod.mk.injEq] at H
  obtain⟨rfl,rfl,rfl⟩:=H
  go_enter Try.func71,Try.ntmps71
  go_wp2_with (first|((with_reducible refine gate_callee (f:=65) rfl ?_);refine goesL_ (some 6) rfl rfl Try.func65 (by kernel_rfl) rfl #[.pointer (some ⟨g,0,none⟩),.int .i64 256] rfl (by (try simp only [mA,mC,mN]);first|done|rfl|(simp only [List.length_drop,List.length_take];done)|(simp only [List.length_drop,List.length_take];rfl)) ?_;(with_reducible refine (spec_l01Cur_pick.calls g s0_0 s0_1 s0_2 256 t198 t199 t200 w0 _ ?side1 ?side2 A3.out).mono ?_);(case side1=>repeat (first|(with_reducible first|exact HI0.out|apply IsS80.alloc|apply IsS80.drewN|apply IsS80.drew|apply IsS80.set_1|apply IsS80.set_2)|exact HI0.out));(case side2=>repeat (first|(with_reducible first|exact HB.out|apply aZ|apply nZ|apply dZ|refine sZ ?_ (IsS80.ge HI0.out))|exact HB.out));rintro e w7 ⟨rfl,hi,hb,hk⟩;refine⟨_,rfl,?_⟩;replace HK:=mk0 (KeepBut.trans (by repeat (first|(with_reducible first|exact HK.out|apply KeepBut.set_|apply keep_drewN|apply keep_drew|apply keep_alloc)|exact HK.out)) hk (.inl rfl));replace HB:=mk0 (hb);replace HI0:=mk0 (hi);(try clear hb);(try clear hk);(try clear hi))|((with_reducible refine gate_callee (f:=65) rfl ?_);refine goesL_ (some 9) rfl rfl Try.func65 (by kernel_rfl) rfl #[.pointer (some ⟨g,0,none⟩),.int .i64 256] rfl (by (try simp only [mA,mC,mN]);first|done|rfl|(simp only [List.length_drop,List.length_take];done)|(simp only [List.length_drop,List.length_take];rfl)) ?_;(with_reducible refine (spec_l01Cur_pick.calls g s0_0 t199 t200 256 t201 t202 t203 w0 _ ?side1 ?side2 A4.out).mono ?_);(case side1=>repeat (first|(with_reducible first|exact HI0.out|apply IsS80.alloc|apply IsS80.drewN|apply IsS80.drew|apply IsS80.set_1|apply IsS80.set_2)|exact HI0.out));(case side2=>repeat (first|(with_reducible first|exact HB.out|apply aZ|apply nZ|apply dZ|refine sZ ?_ (IsS80.ge HI0.out))|exact HB.out));rintro e w8 ⟨rfl,hi,hb,hk⟩;refine⟨_,rfl,?_⟩;replace HK:=mk0 (KeepBut.trans (by repeat (first|(with_reducible first|exact HK.out|apply KeepBut.set_|apply keep_drewN|apply keep_drew|apply keep_alloc)|exact HK.out)) hk (.inl rfl));replace HB:=mk0 (hb);replace HI0:=mk0 (hi);(try clear hb);(try clear hk);(try clear hi))|((with_reducible refine gate_callee (f:=65) rfl ?_);refine goesL_ (some 13) rfl rfl Try.func65 (by kernel_rfl) rfl #[.pointer (some ⟨g,0,none⟩),.int .i64 256] rfl (by (try simp only [mA,mC,mN]);first|done|rfl|(simp only [List.length_drop,List.length_take];done)|(simp only [List.length_drop,List.length_take];rfl)) ?_;(with_reducible refine (spec_l01Cur_pick.calls g s0_0 t202 t203 256 t204 t205 t206 w0 _ ?side1 ?side2 A5.out).mono ?_);(case side1=>repeat (first|(with_reducible first|exact HI0.out|apply IsS80.alloc|apply IsS80.drewN|apply IsS80.drew|apply IsS80.set_1|apply IsS80.set_2)|exact HI0.out));(case side2=>repeat (first|(with_reducible first|exact HB.out|apply aZ|apply nZ|apply dZ|refine sZ ?_ (IsS80.ge HI0.out))|exact HB.out));rintro e w9 ⟨rfl,hi,hb,hk⟩;refine⟨_,rfl,?_⟩;replace HK:=mk0 (KeepBut.trans (by repeat (first|(with_reducible first|exact HK.out|apply KeepBut.set_|apply keep_drewN|apply keep_drew|apply keep_alloc)|exact HK.out)) hk (.inl rfl));replace HB:=mk0 (hb);replace HI0:=mk0 (hi);(try clear hb);(try clear hk);(try clear hi)))
  go_ret
  exact⟨by first|rfl|(simp [errW_none,errW_some] <;> rfl)|(simp [*,errW_none,errW_some] <;> rfl),by repeat (first|(with_reducible first|exact HI0.out|apply IsS80.alloc|apply IsS80.drewN|apply IsS80.drew|apply IsS80.set_1|apply IsS80.set_2)|exact HI0.out),by repeat (first|(with_reducible first|exact HB.out|apply aZ|apply nZ|apply dZ|refine sZ ?_ (IsS80.ge HI0.out))|exact HB.out),by repeat (first|(with_reducible first|exact HK.out|apply KeepBut.set_|apply keep_drewN|apply keep_drew|apply keep_alloc)|exact HK.out)⟩

/-! ### spec_l01Cur_countsOf: function 48 -/
def spec_l01Cur_countsOf.l0 : Nat → List Int → Int → Int → List Int → Int → Int → Option (List Int × Int × Int)
 | 0, _, _, _, _, _, _ => none
 | k + 1, x3, x4, x5, x1000, x1001, x1002 => if x5 > 0 then ((spec_l01Cur_wide.f x1000 x1001 x1002 x4).bind fun bt220 => ((spec_l01Cur_once.f x1000 bt220.2.1 bt220.2.2 4).bind fun bt223 => (if bt223.1 = true then (if x3.length < 17592186044416 then (spec_l01Cur_countsOf.l0 k (x3 ++ [0]) x4 (wrap64 (x5 - 1)) x1000 bt223.2.1 bt223.2.2) else (none)) else (if x3.length < 17592186044416 then (spec_l01Cur_countsOf.l0 k (x3 ++ [bt220.1]) x4 (wrap64 (x5 - 1)) x1000 bt223.2.1 bt223.2.2) else (none))))) else ((spec_l01Cur_pick.f x1000 x1001 x1002 14).bind fun bt232 => (if bt232.1 = 0 then ((spec_l01Cur_raw.f x1000 bt232.2.1 bt232.2.2).bind fun bt235 => (if x3.length < 17592186044416 then (some ((x3 ++ [bt235.1]), bt235.2.1, bt235.2.2)) else (none))) else (if bt232.1 = 1 then ((spec_l01Cur_pick.f x1000 bt232.2.1 bt232.2.2 2).bind fun bt241 => (if 0 ≤ (wrap64 (300 + bt241.1)) then (if (wrap64 (300 + bt241.1) : Int).toNat ≤ 35184372088832 then (some ((List.replicate (wrap64 (300 + bt241.1) : Int).toNat 0), bt241.2.1, bt241.2.2)) else (none)) else (none))) else (if bt232.1 = 2 then ((some (([1, 1, 2, 3, 5, 8, 13, 21, 34, 55, 89, 144] : List Int) : List Int)).bind fun y247 => ((spec_l01Cur_pick.f x1000 bt232.2.1 bt232.2.2 13).bind fun bt250 => (if 0 ≤ bt250.1 then (if bt250.1 ≤ (y247.length : Int) then (some ((y247.take (bt250.1 : Int).toNat), bt250.2.1, bt250.2.2)) else (none)) else (none)))) else (some (x3, bt232.2.1, bt232.2.2))))))
def spec_l01Cur_countsOf.f (k : Nat) (s0_0 : List Int) (s0_1 : Int) (s0_2 : Int) : Option (List Int × Int × Int) := (some (([2, 9, 200, 1000001] : List Int) : List Int)).bind fun y210 => ((spec_l01Cur_pick.f s0_0 s0_1 s0_2 4).bind fun bt213 => (if 0 ≤ bt213.1 then (if bt213.1 < (y210.length : Int) then ((spec_l01Cur_size.f s0_0 bt213.2.1 bt213.2.2 14).bind fun bt217 => (spec_l01Cur_countsOf.l0 k (([] : List Int)) (rd y210 bt213.1) bt217.1 s0_0 bt217.2.1 bt217.2.2)) else (none)) else (none)))
theorem spec_l01Cur_countsOf.mono_l : ∀ k, (∀ y0 y1 y2 y3 y4 y5, LeO (spec_l01Cur_countsOf.l0 k y0 y1 y2 y3 y4 y5) (spec_l01Cur_countsOf.l0 (k + 1) y0 y1 y2 y3 y4 y5))
 | 0 => fun _ _ _ _ _ _ r h => by simp [spec_l01Cur_countsOf.l0] at h
 | k + 1 => by
  have ih0 := spec_l01Cur_countsOf.mono_l k
  ·intro y0 y1 y2 y3 y4 y5
   unfold spec_l01Cur_countsOf.l0
   repeat' first|(with_reducible first|exact ih0 _ _ _ _ _ _|exact LeO.refl _|exact LeO.none _|refine LeO.ite ?_ ?_|refine LeO.bind ?_ (fun _ => ?_))|exact LeO.none _|refine LeO.ite ?_ ?_|refine LeO.bind ?_ (fun _ => ?_)
theorem spec_l01Cur_countsOf.mono : ∀ a0 a1 a2 k, LeO (spec_l01Cur_countsOf.f k a0 a1 a2) (spec_l01Cur_countsOf.f (k + 1) a0 a1 a2) := by
 intro a0 a1 a2 k
 have ih0 := spec_l01Cur_countsOf.mono_l k
 unfold spec_l01Cur_countsOf.f
 repeat' first|(with_reducible first|exact ih0 _ _ _ _ _ _|exact LeO.refl _|exact LeO.none _|refine LeO.ite ?_ ?_|refine LeO.bind ?_ (fun _ => ?_))|exact LeO.none _|refine LeO.ite ?_ ?_|refine LeO.bind ?_ (fun _ => ?_)
set_option maxHeartbeats 8000000 in
set_option maxRecDepth 100000 in
theorem spec_l01Cur_countsOf.calls (k : Nat) (g : Nat) (s0_0 : List Int) (s0_1 : Int) (s0_2 : Int) (r1 : List Int) (r2 : Int) (r3 : Int) (w0 w : World) (hI : IsS80 w0 w g s0_0 s0_1 s0_2) (hB : Below w0.heap.size w0 w) (h : spec_l01Cur_countsOf.f k s0_0 s0_1 s0_2 = some (r1, r2, r3)) :
  Calls Try.prog 48 #[.pointer (some ⟨g, 0, none⟩)] w fun e w' => ∃ v0_ : Value, e = .returned (v0_) ∧ Kd.R (Kd.int .i64) 3 w' w.heap.size (fun _ => True) v0_ r1 ∧ IsS80 w0 w' g s0_0 r2 r3 ∧ Below w0.heap.size w0 w' ∧ KeepBut w w' g none := by
 have HI0:=mk0 hI
 have HK:=mk0 (KeepBut.refl w g none)
 have HL:=mk0 hB.size
 clear hI
 have HW0:=mk0 hB.size
 have HB:=mk0 hB
 clear hB
 have H:((some (([2,9,200,1000001]:List Int):List Int)).bind fun y210=>((spec_l01Cur_pick.f s0_0 s0_1 s0_2 4).bind fun bt213=>(if 0 ≤ bt213.1 then (if bt213.1 < (y210.length:Int) then ((spec_l01Cur_size.f s0_0 bt213.2.1 bt213.2.2 14).bind fun bt217=>(spec_l01Cur_countsOf.l0 k (([]:List Int)) (rd y210 bt213.1) bt217.1 s0_0 bt217.2.1 bt217.2.2)) else (none)) else (none)))) = some (r1,r2,r3):=h
 clear h
 obtain⟨y207,hy207⟩:∃ y_:List Int,y_ = (([]:List Int)):=⟨_,rfl⟩
 replace H:((some (([2,9,200,1000001]:List Int):List Int)).bind fun y210=>((spec_l01Cur_pick.f s0_0 s0_1 s0_2 4).bind fun bt213=>(if 0 ≤ bt213.1 then (if bt213.1 < (y210.length:Int) then ((spec_l01Cur_size.f s0_0 bt213.2.1 bt213.2.2 14).bind fun bt217=>(spec_l01Cur_countsOf.l0 k y207 (rd y210 bt213.1) bt217.1 s0_0 bt217.2.1 bt217.2.2)) else (none)) else (none)))) = some (r1,r2,r3):=by first|(rw [hy207];with_reducible exact H)|(have H2_:=(Option.bind_some _ _).symm.trans H;rw [hy207];with_reducible exact H2_)|(have H2_:=(Option.bind_some _ _).symm.trans H;with_reducible exact H2_)|with_reducible exact H|(rw [hy207];exact H)|exact H
 have Ny207:=mk0 hy207
 clear hy207
 obtain⟨y210,hy210⟩:∃ y_:List Int,y_ = (([2,9,200,1000001]:List Int)):=⟨_,rfl⟩
 replace H:((spec_l01Cur_pick.f s0_0 s0_1 s0_2 4).bind fun bt213=>(if 0 ≤ bt213.1 then (if bt213.1 < (y210.length:Int) then ((spec_l01Cur_size.f s0_0 bt213.2.1 bt213.2.2 14).bind fun bt217=>(spec_l01Cur_countsOf.l0 k y207 (rd y210 bt213.1) bt217.1 s0_0 bt217.2.1 bt217.2.2)) else (none)) else (none))) = some (r1,r2,r3):=by first|(rw [hy210];with_reducible exact H)|(have H2_:=(Option.bind_some _ _).symm.trans H;rw [hy210];with_reducible exact H2_)|(have H2_:=(Option.bind_some _ _).symm.trans H;with_reducible exact H2_)|with_reducible exact H|(rw [hy210];exact H)|exact H
 have Ny210:=mk0 hy210
 clear hy210
 replace H:=Option.bind_eq_some_iff.mp H
 obtain⟨⟨t213,t214,t215⟩,A20,H⟩:=H
 replace H:(if 0 ≤ t213 then (if t213 < (y210.length:Int) then ((spec_l01Cur_size.f s0_0 t214 t215 14).bind fun bt217=>(spec_l01Cur_countsOf.l0 k y207 (rd y210 t213) bt217.1 s0_0 bt217.2.1 bt217.2.2)) else (none)) else (none)) = some (r1,r2,r3):=H
 have A2:=mk0 A20
 clear A20
 by_cases c3:0 ≤ t213
 rotate_left
 ·rw [if_neg c3] at H
  exact absurd H (by simp)

 rw [if_pos c3] at H
 have c3b0:decide (0 ≤ t213) = true:=decide_eq_true c3
 clear c3
 by_cases c4:t213 < (y210.length:Int)
 rotate_left
 ·rw [if_neg c4] at H
  exact absurd H (by simp)
 rw [if_pos c4] at H
 have c4b0:decide (t213 < (y210.length:Int)) = true:=decide_eq_true c4
 clear c4
 replace H:=Option.bind_eq_some_iff.mp H
 obtain⟨⟨t217,t218,t219⟩,A50,H⟩:=H
 replace H:(spec_l01Cur_countsOf.l0 k y207 (rd y210 t213) t217 s0_0 t218 t219) = some (r1,r2,r3):=H
 have A5:=mk0 A50
 clear A50
 have H':=mk0 H
 clear H
 go_enter Try.func48,Try.ntmps48
 go_wp2_with (first|((with_reducible refine gate_dst (N:=7) rfl ?_);refine Kd.R_lit (Kd.int .i64) _ 3 ?hg (N:=7) ?hd (xs:=([]:List Int)) (inner:=[]) (ok:=fun _=>True) (okp:=fun _=>True) ?hr ?hp (fun _ hk=>hk) trivial (Below.refl _ _) (Nat.le_refl _) (by simp) ?_;(case hd=>rfl);(case hg=>rfl);(case hr=>first|(go_simp;done)|(go_simp;rfl));(case hp=>exact (Reps.none _ _));intro v208 w6 ho7 hb hg_ hnew_;clear hg_ hnew_;(first|rw [← Ny207.out] at ho7|(simp only [Int.reduceToNat] at ho7;rw [← Ny207.out] at ho7));have HO209:=mk0 (Kd.R_lower ho7 (keep_size (w:=w) (g:=g) (row:=none) (by repeat (first|(with_reducible first|exact HK.out|apply KeepBut.set_|apply keep_drewN|apply keep_drew|apply keep_alloc)|exact HK.out))));replace HK:=mk0 (KeepBut.trans (by repeat (first|(with_reducible first|exact HK.out|apply KeepBut.set_|apply keep_drewN|apply keep_drew|apply keep_alloc)|exact HK.out)) (KeepBut.of_below hb g none) (.inl rfl));replace HB:=mk0 (below_step (by repeat (first|(with_reducible first|exact HB.out|apply aZ|apply nZ|apply dZ|refine sZ ?_ (IsS80.ge HI0.out))|exact HB.out)) hb);replace HI0:=mk0 (IsS80.below (by repeat (first|(with_reducible first|exact HI0.out|apply IsS80.alloc|apply IsS80.drewN|apply IsS80.drew|apply IsS80.set_1|apply IsS80.set_2)|exact HI0.out)) hb);clear hb ho7)|((with_reducible refine gate_dst (N:=8) rfl ?_);refine Kd.R_lit (Kd.int .i64) _ 3 ?hg (N:=8) ?hd (xs:=([2,9,200,1000001]:List Int)) (inner:=[.int .i64 2,.int .i64 9,.int .i64 200,.int .i64 1000001]) (ok:=fun _=>True) (okp:=fun _=>True) ?hr ?hp (fun _ hk=>hk) trivial (Below.refl _ _) (Nat.le_refl _) (by simp) ?_;(case hd=>rfl);(case hg=>rfl);(case hr=>first|(go_simp;done)|(go_simp;rfl));(case hp=>exact (Reps.one (show Kd.M (Kd.int .i64) _ _ _ 2 [.int .i64 2] from rfl) (Reps.one (show Kd.M (Kd.int .i64) _ _ _ 9 [.int .i64 9] from rfl) (Reps.one (show Kd.M (Kd.int .i64) _ _ _ 200 [.int .i64 200] from rfl) (Reps.one (show Kd.M (Kd.int .i64) _ _ _ 1000001 [.int .i64 1000001] from rfl) (Reps.none _ _))))));intro v211 w8 ho9 hb hg_ hnew_;clear hg_ hnew_;(first|rw [← Ny210.out] at ho9|(simp only [Int.reduceToNat] at ho9;rw [← Ny210.out] at ho9));have HO212:=mk0 (Kd.R_lower (Kd.R_new' ho9 (Kd.R_lt (rR HO209.out))) (keep_size (w:=w) (g:=g) (row:=none) (by repeat (first|(with_reducible first|exact HK.out|apply KeepBut.set_|apply keep_drewN|apply keep_drew|apply keep_alloc)|exact HK.out))));replace HO209:=mk0 (Kd.R_elder' (rR HO209.out) (Kd.R_base ho9) hb);replace HK:=mk0 (KeepBut.trans (by repeat (first|(with_reducible first|exact HK.out|apply KeepBut.set_|apply keep_drewN|apply keep_drew|apply keep_alloc)|exact HK.out)) (KeepBut.of_below hb g none) (.inl rfl));replace HB:=mk0 (below_step (by repeat (first|(with_reducible first|exact HB.out|apply aZ|apply nZ|apply dZ|refine sZ ?_ (IsS80.ge HI0.out))|exact HB.out)) hb);replace HI0:=mk0 (IsS80.below (by repeat (first|(with_reducible first|exact HI0.out|apply IsS80.alloc|apply IsS80.drewN|apply IsS80.drew|apply IsS80.set_1|apply IsS80.set_2)|exact HI0.out)) hb);clear hb ho9)|((with_reducible refine gate_callee (f:=65) rfl ?_);refine goesL_ (some 10) rfl rfl Try.func65 (by kernel_rfl) rfl #[.pointer (some ⟨g,0,none⟩),.int .i64 4] rfl (by (try simp only [mA,mC,mN]);first|done|rfl|(simp only [List.length_drop,List.length_take];done)|(simp only [List.length_drop,List.length_take];rfl)) ?_;(with_reducible refine (spec_l01Cur_pick.calls g s0_0 s0_1 s0_2 4 t213 t214 t215 w0 _ ?side1 ?side2 A2.out).mono ?_);(case side1=>repeat (first|(with_reducible first|exact HI0.out|apply IsS80.alloc|apply IsS80.drewN|apply IsS80.drew|apply IsS80.set_1|apply IsS80.set_2)|exact HI0.out));(case side2=>repeat (first|(with_reducible first|exact HB.out|apply aZ|apply nZ|apply dZ|refine sZ ?_ (IsS80.ge HI0.out))|exact HB.out));rintro e w10 ⟨rfl,hi,hb,hk⟩;refine⟨_,rfl,?_⟩;replace HO209:=mk0 (Kd.R_mono (Kd.R_keep (IsS80.apart (show IsS80 w0 _ g s0_0 s0_1 s0_2 from by repeat (first|(with_reducible first|exact HI0.out|apply IsS80.alloc|apply IsS80.drewN|apply IsS80.drew|apply IsS80.set_1|apply IsS80.set_2)|exact HI0.out)) (rR HO209.out) (by decide)) hk (fun _ h=>h.2)) (fun _ h=>h.1));replace HO212:=mk0 (Kd.R_mono (Kd.R_keep (IsS80.apart (show IsS80 w0 _ g s0_0 s0_1 s0_2 from by repeat (first|(with_reducible first|exact HI0.out|apply IsS80.alloc|apply IsS80.drewN|apply IsS80.drew|apply IsS80.set_1|apply IsS80.set_2)|exact HI0.out)) (rR HO212.out) (by decide)) hk (fun _ h=>h.2)) (fun _ h=>h.1));replace HK:=mk0 (KeepBut.trans (by repeat (first|(with_reducible first|exact HK.out|apply KeepBut.set_|apply keep_drewN|apply keep_drew|apply keep_alloc)|exact HK.out)) hk (.inl rfl));replace HB:=mk0 (hb);replace HI0:=mk0 (hi);(try clear hb);(try clear hk);(try clear hi);obtain⟨Ao11,co11,eo11⟩:=Kd.R_slice HO212.out;subst eo11;have p216:0 ≤ (t213:Int):=of_decide_eq_true (by first|(with_reducible assumption)|assumption);have q216:t213 < (y210.length:Int):=of_decide_eq_true (by first|(with_reducible assumption)|assumption);obtain⟨ad216,e216,hx216_0⟩:=Kd.at_int (Kd.R_reads' HO212.out).2.2 t213 p216 q216;cases e216;replace p216:=eq_true p216;replace q216:=eq_true q216)|((with_reducible refine gate_callee (f:=70) rfl ?_);refine goesL_ (some 14) rfl rfl Try.func70 (by kernel_rfl) rfl #[.pointer (some ⟨g,0,none⟩),.int .i64 14] rfl (by (try simp only [mA,mC,mN]);first|done|rfl|(simp only [List.length_drop,List.length_take];done)|(simp only [List.length_drop,List.length_take];rfl)) ?_;(with_reducible refine (spec_l01Cur_size.calls g s0_0 t214 t215 14 t217 t218 t219 w0 _ ?side1 ?side2 A5.out).mono ?_);(case side1=>repeat (first|(with_reducible first|exact HI0.out|apply IsS80.alloc|apply IsS80.drewN|apply IsS80.drew|apply IsS80.set_1|apply IsS80.set_2)|exact HI0.out));(case side2=>repeat (first|(with_reducible first|exact HB.out|apply aZ|apply nZ|apply dZ|refine sZ ?_ (IsS80.ge HI0.out))|exact HB.out));rintro e w12 ⟨rfl,hi,hb,hk⟩;refine⟨_,rfl,?_⟩;replace HO209:=mk0 (Kd.R_mono (Kd.R_keep (IsS80.apart (show IsS80 w0 _ g s0_0 t214 t215 from by repeat (first|(with_reducible first|exact HI0.out|apply IsS80.alloc|apply IsS80.drewN|apply IsS80.drew|apply IsS80.set_1|apply IsS80.set_2)|exact HI0.out)) (rR HO209.out) (by decide)) hk (fun _ h=>h.2)) (fun _ h=>h.1));replace HO212:=mk0 (Kd.R_mono (Kd.R_keep (IsS80.apart (show IsS80 w0 _ g s0_0 t214 t215 from by repeat (first|(with_reducible first|exact HI0.out|apply IsS80.alloc|apply IsS80.drewN|apply IsS80.drew|apply IsS80.set_1|apply IsS80.set_2)|exact HI0.out)) (rR HO212.out) (by decide)) hk (fun _ h=>h.2)) (fun _ h=>h.1));replace HK:=mk0 (KeepBut.trans (by repeat (first|(with_reducible first|exact HK.out|apply KeepBut.set_|apply keep_drewN|apply keep_drew|apply keep_alloc)|exact HK.out)) hk (.inl rfl));replace HB:=mk0 (hb);replace HI0:=mk0 (hi);(try clear hb);(try clear hk);(try clear hi)))
 go_loopg [3,5] k (fun kq v3 v5 w'=>∃ (x3_1:List Int) (x5_1:Int) (x1001_1:Int) (x1002_1:Int),v5 = .int .i64 x5_1 ∧ Aside0 (spec_l01Cur_countsOf.l0 kq x3_1 (rd y210 t213) x5_1 s0_0 x1001_1 x1002_1 = some (r1,r2,r3)) ∧ Aside0 (kq ≤ k) ∧ Aside0 (Kd.R (Kd.int .i64) 3 w' w.heap.size (fun _=>True) v3 x3_1) ∧ Aside0 (IsS80 w0 w' g s0_0 x1001_1 x1002_1) ∧ Aside0 (KeepBut w w' g none) ∧ Aside0 (Below w0.heap.size w0 w'))
 case atStart=>exact⟨(y207),(t217),(t218),(t219),(by first|rfl|(simp;done)|(simp [*];done)),H',⟨Nat.le_refl _⟩,⟨rR (Kd.R_mono HO209.out (fun _ hk=>trivial))⟩,⟨by repeat (first|(with_reducible first|exact HI0.out|apply IsS80.alloc|apply IsS80.drewN|apply IsS80.drew|apply IsS80.set_1|apply IsS80.set_2)|exact HI0.out)⟩,⟨by repeat (first|(with_reducible first|exact HK.out|apply KeepBut.set_|apply keep_drewN|apply keep_drew|apply keep_alloc)|exact HK.out)⟩,⟨by repeat (first|(with_reducible first|exact HB.out|apply aZ|apply nZ|apply dZ|refine sZ ?_ (IsS80.ge HI0.out))|exact HB.out)⟩⟩
 case round =>
  clear H'
  try clear p2
  try clear q2
  try clear hx2
  try clear c3
  try clear c3b0
  try clear c4
  try clear c4b0
  try clear c6
  try clear c7
  try clear hx216_0
  try clear p216
  try clear q216
  obtain⟨x3_1,x5_1,x1001_1,x1002_1,rfl,HA,HK1,HO_3,HI0,HK,HB⟩:=hrel
  cases gk with
  | zero=>exact absurd HA.out (by simp [spec_l01Cur_countsOf.l0])
  | succ k1 =>
   have H:=HA.out
   clear HA
   simp only [spec_l01Cur_countsOf.l0] at H
   by_cases c13:x5_1 > 0
   ·rw [if_pos c13] at H
    have c13b0:decide (0 < x5_1) = true:=decide_eq_true c13
    clear c13
    replace H:=Option.bind_eq_some_iff.mp H
    obtain⟨⟨t220,t221,t222⟩,A140,H⟩:=H
    replace H:((spec_l01Cur_once.f s0_0 t221 t222 4).bind fun bt223=>(if bt223.1 = true then (if x3_1.length < 17592186044416 then (spec_l01Cur_countsOf.l0 k1 (x3_1 ++ [0]) (rd y210 t213) (wrap64 (x5_1 - 1)) s0_0 bt223.2.1 bt223.2.2) else (none)) else (if x3_1.length < 17592186044416 then (spec_l01Cur_countsOf.l0 k1 (x3_1 ++ [t220]) (rd y210 t213) (wrap64 (x5_1 - 1)) s0_0 bt223.2.1 bt223.2.2) else (none)))) = some (r1,r2,r3):=H
    have A14:=mk0 A140
    clear A140
    replace H:=Option.bind_eq_some_iff.mp H
    obtain⟨⟨t223,t224,t225⟩,A150,H⟩:=H
    replace H:(if t223 = true then (if x3_1.length < 17592186044416 then (spec_l01Cur_countsOf.l0 k1 (x3_1 ++ [0]) (rd y210 t213) (wrap64 (x5_1 - 1)) s0_0 t224 t225) else (none)) else (if x3_1.length < 17592186044416 then (spec_l01Cur_countsOf.l0 k1 (x3_1 ++ [t220]) (rd y210 t213) (wrap64 (x5_1 - 1)) s0_0 t224 t225) else (none))) = some (r1,r2,r3):=H
    have A15:=mk0 A150
    clear A150
    by_cases c16:t223 = true
    ·subst c16
     have H1:(if x3_1.length < 17592186044416 then (spec_l01Cur_countsOf.l0 k1 (x3_1 ++ [0]) (rd y210 t213) (wrap64 (x5_1 - 1)) s0_0 t224 t225) else (none)) = some (r1,r2,r3):=by rw [if_pos rfl] at H;exact H
     clear H
     have H:=H1
     clear H1
     by_cases c17:x3_1.length < 17592186044416
     rotate_left
     ·rw [if_neg c17] at H
      exact absurd H (by simp)
     rw [if_pos c17] at H
     have LMc17:=mk0 c17
     clear c17
     obtain⟨y226,hy226⟩:∃ y_:List Int,y_ = (x3_1 ++ [0]):=⟨_,rfl⟩
     replace H:(spec_l01Cur_countsOf.l0 k1 y226 (rd y210 t213) (wrap64 (x5_1 - 1)) s0_0 t224 t225) = some (r1,r2,r3):=by first|(rw [hy226];with_reducible exact H)|(have H2_:=(Option.bind_some _ _).symm.trans H;rw [hy226];with_reducible exact H2_)|(have H2_:=(Option.bind_some _ _).symm.trans H;with_reducible exact H2_)|with_reducible exact H|(rw [hy226];exact H)|exact H
     have Ny226:=mk0 hy226
     clear hy226
     have H':=mk0 H
     clear H
     go_wp2_with (first|((with_reducible refine gate_callee (f:=71) rfl ?_);refine goesL_ (some 21) rfl rfl Try.func71 (by kernel_rfl) rfl #[.pointer (some ⟨g,0,none⟩),.int .i64 (rd y210 t213)] rfl (by (try simp only [mA,mC,mN]);first|done|rfl|(simp only [List.length_drop,List.length_take];done)|(simp only [List.length_drop,List.length_take];rfl)) ?_;(with_reducible refine (spec_l01Cur_wide.calls g s0_0 x1001_1 x1002_1 (rd y210 t213) t220 t221 t222 w0 _ ?side1 ?side2 A14.out).mono ?_);(case side1=>repeat (first|(with_reducible first|exact HI0.out|apply IsS80.alloc|apply IsS80.drewN|apply IsS80.drew|apply IsS80.set_1|apply IsS80.set_2)|exact HI0.out));(case side2=>repeat (first|(with_reducible first|exact HB.out|apply aZ|apply nZ|apply dZ|refine sZ ?_ (IsS80.ge HI0.out))|exact HB.out));rintro e w18 ⟨rfl,hi,hb,hk⟩;refine⟨_,rfl,?_⟩;replace HO_3:=mk0 (Kd.R_mono (Kd.R_keep (IsS80.apart (show IsS80 w0 _ g s0_0 x1001_1 x1002_1 from by repeat (first|(with_reducible first|exact HI0.out|apply IsS80.alloc|apply IsS80.drewN|apply IsS80.drew|apply IsS80.set_1|apply IsS80.set_2)|exact HI0.out)) (rR HO_3.out) (by decide)) hk (fun _ h=>h.2)) (fun _ h=>h.1));replace HK:=mk0 (KeepBut.trans (by repeat (first|(with_reducible first|exact HK.out|apply KeepBut.set_|apply keep_drewN|apply keep_drew|apply keep_alloc)|exact HK.out)) hk (.inl rfl));replace HB:=mk0 (hb);replace HI0:=mk0 (hi);(try clear hb);(try clear hk);(try clear hi))|((with_reducible refine gate_callee (f:=49) rfl ?_);refine goesL_ (some 23) rfl rfl Try.func49 (by kernel_rfl) rfl #[.pointer (some ⟨g,0,none⟩),.int .i64 4] rfl (by (try simp only [mA,mC,mN]);first|done|rfl|(simp only [List.length_drop,List.length_take];done)|(simp only [List.length_drop,List.length_take];rfl)) ?_;(with_reducible refine (spec_l01Cur_once.calls g s0_0 t221 t222 4 true t224 t225 w0 _ ?side1 ?side2 A15.out).mono ?_);(case side1=>repeat (first|(with_reducible first|exact HI0.out|apply IsS80.alloc|apply IsS80.drewN|apply IsS80.drew|apply IsS80.set_1|apply IsS80.set_2)|exact HI0.out));(case side2=>repeat (first|(with_reducible first|exact HB.out|apply aZ|apply nZ|apply dZ|refine sZ ?_ (IsS80.ge HI0.out))|exact HB.out));rintro e w19 ⟨rfl,hi,hb,hk⟩;refine⟨_,rfl,?_⟩;replace HO_3:=mk0 (Kd.R_mono (Kd.R_keep (IsS80.apart (show IsS80 w0 _ g s0_0 t221 t222 from by repeat (first|(with_reducible first|exact HI0.out|apply IsS80.alloc|apply IsS80.drewN|apply IsS80.drew|apply IsS80.set_1|apply IsS80.set_2)|exact HI0.out)) (rR HO_3.out) (by decide)) hk (fun _ h=>h.2)) (fun _ h=>h.1));replace HK:=mk0 (KeepBut.trans (by repeat (first|(with_reducible first|exact HK.out|apply KeepBut.set_|apply keep_drewN|apply keep_drew|apply keep_alloc)|exact HK.out)) hk (.inl rfl));replace HB:=mk0 (hb);replace HI0:=mk0 (hi);(try clear hb);(try clear hk);(try clear hi))|((with_reducible refine gate_builtin (b:=.append) (xs:=#[.tmp 24,.tmp 26]) rfl ?_);at_builtin;refine Kd.R_append (Kd.int .i64) w.heap.size rfl (.tmp 24) (.tmp 26) 24 3 (.int .i64 0) 8 rfl Try.underlying24 info3 rfl (by decide) (by omega) u3 x3_1 0 [.int .i64 0] (fun _=>True) (fun _=>False) rfl rfl ?aP (fun _ hk=>hk.elim) ?aF ?aO (Below.refl _ _) ?aS ?aL ?_;(case aP=>exact rfl);(case aF=>exact (fun _ _=>trivial));(case aO=>exact (rR HO_3.out));(case aS=>exact (keep_size (w:=w) (g:=g) (row:=none) (by repeat (first|(with_reducible first|exact HK.out|apply KeepBut.set_|apply keep_drewN|apply keep_drew|apply keep_alloc)|exact HK.out))));(case aL=>have:=LMc17.out;omega);intro v227 w20 ho hb hg hat;rw [← Ny226.out] at ho;replace HB:=mk0 (below_weaken (by repeat (first|(with_reducible first|exact HB.out|apply aZ|apply nZ|apply dZ|refine sZ ?_ (IsS80.ge HI0.out))|exact HB.out)) HL.out hb);replace HI0:=mk0 (IsS80.grown (by repeat (first|(with_reducible first|exact HI0.out|apply IsS80.alloc|apply IsS80.drewN|apply IsS80.drew|apply IsS80.set_1|apply IsS80.set_2)|exact HI0.out)) hg (IsS80.own_ne HI0.out HO_3.out (by decide)));replace HK:=mk0 (KeepBut.trans (by repeat (first|(with_reducible first|exact HK.out|apply KeepBut.set_|apply keep_drewN|apply keep_drew|apply keep_alloc)|exact HK.out)) (KeepBut.of_grown hg g) (Kd.R_base2 HO_3.out));have HO228:=mk0 (ho);clear HO_3 ho hb hg hat))
     go_roundg k1
     case measure=>have:=HK1.out;omega
     case rel=>exact⟨(y226),(wrap64 (x5_1 - 1)),(t224),(t225),(by first|rfl|(simp;done)|(simp [*];done)),H',⟨by have:=HK1.out;omega⟩,⟨rR HO228.out⟩,⟨by repeat (first|(with_reducible first|exact HI0.out|apply IsS80.alloc|apply IsS80.drewN|apply IsS80.drew|apply IsS80.set_1|apply IsS80.set_2)|exact HI0.out)⟩,⟨by repeat (first|(with_reducible first|exact HK.out|apply KeepBut.set_|apply keep_drewN|apply keep_drew|apply keep_alloc)|exact HK.out)⟩,⟨by repeat (first|(with_reducible first|exact HB.out|apply aZ|apply nZ|apply dZ|refine sZ ?_ (IsS80.ge HI0.out))|exact HB.out)⟩⟩
    replace c16:=Bool.eq_false_iff.mpr c16
    subst c16
    have H1:(if x3_1.length < 17592186044416 then (spec_l01Cur_countsOf.l0 k1 (x3_1 ++ [t220]) (rd y210 t213) (wrap64 (x5_1 - 1)) s0_0 t224 t225) else (none)) = some (r1,r2,r3):=by rw [if_neg (show ¬ (false = true) by decide)] at H;exact H
    clear H
    have H:=H1
    clear H1
    by_cases c21:x3_1.length < 17592186044416
    rotate_left
    ·rw [if_neg c21] at H
     exact absurd H (by simp)
    rw [if_pos c21] at H
    have LMc21:=mk0 c21
    clear c21
    obtain⟨y229,hy229⟩:∃ y_:List Int,y_ = (x3_1 ++ [t220]):=⟨_,rfl⟩
    replace H:(spec_l01Cur_countsOf.l0 k1 y229 (rd y210 t213) (wrap64 (x5_1 - 1)) s0_0 t224 t225) = some (r1,r2,r3):=by first|(rw [hy229];with_reducible exact H)|(have H2_:=(Option.bind_some _ _).symm.trans H;rw [hy229];with_reducible exact H2_)|(have H2_:=(Option.bind_some _ _).symm.trans H;with_reducible exact H2_)|with_reducible exact H|(rw [hy229];exact H)|exact H
    have Ny229:=mk0 hy229
    clear hy229
    have H':=mk0 H
    clear H
    go_wp2_with (first|((with_reducible refine gate_callee (f:=71) rfl ?_);refine goesL_ (some 21) rfl rfl Try.func71 (by kernel_rfl) rfl #[.pointer (some ⟨g,0,none⟩),.int .i64 (rd y210 t213)] rfl (by (try simp only [mA,mC,mN]);first|done|rfl|(simp only [List.length_drop,List.length_take];done)|(simp only [List.length_drop,List.length_take];rfl)) ?_;(with_reducible refine (spec_l01Cur_wide.calls g s0_0 x1001_1 x1002_1 (rd y210 t213) t220 t221 t222 w0 _ ?side1 ?side2 A14.out).mono ?_);(case side1=>repeat (first|(with_reducible first|exact HI0.out|apply IsS80.alloc|apply IsS80.drewN|apply IsS80.drew|apply IsS80.set_1|apply IsS80.set_2)|exact HI0.out));(case side2=>repeat (first|(with_reducible first|exact HB.out|apply aZ|apply nZ|apply dZ|refine sZ ?_ (IsS80.ge HI0.out))|exact HB.out));rintro e w22 ⟨rfl,hi,hb,hk⟩;refine⟨_,rfl,?_⟩;replace HO_3:=mk0 (Kd.R_mono (Kd.R_keep (IsS80.apart (show IsS80 w0 _ g s0_0 x1001_1 x1002_1 from by repeat (first|(with_reducible first|exact HI0.out|apply IsS80.alloc|apply IsS80.drewN|apply IsS80.drew|apply IsS80.set_1|apply IsS80.set_2)|exact HI0.out)) (rR HO_3.out) (by decide)) hk (fun _ h=>h.2)) (fun _ h=>h.1));replace HK:=mk0 (KeepBut.trans (by repeat (first|(with_reducible first|exact HK.out|apply KeepBut.set_|apply keep_drewN|apply keep_drew|apply keep_alloc)|exact HK.out)) hk (.inl rfl));replace HB:=mk0 (hb);replace HI0:=mk0 (hi);(try clear hb);(try clear hk);(try clear hi))|((with_reducible refine gate_callee (f:=49) rfl ?_);refine goesL_ (some 23) rfl rfl Try.func49 (by kernel_rfl) rfl #[.pointer (some ⟨g,0,none⟩),.int .i64 4] rfl (by (try simp only [mA,mC,mN]);first|done|rfl|(simp only [List.length_drop,List.length_take];done)|(simp only [List.length_drop,List.length_take];rfl)) ?_;(with_reducible refine (spec_l01Cur_once.calls g s0_0 t221 t222 4 false t224 t225 w0 _ ?side1 ?side2 A15.out).mono ?_);(case side1=>repeat (first|(with_reducible first|exact HI0.out|apply IsS80.alloc|apply IsS80.drewN|apply IsS80.drew|apply IsS80.set_1|apply IsS80.set_2)|exact HI0.out));(case side2=>repeat (first|(with_reducible first|exact HB.out|apply aZ|apply nZ|apply dZ|refine sZ ?_ (IsS80.ge HI0.out))|exact HB.out));rintro e w23 ⟨rfl,hi,hb,hk⟩;refine⟨_,rfl,?_⟩;replace HO_3:=mk0 (Kd.R_mono (Kd.R_keep (IsS80.apart (show IsS80 w0 _ g s0_0 t221 t222 from by repeat (first|(with_reducible first|exact HI0.out|apply IsS80.alloc|apply IsS80.drewN|apply IsS80.drew|apply IsS80.set_1|apply IsS80.set_2)|exact HI0.out)) (rR HO_3.out) (by decide)) hk (fun _ h=>h.2)) (fun _ h=>h.1));replace HK:=mk0 (KeepBut.trans (by repeat (first|(with_reducible first|exact HK.out|apply KeepBut.set_|apply keep_drewN|apply keep_drew|apply keep_alloc)|exact HK.out)) hk (.inl rfl));replace HB:=mk0 (hb);replace HI0:=mk0 (hi);(try clear hb);(try clear hk);(try clear hi))|((with_reducible refine gate_builtin (b:=.append) (xs:=#[.tmp 24,.tmp 26]) rfl ?_);at_builtin;refine Kd.R_append (Kd.int .i64) w.heap.size rfl (.tmp 24) (.tmp 26) 24 3 (.int .i64 0) 8 rfl Try.underlying24 info3 rfl (by decide) (by omega) u3 x3_1 t220 [.int .i64 t220] (fun _=>True) (fun _=>False) rfl rfl ?aP (fun _ hk=>hk.elim) ?aF ?aO (Below.refl _ _) ?aS ?aL ?_;(case aP=>exact rfl);(case aF=>exact (fun _ _=>trivial));(case aO=>exact (rR HO_3.out));(case aS=>exact (keep_size (w:=w) (g:=g) (row:=none) (by repeat (first|(with_reducible first|exact HK.out|apply KeepBut.set_|apply keep_drewN|apply keep_drew|apply keep_alloc)|exact HK.out))));(case aL=>have:=LMc21.out;omega);intro v230 w24 ho hb hg hat;rw [← Ny229.out] at ho;replace HB:=mk0 (below_weaken (by repeat (first|(with_reducible first|exact HB.out|apply aZ|apply nZ|apply dZ|refine sZ ?_ (IsS80.ge HI0.out))|exact HB.out)) HL.out hb);replace HI0:=mk0 (IsS80.grown (by repeat (first|(with_reducible first|exact HI0.out|apply IsS80.alloc|apply IsS80.drewN|apply IsS80.drew|apply IsS80.set_1|apply IsS80.set_2)|exact HI0.out)) hg (IsS80.own_ne HI0.out HO_3.out (by decide)));replace HK:=mk0 (KeepBut.trans (by repeat (first|(with_reducible first|exact HK.out|apply KeepBut.set_|apply keep_drewN|apply keep_drew|apply keep_alloc)|exact HK.out)) (KeepBut.of_grown hg g) (Kd.R_base2 HO_3.out));have HO231:=mk0 (ho);clear HO_3 ho hb hg hat))
    go_roundg k1
    case measure=>have:=HK1.out;omega
    case rel=>exact⟨(y229),(wrap64 (x5_1 - 1)),(t224),(t225),(by first|rfl|(simp;done)|(simp [*];done)),H',⟨by have:=HK1.out;omega⟩,⟨rR HO231.out⟩,⟨by repeat (first|(with_reducible first|exact HI0.out|apply IsS80.alloc|apply IsS80.drewN|apply IsS80.drew|apply IsS80.set_1|apply IsS80.set_2)|exact HI0.out)⟩,⟨by repeat (first|(with_reducible first|exact HK.out|apply KeepBut.set_|apply keep_drewN|apply keep_drew|apply keep_alloc)|exact HK.out)⟩,⟨by repeat (first|(with_reducible first|exact HB.out|apply aZ|apply nZ|apply dZ|refine sZ ?_ (IsS80.ge HI0.out))|exact HB.out)⟩⟩
   rw [if_neg c13] at H
   have c13b0:decide (0 < x5_1) = false:=decide_eq_false c13
   clear c13
   replace H:=Option.bind_eq_some_iff.mp H
   obtain⟨⟨t232,t233,t234⟩,A250,H⟩:=H
   replace H:(if t232 = 0 then ((spec_l01Cur_raw.f s0_0 t233 t234).bind fun bt235=>(if x3_1.length < 17592186044416 then (some ((x3_1 ++ [bt235.1]),bt235.2.1,bt235.2.2)) else (none))) else (if t232 = 1 then ((spec_l01Cur_pick.f s0_0 t233 t234 2).bind fun bt241=>(if 0 ≤ (wrap64 (300 + bt241.1)) then (if (wrap64 (300 + bt241.1):Int).toNat ≤ 35184372088832 then (some ((List.replicate (wrap64 (300 + bt241.1):Int).toNat 0),bt241.2.1,bt241.2.2)) else (none)) else (none))) else (if t232 = 2 then ((some (([1,1,2,3,5,8,13,21,34,55,89,144]:List Int):List Int)).bind fun y247=>((spec_l01Cur_pick.f s0_0 t233 t234 13).bind fun bt250=>(if 0 ≤ bt250.1 then (if bt250.1 ≤ (y247.length:Int) then (some ((y247.take (bt250.1:Int).toNat),bt250.2.1,bt250.2.2)) else (none)) else (none)))) else (some (x3_1,t233,t234))))) = some (r1,r2,r3):=H
   have A25:=mk0 A250
   clear A250
   by_cases c26:t232 = 0
   ·rw [if_pos c26] at H
    have c26b0:(t232 == 0) = true:=beq_iff_eq.mpr c26
    have c26b1:(t232 != 0) = false:=bne_eq_false_iff_eq.mpr c26
    clear c26
    replace H:=Option.bind_eq_some_iff.mp H
    obtain⟨⟨t235,t236,t237⟩,A270,H⟩:=H
    replace H:(if x3_1.length < 17592186044416 then (some ((x3_1 ++ [t235]),t236,t237)) else (none)) = some (r1,r2,r3):=H
    have A27:=mk0 A270
    clear A270
    by_cases c28:x3_1.length < 17592186044416
    rotate_left
    ·rw [if_neg c28] at H
     exact absurd H (by simp)
    rw [if_pos c28] at H
    have LMc28:=mk0 c28
    clear c28
    obtain⟨y238,hy238⟩:∃ y_:List Int,y_ = (x3_1 ++ [t235]):=⟨_,rfl⟩
    replace H:(some (y238,t236,t237)) = some (r1,r2,r3):=by first|(rw [hy238];with_reducible exact H)|(have H2_:=(Option.bind_some _ _).symm.trans H;rw [hy238];with_reducible exact H2_)|(have H2_:=(Option.bind_some _ _).symm.trans H;with_reducible exact H2_)|with_reducible exact H|(rw [hy238];exact H)|exact H
    have Ny238:=mk0 hy238
    clear hy238
    simp only [Option.some.injEq,Prod.mk.injEq] at H
    obtain⟨rfl,rfl,rfl⟩:=H
    go_wp2_with (first|((with_reducible refine gate_callee (f:=65) rfl ?_);refine goesL_ (some 29) rfl rfl Try.func65 (by kernel_rfl) rfl #[.pointer (some ⟨g,0,none⟩),.int .i64 14] rfl (by (try simp only [mA,mC,mN]);first|done|rfl|(simp only [List.length_drop,List.length_take];done)|(simp only [List.length_drop,List.length_take];rfl)) ?_;(with_reducible refine (spec_l01Cur_pick.calls g s0_0 x1001_1 x1002_1 14 t232 t233 t234 w0 _ ?side1 ?side2 A25.out).mono ?_);(case side1=>repeat (first|(with_reducible first|exact HI0.out|apply IsS80.alloc|apply IsS80.drewN|apply IsS80.drew|apply IsS80.set_1|apply IsS80.set_2)|exact HI0.out));(case side2=>repeat (first|(with_reducible first|exact HB.out|apply aZ|apply nZ|apply dZ|refine sZ ?_ (IsS80.ge HI0.out))|exact HB.out));rintro e w29 ⟨rfl,hi,hb,hk⟩;refine⟨_,rfl,?_⟩;replace HO_3:=mk0 (Kd.R_mono (Kd.R_keep (IsS80.apart (show IsS80 w0 _ g s0_0 x1001_1 x1002_1 from by repeat (first|(with_reducible first|exact HI0.out|apply IsS80.alloc|apply IsS80.drewN|apply IsS80.drew|apply IsS80.set_1|apply IsS80.set_2)|exact HI0.out)) (rR HO_3.out) (by decide)) hk (fun _ h=>h.2)) (fun _ h=>h.1));replace HK:=mk0 (KeepBut.trans (by repeat (first|(with_reducible first|exact HK.out|apply KeepBut.set_|apply keep_drewN|apply keep_drew|apply keep_alloc)|exact HK.out)) hk (.inl rfl));replace HB:=mk0 (hb);replace HI0:=mk0 (hi);(try clear hb);(try clear hk);(try clear hi))|((with_reducible refine gate_callee (f:=66) rfl ?_);refine goesL_ (some 34) rfl rfl Try.func66 (by kernel_rfl) rfl #[.pointer (some ⟨g,0,none⟩)] rfl (by (try simp only [mA,mC,mN]);first|done|rfl|(simp only [List.length_drop,List.length_take];done)|(simp only [List.length_drop,List.length_take];rfl)) ?_;(with_reducible refine (spec_l01Cur_raw.calls g s0_0 t233 t234 t235 t236 t237 w0 _ ?side1 ?side2 A27.out).mono ?_);(case side1=>repeat (first|(with_reducible first|exact HI0.out|apply IsS80.alloc|apply IsS80.drewN|apply IsS80.drew|apply IsS80.set_1|apply IsS80.set_2)|exact HI0.out));(case side2=>repeat (first|(with_reducible first|exact HB.out|apply aZ|apply nZ|apply dZ|refine sZ ?_ (IsS80.ge HI0.out))|exact HB.out));rintro e w30 ⟨rfl,hi,hb,hk⟩;refine⟨_,rfl,?_⟩;replace HO_3:=mk0 (Kd.R_mono (Kd.R_keep (IsS80.apart (show IsS80 w0 _ g s0_0 t233 t234 from by repeat (first|(with_reducible first|exact HI0.out|apply IsS80.alloc|apply IsS80.drewN|apply IsS80.drew|apply IsS80.set_1|apply IsS80.set_2)|exact HI0.out)) (rR HO_3.out) (by decide)) hk (fun _ h=>h.2)) (fun _ h=>h.1));replace HK:=mk0 (KeepBut.trans (by repeat (first|(with_reducible first|exact HK.out|apply KeepBut.set_|apply keep_drewN|apply keep_drew|apply keep_alloc)|exact HK.out)) hk (.inl rfl));replace HB:=mk0 (hb);replace HI0:=mk0 (hi);(try clear hb);(try clear hk);(try clear hi))|((with_reducible refine gate_builtin (b:=.append) (xs:=#[.tmp 32,.tmp 35]) rfl ?_);at_builtin;refine Kd.R_append (Kd.int .i64) w.heap.size rfl (.tmp 32) (.tmp 35) 24 3 (.int .i64 0) 8 rfl Try.underlying24 info3 rfl (by decide) (by omega) u3 x3_1 t235 [.int .i64 t235] (fun _=>True) (fun _=>False) rfl rfl ?aP (fun _ hk=>hk.elim) ?aF ?aO (Below.refl _ _) ?aS ?aL ?_;(case aP=>exact rfl);(case aF=>exact (fun _ _=>trivial));(case aO=>exact (rR HO_3.out));(case aS=>exact (keep_size (w:=w) (g:=g) (row:=none) (by repeat (first|(with_reducible first|exact HK.out|apply KeepBut.set_|apply keep_drewN|apply keep_drew|apply keep_alloc)|exact HK.out))));(case aL=>have:=LMc28.out;omega);intro v239 w31 ho hb hg hat;rw [← Ny238.out] at ho;replace HB:=mk0 (below_weaken (by repeat (first|(with_reducible first|exact HB.out|apply aZ|apply nZ|apply dZ|refine sZ ?_ (IsS80.ge HI0.out))|exact HB.out)) HL.out hb);replace HI0:=mk0 (IsS80.grown (by repeat (first|(with_reducible first|exact HI0.out|apply IsS80.alloc|apply IsS80.drewN|apply IsS80.drew|apply IsS80.set_1|apply IsS80.set_2)|exact HI0.out)) hg (IsS80.own_ne HI0.out HO_3.out (by decide)));replace HK:=mk0 (KeepBut.trans (by repeat (first|(with_reducible first|exact HK.out|apply KeepBut.set_|apply keep_drewN|apply keep_drew|apply keep_alloc)|exact HK.out)) (KeepBut.of_grown hg g) (Kd.R_base2 HO_3.out));have HO240:=mk0 (ho);clear HO_3 ho hb hg hat))
    go_ret
    exact⟨_,by first|rfl|(simp [errW_none,errW_some] <;> rfl)|(simp [*,errW_none,errW_some] <;> rfl),rR HO240.out,by repeat (first|(with_reducible first|exact HI0.out|apply IsS80.alloc|apply IsS80.drewN|apply IsS80.drew|apply IsS80.set_1|apply IsS80.set_2)|exact HI0.out),by repeat (first|(with_reducible first|exact HB.out|apply aZ|apply nZ|apply dZ|refine sZ ?_ (IsS80.ge HI0.out))|exact HB.out),by repeat (first|(with_reducible first|exact HK.out|apply KeepBut.set_|apply keep_drewN|apply keep_drew|apply keep_alloc)|exact HK.out)⟩
   rw [if_neg c26] at H
   have c26b0:(t232 == 0) = false:=beq_eq_false_iff_ne.mpr c26
   have c26b1:(t232 != 0) = true:=bne_iff_ne.mpr c26
   by_cases c32:t232 = 1
   ·rw [if_pos c32] at H
    have c32b0:(t232 == 1) = true:=beq_iff_eq.mpr c32
    have c32b1:(t232 != 1) = false:=bne_eq_false_iff_eq.mpr c32
    clear c32
    replace H:=Option.bind_eq_some_iff.mp H
    obtain⟨⟨t241,t242,t243⟩,A330,H⟩:=H
    replace H:(if 0 ≤ (wrap64 (300 + t241)) then (if (wrap64 (300 + t241):Int).toNat ≤ 35184372088832 then (some ((List.replicate (wrap64 (300 + t241):Int).toNat 0),t242,t243)) else (none)) else (none)) = some (r1,r2,r3):=H
    have A33:=mk0 A330
    clear A330
    obtain⟨ji34,hji34⟩:∃ j_:Int,(wrap64 (300 + t241)) = j_:=⟨_,rfl⟩
    replace H:(if 0 ≤ (ji34) then (if (ji34:Int).toNat ≤ 35184372088832 then (some ((List.replicate (ji34:Int).toNat 0),t242,t243)) else (none)) else (none)) = some (r1,r2,r3):=by first|(rw [hji34] at H;exact H)|(simp only [hji34] at H ⊢;exact H)
    (try rw [hji34] at A25)
    (try rw [hji34] at A33)
    have hji34w:(IntKind.i64.wrap (300 + t241)) = ji34:=(i64_w _).trans hji34
    by_cases c35:0 ≤ (ji34)
    rotate_left
    ·rw [if_neg c35] at H
     exact absurd H (by simp)
    rw [if_pos c35] at H
    have c35b0:=eq_true c35
    have c35b1:decide (0 ≤ (ji34)) = true:=decide_eq_true c35
    clear c35
    by_cases c36:(ji34:Int).toNat ≤ 35184372088832
    rotate_left
    ·rw [if_neg c36] at H
     exact absurd H (by simp)
    rw [if_pos c36] at H
    have c36b0:=eq_true c36
    have c36b1:decide ((ji34:Int).toNat ≤ 35184372088832) = true:=decide_eq_true c36
    clear c36
    obtain⟨y244,hy244⟩:∃ y_:List Int,y_ = (List.replicate (ji34:Int).toNat 0):=⟨_,rfl⟩
    replace H:(some (y244,t242,t243)) = some (r1,r2,r3):=by first|(rw [hy244];with_reducible exact H)|(have H2_:=(Option.bind_some _ _).symm.trans H;rw [hy244];with_reducible exact H2_)|(have H2_:=(Option.bind_some _ _).symm.trans H;with_reducible exact H2_)|with_reducible exact H|(rw [hy244];exact H)|exact H
    have Ny244:=mk0 hy244
    clear hy244
    simp only [Option.some.injEq,Prod.mk.injEq] at H
    obtain⟨rfl,rfl,rfl⟩:=H
    go_wp2_with (first|((with_reducible refine gate_callee (f:=65) rfl ?_);refine goesL_ (some 29) rfl rfl Try.func65 (by kernel_rfl) rfl #[.pointer (some ⟨g,0,none⟩),.int .i64 14] rfl (by (try simp only [mA,mC,mN]);first|done|rfl|(simp only [List.length_drop,List.length_take];done)|(simp only [List.length_drop,List.length_take];rfl)) ?_;(with_reducible refine (spec_l01Cur_pick.calls g s0_0 x1001_1 x1002_1 14 t232 t233 t234 w0 _ ?side1 ?side2 A25.out).mono ?_);(case side1=>repeat (first|(with_reducible first|exact HI0.out|apply IsS80.alloc|apply IsS80.drewN|apply IsS80.drew|apply IsS80.set_1|apply IsS80.set_2)|exact HI0.out));(case side2=>repeat (first|(with_reducible first|exact HB.out|apply aZ|apply nZ|apply dZ|refine sZ ?_ (IsS80.ge HI0.out))|exact HB.out));rintro e w37 ⟨rfl,hi,hb,hk⟩;refine⟨_,rfl,?_⟩;replace HO_3:=mk0 (Kd.R_mono (Kd.R_keep (IsS80.apart (show IsS80 w0 _ g s0_0 x1001_1 x1002_1 from by repeat (first|(with_reducible first|exact HI0.out|apply IsS80.alloc|apply IsS80.drewN|apply IsS80.drew|apply IsS80.set_1|apply IsS80.set_2)|exact HI0.out)) (rR HO_3.out) (by decide)) hk (fun _ h=>h.2)) (fun _ h=>h.1));replace HK:=mk0 (KeepBut.trans (by repeat (first|(with_reducible first|exact HK.out|apply KeepBut.set_|apply keep_drewN|apply keep_drew|apply keep_alloc)|exact HK.out)) hk (.inl rfl));replace HB:=mk0 (hb);replace HI0:=mk0 (hi);(try clear hb);(try clear hk);(try clear hi))|((with_reducible refine gate_callee (f:=65) rfl ?_);refine goesL_ (some 40) rfl rfl Try.func65 (by kernel_rfl) rfl #[.pointer (some ⟨g,0,none⟩),.int .i64 2] rfl (by (try simp only [mA,mC,mN]);first|done|rfl|(simp only [List.length_drop,List.length_take];done)|(simp only [List.length_drop,List.length_take];rfl)) ?_;(with_reducible refine (spec_l01Cur_pick.calls g s0_0 t233 t234 2 t241 t242 t243 w0 _ ?side1 ?side2 A33.out).mono ?_);(case side1=>repeat (first|(with_reducible first|exact HI0.out|apply IsS80.alloc|apply IsS80.drewN|apply IsS80.drew|apply IsS80.set_1|apply IsS80.set_2)|exact HI0.out));(case side2=>repeat (first|(with_reducible first|exact HB.out|apply aZ|apply nZ|apply dZ|refine sZ ?_ (IsS80.ge HI0.out))|exact HB.out));rintro e w38 ⟨rfl,hi,hb,hk⟩;refine⟨_,rfl,?_⟩;replace HO_3:=mk0 (Kd.R_mono (Kd.R_keep (IsS80.apart (show IsS80 w0 _ g s0_0 t233 t234 from by repeat (first|(with_reducible first|exact HI0.out|apply IsS80.alloc|apply IsS80.drewN|apply IsS80.drew|apply IsS80.set_1|apply IsS80.set_2)|exact HI0.out)) (rR HO_3.out) (by decide)) hk (fun _ h=>h.2)) (fun _ h=>h.1));replace HK:=mk0 (KeepBut.trans (by repeat (first|(with_reducible first|exact HK.out|apply KeepBut.set_|apply keep_drewN|apply keep_drew|apply keep_alloc)|exact HK.out)) hk (.inl rfl));replace HB:=mk0 (hb);replace HI0:=mk0 (hi);(try clear hb);(try clear hk);(try clear hi))|((with_reducible refine gate_dst (N:=42) rfl ?_);refine Kd.R_make (Kd.int .i64) _ 3 rfl (N:=42) rfl 24 _ _ rfl ji34 rfl rfl Try.underlying24 (.int .i64 0) 8 info3 rfl (by decide) (by omega) 0 (ok:=fun _=>True) (okp:=fun _=>True) rfl (fun _ hk=>hk) trivial (of_decide_eq_true (by first|(with_reducible assumption)|assumption)) (Nat.le_trans (Nat.mul_le_mul_right _ (of_decide_eq_true (by first|(with_reducible assumption)|assumption):ji34.toNat ≤ 35184372088832)) (by omega)) (Below.refl _ _) (Nat.le_refl _) ?_;intro v245 w39 ho40 hb hg_ hnew_;clear hg_ hnew_;(first|rw [← Ny244.out] at ho40|(simp only [Int.reduceToNat] at ho40;rw [← Ny244.out] at ho40));have HO246:=mk0 (Kd.R_lower (Kd.R_new' ho40 (Kd.R_lt (rR HO_3.out))) (keep_size (w:=w) (g:=g) (row:=none) (by repeat (first|(with_reducible first|exact HK.out|apply KeepBut.set_|apply keep_drewN|apply keep_drew|apply keep_alloc)|exact HK.out))));replace HO_3:=mk0 (Kd.R_elder' (rR HO_3.out) (Kd.R_base ho40) hb);replace HK:=mk0 (KeepBut.trans (by repeat (first|(with_reducible first|exact HK.out|apply KeepBut.set_|apply keep_drewN|apply keep_drew|apply keep_alloc)|exact HK.out)) (KeepBut.of_below hb g none) (.inl rfl));replace HB:=mk0 (below_step (by repeat (first|(with_reducible first|exact HB.out|apply aZ|apply nZ|apply dZ|refine sZ ?_ (IsS80.ge HI0.out))|exact HB.out)) hb);replace HI0:=mk0 (IsS80.below (by repeat (first|(with_reducible first|exact HI0.out|apply IsS80.alloc|apply IsS80.drewN|apply IsS80.drew|apply IsS80.set_1|apply IsS80.set_2)|exact HI0.out)) hb);clear hb ho40))
    go_ret
    exact⟨_,by first|rfl|(simp [errW_none,errW_some] <;> rfl)|(simp only [← hji34];first|rfl|(simp [errW_none,errW_some] <;> rfl))|(simp [*,errW_none,errW_some] <;> rfl),rR (Kd.R_mono HO246.out (fun _ hk=>trivial)),by repeat (first|(with_reducible first|exact HI0.out|apply IsS80.alloc|apply IsS80.drewN|apply IsS80.drew|apply IsS80.set_1|apply IsS80.set_2)|exact HI0.out),by repeat (first|(with_reducible first|exact HB.out|apply aZ|apply nZ|apply dZ|refine sZ ?_ (IsS80.ge HI0.out))|exact HB.out),by repeat (first|(with_reducible first|exact HK.out|apply KeepBut.set_|apply keep_drewN|apply keep_drew|apply keep_alloc)|exact HK.out)⟩
   rw [if_neg c32] at H
   have c32b0:(t232 == 1) = false:=beq_eq_false_iff_ne.mpr c32
   have c32b1:(t232 != 1) = true:=bne_iff_ne.mpr c32
   by_cases c41:t232 = 2
   rotate_left
   ·rw [if_neg c41] at H
    have c41b0:(t232 == 2) = false:=beq_eq_false_iff_ne.mpr c41
    have c41b1:(t232 != 2) = true:=bne_iff_ne.mpr c41
    simp only [Option.some.injEq,Prod.mk.injEq] at H
    obtain⟨rfl,rfl,rfl⟩:=H
    go_wp2_with (first|((with_reducible refine gate_callee (f:=65) rfl ?_);refine goesL_ (some 29) rfl rfl Try.func65 (by kernel_rfl) rfl #[.pointer (some ⟨g,0,none⟩),.int .i64 14] rfl (by (try simp only [mA,mC,mN]);first|done|rfl|(simp only [List.length_drop,List.length_take];done)|(simp only [List.length_drop,List.length_take];rfl)) ?_;(with_reducible refine (spec_l01Cur_pick.calls g s0_0 x1001_1 x1002_1 14 t232 t233 t234 w0 _ ?side1 ?side2 A25.out).mono ?_);(case side1=>repeat (first|(with_reducible first|exact HI0.out|apply IsS80.alloc|apply IsS80.drewN|apply IsS80.drew|apply IsS80.set_1|apply IsS80.set_2)|exact HI0.out));(case side2=>repeat (first|(with_reducible first|exact HB.out|apply aZ|apply nZ|apply dZ|refine sZ ?_ (IsS80.ge HI0.out))|exact HB.out));rintro e w51 ⟨rfl,hi,hb,hk⟩;refine⟨_,rfl,?_⟩;replace HO_3:=mk0 (Kd.R_mono (Kd.R_keep (IsS80.apart (show IsS80 w0 _ g s0_0 x1001_1 x1002_1 from by repeat (first|(with_reducible first|exact HI0.out|apply IsS80.alloc|apply IsS80.drewN|apply IsS80.drew|apply IsS80.set_1|apply IsS80.set_2)|exact HI0.out)) (rR HO_3.out) (by decide)) hk (fun _ h=>h.2)) (fun _ h=>h.1));replace HK:=mk0 (KeepBut.trans (by repeat (first|(with_reducible first|exact HK.out|apply KeepBut.set_|apply keep_drewN|apply keep_drew|apply keep_alloc)|exact HK.out)) hk (.inl rfl));replace HB:=mk0 (hb);replace HI0:=mk0 (hi);(try clear hb);(try clear hk);(try clear hi)))
    go_ret
    exact⟨_,by first|rfl|(simp [errW_none,errW_some] <;> rfl)|(simp [*,errW_none,errW_some] <;> rfl),rR HO_3.out,by repeat (first|(with_reducible first|exact HI0.out|apply IsS80.alloc|apply IsS80.drewN|apply IsS80.drew|apply IsS80.set_1|apply IsS80.set_2)|exact HI0.out),by repeat (first|(with_reducible first|exact HB.out|apply aZ|apply nZ|apply dZ|refine sZ ?_ (IsS80.ge HI0.out))|exact HB.out),by repeat (first|(with_reducible first|exact HK.out|apply KeepBut.set_|apply keep_drewN|apply keep_drew|apply keep_alloc)|exact HK.out)⟩
   rw [if_pos c41] at H
   have c41b0:(t232 == 2) = true:=beq_iff_eq.mpr c41
   have c41b1:(t232 != 2) = false:=bne_eq_false_iff_eq.mpr c41
   clear c41
   obtain⟨y247,hy247⟩:∃ y_:List Int,y_ = (([1,1,2,3,5,8,13,21,34,55,89,144]:List Int)):=⟨_,rfl⟩
   replace H:((spec_l01Cur_pick.f s0_0 t233 t234 13).bind fun bt250=>(if 0 ≤ bt250.1 then (if bt250.1 ≤ (y247.length:Int) then (some ((y247.take (bt250.1:Int).toNat),bt250.2.1,bt250.2.2)) else (none)) else (none))) = some (r1,r2,r3):=by first|(rw [hy247];with_reducible exact H)|(have H2_:=(Option.bind_some _ _).symm.trans H;rw [hy247];with_reducible exact H2_)|(have H2_:=(Option.bind_some _ _).symm.trans H;with_reducible exact H2_)|with_reducible exact H|(rw [hy247];exact H)|exact H
   have Ny247:=mk0 hy247
   clear hy247
   replace H:=Option.bind_eq_some_iff.mp H
   obtain⟨⟨t250,t251,t252⟩,A420,H⟩:=H
   replace H:(if 0 ≤ t250 then (if t250 ≤ (y247.length:Int) then (some ((y247.take (t250:Int).toNat),t251,t252)) else (none)) else (none)) = some (r1,r2,r3):=H
   have A42:=mk0 A420
   clear A420
   by_cases c43:0 ≤ t250
   rotate_left
   ·rw [if_neg c43] at H
    exact absurd H (by simp)
   rw [if_pos c43] at H
   have c43b0:=eq_true c43
   have c43b1:decide (0 ≤ t250) = true:=decide_eq_true c43
   clear c43
   by_cases c44:t250 ≤ (y247.length:Int)
   rotate_left
   ·rw [if_neg c44] at H
    exact absurd H (by simp)
   rw [if_pos c44] at H
   have c44b0:=eq_true c44
   have c44b1:decide (t250 ≤ (y247.length:Int)) = true:=decide_eq_true c44
   clear c44
   obtain⟨y253,hy253⟩:∃ y_:List Int,y_ = (y247.take (t250:Int).toNat):=⟨_,rfl⟩
   replace H:(some (y253,t251,t252)) = some (r1,r2,r3):=by first|(rw [hy253];with_reducible exact H)|(have H2_:=(Option.bind_some _ _).symm.trans H;rw [hy253];with_reducible exact H2_)|(have H2_:=(Option.bind_some _ _).symm.trans H;with_reducible exact H2_)|with_reducible exact H|(rw [hy253];exact H)|exact H
   have Ny253:=mk0 hy253
   clear hy253
   simp only [Option.some.injEq,Prod.mk.injEq] at H
   obtain⟨rfl,rfl,rfl⟩:=H
   go_wp2_with (first|((with_reducible refine gate_callee (f:=65) rfl ?_);refine goesL_ (some 29) rfl rfl Try.func65 (by kernel_rfl) rfl #[.pointer (some ⟨g,0,none⟩),.int .i64 14] rfl (by (try simp only [mA,mC,mN]);first|done|rfl|(simp only [List.length_drop,List.length_take];done)|(simp only [List.length_drop,List.length_take];rfl)) ?_;(with_reducible refine (spec_l01Cur_pick.calls g s0_0 x1001_1 x1002_1 14 t232 t233 t234 w0 _ ?side1 ?side2 A25.out).mono ?_);(case side1=>repeat (first|(with_reducible first|exact HI0.out|apply IsS80.alloc|apply IsS80.drewN|apply IsS80.drew|apply IsS80.set_1|apply IsS80.set_2)|exact HI0.out));(case side2=>repeat (first|(with_reducible first|exact HB.out|apply aZ|apply nZ|apply dZ|refine sZ ?_ (IsS80.ge HI0.out))|exact HB.out));rintro e w45 ⟨rfl,hi,hb,hk⟩;refine⟨_,rfl,?_⟩;replace HO_3:=mk0 (Kd.R_mono (Kd.R_keep (IsS80.apart (show IsS80 w0 _ g s0_0 x1001_1 x1002_1 from by repeat (first|(with_reducible first|exact HI0.out|apply IsS80.alloc|apply IsS80.drewN|apply IsS80.drew|apply IsS80.set_1|apply IsS80.set_2)|exact HI0.out)) (rR HO_3.out) (by decide)) hk (fun _ h=>h.2)) (fun _ h=>h.1));replace HK:=mk0 (KeepBut.trans (by repeat (first|(with_reducible first|exact HK.out|apply KeepBut.set_|apply keep_drewN|apply keep_drew|apply keep_alloc)|exact HK.out)) hk (.inl rfl));replace HB:=mk0 (hb);replace HI0:=mk0 (hi);(try clear hb);(try clear hk);(try clear hi))|((with_reducible refine gate_dst (N:=45) rfl ?_);refine Kd.R_lit (Kd.int .i64) _ 3 ?hg (N:=45) ?hd (xs:=([1,1,2,3,5,8,13,21,34,55,89,144]:List Int)) (inner:=[.int .i64 1,.int .i64 1,.int .i64 2,.int .i64 3,.int .i64 5,.int .i64 8,.int .i64 13,.int .i64 21,.int .i64 34,.int .i64 55,.int .i64 89,.int .i64 144]) (ok:=fun _=>True) (okp:=fun _=>True) ?hr ?hp (fun _ hk=>hk) trivial (Below.refl _ _) (Nat.le_refl _) (by simp) ?_;(case hd=>rfl);(case hg=>rfl);(case hr=>first|(go_simp;done)|(go_simp;rfl));(case hp=>exact (Reps.one (show Kd.M (Kd.int .i64) _ _ _ 1 [.int .i64 1] from rfl) (Reps.one (show Kd.M (Kd.int .i64) _ _ _ 1 [.int .i64 1] from rfl) (Reps.one (show Kd.M (Kd.int .i64) _ _ _ 2 [.int .i64 2] from rfl) (Reps.one (show Kd.M (Kd.int .i64) _ _ _ 3 [.int .i64 3] from rfl) (Reps.one (show Kd.M (Kd.int .i64) _ _ _ 5 [.int .i64 5] from rfl) (Reps.one (show Kd.M (Kd.int .i64) _ _ _ 8 [.int .i64 8] from rfl) (Reps.one (show Kd.M (Kd.int .i64) _ _ _ 13 [.int .i64 13] from rfl) (Reps.one (show Kd.M (Kd.int .i64) _ _ _ 21 [.int .i64 21] from rfl) (Reps.one (show Kd.M (Kd.int .i64) _ _ _ 34 [.int .i64 34] from rfl) (Reps.one (show Kd.M (Kd.int .i64) _ _ _ 55 [.int .i64 55] from rfl) (Reps.one (show Kd.M (Kd.int .i64) _ _ _ 89 [.int .i64 89] from rfl) (Reps.one (show Kd.M (Kd.int .i64) _ _ _ 144 [.int .i64 144] from rfl) (Reps.none _ _))))))))))))));intro v248 w46 ho47 hb hg_ hnew_;clear hg_ hnew_;(first|rw [← Ny247.out] at ho47|(simp only [Int.reduceToNat] at ho47;rw [← Ny247.out] at ho47));have HO249:=mk0 (Kd.R_lower (Kd.R_new' ho47 (Kd.R_lt (rR HO_3.out))) (keep_size (w:=w) (g:=g) (row:=none) (by repeat (first|(with_reducible first|exact HK.out|apply KeepBut.set_|apply keep_drewN|apply keep_drew|apply keep_alloc)|exact HK.out))));replace HO_3:=mk0 (Kd.R_elder' (rR HO_3.out) (Kd.R_base ho47) hb);replace HK:=mk0 (KeepBut.trans (by repeat (first|(with_reducible first|exact HK.out|apply KeepBut.set_|apply keep_drewN|apply keep_drew|apply keep_alloc)|exact HK.out)) (KeepBut.of_below hb g none) (.inl rfl));replace HB:=mk0 (below_step (by repeat (first|(with_reducible first|exact HB.out|apply aZ|apply nZ|apply dZ|refine sZ ?_ (IsS80.ge HI0.out))|exact HB.out)) hb);replace HI0:=mk0 (IsS80.below (by repeat (first|(with_reducible first|exact HI0.out|apply IsS80.alloc|apply IsS80.drewN|apply IsS80.drew|apply IsS80.set_1|apply IsS80.set_2)|exact HI0.out)) hb);clear hb ho47)|((with_reducible refine gate_callee (f:=65) rfl ?_);refine goesL_ (some 47) rfl rfl Try.func65 (by kernel_rfl) rfl #[.pointer (some ⟨g,0,none⟩),.int .i64 13] rfl (by (try simp only [mA,mC,mN]);first|done|rfl|(simp only [List.length_drop,List.length_take];done)|(simp only [List.length_drop,List.length_take];rfl)) ?_;(with_reducible refine (spec_l01Cur_pick.calls g s0_0 t233 t234 13 t250 t251 t252 w0 _ ?side1 ?side2 A42.out).mono ?_);(case side1=>repeat (first|(with_reducible first|exact HI0.out|apply IsS80.alloc|apply IsS80.drewN|apply IsS80.drew|apply IsS80.set_1|apply IsS80.set_2)|exact HI0.out));(case side2=>repeat (first|(with_reducible first|exact HB.out|apply aZ|apply nZ|apply dZ|refine sZ ?_ (IsS80.ge HI0.out))|exact HB.out));rintro e w48 ⟨rfl,hi,hb,hk⟩;refine⟨_,rfl,?_⟩;replace HO_3:=mk0 (Kd.R_mono (Kd.R_keep (IsS80.apart (show IsS80 w0 _ g s0_0 t233 t234 from by repeat (first|(with_reducible first|exact HI0.out|apply IsS80.alloc|apply IsS80.drewN|apply IsS80.drew|apply IsS80.set_1|apply IsS80.set_2)|exact HI0.out)) (rR HO_3.out) (by decide)) hk (fun _ h=>h.2)) (fun _ h=>h.1));replace HO249:=mk0 (Kd.R_mono (Kd.R_keep (IsS80.apart (show IsS80 w0 _ g s0_0 t233 t234 from by repeat (first|(with_reducible first|exact HI0.out|apply IsS80.alloc|apply IsS80.drewN|apply IsS80.drew|apply IsS80.set_1|apply IsS80.set_2)|exact HI0.out)) (rR HO249.out) (by decide)) hk (fun _ h=>h.2)) (fun _ h=>h.1));replace HK:=mk0 (KeepBut.trans (by repeat (first|(with_reducible first|exact HK.out|apply KeepBut.set_|apply keep_drewN|apply keep_drew|apply keep_alloc)|exact HK.out)) hk (.inl rfl));replace HB:=mk0 (hb);replace HI0:=mk0 (hi);(try clear hb);(try clear hk);(try clear hi);obtain⟨Ao49,co49,eo49⟩:=Kd.R_slice HO249.out;subst eo49;have q50:(t250:Int) ≤ ((y247.length:Int):Int):=of_decide_eq_true (by first|(with_reducible assumption)|assumption);obtain⟨i050,hi050,_,hsz50,_⟩:=info_parts info3;have hcut50:=cut_to (P:=Try.prog) 24 3 .i64 Try.underlying24 hi050 Ao49 y247.length co49 t250 (of_decide_eq_true (by first|(with_reducible assumption)|assumption)) q50 (Kd.R_reads' HO249.out).2.1;have hr50:=Kd.R_take (m:=(t250:Int).toNat) HO249.out (by omega);have hy50:y253.length = (t250:Int).toNat:=(by rw [Ny253.out,List.length_take];omega);rw [← Ny253.out] at hr50;rw [← hy50] at hr50 hcut50;clear hy50 hi050 hsz50 HO249;have HO255:=mk0 hr50;clear hr50;replace q50:=eq_true q50))
   go_ret
   exact⟨_,by first|rfl|(simp [errW_none,errW_some] <;> rfl)|(simp [*,errW_none,errW_some] <;> rfl),rR (Kd.R_mono HO255.out (fun _ hk=>trivial)),by repeat (first|(with_reducible first|exact HI0.out|apply IsS80.alloc|apply IsS80.drewN|apply IsS80.drew|apply IsS80.set_1|apply IsS80.set_2)|exact HI0.out),by repeat (first|(with_reducible first|exact HB.out|apply aZ|apply nZ|apply dZ|refine sZ ?_ (IsS80.ge HI0.out))|exact HB.out),by repeat (first|(with_reducible first|exact HK.out|apply KeepBut.set_|apply keep_drewN|apply keep_drew|apply keep_alloc)|exact HK.out)⟩
/-! ### spec_l01Cur_lensOf: function 34 -/
def spec_l01Cur_lensOf.f (k : Nat) (s0_0 : List Int) (s0_1 : Int) (s0_2 : Int) : Option (List Int × Int × Int) := (spec_l01Cur_countsOf.f k s0_0 s0_1 s0_2).bind fun bt256 => ((spec_HuffLens.f k bt256.1).bind fun t261 => (if (t261.length : Int) > 0 then ((spec_l01Cur_pick.f s0_0 bt256.2.1 bt256.2.2 (mn 200 (t261.length : Int))).bind fun bt264 => ((spec_l01Cur_pick.f s0_0 bt264.2.1 bt264.2.2 10).bind fun bt267 => (if bt267.1 = 0 then ((spec_l01Cur_raw.f s0_0 bt267.2.1 bt267.2.2).bind fun bt270 => ((some (([bt270.1, 60, 61] : List Int) : List Int)).bind fun y273 => ((spec_l01Cur_pick.f s0_0 bt270.2.1 bt270.2.2 3).bind fun bt276 => (if 0 ≤ bt276.1 then (if bt276.1 < (y273.length : Int) then (if 0 ≤ bt264.1 then (if bt264.1 < (t261.length : Int) then (some ((t261.set (bt264.1 : Int).toNat (rd y273 bt276.1)), bt276.2.1, bt276.2.2)) else (none)) else (none)) else (none)) else (none))))) else (if bt267.1 = 1 then (if 0 ≤ bt264.1 then (if bt264.1 < (t261.length : Int) then (some ((t261.set (bt264.1 : Int).toNat (wrap64 ((rd t261 bt264.1) + 1))), bt267.2.1, bt267.2.2)) else (none)) else (none)) else (if bt267.1 = 2 then ((spec_l01Cur_pick.f s0_0 bt267.2.1 bt267.2.2 (mn 200 (t261.length : Int))).bind fun bt283 => (if 0 ≤ bt264.1 then (if bt264.1 < (t261.length : Int) then (if 0 ≤ bt283.1 then (if bt283.1 < (t261.length : Int) then (some (((t261.set (bt264.1 : Int).toNat (rd t261 bt283.1)).set (bt283.1 : Int).toNat (rd t261 bt264.1)), bt283.2.1, bt283.2.2)) else (none)) else (none)) else (none)) else (none))) else (some (t261, bt267.2.1, bt267.2.2))))))) else (some (t261, bt256.2.1, bt256.2.2))))
theorem spec_l01Cur_lensOf.mono : ∀ a0 a1 a2 k, LeO (spec_l01Cur_lensOf.f k a0 a1 a2) (spec_l01Cur_lensOf.f (k + 1) a0 a1 a2) := by
 intro a0 a1 a2 k
 unfold spec_l01Cur_lensOf.f
 repeat' first|(with_reducible first|exact spec_HuffLens.mono _ _|exact spec_l01Cur_countsOf.mono _ _ _ _|exact LeO.refl _|exact LeO.none _|refine LeO.ite ?_ ?_|refine LeO.bind ?_ (fun _ => ?_))|exact LeO.none _|refine LeO.ite ?_ ?_|refine LeO.bind ?_ (fun _ => ?_)
set_option maxHeartbeats 8000000 in
set_option maxRecDepth 100000 in
theorem spec_l01Cur_lensOf.calls (k : Nat) (g : Nat) (s0_0 : List Int) (s0_1 : Int) (s0_2 : Int) (r1 : List Int) (r2 : Int) (r3 : Int) (w0 w : World) (hI : IsS80 w0 w g s0_0 s0_1 s0_2) (hB : Below w0.heap.size w0 w) (h : spec_l01Cur_lensOf.f k s0_0 s0_1 s0_2 = some (r1, r2, r3)) :
  Calls Try.prog 34 #[.pointer (some ⟨g, 0, none⟩)] w fun e w' => ∃ v0_ : Value, e = .returned (v0_) ∧ Kd.R (Kd.int .i64) 3 w' w.heap.size (fun _ => True) v0_ r1 ∧ IsS80 w0 w' g s0_0 r2 r3 ∧ Below w0.heap.size w0 w' ∧ KeepBut w w' g none := by
 have HI0:=mk0 hI
 have HK:=mk0 (KeepBut.refl w g none)
 have HL:=mk0 hB.size
 clear hI
 have HW0:=mk0 hB.size
 have HB:=mk0 hB
 clear hB
 have H:((spec_l01Cur_countsOf.f k s0_0 s0_1 s0_2).bind fun bt256=>((spec_HuffLens.f k bt256.1).bind fun t261=>(if (t261.length:Int) > 0 then ((spec_l01Cur_pick.f s0_0 bt256.2.1 bt256.2.2 (mn 200 (t261.length:Int))).bind fun bt264=>((spec_l01Cur_pick.f s0_0 bt264.2.1 bt264.2.2 10).bind fun bt267=>(if bt267.1 = 0 then ((spec_l01Cur_raw.f s0_0 bt267.2.1 bt267.2.2).bind fun bt270=>((some (([bt270.1,60,61]:List Int):List Int)).bind fun y273=>((spec_l01Cur_pick.f s0_0 bt270.2.1 bt270.2.2 3).bind fun bt276=>(if 0 ≤ bt276.1 then (if bt276.1 < (y273.length:Int) then (if 0 ≤ bt264.1 then (if bt264.1 < (t261.length:Int) then (some ((t261.set (bt264.1:Int).toNat (rd y273 bt276.1)),bt276.2.1,bt276.2.2)) else (none)) else (none)) else (none)) else (none))))) else (if bt267.1 = 1 then (if 0 ≤ bt264.1 then (if bt264.1 < (t261.length:Int) then (some ((t261.set (bt264.1:Int).toNat (wrap64 ((rd t261 bt264.1) + 1))),bt267.2.1,bt267.2.2)) else (none)) else (none)) else (if bt267.1 = 2 then ((spec_l01Cur_pick.f s0_0 bt267.2.1 bt267.2.2 (mn 200 (t261.length:Int))).bind fun bt283=>(if 0 ≤ bt264.1 then (if bt264.1 < (t261.length:Int) then (if 0 ≤ bt283.1 then (if bt283.1 < (t261.length:Int) then (some (((t261.set (bt264.1:Int).toNat (rd t261 bt283.1)).set (bt283.1:Int).toNat (rd t261 bt264.1)),bt283.2.1,bt283.2.2)) else (none)) else (none)) else (none)) else (none))) else (some (t261,bt267.2.1,bt267.2.2))))))) else (some (t261,bt256.2.1,bt256.2.2))))) = some (r1,r2,r3):=h
 clear h
 replace H:=Option.bind_eq_some_iff.mp H
 obtain⟨⟨t256,t259,t260⟩,A20,H⟩:=H
 replace H:((spec_HuffLens.f k t256).bind fun t261=>(if (t261.length:Int) > 0 then ((spec_l01Cur_pick.f s0_0 t259 t260 (mn 200 (t261.length:Int))).bind fun bt264=>((spec_l01Cur_pick.f s0_0 bt264.2.1 bt264.2.2 10).bind fun bt267=>(if bt267.1 = 0 then ((spec_l01Cur_raw.f s0_0 bt267.2.1 bt267.2.2).bind fun bt270=>((some (([bt270.1,60,61]:List Int):List Int)).bind fun y273=>((spec_l01Cur_pick.f s0_0 bt270.2.1 bt270.2.2 3).bind fun bt276=>(if 0 ≤ bt276.1 then (if bt276.1 < (y273.length:Int) then (if 0 ≤ bt264.1 then (if bt264.1 < (t261.length:Int) then (some ((t261.set (bt264.1:Int).toNat (rd y273 bt276.1)),bt276.2.1,bt276.2.2)) else (none)) else (none)) else (none)) else (none))))) else (if bt267.1 = 1 then (if 0 ≤ bt264.1 then (if bt264.1 < (t261.length:Int) then (some ((t261.set (bt264.1:Int).toNat (wrap64 ((rd t261 bt264.1) + 1))),bt267.2.1,bt267.2.2)) else (none)) else (none)) else (if bt267.1 = 2 then ((spec_l01Cur_pick.f s0_0 bt267.2.1 bt267.2.2 (mn 200 (t261.length:Int))).bind fun bt283=>(if 0 ≤ bt264.1 then (if bt264.1 < (t261.length:Int) then (if 0 ≤ bt283.1 then (if bt283.1 < (t261.length:Int) then (some (((t261.set (bt264.1:Int).toNat (rd t261 bt283.1)).set (bt283.1:Int).toNat (rd t261 bt264.1)),bt283.2.1,bt283.2.2)) else (none)) else (none)) else (none)) else (none))) else (some (t261,bt267.2.1,bt267.2.2))))))) else (some (t261,t259,t260)))) = some (r1,r2,r3):=H
 have A2:=mk0 A20
 clear A20
 replace H:=Option.bind_eq_some_iff.mp H
 obtain⟨t261,A30,H⟩:=H
 replace H:(if (t261.length:Int) > 0 then ((spec_l01Cur_pick.f s0_0 t259 t260 (mn 200 (t261.length:Int))).bind fun bt264=>((spec_l01Cur_pick.f s0_0 bt264.2.1 bt264.2.2 10).bind fun bt267=>(if bt267.1 = 0 then ((spec_l01Cur_raw.f s0_0 bt267.2.1 bt267.2.2).bind fun bt270=>((some (([bt270.1,60,61]:List Int):List Int)).bind fun y273=>((spec_l01Cur_pick.f s0_0 bt270.2.1 bt270.2.2 3).bind fun bt276=>(if 0 ≤ bt276.1 then (if bt276.1 < (y273.length:Int) then (if 0 ≤ bt264.1 then (if bt264.1 < (t261.length:Int) then (some ((t261.set (bt264.1:Int).toNat (rd y273 bt276.1)),bt276.2.1,bt276.2.2)) else (none)) else (none)) else (none)) else (none))))) else (if bt267.1 = 1 then (if 0 ≤ bt264.1 then (if bt264.1 < (t261.length:Int) then (some ((t261.set (bt264.1:Int).toNat (wrap64 ((rd t261 bt264.1) + 1))),bt267.2.1,bt267.2.2)) else (none)) else (none)) else (if bt267.1 = 2 then ((spec_l01Cur_pick.f s0_0 bt267.2.1 bt267.2.2 (mn 200 (t261.length:Int))).bind fun bt283=>(if 0 ≤ bt264.1 then (if bt264.1 < (t261.length:Int) then (if 0 ≤ bt283.1 then (if bt283.1 < (t261.length:Int) then (some (((t261.set (bt264.1:Int).toNat (rd t261 bt283.1)).set (bt283.1:Int).toNat (rd t261 bt264.1)),bt283.2.1,bt283.2.2)) else (none)) else (none)) else (none)) else (none))) else (some (t261,bt267.2.1,bt267.2.2))))))) else (some (t261,t259,t260))) = some (r1,r2,r3):=H
 have A3:=mk0 A30
 clear A30
 by_cases c4:(t261.length:Int) > 0
 rotate_left
 ·rw [if_neg c4] at H
  have c4b0:decide (0 < (t261.length:Int)) = false:=decide_eq_false c4
  have c4b1:decide (0 < t261.length) = false:=decide_eq_false (by omega)
  clear c4
  simp only [Option.some.injEq,Prod.mk.injEq] at H
  obtain⟨rfl,rfl,rfl⟩:=H
  go_enter Try.func34,Try.ntmps34
  go_wp2_with (first|((with_reducible refine gate_callee (f:=48) rfl ?_);refine goesL_ (some 8) rfl rfl Try.func48 (by kernel_rfl) rfl #[.pointer (some ⟨g,0,none⟩)] rfl (by (try simp only [mA,mC,mN]);first|done|rfl|(simp only [List.length_drop,List.length_take];done)|(simp only [List.length_drop,List.length_take];rfl)) ?_;(with_reducible refine (spec_l01Cur_countsOf.calls k g s0_0 s0_1 s0_2 t256 t259 t260 w0 _ ?side1 ?side2 A2.out).mono ?_);(case side1=>repeat (first|(with_reducible first|exact HI0.out|apply IsS80.alloc|apply IsS80.drewN|apply IsS80.drew|apply IsS80.set_1|apply IsS80.set_2)|exact HI0.out));(case side2=>repeat (first|(with_reducible first|exact HB.out|apply aZ|apply nZ|apply dZ|refine sZ ?_ (IsS80.ge HI0.out))|exact HB.out));rintro e w66 ⟨v257,rfl,ho0,hi,hb,hk⟩;refine⟨_,rfl,?_⟩;have HO258:=mk0 (Kd.R_lower ho0 (keep_size (w:=w) (g:=g) (row:=none) (by repeat (first|(with_reducible first|exact HK.out|apply KeepBut.set_|apply keep_drewN|apply keep_drew|apply keep_alloc)|exact HK.out))));replace HK:=mk0 (KeepBut.trans (by repeat (first|(with_reducible first|exact HK.out|apply KeepBut.set_|apply keep_drewN|apply keep_drew|apply keep_alloc)|exact HK.out)) hk (.inl rfl));replace HB:=mk0 (hb);replace HI0:=mk0 (hi);(try clear hb);(try clear hk);(try clear hi);(try clear ho0);obtain⟨Ao67,co67,eo67⟩:=Kd.R_slice HO258.out;subst eo67)|((with_reducible refine gate_callee (f:=21) rfl ?_);refine goesL_ (some 9) rfl rfl Try.func21 (by kernel_rfl) rfl #[.slice Ao67 t256.length co67] rfl (by (try simp only [mA,mC,mN]);first|done|rfl|(simp only [List.length_drop,List.length_take];done)|(simp only [List.length_drop,List.length_take];rfl)) ?_;(with_reducible refine (spec_HuffLens.calls k _ _ t256 t261 _ ?side1 ?side2 A3.out).mono ?_);(case side1=>exact kC (Kd.R_reads' HO258.out).2.2);(case side2=>exact (Kd.R_reads' HO258.out).2.1);rintro e w68 ⟨v262,rfl,ho0,hb⟩;refine⟨_,rfl,?_⟩;have HO263:=mk0 (Kd.R_lower (Kd.R_new' ho0 (Kd.R_lt (rR HO258.out))) (keep_size (w:=w) (g:=g) (row:=none) (by repeat (first|(with_reducible first|exact HK.out|apply KeepBut.set_|apply keep_drewN|apply keep_drew|apply keep_alloc)|exact HK.out))));replace HO258:=mk0 (Kd.R_elder' (rR HO258.out) (Kd.R_base ho0) hb);replace HK:=mk0 (KeepBut.trans (by repeat (first|(with_reducible first|exact HK.out|apply KeepBut.set_|apply keep_drewN|apply keep_drew|apply keep_alloc)|exact HK.out)) (KeepBut.of_below hb g none) (.inl rfl));replace HB:=mk0 (below_step (by repeat (first|(with_reducible first|exact HB.out|apply aZ|apply nZ|apply dZ|refine sZ ?_ (IsS80.ge HI0.out))|exact HB.out)) hb);replace HI0:=mk0 (IsS80.below (by repeat (first|(with_reducible first|exact HI0.out|apply IsS80.alloc|apply IsS80.drewN|apply IsS80.drew|apply IsS80.set_1|apply IsS80.set_2)|exact HI0.out)) hb);(try clear hb);(try clear ho0);obtain⟨Ao69,co69,eo69⟩:=Kd.R_slice HO263.out;subst eo69))
  go_ret
  exact⟨_,by first|rfl|(simp [errW_none,errW_some] <;> rfl)|(simp [*,errW_none,errW_some] <;> rfl),rR (Kd.R_mono HO263.out (fun _ hk=>trivial)),by repeat (first|(with_reducible first|exact HI0.out|apply IsS80.alloc|apply IsS80.drewN|apply IsS80.drew|apply IsS80.set_1|apply IsS80.set_2)|exact HI0.out),by repeat (first|(with_reducible first|exact HB.out|apply aZ|apply nZ|apply dZ|refine sZ ?_ (IsS80.ge HI0.out))|exact HB.out),by repeat (first|(with_reducible first|exact HK.out|apply KeepBut.set_|apply keep_drewN|apply keep_drew|apply keep_alloc)|exact HK.out)⟩

 rw [if_pos c4] at H
 have c4b0:decide (0 < (t261.length:Int)) = true:=decide_eq_true c4
 have c4b1:decide (0 < t261.length) = true:=decide_eq_true (by omega)
 clear c4
 obtain⟨ji5,hji5⟩:∃ j_:Int,(mn 200 (t261.length:Int)) = j_:=⟨_,rfl⟩
 replace H:((spec_l01Cur_pick.f s0_0 t259 t260 (ji5)).bind fun bt264=>((spec_l01Cur_pick.f s0_0 bt264.2.1 bt264.2.2 10).bind fun bt267=>(if bt267.1 = 0 then ((spec_l01Cur_raw.f s0_0 bt267.2.1 bt267.2.2).bind fun bt270=>((some (([bt270.1,60,61]:List Int):List Int)).bind fun y273=>((spec_l01Cur_pick.f s0_0 bt270.2.1 bt270.2.2 3).bind fun bt276=>(if 0 ≤ bt276.1 then (if bt276.1 < (y273.length:Int) then (if 0 ≤ bt264.1 then (if bt264.1 < (t261.length:Int) then (some ((t261.set (bt264.1:Int).toNat (rd y273 bt276.1)),bt276.2.1,bt276.2.2)) else (none)) else (none)) else (none)) else (none))))) else (if bt267.1 = 1 then (if 0 ≤ bt264.1 then (if bt264.1 < (t261.length:Int) then (some ((t261.set (bt264.1:Int).toNat (wrap64 ((rd t261 bt264.1) + 1))),bt267.2.1,bt267.2.2)) else (none)) else (none)) else (if bt267.1 = 2 then ((spec_l01Cur_pick.f s0_0 bt267.2.1 bt267.2.2 (ji5)).bind fun bt283=>(if 0 ≤ bt264.1 then (if bt264.1 < (t261.length:Int) then (if 0 ≤ bt283.1 then (if bt283.1 < (t261.length:Int) then (some (((t261.set (bt264.1:Int).toNat (rd t261 bt283.1)).set (bt283.1:Int).toNat (rd t261 bt264.1)),bt283.2.1,bt283.2.2)) else (none)) else (none)) else (none)) else (none))) else (some (t261,bt267.2.1,bt267.2.2))))))) = some (r1,r2,r3):=by first|(rw [hji5] at H;exact H)|(simp only [hji5] at H ⊢;exact H)
 (try rw [hji5] at A2)
 (try rw [hji5] at A3)
 (try (have hji5h:ji5 ≤ 200:=by (rw [← hji5];unfold mn;(repeat' split) <;> omega)))
 (try (have hji5g:ji5 ≤ 64:=by omega))
 (try (have hji5l:0 ≤ ji5:=by (rw [← hji5];unfold mn;(repeat' split) <;> omega)))
 (try (have hji5m:0 ≤ ji5:=by omega))
 have hji5_:(if (t261.length:Int) < 200 then (t261.length:Int) else 200) = ji5:=hji5
 replace H:=Option.bind_eq_some_iff.mp H
 obtain⟨⟨t264,t265,t266⟩,A60,H⟩:=H
 replace H:((spec_l01Cur_pick.f s0_0 t265 t266 10).bind fun bt267=>(if bt267.1 = 0 then ((spec_l01Cur_raw.f s0_0 bt267.2.1 bt267.2.2).bind fun bt270=>((some (([bt270.1,60,61]:List Int):List Int)).bind fun y273=>((spec_l01Cur_pick.f s0_0 bt270.2.1 bt270.2.2 3).bind fun bt276=>(if 0 ≤ bt276.1 then (if bt276.1 < (y273.length:Int) then (if 0 ≤ t264 then (if t264 < (t261.length:Int) then (some ((t261.set (t264:Int).toNat (rd y273 bt276.1)),bt276.2.1,bt276.2.2)) else (none)) else (none)) else (none)) else (none))))) else (if bt267.1 = 1 then (if 0 ≤ t264 then (if t264 < (t261.length:Int) then (some ((t261.set (t264:Int).toNat (wrap64 ((rd t261 t264) + 1))),bt267.2.1,bt267.2.2)) else (none)) else (none)) else (if bt267.1 = 2 then ((spec_l01Cur_pick.f s0_0 bt267.2.1 bt267.2.2 (ji5)).bind fun bt283=>(if 0 ≤ t264 then (if t264 < (t261.length:Int) then (if 0 ≤ bt283.1 then (if bt283.1 < (t261.length:Int) then (some (((t261.set (t264:Int).toNat (rd t261 bt283.1)).set (bt283.1:Int).toNat (rd t261 t264)),bt283.2.1,bt283.2.2)) else (none)) else (none)) else (none)) else (none))) else (some (t261,bt267.2.1,bt267.2.2)))))) = some (r1,r2,r3):=H
 have A6:=mk0 A60
 clear A60
 replace H:=Option.bind_eq_some_iff.mp H
 obtain⟨⟨t267,t268,t269⟩,A70,H⟩:=H
 replace H:(if t267 = 0 then ((spec_l01Cur_raw.f s0_0 t268 t269).bind fun bt270=>((some (([bt270.1,60,61]:List Int):List Int)).bind fun y273=>((spec_l01Cur_pick.f s0_0 bt270.2.1 bt270.2.2 3).bind fun bt276=>(if 0 ≤ bt276.1 then (if bt276.1 < (y273.length:Int) then (if 0 ≤ t264 then (if t264 < (t261.length:Int) then (some ((t261.set (t264:Int).toNat (rd y273 bt276.1)),bt276.2.1,bt276.2.2)) else (none)) else (none)) else (none)) else (none))))) else (if t267 = 1 then (if 0 ≤ t264 then (if t264 < (t261.length:Int) then (some ((t261.set (t264:Int).toNat (wrap64 ((rd t261 t264) + 1))),t268,t269)) else (none)) else (none)) else (if t267 = 2 then ((spec_l01Cur_pick.f s0_0 t268 t269 (ji5)).bind fun bt283=>(if 0 ≤ t264 then (if t264 < (t261.length:Int) then (if 0 ≤ bt283.1 then (if bt283.1 < (t261.length:Int) then (some (((t261.set (t264:Int).toNat (rd t261 bt283.1)).set (bt283.1:Int).toNat (rd t261 t264)),bt283.2.1,bt283.2.2)) else (none)) else (none)) else (none)) else (none))) else (some (t261,t268,t269))))) = some (r1,r2,r3):=H
 have A7:=mk0 A70
 clear A70
 by_cases c8:t267 = 0
 ·rw [if_pos c8] at H
  have c8b0:(t267 == 0) = true:=beq_iff_eq.mpr c8
  have c8b1:(t267 != 0) = false:=bne_eq_false_iff_eq.mpr c8
  clear c8
  replace H:=Option.bind_eq_some_iff.mp H
  obtain⟨⟨t270,t271,t272⟩,A90,H⟩:=H
  replace H:((some (([t270,60,61]:List Int):List Int)).bind fun y273=>((spec_l01Cur_pick.f s0_0 t271 t272 3).bind fun bt276=>(if 0 ≤ bt276.1 then (if bt276.1 < (y273.length:Int) then (if 0 ≤ t264 then (if t264 < (t261.length:Int) then (some ((t261.set (t264:Int).toNat (rd y273 bt276.1)),bt276.2.1,bt276.2.2)) else (none)) else (none)) else (none)) else (none)))) = some (r1,r2,r3):=H
  have A9:=mk0 A90
  clear A90
  obtain⟨y273,hy273⟩:∃ y_:List Int,y_ = (([t270,60,61]:List Int)):=⟨_,rfl⟩
  replace H:((spec_l01Cur_pick.f s0_0 t271 t272 3).bind fun bt276=>(if 0 ≤ bt276.1 then (if bt276.1 < (y273.length:Int) then (if 0 ≤ t264 then (if t264 < (t261.length:Int) then (some ((t261.set (t264:Int).toNat (rd y273 bt276.1)),bt276.2.1,bt276.2.2)) else (none)) else (none)) else (none)) else (none))) = some (r1,r2,r3):=by first|(rw [hy273];with_reducible exact H)|(have H2_:=(Option.bind_some _ _).symm.trans H;rw [hy273];with_reducible exact H2_)|(have H2_:=(Option.bind_some _ _).symm.trans H;with_reducible exact H2_)|with_reducible exact H|(rw [hy273];exact H)|exact H
  have Ny273:=mk0 hy273
  clear hy273
  replace H:=Option.bind_eq_some_iff.mp H
  obtain⟨⟨t276,t277,t278⟩,A100,H⟩:=H
  replace H:(if 0 ≤ t276 then (if t276 < (y273.length:Int) then (if 0 ≤ t264 then (if t264 < (t261.length:Int) then (some ((t261.set (t264:Int).toNat (rd y273 t276)),t277,t278)) else (none)) else (none)) else (none)) else (none)) = some (r1,r2,r3):=H
  have A10:=mk0 A100
  clear A100
  by_cases c11:0 ≤ t276
  rotate_left
  ·rw [if_neg c11] at H
   exact absurd H (by simp)
  rw [if_pos c11] at H
  have c11b0:decide (0 ≤ t276) = true:=decide_eq_true c11
  clear c11
  by_cases c12:t276 < (y273.length:Int)
  rotate_left
  ·rw [if_neg c12] at H
   exact absurd H (by simp)
  rw [if_pos c12] at H
  have c12b0:decide (t276 < (y273.length:Int)) = true:=decide_eq_true c12
  clear c12
  by_cases c13:0 ≤ t264
  rotate_left
  ·rw [if_neg c13] at H
   exact absurd H (by simp)
  rw [if_pos c13] at H
  have c13b0:decide (0 ≤ t264) = true:=decide_eq_true c13
  clear c13
  by_cases c14:t264 < (t261.length:Int)
  rotate_left
  ·rw [if_neg c14] at H
   exact absurd H (by simp)
  rw [if_pos c14] at H
  have c14b0:decide (t264 < (t261.length:Int)) = true:=decide_eq_true c14
  clear c14
  obtain⟨y280,hy280⟩:∃ y_:List Int,y_ = (t261.set (t264:Int).toNat (rd y273 t276)):=⟨_,rfl⟩
  replace H:(some (y280,t277,t278)) = some (r1,r2,r3):=by first|(rw [hy280];with_reducible exact H)|(have H2_:=(Option.bind_some _ _).symm.trans H;rw [hy280];with_reducible exact H2_)|(have H2_:=(Option.bind_some _ _).symm.trans H;with_reducible exact H2_)|with_reducible exact H|(rw [hy280];exact H)|exact H
  have Ny280:=mk0 hy280
  clear hy280
  simp only [Option.some.injEq,Prod.mk.injEq] at H
  obtain⟨rfl,rfl,rfl⟩:=H
  go_enter Try.func34,Try.ntmps34
  go_wp2_with (first|((with_reducible refine gate_callee (f:=48) rfl ?_);refine goesL_ (some 8) rfl rfl Try.func48 (by kernel_rfl) rfl #[.pointer (some ⟨g,0,none⟩)] rfl (by (try simp only [mA,mC,mN]);first|done|rfl|(simp only [List.length_drop,List.length_take];done)|(simp only [List.length_drop,List.length_take];rfl)) ?_;(with_reducible refine (spec_l01Cur_countsOf.calls k g s0_0 s0_1 s0_2 t256 t259 t260 w0 _ ?side1 ?side2 A2.out).mono ?_);(case side1=>repeat (first|(with_reducible first|exact HI0.out|apply IsS80.alloc|apply IsS80.drewN|apply IsS80.drew|apply IsS80.set_1|apply IsS80.set_2)|exact HI0.out));(case side2=>repeat (first|(with_reducible first|exact HB.out|apply aZ|apply nZ|apply dZ|refine sZ ?_ (IsS80.ge HI0.out))|exact HB.out));rintro e w16 ⟨v257,rfl,ho0,hi,hb,hk⟩;refine⟨_,rfl,?_⟩;have HO258:=mk0 (Kd.R_lower ho0 (keep_size (w:=w) (g:=g) (row:=none) (by repeat (first|(with_reducible first|exact HK.out|apply KeepBut.set_|apply keep_drewN|apply keep_drew|apply keep_alloc)|exact HK.out))));replace HK:=mk0 (KeepBut.trans (by repeat (first|(with_reducible first|exact HK.out|apply KeepBut.set_|apply keep_drewN|apply keep_drew|apply keep_alloc)|exact HK.out)) hk (.inl rfl));replace HB:=mk0 (hb);replace HI0:=mk0 (hi);(try clear hb);(try clear hk);(try clear hi);(try clear ho0);obtain⟨Ao17,co17,eo17⟩:=Kd.R_slice HO258.out;subst eo17)|((with_reducible refine gate_callee (f:=21) rfl ?_);refine goesL_ (some 9) rfl rfl Try.func21 (by kernel_rfl) rfl #[.slice Ao17 t256.length co17] rfl (by (try simp only [mA,mC,mN]);first|done|rfl|(simp only [List.length_drop,List.length_take];done)|(simp only [List.length_drop,List.length_take];rfl)) ?_;(with_reducible refine (spec_HuffLens.calls k _ _ t256 t261 _ ?side1 ?side2 A3.out).mono ?_);(case side1=>exact kC (Kd.R_reads' HO258.out).2.2);(case side2=>exact (Kd.R_reads' HO258.out).2.1);rintro e w18 ⟨v262,rfl,ho0,hb⟩;refine⟨_,rfl,?_⟩;have HO263:=mk0 (Kd.R_lower (Kd.R_new' ho0 (Kd.R_lt (rR HO258.out))) (keep_size (w:=w) (g:=g) (row:=none) (by repeat (first|(with_reducible first|exact HK.out|apply KeepBut.set_|apply keep_drewN|apply keep_drew|apply keep_alloc)|exact HK.out))));replace HO258:=mk0 (Kd.R_elder' (rR HO258.out) (Kd.R_base ho0) hb);replace HK:=mk0 (KeepBut.trans (by repeat (first|(with_reducible first|exact HK.out|apply KeepBut.set_|apply keep_drewN|apply keep_drew|apply keep_alloc)|exact HK.out)) (KeepBut.of_below hb g none) (.inl rfl));replace HB:=mk0 (below_step (by repeat (first|(with_reducible first|exact HB.out|apply aZ|apply nZ|apply dZ|refine sZ ?_ (IsS80.ge HI0.out))|exact HB.out)) hb);replace HI0:=mk0 (IsS80.below (by repeat (first|(with_reducible first|exact HI0.out|apply IsS80.alloc|apply IsS80.drewN|apply IsS80.drew|apply IsS80.set_1|apply IsS80.set_2)|exact HI0.out)) hb);(try clear hb);(try clear ho0);obtain⟨Ao19,co19,eo19⟩:=Kd.R_slice HO263.out;subst eo19)|((with_reducible refine gate_callee (f:=65) rfl ?_);refine goesL_ (some 17) rfl rfl Try.func65 (by kernel_rfl) rfl #[.pointer (some ⟨g,0,none⟩),.int .i64 ji5] rfl (by (try simp only [mA,mC,mN]);first|done|(simp only [hji5];rfl)|rfl|(simp only [List.length_drop,List.length_take];done)|(simp only [List.length_drop,List.length_take];rfl)) ?_;(with_reducible refine (spec_l01Cur_pick.calls g s0_0 t259 t260 ji5 t264 t265 t266 w0 _ ?side1 ?side2 A6.out).mono ?_);(case side1=>repeat (first|(with_reducible first|exact HI0.out|apply IsS80.alloc|apply IsS80.drewN|apply IsS80.drew|apply IsS80.set_1|apply IsS80.set_2)|exact HI0.out));(case side2=>repeat (first|(with_reducible first|exact HB.out|apply aZ|apply nZ|apply dZ|refine sZ ?_ (IsS80.ge HI0.out))|exact HB.out));rintro e w20 ⟨rfl,hi,hb,hk⟩;refine⟨_,rfl,?_⟩;replace HO258:=mk0 (Kd.R_mono (Kd.R_keep (IsS80.apart (show IsS80 w0 _ g s0_0 t259 t260 from by repeat (first|(with_reducible first|exact HI0.out|apply IsS80.alloc|apply IsS80.drewN|apply IsS80.drew|apply IsS80.set_1|apply IsS80.set_2)|exact HI0.out)) (rR HO258.out) (by decide)) hk (fun _ h=>h.2)) (fun _ h=>h.1));replace HO263:=mk0 (Kd.R_mono (Kd.R_keep (IsS80.apart (show IsS80 w0 _ g s0_0 t259 t260 from by repeat (first|(with_reducible first|exact HI0.out|apply IsS80.alloc|apply IsS80.drewN|apply IsS80.drew|apply IsS80.set_1|apply IsS80.set_2)|exact HI0.out)) (rR HO263.out) (by decide)) hk (fun _ h=>h.2)) (fun _ h=>h.1));replace HK:=mk0 (KeepBut.trans (by repeat (first|(with_reducible first|exact HK.out|apply KeepBut.set_|apply keep_drewN|apply keep_drew|apply keep_alloc)|exact HK.out)) hk (.inl rfl));replace HB:=mk0 (hb);replace HI0:=mk0 (hi);(try clear hb);(try clear hk);(try clear hi))|((with_reducible refine gate_callee (f:=65) rfl ?_);refine goesL_ (some 19) rfl rfl Try.func65 (by kernel_rfl) rfl #[.pointer (some ⟨g,0,none⟩),.int .i64 10] rfl (by (try simp only [mA,mC,mN]);first|done|rfl|(simp only [List.length_drop,List.length_take];done)|(simp only [List.length_drop,List.length_take];rfl)) ?_;(with_reducible refine (spec_l01Cur_pick.calls g s0_0 t265 t266 10 t267 t268 t269 w0 _ ?side1 ?side2 A7.out).mono ?_);(case side1=>repeat (first|(with_reducible first|exact HI0.out|apply IsS80.alloc|apply IsS80.drewN|apply IsS80.drew|apply IsS80.set_1|apply IsS80.set_2)|exact HI0.out));(case side2=>repeat (first|(with_reducible first|exact HB.out|apply aZ|apply nZ|apply dZ|refine sZ ?_ (IsS80.ge HI0.out))|exact HB.out));rintro e w21 ⟨rfl,hi,hb,hk⟩;refine⟨_,rfl,?_⟩;replace HO258:=mk0 (Kd.R_mono (Kd.R_keep (IsS80.apart (show IsS80 w0 _ g s0_0 t265 t266 from by repeat (first|(with_reducible first|exact HI0.out|apply IsS80.alloc|apply IsS80.drewN|apply IsS80.drew|apply IsS80.set_1|apply IsS80.set_2)|exact HI0.out)) (rR HO258.out) (by decide)) hk (fun _ h=>h.2)) (fun _ h=>h.1));replace HO263:=mk0 (Kd.R_mono (Kd.R_keep (IsS80.apart (show IsS80 w0 _ g s0_0 t265 t266 from by repeat (first|(with_reducible first|exact HI0.out|apply IsS80.alloc|apply IsS80.drewN|apply IsS80.drew|apply IsS80.set_1|apply IsS80.set_2)|exact HI0.out)) (rR HO263.out) (by decide)) hk (fun _ h=>h.2)) (fun _ h=>h.1));replace HK:=mk0 (KeepBut.trans (by repeat (first|(with_reducible first|exact HK.out|apply KeepBut.set_|apply keep_drewN|apply keep_drew|apply keep_alloc)|exact HK.out)) hk (.inl rfl));replace HB:=mk0 (hb);replace HI0:=mk0 (hi);(try clear hb);(try clear hk);(try clear hi))|((with_reducible refine gate_callee (f:=66) rfl ?_);refine goesL_ (some 25) rfl rfl Try.func66 (by kernel_rfl) rfl #[.pointer (some ⟨g,0,none⟩)] rfl (by (try simp only [mA,mC,mN]);first|done|rfl|(simp only [List.length_drop,List.length_take];done)|(simp only [List.length_drop,List.length_take];rfl)) ?_;(with_reducible refine (spec_l01Cur_raw.calls g s0_0 t268 t269 t270 t271 t272 w0 _ ?side1 ?side2 A9.out).mono ?_);(case side1=>repeat (first|(with_reducible first|exact HI0.out|apply IsS80.alloc|apply IsS80.drewN|apply IsS80.drew|apply IsS80.set_1|apply IsS80.set_2)|exact HI0.out));(case side2=>repeat (first|(with_reducible first|exact HB.out|apply aZ|apply nZ|apply dZ|refine sZ ?_ (IsS80.ge HI0.out))|exact HB.out));rintro e w22 ⟨rfl,hi,hb,hk⟩;refine⟨_,rfl,?_⟩;replace HO258:=mk0 (Kd.R_mono (Kd.R_keep (IsS80.apart (show IsS80 w0 _ g s0_0 t268 t269 from by repeat (first|(with_reducible first|exact HI0.out|apply IsS80.alloc|apply IsS80.drewN|apply IsS80.drew|apply IsS80.set_1|apply IsS80.set_2)|exact HI0.out)) (rR HO258.out) (by decide)) hk (fun _ h=>h.2)) (fun _ h=>h.1));replace HO263:=mk0 (Kd.R_mono (Kd.R_keep (IsS80.apart (show IsS80 w0 _ g s0_0 t268 t269 from by repeat (first|(with_reducible first|exact HI0.out|apply IsS80.alloc|apply IsS80.drewN|apply IsS80.drew|apply IsS80.set_1|apply IsS80.set_2)|exact HI0.out)) (rR HO263.out) (by decide)) hk (fun _ h=>h.2)) (fun _ h=>h.1));replace HK:=mk0 (KeepBut.trans (by repeat (first|(with_reducible first|exact HK.out|apply KeepBut.set_|apply keep_drewN|apply keep_drew|apply keep_alloc)|exact HK.out)) hk (.inl rfl));replace HB:=mk0 (hb);replace HI0:=mk0 (hi);(try clear hb);(try clear hk);(try clear hi))|((with_reducible refine gate_dst (N:=26) rfl ?_);refine Kd.R_lit (Kd.int .i64) _ 3 ?hg (N:=26) ?hd (xs:=([t270,60,61]:List Int)) (inner:=[.int .i64 t270,.int .i64 60,.int .i64 61]) (ok:=fun _=>True) (okp:=fun _=>True) ?hr ?hp (fun _ hk=>hk) trivial (Below.refl _ _) (Nat.le_refl _) (by simp) ?_;(case hd=>rfl);(case hg=>rfl);(case hr=>first|(go_simp;done)|(go_simp;rfl));(case hp=>exact (Reps.one (show Kd.M (Kd.int .i64) _ _ _ t270 [.int .i64 t270] from rfl) (Reps.one (show Kd.M (Kd.int .i64) _ _ _ 60 [.int .i64 60] from rfl) (Reps.one (show Kd.M (Kd.int .i64) _ _ _ 61 [.int .i64 61] from rfl) (Reps.none _ _)))));intro v274 w23 ho24 hb hg_ hnew_;clear hg_ hnew_;(first|rw [← Ny273.out] at ho24|(simp only [Int.reduceToNat] at ho24;rw [← Ny273.out] at ho24));have HO275:=mk0 (Kd.R_lower (Kd.R_new' (Kd.R_new' ho24 (Kd.R_lt (rR HO258.out))) (Kd.R_lt (rR HO263.out))) (keep_size (w:=w) (g:=g) (row:=none) (by repeat (first|(with_reducible first|exact HK.out|apply KeepBut.set_|apply keep_drewN|apply keep_drew|apply keep_alloc)|exact HK.out))));replace HO258:=mk0 (Kd.R_elder' (rR HO258.out) (Kd.R_base ho24) hb);replace HO263:=mk0 (Kd.R_elder' (rR HO263.out) (Kd.R_base ho24) hb);replace HK:=mk0 (KeepBut.trans (by repeat (first|(with_reducible first|exact HK.out|apply KeepBut.set_|apply keep_drewN|apply keep_drew|apply keep_alloc)|exact HK.out)) (KeepBut.of_below hb g none) (.inl rfl));replace HB:=mk0 (below_step (by repeat (first|(with_reducible first|exact HB.out|apply aZ|apply nZ|apply dZ|refine sZ ?_ (IsS80.ge HI0.out))|exact HB.out)) hb);replace HI0:=mk0 (IsS80.below (by repeat (first|(with_reducible first|exact HI0.out|apply IsS80.alloc|apply IsS80.drewN|apply IsS80.drew|apply IsS80.set_1|apply IsS80.set_2)|exact HI0.out)) hb);clear hb ho24)|((with_reducible refine gate_callee (f:=65) rfl ?_);refine goesL_ (some 28) rfl rfl Try.func65 (by kernel_rfl) rfl #[.pointer (some ⟨g,0,none⟩),.int .i64 3] rfl (by (try simp only [mA,mC,mN]);first|done|rfl|(simp only [List.length_drop,List.length_take];done)|(simp only [List.length_drop,List.length_take];rfl)) ?_;(with_reducible refine (spec_l01Cur_pick.calls g s0_0 t271 t272 3 t276 t277 t278 w0 _ ?side1 ?side2 A10.out).mono ?_);(case side1=>repeat (first|(with_reducible first|exact HI0.out|apply IsS80.alloc|apply IsS80.drewN|apply IsS80.drew|apply IsS80.set_1|apply IsS80.set_2)|exact HI0.out));(case side2=>repeat (first|(with_reducible first|exact HB.out|apply aZ|apply nZ|apply dZ|refine sZ ?_ (IsS80.ge HI0.out))|exact HB.out));rintro e w25 ⟨rfl,hi,hb,hk⟩;refine⟨_,rfl,?_⟩;replace HO258:=mk0 (Kd.R_mono (Kd.R_keep (IsS80.apart (show IsS80 w0 _ g s0_0 t271 t272 from by repeat (first|(with_reducible first|exact HI0.out|apply IsS80.alloc|apply IsS80.drewN|apply IsS80.drew|apply IsS80.set_1|apply IsS80.set_2)|exact HI0.out)) (rR HO258.out) (by decide)) hk (fun _ h=>h.2)) (fun _ h=>h.1));replace HO263:=mk0 (Kd.R_mono (Kd.R_keep (IsS80.apart (show IsS80 w0 _ g s0_0 t271 t272 from by repeat (first|(with_reducible first|exact HI0.out|apply IsS80.alloc|apply IsS80.drewN|apply IsS80.drew|apply IsS80.set_1|apply IsS80.set_2)|exact HI0.out)) (rR HO263.out) (by decide)) hk (fun _ h=>h.2)) (fun _ h=>h.1));replace HO275:=mk0 (Kd.R_mono (Kd.R_keep (IsS80.apart (show IsS80 w0 _ g s0_0 t271 t272 from by repeat (first|(with_reducible first|exact HI0.out|apply IsS80.alloc|apply IsS80.drewN|apply IsS80.drew|apply IsS80.set_1|apply IsS80.set_2)|exact HI0.out)) (rR HO275.out) (by decide)) hk (fun _ h=>h.2)) (fun _ h=>h.1));replace HK:=mk0 (KeepBut.trans (by repeat (first|(with_reducible first|exact HK.out|apply KeepBut.set_|apply keep_drewN|apply keep_drew|apply keep_alloc)|exact HK.out)) hk (.inl rfl));replace HB:=mk0 (hb);replace HI0:=mk0 (hi);(try clear hb);(try clear hk);(try clear hi);obtain⟨Ao26,co26,eo26⟩:=Kd.R_slice HO275.out;subst eo26;have p279:0 ≤ (t276:Int):=of_decide_eq_true (by first|(with_reducible assumption)|assumption);have q279:t276 < (y273.length:Int):=of_decide_eq_true (by first|(with_reducible assumption)|assumption);obtain⟨ad279,e279,hx279_0⟩:=Kd.at_int (Kd.R_reads' HO275.out).2.2 t276 p279 q279;cases e279;replace p279:=eq_true p279;replace q279:=eq_true q279;have p15:0 ≤ (t264:Int):=of_decide_eq_true (by first|(with_reducible assumption)|assumption);have q15:(t264:Int) < ((t261.length:Int):Int):=of_decide_eq_true (by first|(with_reducible assumption)|assumption);obtain⟨go15,co15,eo15,gb15,gl15,cl15,HG15⟩:=Kd.R_form HO263.out (by omega);(first|cases eo15|(injection eo15 with ea_ en_ ec_;(first|subst ea_|(injection ea_ with ea_;subst ea_));subst ec_;clear en_));have GB15:=mk0 gb15;have GG15:=mk0 HG15;clear gb15 gl15 HG15;obtain⟨hx15_0,hf15_0⟩:=Kd.R_celln 0 HO263.out (t264:Int) p15 q15;replace p15:=eq_true p15;replace q15:=eq_true q15;have n_:=mk0 (Kd.R_mono (ok':=(fun k_=>some k_ ≠ (.slice Ao17 t256.length co17:Value).ownBlock ∧ some k_ ≠ (.slice (some ad279) y273.length co26:Value).ownBlock)) HO263.out (fun k_ hk=>⟨hk.1.2,hk.2⟩));clear HO263;have HO263:=n_;clear n_;obtain⟨hy27_,hz27_⟩:=Kd.R_celln 0 HO263.out (t264:Int) (of_decide_eq_true (by first|(with_reducible assumption)|assumption)) (of_decide_eq_true (by first|(with_reducible assumption)|assumption));have HP27:=Kd.R_putg HO263.out (t264:Int) (rd y273 t276))|((with_reducible refine gate_store (t:=3) (p:=31) rfl ?_);refine store_event (t:=3) (p:=31) (v:=?vo_w28) (w1:=(w25.setCell ⟨go15,(t264:Int).toNat,none⟩ (.int .i64 (rd y273 t276)))) ?hg ?ho ?hn ?hr ?_;(case ho=>rfl);(case hg=>rfl);(case hn=>rfl);(case hr=>first|(go_simp;done)|(go_simp;rfl));intro w28 hw;have hg:w25.grownBy w28 (some go15):=(by rw [hw];exact HP27.2);have hp_:Kd.R (Kd.int .i64) 3 w28 w.heap.size (fun k_=>some k_ ≠ (.slice Ao17 t256.length co17:Value).ownBlock ∧ some k_ ≠ (.slice (some ad279) y273.length co26:Value).ownBlock) (.slice (some ⟨go15,0,none⟩) t261.length co19) y280:=(by rw [hw,Ny280.out];exact HP27.1);clear HP27;replace HI0:=mk0 (IsS80.grown (by repeat (first|(with_reducible first|exact HI0.out|apply IsS80.alloc|apply IsS80.drewN|apply IsS80.drew|apply IsS80.set_1|apply IsS80.set_2)|exact HI0.out)) hg (IsS80.own_ne HI0.out HO263.out (by decide)));replace HO258:=mk0 (Kd.R_after (v:=(.slice (some ⟨go15,0,none⟩) t261.length co19)) (v1:=(.slice (some ⟨go15,0,none⟩) t261.length co19)) (ok:=(fun k_=>some k_ ≠ (.slice (some ad279) y273.length co26:Value).ownBlock)) (by (with_reducible repeat (first|apply aR|apply nR|apply dR));exact Kd.R_mono HO258.out (by first|exact fun _ hk=>⟨hk.2,hk.1.2⟩|(intro k_ hk;simp only [hk,ne_eq,and_self,not_false_eq_true]))) hg (.inl rfl));replace HO275:=mk0 (Kd.R_after (v:=(.slice (some ⟨go15,0,none⟩) t261.length co19)) (v1:=(.slice (some ⟨go15,0,none⟩) t261.length co19)) (ok:=(fun k_=>some k_ ≠ (.slice Ao17 t256.length co17:Value).ownBlock)) (by (with_reducible repeat (first|apply aR|apply nR|apply dR));exact Kd.R_mono HO275.out (by first|exact fun _ hk=>⟨hk.1.2,hk.2⟩|(intro k_ hk;simp only [hk,ne_eq,and_self,not_false_eq_true]))) hg (.inl rfl));replace HB:=mk0 ((by rw [hw];exact sZ (HB.out) (Nat.le_trans HL.out GB15.out):Below w0.heap.size w0 w28));replace HK:=mk0 (KeepBut.trans (by repeat (first|(with_reducible first|exact HK.out|apply KeepBut.set_|apply keep_drewN|apply keep_drew|apply keep_alloc)|exact HK.out)) (KeepBut.of_grown hg g) (Kd.R_base2 HO263.out));replace HO263:=mk0 (hp_);clear hg hw hp_))
  go_ret
  exact⟨_,by first|rfl|(simp [errW_none,errW_some] <;> rfl)|(simp only [← hji5];first|rfl|(simp [errW_none,errW_some] <;> rfl))|(simp [*,errW_none,errW_some] <;> rfl),rR (Kd.R_mono HO263.out (fun _ hk=>trivial)),by repeat (first|(with_reducible first|exact HI0.out|apply IsS80.alloc|apply IsS80.drewN|apply IsS80.drew|apply IsS80.set_1|apply IsS80.set_2)|exact HI0.out),by repeat (first|(with_reducible first|exact HB.out|apply aZ|apply nZ|apply dZ|refine sZ ?_ (IsS80.ge HI0.out))|exact HB.out),by repeat (first|(with_reducible first|exact HK.out|apply KeepBut.set_|apply keep_drewN|apply keep_drew|apply keep_alloc)|exact HK.out)⟩
 rw [if_neg c8] at H
 have c8b0:(t267 == 0) = false:=beq_eq_false_iff_ne.mpr c8
 have c8b1:(t267 != 0) = true:=bne_iff_ne.mpr c8
 by_cases c29:t267 = 1
 ·rw [if_pos c29] at H
  have c29b0:(t267 == 1) = true:=beq_iff_eq.mpr c29
  have c29b1:(t267 != 1) = false:=bne_eq_false_iff_eq.mpr c29
  clear c29
  by_cases c30:0 ≤ t264
  rotate_left
  ·rw [if_neg c30] at H
   exact absurd H (by simp)
  rw [if_pos c30] at H
  have c30b0:decide (0 ≤ t264) = true:=decide_eq_true c30
  clear c30
  by_cases c31:t264 < (t261.length:Int)
  rotate_left
  ·rw [if_neg c31] at H
   exact absurd H (by simp)
  rw [if_pos c31] at H
  have c31b0:decide (t264 < (t261.length:Int)) = true:=decide_eq_true c31
  clear c31
  obtain⟨y282,hy282⟩:∃ y_:List Int,y_ = (t261.set (t264:Int).toNat (wrap64 ((rd t261 t264) + 1))):=⟨_,rfl⟩
  replace H:(some (y282,t268,t269)) = some (r1,r2,r3):=by first|(rw [hy282];with_reducible exact H)|(have H2_:=(Option.bind_some _ _).symm.trans H;rw [hy282];with_reducible exact H2_)|(have H2_:=(Option.bind_some _ _).symm.trans H;with_reducible exact H2_)|with_reducible exact H|(rw [hy282];exact H)|exact H
  have Ny282:=mk0 hy282
  clear hy282
  simp only [Option.some.injEq,Prod.mk.injEq] at H
  obtain⟨rfl,rfl,rfl⟩:=H
  go_enter Try.func34,Try.ntmps34
  go_wp2_with (first|((with_reducible refine gate_callee (f:=48) rfl ?_);refine goesL_ (some 8) rfl rfl Try.func48 (by kernel_rfl) rfl #[.pointer (some ⟨g,0,none⟩)] rfl (by (try simp only [mA,mC,mN]);first|done|rfl|(simp only [List.length_drop,List.length_take];done)|(simp only [List.length_drop,List.length_take];rfl)) ?_;(with_reducible refine (spec_l01Cur_countsOf.calls k g s0_0 s0_1 s0_2 t256 t259 t260 w0 _ ?side1 ?side2 A2.out).mono ?_);(case side1=>repeat (first|(with_reducible first|exact HI0.out|apply IsS80.alloc|apply IsS80.drewN|apply IsS80.drew|apply IsS80.set_1|apply IsS80.set_2)|exact HI0.out));(case side2=>repeat (first|(with_reducible first|exact HB.out|apply aZ|apply nZ|apply dZ|refine sZ ?_ (IsS80.ge HI0.out))|exact HB.out));rintro e w33 ⟨v257,rfl,ho0,hi,hb,hk⟩;refine⟨_,rfl,?_⟩;have HO258:=mk0 (Kd.R_lower ho0 (keep_size (w:=w) (g:=g) (row:=none) (by repeat (first|(with_reducible first|exact HK.out|apply KeepBut.set_|apply keep_drewN|apply keep_drew|apply keep_alloc)|exact HK.out))));replace HK:=mk0 (KeepBut.trans (by repeat (first|(with_reducible first|exact HK.out|apply KeepBut.set_|apply keep_drewN|apply keep_drew|apply keep_alloc)|exact HK.out)) hk (.inl rfl));replace HB:=mk0 (hb);replace HI0:=mk0 (hi);(try clear hb);(try clear hk);(try clear hi);(try clear ho0);obtain⟨Ao34,co34,eo34⟩:=Kd.R_slice HO258.out;subst eo34)|((with_reducible refine gate_callee (f:=21) rfl ?_);refine goesL_ (some 9) rfl rfl Try.func21 (by kernel_rfl) rfl #[.slice Ao34 t256.length co34] rfl (by (try simp only [mA,mC,mN]);first|done|rfl|(simp only [List.length_drop,List.length_take];done)|(simp only [List.length_drop,List.length_take];rfl)) ?_;(with_reducible refine (spec_HuffLens.calls k _ _ t256 t261 _ ?side1 ?side2 A3.out).mono ?_);(case side1=>exact kC (Kd.R_reads' HO258.out).2.2);(case side2=>exact (Kd.R_reads' HO258.out).2.1);rintro e w35 ⟨v262,rfl,ho0,hb⟩;refine⟨_,rfl,?_⟩;have HO263:=mk0 (Kd.R_lower (Kd.R_new' ho0 (Kd.R_lt (rR HO258.out))) (keep_size (w:=w) (g:=g) (row:=none) (by repeat (first|(with_reducible first|exact HK.out|apply KeepBut.set_|apply keep_drewN|apply keep_drew|apply keep_alloc)|exact HK.out))));replace HO258:=mk0 (Kd.R_elder' (rR HO258.out) (Kd.R_base ho0) hb);replace HK:=mk0 (KeepBut.trans (by repeat (first|(with_reducible first|exact HK.out|apply KeepBut.set_|apply keep_drewN|apply keep_drew|apply keep_alloc)|exact HK.out)) (KeepBut.of_below hb g none) (.inl rfl));replace HB:=mk0 (below_step (by repeat (first|(with_reducible first|exact HB.out|apply aZ|apply nZ|apply dZ|refine sZ ?_ (IsS80.ge HI0.out))|exact HB.out)) hb);replace HI0:=mk0 (IsS80.below (by repeat (first|(with_reducible first|exact HI0.out|apply IsS80.alloc|apply IsS80.drewN|apply IsS80.drew|apply IsS80.set_1|apply IsS80.set_2)|exact HI0.out)) hb);(try clear hb);(try clear ho0);obtain⟨Ao36,co36,eo36⟩:=Kd.R_slice HO263.out;subst eo36)|((with_reducible refine gate_callee (f:=65) rfl ?_);refine goesL_ (some 17) rfl rfl Try.func65 (by kernel_rfl) rfl #[.pointer (some ⟨g,0,none⟩),.int .i64 ji5] rfl (by (try simp only [mA,mC,mN]);first|done|(simp only [hji5];rfl)|rfl|(simp only [List.length_drop,List.length_take];done)|(simp only [List.length_drop,List.length_take];rfl)) ?_;(with_reducible refine (spec_l01Cur_pick.calls g s0_0 t259 t260 ji5 t264 t265 t266 w0 _ ?side1 ?side2 A6.out).mono ?_);(case side1=>repeat (first|(with_reducible first|exact HI0.out|apply IsS80.alloc|apply IsS80.drewN|apply IsS80.drew|apply IsS80.set_1|apply IsS80.set_2)|exact HI0.out));(case side2=>repeat (first|(with_reducible first|exact HB.out|apply aZ|apply nZ|apply dZ|refine sZ ?_ (IsS80.ge HI0.out))|exact HB.out));rintro e w37 ⟨rfl,hi,hb,hk⟩;refine⟨_,rfl,?_⟩;replace HO258:=mk0 (Kd.R_mono (Kd.R_keep (IsS80.apart (show IsS80 w0 _ g s0_0 t259 t260 from by repeat (first|(with_reducible first|exact HI0.out|apply IsS80.alloc|apply IsS80.drewN|apply IsS80.drew|apply IsS80.set_1|apply IsS80.set_2)|exact HI0.out)) (rR HO258.out) (by decide)) hk (fun _ h=>h.2)) (fun _ h=>h.1));replace HO263:=mk0 (Kd.R_mono (Kd.R_keep (IsS80.apart (show IsS80 w0 _ g s0_0 t259 t260 from by repeat (first|(with_reducible first|exact HI0.out|apply IsS80.alloc|apply IsS80.drewN|apply IsS80.drew|apply IsS80.set_1|apply IsS80.set_2)|exact HI0.out)) (rR HO263.out) (by decide)) hk (fun _ h=>h.2)) (fun _ h=>h.1));replace HK:=mk0 (KeepBut.trans (by repeat (first|(with_reducible first|exact HK.out|apply KeepBut.set_|apply keep_drewN|apply keep_drew|apply keep_alloc)|exact HK.out)) hk (.inl rfl));replace HB:=mk0 (hb);replace HI0:=mk0 (hi);(try clear hb);(try clear hk);(try clear hi))|((with_reducible refine gate_callee (f:=65) rfl ?_);refine goesL_ (some 19) rfl rfl Try.func65 (by kernel_rfl) rfl #[.pointer (some ⟨g,0,none⟩),.int .i64 10] rfl (by (try simp only [mA,mC,mN]);first|done|rfl|(simp only [List.length_drop,List.length_take];done)|(simp only [List.length_drop,List.length_take];rfl)) ?_;(with_reducible refine (spec_l01Cur_pick.calls g s0_0 t265 t266 10 t267 t268 t269 w0 _ ?side1 ?side2 A7.out).mono ?_);(case side1=>repeat (first|(with_reducible first|exact HI0.out|apply IsS80.alloc|apply IsS80.drewN|apply IsS80.drew|apply IsS80.set_1|apply IsS80.set_2)|exact HI0.out));(case side2=>repeat (first|(with_reducible first|exact HB.out|apply aZ|apply nZ|apply dZ|refine sZ ?_ (IsS80.ge HI0.out))|exact HB.out));rintro e w38 ⟨rfl,hi,hb,hk⟩;refine⟨_,rfl,?_⟩;replace HO258:=mk0 (Kd.R_mono (Kd.R_keep (IsS80.apart (show IsS80 w0 _ g s0_0 t265 t266 from by repeat (first|(with_reducible first|exact HI0.out|apply IsS80.alloc|apply IsS80.drewN|apply IsS80.drew|apply IsS80.set_1|apply IsS80.set_2)|exact HI0.out)) (rR HO258.out) (by decide)) hk (fun _ h=>h.2)) (fun _ h=>h.1));replace HO263:=mk0 (Kd.R_mono (Kd.R_keep (IsS80.apart (show IsS80 w0 _ g s0_0 t265 t266 from by repeat (first|(with_reducible first|exact HI0.out|apply IsS80.alloc|apply IsS80.drewN|apply IsS80.drew|apply IsS80.set_1|apply IsS80.set_2)|exact HI0.out)) (rR HO263.out) (by decide)) hk (fun _ h=>h.2)) (fun _ h=>h.1));replace HK:=mk0 (KeepBut.trans (by repeat (first|(with_reducible first|exact HK.out|apply KeepBut.set_|apply keep_drewN|apply keep_drew|apply keep_alloc)|exact HK.out)) hk (.inl rfl));replace HB:=mk0 (hb);replace HI0:=mk0 (hi);(try clear hb);(try clear hk);(try clear hi);have p281:0 ≤ (t264:Int):=of_decide_eq_true (by first|(with_reducible assumption)|assumption);have q281:t264 < (t261.length:Int):=of_decide_eq_true (by first|(with_reducible assumption)|assumption);obtain⟨ad281,e281,hx281_0⟩:=Kd.at_int (Kd.R_reads' HO263.out).2.2 t264 p281 q281;cases e281;replace p281:=eq_true p281;replace q281:=eq_true q281;have p32:0 ≤ (t264:Int):=of_decide_eq_true (by first|(with_reducible assumption)|assumption);have q32:(t264:Int) < ((t261.length:Int):Int):=of_decide_eq_true (by first|(with_reducible assumption)|assumption);obtain⟨go32,co32,eo32,gb32,gl32,cl32,HG32⟩:=Kd.R_form HO263.out (by omega);(first|cases eo32|(injection eo32 with ea_ en_ ec_;(first|subst ea_|(injection ea_ with ea_;subst ea_));subst ec_;clear en_));have GB32:=mk0 gb32;have GG32:=mk0 HG32;clear gb32 gl32 HG32;(first|simp only [add_plain] at hx281_0|skip);obtain⟨hx32_0,hf32_0⟩:=Kd.R_celln 0 HO263.out (t264:Int) p32 q32;replace p32:=eq_true p32;replace q32:=eq_true q32;have n_:=mk0 (Kd.R_mono (ok':=(fun k_=>some k_ ≠ (.slice Ao34 t256.length co34:Value).ownBlock)) HO263.out (fun k_ hk=>hk.2));clear HO263;have HO263:=n_;clear n_;obtain⟨hy39_,hz39_⟩:=Kd.R_celln 0 HO263.out (t264:Int) (of_decide_eq_true (by first|(with_reducible assumption)|assumption)) (of_decide_eq_true (by first|(with_reducible assumption)|assumption));have HP39:=Kd.R_putg HO263.out (t264:Int) (wrap64 ((rd t261 t264) + 1)))|((with_reducible refine gate_store (t:=3) (p:=41) rfl ?_);refine store_event (t:=3) (p:=41) (v:=?vo_w40) (w1:=(w38.setCell ⟨go32,(t264:Int).toNat,none⟩ (.int .i64 (wrap64 ((rd t261 t264) + 1))))) ?hg ?ho ?hn ?hr ?_;(case ho=>rfl);(case hg=>rfl);(case hn=>rfl);(case hr=>first|(go_simp;done)|(go_simp;rfl));intro w40 hw;have hg:w38.grownBy w40 (some go32):=(by rw [hw];exact HP39.2);have hp_:Kd.R (Kd.int .i64) 3 w40 w.heap.size (fun k_=>some k_ ≠ (.slice Ao34 t256.length co34:Value).ownBlock) (.slice (some ⟨go32,0,none⟩) t261.length co36) y282:=(by rw [hw,Ny282.out];exact HP39.1);clear HP39;replace HI0:=mk0 (IsS80.grown (by repeat (first|(with_reducible first|exact HI0.out|apply IsS80.alloc|apply IsS80.drewN|apply IsS80.drew|apply IsS80.set_1|apply IsS80.set_2)|exact HI0.out)) hg (IsS80.own_ne HI0.out HO263.out (by decide)));replace HO258:=mk0 (Kd.R_after (v:=(.slice (some ⟨go32,0,none⟩) t261.length co36)) (v1:=(.slice (some ⟨go32,0,none⟩) t261.length co36)) (ok:=(fun _=>True)) (rR HO258.out) hg (.inl rfl));replace HB:=mk0 ((by rw [hw];exact sZ (HB.out) (Nat.le_trans HL.out GB32.out):Below w0.heap.size w0 w40));replace HK:=mk0 (KeepBut.trans (by repeat (first|(with_reducible first|exact HK.out|apply KeepBut.set_|apply keep_drewN|apply keep_drew|apply keep_alloc)|exact HK.out)) (KeepBut.of_grown hg g) (Kd.R_base2 HO263.out));replace HO263:=mk0 (hp_);clear hg hw hp_))
  go_ret
  exact⟨_,by first|rfl|(simp [errW_none,errW_some] <;> rfl)|(simp only [← hji5];first|rfl|(simp [errW_none,errW_some] <;> rfl))|(simp [*,errW_none,errW_some] <;> rfl),rR (Kd.R_mono HO263.out (fun _ hk=>trivial)),by repeat (first|(with_reducible first|exact HI0.out|apply IsS80.alloc|apply IsS80.drewN|apply IsS80.drew|apply IsS80.set_1|apply IsS80.set_2)|exact HI0.out),by repeat (first|(with_reducible first|exact HB.out|apply aZ|apply nZ|apply dZ|refine sZ ?_ (IsS80.ge HI0.out))|exact HB.out),by repeat (first|(with_reducible first|exact HK.out|apply KeepBut.set_|apply keep_drewN|apply keep_drew|apply keep_alloc)|exact HK.out)⟩
 rw [if_neg c29] at H
 have c29b0:(t267 == 1) = false:=beq_eq_false_iff_ne.mpr c29
 have c29b1:(t267 != 1) = true:=bne_iff_ne.mpr c29
 by_cases c41:t267 = 2
 rotate_left
 ·rw [if_neg c41] at H
  have c41b0:(t267 == 2) = false:=beq_eq_false_iff_ne.mpr c41
  have c41b1:(t267 != 2) = true:=bne_iff_ne.mpr c41
  simp only [Option.some.injEq,Prod.mk.injEq] at H
  obtain⟨rfl,rfl,rfl⟩:=H
  go_enter Try.func34,Try.ntmps34
  go_wp2_with (first|((with_reducible refine gate_callee (f:=48) rfl ?_);refine goesL_ (some 8) rfl rfl Try.func48 (by kernel_rfl) rfl #[.pointer (some ⟨g,0,none⟩)] rfl (by (try simp only [mA,mC,mN]);first|done|rfl|(simp only [List.length_drop,List.length_take];done)|(simp only [List.length_drop,List.length_take];rfl)) ?_;(with_reducible refine (spec_l01Cur_countsOf.calls k g s0_0 s0_1 s0_2 t256 t259 t260 w0 _ ?side1 ?side2 A2.out).mono ?_);(case side1=>repeat (first|(with_reducible first|exact HI0.out|apply IsS80.alloc|apply IsS80.drewN|apply IsS80.drew|apply IsS80.set_1|apply IsS80.set_2)|exact HI0.out));(case side2=>repeat (first|(with_reducible first|exact HB.out|apply aZ|apply nZ|apply dZ|refine sZ ?_ (IsS80.ge HI0.out))|exact HB.out));rintro e w60 ⟨v257,rfl,ho0,hi,hb,hk⟩;refine⟨_,rfl,?_⟩;have HO258:=mk0 (Kd.R_lower ho0 (keep_size (w:=w) (g:=g) (row:=none) (by repeat (first|(with_reducible first|exact HK.out|apply KeepBut.set_|apply keep_drewN|apply keep_drew|apply keep_alloc)|exact HK.out))));replace HK:=mk0 (KeepBut.trans (by repeat (first|(with_reducible first|exact HK.out|apply KeepBut.set_|apply keep_drewN|apply keep_drew|apply keep_alloc)|exact HK.out)) hk (.inl rfl));replace HB:=mk0 (hb);replace HI0:=mk0 (hi);(try clear hb);(try clear hk);(try clear hi);(try clear ho0);obtain⟨Ao61,co61,eo61⟩:=Kd.R_slice HO258.out;subst eo61)|((with_reducible refine gate_callee (f:=21) rfl ?_);refine goesL_ (some 9) rfl rfl Try.func21 (by kernel_rfl) rfl #[.slice Ao61 t256.length co61] rfl (by (try simp only [mA,mC,mN]);first|done|rfl|(simp only [List.length_drop,List.length_take];done)|(simp only [List.length_drop,List.length_take];rfl)) ?_;(with_reducible refine (spec_HuffLens.calls k _ _ t256 t261 _ ?side1 ?side2 A3.out).mono ?_);(case side1=>exact kC (Kd.R_reads' HO258.out).2.2);(case side2=>exact (Kd.R_reads' HO258.out).2.1);rintro e w62 ⟨v262,rfl,ho0,hb⟩;refine⟨_,rfl,?_⟩;have HO263:=mk0 (Kd.R_lower (Kd.R_new' ho0 (Kd.R_lt (rR HO258.out))) (keep_size (w:=w) (g:=g) (row:=none) (by repeat (first|(with_reducible first|exact HK.out|apply KeepBut.set_|apply keep_drewN|apply keep_drew|apply keep_alloc)|exact HK.out))));replace HO258:=mk0 (Kd.R_elder' (rR HO258.out) (Kd.R_base ho0) hb);replace HK:=mk0 (KeepBut.trans (by repeat (first|(with_reducible first|exact HK.out|apply KeepBut.set_|apply keep_drewN|apply keep_drew|apply keep_alloc)|exact HK.out)) (KeepBut.of_below hb g none) (.inl rfl));replace HB:=mk0 (below_step (by repeat (first|(with_reducible first|exact HB.out|apply aZ|apply nZ|apply dZ|refine sZ ?_ (IsS80.ge HI0.out))|exact HB.out)) hb);replace HI0:=mk0 (IsS80.below (by repeat (first|(with_reducible first|exact HI0.out|apply IsS80.alloc|apply IsS80.drewN|apply IsS80.drew|apply IsS80.set_1|apply IsS80.set_2)|exact HI0.out)) hb);(try clear hb);(try clear ho0);obtain⟨Ao63,co63,eo63⟩:=Kd.R_slice HO263.out;subst eo63)|((with_reducible refine gate_callee (f:=65) rfl ?_);refine goesL_ (some 17) rfl rfl Try.func65 (by kernel_rfl) rfl #[.pointer (some ⟨g,0,none⟩),.int .i64 ji5] rfl (by (try simp only [mA,mC,mN]);first|done|(simp only [hji5];rfl)|rfl|(simp only [List.length_drop,List.length_take];done)|(simp only [List.length_drop,List.length_take];rfl)) ?_;(with_reducible refine (spec_l01Cur_pick.calls g s0_0 t259 t260 ji5 t264 t265 t266 w0 _ ?side1 ?side2 A6.out).mono ?_);(case side1=>repeat (first|(with_reducible first|exact HI0.out|apply IsS80.alloc|apply IsS80.drewN|apply IsS80.drew|apply IsS80.set_1|apply IsS80.set_2)|exact HI0.out));(case side2=>repeat (first|(with_reducible first|exact HB.out|apply aZ|apply nZ|apply dZ|refine sZ ?_ (IsS80.ge HI0.out))|exact HB.out));rintro e w64 ⟨rfl,hi,hb,hk⟩;refine⟨_,rfl,?_⟩;replace HO258:=mk0 (Kd.R_mono (Kd.R_keep (IsS80.apart (show IsS80 w0 _ g s0_0 t259 t260 from by repeat (first|(with_reducible first|exact HI0.out|apply IsS80.alloc|apply IsS80.drewN|apply IsS80.drew|apply IsS80.set_1|apply IsS80.set_2)|exact HI0.out)) (rR HO258.out) (by decide)) hk (fun _ h=>h.2)) (fun _ h=>h.1));replace HO263:=mk0 (Kd.R_mono (Kd.R_keep (IsS80.apart (show IsS80 w0 _ g s0_0 t259 t260 from by repeat (first|(with_reducible first|exact HI0.out|apply IsS80.alloc|apply IsS80.drewN|apply IsS80.drew|apply IsS80.set_1|apply IsS80.set_2)|exact HI0.out)) (rR HO263.out) (by decide)) hk (fun _ h=>h.2)) (fun _ h=>h.1));replace HK:=mk0 (KeepBut.trans (by repeat (first|(with_reducible first|exact HK.out|apply KeepBut.set_|apply keep_drewN|apply keep_drew|apply keep_alloc)|exact HK.out)) hk (.inl rfl));replace HB:=mk0 (hb);replace HI0:=mk0 (hi);(try clear hb);(try clear hk);(try clear hi))|((with_reducible refine gate_callee (f:=65) rfl ?_);refine goesL_ (some 19) rfl rfl Try.func65 (by kernel_rfl) rfl #[.pointer (some ⟨g,0,none⟩),.int .i64 10] rfl (by (try simp only [mA,mC,mN]);first|done|rfl|(simp only [List.length_drop,List.length_take];done)|(simp only [List.length_drop,List.length_take];rfl)) ?_;(with_reducible refine (spec_l01Cur_pick.calls g s0_0 t265 t266 10 t267 t268 t269 w0 _ ?side1 ?side2 A7.out).mono ?_);(case side1=>repeat (first|(with_reducible first|exact HI0.out|apply IsS80.alloc|apply IsS80.drewN|apply IsS80.drew|apply IsS80.set_1|apply IsS80.set_2)|exact HI0.out));(case side2=>repeat (first|(with_reducible first|exact HB.out|apply aZ|apply nZ|apply dZ|refine sZ ?_ (IsS80.ge HI0.out))|exact HB.out));rintro e w65 ⟨rfl,hi,hb,hk⟩;refine⟨_,rfl,?_⟩;replace HO258:=mk0 (Kd.R_mono (Kd.R_keep (IsS80.apart (show IsS80 w0 _ g s0_0 t265 t266 from by repeat (first|(with_reducible first|exact HI0.out|apply IsS80.alloc|apply IsS80.drewN|apply IsS80.drew|apply IsS80.set_1|apply IsS80.set_2)|exact HI0.out)) (rR HO258.out) (by decide)) hk (fun _ h=>h.2)) (fun _ h=>h.1));replace HO263:=mk0 (Kd.R_mono (Kd.R_keep (IsS80.apart (show IsS80 w0 _ g s0_0 t265 t266 from by repeat (first|(with_reducible first|exact HI0.out|apply IsS80.alloc|apply IsS80.drewN|apply IsS80.drew|apply IsS80.set_1|apply IsS80.set_2)|exact HI0.out)) (rR HO263.out) (by decide)) hk (fun _ h=>h.2)) (fun _ h=>h.1));replace HK:=mk0 (KeepBut.trans (by repeat (first|(with_reducible first|exact HK.out|apply KeepBut.set_|apply keep_drewN|apply keep_drew|apply keep_alloc)|exact HK.out)) hk (.inl rfl));replace HB:=mk0 (hb);replace HI0:=mk0 (hi);(try clear hb);(try clear hk);(try clear hi)))
  go_ret
  exact⟨_,by first|rfl|(simp [errW_none,errW_some] <;> rfl)|(simp only [← hji5];first|rfl|(simp [errW_none,errW_some] <;> rfl))|(simp [*,errW_none,errW_some] <;> rfl),rR (Kd.R_mono HO263.out (fun _ hk=>trivial)),by repeat (first|(with_reducible first|exact HI0.out|apply IsS80.alloc|apply IsS80.drewN|apply IsS80.drew|apply IsS80.set_1|apply IsS80.set_2)|exact HI0.out),by repeat (first|(with_reducible first|exact HB.out|apply aZ|apply nZ|apply dZ|refine sZ ?_ (IsS80.ge HI0.out))|exact HB.out),by repeat (first|(with_reducible first|exact HK.out|apply KeepBut.set_|apply keep_drewN|apply keep_drew|apply keep_alloc)|exact HK.out)⟩
 rw [if_pos c41] at H
 have c41b0:(t267 == 2) = true:=beq_iff_eq.mpr c41
 have c41b1:(t267 != 2) = false:=bne_eq_false_iff_eq.mpr c41
 clear c41
 replace H:=Option.bind_eq_some_iff.mp H
 obtain⟨⟨t283,t284,t285⟩,A420,H⟩:=H
 replace H:(if 0 ≤ t264 then (if t264 < (t261.length:Int) then (if 0 ≤ t283 then (if t283 < (t261.length:Int) then (some (((t261.set (t264:Int).toNat (rd t261 t283)).set (t283:Int).toNat (rd t261 t264)),t284,t285)) else (none)) else (none)) else (none)) else (none)) = some (r1,r2,r3):=H
 have A42:=mk0 A420
 clear A420
 by_cases c43:0 ≤ t264
 rotate_left
 ·rw [if_neg c43] at H
  exact absurd H (by simp)
 rw [if_pos c43] at H
 have c43b0:decide (0 ≤ t264) = true:=decide_eq_true c43
 clear c43
 by_cases c44:t264 < (t261.length:Int)
 rotate_left
 ·rw [if_neg c44] at H
  exact absurd H (by simp)
 rw [if_pos c44] at H
 have c44b0:decide (t264 < (t261.length:Int)) = true:=decide_eq_true c44
 clear c44
 by_cases c45:0 ≤ t283
 rotate_left
 ·rw [if_neg c45] at H
  exact absurd H (by simp)
 rw [if_pos c45] at H
 have c45b0:decide (0 ≤ t283) = true:=decide_eq_true c45
 clear c45
 by_cases c46:t283 < (t261.length:Int)
 rotate_left
 ·rw [if_neg c46] at H
  exact absurd H (by simp)
 rw [if_pos c46] at H
 have c46b0:decide (t283 < (t261.length:Int)) = true:=decide_eq_true c46
 clear c46
 obtain⟨y288,hy288⟩:∃ y_:List Int,y_ = (t261.set (t264:Int).toNat (rd t261 t283)):=⟨_,rfl⟩
 replace H:(some ((y288.set (t283:Int).toNat (rd t261 t264)),t284,t285)) = some (r1,r2,r3):=by first|(rw [hy288];with_reducible exact H)|(have H2_:=(Option.bind_some _ _).symm.trans H;rw [hy288];with_reducible exact H2_)|(have H2_:=(Option.bind_some _ _).symm.trans H;with_reducible exact H2_)|with_reducible exact H|(rw [hy288];exact H)|exact H
 have Ny288:=mk0 hy288
 clear hy288
 obtain⟨y289,hy289⟩:∃ y_:List Int,y_ = (y288.set (t283:Int).toNat (rd t261 t264)):=⟨_,rfl⟩
 replace H:(some (y289,t284,t285)) = some (r1,r2,r3):=by first|(rw [hy289];with_reducible exact H)|(have H2_:=(Option.bind_some _ _).symm.trans H;rw [hy289];with_reducible exact H2_)|(have H2_:=(Option.bind_some _ _).symm.trans H;with_reducible exact H2_)|with_reducible exact H|(rw [hy289];exact H)|exact H
 have Ny289:=mk0 hy289
 clear hy289
 simp only [Option.some.injEq,Prod.mk.injEq] at H
 obtain⟨rfl,rfl,rfl⟩:=H
 go_enter Try.func34,Try.ntmps34
 go_wp2_with (first|((with_reducible refine gate_callee (f:=48) rfl ?_);refine goesL_ (some 8) rfl rfl Try.func48 (by kernel_rfl) rfl #[.pointer (some ⟨g,0,none⟩)] rfl (by (try simp only [mA,mC,mN]);first|done|rfl|(simp only [List.length_drop,List.length_take];done)|(simp only [List.length_drop,List.length_take];rfl)) ?_;(with_reducible refine (spec_l01Cur_countsOf.calls k g s0_0 s0_1 s0_2 t256 t259 t260 w0 _ ?side1 ?side2 A2.out).mono ?_);(case side1=>repeat (first|(with_reducible first|exact HI0.out|apply IsS80.alloc|apply IsS80.drewN|apply IsS80.drew|apply IsS80.set_1|apply IsS80.set_2)|exact HI0.out));(case side2=>repeat (first|(with_reducible first|exact HB.out|apply aZ|apply nZ|apply dZ|refine sZ ?_ (IsS80.ge HI0.out))|exact HB.out));rintro e w49 ⟨v257,rfl,ho0,hi,hb,hk⟩;refine⟨_,rfl,?_⟩;have HO258:=mk0 (Kd.R_lower ho0 (keep_size (w:=w) (g:=g) (row:=none) (by repeat (first|(with_reducible first|exact HK.out|apply KeepBut.set_|apply keep_drewN|apply keep_drew|apply keep_alloc)|exact HK.out))));replace HK:=mk0 (KeepBut.trans (by repeat (first|(with_reducible first|exact HK.out|apply KeepBut.set_|apply keep_drewN|apply keep_drew|apply keep_alloc)|exact HK.out)) hk (.inl rfl));replace HB:=mk0 (hb);replace HI0:=mk0 (hi);(try clear hb);(try clear hk);(try clear hi);(try clear ho0);obtain⟨Ao50,co50,eo50⟩:=Kd.R_slice HO258.out;subst eo50)|((with_reducible refine gate_callee (f:=21) rfl ?_);refine goesL_ (some 9) rfl rfl Try.func21 (by kernel_rfl) rfl #[.slice Ao50 t256.length co50] rfl (by (try simp only [mA,mC,mN]);first|done|rfl|(simp only [List.length_drop,List.length_take];done)|(simp only [List.length_drop,List.length_take];rfl)) ?_;(with_reducible refine (spec_HuffLens.calls k _ _ t256 t261 _ ?side1 ?side2 A3.out).mono ?_);(case side1=>exact kC (Kd.R_reads' HO258.out).2.2);(case side2=>exact (Kd.R_reads' HO258.out).2.1);rintro e w51 ⟨v262,rfl,ho0,hb⟩;refine⟨_,rfl,?_⟩;have HO263:=mk0 (Kd.R_lower (Kd.R_new' ho0 (Kd.R_lt (rR HO258.out))) (keep_size (w:=w) (g:=g) (row:=none) (by repeat (first|(with_reducible first|exact HK.out|apply KeepBut.set_|apply keep_drewN|apply keep_drew|apply keep_alloc)|exact HK.out))));replace HO258:=mk0 (Kd.R_elder' (rR HO258.out) (Kd.R_base ho0) hb);replace HK:=mk0 (KeepBut.trans (by repeat (first|(with_reducible first|exact HK.out|apply KeepBut.set_|apply keep_drewN|apply keep_drew|apply keep_alloc)|exact HK.out)) (KeepBut.of_below hb g none) (.inl rfl));replace HB:=mk0 (below_step (by repeat (first|(with_reducible first|exact HB.out|apply aZ|apply nZ|apply dZ|refine sZ ?_ (IsS80.ge HI0.out))|exact HB.out)) hb);replace HI0:=mk0 (IsS80.below (by repeat (first|(with_reducible first|exact HI0.out|apply IsS80.alloc|apply IsS80.drewN|apply IsS80.drew|apply IsS80.set_1|apply IsS80.set_2)|exact HI0.out)) hb);(try clear hb);(try clear ho0);obtain⟨Ao52,co52,eo52⟩:=Kd.R_slice HO263.out;subst eo52)|((with_reducible refine gate_callee (f:=65) rfl ?_);refine goesL_ (some 17) rfl rfl Try.func65 (by kernel_rfl) rfl #[.pointer (some ⟨g,0,none⟩),.int .i64 ji5] rfl (by (try simp only [mA,mC,mN]);first|done|(simp only [hji5];rfl)|rfl|(simp only [List.length_drop,List.length_take];done)|(simp only [List.length_drop,List.length_take];rfl)) ?_;(with_reducible refine (spec_l01Cur_pick.calls g s0_0 t259 t260 ji5 t264 t265 t266 w0 _ ?side1 ?side2 A6.out).mono ?_);(case side1=>repeat (first|(with_reducible first|exact HI0.out|apply IsS80.alloc|apply IsS80.drewN|apply IsS80.drew|apply IsS80.set_1|apply IsS80.set_2)|exact HI0.out));(case side2=>repeat (first|(with_reducible first|exact HB.out|apply aZ|apply nZ|apply dZ|refine sZ ?_ (IsS80.ge HI0.out))|exact HB.out));rintro e w53 ⟨rfl,hi,hb,hk⟩;refine⟨_,rfl,?_⟩;replace HO258:=mk0 (Kd.R_mono (Kd.R_keep (IsS80.apart (show IsS80 w0 _ g s0_0 t259 t260 from by repeat (first|(with_reducible first|exact HI0.out|apply IsS80.alloc|apply IsS80.drewN|apply IsS80.drew|apply IsS80.set_1|apply IsS80.set_2)|exact HI0.out)) (rR HO258.out) (by decide)) hk (fun _ h=>h.2)) (fun _ h=>h.1));replace HO263:=mk0 (Kd.R_mono (Kd.R_keep (IsS80.apart (show IsS80 w0 _ g s0_0 t259 t260 from by repeat (first|(with_reducible first|exact HI0.out|apply IsS80.alloc|apply IsS80.drewN|apply IsS80.drew|apply IsS80.set_1|apply IsS80.set_2)|exact HI0.out)) (rR HO263.out) (by decide)) hk (fun _ h=>h.2)) (fun _ h=>h.1));replace HK:=mk0 (KeepBut.trans (by repeat (first|(with_reducible first|exact HK.out|apply KeepBut.set_|apply keep_drewN|apply keep_drew|apply keep_alloc)|exact HK.out)) hk (.inl rfl));replace HB:=mk0 (hb);replace HI0:=mk0 (hi);(try clear hb);(try clear hk);(try clear hi))|((with_reducible refine gate_callee (f:=65) rfl ?_);refine goesL_ (some 19) rfl rfl Try.func65 (by kernel_rfl) rfl #[.pointer (some ⟨g,0,none⟩),.int .i64 10] rfl (by (try simp only [mA,mC,mN]);first|done|rfl|(simp only [List.length_drop,List.length_take];done)|(simp only [List.length_drop,List.length_take];rfl)) ?_;(with_reducible refine (spec_l01Cur_pick.calls g s0_0 t265 t266 10 t267 t268 t269 w0 _ ?side1 ?side2 A7.out).mono ?_);(case side1=>repeat (first|(with_reducible first|exact HI0.out|apply IsS80.alloc|apply IsS80.drewN|apply IsS80.drew|apply IsS80.set_1|apply IsS80.set_2)|exact HI0.out));(case side2=>repeat (first|(with_reducible first|exact HB.out|apply aZ|apply nZ|apply dZ|refine sZ ?_ (IsS80.ge HI0.out))|exact HB.out));rintro e w54 ⟨rfl,hi,hb,hk⟩;refine⟨_,rfl,?_⟩;replace HO258:=mk0 (Kd.R_mono (Kd.R_keep (IsS80.apart (show IsS80 w0 _ g s0_0 t265 t266 from by repeat (first|(with_reducible first|exact HI0.out|apply IsS80.alloc|apply IsS80.drewN|apply IsS80.drew|apply IsS80.set_1|apply IsS80.set_2)|exact HI0.out)) (rR HO258.out) (by decide)) hk (fun _ h=>h.2)) (fun _ h=>h.1));replace HO263:=mk0 (Kd.R_mono (Kd.R_keep (IsS80.apart (show IsS80 w0 _ g s0_0 t265 t266 from by repeat (first|(with_reducible first|exact HI0.out|apply IsS80.alloc|apply IsS80.drewN|apply IsS80.drew|apply IsS80.set_1|apply IsS80.set_2)|exact HI0.out)) (rR HO263.out) (by decide)) hk (fun _ h=>h.2)) (fun _ h=>h.1));replace HK:=mk0 (KeepBut.trans (by repeat (first|(with_reducible first|exact HK.out|apply KeepBut.set_|apply keep_drewN|apply keep_drew|apply keep_alloc)|exact HK.out)) hk (.inl rfl));replace HB:=mk0 (hb);replace HI0:=mk0 (hi);(try clear hb);(try clear hk);(try clear hi))|((with_reducible refine gate_callee (f:=65) rfl ?_);refine goesL_ (some 48) rfl rfl Try.func65 (by kernel_rfl) rfl #[.pointer (some ⟨g,0,none⟩),.int .i64 ji5] rfl (by (try simp only [mA,mC,mN]);first|done|(simp only [hji5];rfl)|rfl|(simp only [List.length_drop,List.length_take];done)|(simp only [List.length_drop,List.length_take];rfl)) ?_;(with_reducible refine (spec_l01Cur_pick.calls g s0_0 t268 t269 ji5 t283 t284 t285 w0 _ ?side1 ?side2 A42.out).mono ?_);(case side1=>repeat (first|(with_reducible first|exact HI0.out|apply IsS80.alloc|apply IsS80.drewN|apply IsS80.drew|apply IsS80.set_1|apply IsS80.set_2)|exact HI0.out));(case side2=>repeat (first|(with_reducible first|exact HB.out|apply aZ|apply nZ|apply dZ|refine sZ ?_ (IsS80.ge HI0.out))|exact HB.out));rintro e w55 ⟨rfl,hi,hb,hk⟩;refine⟨_,rfl,?_⟩;replace HO258:=mk0 (Kd.R_mono (Kd.R_keep (IsS80.apart (show IsS80 w0 _ g s0_0 t268 t269 from by repeat (first|(with_reducible first|exact HI0.out|apply IsS80.alloc|apply IsS80.drewN|apply IsS80.drew|apply IsS80.set_1|apply IsS80.set_2)|exact HI0.out)) (rR HO258.out) (by decide)) hk (fun _ h=>h.2)) (fun _ h=>h.1));replace HO263:=mk0 (Kd.R_mono (Kd.R_keep (IsS80.apart (show IsS80 w0 _ g s0_0 t268 t269 from by repeat (first|(with_reducible first|exact HI0.out|apply IsS80.alloc|apply IsS80.drewN|apply IsS80.drew|apply IsS80.set_1|apply IsS80.set_2)|exact HI0.out)) (rR HO263.out) (by decide)) hk (fun _ h=>h.2)) (fun _ h=>h.1));replace HK:=mk0 (KeepBut.trans (by repeat (first|(with_reducible first|exact HK.out|apply KeepBut.set_|apply keep_drewN|apply keep_drew|apply keep_alloc)|exact HK.out)) hk (.inl rfl));replace HB:=mk0 (hb);replace HI0:=mk0 (hi);(try clear hb);(try clear hk);(try clear hi);have p286:0 ≤ (t264:Int):=of_decide_eq_true (by first|(with_reducible assumption)|assumption);have q286:t264 < (t261.length:Int):=of_decide_eq_true (by first|(with_reducible assumption)|assumption);obtain⟨ad286,e286,hx286_0⟩:=Kd.at_int (Kd.R_reads' HO263.out).2.2 t264 p286 q286;cases e286;replace p286:=eq_true p286;replace q286:=eq_true q286;have p287:0 ≤ (t283:Int):=of_decide_eq_true (by first|(with_reducible assumption)|assumption);have q287:t283 < (t261.length:Int):=of_decide_eq_true (by first|(with_reducible assumption)|assumption);obtain⟨ad287,e287,hx287_0⟩:=Kd.at_int (Kd.R_reads' HO263.out).2.2 t283 p287 q287;obtain rfl:ad286 = ad287:=(by injection e287);replace p287:=eq_true p287;replace q287:=eq_true q287;have p47:0 ≤ (t264:Int):=of_decide_eq_true (by first|(with_reducible assumption)|assumption);have q47:(t264:Int) < ((t261.length:Int):Int):=of_decide_eq_true (by first|(with_reducible assumption)|assumption);obtain⟨go47,co47,eo47,gb47,gl47,cl47,HG47⟩:=Kd.R_form HO263.out (by omega);(first|cases eo47|(injection eo47 with ea_ en_ ec_;(first|subst ea_|(injection ea_ with ea_;subst ea_));subst ec_;clear en_));have GB47:=mk0 gb47;have GG47:=mk0 HG47;clear gb47 gl47 HG47;(first|simp only [add_plain] at hx286_0|skip);(first|simp only [add_plain] at hx287_0|skip);obtain⟨hx47_0,hf47_0⟩:=Kd.R_celln 0 HO263.out (t264:Int) p47 q47;replace p47:=eq_true p47;replace q47:=eq_true q47;have n_:=mk0 (Kd.R_mono (ok':=(fun k_=>some k_ ≠ (.slice Ao50 t256.length co50:Value).ownBlock)) HO263.out (fun k_ hk=>hk.2));clear HO263;have HO263:=n_;clear n_;obtain⟨hy56_,hz56_⟩:=Kd.R_celln 0 HO263.out (t264:Int) (of_decide_eq_true (by first|(with_reducible assumption)|assumption)) (of_decide_eq_true (by first|(with_reducible assumption)|assumption));have HP56:=Kd.R_putg HO263.out (t264:Int) (rd t261 t283))|((with_reducible refine gate_store (t:=3) (p:=59) rfl ?_);refine store_event (t:=3) (p:=59) (v:=?vo_w57) (w1:=(w55.setCell ⟨go47,(t264:Int).toNat,none⟩ (.int .i64 (rd t261 t283)))) ?hg ?ho ?hn ?hr ?_;(case ho=>rfl);(case hg=>rfl);(case hn=>rfl);(case hr=>first|(go_simp;done)|(go_simp;rfl));intro w57 hw;have hg:w55.grownBy w57 (some go47):=(by rw [hw];exact HP56.2);have hp_:Kd.R (Kd.int .i64) 3 w57 w.heap.size (fun k_=>some k_ ≠ (.slice Ao50 t256.length co50:Value).ownBlock) (.slice (some ⟨go47,0,none⟩) t261.length co52) y288:=(by rw [hw,Ny288.out];exact HP56.1);clear HP56;replace HI0:=mk0 (IsS80.grown (by repeat (first|(with_reducible first|exact HI0.out|apply IsS80.alloc|apply IsS80.drewN|apply IsS80.drew|apply IsS80.set_1|apply IsS80.set_2)|exact HI0.out)) hg (IsS80.own_ne HI0.out HO263.out (by decide)));replace HO258:=mk0 (Kd.R_after (v:=(.slice (some ⟨go47,0,none⟩) t261.length co52)) (v1:=(.slice (some ⟨go47,0,none⟩) t261.length co52)) (ok:=(fun _=>True)) (rR HO258.out) hg (.inl rfl));replace HB:=mk0 ((by rw [hw];exact sZ (HB.out) (Nat.le_trans HL.out GB47.out):Below w0.heap.size w0 w57));replace HK:=mk0 (KeepBut.trans (by repeat (first|(with_reducible first|exact HK.out|apply KeepBut.set_|apply keep_drewN|apply keep_drew|apply keep_alloc)|exact HK.out)) (KeepBut.of_grown hg g) (Kd.R_base2 HO263.out));replace HO263:=mk0 (hp_);clear hg hw hp_;have p48:0 ≤ (t283:Int):=of_decide_eq_true (by first|(with_reducible assumption)|assumption);have q48:(t283:Int) < ((t261.length:Int):Int):=of_decide_eq_true (by first|(with_reducible assumption)|assumption);obtain⟨hx48_0,hf48_0⟩:=Kd.R_celln 0 HO263.out (t283:Int) p48 q48;replace p48:=eq_true p48;replace q48:=eq_true q48;obtain⟨hy58_,hz58_⟩:=Kd.R_celln 0 HO263.out (t283:Int) (of_decide_eq_true (by first|(with_reducible assumption)|assumption)) (of_decide_eq_true (by first|(with_reducible assumption)|assumption));have HP58:=Kd.R_putg HO263.out (t283:Int) (rd t261 t264))|((with_reducible refine gate_store (t:=3) (p:=63) rfl ?_);refine store_event (t:=3) (p:=63) (v:=?vo_w59) (w1:=(w57.setCell ⟨go47,(t283:Int).toNat,none⟩ (.int .i64 (rd t261 t264)))) ?hg ?ho ?hn ?hr ?_;(case ho=>rfl);(case hg=>rfl);(case hn=>rfl);(case hr=>first|(go_simp;done)|(go_simp;rfl));intro w59 hw;have hg:w57.grownBy w59 (some go47):=(by rw [hw];exact HP58.2);have hp_:Kd.R (Kd.int .i64) 3 w59 w.heap.size (fun k_=>some k_ ≠ (.slice Ao50 t256.length co50:Value).ownBlock) (.slice (some ⟨go47,0,none⟩) t261.length co52) y289:=(by rw [hw,Ny289.out];exact HP58.1);clear HP58;replace HI0:=mk0 (IsS80.grown (by repeat (first|(with_reducible first|exact HI0.out|apply IsS80.alloc|apply IsS80.drewN|apply IsS80.drew|apply IsS80.set_1|apply IsS80.set_2)|exact HI0.out)) hg (IsS80.own_ne HI0.out HO263.out (by decide)));replace HO258:=mk0 (Kd.R_after (v:=(.slice (some ⟨go47,0,none⟩) t261.length co52)) (v1:=(.slice (some ⟨go47,0,none⟩) t261.length co52)) (ok:=(fun _=>True)) (rR HO258.out) hg (.inl rfl));replace HB:=mk0 ((by rw [hw];exact sZ (HB.out) (Nat.le_trans HL.out GB47.out):Below w0.heap.size w0 w59));replace HK:=mk0 (KeepBut.trans (by repeat (first|(with_reducible first|exact HK.out|apply KeepBut.set_|apply keep_drewN|apply keep_drew|apply keep_alloc)|exact HK.out)) (KeepBut.of_grown hg g) (Kd.R_base2 HO263.out));replace HO263:=mk0 (hp_);clear hg hw hp_))
 go_ret
 exact⟨_,by first|rfl|(simp [errW_none,errW_some] <;> rfl)|(simp only [← hji5];first|rfl|(simp [errW_none,errW_some] <;> rfl))|(simp [*,errW_none,errW_some] <;> rfl),rR (Kd.R_mono HO263.out (fun _ hk=>trivial)),by repeat (first|(with_reducible first|exact HI0.out|apply IsS80.alloc|apply IsS80.drewN|apply IsS80.drew|apply IsS80.set_1|apply IsS80.set_2)|exact HI0.out),by repeat (first|(with_reducible first|exact HB.out|apply aZ|apply nZ|apply dZ|refine sZ ?_ (IsS80.ge HI0.out))|exact HB.out),by repeat (first|(with_reducible first|exact HK.out|apply KeepBut.set_|apply keep_drewN|apply keep_drew|apply keep_alloc)|exact HK.out)⟩
/-! ### spec_DrawHuffCodes: function 9 -/
def spec_DrawHuffCodes.f (k : Nat) (l0 : List Int) : Option (List Int) := (spec_l01Open.f l0).bind fun bt290 => ((spec_l01Cur_lensOf.f k bt290.1 bt290.2.1 bt290.2.2).bind fun bt294 => (some bt294.1))
theorem spec_DrawHuffCodes.mono : ∀ a0 k, LeO (spec_DrawHuffCodes.f k a0) (spec_DrawHuffCodes.f (k + 1) a0) := by
 intro a0 k
 unfold spec_DrawHuffCodes.f
 repeat' first|(with_reducible first|exact spec_l01Cur_lensOf.mono _ _ _ _|exact LeO.refl _|exact LeO.none _|refine LeO.ite ?_ ?_|refine LeO.bind ?_ (fun _ => ?_))|exact LeO.none _|refine LeO.ite ?_ ?_|refine LeO.bind ?_ (fun _ => ?_)
set_option maxHeartbeats 8000000 in
set_option maxRecDepth 100000 in
theorem spec_DrawHuffCodes.calls (k : Nat) (A0 : Option Addr) (c0 : Nat) (l0 : List Int) (r : List Int) (w : World) (hr0 : Kd.C (Kd.int .u8) w A0 l0.length l0) (hc0 : l0.length ≤ c0) (h : spec_DrawHuffCodes.f k l0 = some r) :
  Calls Try.prog 9 #[.slice A0 l0.length c0] w fun e w' => ∃ v0_ : Value, e = .returned (v0_) ∧ Kd.R (Kd.int .i64) 3 w' w.heap.size (fun _ => True) v0_ r ∧ Below w.heap.size w w' := by
 have HR0:=mk0 hr0
 have HC0:=mk0 hc0
 clear hr0 hc0
 have HB:=mk0 (Below.refl w.heap.size w)
 have H:((spec_l01Open.f l0).bind fun bt290=>((spec_l01Cur_lensOf.f k bt290.1 bt290.2.1 bt290.2.2).bind fun bt294=>(some bt294.1))) = some r:=h
 clear h
 replace H:=Option.bind_eq_some_iff.mp H
 obtain⟨⟨t290,t291,t292⟩,A20,H⟩:=H
 replace H:((spec_l01Cur_lensOf.f k t290 t291 t292).bind fun bt294=>(some bt294.1)) = some r:=H
 have A2:=mk0 A20
 clear A20
 replace H:=Option.bind_eq_some_iff.mp H
 obtain⟨⟨t294,t297,t298⟩,A30,H⟩:=H
 replace H:(some t294) = some r:=H
 have A3:=mk0 A30
 clear A30
 obtain rfl:=Option.some.inj H
 go_enter Try.func9,Try.ntmps9
 go_wp2_with (first|((with_reducible refine gate_callee (f:=33) rfl ?_);refine goesL_ (some 5) rfl rfl Try.func33 (by kernel_rfl) rfl #[.slice A0 l0.length c0] rfl (by (try simp only [mA,mC,mN]);first|done|rfl|(simp only [List.length_drop,List.length_take];done)|(simp only [List.length_drop,List.length_take];rfl)) ?_;(with_reducible refine (spec_l01Open.calls _ _ l0 t290 t291 t292 w _ ?side1 ?side2 ?side3 A2.out).mono ?_);(case side1=>repeat (first|(with_reducible first|exact HB.out|apply aZ|apply nZ|apply dZ)|exact HB.out));(case side2=>exact HR0.out);(case side3=>exact HC0.out);rintro e w4 ⟨g293,rfl,hi,hb,hb2⟩;refine⟨_,rfl,?_⟩;replace HB:=mk0 (hb);have HI293:=mk0 (hi);(try clear hb);(try clear hb2);(try clear hi))|((with_reducible refine gate_callee (f:=34) rfl ?_);refine goesL_ (some 7) rfl rfl Try.func34 (by kernel_rfl) rfl #[.pointer (some ⟨g293,0,none⟩)] rfl (by (try simp only [mA,mC,mN]);first|done|rfl|(simp only [List.length_drop,List.length_take];done)|(simp only [List.length_drop,List.length_take];rfl)) ?_;(with_reducible refine (spec_l01Cur_lensOf.calls k g293 t290 t291 t292 t294 t297 t298 w _ ?side1 ?side2 A3.out).mono ?_);(case side1=>repeat (first|(with_reducible first|exact HI293.out|apply IsS80.alloc|apply IsS80.drewN|apply IsS80.drew|apply IsS80.set_1|apply IsS80.set_2)|exact HI293.out));(case side2=>repeat (first|(with_reducible first|exact HB.out|apply aZ|apply nZ|apply dZ|refine sZ ?_ (IsS80.ge HI293.out))|exact HB.out));rintro e w5 ⟨v295,rfl,ho0,hi,hb,hk⟩;refine⟨_,rfl,?_⟩;have HO296:=mk0 (Kd.R_lower ho0 (below_size (by repeat (first|(with_reducible first|exact HB.out|apply aZ|apply nZ|apply dZ|refine sZ ?_ (IsS80.ge HI293.out))|exact HB.out))));replace HB:=mk0 (hb);replace HI293:=mk0 (hi);(try clear hb);(try clear hk);(try clear hi);(try clear ho0)))
 go_ret
 exact⟨_,by first|rfl|(simp [errW_none,errW_some] <;> rfl)|(simp [*,errW_none,errW_some] <;> rfl),rR HO296.out,by repeat (first|(with_reducible first|exact HB.out|apply aZ|apply nZ|apply dZ|refine sZ ?_ (IsS80.ge HI293.out))|exact HB.out)⟩

-- NOT PRINTED: function 77 (slices_IndexFunc_int_int)

-- NOT PRINTED: function 72 (slices_ContainsFunc_int_int)

-- NOT PRINTED: function 53 (impl_areAll_int)

end Go.Proofs.Ytgjmmegmkdklbaa.QFnPrefix
