-- A walk, made by walk.py, a program of this session's.
import Derived.Test.YtgjmmegmkdklbaaQFnHuffBestx0
import Derived.Test.YtgjmmegmkdklbaaQFnHuffBestx2
import Derived.Test.YtgjmmegmkdklbaaQFnHuffBestx3
namespace Go.Proofs.Ytgjmmegmkdklbaa.QFnHuffBest
open Go.RowKit Go.Proofs.YtgjmmegmkdklbaaW.PrintWords Go.Proofs.YtgjmmegmkdklbaaW.PrintLast Go.Proofs.YtgjmmegmkdklbaaW.PrintMore
attribute [local go_sem] max2_int min2_int max_two min_two max_three min_three max_four min_four   -- for this text's walks alone
set_option linter.unusedVariables false
set_option linter.unusedSimpArgs false

/-! ### spec_l01Cur_lensOf: function 34 -/
def spec_l01Cur_lensOf.f (k : Nat) (s0_0 : List Int) (s0_1 : Int) (s0_2 : Int) : Option (List Int × Int × Int) := (spec_l01Cur_countsOf.f k s0_0 s0_1 s0_2).bind fun bt256 => ((spec_HuffLens.f k bt256.1).bind fun t261 => (if (t261.length : Int) > 0 then ((spec_l01Cur_pick.f s0_0 bt256.2.1 bt256.2.2 (mn 200 (t261.length : Int))).bind fun bt264 => ((spec_l01Cur_pick.f s0_0 bt264.2.1 bt264.2.2 10).bind fun bt267 => (if bt267.1 = 0 then ((spec_l01Cur_raw.f s0_0 bt267.2.1 bt267.2.2).bind fun bt270 => ((some (([bt270.1, 60, 61] : List Int) : List Int)).bind fun y273 => ((spec_l01Cur_pick.f s0_0 bt270.2.1 bt270.2.2 3).bind fun bt276 => (if 0 ≤ bt276.1 then (if bt276.1 < (y273.length : Int) then (if 0 ≤ bt264.1 then (if bt264.1 < (t261.length : Int) then (some ((t261.set (bt264.1 : Int).toNat (rd y273 bt276.1)), bt276.2.1, bt276.2.2)) else (none)) else (none)) else (none)) else (none))))) else (if bt267.1 = 1 then (if 0 ≤ bt264.1 then (if bt264.1 < (t261.length : Int) then (some ((t261.set (bt264.1 : Int).toNat (wrap64 ((rd t261 bt264.1) + 1))), bt267.2.1, bt267.2.2)) else (none)) else (none)) else (if bt267.1 = 2 then ((spec_l01Cur_pick.f s0_0 bt267.2.1 bt267.2.2 (mn 200 (t261.length : Int))).bind fun bt283 => (if 0 ≤ bt264.1 then (if bt264.1 < (t261.length : Int) then (if 0 ≤ bt283.1 then (if bt283.1 < (t261.length : Int) then (some (((t261.set (bt264.1 : Int).toNat (rd t261 bt283.1)).set (bt283.1 : Int).toNat (rd t261 bt264.1)), bt283.2.1, bt283.2.2)) else (none)) else (none)) else (none)) else (none))) else (some (t261, bt267.2.1, bt267.2.2))))))) else (some (t261, bt256.2.1, bt256.2.2))))
theorem spec_l01Cur_lensOf.mono : ∀ a0 a1 a2 k, LeO (spec_l01Cur_lensOf.f k a0 a1 a2) (spec_l01Cur_lensOf.f (k + 1) a0 a1 a2) := by
 intro a0 a1 a2 k
 unfold spec_l01Cur_lensOf.f
 repeat' first|(with_reducible first|exact spec_HuffLens.mono _ _|exact spec_l01Cur_countsOf.mono _ _ _ _|exact LeO.refl _|exact LeO.none _|refine LeO.ite ?_ ?_|refine LeO.bind ?_ (fun _ => ?_))|exact LeO.none _|refine LeO.ite ?_ ?_|refine LeO.bind ?_ (fun _ => ?_)
set_option maxHeartbeats 8000000 in
set_option maxRecDepth 100000 in
theorem spec_l01Cur_lensOf.calls (k : Nat) (g : Nat) (s0_0 : List Int) (s0_1 : Int) (s0_2 : Int) (r1 : List Int) (r2 : Int) (r3 : Int) (w0 w : World) (hI : IsS80 w0 w g s0_0 s0_1 s0_2) (hB : Below w0.heap.size w0 w) (h : spec_l01Cur_lensOf.f k s0_0 s0_1 s0_2 = some (r1, r2, r3)) :
  Calls Try.prog 34 #[.pointer (some ⟨g, 0, none⟩)] w fun e w' => ∃ v0_ : Value, e = .returned (v0_) ∧ Kd.R (Kd.int .i64) 3 w' w.heap.size (fun _ => True) v0_ r1 ∧ IsS80 w0 w' g s0_0 r2 r3 ∧ Below w0.heap.size w0 w' ∧ KeepBut w w' g none := by
 have HI0:=mk0 hI
 have HK:=mk0 (KeepBut.refl w g none)
 have HL:=mk0 hB.size
 clear hI
 have HW0:=mk0 hB.size
 have HB:=mk0 hB
 clear hB
 have H:((spec_l01Cur_countsOf.f k s0_0 s0_1 s0_2).bind fun bt256=>((spec_HuffLens.f k bt256.1).bind fun t261=>(if (t261.length:Int) > 0 then ((spec_l01Cur_pick.f s0_0 bt256.2.1 bt256.2.2 (mn 200 (t261.length:Int))).bind fun bt264=>((spec_l01Cur_pick.f s0_0 bt264.2.1 bt264.2.2 10).bind fun bt267=>(if bt267.1 = 0 then ((spec_l01Cur_raw.f s0_0 bt267.2.1 bt267.2.2).bind fun bt270=>((some (([bt270.1,60,61]:List Int):List Int)).bind fun y273=>((spec_l01Cur_pick.f s0_0 bt270.2.1 bt270.2.2 3).bind fun bt276=>(if 0 ≤ bt276.1 then (if bt276.1 < (y273.length:Int) then (if 0 ≤ bt264.1 then (if bt264.1 < (t261.length:Int) then (some ((t261.set (bt264.1:Int).toNat (rd y273 bt276.1)),bt276.2.1,bt276.2.2)) else (none)) else (none)) else (none)) else (none))))) else (if bt267.1 = 1 then (if 0 ≤ bt264.1 then (if bt264.1 < (t261.length:Int) then (some ((t261.set (bt264.1:Int).toNat (wrap64 ((rd t261 bt264.1) + 1))),bt267.2.1,bt267.2.2)) else (none)) else (none)) else (if bt267.1 = 2 then ((spec_l01Cur_pick.f s0_0 bt267.2.1 bt267.2.2 (mn 200 (t261.length:Int))).bind fun bt283=>(if 0 ≤ bt264.1 then (if bt264.1 < (t261.length:Int) then (if 0 ≤ bt283.1 then (if bt283.1 < (t261.length:Int) then (some (((t261.set (bt264.1:Int).toNat (rd t261 bt283.1)).set (bt283.1:Int).toNat (rd t261 bt264.1)),bt283.2.1,bt283.2.2)) else (none)) else (none)) else (none)) else (none))) else (some (t261,bt267.2.1,bt267.2.2))))))) else (some (t261,bt256.2.1,bt256.2.2))))) = some (r1,r2,r3):=h
 clear h
 replace H:=Option.bind_eq_some_iff.mp H
 obtain⟨⟨t256,t259,t260⟩,A20,H⟩:=H
 replace H:((spec_HuffLens.f k t256).bind fun t261=>(if (t261.length:Int) > 0 then ((spec_l01Cur_pick.f s0_0 t259 t260 (mn 200 (t261.length:Int))).bind fun bt264=>((spec_l01Cur_pick.f s0_0 bt264.2.1 bt264.2.2 10).bind fun bt267=>(if bt267.1 = 0 then ((spec_l01Cur_raw.f s0_0 bt267.2.1 bt267.2.2).bind fun bt270=>((some (([bt270.1,60,61]:List Int):List Int)).bind fun y273=>((spec_l01Cur_pick.f s0_0 bt270.2.1 bt270.2.2 3).bind fun bt276=>(if 0 ≤ bt276.1 then (if bt276.1 < (y273.length:Int) then (if 0 ≤ bt264.1 then (if bt264.1 < (t261.length:Int) then (some ((t261.set (bt264.1:Int).toNat (rd y273 bt276.1)),bt276.2.1,bt276.2.2)) else (none)) else (none)) else (none)) else (none))))) else (if bt267.1 = 1 then (if 0 ≤ bt264.1 then (if bt264.1 < (t261.length:Int) then (some ((t261.set (bt264.1:Int).toNat (wrap64 ((rd t261 bt264.1) + 1))),bt267.2.1,bt267.2.2)) else (none)) else (none)) else (if bt267.1 = 2 then ((spec_l01Cur_pick.f s0_0 bt267.2.1 bt267.2.2 (mn 200 (t261.length:Int))).bind fun bt283=>(if 0 ≤ bt264.1 then (if bt264.1 < (t261.length:Int) then (if 0 ≤ bt283.1 then (if bt283.1 < (t261.length:Int) then (some (((t261.set (bt264.1:Int).toNat (rd t261 bt283.1)).set (bt283.1:Int).toNat (rd t261 bt264.1)),bt283.2.1,bt283.2.2)) else (none)) else (none)) else (none)) else (none))) else (some (t261,bt267.2.1,bt267.2.2))))))) else (some (t261,t259,t260)))) = some (r1,r2,r3):=H
 have A2:=mk0 A20
 clear A20
 replace H:=Option.bind_eq_some_iff.mp H
 obtain⟨t261,A30,H⟩:=H
 replace H:(if (t261.length:Int) > 0 then ((spec_l01Cur_pick.f s0_0 t259 t260 (mn 200 (t261.length:Int))).bind fun bt264=>((spec_l01Cur_pick.f s0_0 bt264.2.1 bt264.2.2 10).bind fun bt267=>(if bt267.1 = 0 then ((spec_l01Cur_raw.f s0_0 bt267.2.1 bt267.2.2).bind fun bt270=>((some (([bt270.1,60,61]:List Int):List Int)).bind fun y273=>((spec_l01Cur_pick.f s0_0 bt270.2.1 bt270.2.2 3).bind fun bt276=>(if 0 ≤ bt276.1 then (if bt276.1 < (y273.length:Int) then (if 0 ≤ bt264.1 then (if bt264.1 < (t261.length:Int) then (some ((t261.set (bt264.1:Int).toNat (rd y273 bt276.1)),bt276.2.1,bt276.2.2)) else (none)) else (none)) else (none)) else (none))))) else (if bt267.1 = 1 then (if 0 ≤ bt264.1 then (if bt264.1 < (t261.length:Int) then (some ((t261.set (bt264.1:Int).toNat (wrap64 ((rd t261 bt264.1) + 1))),bt267.2.1,bt267.2.2)) else (none)) else (none)) else (if bt267.1 = 2 then ((spec_l01Cur_pick.f s0_0 bt267.2.1 bt267.2.2 (mn 200 (t261.length:Int))).bind fun bt283=>(if 0 ≤ bt264.1 then (if bt264.1 < (t261.length:Int) then (if 0 ≤ bt283.1 then (if bt283.1 < (t261.length:Int) then (some (((t261.set (bt264.1:Int).toNat (rd t261 bt283.1)).set (bt283.1:Int).toNat (rd t261 bt264.1)),bt283.2.1,bt283.2.2)) else (none)) else (none)) else (none)) else (none))) else (some (t261,bt267.2.1,bt267.2.2))))))) else (some (t261,t259,t260))) = some (r1,r2,r3):=H
 have A3:=mk0 A30
 clear A30
 by_cases c4:(t261.length:Int) > 0
 rotate_left
 ·rw [if_neg c4] at H
  have c4b0:decide (0 < (t261.length:Int)) = false:=decide_eq_false c4
  have c4b1:decide (0 < t261.length) = false:=decide_eq_false (by omega)
  clear c4
  simp only [Option.some.injEq,Prod.mk.injEq] at H
  obtain⟨rfl,rfl,rfl⟩:=H
  go_enter Try.func34,Try.ntmps34
  go_wp2_with (first|((with_reducible refine gate_callee (f:=48) rfl ?_);refine goesL_ (some 8) rfl rfl Try.func48 (by kernel_rfl) rfl #[.pointer (some ⟨g,0,none⟩)] rfl (by (try simp only [mA,mC,mN]);first|done|rfl|(simp only [List.length_drop,List.length_take];done)|(simp only [List.length_drop,List.length_take];rfl)) ?_;(with_reducible refine (spec_l01Cur_countsOf.calls k g s0_0 s0_1 s0_2 t256 t259 t260 w0 _ ?side1 ?side2 A2.out).mono ?_);(case side1=>repeat (first|(with_reducible first|exact HI0.out|apply IsS80.alloc|apply IsS80.drewN|apply IsS80.drew|apply IsS80.set_1|apply IsS80.set_2)|exact HI0.out));(case side2=>repeat (first|(with_reducible first|exact HB.out|apply aZ|apply nZ|apply dZ|refine sZ ?_ (IsS80.ge HI0.out))|exact HB.out));rintro e w66 ⟨v257,rfl,ho0,hi,hb,hk⟩;refine⟨_,rfl,?_⟩;have HO258:=mk0 (Kd.R_lower ho0 (keep_size (w:=w) (g:=g) (row:=none) (by repeat (first|(with_reducible first|exact HK.out|apply KeepBut.set_|apply keep_drewN|apply keep_drew|apply keep_alloc)|exact HK.out))));replace HK:=mk0 (KeepBut.trans (by repeat (first|(with_reducible first|exact HK.out|apply KeepBut.set_|apply keep_drewN|apply keep_drew|apply keep_alloc)|exact HK.out)) hk (.inl rfl));replace HB:=mk0 (hb);replace HI0:=mk0 (hi);(try clear hb);(try clear hk);(try clear hi);(try clear ho0);obtain⟨Ao67,co67,eo67⟩:=Kd.R_slice HO258.out;subst eo67)|((with_reducible refine gate_callee (f:=21) rfl ?_);refine goesL_ (some 9) rfl rfl Try.func21 (by kernel_rfl) rfl #[.slice Ao67 t256.length co67] rfl (by (try simp only [mA,mC,mN]);first|done|rfl|(simp only [List.length_drop,List.length_take];done)|(simp only [List.length_drop,List.length_take];rfl)) ?_;(with_reducible refine (spec_HuffLens.calls k _ _ t256 t261 _ ?side1 ?side2 A3.out).mono ?_);(case side1=>exact kC (Kd.R_reads' HO258.out).2.2);(case side2=>exact (Kd.R_reads' HO258.out).2.1);rintro e w68 ⟨v262,rfl,ho0,hb⟩;refine⟨_,rfl,?_⟩;have HO263:=mk0 (Kd.R_lower (Kd.R_new' ho0 (Kd.R_lt (rR HO258.out))) (keep_size (w:=w) (g:=g) (row:=none) (by repeat (first|(with_reducible first|exact HK.out|apply KeepBut.set_|apply keep_drewN|apply keep_drew|apply keep_alloc)|exact HK.out))));replace HO258:=mk0 (Kd.R_elder' (rR HO258.out) (Kd.R_base ho0) hb);replace HK:=mk0 (KeepBut.trans (by repeat (first|(with_reducible first|exact HK.out|apply KeepBut.set_|apply keep_drewN|apply keep_drew|apply keep_alloc)|exact HK.out)) (KeepBut.of_below hb g none) (.inl rfl));replace HB:=mk0 (below_step (by repeat (first|(with_reducible first|exact HB.out|apply aZ|apply nZ|apply dZ|refine sZ ?_ (IsS80.ge HI0.out))|exact HB.out)) hb);replace HI0:=mk0 (IsS80.below (by repeat (first|(with_reducible first|exact HI0.out|apply IsS80.alloc|apply IsS80.drewN|apply IsS80.drew|apply IsS80.set_1|apply IsS80.set_2)|exact HI0.out)) hb);(try clear hb);(try clear ho0);obtain⟨Ao69,co69,eo69⟩:=Kd.R_slice HO263.out;subst eo69))
  go_ret
  exact⟨_,by first|rfl|(simp [errW_none,errW_some] <;> rfl)|(simp [*,errW_none,errW_some] <;> rfl),rR (Kd.R_mono HO263.out (fun _ hk=>trivial)),by repeat (first|(with_reducible first|exact HI0.out|apply IsS80.alloc|apply IsS80.drewN|apply IsS80.drew|apply IsS80.set_1|apply IsS80.set_2)|exact HI0.out),by repeat (first|(with_reducible first|exact HB.out|apply aZ|apply nZ|apply dZ|refine sZ ?_ (IsS80.ge HI0.out))|exact HB.out),by repeat (first|(with_reducible first|exact HK.out|apply KeepBut.set_|apply keep_drewN|apply keep_drew|apply keep_alloc)|exact HK.out)⟩

 rw [if_pos c4] at H
 have c4b0:decide (0 < (t261.length:Int)) = true:=decide_eq_true c4
 have c4b1:decide (0 < t261.length) = true:=decide_eq_true (by omega)
 clear c4
 obtain⟨ji5,hji5⟩:∃ j_:Int,(mn 200 (t261.length:Int)) = j_:=⟨_,rfl⟩
 replace H:((spec_l01Cur_pick.f s0_0 t259 t260 (ji5)).bind fun bt264=>((spec_l01Cur_pick.f s0_0 bt264.2.1 bt264.2.2 10).bind fun bt267=>(if bt267.1 = 0 then ((spec_l01Cur_raw.f s0_0 bt267.2.1 bt267.2.2).bind fun bt270=>((some (([bt270.1,60,61]:List Int):List Int)).bind fun y273=>((spec_l01Cur_pick.f s0_0 bt270.2.1 bt270.2.2 3).bind fun bt276=>(if 0 ≤ bt276.1 then (if bt276.1 < (y273.length:Int) then (if 0 ≤ bt264.1 then (if bt264.1 < (t261.length:Int) then (some ((t261.set (bt264.1:Int).toNat (rd y273 bt276.1)),bt276.2.1,bt276.2.2)) else (none)) else (none)) else (none)) else (none))))) else (if bt267.1 = 1 then (if 0 ≤ bt264.1 then (if bt264.1 < (t261.length:Int) then (some ((t261.set (bt264.1:Int).toNat (wrap64 ((rd t261 bt264.1) + 1))),bt267.2.1,bt267.2.2)) else (none)) else (none)) else (if bt267.1 = 2 then ((spec_l01Cur_pick.f s0_0 bt267.2.1 bt267.2.2 (ji5)).bind fun bt283=>(if 0 ≤ bt264.1 then (if bt264.1 < (t261.length:Int) then (if 0 ≤ bt283.1 then (if bt283.1 < (t261.length:Int) then (some (((t261.set (bt264.1:Int).toNat (rd t261 bt283.1)).set (bt283.1:Int).toNat (rd t261 bt264.1)),bt283.2.1,bt283.2.2)) else (none)) else (none)) else (none)) else (none))) else (some (t261,bt267.2.1,bt267.2.2))))))) = some (r1,r2,r3):=by first|(rw [hji5] at H;exact H)|(simp only [hji5] at H ⊢;exact H)
 (try rw [hji5] at A2)
 (try rw [hji5] at A3)
 (try (have hji5h:ji5 ≤ 200:=by (rw [← hji5];unfold mn;(repeat' split) <;> omega)))
 (try (have hji5g:ji5 ≤ 64:=by omega))
 (try (have hji5l:0 ≤ ji5:=by (rw [← hji5];unfold mn;(repeat' split) <;> omega)))
 (try (have hji5m:0 ≤ ji5:=by omega))
 have hji5_:(if (t261.length:Int) < 200 then (t261.length:Int) else 200) = ji5:=hji5
 replace H:=Option.bind_eq_some_iff.mp H
 obtain⟨⟨t264,t265,t266⟩,A60,H⟩:=H
 replace H:((spec_l01Cur_pick.f s0_0 t265 t266 10).bind fun bt267=>(if bt267.1 = 0 then ((spec_l01Cur_raw.f s0_0 bt267.2.1 bt267.2.2).bind fun bt270=>((some (([bt270.1,60,61]:List Int):List Int)).bind fun y273=>((spec_l01Cur_pick.f s0_0 bt270.2.1 bt270.2.2 3).bind fun bt276=>(if 0 ≤ bt276.1 then (if bt276.1 < (y273.length:Int) then (if 0 ≤ t264 then (if t264 < (t261.length:Int) then (some ((t261.set (t264:Int).toNat (rd y273 bt276.1)),bt276.2.1,bt276.2.2)) else (none)) else (none)) else (none)) else (none))))) else (if bt267.1 = 1 then (if 0 ≤ t264 then (if t264 < (t261.length:Int) then (some ((t261.set (t264:Int).toNat (wrap64 ((rd t261 t264) + 1))),bt267.2.1,bt267.2.2)) else (none)) else (none)) else (if bt267.1 = 2 then ((spec_l01Cur_pick.f s0_0 bt267.2.1 bt267.2.2 (ji5)).bind fun bt283=>(if 0 ≤ t264 then (if t264 < (t261.length:Int) then (if 0 ≤ bt283.1 then (if bt283.1 < (t261.length:Int) then (some (((t261.set (t264:Int).toNat (rd t261 bt283.1)).set (bt283.1:Int).toNat (rd t261 t264)),bt283.2.1,bt283.2.2)) else (none)) else (none)) else (none)) else (none))) else (some (t261,bt267.2.1,bt267.2.2)))))) = some (r1,r2,r3):=H
 have A6:=mk0 A60
 clear A60
 replace H:=Option.bind_eq_some_iff.mp H
 obtain⟨⟨t267,t268,t269⟩,A70,H⟩:=H
 replace H:(if t267 = 0 then ((spec_l01Cur_raw.f s0_0 t268 t269).bind fun bt270=>((some (([bt270.1,60,61]:List Int):List Int)).bind fun y273=>((spec_l01Cur_pick.f s0_0 bt270.2.1 bt270.2.2 3).bind fun bt276=>(if 0 ≤ bt276.1 then (if bt276.1 < (y273.length:Int) then (if 0 ≤ t264 then (if t264 < (t261.length:Int) then (some ((t261.set (t264:Int).toNat (rd y273 bt276.1)),bt276.2.1,bt276.2.2)) else (none)) else (none)) else (none)) else (none))))) else (if t267 = 1 then (if 0 ≤ t264 then (if t264 < (t261.length:Int) then (some ((t261.set (t264:Int).toNat (wrap64 ((rd t261 t264) + 1))),t268,t269)) else (none)) else (none)) else (if t267 = 2 then ((spec_l01Cur_pick.f s0_0 t268 t269 (ji5)).bind fun bt283=>(if 0 ≤ t264 then (if t264 < (t261.length:Int) then (if 0 ≤ bt283.1 then (if bt283.1 < (t261.length:Int) then (some (((t261.set (t264:Int).toNat (rd t261 bt283.1)).set (bt283.1:Int).toNat (rd t261 t264)),bt283.2.1,bt283.2.2)) else (none)) else (none)) else (none)) else (none))) else (some (t261,t268,t269))))) = some (r1,r2,r3):=H
 have A7:=mk0 A70
 clear A70
 by_cases c8:t267 = 0
 ·rw [if_pos c8] at H
  have c8b0:(t267 == 0) = true:=beq_iff_eq.mpr c8
  have c8b1:(t267 != 0) = false:=bne_eq_false_iff_eq.mpr c8
  clear c8
  replace H:=Option.bind_eq_some_iff.mp H
  obtain⟨⟨t270,t271,t272⟩,A90,H⟩:=H
  replace H:((some (([t270,60,61]:List Int):List Int)).bind fun y273=>((spec_l01Cur_pick.f s0_0 t271 t272 3).bind fun bt276=>(if 0 ≤ bt276.1 then (if bt276.1 < (y273.length:Int) then (if 0 ≤ t264 then (if t264 < (t261.length:Int) then (some ((t261.set (t264:Int).toNat (rd y273 bt276.1)),bt276.2.1,bt276.2.2)) else (none)) else (none)) else (none)) else (none)))) = some (r1,r2,r3):=H
  have A9:=mk0 A90
  clear A90
  obtain⟨y273,hy273⟩:∃ y_:List Int,y_ = (([t270,60,61]:List Int)):=⟨_,rfl⟩
  replace H:((spec_l01Cur_pick.f s0_0 t271 t272 3).bind fun bt276=>(if 0 ≤ bt276.1 then (if bt276.1 < (y273.length:Int) then (if 0 ≤ t264 then (if t264 < (t261.length:Int) then (some ((t261.set (t264:Int).toNat (rd y273 bt276.1)),bt276.2.1,bt276.2.2)) else (none)) else (none)) else (none)) else (none))) = some (r1,r2,r3):=by first|(rw [hy273];with_reducible exact H)|(have H2_:=(Option.bind_some _ _).symm.trans H;rw [hy273];with_reducible exact H2_)|(have H2_:=(Option.bind_some _ _).symm.trans H;with_reducible exact H2_)|with_reducible exact H|(rw [hy273];exact H)|exact H
  have Ny273:=mk0 hy273
  clear hy273
  replace H:=Option.bind_eq_some_iff.mp H
  obtain⟨⟨t276,t277,t278⟩,A100,H⟩:=H
  replace H:(if 0 ≤ t276 then (if t276 < (y273.length:Int) then (if 0 ≤ t264 then (if t264 < (t261.length:Int) then (some ((t261.set (t264:Int).toNat (rd y273 t276)),t277,t278)) else (none)) else (none)) else (none)) else (none)) = some (r1,r2,r3):=H
  have A10:=mk0 A100
  clear A100
  by_cases c11:0 ≤ t276
  rotate_left
  ·rw [if_neg c11] at H
   exact absurd H (by simp)
  rw [if_pos c11] at H
  have c11b0:decide (0 ≤ t276) = true:=decide_eq_true c11
  clear c11
  by_cases c12:t276 < (y273.length:Int)
  rotate_left
  ·rw [if_neg c12] at H
   exact absurd H (by simp)
  rw [if_pos c12] at H
  have c12b0:decide (t276 < (y273.length:Int)) = true:=decide_eq_true c12
  clear c12
  by_cases c13:0 ≤ t264
  rotate_left
  ·rw [if_neg c13] at H
   exact absurd H (by simp)
  rw [if_pos c13] at H
  have c13b0:decide (0 ≤ t264) = true:=decide_eq_true c13
  clear c13
  by_cases c14:t264 < (t261.length:Int)
  rotate_left
  ·rw [if_neg c14] at H
   exact absurd H (by simp)
  rw [if_pos c14] at H
  have c14b0:decide (t264 < (t261.length:Int)) = true:=decide_eq_true c14
  clear c14
  obtain⟨y280,hy280⟩:∃ y_:List Int,y_ = (t261.set (t264:Int).toNat (rd y273 t276)):=⟨_,rfl⟩
  replace H:(some (y280,t277,t278)) = some (r1,r2,r3):=by first|(rw [hy280];with_reducible exact H)|(have H2_:=(Option.bind_some _ _).symm.trans H;rw [hy280];with_reducible exact H2_)|(have H2_:=(Option.bind_some _ _).symm.trans H;with_reducible exact H2_)|with_reducible exact H|(rw [hy280];exact H)|exact H
  have Ny280:=mk0 hy280
  clear hy280
  simp only [Option.some.injEq,Prod.mk.injEq] at H
  obtain⟨rfl,rfl,rfl⟩:=H
  go_enter Try.func34,Try.ntmps34
  go_wp2_with (first|((with_reducible refine gate_callee (f:=48) rfl ?_);refine goesL_ (some 8) rfl rfl Try.func48 (by kernel_rfl) rfl #[.pointer (some ⟨g,0,none⟩)] rfl (by (try simp only [mA,mC,mN]);first|done|rfl|(simp only [List.length_drop,List.length_take];done)|(simp only [List.length_drop,List.length_take];rfl)) ?_;(with_reducible refine (spec_l01Cur_countsOf.calls k g s0_0 s0_1 s0_2 t256 t259 t260 w0 _ ?side1 ?side2 A2.out).mono ?_);(case side1=>repeat (first|(with_reducible first|exact HI0.out|apply IsS80.alloc|apply IsS80.drewN|apply IsS80.drew|apply IsS80.set_1|apply IsS80.set_2)|exact HI0.out));(case side2=>repeat (first|(with_reducible first|exact HB.out|apply aZ|apply nZ|apply dZ|refine sZ ?_ (IsS80.ge HI0.out))|exact HB.out));rintro e w16 ⟨v257,rfl,ho0,hi,hb,hk⟩;refine⟨_,rfl,?_⟩;have HO258:=mk0 (Kd.R_lower ho0 (keep_size (w:=w) (g:=g) (row:=none) (by repeat (first|(with_reducible first|exact HK.out|apply KeepBut.set_|apply keep_drewN|apply keep_drew|apply keep_alloc)|exact HK.out))));replace HK:=mk0 (KeepBut.trans (by repeat (first|(with_reducible first|exact HK.out|apply KeepBut.set_|apply keep_drewN|apply keep_drew|apply keep_alloc)|exact HK.out)) hk (.inl rfl));replace HB:=mk0 (hb);replace HI0:=mk0 (hi);(try clear hb);(try clear hk);(try clear hi);(try clear ho0);obtain⟨Ao17,co17,eo17⟩:=Kd.R_slice HO258.out;subst eo17)|((with_reducible refine gate_callee (f:=21) rfl ?_);refine goesL_ (some 9) rfl rfl Try.func21 (by kernel_rfl) rfl #[.slice Ao17 t256.length co17] rfl (by (try simp only [mA,mC,mN]);first|done|rfl|(simp only [List.length_drop,List.length_take];done)|(simp only [List.length_drop,List.length_take];rfl)) ?_;(with_reducible refine (spec_HuffLens.calls k _ _ t256 t261 _ ?side1 ?side2 A3.out).mono ?_);(case side1=>exact kC (Kd.R_reads' HO258.out).2.2);(case side2=>exact (Kd.R_reads' HO258.out).2.1);rintro e w18 ⟨v262,rfl,ho0,hb⟩;refine⟨_,rfl,?_⟩;have HO263:=mk0 (Kd.R_lower (Kd.R_new' ho0 (Kd.R_lt (rR HO258.out))) (keep_size (w:=w) (g:=g) (row:=none) (by repeat (first|(with_reducible first|exact HK.out|apply KeepBut.set_|apply keep_drewN|apply keep_drew|apply keep_alloc)|exact HK.out))));replace HO258:=mk0 (Kd.R_elder' (rR HO258.out) (Kd.R_base ho0) hb);replace HK:=mk0 (KeepBut.trans (by repeat (first|(with_reducible first|exact HK.out|apply KeepBut.set_|apply keep_drewN|apply keep_drew|apply keep_alloc)|exact HK.out)) (KeepBut.of_below hb g none) (.inl rfl));replace HB:=mk0 (below_step (by repeat (first|(with_reducible first|exact HB.out|apply aZ|apply nZ|apply dZ|refine sZ ?_ (IsS80.ge HI0.out))|exact HB.out)) hb);replace HI0:=mk0 (IsS80.below (by repeat (first|(with_reducible first|exact HI0.out|apply IsS80.alloc|apply IsS80.drewN|apply IsS80.drew|apply IsS80.set_1|apply IsS80.set_2)|exact HI0.out)) hb);(try clear hb);(try clear ho0);obtain⟨Ao19,co19,eo19⟩:=Kd.R_slice HO263.out;subst eo19)|((with_reducible refine gate_callee (f:=65) rfl ?_);refine goesL_ (some 17) rfl rfl Try.func65 (by kernel_rfl) rfl #[.pointer (some ⟨g,0,none⟩),.int .i64 ji5] rfl (by (try simp only [mA,mC,mN]);first|done|(simp only [hji5];rfl)|rfl|(simp only [List.length_drop,List.length_take];done)|(simp only [List.length_drop,List.length_take];rfl)) ?_;(with_reducible refine (spec_l01Cur_pick.calls g s0_0 t259 t260 ji5 t264 t265 t266 w0 _ ?side1 ?side2 A6.out).mono ?_);(case side1=>repeat (first|(with_reducible first|exact HI0.out|apply IsS80.alloc|apply IsS80.drewN|apply IsS80.drew|apply IsS80.set_1|apply IsS80.set_2)|exact HI0.out));(case side2=>repeat (first|(with_reducible first|exact HB.out|apply aZ|apply nZ|apply dZ|refine sZ ?_ (IsS80.ge HI0.out))|exact HB.out));rintro e w20 ⟨rfl,hi,hb,hk⟩;refine⟨_,rfl,?_⟩;replace HO258:=mk0 (Kd.R_mono (Kd.R_keep (IsS80.apart (show IsS80 w0 _ g s0_0 t259 t260 from by repeat (first|(with_reducible first|exact HI0.out|apply IsS80.alloc|apply IsS80.drewN|apply IsS80.drew|apply IsS80.set_1|apply IsS80.set_2)|exact HI0.out)) (rR HO258.out) (by decide)) hk (fun _ h=>h.2)) (fun _ h=>h.1));replace HO263:=mk0 (Kd.R_mono (Kd.R_keep (IsS80.apart (show IsS80 w0 _ g s0_0 t259 t260 from by repeat (first|(with_reducible first|exact HI0.out|apply IsS80.alloc|apply IsS80.drewN|apply IsS80.drew|apply IsS80.set_1|apply IsS80.set_2)|exact HI0.out)) (rR HO263.out) (by decide)) hk (fun _ h=>h.2)) (fun _ h=>h.1));replace HK:=mk0 (KeepBut.trans (by repeat (first|(with_reducible first|exact HK.out|apply KeepBut.set_|apply keep_drewN|apply keep_drew|apply keep_alloc)|exact HK.out)) hk (.inl rfl));replace HB:=mk0 (hb);replace HI0:=mk0 (hi);(try clear hb);(try clear hk);(try clear hi))|((with_reducible refine gate_callee (f:=65) rfl ?_);refine goesL_ (some 19) rfl rfl Try.func65 (by kernel_rfl) rfl #[.pointer (some ⟨g,0,none⟩),.int .i64 10] rfl (by (try simp only [mA,mC,mN]);first|done|rfl|(simp only [List.length_drop,List.length_take];done)|(simp only [List.length_drop,List.length_take];rfl)) ?_;(with_reducible refine (spec_l01Cur_pick.calls g s0_0 t265 t266 10 t267 t268 t269 w0 _ ?side1 ?side2 A7.out).mono ?_);(case side1=>repeat (first|(with_reducible first|exact HI0.out|apply IsS80.alloc|apply IsS80.drewN|apply IsS80.drew|apply IsS80.set_1|apply IsS80.set_2)|exact HI0.out));(case side2=>repeat (first|(with_reducible first|exact HB.out|apply aZ|apply nZ|apply dZ|refine sZ ?_ (IsS80.ge HI0.out))|exact HB.out));rintro e w21 ⟨rfl,hi,hb,hk⟩;refine⟨_,rfl,?_⟩;replace HO258:=mk0 (Kd.R_mono (Kd.R_keep (IsS80.apart (show IsS80 w0 _ g s0_0 t265 t266 from by repeat (first|(with_reducible first|exact HI0.out|apply IsS80.alloc|apply IsS80.drewN|apply IsS80.drew|apply IsS80.set_1|apply IsS80.set_2)|exact HI0.out)) (rR HO258.out) (by decide)) hk (fun _ h=>h.2)) (fun _ h=>h.1));replace HO263:=mk0 (Kd.R_mono (Kd.R_keep (IsS80.apart (show IsS80 w0 _ g s0_0 t265 t266 from by repeat (first|(with_reducible first|exact HI0.out|apply IsS80.alloc|apply IsS80.drewN|apply IsS80.drew|apply IsS80.set_1|apply IsS80.set_2)|exact HI0.out)) (rR HO263.out) (by decide)) hk (fun _ h=>h.2)) (fun _ h=>h.1));replace HK:=mk0 (KeepBut.trans (by repeat (first|(with_reducible first|exact HK.out|apply KeepBut.set_|apply keep_drewN|apply keep_drew|apply keep_alloc)|exact HK.out)) hk (.inl rfl));replace HB:=mk0 (hb);replace HI0:=mk0 (hi);(try clear hb);(try clear hk);(try clear hi))|((with_reducible refine gate_callee (f:=66) rfl ?_);refine goesL_ (some 25) rfl rfl Try.func66 (by kernel_rfl) rfl #[.pointer (some ⟨g,0,none⟩)] rfl (by (try simp only [mA,mC,mN]);first|done|rfl|(simp only [List.length_drop,List.length_take];done)|(simp only [List.length_drop,List.length_take];rfl)) ?_;(with_reducible refine (spec_l01Cur_raw.calls g s0_0 t268 t269 t270 t271 t272 w0 _ ?side1 ?side2 A9.out).mono ?_);(case side1=>repeat (first|(with_reducible first|exact HI0.out|apply IsS80.alloc|apply IsS80.drewN|apply IsS80.drew|apply IsS80.set_1|apply IsS80.set_2)|exact HI0.out));(case side2=>repeat (first|(with_reducible first|exact HB.out|apply aZ|apply nZ|apply dZ|refine sZ ?_ (IsS80.ge HI0.out))|exact HB.out));rintro e w22 ⟨rfl,hi,hb,hk⟩;refine⟨_,rfl,?_⟩;replace HO258:=mk0 (Kd.R_mono (Kd.R_keep (IsS80.apart (show IsS80 w0 _ g s0_0 t268 t269 from by repeat (first|(with_reducible first|exact HI0.out|apply IsS80.alloc|apply IsS80.drewN|apply IsS80.drew|apply IsS80.set_1|apply IsS80.set_2)|exact HI0.out)) (rR HO258.out) (by decide)) hk (fun _ h=>h.2)) (fun _ h=>h.1));replace HO263:=mk0 (Kd.R_mono (Kd.R_keep (IsS80.apart (show IsS80 w0 _ g s0_0 t268 t269 from by repeat (first|(with_reducible first|exact HI0.out|apply IsS80.alloc|apply IsS80.drewN|apply IsS80.drew|apply IsS80.set_1|apply IsS80.set_2)|exact HI0.out)) (rR HO263.out) (by decide)) hk (fun _ h=>h.2)) (fun _ h=>h.1));replace HK:=mk0 (KeepBut.trans (by repeat (first|(with_reducible first|exact HK.out|apply KeepBut.set_|apply keep_drewN|apply keep_drew|apply keep_alloc)|exact HK.out)) hk (.inl rfl));replace HB:=mk0 (hb);replace HI0:=mk0 (hi);(try clear hb);(try clear hk);(try clear hi))|((with_reducible refine gate_dst (N:=26) rfl ?_);refine Kd.R_lit (Kd.int .i64) _ 3 ?hg (N:=26) ?hd (xs:=([t270,60,61]:List Int)) (inner:=[.int .i64 t270,.int .i64 60,.int .i64 61]) (ok:=fun _=>True) (okp:=fun _=>True) ?hr ?hp (fun _ hk=>hk) trivial (Below.refl _ _) (Nat.le_refl _) (by simp) ?_;(case hd=>rfl);(case hg=>rfl);(case hr=>first|(go_simp;done)|(go_simp;rfl));(case hp=>exact (Reps.one (show Kd.M (Kd.int .i64) _ _ _ t270 [.int .i64 t270] from rfl) (Reps.one (show Kd.M (Kd.int .i64) _ _ _ 60 [.int .i64 60] from rfl) (Reps.one (show Kd.M (Kd.int .i64) _ _ _ 61 [.int .i64 61] from rfl) (Reps.none _ _)))));intro v274 w23 ho24 hb hg_ hnew_;clear hg_ hnew_;(first|rw [← Ny273.out] at ho24|(simp only [Int.reduceToNat] at ho24;rw [← Ny273.out] at ho24));have HO275:=mk0 (Kd.R_lower (Kd.R_new' (Kd.R_new' ho24 (Kd.R_lt (rR HO258.out))) (Kd.R_lt (rR HO263.out))) (keep_size (w:=w) (g:=g) (row:=none) (by repeat (first|(with_reducible first|exact HK.out|apply KeepBut.set_|apply keep_drewN|apply keep_drew|apply keep_alloc)|exact HK.out))));replace HO258:=mk0 (Kd.R_elder' (rR HO258.out) (Kd.R_base ho24) hb);replace HO263:=mk0 (Kd.R_elder' (rR HO263.out) (Kd.R_base ho24) hb);replace HK:=mk0 (KeepBut.trans (by repeat (first|(with_reducible first|exact HK.out|apply KeepBut.set_|apply keep_drewN|apply keep_drew|apply keep_alloc)|exact HK.out)) (KeepBut.of_below hb g none) (.inl rfl));replace HB:=mk0 (below_step (by repeat (first|(with_reducible first|exact HB.out|apply aZ|apply nZ|apply dZ|refine sZ ?_ (IsS80.ge HI0.out))|exact HB.out)) hb);replace HI0:=mk0 (IsS80.below (by repeat (first|(with_reducible first|exact HI0.out|apply IsS80.alloc|apply IsS80.drewN|apply IsS80.drew|apply IsS80.set_1|apply IsS80.set_2)|exact HI0.out)) hb);clear hb ho24)|((with_reducible refine gate_callee (f:=65) rfl ?_);refine goesL_ (some 28) rfl rfl Try.func65 (by kernel_rfl) rfl #[.pointer (some ⟨g,0,none⟩),.int .i64 3] rfl (by (try simp only [mA,mC,mN]);first|done|rfl|(simp only [List.length_drop,List.length_take];done)|(simp only [List.length_drop,List.length_take];rfl)) ?_;(with_reducible refine (spec_l01Cur_pick.calls g s0_0 t271 t272 3 t276 t277 t278 w0 _ ?side1 ?side2 A10.out).mono ?_);(case side1=>repeat (first|(with_reducible first|exact HI0.out|apply IsS80.alloc|apply IsS80.drewN|apply IsS80.drew|apply IsS80.set_1|apply IsS80.set_2)|exact HI0.out));(case side2=>repeat (first|(with_reducible first|exact HB.out|apply aZ|apply nZ|apply dZ|refine sZ ?_ (IsS80.ge HI0.out))|exact HB.out));rintro e w25 ⟨rfl,hi,hb,hk⟩;refine⟨_,rfl,?_⟩;replace HO258:=mk0 (Kd.R_mono (Kd.R_keep (IsS80.apart (show IsS80 w0 _ g s0_0 t271 t272 from by repeat (first|(with_reducible first|exact HI0.out|apply IsS80.alloc|apply IsS80.drewN|apply IsS80.drew|apply IsS80.set_1|apply IsS80.set_2)|exact HI0.out)) (rR HO258.out) (by decide)) hk (fun _ h=>h.2)) (fun _ h=>h.1));replace HO263:=mk0 (Kd.R_mono (Kd.R_keep (IsS80.apart (show IsS80 w0 _ g s0_0 t271 t272 from by repeat (first|(with_reducible first|exact HI0.out|apply IsS80.alloc|apply IsS80.drewN|apply IsS80.drew|apply IsS80.set_1|apply IsS80.set_2)|exact HI0.out)) (rR HO263.out) (by decide)) hk (fun _ h=>h.2)) (fun _ h=>h.1));replace HO275:=mk0 (Kd.R_mono (Kd.R_keep (IsS80.apart (show IsS80 w0 _ g s0_0 t271 t272 from by repeat (first|(with_reducible first|exact HI0.out|apply IsS80.alloc|apply IsS80.drewN|apply IsS80.drew|apply IsS80.set_1|apply IsS80.set_2)|exact HI0.out)) (rR HO275.out) (by decide)) hk (fun _ h=>h.2)) (fun _ h=>h.1));replace HK:=mk0 (KeepBut.trans (by repeat (first|(with_reducible first|exact HK.out|apply KeepBut.set_|apply keep_drewN|apply keep_drew|apply keep_alloc)|exact HK.out)) hk (.inl rfl));replace HB:=mk0 (hb);replace HI0:=mk0 (hi);(try clear hb);(try clear hk);(try clear hi);obtain⟨Ao26,co26,eo26⟩:=Kd.R_slice HO275.out;subst eo26;have p279:0 ≤ (t276:Int):=of_decide_eq_true (by first|(with_reducible assumption)|assumption);have q279:t276 < (y273.length:Int):=of_decide_eq_true (by first|(with_reducible assumption)|assumption);obtain⟨ad279,e279,hx279_0⟩:=Kd.at_int (Kd.R_reads' HO275.out).2.2 t276 p279 q279;cases e279;replace p279:=eq_true p279;replace q279:=eq_true q279;have p15:0 ≤ (t264:Int):=of_decide_eq_true (by first|(with_reducible assumption)|assumption);have q15:(t264:Int) < ((t261.length:Int):Int):=of_decide_eq_true (by first|(with_reducible assumption)|assumption);obtain⟨go15,co15,eo15,gb15,gl15,cl15,HG15⟩:=Kd.R_form HO263.out (by omega);(first|cases eo15|(injection eo15 with ea_ en_ ec_;(first|subst ea_|(injection ea_ with ea_;subst ea_));subst ec_;clear en_));have GB15:=mk0 gb15;have GG15:=mk0 HG15;clear gb15 gl15 HG15;obtain⟨hx15_0,hf15_0⟩:=Kd.R_celln 0 HO263.out (t264:Int) p15 q15;replace p15:=eq_true p15;replace q15:=eq_true q15;have n_:=mk0 (Kd.R_mono (ok':=(fun k_=>some k_ ≠ (.slice Ao17 t256.length co17:Value).ownBlock ∧ some k_ ≠ (.slice (some ad279) y273.length co26:Value).ownBlock)) HO263.out (fun k_ hk=>⟨hk.1.2,hk.2⟩));clear HO263;have HO263:=n_;clear n_;obtain⟨hy27_,hz27_⟩:=Kd.R_celln 0 HO263.out (t264:Int) (of_decide_eq_true (by first|(with_reducible assumption)|assumption)) (of_decide_eq_true (by first|(with_reducible assumption)|assumption));have HP27:=Kd.R_putg HO263.out (t264:Int) (rd y273 t276))|((with_reducible refine gate_store (t:=3) (p:=31) rfl ?_);refine store_event (t:=3) (p:=31) (v:=?vo_w28) (w1:=(w25.setCell ⟨go15,(t264:Int).toNat,none⟩ (.int .i64 (rd y273 t276)))) ?hg ?ho ?hn ?hr ?_;(case ho=>rfl);(case hg=>rfl);(case hn=>rfl);(case hr=>first|(go_simp;done)|(go_simp;rfl));intro w28 hw;have hg:w25.grownBy w28 (some go15):=(by rw [hw];exact HP27.2);have hp_:Kd.R (Kd.int .i64) 3 w28 w.heap.size (fun k_=>some k_ ≠ (.slice Ao17 t256.length co17:Value).ownBlock ∧ some k_ ≠ (.slice (some ad279) y273.length co26:Value).ownBlock) (.slice (some ⟨go15,0,none⟩) t261.length co19) y280:=(by rw [hw,Ny280.out];exact HP27.1);clear HP27;replace HI0:=mk0 (IsS80.grown (by repeat (first|(with_reducible first|exact HI0.out|apply IsS80.alloc|apply IsS80.drewN|apply IsS80.drew|apply IsS80.set_1|apply IsS80.set_2)|exact HI0.out)) hg (IsS80.own_ne HI0.out HO263.out (by decide)));replace HO258:=mk0 (Kd.R_after (v:=(.slice (some ⟨go15,0,none⟩) t261.length co19)) (v1:=(.slice (some ⟨go15,0,none⟩) t261.length co19)) (ok:=(fun k_=>some k_ ≠ (.slice (some ad279) y273.length co26:Value).ownBlock)) (by (with_reducible repeat (first|apply aR|apply nR|apply dR));exact Kd.R_mono HO258.out (by first|exact fun _ hk=>⟨hk.2,hk.1.2⟩|(intro k_ hk;simp only [hk,ne_eq,and_self,not_false_eq_true]))) hg (.inl rfl));replace HO275:=mk0 (Kd.R_after (v:=(.slice (some ⟨go15,0,none⟩) t261.length co19)) (v1:=(.slice (some ⟨go15,0,none⟩) t261.length co19)) (ok:=(fun k_=>some k_ ≠ (.slice Ao17 t256.length co17:Value).ownBlock)) (by (with_reducible repeat (first|apply aR|apply nR|apply dR));exact Kd.R_mono HO275.out (by first|exact fun _ hk=>⟨hk.1.2,hk.2⟩|(intro k_ hk;simp only [hk,ne_eq,and_self,not_false_eq_true]))) hg (.inl rfl));replace HB:=mk0 ((by rw [hw];exact sZ (HB.out) (Nat.le_trans HL.out GB15.out):Below w0.heap.size w0 w28));replace HK:=mk0 (KeepBut.trans (by repeat (first|(with_reducible first|exact HK.out|apply KeepBut.set_|apply keep_drewN|apply keep_drew|apply keep_alloc)|exact HK.out)) (KeepBut.of_grown hg g) (Kd.R_base2 HO263.out));replace HO263:=mk0 (hp_);clear hg hw hp_))
  go_ret
  exact⟨_,by first|rfl|(simp [errW_none,errW_some] <;> rfl)|(simp only [← hji5];first|rfl|(simp [errW_none,errW_some] <;> rfl))|(simp [*,errW_none,errW_some] <;> rfl),rR (Kd.R_mono HO263.out (fun _ hk=>trivial)),by repeat (first|(with_reducible first|exact HI0.out|apply IsS80.alloc|apply IsS80.drewN|apply IsS80.drew|apply IsS80.set_1|apply IsS80.set_2)|exact HI0.out),by repeat (first|(with_reducible first|exact HB.out|apply aZ|apply nZ|apply dZ|refine sZ ?_ (IsS80.ge HI0.out))|exact HB.out),by repeat (first|(with_reducible first|exact HK.out|apply KeepBut.set_|apply keep_drewN|apply keep_drew|apply keep_alloc)|exact HK.out)⟩
 rw [if_neg c8] at H
 have c8b0:(t267 == 0) = false:=beq_eq_false_iff_ne.mpr c8
 have c8b1:(t267 != 0) = true:=bne_iff_ne.mpr c8
 by_cases c29:t267 = 1
 ·rw [if_pos c29] at H
  have c29b0:(t267 == 1) = true:=beq_iff_eq.mpr c29
  have c29b1:(t267 != 1) = false:=bne_eq_false_iff_eq.mpr c29
  clear c29
  by_cases c30:0 ≤ t264
  rotate_left
  ·rw [if_neg c30] at H
   exact absurd H (by simp)
  rw [if_pos c30] at H
  have c30b0:decide (0 ≤ t264) = true:=decide_eq_true c30
  clear c30
  by_cases c31:t264 < (t261.length:Int)
  rotate_left
  ·rw [if_neg c31] at H
   exact absurd H (by simp)
  rw [if_pos c31] at H
  have c31b0:decide (t264 < (t261.length:Int)) = true:=decide_eq_true c31
  clear c31
  obtain⟨y282,hy282⟩:∃ y_:List Int,y_ = (t261.set (t264:Int).toNat (wrap64 ((rd t261 t264) + 1))):=⟨_,rfl⟩
  replace H:(some (y282,t268,t269)) = some (r1,r2,r3):=by first|(rw [hy282];with_reducible exact H)|(have H2_:=(Option.bind_some _ _).symm.trans H;rw [hy282];with_reducible exact H2_)|(have H2_:=(Option.bind_some _ _).symm.trans H;with_reducible exact H2_)|with_reducible exact H|(rw [hy282];exact H)|exact H
  have Ny282:=mk0 hy282
  clear hy282
  simp only [Option.some.injEq,Prod.mk.injEq] at H
  obtain⟨rfl,rfl,rfl⟩:=H
  go_enter Try.func34,Try.ntmps34
  go_wp2_with (first|((with_reducible refine gate_callee (f:=48) rfl ?_);refine goesL_ (some 8) rfl rfl Try.func48 (by kernel_rfl) rfl #[.pointer (some ⟨g,0,none⟩)] rfl (by (try simp only [mA,mC,mN]);first|done|rfl|(simp only [List.length_drop,List.length_take];done)|(simp only [List.length_drop,List.length_take];rfl)) ?_;(with_reducible refine (spec_l01Cur_countsOf.calls k g s0_0 s0_1 s0_2 t256 t259 t260 w0 _ ?side1 ?side2 A2.out).mono ?_);(case side1=>repeat (first|(with_reducible first|exact HI0.out|apply IsS80.alloc|apply IsS80.drewN|apply IsS80.drew|apply IsS80.set_1|apply IsS80.set_2)|exact HI0.out));(case side2=>repeat (first|(with_reducible first|exact HB.out|apply aZ|apply nZ|apply dZ|refine sZ ?_ (IsS80.ge HI0.out))|exact HB.out));rintro e w33 ⟨v257,rfl,ho0,hi,hb,hk⟩;refine⟨_,rfl,?_⟩;have HO258:=mk0 (Kd.R_lower ho0 (keep_size (w:=w) (g:=g) (row:=none) (by repeat (first|(with_reducible first|exact HK.out|apply KeepBut.set_|apply keep_drewN|apply keep_drew|apply keep_alloc)|exact HK.out))));replace HK:=mk0 (KeepBut.trans (by repeat (first|(with_reducible first|exact HK.out|apply KeepBut.set_|apply keep_drewN|apply keep_drew|apply keep_alloc)|exact HK.out)) hk (.inl rfl));replace HB:=mk0 (hb);replace HI0:=mk0 (hi);(try clear hb);(try clear hk);(try clear hi);(try clear ho0);obtain⟨Ao34,co34,eo34⟩:=Kd.R_slice HO258.out;subst eo34)|((with_reducible refine gate_callee (f:=21) rfl ?_);refine goesL_ (some 9) rfl rfl Try.func21 (by kernel_rfl) rfl #[.slice Ao34 t256.length co34] rfl (by (try simp only [mA,mC,mN]);first|done|rfl|(simp only [List.length_drop,List.length_take];done)|(simp only [List.length_drop,List.length_take];rfl)) ?_;(with_reducible refine (spec_HuffLens.calls k _ _ t256 t261 _ ?side1 ?side2 A3.out).mono ?_);(case side1=>exact kC (Kd.R_reads' HO258.out).2.2);(case side2=>exact (Kd.R_reads' HO258.out).2.1);rintro e w35 ⟨v262,rfl,ho0,hb⟩;refine⟨_,rfl,?_⟩;have HO263:=mk0 (Kd.R_lower (Kd.R_new' ho0 (Kd.R_lt (rR HO258.out))) (keep_size (w:=w) (g:=g) (row:=none) (by repeat (first|(with_reducible first|exact HK.out|apply KeepBut.set_|apply keep_drewN|apply keep_drew|apply keep_alloc)|exact HK.out))));replace HO258:=mk0 (Kd.R_elder' (rR HO258.out) (Kd.R_base ho0) hb);replace HK:=mk0 (KeepBut.trans (by repeat (first|(with_reducible first|exact HK.out|apply KeepBut.set_|apply keep_drewN|apply keep_drew|apply keep_alloc)|exact HK.out)) (KeepBut.of_below hb g none) (.inl rfl));replace HB:=mk0 (below_step (by repeat (first|(with_reducible first|exact HB.out|apply aZ|apply nZ|apply dZ|refine sZ ?_ (IsS80.ge HI0.out))|exact HB.out)) hb);replace HI0:=mk0 (IsS80.below (by repeat (first|(with_reducible first|exact HI0.out|apply IsS80.alloc|apply IsS80.drewN|apply IsS80.drew|apply IsS80.set_1|apply IsS80.set_2)|exact HI0.out)) hb);(try clear hb);(try clear ho0);obtain⟨Ao36,co36,eo36⟩:=Kd.R_slice HO263.out;subst eo36)|((with_reducible refine gate_callee (f:=65) rfl ?_);refine goesL_ (some 17) rfl rfl Try.func65 (by kernel_rfl) rfl #[.pointer (some ⟨g,0,none⟩),.int .i64 ji5] rfl (by (try simp only [mA,mC,mN]);first|done|(simp only [hji5];rfl)|rfl|(simp only [List.length_drop,List.length_take];done)|(simp only [List.length_drop,List.length_take];rfl)) ?_;(with_reducible refine (spec_l01Cur_pick.calls g s0_0 t259 t260 ji5 t264 t265 t266 w0 _ ?side1 ?side2 A6.out).mono ?_);(case side1=>repeat (first|(with_reducible first|exact HI0.out|apply IsS80.alloc|apply IsS80.drewN|apply IsS80.drew|apply IsS80.set_1|apply IsS80.set_2)|exact HI0.out));(case side2=>repeat (first|(with_reducible first|exact HB.out|apply aZ|apply nZ|apply dZ|refine sZ ?_ (IsS80.ge HI0.out))|exact HB.out));rintro e w37 ⟨rfl,hi,hb,hk⟩;refine⟨_,rfl,?_⟩;replace HO258:=mk0 (Kd.R_mono (Kd.R_keep (IsS80.apart (show IsS80 w0 _ g s0_0 t259 t260 from by repeat (first|(with_reducible first|exact HI0.out|apply IsS80.alloc|apply IsS80.drewN|apply IsS80.drew|apply IsS80.set_1|apply IsS80.set_2)|exact HI0.out)) (rR HO258.out) (by decide)) hk (fun _ h=>h.2)) (fun _ h=>h.1));replace HO263:=mk0 (Kd.R_mono (Kd.R_keep (IsS80.apart (show IsS80 w0 _ g s0_0 t259 t260 from by repeat (first|(with_reducible first|exact HI0.out|apply IsS80.alloc|apply IsS80.drewN|apply IsS80.drew|apply IsS80.set_1|apply IsS80.set_2)|exact HI0.out)) (rR HO263.out) (by decide)) hk (fun _ h=>h.2)) (fun _ h=>h.1));replace HK:=mk0 (KeepBut.trans (by repeat (first|(with_reducible first|exact HK.out|apply KeepBut.set_|apply keep_drewN|apply keep_drew|apply keep_alloc)|exact HK.out)) hk (.inl rfl));replace HB:=mk0 (hb);replace HI0:=mk0 (hi);(try clear hb);(try clear hk);(try clear hi))|((with_reducible refine gate_callee (f:=65) rfl ?_);refine goesL_ (some 19) rfl rfl Try.func65 (by kernel_rfl) rfl #[.pointer (some ⟨g,0,none⟩),.int .i64 10] rfl (by (try simp only [mA,mC,mN]);first|done|rfl|(simp only [List.length_drop,List.length_take];done)|(simp only [List.length_drop,List.length_take];rfl)) ?_;(with_reducible refine (spec_l01Cur_pick.calls g s0_0 t265 t266 10 t267 t268 t269 w0 _ ?side1 ?side2 A7.out).mono ?_);(case side1=>repeat (first|(with_reducible first|exact HI0.out|apply IsS80.alloc|apply IsS80.drewN|apply IsS80.drew|apply IsS80.set_1|apply IsS80.set_2)|exact HI0.out));(case side2=>repeat (first|(with_reducible first|exact HB.out|apply aZ|apply nZ|apply dZ|refine sZ ?_ (IsS80.ge HI0.out))|exact HB.out));rintro e w38 ⟨rfl,hi,hb,hk⟩;refine⟨_,rfl,?_⟩;replace HO258:=mk0 (Kd.R_mono (Kd.R_keep (IsS80.apart (show IsS80 w0 _ g s0_0 t265 t266 from by repeat (first|(with_reducible first|exact HI0.out|apply IsS80.alloc|apply IsS80.drewN|apply IsS80.drew|apply IsS80.set_1|apply IsS80.set_2)|exact HI0.out)) (rR HO258.out) (by decide)) hk (fun _ h=>h.2)) (fun _ h=>h.1));replace HO263:=mk0 (Kd.R_mono (Kd.R_keep (IsS80.apart (show IsS80 w0 _ g s0_0 t265 t266 from by repeat (first|(with_reducible first|exact HI0.out|apply IsS80.alloc|apply IsS80.drewN|apply IsS80.drew|apply IsS80.set_1|apply IsS80.set_2)|exact HI0.out)) (rR HO263.out) (by decide)) hk (fun _ h=>h.2)) (fun _ h=>h.1));replace HK:=mk0 (KeepBut.trans (by repeat (first|(with_reducible first|exact HK.out|apply KeepBut.set_|apply keep_drewN|apply keep_drew|apply keep_alloc)|exact HK.out)) hk (.inl rfl));replace HB:=mk0 (hb);replace HI0:=mk0 (hi);(try clear hb);(try clear hk);(try clear hi);have p281:0 ≤ (t264:Int):=of_decide_eq_true (by first|(with_reducible assumption)|assumption);have q281:t264 < (t261.length:Int):=of_decide_eq_true (by first|(with_reducible assumption)|assumption);obtain⟨ad281,e281,hx281_0⟩:=Kd.at_int (Kd.R_reads' HO263.out).2.2 t264 p281 q281;cases e281;replace p281:=eq_true p281;replace q281:=eq_true q281;have p32:0 ≤ (t264:Int):=of_decide_eq_true (by first|(with_reducible assumption)|assumption);have q32:(t264:Int) < ((t261.length:Int):Int):=of_decide_eq_true (by first|(with_reducible assumption)|assumption);obtain⟨go32,co32,eo32,gb32,gl32,cl32,HG32⟩:=Kd.R_form HO263.out (by omega);(first|cases eo32|(injection eo32 with ea_ en_ ec_;(first|subst ea_|(injection ea_ with ea_;subst ea_));subst ec_;clear en_));have GB32:=mk0 gb32;have GG32:=mk0 HG32;clear gb32 gl32 HG32;(first|simp only [add_plain] at hx281_0|skip);obtain⟨hx32_0,hf32_0⟩:=Kd.R_celln 0 HO263.out (t264:Int) p32 q32;replace p32:=eq_true p32;replace q32:=eq_true q32;have n_:=mk0 (Kd.R_mono (ok':=(fun k_=>some k_ ≠ (.slice Ao34 t256.length co34:Value).ownBlock)) HO263.out (fun k_ hk=>hk.2));clear HO263;have HO263:=n_;clear n_;obtain⟨hy39_,hz39_⟩:=Kd.R_celln 0 HO263.out (t264:Int) (of_decide_eq_true (by first|(with_reducible assumption)|assumption)) (of_decide_eq_true (by first|(with_reducible assumption)|assumption));have HP39:=Kd.R_putg HO263.out (t264:Int) (wrap64 ((rd t261 t264) + 1)))|((with_reducible refine gate_store (t:=3) (p:=41) rfl ?_);refine store_event (t:=3) (p:=41) (v:=?vo_w40) (w1:=(w38.setCell ⟨go32,(t264:Int).toNat,none⟩ (.int .i64 (wrap64 ((rd t261 t264) + 1))))) ?hg ?ho ?hn ?hr ?_;(case ho=>rfl);(case hg=>rfl);(case hn=>rfl);(case hr=>first|(go_simp;done)|(go_simp;rfl));intro w40 hw;have hg:w38.grownBy w40 (some go32):=(by rw [hw];exact HP39.2);have hp_:Kd.R (Kd.int .i64) 3 w40 w.heap.size (fun k_=>some k_ ≠ (.slice Ao34 t256.length co34:Value).ownBlock) (.slice (some ⟨go32,0,none⟩) t261.length co36) y282:=(by rw [hw,Ny282.out];exact HP39.1);clear HP39;replace HI0:=mk0 (IsS80.grown (by repeat (first|(with_reducible first|exact HI0.out|apply IsS80.alloc|apply IsS80.drewN|apply IsS80.drew|apply IsS80.set_1|apply IsS80.set_2)|exact HI0.out)) hg (IsS80.own_ne HI0.out HO263.out (by decide)));replace HO258:=mk0 (Kd.R_after (v:=(.slice (some ⟨go32,0,none⟩) t261.length co36)) (v1:=(.slice (some ⟨go32,0,none⟩) t261.length co36)) (ok:=(fun _=>True)) (rR HO258.out) hg (.inl rfl));replace HB:=mk0 ((by rw [hw];exact sZ (HB.out) (Nat.le_trans HL.out GB32.out):Below w0.heap.size w0 w40));replace HK:=mk0 (KeepBut.trans (by repeat (first|(with_reducible first|exact HK.out|apply KeepBut.set_|apply keep_drewN|apply keep_drew|apply keep_alloc)|exact HK.out)) (KeepBut.of_grown hg g) (Kd.R_base2 HO263.out));replace HO263:=mk0 (hp_);clear hg hw hp_))
  go_ret
  exact⟨_,by first|rfl|(simp [errW_none,errW_some] <;> rfl)|(simp only [← hji5];first|rfl|(simp [errW_none,errW_some] <;> rfl))|(simp [*,errW_none,errW_some] <;> rfl),rR (Kd.R_mono HO263.out (fun _ hk=>trivial)),by repeat (first|(with_reducible first|exact HI0.out|apply IsS80.alloc|apply IsS80.drewN|apply IsS80.drew|apply IsS80.set_1|apply IsS80.set_2)|exact HI0.out),by repeat (first|(with_reducible first|exact HB.out|apply aZ|apply nZ|apply dZ|refine sZ ?_ (IsS80.ge HI0.out))|exact HB.out),by repeat (first|(with_reducible first|exact HK.out|apply KeepBut.set_|apply keep_drewN|apply keep_drew|apply keep_alloc)|exact HK.out)⟩
 rw [if_neg c29] at H
 have c29b0:(t267 == 1) = false:=beq_eq_false_iff_ne.mpr c29
 have c29b1:(t267 != 1) = true:=bne_iff_ne.mpr c29
 by_cases c41:t267 = 2
 rotate_left
 ·rw [if_neg c41] at H
  have c41b0:(t267 == 2) = false:=beq_eq_false_iff_ne.mpr c41
  have c41b1:(t267 != 2) = true:=bne_iff_ne.mpr c41
  simp only [Option.some.injEq,Prod.mk.injEq] at H
  obtain⟨rfl,rfl,rfl⟩:=H
  go_enter Try.func34,Try.ntmps34
  go_wp2_with (first|((with_reducible refine gate_callee (f:=48) rfl ?_);refine goesL_ (some 8) rfl rfl Try.func48 (by kernel_rfl) rfl #[.pointer (some ⟨g,0,none⟩)] rfl (by (try simp only [mA,mC,mN]);first|done|rfl|(simp only [List.length_drop,List.length_take];done)|(simp only [List.length_drop,List.length_take];rfl)) ?_;(with_reducible refine (spec_l01Cur_countsOf.calls k g s0_0 s0_1 s0_2 t256 t259 t260 w0 _ ?side1 ?side2 A2.out).mono ?_);(case side1=>repeat (first|(with_reducible first|exact HI0.out|apply IsS80.alloc|apply IsS80.drewN|apply IsS80.drew|apply IsS80.set_1|apply IsS80.set_2)|exact HI0.out));(case side2=>repeat (first|(with_reducible first|exact HB.out|apply aZ|apply nZ|apply dZ|refine sZ ?_ (IsS80.ge HI0.out))|exact HB.out));rintro e w60 ⟨v257,rfl,ho0,hi,hb,hk⟩;refine⟨_,rfl,?_⟩;have HO258:=mk0 (Kd.R_lower ho0 (keep_size (w:=w) (g:=g) (row:=none) (by repeat (first|(with_reducible first|exact HK.out|apply KeepBut.set_|apply keep_drewN|apply keep_drew|apply keep_alloc)|exact HK.out))));replace HK:=mk0 (KeepBut.trans (by repeat (first|(with_reducible first|exact HK.out|apply KeepBut.set_|apply keep_drewN|apply keep_drew|apply keep_alloc)|exact HK.out)) hk (.inl rfl));replace HB:=mk0 (hb);replace HI0:=mk0 (hi);(try clear hb);(try clear hk);(try clear hi);(try clear ho0);obtain⟨Ao61,co61,eo61⟩:=Kd.R_slice HO258.out;subst eo61)|((with_reducible refine gate_callee (f:=21) rfl ?_);refine goesL_ (some 9) rfl rfl Try.func21 (by kernel_rfl) rfl #[.slice Ao61 t256.length co61] rfl (by (try simp only [mA,mC,mN]);first|done|rfl|(simp only [List.length_drop,List.length_take];done)|(simp only [List.length_drop,List.length_take];rfl)) ?_;(with_reducible refine (spec_HuffLens.calls k _ _ t256 t261 _ ?side1 ?side2 A3.out).mono ?_);(case side1=>exact kC (Kd.R_reads' HO258.out).2.2);(case side2=>exact (Kd.R_reads' HO258.out).2.1);rintro e w62 ⟨v262,rfl,ho0,hb⟩;refine⟨_,rfl,?_⟩;have HO263:=mk0 (Kd.R_lower (Kd.R_new' ho0 (Kd.R_lt (rR HO258.out))) (keep_size (w:=w) (g:=g) (row:=none) (by repeat (first|(with_reducible first|exact HK.out|apply KeepBut.set_|apply keep_drewN|apply keep_drew|apply keep_alloc)|exact HK.out))));replace HO258:=mk0 (Kd.R_elder' (rR HO258.out) (Kd.R_base ho0) hb);replace HK:=mk0 (KeepBut.trans (by repeat (first|(with_reducible first|exact HK.out|apply KeepBut.set_|apply keep_drewN|apply keep_drew|apply keep_alloc)|exact HK.out)) (KeepBut.of_below hb g none) (.inl rfl));replace HB:=mk0 (below_step (by repeat (first|(with_reducible first|exact HB.out|apply aZ|apply nZ|apply dZ|refine sZ ?_ (IsS80.ge HI0.out))|exact HB.out)) hb);replace HI0:=mk0 (IsS80.below (by repeat (first|(with_reducible first|exact HI0.out|apply IsS80.alloc|apply IsS80.drewN|apply IsS80.drew|apply IsS80.set_1|apply IsS80.set_2)|exact HI0.out)) hb);(try clear hb);(try clear ho0);obtain⟨Ao63,co63,eo63⟩:=Kd.R_slice HO263.out;subst eo63)|((with_reducible refine gate_callee (f:=65) rfl ?_);refine goesL_ (some 17) rfl rfl Try.func65 (by kernel_rfl) rfl #[.pointer (some ⟨g,0,none⟩),.int .i64 ji5] rfl (by (try simp only [mA,mC,mN]);first|done|(simp only [hji5];rfl)|rfl|(simp only [List.length_drop,List.length_take];done)|(simp only [List.length_drop,List.length_take];rfl)) ?_;(with_reducible refine (spec_l01Cur_pick.calls g s0_0 t259 t260 ji5 t264 t265 t266 w0 _ ?side1 ?side2 A6.out).mono ?_);(case side1=>repeat (first|(with_reducible first|exact HI0.out|apply IsS80.alloc|apply IsS80.drewN|apply IsS80.drew|apply IsS80.set_1|apply IsS80.set_2)|exact HI0.out));(case side2=>repeat (first|(with_reducible first|exact HB.out|apply aZ|apply nZ|apply dZ|refine sZ ?_ (IsS80.ge HI0.out))|exact HB.out));rintro e w64 ⟨rfl,hi,hb,hk⟩;refine⟨_,rfl,?_⟩;replace HO258:=mk0 (Kd.R_mono (Kd.R_keep (IsS80.apart (show IsS80 w0 _ g s0_0 t259 t260 from by repeat (first|(with_reducible first|exact HI0.out|apply IsS80.alloc|apply IsS80.drewN|apply IsS80.drew|apply IsS80.set_1|apply IsS80.set_2)|exact HI0.out)) (rR HO258.out) (by decide)) hk (fun _ h=>h.2)) (fun _ h=>h.1));replace HO263:=mk0 (Kd.R_mono (Kd.R_keep (IsS80.apart (show IsS80 w0 _ g s0_0 t259 t260 from by repeat (first|(with_reducible first|exact HI0.out|apply IsS80.alloc|apply IsS80.drewN|apply IsS80.drew|apply IsS80.set_1|apply IsS80.set_2)|exact HI0.out)) (rR HO263.out) (by decide)) hk (fun _ h=>h.2)) (fun _ h=>h.1));replace HK:=mk0 (KeepBut.trans (by repeat (first|(with_reducible first|exact HK.out|apply KeepBut.set_|apply keep_drewN|apply keep_drew|apply keep_alloc)|exact HK.out)) hk (.inl rfl));replace HB:=mk0 (hb);replace HI0:=mk0 (hi);(try clear hb);(try clear hk);(try clear hi))|((with_reducible refine gate_callee (f:=65) rfl ?_);refine goesL_ (some 19) rfl rfl Try.func65 (by kernel_rfl) rfl #[.pointer (some ⟨g,0,none⟩),.int .i64 10] rfl (by (try simp only [mA,mC,mN]);first|done|rfl|(simp only [List.length_drop,List.length_take];done)|(simp only [List.length_drop,List.length_take];rfl)) ?_;(with_reducible refine (spec_l01Cur_pick.calls g s0_0 t265 t266 10 t267 t268 t269 w0 _ ?side1 ?side2 A7.out).mono ?_);(case side1=>repeat (first|(with_reducible first|exact HI0.out|apply IsS80.alloc|apply IsS80.drewN|apply IsS80.drew|apply IsS80.set_1|apply IsS80.set_2)|exact HI0.out));(case side2=>repeat (first|(with_reducible first|exact HB.out|apply aZ|apply nZ|apply dZ|refine sZ ?_ (IsS80.ge HI0.out))|exact HB.out));rintro e w65 ⟨rfl,hi,hb,hk⟩;refine⟨_,rfl,?_⟩;replace HO258:=mk0 (Kd.R_mono (Kd.R_keep (IsS80.apart (show IsS80 w0 _ g s0_0 t265 t266 from by repeat (first|(with_reducible first|exact HI0.out|apply IsS80.alloc|apply IsS80.drewN|apply IsS80.drew|apply IsS80.set_1|apply IsS80.set_2)|exact HI0.out)) (rR HO258.out) (by decide)) hk (fun _ h=>h.2)) (fun _ h=>h.1));replace HO263:=mk0 (Kd.R_mono (Kd.R_keep (IsS80.apart (show IsS80 w0 _ g s0_0 t265 t266 from by repeat (first|(with_reducible first|exact HI0.out|apply IsS80.alloc|apply IsS80.drewN|apply IsS80.drew|apply IsS80.set_1|apply IsS80.set_2)|exact HI0.out)) (rR HO263.out) (by decide)) hk (fun _ h=>h.2)) (fun _ h=>h.1));replace HK:=mk0 (KeepBut.trans (by repeat (first|(with_reducible first|exact HK.out|apply KeepBut.set_|apply keep_drewN|apply keep_drew|apply keep_alloc)|exact HK.out)) hk (.inl rfl));replace HB:=mk0 (hb);replace HI0:=mk0 (hi);(try clear hb);(try clear hk);(try clear hi)))
  go_ret
  exact⟨_,by first|rfl|(simp [errW_none,errW_some] <;> rfl)|(simp only [← hji5];first|rfl|(simp [errW_none,errW_some] <;> rfl))|(simp [*,errW_none,errW_some] <;> rfl),rR (Kd.R_mono HO263.out (fun _ hk=>trivial)),by repeat (first|(with_reducible first|exact HI0.out|apply IsS80.alloc|apply IsS80.drewN|apply IsS80.drew|apply IsS80.set_1|apply IsS80.set_2)|exact HI0.out),by repeat (first|(with_reducible first|exact HB.out|apply aZ|apply nZ|apply dZ|refine sZ ?_ (IsS80.ge HI0.out))|exact HB.out),by repeat (first|(with_reducible first|exact HK.out|apply KeepBut.set_|apply keep_drewN|apply keep_drew|apply keep_alloc)|exact HK.out)⟩
 rw [if_pos c41] at H
 have c41b0:(t267 == 2) = true:=beq_iff_eq.mpr c41
 have c41b1:(t267 != 2) = false:=bne_eq_false_iff_eq.mpr c41
 clear c41
 replace H:=Option.bind_eq_some_iff.mp H
 obtain⟨⟨t283,t284,t285⟩,A420,H⟩:=H
 replace H:(if 0 ≤ t264 then (if t264 < (t261.length:Int) then (if 0 ≤ t283 then (if t283 < (t261.length:Int) then (some (((t261.set (t264:Int).toNat (rd t261 t283)).set (t283:Int).toNat (rd t261 t264)),t284,t285)) else (none)) else (none)) else (none)) else (none)) = some (r1,r2,r3):=H
 have A42:=mk0 A420
 clear A420
 by_cases c43:0 ≤ t264
 rotate_left
 ·rw [if_neg c43] at H
  exact absurd H (by simp)
 rw [if_pos c43] at H
 have c43b0:decide (0 ≤ t264) = true:=decide_eq_true c43
 clear c43
 by_cases c44:t264 < (t261.length:Int)
 rotate_left
 ·rw [if_neg c44] at H
  exact absurd H (by simp)
 rw [if_pos c44] at H
 have c44b0:decide (t264 < (t261.length:Int)) = true:=decide_eq_true c44
 clear c44
 by_cases c45:0 ≤ t283
 rotate_left
 ·rw [if_neg c45] at H
  exact absurd H (by simp)
 rw [if_pos c45] at H
 have c45b0:decide (0 ≤ t283) = true:=decide_eq_true c45
 clear c45
 by_cases c46:t283 < (t261.length:Int)
 rotate_left
 ·rw [if_neg c46] at H
  exact absurd H (by simp)
 rw [if_pos c46] at H
 have c46b0:decide (t283 < (t261.length:Int)) = true:=decide_eq_true c46
 clear c46
 obtain⟨y288,hy288⟩:∃ y_:List Int,y_ = (t261.set (t264:Int).toNat (rd t261 t283)):=⟨_,rfl⟩
 replace H:(some ((y288.set (t283:Int).toNat (rd t261 t264)),t284,t285)) = some (r1,r2,r3):=by first|(rw [hy288];with_reducible exact H)|(have H2_:=(Option.bind_some _ _).symm.trans H;rw [hy288];with_reducible exact H2_)|(have H2_:=(Option.bind_some _ _).symm.trans H;with_reducible exact H2_)|with_reducible exact H|(rw [hy288];exact H)|exact H
 have Ny288:=mk0 hy288
 clear hy288
 obtain⟨y289,hy289⟩:∃ y_:List Int,y_ = (y288.set (t283:Int).toNat (rd t261 t264)):=⟨_,rfl⟩
 replace H:(some (y289,t284,t285)) = some (r1,r2,r3):=by first|(rw [hy289];with_reducible exact H)|(have H2_:=(Option.bind_some _ _).symm.trans H;rw [hy289];with_reducible exact H2_)|(have H2_:=(Option.bind_some _ _).symm.trans H;with_reducible exact H2_)|with_reducible exact H|(rw [hy289];exact H)|exact H
 have Ny289:=mk0 hy289
 clear hy289
 simp only [Option.some.injEq,Prod.mk.injEq] at H
 obtain⟨rfl,rfl,rfl⟩:=H
 go_enter Try.func34,Try.ntmps34
 go_wp2_with (first|((with_reducible refine gate_callee (f:=48) rfl ?_);refine goesL_ (some 8) rfl rfl Try.func48 (by kernel_rfl) rfl #[.pointer (some ⟨g,0,none⟩)] rfl (by (try simp only [mA,mC,mN]);first|done|rfl|(simp only [List.length_drop,List.length_take];done)|(simp only [List.length_drop,List.length_take];rfl)) ?_;(with_reducible refine (spec_l01Cur_countsOf.calls k g s0_0 s0_1 s0_2 t256 t259 t260 w0 _ ?side1 ?side2 A2.out).mono ?_);(case side1=>repeat (first|(with_reducible first|exact HI0.out|apply IsS80.alloc|apply IsS80.drewN|apply IsS80.drew|apply IsS80.set_1|apply IsS80.set_2)|exact HI0.out));(case side2=>repeat (first|(with_reducible first|exact HB.out|apply aZ|apply nZ|apply dZ|refine sZ ?_ (IsS80.ge HI0.out))|exact HB.out));rintro e w49 ⟨v257,rfl,ho0,hi,hb,hk⟩;refine⟨_,rfl,?_⟩;have HO258:=mk0 (Kd.R_lower ho0 (keep_size (w:=w) (g:=g) (row:=none) (by repeat (first|(with_reducible first|exact HK.out|apply KeepBut.set_|apply keep_drewN|apply keep_drew|apply keep_alloc)|exact HK.out))));replace HK:=mk0 (KeepBut.trans (by repeat (first|(with_reducible first|exact HK.out|apply KeepBut.set_|apply keep_drewN|apply keep_drew|apply keep_alloc)|exact HK.out)) hk (.inl rfl));replace HB:=mk0 (hb);replace HI0:=mk0 (hi);(try clear hb);(try clear hk);(try clear hi);(try clear ho0);obtain⟨Ao50,co50,eo50⟩:=Kd.R_slice HO258.out;subst eo50)|((with_reducible refine gate_callee (f:=21) rfl ?_);refine goesL_ (some 9) rfl rfl Try.func21 (by kernel_rfl) rfl #[.slice Ao50 t256.length co50] rfl (by (try simp only [mA,mC,mN]);first|done|rfl|(simp only [List.length_drop,List.length_take];done)|(simp only [List.length_drop,List.length_take];rfl)) ?_;(with_reducible refine (spec_HuffLens.calls k _ _ t256 t261 _ ?side1 ?side2 A3.out).mono ?_);(case side1=>exact kC (Kd.R_reads' HO258.out).2.2);(case side2=>exact (Kd.R_reads' HO258.out).2.1);rintro e w51 ⟨v262,rfl,ho0,hb⟩;refine⟨_,rfl,?_⟩;have HO263:=mk0 (Kd.R_lower (Kd.R_new' ho0 (Kd.R_lt (rR HO258.out))) (keep_size (w:=w) (g:=g) (row:=none) (by repeat (first|(with_reducible first|exact HK.out|apply KeepBut.set_|apply keep_drewN|apply keep_drew|apply keep_alloc)|exact HK.out))));replace HO258:=mk0 (Kd.R_elder' (rR HO258.out) (Kd.R_base ho0) hb);replace HK:=mk0 (KeepBut.trans (by repeat (first|(with_reducible first|exact HK.out|apply KeepBut.set_|apply keep_drewN|apply keep_drew|apply keep_alloc)|exact HK.out)) (KeepBut.of_below hb g none) (.inl rfl));replace HB:=mk0 (below_step (by repeat (first|(with_reducible first|exact HB.out|apply aZ|apply nZ|apply dZ|refine sZ ?_ (IsS80.ge HI0.out))|exact HB.out)) hb);replace HI0:=mk0 (IsS80.below (by repeat (first|(with_reducible first|exact HI0.out|apply IsS80.alloc|apply IsS80.drewN|apply IsS80.drew|apply IsS80.set_1|apply IsS80.set_2)|exact HI0.out)) hb);(try clear hb);(try clear ho0);obtain⟨Ao52,co52,eo52⟩:=Kd.R_slice HO263.out;subst eo52)|((with_reducible refine gate_callee (f:=65) rfl ?_);refine goesL_ (some 17) rfl rfl Try.func65 (by kernel_rfl) rfl #[.pointer (some ⟨g,0,none⟩),.int .i64 ji5] rfl (by (try simp only [mA,mC,mN]);first|done|(simp only [hji5];rfl)|rfl|(simp only [List.length_drop,List.length_take];done)|(simp only [List.length_drop,List.length_take];rfl)) ?_;(with_reducible refine (spec_l01Cur_pick.calls g s0_0 t259 t260 ji5 t264 t265 t266 w0 _ ?side1 ?side2 A6.out).mono ?_);(case side1=>repeat (first|(with_reducible first|exact HI0.out|apply IsS80.alloc|apply IsS80.drewN|apply IsS80.drew|apply IsS80.set_1|apply IsS80.set_2)|exact HI0.out));(case side2=>repeat (first|(with_reducible first|exact HB.out|apply aZ|apply nZ|apply dZ|refine sZ ?_ (IsS80.ge HI0.out))|exact HB.out));rintro e w53 ⟨rfl,hi,hb,hk⟩;refine⟨_,rfl,?_⟩;replace HO258:=mk0 (Kd.R_mono (Kd.R_keep (IsS80.apart (show IsS80 w0 _ g s0_0 t259 t260 from by repeat (first|(with_reducible first|exact HI0.out|apply IsS80.alloc|apply IsS80.drewN|apply IsS80.drew|apply IsS80.set_1|apply IsS80.set_2)|exact HI0.out)) (rR HO258.out) (by decide)) hk (fun _ h=>h.2)) (fun _ h=>h.1));replace HO263:=mk0 (Kd.R_mono (Kd.R_keep (IsS80.apart (show IsS80 w0 _ g s0_0 t259 t260 from by repeat (first|(with_reducible first|exact HI0.out|apply IsS80.alloc|apply IsS80.drewN|apply IsS80.drew|apply IsS80.set_1|apply IsS80.set_2)|exact HI0.out)) (rR HO263.out) (by decide)) hk (fun _ h=>h.2)) (fun _ h=>h.1));replace HK:=mk0 (KeepBut.trans (by repeat (first|(with_reducible first|exact HK.out|apply KeepBut.set_|apply keep_drewN|apply keep_drew|apply keep_alloc)|exact HK.out)) hk (.inl rfl));replace HB:=mk0 (hb);replace HI0:=mk0 (hi);(try clear hb);(try clear hk);(try clear hi))|((with_reducible refine gate_callee (f:=65) rfl ?_);refine goesL_ (some 19) rfl rfl Try.func65 (by kernel_rfl) rfl #[.pointer (some ⟨g,0,none⟩),.int .i64 10] rfl (by (try simp only [mA,mC,mN]);first|done|rfl|(simp only [List.length_drop,List.length_take];done)|(simp only [List.length_drop,List.length_take];rfl)) ?_;(with_reducible refine (spec_l01Cur_pick.calls g s0_0 t265 t266 10 t267 t268 t269 w0 _ ?side1 ?side2 A7.out).mono ?_);(case side1=>repeat (first|(with_reducible first|exact HI0.out|apply IsS80.alloc|apply IsS80.drewN|apply IsS80.drew|apply IsS80.set_1|apply IsS80.set_2)|exact HI0.out));(case side2=>repeat (first|(with_reducible first|exact HB.out|apply aZ|apply nZ|apply dZ|refine sZ ?_ (IsS80.ge HI0.out))|exact HB.out));rintro e w54 ⟨rfl,hi,hb,hk⟩;refine⟨_,rfl,?_⟩;replace HO258:=mk0 (Kd.R_mono (Kd.R_keep (IsS80.apart (show IsS80 w0 _ g s0_0 t265 t266 from by repeat (first|(with_reducible first|exact HI0.out|apply IsS80.alloc|apply IsS80.drewN|apply IsS80.drew|apply IsS80.set_1|apply IsS80.set_2)|exact HI0.out)) (rR HO258.out) (by decide)) hk (fun _ h=>h.2)) (fun _ h=>h.1));replace HO263:=mk0 (Kd.R_mono (Kd.R_keep (IsS80.apart (show IsS80 w0 _ g s0_0 t265 t266 from by repeat (first|(with_reducible first|exact HI0.out|apply IsS80.alloc|apply IsS80.drewN|apply IsS80.drew|apply IsS80.set_1|apply IsS80.set_2)|exact HI0.out)) (rR HO263.out) (by decide)) hk (fun _ h=>h.2)) (fun _ h=>h.1));replace HK:=mk0 (KeepBut.trans (by repeat (first|(with_reducible first|exact HK.out|apply KeepBut.set_|apply keep_drewN|apply keep_drew|apply keep_alloc)|exact HK.out)) hk (.inl rfl));replace HB:=mk0 (hb);replace HI0:=mk0 (hi);(try clear hb);(try clear hk);(try clear hi))|((with_reducible refine gate_callee (f:=65) rfl ?_);refine goesL_ (some 48) rfl rfl Try.func65 (by kernel_rfl) rfl #[.pointer (some ⟨g,0,none⟩),.int .i64 ji5] rfl (by (try simp only [mA,mC,mN]);first|done|(simp only [hji5];rfl)|rfl|(simp only [List.length_drop,List.length_take];done)|(simp only [List.length_drop,List.length_take];rfl)) ?_;(with_reducible refine (spec_l01Cur_pick.calls g s0_0 t268 t269 ji5 t283 t284 t285 w0 _ ?side1 ?side2 A42.out).mono ?_);(case side1=>repeat (first|(with_reducible first|exact HI0.out|apply IsS80.alloc|apply IsS80.drewN|apply IsS80.drew|apply IsS80.set_1|apply IsS80.set_2)|exact HI0.out));(case side2=>repeat (first|(with_reducible first|exact HB.out|apply aZ|apply nZ|apply dZ|refine sZ ?_ (IsS80.ge HI0.out))|exact HB.out));rintro e w55 ⟨rfl,hi,hb,hk⟩;refine⟨_,rfl,?_⟩;replace HO258:=mk0 (Kd.R_mono (Kd.R_keep (IsS80.apart (show IsS80 w0 _ g s0_0 t268 t269 from by repeat (first|(with_reducible first|exact HI0.out|apply IsS80.alloc|apply IsS80.drewN|apply IsS80.drew|apply IsS80.set_1|apply IsS80.set_2)|exact HI0.out)) (rR HO258.out) (by decide)) hk (fun _ h=>h.2)) (fun _ h=>h.1));replace HO263:=mk0 (Kd.R_mono (Kd.R_keep (IsS80.apart (show IsS80 w0 _ g s0_0 t268 t269 from by repeat (first|(with_reducible first|exact HI0.out|apply IsS80.alloc|apply IsS80.drewN|apply IsS80.drew|apply IsS80.set_1|apply IsS80.set_2)|exact HI0.out)) (rR HO263.out) (by decide)) hk (fun _ h=>h.2)) (fun _ h=>h.1));replace HK:=mk0 (KeepBut.trans (by repeat (first|(with_reducible first|exact HK.out|apply KeepBut.set_|apply keep_drewN|apply keep_drew|apply keep_alloc)|exact HK.out)) hk (.inl rfl));replace HB:=mk0 (hb);replace HI0:=mk0 (hi);(try clear hb);(try clear hk);(try clear hi);have p286:0 ≤ (t264:Int):=of_decide_eq_true (by first|(with_reducible assumption)|assumption);have q286:t264 < (t261.length:Int):=of_decide_eq_true (by first|(with_reducible assumption)|assumption);obtain⟨ad286,e286,hx286_0⟩:=Kd.at_int (Kd.R_reads' HO263.out).2.2 t264 p286 q286;cases e286;replace p286:=eq_true p286;replace q286:=eq_true q286;have p287:0 ≤ (t283:Int):=of_decide_eq_true (by first|(with_reducible assumption)|assumption);have q287:t283 < (t261.length:Int):=of_decide_eq_true (by first|(with_reducible assumption)|assumption);obtain⟨ad287,e287,hx287_0⟩:=Kd.at_int (Kd.R_reads' HO263.out).2.2 t283 p287 q287;obtain rfl:ad286 = ad287:=(by injection e287);replace p287:=eq_true p287;replace q287:=eq_true q287;have p47:0 ≤ (t264:Int):=of_decide_eq_true (by first|(with_reducible assumption)|assumption);have q47:(t264:Int) < ((t261.length:Int):Int):=of_decide_eq_true (by first|(with_reducible assumption)|assumption);obtain⟨go47,co47,eo47,gb47,gl47,cl47,HG47⟩:=Kd.R_form HO263.out (by omega);(first|cases eo47|(injection eo47 with ea_ en_ ec_;(first|subst ea_|(injection ea_ with ea_;subst ea_));subst ec_;clear en_));have GB47:=mk0 gb47;have GG47:=mk0 HG47;clear gb47 gl47 HG47;(first|simp only [add_plain] at hx286_0|skip);(first|simp only [add_plain] at hx287_0|skip);obtain⟨hx47_0,hf47_0⟩:=Kd.R_celln 0 HO263.out (t264:Int) p47 q47;replace p47:=eq_true p47;replace q47:=eq_true q47;have n_:=mk0 (Kd.R_mono (ok':=(fun k_=>some k_ ≠ (.slice Ao50 t256.length co50:Value).ownBlock)) HO263.out (fun k_ hk=>hk.2));clear HO263;have HO263:=n_;clear n_;obtain⟨hy56_,hz56_⟩:=Kd.R_celln 0 HO263.out (t264:Int) (of_decide_eq_true (by first|(with_reducible assumption)|assumption)) (of_decide_eq_true (by first|(with_reducible assumption)|assumption));have HP56:=Kd.R_putg HO263.out (t264:Int) (rd t261 t283))|((with_reducible refine gate_store (t:=3) (p:=59) rfl ?_);refine store_event (t:=3) (p:=59) (v:=?vo_w57) (w1:=(w55.setCell ⟨go47,(t264:Int).toNat,none⟩ (.int .i64 (rd t261 t283)))) ?hg ?ho ?hn ?hr ?_;(case ho=>rfl);(case hg=>rfl);(case hn=>rfl);(case hr=>first|(go_simp;done)|(go_simp;rfl));intro w57 hw;have hg:w55.grownBy w57 (some go47):=(by rw [hw];exact HP56.2);have hp_:Kd.R (Kd.int .i64) 3 w57 w.heap.size (fun k_=>some k_ ≠ (.slice Ao50 t256.length co50:Value).ownBlock) (.slice (some ⟨go47,0,none⟩) t261.length co52) y288:=(by rw [hw,Ny288.out];exact HP56.1);clear HP56;replace HI0:=mk0 (IsS80.grown (by repeat (first|(with_reducible first|exact HI0.out|apply IsS80.alloc|apply IsS80.drewN|apply IsS80.drew|apply IsS80.set_1|apply IsS80.set_2)|exact HI0.out)) hg (IsS80.own_ne HI0.out HO263.out (by decide)));replace HO258:=mk0 (Kd.R_after (v:=(.slice (some ⟨go47,0,none⟩) t261.length co52)) (v1:=(.slice (some ⟨go47,0,none⟩) t261.length co52)) (ok:=(fun _=>True)) (rR HO258.out) hg (.inl rfl));replace HB:=mk0 ((by rw [hw];exact sZ (HB.out) (Nat.le_trans HL.out GB47.out):Below w0.heap.size w0 w57));replace HK:=mk0 (KeepBut.trans (by repeat (first|(with_reducible first|exact HK.out|apply KeepBut.set_|apply keep_drewN|apply keep_drew|apply keep_alloc)|exact HK.out)) (KeepBut.of_grown hg g) (Kd.R_base2 HO263.out));replace HO263:=mk0 (hp_);clear hg hw hp_;have p48:0 ≤ (t283:Int):=of_decide_eq_true (by first|(with_reducible assumption)|assumption);have q48:(t283:Int) < ((t261.length:Int):Int):=of_decide_eq_true (by first|(with_reducible assumption)|assumption);obtain⟨hx48_0,hf48_0⟩:=Kd.R_celln 0 HO263.out (t283:Int) p48 q48;replace p48:=eq_true p48;replace q48:=eq_true q48;obtain⟨hy58_,hz58_⟩:=Kd.R_celln 0 HO263.out (t283:Int) (of_decide_eq_true (by first|(with_reducible assumption)|assumption)) (of_decide_eq_true (by first|(with_reducible assumption)|assumption));have HP58:=Kd.R_putg HO263.out (t283:Int) (rd t261 t264))|((with_reducible refine gate_store (t:=3) (p:=63) rfl ?_);refine store_event (t:=3) (p:=63) (v:=?vo_w59) (w1:=(w57.setCell ⟨go47,(t283:Int).toNat,none⟩ (.int .i64 (rd t261 t264)))) ?hg ?ho ?hn ?hr ?_;(case ho=>rfl);(case hg=>rfl);(case hn=>rfl);(case hr=>first|(go_simp;done)|(go_simp;rfl));intro w59 hw;have hg:w57.grownBy w59 (some go47):=(by rw [hw];exact HP58.2);have hp_:Kd.R (Kd.int .i64) 3 w59 w.heap.size (fun k_=>some k_ ≠ (.slice Ao50 t256.length co50:Value).ownBlock) (.slice (some ⟨go47,0,none⟩) t261.length co52) y289:=(by rw [hw,Ny289.out];exact HP58.1);clear HP58;replace HI0:=mk0 (IsS80.grown (by repeat (first|(with_reducible first|exact HI0.out|apply IsS80.alloc|apply IsS80.drewN|apply IsS80.drew|apply IsS80.set_1|apply IsS80.set_2)|exact HI0.out)) hg (IsS80.own_ne HI0.out HO263.out (by decide)));replace HO258:=mk0 (Kd.R_after (v:=(.slice (some ⟨go47,0,none⟩) t261.length co52)) (v1:=(.slice (some ⟨go47,0,none⟩) t261.length co52)) (ok:=(fun _=>True)) (rR HO258.out) hg (.inl rfl));replace HB:=mk0 ((by rw [hw];exact sZ (HB.out) (Nat.le_trans HL.out GB47.out):Below w0.heap.size w0 w59));replace HK:=mk0 (KeepBut.trans (by repeat (first|(with_reducible first|exact HK.out|apply KeepBut.set_|apply keep_drewN|apply keep_drew|apply keep_alloc)|exact HK.out)) (KeepBut.of_grown hg g) (Kd.R_base2 HO263.out));replace HO263:=mk0 (hp_);clear hg hw hp_))
 go_ret
 exact⟨_,by first|rfl|(simp [errW_none,errW_some] <;> rfl)|(simp only [← hji5];first|rfl|(simp [errW_none,errW_some] <;> rfl))|(simp [*,errW_none,errW_some] <;> rfl),rR (Kd.R_mono HO263.out (fun _ hk=>trivial)),by repeat (first|(with_reducible first|exact HI0.out|apply IsS80.alloc|apply IsS80.drewN|apply IsS80.drew|apply IsS80.set_1|apply IsS80.set_2)|exact HI0.out),by repeat (first|(with_reducible first|exact HB.out|apply aZ|apply nZ|apply dZ|refine sZ ?_ (IsS80.ge HI0.out))|exact HB.out),by repeat (first|(with_reducible first|exact HK.out|apply KeepBut.set_|apply keep_drewN|apply keep_drew|apply keep_alloc)|exact HK.out)⟩
/-! ### spec_DrawHuffSize: function 20 -/
def spec_DrawHuffSize.f (k : Nat) (l0 : List Int) : Option (List Int × List Int) := (spec_l01Open.f l0).bind fun bt290 => ((spec_l01Cur_countsOf.f k bt290.1 bt290.2.1 bt290.2.2).bind fun bt294 => ((spec_HuffLens.f k bt294.1).bind fun t299 => ((spec_l01Cur_once.f bt290.1 bt294.2.1 bt294.2.2 3).bind fun bt302 => (if bt302.1 = true then ((spec_l01Cur_lensOf.f k bt290.1 bt302.2.1 bt302.2.2).bind fun bt305 => (some (bt294.1, bt305.1))) else (some (bt294.1, t299))))))
theorem spec_DrawHuffSize.mono : ∀ a0 k, LeO (spec_DrawHuffSize.f k a0) (spec_DrawHuffSize.f (k + 1) a0) := by
 intro a0 k
 unfold spec_DrawHuffSize.f
 repeat' first|(with_reducible first|exact spec_HuffLens.mono _ _|exact spec_l01Cur_countsOf.mono _ _ _ _|exact spec_l01Cur_lensOf.mono _ _ _ _|exact LeO.refl _|exact LeO.none _|refine LeO.ite ?_ ?_|refine LeO.bind ?_ (fun _ => ?_))|exact LeO.none _|refine LeO.ite ?_ ?_|refine LeO.bind ?_ (fun _ => ?_)
set_option maxHeartbeats 8000000 in
set_option maxRecDepth 100000 in
theorem spec_DrawHuffSize.calls (k : Nat) (A0 : Option Addr) (c0 : Nat) (l0 : List Int) (r1 : List Int) (r2 : List Int) (w : World) (hr0 : Kd.C (Kd.int .u8) w A0 l0.length l0) (hc0 : l0.length ≤ c0) (h : spec_DrawHuffSize.f k l0 = some (r1, r2)) :
  Calls Try.prog 20 #[.slice A0 l0.length c0] w fun e w' => ∃ v0_ v1_ : Value, e = .returned (.tuple #[v0_, v1_]) ∧ Kd.R (Kd.int .i64) 3 w' w.heap.size (fun k_ => some k_ ≠ (v1_ : Value).ownBlock) v0_ r1 ∧ Kd.R (Kd.int .i64) 3 w' w.heap.size (fun k_ => some k_ ≠ (v0_ : Value).ownBlock) v1_ r2 ∧ Below w.heap.size w w' := by
 have HR0:=mk0 hr0
 have HC0:=mk0 hc0
 clear hr0 hc0
 have HB:=mk0 (Below.refl w.heap.size w)
 have H:((spec_l01Open.f l0).bind fun bt290=>((spec_l01Cur_countsOf.f k bt290.1 bt290.2.1 bt290.2.2).bind fun bt294=>((spec_HuffLens.f k bt294.1).bind fun t299=>((spec_l01Cur_once.f bt290.1 bt294.2.1 bt294.2.2 3).bind fun bt302=>(if bt302.1 = true then ((spec_l01Cur_lensOf.f k bt290.1 bt302.2.1 bt302.2.2).bind fun bt305=>(some (bt294.1,bt305.1))) else (some (bt294.1,t299))))))) = some (r1,r2):=h
 clear h
 replace H:=Option.bind_eq_some_iff.mp H
 obtain⟨⟨t290,t291,t292⟩,A20,H⟩:=H
 replace H:((spec_l01Cur_countsOf.f k t290 t291 t292).bind fun bt294=>((spec_HuffLens.f k bt294.1).bind fun t299=>((spec_l01Cur_once.f t290 bt294.2.1 bt294.2.2 3).bind fun bt302=>(if bt302.1 = true then ((spec_l01Cur_lensOf.f k t290 bt302.2.1 bt302.2.2).bind fun bt305=>(some (bt294.1,bt305.1))) else (some (bt294.1,t299)))))) = some (r1,r2):=H
 have A2:=mk0 A20
 clear A20
 replace H:=Option.bind_eq_some_iff.mp H
 obtain⟨⟨t294,t297,t298⟩,A30,H⟩:=H
 replace H:((spec_HuffLens.f k t294).bind fun t299=>((spec_l01Cur_once.f t290 t297 t298 3).bind fun bt302=>(if bt302.1 = true then ((spec_l01Cur_lensOf.f k t290 bt302.2.1 bt302.2.2).bind fun bt305=>(some (t294,bt305.1))) else (some (t294,t299))))) = some (r1,r2):=H
 have A3:=mk0 A30
 clear A30
 replace H:=Option.bind_eq_some_iff.mp H
 obtain⟨t299,A40,H⟩:=H
 replace H:((spec_l01Cur_once.f t290 t297 t298 3).bind fun bt302=>(if bt302.1 = true then ((spec_l01Cur_lensOf.f k t290 bt302.2.1 bt302.2.2).bind fun bt305=>(some (t294,bt305.1))) else (some (t294,t299)))) = some (r1,r2):=H
 have A4:=mk0 A40
 clear A40
 replace H:=Option.bind_eq_some_iff.mp H
 obtain⟨⟨t302,t303,t304⟩,A50,H⟩:=H
 replace H:(if t302 = true then ((spec_l01Cur_lensOf.f k t290 t303 t304).bind fun bt305=>(some (t294,bt305.1))) else (some (t294,t299))) = some (r1,r2):=H
 have A5:=mk0 A50
 clear A50
 by_cases c6:t302 = true
 rotate_left
 ·replace c6:=Bool.eq_false_iff.mpr c6
  subst c6
  have H1:(some (t294,t299)) = some (r1,r2):=by rw [if_neg (show ¬ (false = true) by decide)] at H;exact H
  clear H
  have H:=H1
  clear H1
  simp only [Option.some.injEq,Prod.mk.injEq] at H
  obtain⟨rfl,rfl⟩:=H
  go_enter Try.func20,Try.ntmps20
  go_wp2_with (first|((with_reducible refine gate_callee (f:=33) rfl ?_);refine goesL_ (some 8) rfl rfl Try.func33 (by kernel_rfl) rfl #[.slice A0 l0.length c0] rfl (by (try simp only [mA,mC,mN]);first|done|rfl|(simp only [List.length_drop,List.length_take];done)|(simp only [List.length_drop,List.length_take];rfl)) ?_;(with_reducible refine (spec_l01Open.calls _ _ l0 t290 t291 t292 w _ ?side1 ?side2 ?side3 A2.out).mono ?_);(case side1=>repeat (first|(with_reducible first|exact HB.out|apply aZ|apply nZ|apply dZ)|exact HB.out));(case side2=>exact HR0.out);(case side3=>exact HC0.out);rintro e w14 ⟨g293,rfl,hi,hb,hb2⟩;refine⟨_,rfl,?_⟩;replace HB:=mk0 (hb);have HI293:=mk0 (hi);(try clear hb);(try clear hb2);(try clear hi))|((with_reducible refine gate_callee (f:=48) rfl ?_);refine goesL_ (some 10) rfl rfl Try.func48 (by kernel_rfl) rfl #[.pointer (some ⟨g293,0,none⟩)] rfl (by (try simp only [mA,mC,mN]);first|done|rfl|(simp only [List.length_drop,List.length_take];done)|(simp only [List.length_drop,List.length_take];rfl)) ?_;(with_reducible refine (spec_l01Cur_countsOf.calls k g293 t290 t291 t292 t294 t297 t298 w _ ?side1 ?side2 A3.out).mono ?_);(case side1=>repeat (first|(with_reducible first|exact HI293.out|apply IsS80.alloc|apply IsS80.drewN|apply IsS80.drew|apply IsS80.set_1|apply IsS80.set_2)|exact HI293.out));(case side2=>repeat (first|(with_reducible first|exact HB.out|apply aZ|apply nZ|apply dZ|refine sZ ?_ (IsS80.ge HI293.out))|exact HB.out));rintro e w15 ⟨v295,rfl,ho0,hi,hb,hk⟩;refine⟨_,rfl,?_⟩;have HO296:=mk0 (Kd.R_lower ho0 (below_size (by repeat (first|(with_reducible first|exact HB.out|apply aZ|apply nZ|apply dZ|refine sZ ?_ (IsS80.ge HI293.out))|exact HB.out))));replace HB:=mk0 (hb);replace HI293:=mk0 (hi);(try clear hb);(try clear hk);(try clear hi);(try clear ho0);obtain⟨Ao16,co16,eo16⟩:=Kd.R_slice HO296.out;subst eo16)|((with_reducible refine gate_callee (f:=21) rfl ?_);refine goesL_ (some 12) rfl rfl Try.func21 (by kernel_rfl) rfl #[.slice Ao16 t294.length co16] rfl (by (try simp only [mA,mC,mN]);first|done|rfl|(simp only [List.length_drop,List.length_take];done)|(simp only [List.length_drop,List.length_take];rfl)) ?_;(with_reducible refine (spec_HuffLens.calls k _ _ t294 t299 _ ?side1 ?side2 A4.out).mono ?_);(case side1=>exact kC (Kd.R_reads' HO296.out).2.2);(case side2=>exact (Kd.R_reads' HO296.out).2.1);rintro e w17 ⟨v300,rfl,ho0,hb⟩;refine⟨_,rfl,?_⟩;have HO301:=mk0 (Kd.R_lower (Kd.R_new' ho0 (Kd.R_lt (rR HO296.out))) (below_size (by repeat (first|(with_reducible first|exact HB.out|apply aZ|apply nZ|apply dZ|refine sZ ?_ (IsS80.ge HI293.out))|exact HB.out))));replace HO296:=mk0 (Kd.R_elder' (rR HO296.out) (Kd.R_base ho0) hb);replace HB:=mk0 (below_step (by repeat (first|(with_reducible first|exact HB.out|apply aZ|apply nZ|apply dZ|refine sZ ?_ (IsS80.ge HI293.out))|exact HB.out)) hb);replace HI293:=mk0 (IsS80.below (by repeat (first|(with_reducible first|exact HI293.out|apply IsS80.alloc|apply IsS80.drewN|apply IsS80.drew|apply IsS80.set_1|apply IsS80.set_2)|exact HI293.out)) hb);(try clear hb);(try clear ho0))|((with_reducible refine gate_callee (f:=49) rfl ?_);refine goesL_ (some 14) rfl rfl Try.func49 (by kernel_rfl) rfl #[.pointer (some ⟨g293,0,none⟩),.int .i64 3] rfl (by (try simp only [mA,mC,mN]);first|done|rfl|(simp only [List.length_drop,List.length_take];done)|(simp only [List.length_drop,List.length_take];rfl)) ?_;(with_reducible refine (spec_l01Cur_once.calls g293 t290 t297 t298 3 false t303 t304 w _ ?side1 ?side2 A5.out).mono ?_);(case side1=>repeat (first|(with_reducible first|exact HI293.out|apply IsS80.alloc|apply IsS80.drewN|apply IsS80.drew|apply IsS80.set_1|apply IsS80.set_2)|exact HI293.out));(case side2=>repeat (first|(with_reducible first|exact HB.out|apply aZ|apply nZ|apply dZ|refine sZ ?_ (IsS80.ge HI293.out))|exact HB.out));rintro e w18 ⟨rfl,hi,hb,hk⟩;refine⟨_,rfl,?_⟩;replace HO296:=mk0 (Kd.R_mono (Kd.R_keep (IsS80.apart (show IsS80 w _ g293 t290 t297 t298 from by repeat (first|(with_reducible first|exact HI293.out|apply IsS80.alloc|apply IsS80.drewN|apply IsS80.drew|apply IsS80.set_1|apply IsS80.set_2)|exact HI293.out)) (rR HO296.out) (by decide)) hk (fun _ h=>h.2)) (fun _ h=>h.1));replace HO301:=mk0 (Kd.R_mono (Kd.R_keep (IsS80.apart (show IsS80 w _ g293 t290 t297 t298 from by repeat (first|(with_reducible first|exact HI293.out|apply IsS80.alloc|apply IsS80.drewN|apply IsS80.drew|apply IsS80.set_1|apply IsS80.set_2)|exact HI293.out)) (rR HO301.out) (by decide)) hk (fun _ h=>h.2)) (fun _ h=>h.1));replace HB:=mk0 (hb);replace HI293:=mk0 (hi);(try clear hb);(try clear hk);(try clear hi)))
  go_ret2
  exact⟨_,_,by first|rfl|(simp [errW_none,errW_some] <;> rfl)|(simp [*,errW_none,errW_some] <;> rfl),by (with_reducible repeat (first|apply aR|apply nR|apply dR));exact Kd.R_mono HO296.out (by first|exact fun _ hk=>hk.2|(intro k_ hk;simp only [hk,ne_eq,and_self,not_false_eq_true])),by (with_reducible repeat (first|apply aR|apply nR|apply dR));exact Kd.R_mono HO301.out (by first|exact fun _ hk=>hk.2|(intro k_ hk;simp only [hk,ne_eq,and_self,not_false_eq_true])),by repeat (first|(with_reducible first|exact HB.out|apply aZ|apply nZ|apply dZ|refine sZ ?_ (IsS80.ge HI293.out))|exact HB.out)⟩

 subst c6
 have H1:((spec_l01Cur_lensOf.f k t290 t303 t304).bind fun bt305=>(some (t294,bt305.1))) = some (r1,r2):=by rw [if_pos rfl] at H;exact H
 clear H
 have H:=H1
 clear H1
 replace H:=Option.bind_eq_some_iff.mp H
 obtain⟨⟨t305,t308,t309⟩,A70,H⟩:=H
 replace H:(some (t294,t305)) = some (r1,r2):=H
 have A7:=mk0 A70
 clear A70
 simp only [Option.some.injEq,Prod.mk.injEq] at H
 obtain⟨rfl,rfl⟩:=H
 go_enter Try.func20,Try.ntmps20
 go_wp2_with (first|((with_reducible refine gate_callee (f:=33) rfl ?_);refine goesL_ (some 8) rfl rfl Try.func33 (by kernel_rfl) rfl #[.slice A0 l0.length c0] rfl (by (try simp only [mA,mC,mN]);first|done|rfl|(simp only [List.length_drop,List.length_take];done)|(simp only [List.length_drop,List.length_take];rfl)) ?_;(with_reducible refine (spec_l01Open.calls _ _ l0 t290 t291 t292 w _ ?side1 ?side2 ?side3 A2.out).mono ?_);(case side1=>repeat (first|(with_reducible first|exact HB.out|apply aZ|apply nZ|apply dZ)|exact HB.out));(case side2=>exact HR0.out);(case side3=>exact HC0.out);rintro e w8 ⟨g293,rfl,hi,hb,hb2⟩;refine⟨_,rfl,?_⟩;replace HB:=mk0 (hb);have HI293:=mk0 (hi);(try clear hb);(try clear hb2);(try clear hi))|((with_reducible refine gate_callee (f:=48) rfl ?_);refine goesL_ (some 10) rfl rfl Try.func48 (by kernel_rfl) rfl #[.pointer (some ⟨g293,0,none⟩)] rfl (by (try simp only [mA,mC,mN]);first|done|rfl|(simp only [List.length_drop,List.length_take];done)|(simp only [List.length_drop,List.length_take];rfl)) ?_;(with_reducible refine (spec_l01Cur_countsOf.calls k g293 t290 t291 t292 t294 t297 t298 w _ ?side1 ?side2 A3.out).mono ?_);(case side1=>repeat (first|(with_reducible first|exact HI293.out|apply IsS80.alloc|apply IsS80.drewN|apply IsS80.drew|apply IsS80.set_1|apply IsS80.set_2)|exact HI293.out));(case side2=>repeat (first|(with_reducible first|exact HB.out|apply aZ|apply nZ|apply dZ|refine sZ ?_ (IsS80.ge HI293.out))|exact HB.out));rintro e w9 ⟨v295,rfl,ho0,hi,hb,hk⟩;refine⟨_,rfl,?_⟩;have HO296:=mk0 (Kd.R_lower ho0 (below_size (by repeat (first|(with_reducible first|exact HB.out|apply aZ|apply nZ|apply dZ|refine sZ ?_ (IsS80.ge HI293.out))|exact HB.out))));replace HB:=mk0 (hb);replace HI293:=mk0 (hi);(try clear hb);(try clear hk);(try clear hi);(try clear ho0);obtain⟨Ao10,co10,eo10⟩:=Kd.R_slice HO296.out;subst eo10)|((with_reducible refine gate_callee (f:=21) rfl ?_);refine goesL_ (some 12) rfl rfl Try.func21 (by kernel_rfl) rfl #[.slice Ao10 t294.length co10] rfl (by (try simp only [mA,mC,mN]);first|done|rfl|(simp only [List.length_drop,List.length_take];done)|(simp only [List.length_drop,List.length_take];rfl)) ?_;(with_reducible refine (spec_HuffLens.calls k _ _ t294 t299 _ ?side1 ?side2 A4.out).mono ?_);(case side1=>exact kC (Kd.R_reads' HO296.out).2.2);(case side2=>exact (Kd.R_reads' HO296.out).2.1);rintro e w11 ⟨v300,rfl,ho0,hb⟩;refine⟨_,rfl,?_⟩;have HO301:=mk0 (Kd.R_lower (Kd.R_new' ho0 (Kd.R_lt (rR HO296.out))) (below_size (by repeat (first|(with_reducible first|exact HB.out|apply aZ|apply nZ|apply dZ|refine sZ ?_ (IsS80.ge HI293.out))|exact HB.out))));replace HO296:=mk0 (Kd.R_elder' (rR HO296.out) (Kd.R_base ho0) hb);replace HB:=mk0 (below_step (by repeat (first|(with_reducible first|exact HB.out|apply aZ|apply nZ|apply dZ|refine sZ ?_ (IsS80.ge HI293.out))|exact HB.out)) hb);replace HI293:=mk0 (IsS80.below (by repeat (first|(with_reducible first|exact HI293.out|apply IsS80.alloc|apply IsS80.drewN|apply IsS80.drew|apply IsS80.set_1|apply IsS80.set_2)|exact HI293.out)) hb);(try clear hb);(try clear ho0))|((with_reducible refine gate_callee (f:=49) rfl ?_);refine goesL_ (some 14) rfl rfl Try.func49 (by kernel_rfl) rfl #[.pointer (some ⟨g293,0,none⟩),.int .i64 3] rfl (by (try simp only [mA,mC,mN]);first|done|rfl|(simp only [List.length_drop,List.length_take];done)|(simp only [List.length_drop,List.length_take];rfl)) ?_;(with_reducible refine (spec_l01Cur_once.calls g293 t290 t297 t298 3 true t303 t304 w _ ?side1 ?side2 A5.out).mono ?_);(case side1=>repeat (first|(with_reducible first|exact HI293.out|apply IsS80.alloc|apply IsS80.drewN|apply IsS80.drew|apply IsS80.set_1|apply IsS80.set_2)|exact HI293.out));(case side2=>repeat (first|(with_reducible first|exact HB.out|apply aZ|apply nZ|apply dZ|refine sZ ?_ (IsS80.ge HI293.out))|exact HB.out));rintro e w12 ⟨rfl,hi,hb,hk⟩;refine⟨_,rfl,?_⟩;replace HO296:=mk0 (Kd.R_mono (Kd.R_keep (IsS80.apart (show IsS80 w _ g293 t290 t297 t298 from by repeat (first|(with_reducible first|exact HI293.out|apply IsS80.alloc|apply IsS80.drewN|apply IsS80.drew|apply IsS80.set_1|apply IsS80.set_2)|exact HI293.out)) (rR HO296.out) (by decide)) hk (fun _ h=>h.2)) (fun _ h=>h.1));replace HO301:=mk0 (Kd.R_mono (Kd.R_keep (IsS80.apart (show IsS80 w _ g293 t290 t297 t298 from by repeat (first|(with_reducible first|exact HI293.out|apply IsS80.alloc|apply IsS80.drewN|apply IsS80.drew|apply IsS80.set_1|apply IsS80.set_2)|exact HI293.out)) (rR HO301.out) (by decide)) hk (fun _ h=>h.2)) (fun _ h=>h.1));replace HB:=mk0 (hb);replace HI293:=mk0 (hi);(try clear hb);(try clear hk);(try clear hi))|((with_reducible refine gate_callee (f:=34) rfl ?_);refine goesL_ (some 16) rfl rfl Try.func34 (by kernel_rfl) rfl #[.pointer (some ⟨g293,0,none⟩)] rfl (by (try simp only [mA,mC,mN]);first|done|rfl|(simp only [List.length_drop,List.length_take];done)|(simp only [List.length_drop,List.length_take];rfl)) ?_;(with_reducible refine (spec_l01Cur_lensOf.calls k g293 t290 t303 t304 t305 t308 t309 w _ ?side1 ?side2 A7.out).mono ?_);(case side1=>repeat (first|(with_reducible first|exact HI293.out|apply IsS80.alloc|apply IsS80.drewN|apply IsS80.drew|apply IsS80.set_1|apply IsS80.set_2)|exact HI293.out));(case side2=>repeat (first|(with_reducible first|exact HB.out|apply aZ|apply nZ|apply dZ|refine sZ ?_ (IsS80.ge HI293.out))|exact HB.out));rintro e w13 ⟨v306,rfl,ho0,hi,hb,hk⟩;refine⟨_,rfl,?_⟩;have HO307:=mk0 (Kd.R_lower (Kd.R_new' (Kd.R_new' ho0 (Kd.R_lt (rR HO296.out))) (Kd.R_lt (rR HO301.out))) (below_size (by repeat (first|(with_reducible first|exact HB.out|apply aZ|apply nZ|apply dZ|refine sZ ?_ (IsS80.ge HI293.out))|exact HB.out))));replace HO296:=mk0 (Kd.R_mono (Kd.R_told (Kd.R_oldK (IsS80.apart (show IsS80 w _ g293 t290 t303 t304 from by repeat (first|(with_reducible first|exact HI293.out|apply IsS80.alloc|apply IsS80.drewN|apply IsS80.drew|apply IsS80.set_1|apply IsS80.set_2)|exact HI293.out)) (rR HO296.out) (by decide)) hk) (Kd.R_base ho0)) (fun _ h_=>h_.1));replace HO301:=mk0 (Kd.R_mono (Kd.R_told (Kd.R_oldK (IsS80.apart (show IsS80 w _ g293 t290 t303 t304 from by repeat (first|(with_reducible first|exact HI293.out|apply IsS80.alloc|apply IsS80.drewN|apply IsS80.drew|apply IsS80.set_1|apply IsS80.set_2)|exact HI293.out)) (rR HO301.out) (by decide)) hk) (Kd.R_base ho0)) (fun _ h_=>h_.1));replace HB:=mk0 (hb);replace HI293:=mk0 (hi);(try clear hb);(try clear hk);(try clear hi);(try clear ho0)))
 go_ret2
 exact⟨_,_,by first|rfl|(simp [errW_none,errW_some] <;> rfl)|(simp [*,errW_none,errW_some] <;> rfl),by (with_reducible repeat (first|apply aR|apply nR|apply dR));exact Kd.R_mono HO296.out (by first|exact fun _ hk=>hk.2|(intro k_ hk;simp only [hk,ne_eq,and_self,not_false_eq_true])),by (with_reducible repeat (first|apply aR|apply nR|apply dR));exact Kd.R_mono HO307.out (by first|exact fun _ hk=>hk.1.2|(intro k_ hk;simp only [hk,ne_eq,and_self,not_false_eq_true])),by repeat (first|(with_reducible first|exact HB.out|apply aZ|apply nZ|apply dZ|refine sZ ?_ (IsS80.ge HI293.out))|exact HB.out)⟩
-- NOT PRINTED: function 77 (slices_IndexFunc_int_int)

-- NOT PRINTED: function 72 (slices_ContainsFunc_int_int)

-- NOT PRINTED: function 53 (impl_areAll_int)

/-! ### impl_within: function 41 -/
def impl_within.f (a0 : Int) (a1 : Int) (a2 : Int) : Option (Bool) := if a1 ≤ a0 then (some (decide (a0 ≤ a2))) else (some false)
set_option maxHeartbeats 8000000 in
set_option maxRecDepth 100000 in
theorem impl_within.calls (a0 : Int) (a1 : Int) (a2 : Int) (r : Bool) (w : World) (h : impl_within.f a0 a1 a2 = some r) :
  Calls Try.prog 41 #[.int .i64 a0, .int .i64 a1, .int .i64 a2] w fun e w' => e = .returned (.bool r) ∧ Drawn0 w w' := by
 have H:(if a1 ≤ a0 then (some (decide (a0 ≤ a2))) else (some false)) = some r:=h
 clear h
 by_cases c4:a1 ≤ a0
 ·rw [if_pos c4] at H
  have c4b0:decide (a1 ≤ a0) = true:=decide_eq_true c4
  clear c4
  obtain rfl:=Option.some.inj H
  go_enter Try.func41,Try.ntmps41
  go_wp2
  go_ret
  exact⟨by first|rfl|(simp;done)|(simp [*];done),by repeat (first|exact Drawn0.refl _|apply Drawn0.step)⟩
 ·rw [if_neg c4] at H
  have c4b0:decide (a1 ≤ a0) = false:=decide_eq_false c4
  clear c4
  obtain rfl:=Option.some.inj H
  go_enter Try.func41,Try.ntmps41
  go_wp2
  go_ret
  exact⟨by first|rfl|(simp;done)|(simp [*];done),by repeat (first|exact Drawn0.refl _|apply Drawn0.step)⟩

/-! ### impl_isCount: function 54 -/
def impl_isCount.f (a0 : Int) : Option (Bool) := (impl_within.f a0 0 1000000).bind fun t310 => (some t310)
set_option maxHeartbeats 8000000 in
set_option maxRecDepth 100000 in
theorem impl_isCount.calls (a0 : Int) (r : Bool) (w : World) (h : impl_isCount.f a0 = some r) :
  Calls Try.prog 54 #[.int .i64 a0] w fun e w' => e = .returned (.bool r) ∧ Drawn0 w w' := by
 have H:((impl_within.f a0 0 1000000).bind fun t310=>(some t310)) = some r:=h
 clear h
 replace H:=Option.bind_eq_some_iff.mp H
 obtain⟨t310,A20,H⟩:=H
 replace H:(some t310) = some r:=H
 have A2:=mk0 A20
 clear A20
 obtain rfl:=Option.some.inj H
 go_enter Try.func54,Try.ntmps54
 go_wp2_with (first|((with_reducible refine gate_callee (f:=41) rfl ?_);refine goesL_ (some 4) rfl rfl Try.func41 (by kernel_rfl) rfl #[.int .i64 a0,.int .i64 0,.int .i64 1000000] rfl (by (try simp only [mA,mC,mN]);first|done|rfl|(simp only [List.length_drop,List.length_take];done)|(simp only [List.length_drop,List.length_take];rfl)) ?_;(with_reducible refine (impl_within.calls a0 0 1000000 t310 _ A2.out).mono ?_);rintro e w' ⟨rfl,⟨nd,rfl⟩⟩;refine⟨_,rfl,?_⟩))
 go_ret
 exact⟨by first|rfl|(simp;done)|(simp [*];done),by repeat (first|exact Drawn0.refl _|apply Drawn0.step)⟩

-- NOT PRINTED: function 74 (impl_tree)

-- NOT PRINTED: function 55 (impl_lightest)

-- NOT PRINTED: function 75 (slices_Grow_int_int)


/-! ### slices_Grow_nil24: slices.Grow of nil, function 75 (by hand) -/
def slices_Grow_nil24.f (a0 : Int) : Option (List Int) := if 0 ≤ a0 ∧ a0 ≤ 1048576 then some [] else none
theorem slices_Grow_nil24.info : (Try.prog.info? 3).map (fun i => (i.zero, i.size, i.bytes)) = some (some (.int .i64 0), 1, 8) := by kernel_rfl
set_option maxHeartbeats 8000000 in
set_option maxRecDepth 100000 in
theorem slices_Grow_nil24.calls (a0 : Int) (r : List Int) (w : World) (h : slices_Grow_nil24.f a0 = some r) :
    Calls Try.prog 75 #[.slice none 0 0, .int .i64 a0] w fun e w' => ∃ v0_ : Value, e = .returned (v0_) ∧ Kd.R (Kd.int .i64) 3 w' w.heap.size (fun _ => True) v0_ r ∧ Below w.heap.size w w' := by
  unfold slices_Grow_nil24.f at h
  by_cases hm : 0 ≤ a0 ∧ a0 ≤ 1048576
  · rw [if_pos hm] at h
    obtain rfl := Option.some.inj h
    clear h
    have HB := Aside0.mk (Below.refl w.heap.size w)
    have hw1 : IntKind.i64.wrap a0 = a0 := by rw [i64_w]; unfold wrap64; omega
    have hcap : ∀ (ty : TypeId) (w_ : World), (Builtin.cap_ #[24] ty #[.slice none 0 0]).run Try.prog w_ = .ok (.int .i64 0) w_ := fun _ _ => by kernel_rfl
    have b0 : decide (a0 < 0) = false := decide_eq_false (by omega)
    obtain ⟨i0, hi0, _, hsz, _⟩ := info_parts slices_Grow_nil24.info
    have hcut0 := cut_to (P := Try.prog) 24 3 .i64 Try.underlying24 hi0 none 0 0 0 (by omega) (by omega) (by omega)
    by_cases hp : 0 < a0
    · have b1 : decide (0 < a0) = true := decide_eq_true hp
      have LM := Aside0.mk hm
      clear hm hp
      go_enter Try.func75, Try.ntmps75
      go_wp2_with (at_builtin; refine Kd.R_append_zeros (Kd.int .i64) (w0 := w) w.heap.size rfl (.tmp 20) (.tmp 21) 24 3 3 (.int .i64 0) 8 rfl Try.underlying24 Try.underlying3 slices_Grow_nil24.info rfl (by decide) (by omega) (.slice none 0 0) ([] : List Int) 0 (a0 : Int) (fun _ => True) rfl rfl rfl ?aF ?aO ?aN ?aB ?aS ?aL ?_; (case aF => exact (fun _ _ => trivial)); (case aO => exact (Kd.R_nil _ _ _ _ _)); (case aN => exact LM.out.1); (case aB => exact (by repeat (first | (with_reducible first | exact HB.out | apply below_alloc | apply pw_below_drewN | apply below_drew1) | exact HB.out))); (case aS => exact (below_size (by repeat (first | (with_reducible first | exact HB.out | apply below_alloc | apply pw_below_drewN | apply below_drew1) | exact HB.out)))); (case aL => have := LM.out; simp only [List.length_nil, Nat.zero_add]; omega); intro v1 w1 ho hb hg hat; obtain ⟨A1, c1, e1⟩ := Kd.R_slice ho; subst e1; have hroom := (Kd.R_reads' ho).2.1; have hcut1 := cut_to (P := Try.prog) 24 3 .i64 Try.underlying24 hi0 A1 ([] ++ List.replicate a0.toNat (0 : Int)).length c1 0 (by omega) (by omega) hroom; rw [show (0 : Int).toNat = 0 from rfl] at hcut1; have n1_ := Aside0.mk hb; have n2_ := Aside0.mk (Kd.R_take (m := 0) ho (Nat.zero_le _)); clear HB; have HB := n1_; have HO1 := n2_; clear n1_ n2_; clear ho hb hg hat hroom)
      go_ret
      exact ⟨_, by first | rfl | (simp; done), by (with_reducible repeat (first | apply Kd.R_alloc | apply Kd.R_drewN | apply Kd.R_drew)); exact HO1.out, by repeat (first | (with_reducible first | exact HB.out | apply below_alloc | apply pw_below_drewN | apply below_drew1) | exact HB.out)⟩
    · have b1 : decide (0 < a0) = false := decide_eq_false hp
      clear hm hp
      go_enter Try.func75, Try.ntmps75
      go_wp2
      go_ret
      exact ⟨_, by first | rfl | (simp; done), Kd.R_nil _ _ _ _ _, HB.out⟩
  · rw [if_neg hm] at h
    exact absurd h (by simp)

/-! ### slices_Concat_int_int: function 56 -/
mutual
def slices_Concat_int_int.l0 : Nat → List (List Int) → Int → List (List Int) → Int → Int → Option (List Int)
 | 0, _, _, _, _, _ => none
 | k + 1, x0, x3, x9, x10, x11 => if x11 < x10 then (if 0 ≤ x11 then (if x11 < (x9.length : Int) then (if (wrap64 (x3 + ((rd_L2 x9 x11).length : Int))) < 0 then (none) else (slices_Concat_int_int.l0 k x0 (wrap64 (x3 + ((rd_L2 x9 x11).length : Int))) x9 x10 (wrap64 (x11 + 1)))) else (none)) else (none)) else ((slices_Grow_nil24.f x3).bind fun t312 => (slices_Concat_int_int.l1 k t312 x0 (x0.length : Int) 0))
def slices_Concat_int_int.l1 : Nat → List Int → List (List Int) → Int → Int → Option (List Int)
 | 0, _, _, _, _ => none
 | k + 1, x6, x25, x26, x27 => if x27 < x26 then (if 0 ≤ x27 then (if x27 < (x25.length : Int) then (if x6.length + (rd_L2 x25 x27).length < 17592186044416 then (slices_Concat_int_int.l1 k (x6 ++ (rd_L2 x25 x27)) x25 x26 (wrap64 (x27 + 1))) else (none)) else (none)) else (none)) else (some x6)
end
def slices_Concat_int_int.f (k : Nat) (l0 : List (List Int)) : Option (List Int) := slices_Concat_int_int.l0 k l0 0 l0 (l0.length : Int) 0
theorem slices_Concat_int_int.mono_l : ∀ k, (∀ y0 y1 y2 y3 y4, LeO (slices_Concat_int_int.l0 k y0 y1 y2 y3 y4) (slices_Concat_int_int.l0 (k + 1) y0 y1 y2 y3 y4)) ∧ (∀ y0 y1 y2 y3, LeO (slices_Concat_int_int.l1 k y0 y1 y2 y3) (slices_Concat_int_int.l1 (k + 1) y0 y1 y2 y3))
 | 0 => ⟨fun _ _ _ _ _ r h => by simp [slices_Concat_int_int.l0] at h, fun _ _ _ _ r h => by simp [slices_Concat_int_int.l1] at h⟩
 | k + 1 => by
  obtain ⟨ih0, ih1⟩ := slices_Concat_int_int.mono_l k
  refine ⟨?_, ?_⟩
  ·intro y0 y1 y2 y3 y4
   unfold slices_Concat_int_int.l0
   repeat' first|(with_reducible first|exact ih0 _ _ _ _ _|exact ih1 _ _ _ _|exact LeO.refl _|exact LeO.none _|refine LeO.ite ?_ ?_|refine LeO.bind ?_ (fun _ => ?_))|exact LeO.none _|refine LeO.ite ?_ ?_|refine LeO.bind ?_ (fun _ => ?_)
  ·intro y0 y1 y2 y3
   unfold slices_Concat_int_int.l1
   repeat' first|(with_reducible first|exact ih0 _ _ _ _ _|exact ih1 _ _ _ _|exact LeO.refl _|exact LeO.none _|refine LeO.ite ?_ ?_|refine LeO.bind ?_ (fun _ => ?_))|exact LeO.none _|refine LeO.ite ?_ ?_|refine LeO.bind ?_ (fun _ => ?_)
theorem slices_Concat_int_int.mono : ∀ a0 k, LeO (slices_Concat_int_int.f k a0) (slices_Concat_int_int.f (k + 1) a0) := by
 intro a0 k
 obtain ⟨ih0, ih1⟩ := slices_Concat_int_int.mono_l k
 unfold slices_Concat_int_int.f
 repeat' first|(with_reducible first|exact ih0 _ _ _ _ _|exact ih1 _ _ _ _|exact LeO.refl _|exact LeO.none _|refine LeO.ite ?_ ?_|refine LeO.bind ?_ (fun _ => ?_))|exact LeO.none _|refine LeO.ite ?_ ?_|refine LeO.bind ?_ (fun _ => ?_)
set_option maxHeartbeats 8000000 in
set_option maxRecDepth 100000 in
theorem slices_Concat_int_int.calls (k : Nat) (A0 : Option Addr) (c0 : Nat) (l0 : List (List Int)) (r : List Int) (w : World) (hr0 : Kd.C (Kd.slice 3 (Kd.int .i64)) w A0 l0.length l0) (hc0 : l0.length ≤ c0) (h : slices_Concat_int_int.f k l0 = some r) :
  Calls Try.prog 56 #[.slice A0 l0.length c0] w fun e w' => ∃ v0_ : Value, e = .returned (v0_) ∧ Kd.R (Kd.int .i64) 3 w' w.heap.size (fun _ => True) v0_ r ∧ Below w.heap.size w w' := by
 have HR0:=mk0 hr0
 have HC0:=mk0 hc0
 clear hr0 hc0
 have HB:=mk0 (Below.refl w.heap.size w)
 have H:(slices_Concat_int_int.l0 k l0 0 l0 (l0.length:Int) 0) = some r:=h
 clear h
 have H':=mk0 H
 clear H
 go_enter Try.func56,Try.ntmps56
 go_wp2
 go_loopg [3,11] k (fun kq v3 v11 w'=>∃ (x3_1:Int) (x11_1:Int),v3 = .int .i64 x3_1 ∧ v11 = .int .i64 x11_1 ∧ Aside0 (slices_Concat_int_int.l0 kq l0 x3_1 l0 (l0.length:Int) x11_1 = some r) ∧ Aside0 (kq ≤ k) ∧ Aside0 (Below w.heap.size w w'))
 case atStart=>exact⟨(0),(0),(by first|rfl|(simp;done)|(simp [*];done)),(by first|rfl|(simp;done)|(simp [*];done)),H',⟨Nat.le_refl _⟩,⟨kB HB.out⟩⟩
 case round =>
  clear H'
  obtain⟨x3_1,x11_1,rfl,rfl,HA,HK1,HB⟩:=hrel
  cases gk with
  | zero=>exact absurd HA.out (by simp [slices_Concat_int_int.l0])
  | succ k1 =>
   have H:=HA.out
   clear HA
   simp only [slices_Concat_int_int.l0] at H
   by_cases c2:x11_1 < (l0.length:Int)
   ·rw [if_pos c2] at H
    have c2b0:decide (x11_1 < (l0.length:Int)) = true:=decide_eq_true c2
    (try simp only [hl311_0] at c2b0)
    (try simp only [hl315_0] at c2b0)
    clear c2
    by_cases c3:0 ≤ x11_1
    ·rw [if_pos c3] at H
     have c3b0:decide (0 ≤ x11_1) = true:=decide_eq_true c3
     clear c3
     by_cases c4:x11_1 < (l0.length:Int)
     ·rw [if_pos c4] at H
      have c4b0:decide (x11_1 < (l0.length:Int)) = true:=decide_eq_true c4
      (try simp only [hl311_0] at c4b0)
      (try simp only [hl315_0] at c4b0)
      clear c4
      by_cases c5:(wrap64 (x3_1 + ((rd_L2 l0 x11_1).length:Int))) < 0
      ·rw [if_pos c5] at H
       exact absurd H (by simp)
      ·rw [if_neg c5] at H
       have c5b0:decide ((wrap64 (x3_1 + ((rd_L2 l0 x11_1).length:Int))) < 0) = false:=decide_eq_false c5
       (try simp only [hl311_0] at c5b0)
       (try simp only [hl315_0] at c5b0)
       clear c5
       have H':=mk0 H
       clear H
       have p311:0 ≤ (x11_1:Int):=of_decide_eq_true (by first|(with_reducible assumption)|assumption)
       have q311:x11_1 < (l0.length:Int):=of_decide_eq_true (by first|(with_reducible assumption)|assumption)
       obtain⟨ad311,A311_0,c311_0,e311,hx311_0,hl311_0,hi311_0⟩:=at_L2 HR0.out x11_1 p311 q311
       cases e311
       replace hx311_0:=(HB.out.cell (World.block_lt_of_cell? w _ hx311_0)).trans hx311_0
       have HR311_0:=mk0 hi311_0
       have HC311_0:=mk0 hl311_0
       clear hi311_0 hl311_0
       replace p311:=eq_true p311
       replace q311:=eq_true q311
       go_wp2
       go_roundg k1
       case measure=>have:=HK1.out;omega
       case rel=>exact⟨(wrap64 (x3_1 + ((rd_L2 l0 x11_1).length:Int))),(wrap64 (x11_1 + 1)),(by first|rfl|(simp;done)|(simp [*];done)),(by first|rfl|(simp;done)|(simp [*];done)),H',⟨by have:=HK1.out;omega⟩,⟨kB HB.out⟩⟩
     ·rw [if_neg c4] at H
      exact absurd H (by simp)
    ·rw [if_neg c3] at H
     exact absurd H (by simp)
   ·rw [if_neg c2] at H
    have c2b0:decide (x11_1 < (l0.length:Int)) = false:=decide_eq_false c2
    (try simp only [hl311_0] at c2b0)
    (try simp only [hl315_0] at c2b0)
    clear c2
    replace H:=Option.bind_eq_some_iff.mp H
    obtain⟨t312,A60,H⟩:=H
    replace H:(slices_Concat_int_int.l1 k1 t312 l0 (l0.length:Int) 0) = some r:=H
    have A6:=mk0 A60
    clear A60
    have H':=mk0 H
    clear H
    go_wp2_with (first|((with_reducible refine gate_callee (f:=75) rfl ?_);refine goesL_ (some 24) rfl rfl Try.func75 (by kernel_rfl) rfl #[.slice none 0 0,.int .i64 x3_1] rfl (by (try simp only [mA,mC,mN]);first|done|rfl|(simp only [List.length_drop,List.length_take];done)|(simp only [List.length_drop,List.length_take];rfl)) ?_;(with_reducible refine (slices_Grow_nil24.calls x3_1 t312 _ A6.out).mono ?_);rintro e w7 ⟨v313,rfl,ho0,hb⟩;refine⟨_,rfl,?_⟩;have HO314:=mk0 (Kd.R_lower ho0 (kZ HB.out));replace HB:=mk0 (kS HB.out hb);(try clear hb);(try clear ho0)))
    go_loopg [6,27] k1 (fun kq v6 v27 w'=>∃ (x6_2:List Int) (x27_2:Int),v27 = .int .i64 x27_2 ∧ Aside0 (slices_Concat_int_int.l1 kq x6_2 l0 (l0.length:Int) x27_2 = some r) ∧ Aside0 (kq ≤ k1) ∧ Aside0 (Kd.R (Kd.int .i64) 3 w' w.heap.size (fun _=>True) v6 x6_2) ∧ Aside0 (Below w.heap.size w w'))
    case atStart=>exact⟨(t312),(0),(by first|rfl|(simp;done)|(simp [*];done)),H',⟨Nat.le_refl _⟩,⟨rR HO314.out⟩,⟨kB HB.out⟩⟩
    case round =>
     clear H'
     try clear c2
     try clear c2b0
     try clear p2
     try clear c3
     try clear c3b0
     try clear p3
     try clear q3
     try clear hx3
     try clear c4
     try clear c4b0
     try clear c5
     try clear c5b0
     try clear p6
     try clear hx311_0
     try clear p311
     try clear q311
     obtain⟨x6_2,x27_2,rfl,HA,HK2,HO_6,HB⟩:=hrel
     cases gk with
     | zero=>exact absurd HA.out (by simp [slices_Concat_int_int.l1])
     | succ k2 =>
      have H:=HA.out
      clear HA
      simp only [slices_Concat_int_int.l1] at H
      by_cases c8:x27_2 < (l0.length:Int)
      ·rw [if_pos c8] at H
       have c8b0:decide (x27_2 < (l0.length:Int)) = true:=decide_eq_true c8
       (try simp only [hl311_0] at c8b0)
       (try simp only [hl315_0] at c8b0)
       clear c8
       by_cases c9:0 ≤ x27_2
       ·rw [if_pos c9] at H
        have c9b0:decide (0 ≤ x27_2) = true:=decide_eq_true c9
        clear c9
        by_cases c10:x27_2 < (l0.length:Int)
        ·rw [if_pos c10] at H
         have c10b0:decide (x27_2 < (l0.length:Int)) = true:=decide_eq_true c10
         (try simp only [hl311_0] at c10b0)
         (try simp only [hl315_0] at c10b0)
         clear c10
         by_cases c11:x6_2.length + (rd_L2 l0 x27_2).length < 17592186044416
         ·rw [if_pos c11] at H
          have LMc11:=mk0 c11
          clear c11
          obtain⟨y316,hy316⟩:∃ y_:List Int,y_ = (x6_2 ++ (rd_L2 l0 x27_2)):=⟨_,rfl⟩
          replace H:(slices_Concat_int_int.l1 k2 y316 l0 (l0.length:Int) (wrap64 (x27_2 + 1))) = some r:=by first|(rw [hy316];with_reducible exact H)|(have H2_:=(Option.bind_some _ _).symm.trans H;rw [hy316];with_reducible exact H2_)|(have H2_:=(Option.bind_some _ _).symm.trans H;with_reducible exact H2_)|with_reducible exact H|(rw [hy316];exact H)|exact H
          have Ny316:=mk0 hy316
          clear hy316
          have H':=mk0 H
          clear H
          have p315:0 ≤ (x27_2:Int):=of_decide_eq_true (by first|(with_reducible assumption)|assumption)
          have q315:x27_2 < (l0.length:Int):=of_decide_eq_true (by first|(with_reducible assumption)|assumption)
          obtain⟨ad315,A315_0,c315_0,e315,hx315_0,hl315_0,hi315_0⟩:=at_L2 HR0.out x27_2 p315 q315
          cases e315
          replace hx315_0:=(HB.out.cell (World.block_lt_of_cell? w _ hx315_0)).trans hx315_0
          have HR315_0:=mk0 hi315_0
          have HC315_0:=mk0 hl315_0
          clear hi315_0 hl315_0
          replace p315:=eq_true p315
          replace q315:=eq_true q315
          go_wp2_with (first|((with_reducible refine gate_builtin (b:=.append) (xs:=#[.tmp 31,.tmp 32]) rfl ?_);at_builtin;refine Kd.R_append_rows (Kd.int .i64) (w0:=w) w.heap.size rfl (.tmp 31) (.tmp 32) 24 3 (.int .i64 0) 8 rfl Try.underlying24 info3 rfl (by decide) (by omega) u6 x6_2 (rd_L2 l0 x27_2) _ _ _ (fun _=>True) (fun _=>False) rfl rfl ?aO ?aR (fun _ _ h=>h) (fun _ h=>h.elim) ?aF ?aB ?aS ?aL ?_;(case aR=>repeat (first|exact (Kd.C_below HR315_0.out HB.out)|(with_reducible first|apply aC|apply nC|apply dC)));(case aB=>exact (kB HB.out));(case aF=>exact (fun _ _=>trivial));(case aO=>exact (rR HO_6.out));(case aS=>exact (kZ HB.out));(case aL=>have:=LMc11.out;omega);intro v317 w12 ho hb hg hat;rw [← Ny316.out] at ho;replace HB:=mk0 (hb);have HO318:=mk0 (ho);clear HO_6 ho hb hg hat))
          go_roundg k2
          case measure=>have:=HK1.out;have:=HK2.out;omega
          case rel=>exact⟨(y316),(wrap64 (x27_2 + 1)),(by first|rfl|(simp;done)|(simp [*];done)),H',⟨by have:=HK1.out;have:=HK2.out;omega⟩,⟨rR HO318.out⟩,⟨kB HB.out⟩⟩
         ·rw [if_neg c11] at H
          exact absurd H (by simp)
        ·rw [if_neg c10] at H
         exact absurd H (by simp)
       ·rw [if_neg c9] at H
        exact absurd H (by simp)
      ·rw [if_neg c8] at H
       have c8b0:decide (x27_2 < (l0.length:Int)) = false:=decide_eq_false c8
       (try simp only [hl311_0] at c8b0)
       (try simp only [hl315_0] at c8b0)
       clear c8
       obtain rfl:=Option.some.inj H
       go_wp2
       go_ret
       exact⟨_,by first|rfl|(simp [errW_none,errW_some] <;> rfl)|(simp [*,errW_none,errW_some] <;> rfl),rR HO_6.out,kB HB.out⟩


/-! ### impl_HuffLens: function 22 (by hand) -/
def impl_HuffLens.f (l0 : List Int) : Option (List Int) := if l0.length ≤ maxLen then some (Best.lensR l0) else none
theorem impl_HuffLens.concat2 (a b : List Int) (h : (a ++ b).length ≤ 300) : slices_Concat_int_int.f 6 [a, b] = some (a ++ b) := by
  rw [List.length_append] at h
  have e1 : wrap64 (0 + (a.length : Int)) = (a.length : Int) := by unfold wrap64; omega
  have e2 : wrap64 ((a.length : Int) + (b.length : Int)) = ((a.length + b.length : Nat) : Int) := by unfold wrap64; omega
  have r0 : rd_L2 [a, b] 0 = a := rfl
  have r1 : rd_L2 [a, b] 1 = b := rfl
  have w0 : wrap64 (0 + 1) = 1 := by unfold wrap64; omega
  have w1 : wrap64 (1 + 1) = 2 := by unfold wrap64; omega
  have g : slices_Grow_nil24.f ((a.length + b.length : Nat) : Int) = some [] := by
    unfold slices_Grow_nil24.f
    rw [if_pos (by omega)]
  unfold slices_Concat_int_int.f
  rw [slices_Concat_int_int.l0, if_pos (by simp), if_pos (by omega), if_pos (by simp), r0, e1, if_neg (by omega), w0,
    slices_Concat_int_int.l0, if_pos (by simp), if_pos (by omega), if_pos (by simp), r1, e2, if_neg (by omega), w1,
    slices_Concat_int_int.l0, if_neg (by simp), g, Option.bind_some,
    slices_Concat_int_int.l1, if_pos (by simp), if_pos (by omega), if_pos (by simp), r0, if_pos (by simp; omega), w0,
    slices_Concat_int_int.l1, if_pos (by simp), if_pos (by omega), if_pos (by simp), r1, if_pos (by simp; omega), w1,
    slices_Concat_int_int.l1, if_neg (by simp), List.nil_append]
set_option maxHeartbeats 8000000 in
set_option maxRecDepth 100000 in
theorem impl_HuffLens.calls (A0 : Option Addr) (c0 : Nat) (l0 : List Int) (r : List Int) (w : World) (hr0 : Kd.C (Kd.int .i64) w A0 l0.length l0) (hc0 : l0.length ≤ c0) (h : impl_HuffLens.f l0 = some r) :
    Calls Try.prog 22 #[.slice A0 l0.length c0] w fun e w' => ∃ v0_ : Value, e = .returned (v0_) ∧ Kd.R (Kd.int .i64) 3 w' w.heap.size (fun _ => True) v0_ r ∧ Below w.heap.size w w' := by
  unfold impl_HuffLens.f at h
  by_cases hm : l0.length ≤ maxLen
  rotate_left
  · rw [if_neg hm] at h
    exact absurd h (by simp)
  rw [if_pos hm] at h
  obtain rfl := Option.some.inj h
  clear h
  have HR0 := Aside0.mk hr0
  have HC0 := Aside0.mk hc0
  have HB := Aside0.mk (Below.refl w.heap.size w)
  by_cases hlen : l0.length ≤ 300
  rotate_left
  · have e0 : Best.lensR l0 = [] := by
      unfold Best.lensR Best.okC
      rw [decide_eq_false hlen, Bool.false_and]
      rfl
    rw [e0]
    have b0 : decide ((l0.length : Int) > 300) = true := decide_eq_true (by omega)
    clear hr0 hc0 hm e0 hlen
    go_enter Try.func22, Try.ntmps22
    go_wp2
    go_ret
    exact ⟨_, rfl, Kd.R_nil _ _ _ _ _, HB.out⟩
  have b0 : decide ((l0.length : Int) > 300) = false := decide_eq_false (by omega)
  have HA := Aside0.mk (Fv.areAll 54 #[] _ (enters_of Try.func54 (by kernel_rfl) rfl) A0 c0 l0 w hr0 hc0 hm (Fv.tells54 w))
  have hoc : Best.okC l0 = l0.all Fv.p54 := by
    unfold Best.okC
    rw [decide_eq_true hlen, Bool.true_and]
    rfl
  by_cases hall : l0.all Fv.p54 = true
  rotate_left
  · have e0 : Best.lensR l0 = [] := by
      unfold Best.lensR
      rw [hoc, if_neg hall]
    rw [e0]
    rw [Bool.not_eq_true] at hall
    rw [hall] at HA
    clear hr0 hc0 hm e0 hlen hoc hall
    go_enter Try.func22, Try.ntmps22
    go_wp2_with (go_at_call 53; refine HA.out.mono ?_; rintro e w1 ⟨rfl, hb⟩)
    go_ret
    exact ⟨_, rfl, Kd.R_nil _ _ _ _ _, hb⟩
  have e0 : Best.lensR l0 = Best.hufL l0 := by
    unfold Best.lensR
    rw [hoc, if_pos hall]
  rw [e0]
  rw [hall] at HA
  have HALL := Aside0.mk hall
  have HLEN := Aside0.mk hlen
  clear hr0 hc0 hm e0 hoc hall
  have hmk : l0.length * 8 ≤ 281474976710656 := by omega
  go_enter Try.func22, Try.ntmps22
  go_wp2_with (first | (go_at_call 53; refine HA.out.mono ?_; rintro e w1 ⟨rfl, hb⟩; have HB1 := Aside0.mk (Below.refl w1.heap.size w1); have HBw := Aside0.mk hb; clear hb) | ((with_reducible refine gate_dst (N := 22) rfl ?_); refine Kd.R_make (Kd.int .i64) (w0 := w) w.heap.size 3 rfl (N := 22) rfl 24 _ _ rfl (l0.length : Int) rfl rfl Try.underlying24 (.int .i64 0) 8 info3 rfl (by decide) (by omega) 0 (ok := fun _ => True) (okp := fun _ => True) rfl (fun _ hk => hk) trivial (by omega) (by rw [Int.toNat_natCast]; exact hmk) HBw.out HBw.out.size ?_; intro vo wo ho hb hg hnew; rw [Int.toNat_natCast] at ho; have HO := Aside0.mk ho; replace HB := Aside0.mk hb; have HNW := Aside0.mk hnew; clear ho hb hg hnew))
  obtain ⟨ob, hob, hob1⟩ := HNW.out
  obtain ⟨co, eo, hco, hoB, hoL⟩ := Hl.out_form HO.out hob
  rw [List.length_replicate] at eo
  subst eo
  have HOB := Aside0.mk (And.intro hoB hoL)
  clear HNW hob hob1 hco hoB hoL HBw HB1
  go_loopg [4, 25] l0.length (fun gg v4 v25 W => ∃ (i : Nat) (L : List Hl.LT), v25 = .int .i64 i ∧ Aside0 (i ≤ l0.length) ∧ Aside0 (l0.length - i ≤ gg) ∧ Aside0 (Hl.trs L = Best.initF 0 (l0.take i) ∧ L.length ≤ i) ∧ Aside0 ((Kd.raw 2).R 67 W w.heap.size (fun _ => True) v4 (Tre.cellsOf (Hl.fs L))) ∧ Aside0 (Hl.SymsAt W w.heap.size ob L) ∧ Aside0 ((Kd.int .i64).R 3 W w.heap.size (fun _ => True) (.slice (some ⟨ob, 0, none⟩) l0.length co) (List.replicate l0.length 0)) ∧ Aside0 (Below w.heap.size w W) ∧ Aside0 (ob < W.heap.size))
  case atStart => exact ⟨0, [], rfl, ⟨by omega⟩, ⟨by omega⟩, ⟨⟨rfl, by simp⟩⟩, ⟨Kd.R_nil _ _ _ _ _⟩, ⟨fun p hp => by simp at hp⟩, HO, HB, ⟨HOB.out.2⟩⟩
  case round =>
    obtain ⟨i, L, rfl, HI, HG, HT, HF, HS, HO2, HB2, HOL⟩ := hrel
    clear HO HB
    by_cases hlt : i < l0.length
    · have HI2 := Aside0.mk hlt
      obtain ⟨ad, ead, hx⟩ := Kd.at_int (Kd.C_below HR0.out HB2.out) (i : Int) (by omega) (by omega)
      subst ead
      rw [Int.toNat_natCast] at hx
      have hin : (decide ((i : Int) < (l0.length : Int))) = true := decide_eq_true (by omega)
      have hw : wrap64 ((i : Int) + 1) = ((i + 1 : Nat) : Int) := by unfold wrap64; omega
      have HW := Aside0.mk hw
      by_cases q : rd l0 (i : Int) > 0
      · have HQ := Aside0.mk q
        have hq : decide (rd l0 (i : Int) > 0) = true := decide_eq_true q
        clear q hw
        go_wp2_with (first | ((with_reducible refine gate_dst (N := 35) rfl ?_); refine Kd.R_lit (Kd.int .i64) (w0 := w) w.heap.size 3 ?hg (N := 35) ?hd (xs := [(i : Int)]) (inner := [.int .i64 (i : Int)]) (ok := fun k => k ≠ ob) (okp := fun k => k ≠ ob) ?hr ?hp (fun _ hk => hk) ?hf HB2.out HB2.out.size (by simp) ?_; (case hd => rfl); (case hg => rfl); (case hr => first | (go_simp; done) | (go_simp; rfl)); (case hp => exact Kd.reps_scalar (enc := Value.int .i64) [(i : Int)]); (case hf => have := HOL.out; omega); intro vs ws hs hb hg hnew; obtain ⟨bs, hbs, hbs1⟩ := hnew; obtain ⟨cs, es, hs1, hs2, hs3⟩ := Hl.out_form hs hbs; rw [show ([(i : Int)] : List Int).length = 1 from rfl] at es hs1; subst es; have HSN := Aside0.mk hs; have HBN := Aside0.mk hb; have HGN := Aside0.mk hg; have HFN := Aside0.mk (Kd.R_grown HF.out hg (fun _ _ e => by cases e)); clear hs hb hg hbs hbs1 hs1 hs2 hs3) | ((with_reducible refine gate_builtin (b := .append) (xs := #[.tmp 32, .tmp 37]) rfl ?_); at_builtin; refine Kd.R_append (Kd.raw 2) (w0 := w) (W := ws) w.heap.size rfl (.tmp 32) (.tmp 37) 65 67 (.agg #[.int .i64 0, .slice none 0 0]) 32 rfl Try.underlying65 (by kernel_rfl) (by rfl) (by decide) (by omega) u4 (Tre.cellsOf (Hl.fs L)) [.int .i64 (rd l0 (i : Int)), .slice (some ⟨bs, 0, none⟩) 1 cs] [.int .i64 (rd l0 (i : Int)), .slice (some ⟨bs, 0, none⟩) 1 cs] (fun _ => True) (fun _ => False) rfl rfl ?aP (fun _ hk => hk.elim) (fun _ _ => trivial) HFN.out HBN.out HBN.out.size ?aL ?_; (case aP => exact ⟨rfl, rfl, by simp [Value.oneCell']⟩); (case aL => have := HT.out.2; have := HI2.out; rw [show (Tre.cellsOf (Hl.fs L)).length = L.length by unfold Tre.cellsOf; rw [List.length_map, Hl.fs_len]]; omega); intro v4 w4 h4 hb4 hg4 hat4; have HF4 := Aside0.mk h4; have HB4 := Aside0.mk hb4; have HG4 := Aside0.mk hg4; clear h4 hb4 hg4 hat4))
        go_roundg (l0.length - (i + 1))
        case measure => have := HI2.out; have := HG.out; omega
        case rel =>
          obtain ⟨t1, t2⟩ := HT.out
          have hi := HI2.out
          refine ⟨i + 1, L ++ [((rd l0 (i : Int), some ⟨bs, 0, none⟩, 1, cs), [(i : Int)])], by first | rfl | (rw [← HW.out]; rfl) | go_num, ⟨by omega⟩, ⟨Nat.le_refl _⟩, ⟨⟨?_, by rw [List.length_append, List.length_singleton]; omega⟩⟩, ⟨by rw [Hl.fs_snoc]; exact HF4.out⟩, ⟨((HS.out.none HGN.out).snoc HSN.out).forest HFN.out HG4.out⟩, ⟨Hl.out_over (Kd.R_grown HO2.out HGN.out (fun _ _ e => by cases e)) HFN.out HG4.out⟩, HB4, ⟨by have := HOL.out; have := HGN.out.size; have := HG4.out.size; omega⟩⟩
          rw [Hl.trs_snoc, t1, Hl.initF_snoc l0 0 i hi, if_pos (show l0.getD i 0 > 0 from HQ.out), Nat.zero_add]
          rfl
      · have HQ := Aside0.mk q
        have hq : decide (rd l0 (i : Int) > 0) = false := decide_eq_false q
        clear q hw
        go_wp2
        go_roundg (l0.length - (i + 1))
        case measure => have := HI2.out; have := HG.out; omega
        case rel =>
          obtain ⟨t1, t2⟩ := HT.out
          have hi := HI2.out
          refine ⟨i + 1, L, by first | rfl | (rw [← HW.out]; rfl) | go_num, ⟨by omega⟩, ⟨Nat.le_refl _⟩, ⟨⟨?_, by omega⟩⟩, HF, HS, HO2, HB2, HOL⟩
          rw [t1, Hl.initF_snoc l0 0 i hi, if_neg (show ¬ l0.getD i 0 > 0 from Int.not_lt.2 HQ.out), List.append_nil]
    · have hge : i = l0.length := by have := HI.out; omega
      subst hge
      have hin : (decide ((l0.length : Int) < (l0.length : Int))) = false := decide_eq_false (by omega)
      obtain ⟨Af, cf, ef⟩ := Kd.R_slice HF.out
      have hcl : (Tre.cellsOf (Hl.fs L)).length = L.length := by unfold Tre.cellsOf; rw [List.length_map, Hl.fs_len]
      rw [hcl] at ef
      subst ef
      clear hcl hlt
      by_cases h1 : L.length = 1
      · obtain ⟨fb, cf2, ef, hf1, hf2, hf3⟩ := Hl.forest_form HF.out (by omega)
        injection ef with ef1 _ ef2
        subst ef1
        subst ef2
        rw [h1] at HF
        obtain ⟨_, _, _, _, hcell⟩ := Tre.tree_cells HF.out
        have hc0 := (hcell wr rfl 0 (by omega)).2
        have HT0 := HT.out
        rw [List.take_length] at HT0
        rw [Hl.fs_get L 0 (by omega)] at hc0
        have hmem : L.getD 0 Hl.zL ∈ L := by rw [List.getD_eq_getElem?_getD, List.getElem?_eq_getElem (by omega)]; exact List.getElem_mem (by omega)
        obtain ⟨i, i1, i2, _, _⟩ := Hl.trs_mem HT0.1 _ hmem
        have hsy := HS.out _ hmem
        have hg2 := Hl.trs_get L 0 (by omega)
        rw [HT0.1, i2] at hg2
        have hfin : Best.hufL l0 = (List.replicate l0.length 0).set ((i : Int)).toNat 1 := by
          unfold Best.hufL
          rw [if_pos (by rw [← HT0.1, Hl.trs_len]; exact h1), hg2]
          rfl
        rw [i2] at hsy
        obtain ⟨⟨xa, Aa, na, ca⟩, hxa⟩ : ∃ q, (L.getD 0 Hl.zL).1 = q := ⟨_, rfl⟩
        rw [hxa] at hc0 hsy
        obtain ⟨hna, _, hC⟩ := Kd.R_reads' hsy
        have hna' : na = 1 := hna
        subst hna'
        obtain ⟨ad, ead, hx⟩ := Kd.at_int hC 0 (by omega) (by simp)
        have ead' : Aa = some ad := ead
        subst ead'
        have hc1 : wr.cell? ⟨fb, 1, none⟩ = some (.slice (some ad) 1 ca) := hc0
        have hx' : wr.cell? ad = some (.int .i64 (i : Int)) := by
          have ha0 : ad.add 0 = ad := by simp [Addr.add]
          rw [← ha0]
          exact hx
        obtain ⟨q1, q2⟩ := Kd.R_celln 0 HO2.out (i : Int) (by omega) (by omega)
        obtain ⟨p1, p2⟩ := Kd.R_putg HO2.out (i : Int) 1
        rw [Int.toNat_natCast] at q1 q2 p1 p2 hfin
        have HP := Aside0.mk p1
        have HP2 := Aside0.mk (pw_below_grown HB2.out (some ob) HB2.out.size p2 (fun k e => by injection e with e; have := HOB.out.1; omega))
        have HFI := Aside0.mk hfin
        have h1b : decide ((L.length : Int) = 1) = true := decide_eq_true (by omega)
        have H1 := Aside0.mk h1
        have i1' : (i : Int) < (l0.length : Int) := by omega
        rw [h1]
        clear hf1 hf2 hf3 hc0 hcell hmem hsy hg2 hfin hxa hC hx ead hna p1 p2 HF HS HT HI HG HA b0 hlen hmk h1 HT0 i2 HR0 HO2 HB2 HC0 HOB HOL
        go_wp2
        go_loopg [4] 0 (fun gg v4 W => v4 = .slice (some ⟨fb, 0, none⟩) 1 cf ∧ Aside0 (W = wr.setCell ⟨ob, i, none⟩ (.int .i64 1)))
        case atStart => exact ⟨rfl, ⟨by first | rfl | simp⟩⟩
        case round =>
          obtain ⟨rfl, ⟨hrel⟩⟩ := hrel
          subst hrel
          go_wp2
          go_ret
          exact ⟨_, rfl, by rw [HFI.out]; exact HP.out, HP2.out⟩
      · have h1b : decide ((L.length : Int) = 1) = false := decide_eq_false (by omega)
        have h1c : ((L.length : Int) == 1) = false := by rw [beq_eq_false_iff_ne]; omega
        have H1 := Aside0.mk h1
        clear h1
        have HT0 := HT.out
        rw [List.take_length] at HT0
        have HV := Aside0.mk (Hl.HInv.start HT0.1 HT0.2 HLEN.out (fun x hx => by have := List.all_eq_true.1 HALL.out x hx; have h2 := of_decide_eq_true this; exact h2.2))
        have hfin : Best.mergeF l0.length (Best.initF 0 l0) (List.replicate l0.length 0) = Best.hufL l0 := by
          unfold Best.hufL
          rw [if_neg (by rw [← HT0.1, Hl.trs_len]; exact H1.out)]
        rw [hfin] at HV
        have HFO := Aside0.mk (Hl.Fo.mk HF.out HS.out HO2.out HB2.out HOL.out)
        clear hfin HT0 HT HF HS HO2 HB2 HOL HI HG HA b0 hlen hmk hin HOB
        go_wp2
        go_loopg [4] l0.length (fun gg v4 W => ∃ (m : Nat) (L : List Hl.LT) (ls : List Int), Aside0 (m ≤ gg) ∧ Aside0 (Hl.HInv l0.length (Best.hufL l0) m L ls) ∧ Aside0 (Hl.Fo w W ob l0.length co v4 L ls))
        case atStart => exact ⟨l0.length, L, _, ⟨Nat.le_refl _⟩, HV, HFO⟩
        case round =>
          clear HV HFO H1 h1b h1c
          obtain ⟨m, L, ls, HM, HV, HFO⟩ := hrel
          by_cases hl : 1 < L.length
          · obtain ⟨fb, cf, ef, hf1, hf2, hf3⟩ := Hl.forest_form HFO.out.fo (by omega)
            subst ef
            have hgt : decide ((L.length : Int) > 1) = true := decide_eq_true (by omega)
            have HLL := Aside0.mk hl
            have HF1 := Aside0.mk hf1
            clear hl hf1 hf2 hf3
            go_wp2_with (first | ((with_reducible refine gate_dst (N := 7) rfl ?_); refine box_event ?hg (N := 7) ?hd (cs := #[.int .i64 0, .slice none 0 0]) (t := 67) ?hr ?_; (case hd => rfl); (case hg => rfl); (case hr => first | (go_simp; done) | (go_simp; rfl)); intro g7 hg7 w7 hbx hb; have B7 := Aside0.mk hbx; have F7 := Aside0.mk (HFO.out.below hb); have N7 := Aside0.mk (show w.heap.size ≤ g7 ∧ g7 ≠ fb from by have h1 := HFO.out.be.size; have h2 := HFO.out.typed.2.2.1; omega); clear hb hbx hg7) | ((with_reducible refine gate_dst (N := 8) rfl ?_); refine box_event ?hg (N := 8) ?hd (cs := #[.int .i64 0, .slice none 0 0]) (t := 67) ?hr ?_; (case hd => rfl); (case hg => rfl); (case hr => first | (go_simp; done) | (go_simp; rfl)); intro g8 hg8 w8 hbx hb; have B8 := Aside0.mk hbx; have F8 := Aside0.mk (F7.out.below hb); have N8 := Aside0.mk (show w.heap.size ≤ g8 ∧ g8 ≠ fb ∧ g8 ≠ g7 from by have h1 := F7.out.be.size; have h2 := F7.out.typed.2.2.1; have h3 := blk_lt B7.out; omega); replace B7 := Aside0.mk (blk_below B7.out hb); clear hb hbx hg8) | (go_at_call 55; (with_reducible refine (Tre.lightestTree w.heap.size fb cf L.length (Hl.fs L) (fun _ => True) w w8 F8.out.be F8.out.be.size F8.out.fo ?c1 ?c2).mono ?_); (case c1 => have := HLL.out; omega); (case c2 => have := HV.out.2.1; have := HV.out.2.2.1; omega); rintro e w9 ⟨a, hfm, rfl, hr9, hb9, hg9⟩; obtain ⟨cl8, hc8⟩ := F8.out.typed.2.2.2; have F9 := Aside0.mk (F8.out.take hc8 hg9 hr9 hb9); have la := hfm.1; rw [Hl.fs_len] at la; have SA := Aside0.mk ((F8.out.sy.grown hg9 hc8 (by decide)).sub (L' := [L.getD a Hl.zL]) (fun p hp => by rw [List.mem_singleton] at hp; subst hp; rw [List.getD_eq_getElem?_getD, List.getElem?_eq_getElem la]; exact List.getElem_mem la)); have HFA := Aside0.mk hfm; rw [Hl.fs_get L a la]; have HLA := Aside0.mk la; replace B7 := Aside0.mk (blk_grown B7.out hg9 (by have := N7.out.2; intro e; injection e with e; omega)); replace B8 := Aside0.mk (blk_grown B8.out hg9 (by have := N8.out.2; intro e; injection e with e; omega)); obtain ⟨⟨xa, Aa, na, ca⟩, hxa⟩ : ∃ q, (L.getD a Hl.zL).1 = q := ⟨_, rfl⟩; rw [hxa]; have HXA := Aside0.mk hxa; clear hfm hr9 hb9 hg9 hc8 la hxa) | ((with_reducible refine gate_store (t := 67) (p := 7) (v := .tmp 57) rfl ?_); refine store_event (t := 67) (p := 7) (v := .tmp 57) (w1 := ((World.setCell w9 ⟨g7, 0, none⟩ (.int .i64 xa)).setCell ⟨g7, 1, none⟩ (.slice Aa na ca))) ?hg ?ho ?hn ?hr ?_; (case ho => rfl); (case hg => rfl); (case hn => rfl); (case hr => have c0_ := blk_cell B7.out 0; have c1_ := blk_cell B7.out 1; have f0_ := blk_frozen B7.out 0; have f1_ := blk_frozen B7.out 1; first | (go_simp; done) | (go_simp; rfl)); intro w10 hw; have hgr := Tre.grown_trans2 (Tre.grown_cell w9 g7 0 (.int .i64 xa)) (Tre.grown_cell _ g7 1 (.slice Aa na ca)); rw [← hw] at hgr; have F10 := Aside0.mk (F9.out.box B7.out N7.out.2 N7.out.1 hgr); replace SA := Aside0.mk (SA.out.grown hgr B7.out (by decide)); replace B8 := Aside0.mk (blk_grown B8.out hgr (by have := N8.out.2; intro e; injection e with e; omega)); replace B7 := Aside0.mk (show w10.heap[g7]? = some (.cells #[.int .i64 xa, .slice Aa na ca] 67 (0, 0)) from (by rw [hw]; exact blk_put (blk_put B7.out 0 _ rfl) 1 _ rfl)); clear hgr hw) | (go_at_call 55; (with_reducible refine (Tre.lightestTree w.heap.size fb cf (L.length - 1) (Hl.fs (L.eraseIdx a)) (fun _ => True) w w10 F10.out.be F10.out.be.size F10.out.fo ?c1 ?c2).mono ?_); (case c1 => have := HLL.out; omega); (case c2 => have := HV.out.2.1; have := HV.out.2.2.1; omega); rintro e w11 ⟨b, hfm, rfl, hr9, hb9, hg9⟩; obtain ⟨cl8, hc8⟩ := F10.out.typed.2.2.2; have F11 := Aside0.mk (F10.out.take hc8 hg9 hr9 hb9); have lb := hfm.1; rw [Hl.fs_len] at lb; replace SA := Aside0.mk (SA.out.grown hg9 hc8 (by decide)); have SB := Aside0.mk ((F10.out.sy.grown hg9 hc8 (by decide)).sub (L' := [(L.eraseIdx a).getD b Hl.zL]) (fun p hp => by rw [List.mem_singleton] at hp; subst hp; rw [List.getD_eq_getElem?_getD, List.getElem?_eq_getElem lb]; exact List.getElem_mem lb)); have HFB := Aside0.mk hfm; rw [Hl.fs_get (L.eraseIdx a) b lb]; have HLB := Aside0.mk lb; replace B7 := Aside0.mk (blk_grown B7.out hg9 (by have := N7.out.2; intro e; injection e with e; omega)); replace B8 := Aside0.mk (blk_grown B8.out hg9 (by have := N8.out.2; intro e; injection e with e; omega)); obtain ⟨⟨xb, Ab, nb, cb⟩, hxb⟩ : ∃ q, ((L.eraseIdx a).getD b Hl.zL).1 = q := ⟨_, rfl⟩; rw [hxb]; have HXB := Aside0.mk hxb; clear hfm hr9 hb9 hg9 hc8 lb hxb) | ((with_reducible refine gate_store (t := 67) (p := 8) (v := .tmp 62) rfl ?_); refine store_event (t := 67) (p := 8) (v := .tmp 62) (w1 := ((World.setCell w11 ⟨g8, 0, none⟩ (.int .i64 xb)).setCell ⟨g8, 1, none⟩ (.slice Ab nb cb))) ?hg ?ho ?hn ?hr ?_; (case ho => rfl); (case hg => rfl); (case hn => rfl); (case hr => have c0_ := blk_cell B8.out 0; have c1_ := blk_cell B8.out 1; have f0_ := blk_frozen B8.out 0; have f1_ := blk_frozen B8.out 1; first | (go_simp; done) | (go_simp; rfl)); intro w12 hw; have hgr := Tre.grown_trans2 (Tre.grown_cell w11 g8 0 (.int .i64 xb)) (Tre.grown_cell _ g8 1 (.slice Ab nb cb)); rw [← hw] at hgr; have F12 := Aside0.mk (F11.out.box B8.out N8.out.2.1 N8.out.1 hgr); replace SA := Aside0.mk (SA.out.grown hgr B8.out (by decide)); replace SB := Aside0.mk (SB.out.grown hgr B8.out (by decide)); replace B7 := Aside0.mk (blk_grown B7.out hgr (by have := N8.out.2; intro e; injection e with e; omega)); replace B8 := Aside0.mk (show w12.heap[g8]? = some (.cells #[.int .i64 xb, .slice Ab nb cb] 67 (0, 0)) from (by rw [hw]; exact blk_put (blk_put B8.out 0 _ rfl) 1 _ rfl)); clear hgr hw))
            clear F7 F8 F9 F10 F11 HFO
            have ra := SA.out (L.getD a Hl.zL) List.mem_cons_self
            have rb := SB.out ((L.eraseIdx a).getD b Hl.zL) List.mem_cons_self
            rw [HXA.out] at ra
            rw [HXB.out] at rb
            have RA := Aside0.mk ra
            have RB := Aside0.mk rb
            clear SA SB ra rb
            have h2 := HV.out.two HLL.out HLA.out HLB.out
            rw [HXA.out, HXB.out] at h2
            have H2 := Aside0.mk h2
            clear h2
            obtain ⟨sa, hsa⟩ : ∃ q, (L.getD a Hl.zL).2 = q := ⟨_, rfl⟩
            obtain ⟨sb, hsb⟩ : ∃ q, ((L.eraseIdx a).getD b Hl.zL).2 = q := ⟨_, rfl⟩
            rw [hsa] at RA H2
            rw [hsb] at RB H2
            have HSA := Aside0.mk hsa
            have HSB := Aside0.mk hsb
            clear hsa hsb
            go_cut [9] (fun v9 W => ∃ (g9 : Nat) (Av : Option Addr) (nv cv : Nat), v9 = .pointer (some ⟨g9, 0, none⟩) ∧ Aside0 (Hl.Joined w W ob l0.length co fb (L.length - 1 - 1) cf ((L.eraseIdx a).eraseIdx b) ls g9 (xa + xb) Av nv cv (sa ++ sb)))
            case first =>
              have hsum : IntKind.i64.wrap (xa + xb) = xa + xb := (i64_w _).trans (by have := H2.out; unfold wrap64; omega)
              have d1 := (blk_cell B7.out 0).trans rfl
              have d2 := (blk_cell B7.out 1).trans rfl
              have d3 := (blk_cell B8.out 0).trans rfl
              have d4 := (blk_cell B8.out 1).trans rfl
              have m1 : ∀ o, (w12.alloc o).cell? ⟨g7, 0, none⟩ = some (.int .i64 xa) := fun o => (blk_cell (blk_alloc B7.out o) 0).trans rfl
              have m2 : ∀ o, (w12.alloc o).cell? ⟨g7, 1, none⟩ = some (.slice Aa na ca) := fun o => (blk_cell (blk_alloc B7.out o) 1).trans rfl
              have m3 : ∀ o, (w12.alloc o).cell? ⟨g8, 0, none⟩ = some (.int .i64 xb) := fun o => (blk_cell (blk_alloc B8.out o) 0).trans rfl
              have m4 : ∀ o, (w12.alloc o).cell? ⟨g8, 1, none⟩ = some (.slice Ab nb cb) := fun o => (blk_cell (blk_alloc B8.out o) 1).trans rfl
              have n2 : ∀ o o', ((w12.alloc o).alloc o').cell? ⟨g7, 1, none⟩ = some (.slice Aa na ca) := fun o o' => (blk_cell (blk_alloc (blk_alloc B7.out o) o') 1).trans rfl
              have n4 : ∀ o o', ((w12.alloc o).alloc o').cell? ⟨g8, 1, none⟩ = some (.slice Ab nb cb) := fun o o' => (blk_cell (blk_alloc (blk_alloc B8.out o) o') 1).trans rfl
              have n1 : ∀ o o', ((w12.alloc o).alloc o').cell? ⟨g7, 0, none⟩ = some (.int .i64 xa) := fun o o' => (blk_cell (blk_alloc (blk_alloc B7.out o) o') 0).trans rfl
              have n3 : ∀ o o', ((w12.alloc o).alloc o').cell? ⟨g8, 0, none⟩ = some (.int .i64 xb) := fun o o' => (blk_cell (blk_alloc (blk_alloc B8.out o) o') 0).trans rfl
              have L7 := blk_lt B7.out
              have L8 := blk_lt B8.out
              have HCAT := Aside0.mk (fun (g : Nat) (W' : World) (hW : Below w12.heap.size w12 W') (hx : W'.heap[g]? = some (.cells #[.slice Aa na ca, .slice Ab nb cb] 24 (0, 0))) => slices_Concat_int_int.calls 6 (some ⟨g, 0, none⟩) 2 [sa, sb] (sa ++ sb) W' (Hl.two_rows RA.out RB.out hW hx) (Nat.le_refl _) (impl_HuffLens.concat2 sa sb H2.out.1.2))
              go_region_held3 (fun W' => W'.cell? ⟨g7, 0, none⟩ = some (.int .i64 xa) ∧ W'.cell? ⟨g7, 1, none⟩ = some (.slice Aa na ca) ∧ W'.cell? ⟨g8, 0, none⟩ = some (.int .i64 xb) ∧ W'.cell? ⟨g8, 1, none⟩ = some (.slice Ab nb cb)) (first | exact ⟨m1 _, m2 _, m3 _, m4 _⟩ | exact ⟨n1 _ _, n2 _ _, n3 _ _, n4 _ _⟩ | exact ⟨k1_, k5_, k3_, k6_⟩ | exact ⟨k2_ _, k7_ _, k4_ _, k8_ _⟩ | exact ⟨(Hl.far2 _ (by omega) _ _ _).trans (k1_), (Hl.far2 _ (by omega) _ _ _).trans (k5_), (Hl.far2 _ (by omega) _ _ _).trans (k3_), (Hl.far2 _ (by omega) _ _ _).trans (k6_)⟩ | exact ⟨(Hl.far2 _ (by omega) _ _ _).trans (k2_ _), (Hl.far2 _ (by omega) _ _ _).trans (k7_ _), (Hl.far2 _ (by omega) _ _ _).trans (k4_ _), (Hl.far2 _ (by omega) _ _ _).trans (k8_ _)⟩ | go_keep) ((first | (refine goes_ Try.func56 (by kernel_rfl) rfl #[.slice (some ⟨w12.heap.size, 0, none⟩) 2 2] (by rfl) rfl rfl (by simp [Act.eval, Act.put]) ?_; refine (HCAT.out _ _ (by repeat (first | exact Below.refl _ _ | (with_reducible first | apply below_alloc | apply pw_below_drewN | apply below_drew))) (by first | exact blk_new w12 _ | exact blk_alloc (blk_new w12 _) _ | (have h_ := blk_new (w12.alloc (.cells #[.int .i64 0, .slice none 0 0] 67)) (.cells #[.slice Aa na ca, .slice Ab nb cb] 24); rw [World.size_alloc] at h_; exact h_))).mono ?_; rintro e w13 ⟨v13, rfl, h13, b13⟩; refine ⟨_, rfl, ?_⟩; obtain ⟨Av, cv, ev⟩ := Kd.R_slice h13; subst ev; (first | (have ox_ : w13.heap[w12.heap.size]? = some (.cells #[.int .i64 0, .slice none 0 0] 67 (0, 0)) := blk_below (by first | exact blk_new w12 _ | exact blk_alloc (blk_new w12 _) _ | (have h_ := blk_new (w12.alloc (.cells #[.slice Aa na ca, .slice Ab nb cb] 24)) (.cells #[.int .i64 0, .slice none 0 0] 67); rw [World.size_alloc] at h_; exact h_)) b13; have o1_ := (blk_cell ox_ 0).trans rfl; have o2_ := (blk_cell ox_ 1).trans rfl; have o3_ := blk_frozen ox_ 0; have o4_ := blk_frozen ox_ 1; have OX := Aside0.mk ox_; clear ox_) | (have ox_ : w13.heap[w12.heap.size + 1]? = some (.cells #[.int .i64 0, .slice none 0 0] 67 (0, 0)) := blk_below (by first | exact blk_new w12 _ | exact blk_alloc (blk_new w12 _) _ | (have h_ := blk_new (w12.alloc (.cells #[.slice Aa na ca, .slice Ab nb cb] 24)) (.cells #[.int .i64 0, .slice none 0 0] 67); rw [World.size_alloc] at h_; exact h_)) b13; have o1_ := (blk_cell ox_ 0).trans rfl; have o2_ := (blk_cell ox_ 1).trans rfl; have o3_ := blk_frozen ox_ 0; have o4_ := blk_frozen ox_ 1; have OX := Aside0.mk ox_; clear ox_) | skip); have B7_ := blk_below (g := g7) (by repeat (first | exact B7.out | (with_reducible first | apply blk_alloc | apply nB | apply dB))) b13; have B8_ := blk_below (g := g8) (by repeat (first | exact B8.out | (with_reducible first | apply blk_alloc | apply nB | apply dB))) b13; have k1_ := (blk_cell B7_ 0).trans rfl; have k3_ := (blk_cell B8_ 0).trans rfl; have k5_ := (blk_cell B7_ 1).trans rfl; have k6_ := (blk_cell B8_ 1).trans rfl; have k7_ : ∀ o, (w13.alloc o).cell? ⟨g7, 1, none⟩ = some (.slice Aa na ca) := fun o => (blk_cell (blk_alloc B7_ o) 1).trans rfl; have k8_ : ∀ o, (w13.alloc o).cell? ⟨g8, 1, none⟩ = some (.slice Ab nb cb) := fun o => (blk_cell (blk_alloc B8_ o) 1).trans rfl; have k2_ : ∀ o, (w13.alloc o).cell? ⟨g7, 0, none⟩ = some (.int .i64 xa) := fun o => (blk_cell (blk_alloc B7_ o) 0).trans rfl; have k4_ : ∀ o, (w13.alloc o).cell? ⟨g8, 0, none⟩ = some (.int .i64 xb) := fun o => (blk_cell (blk_alloc B8_ o) 0).trans rfl; clear B7_ B8_; have lw13_ : w12.heap.size ≤ w13.heap.size := Nat.le_trans (Below.size (B := w12.heap.size) (w := w12) (by repeat (first | exact Below.refl _ _ | (with_reducible first | apply below_alloc | apply pw_below_drewN | apply below_drew)))) b13.size; have H13 := Aside0.mk h13; have B13 := Aside0.mk b13; clear h13 b13) | (refine goes_ Try.func56 (by kernel_rfl) rfl #[.slice (some ⟨w12.heap.size + 1, 0, none⟩) 2 2] (by rfl) rfl rfl (by simp [Act.eval, Act.put]) ?_; refine (HCAT.out _ _ (by repeat (first | exact Below.refl _ _ | (with_reducible first | apply below_alloc | apply pw_below_drewN | apply below_drew))) (by first | exact blk_new w12 _ | exact blk_alloc (blk_new w12 _) _ | (have h_ := blk_new (w12.alloc (.cells #[.int .i64 0, .slice none 0 0] 67)) (.cells #[.slice Aa na ca, .slice Ab nb cb] 24); rw [World.size_alloc] at h_; exact h_))).mono ?_; rintro e w13 ⟨v13, rfl, h13, b13⟩; refine ⟨_, rfl, ?_⟩; obtain ⟨Av, cv, ev⟩ := Kd.R_slice h13; subst ev; (first | (have ox_ : w13.heap[w12.heap.size]? = some (.cells #[.int .i64 0, .slice none 0 0] 67 (0, 0)) := blk_below (by first | exact blk_new w12 _ | exact blk_alloc (blk_new w12 _) _ | (have h_ := blk_new (w12.alloc (.cells #[.slice Aa na ca, .slice Ab nb cb] 24)) (.cells #[.int .i64 0, .slice none 0 0] 67); rw [World.size_alloc] at h_; exact h_)) b13; have o1_ := (blk_cell ox_ 0).trans rfl; have o2_ := (blk_cell ox_ 1).trans rfl; have o3_ := blk_frozen ox_ 0; have o4_ := blk_frozen ox_ 1; have OX := Aside0.mk ox_; clear ox_) | (have ox_ : w13.heap[w12.heap.size + 1]? = some (.cells #[.int .i64 0, .slice none 0 0] 67 (0, 0)) := blk_below (by first | exact blk_new w12 _ | exact blk_alloc (blk_new w12 _) _ | (have h_ := blk_new (w12.alloc (.cells #[.slice Aa na ca, .slice Ab nb cb] 24)) (.cells #[.int .i64 0, .slice none 0 0] 67); rw [World.size_alloc] at h_; exact h_)) b13; have o1_ := (blk_cell ox_ 0).trans rfl; have o2_ := (blk_cell ox_ 1).trans rfl; have o3_ := blk_frozen ox_ 0; have o4_ := blk_frozen ox_ 1; have OX := Aside0.mk ox_; clear ox_) | skip); have B7_ := blk_below (g := g7) (by repeat (first | exact B7.out | (with_reducible first | apply blk_alloc | apply nB | apply dB))) b13; have B8_ := blk_below (g := g8) (by repeat (first | exact B8.out | (with_reducible first | apply blk_alloc | apply nB | apply dB))) b13; have k1_ := (blk_cell B7_ 0).trans rfl; have k3_ := (blk_cell B8_ 0).trans rfl; have k5_ := (blk_cell B7_ 1).trans rfl; have k6_ := (blk_cell B8_ 1).trans rfl; have k7_ : ∀ o, (w13.alloc o).cell? ⟨g7, 1, none⟩ = some (.slice Aa na ca) := fun o => (blk_cell (blk_alloc B7_ o) 1).trans rfl; have k8_ : ∀ o, (w13.alloc o).cell? ⟨g8, 1, none⟩ = some (.slice Ab nb cb) := fun o => (blk_cell (blk_alloc B8_ o) 1).trans rfl; have k2_ : ∀ o, (w13.alloc o).cell? ⟨g7, 0, none⟩ = some (.int .i64 xa) := fun o => (blk_cell (blk_alloc B7_ o) 0).trans rfl; have k4_ : ∀ o, (w13.alloc o).cell? ⟨g8, 0, none⟩ = some (.int .i64 xb) := fun o => (blk_cell (blk_alloc B8_ o) 0).trans rfl; clear B7_ B8_; have lw13_ : w12.heap.size ≤ w13.heap.size := Nat.le_trans (Below.size (B := w12.heap.size) (w := w12) (by repeat (first | exact Below.refl _ _ | (with_reducible first | apply below_alloc | apply pw_below_drewN | apply below_drew)))) b13.size; have H13 := Aside0.mk h13; have B13 := Aside0.mk b13; clear h13 b13)))
              all_goals (go_wp2_with fail; go_meet; first | exact ⟨_, _, _, _, rfl, ⟨by have h13_ := H13.out; rw [List.length_append] at h13_; exact F12.out.join1 (xa + xb) (by repeat (first | exact Below.refl _ _ | (with_reducible first | apply below_alloc | apply pw_below_drewN | apply below_drew))) B13.out h13_ OX.out (by omega)⟩⟩ | exact ⟨_, _, _, _, rfl, ⟨by have h13_ := H13.out; rw [List.length_append] at h13_; exact F12.out.join2 (xa + xb) (by repeat (first | exact Below.refl _ _ | (with_reducible first | apply below_alloc | apply pw_below_drewN | apply below_drew))) B13.out h13_⟩⟩)
            case rest =>
              obtain ⟨g9, Av, nv, cv, rfl, HJ⟩ := hcut
              obtain ⟨ss, hss⟩ : ∃ q, sa ++ sb = q := ⟨_, rfl⟩
              rw [hss] at HJ H2
              have HSS := Aside0.mk hss
              clear hss
              have hnv := (Kd.R_reads' HJ.out.sy).1
              subst hnv
              have d1 := (blk_cell HJ.out.bx 1).trans rfl
              clear B7 B8 F12 RA RB
              go_wp2
              go_loopg [79] ss.length (fun gg v79 W => ∃ j : Nat, v79 = .int .i64 j ∧ Aside0 (j ≤ ss.length) ∧ Aside0 (ss.length - j ≤ gg) ∧ Aside0 (Hl.Joined w W ob l0.length co fb (L.length - 1 - 1) cf ((L.eraseIdx a).eraseIdx b) (Best.bumpL ls (ss.take j)) g9 (xa + xb) Av ss.length cv ss))
              case atStart => exact ⟨0, rfl, ⟨by omega⟩, ⟨by omega⟩, HJ⟩
              case round =>
                clear HJ d1
                obtain ⟨j, rfl, HI, HG, HJ⟩ := hrel
                by_cases hlt : j < ss.length
                · have HLT := Aside0.mk hlt
                  obtain ⟨ad, ead, hx⟩ := Kd.at_int (Kd.R_reads' HJ.out.sy).2.2 (j : Int) (by omega) (by omega)
                  subst ead
                  rw [Int.toNat_natCast] at hx
                  have hs := H2.out.1.1 (rd ss (j : Int)) (by unfold rd; rw [Int.toNat_natCast, List.getD_eq_getElem?_getD, List.getElem?_eq_getElem hlt]; exact List.getElem_mem hlt)
                  have hbt := Aside0.mk (Hl.bump_take ls ss j hlt)
                  have hlow := HV.out.low ss H2.out.1.2 j (rd ss (j : Int)).toNat
                  have hin : (decide ((j : Int) < (ss.length : Int))) = true := decide_eq_true (by omega)
                  have hw : wrap64 ((j : Int) + 1) = ((j + 1 : Nat) : Int) := by have := H2.out.1.2; unfold wrap64; omega
                  have HRD := Aside0.mk (show rd ss (j : Int) = ss.getD j 0 from rfl)
                  obtain ⟨s, hs_⟩ : ∃ q, rd ss (j : Int) = q := ⟨_, rfl⟩
                  rw [hs_] at hs hlow hx HRD
                  obtain ⟨s0, s1⟩ := hs
                  obtain ⟨q1, q2⟩ := Kd.R_celln 0 HJ.out.fo.ou s s0 s1
                  obtain ⟨y, hy⟩ : ∃ q, (Best.bumpL ls (ss.take j)).getD s.toNat 0 = q := ⟨_, rfl⟩
                  have q1' : _ = some (Value.int .i64 y) := q1.trans (by rw [← hy]; rfl)
                  rw [hy] at hlow
                  obtain ⟨y0, y1⟩ := hlow
                  have HY := Aside0.mk hy
                  have HW := Aside0.mk hw
                  have hyw : wrap64 (y + 1) = y + 1 := by unfold wrap64; omega
                  clear q1 hy hs_ hw
                  go_wp2
                  go_roundg (ss.length - (j + 1))
                  case measure => have := HLT.out; have := HG.out; omega
                  case rel =>
                    have := HLT.out
                    refine ⟨j + 1, by first | exact congrArg (Value.int .i64) HW.out | rfl | (rw [← HW.out]; rfl) | go_num, ⟨Nat.succ_le_of_lt this⟩, ⟨Nat.le_refl _⟩, ⟨?_⟩⟩
                    rw [hbt.out, ← HRD.out, HY.out]
                    exact HJ.out.bump s (y + 1)
                · have hge : j = ss.length := by have := HI.out; omega
                  subst hge
                  rw [List.take_length] at HJ
                  have hin : (decide ((ss.length : Int) < (ss.length : Int))) = false := decide_eq_false (by omega)
                  have d1 : _ = some (Value.int .i64 (xa + xb)) := (blk_cell HJ.out.bx 0).trans rfl
                  have d2 : _ = some (Value.slice Av ss.length cv) := (blk_cell HJ.out.bx 1).trans rfl
                  clear hlt
                  go_wp2_with ((with_reducible refine gate_builtin (b := .append) (xs := #[.tmp 90, .tmp 92]) rfl ?_); at_builtin; refine Kd.R_append (Kd.raw 2) (w0 := w) w.heap.size rfl (.tmp 90) (.tmp 92) 65 67 (.agg #[.int .i64 0, .slice none 0 0]) 32 rfl Try.underlying65 (by kernel_rfl) (by rfl) (by decide) (by omega) (.slice (some ⟨fb, 0, none⟩) (L.length - 1 - 1) cf) (Tre.cellsOf (Hl.fs ((L.eraseIdx a).eraseIdx b))) [.int .i64 (xa + xb), .slice Av ss.length cv] [.int .i64 (xa + xb), .slice Av ss.length cv] (fun _ => True) (fun _ => False) rfl rfl ?aP (fun _ hk => hk.elim) (fun _ _ => trivial) HJ.out.fo.fo HJ.out.fo.be HJ.out.fo.be.size ?aL ?_; (case aP => exact ⟨rfl, rfl, by simp [Value.oneCell']⟩); (case aL => have h1_ := HV.out.2.1; have h2_ := HV.out.2.2.1; have h3_ := HJ.out.fo.typed.1; rw [show (Tre.cellsOf (Hl.fs ((L.eraseIdx a).eraseIdx b))).length = ((L.eraseIdx a).eraseIdx b).length by unfold Tre.cellsOf; rw [List.length_map, Hl.fs_len], ← h3_]; omega); intro v14 w14 h4 hb4 hg4 hat4; have F14 := Aside0.mk (HJ.out.push h4 hb4 (by simpa [Value.ownBlock] using hg4)); clear h4 hb4 hg4 hat4)
                  go_roundg (m - 1)
                  case measure => have := (HV.out.next HLL.out HFA.out HFB.out (xa + xb, Av, ss.length, cv) (by rw [HXA.out, HXB.out])).1; have := HM.out; omega
                  case rel =>
                    have hn := HV.out.next HLL.out HFA.out HFB.out (xa + xb, Av, ss.length, cv) (by rw [HXA.out, HXB.out])
                    rw [HSA.out, HSB.out, HSS.out] at hn
                    exact ⟨m - 1, _, _, ⟨Nat.le_refl _⟩, ⟨hn.2⟩, F14⟩
          · obtain ⟨Af2, cf2, ef⟩ := Kd.R_slice HFO.out.fo
            rw [show (Tre.cellsOf (Hl.fs L)).length = L.length by unfold Tre.cellsOf; rw [List.length_map, Hl.fs_len]] at ef
            subst ef
            have hgt : decide ((L.length : Int) > 1) = false := decide_eq_false (by omega)
            have HE := Aside0.mk (HV.out.done (by omega))
            clear hl
            go_wp2
            go_ret
            exact ⟨_, rfl, by rw [← HE.out]; exact HFO.out.ou, HFO.out.be⟩

end Go.Proofs.Ytgjmmegmkdklbaa.QFnHuffBest
