-- A walk, made by walk.py, a program of this session's.
import Derived.Test.YtoinagnieobbpaaQFnStretchWordsx0
import Derived.Test.YtoinagnieobbpaaQFnStretchWordsx1
import Derived.Test.YtoinagnieobbpaaQFnStretchWordsx5
import Derived.Test.YtoinagnieobbpaaQFnStretchWordsx8
import Derived.Test.YtoinagnieobbpaaQFnStretchWordsx10
import Derived.Test.YtoinagnieobbpaaQFnStretchWordsx12
import Derived.Test.YtoinagnieobbpaaQFnStretchWordsx13
namespace Go.Proofs.Ytoinagnieobbpaa.QFnStretchWords
open Go.RowKit Go.Proofs.YtoinagnieobbpaaW.PrintWords Go.Proofs.YtoinagnieobbpaaW.PrintLast Go.Proofs.YtoinagnieobbpaaW.PrintMore
attribute [local go_sem] max2_int min2_int max_two min_two max_three min_three max_four min_four   -- for this text's walks alone
set_option linter.unusedVariables false
set_option linter.unusedSimpArgs false

attribute [local go_sem high] eqA27
/-! ### laws_FnStretchWords: function 10 -/
mutual
def laws_FnStretchWords.j0 : Nat → List (S27) → Bool → Int → Int → Int → Option (Bool)
 | 0, _, _, _, _, _ => none
 | k + 1, x6, x64, x447000, x447001, x447002 => if x64 = true then (some false) else (laws_FnStretchWords.l0 k x6 x447000 0 x447000 x447001 x447002)
def laws_FnStretchWords.l0 : Nat → List (S27) → Int → Int → Int → Int → Int → Option (Bool)
 | 0, _, _, _, _, _, _ => none
 | k + 1, x6, x9, x10, x447000, x447001, x447002 => if x10 < (x6.length : Int) then (if 0 ≤ x10 then (if ((rd_T27 x6 x10).f0) < x9 then (laws_FnStretchWords.j2 k x6 x10 true x447000 x447001 x447002) else (if ((rd_T27 x6 x10).f1) > x447001 then (laws_FnStretchWords.j2 k x6 x10 true x447000 x447001 x447002) else (laws_FnStretchWords.j2 k x6 x10 (decide (((rd_T27 x6 x10).f2) ≤ x447002)) x447000 x447001 x447002))) else (none)) else (some true)
def laws_FnStretchWords.j2 : Nat → List (S27) → Int → Bool → Int → Int → Int → Option (Bool)
 | 0, _, _, _, _, _, _ => none
 | k + 1, x6, x10, x99, x447000, x447001, x447002 => if x99 = true then (some false) else (if 0 ≤ x10 then (if x10 < (x6.length : Int) then (laws_FnStretchWords.l0 k x6 ((rd_T27 x6 x10).f1) (wrap64 (x10 + 1)) x447000 x447001 x447002) else (none)) else (none))
end
def laws_FnStretchWords.f (k : Nat) (l0 : List Int) : Option (Bool) := (laws_big.f l0).bind fun t439 => (if t439 = true then (some true) else ((spec_DrawStretchKids.f k l0).bind fun bt440 => ((impl_StretchWord.f k bt440.1 bt440.2.1 bt440.2.2.1 bt440.2.2.2).bind fun t447 => ((impl_StretchKids.f k bt440.1 bt440.2.1 bt440.2.2.1 bt440.2.2.2).bind fun t450 => ((spec_StretchOk.f k bt440.1 bt440.2.1 bt440.2.2.1 bt440.2.2.2).bind fun t453 => (if t453 = true then ((impl_StretchOf.f k bt440.1 t447).bind fun bt454 => (if bt454.2.2.2 = true then (if (!(bt454.1 == bt440.2.1) || (!(bt454.2.1 == bt440.2.2.1) || (!(bt454.2.2.1 == bt440.2.2.2)))) = true then (laws_FnStretchWords.j0 k t450 true bt440.2.1 bt440.2.2.1 bt440.2.2.2) else (if (t447.length : Int) = bt440.2.2.2 then ((spec_StretchKids.f k bt440.1 bt440.2.1 bt440.2.2.1 bt440.2.2.2).bind fun t459 => (laws_FnStretchWords.j0 k t450 ((t450.length : Int) != (t459.length : Int)) bt440.2.1 bt440.2.2.1 bt440.2.2.2)) else (laws_FnStretchWords.j0 k t450 true bt440.2.1 bt440.2.2.1 bt440.2.2.2))) else (laws_FnStretchWords.j0 k t450 true bt440.2.1 bt440.2.2.1 bt440.2.2.2))) else (if (t447.length : Int) = 0 then (some ((t450.length : Int) == 0)) else (some false))))))))
theorem laws_FnStretchWords.mono_l : ∀ k, (∀ y0 y1 y2 y3 y4, LeO (laws_FnStretchWords.j0 k y0 y1 y2 y3 y4) (laws_FnStretchWords.j0 (k + 1) y0 y1 y2 y3 y4)) ∧ (∀ y0 y1 y2 y3 y4 y5, LeO (laws_FnStretchWords.l0 k y0 y1 y2 y3 y4 y5) (laws_FnStretchWords.l0 (k + 1) y0 y1 y2 y3 y4 y5)) ∧ (∀ y0 y1 y2 y3 y4 y5, LeO (laws_FnStretchWords.j2 k y0 y1 y2 y3 y4 y5) (laws_FnStretchWords.j2 (k + 1) y0 y1 y2 y3 y4 y5))
 | 0 => ⟨fun _ _ _ _ _ r h => by simp [laws_FnStretchWords.j0] at h, fun _ _ _ _ _ _ r h => by simp [laws_FnStretchWords.l0] at h, fun _ _ _ _ _ _ r h => by simp [laws_FnStretchWords.j2] at h⟩
 | k + 1 => by
  obtain ⟨ih0, ih1, ih2⟩ := laws_FnStretchWords.mono_l k
  refine ⟨?_, ?_, ?_⟩
  ·intro y0 y1 y2 y3 y4
   unfold laws_FnStretchWords.j0
   repeat' first|(with_reducible first|exact ih0 _ _ _ _ _|exact ih1 _ _ _ _ _ _|exact ih2 _ _ _ _ _ _|exact impl_StretchKids.mono _ _ _ _ _|exact impl_StretchOf.mono _ _ _|exact impl_StretchWord.mono _ _ _ _ _|exact spec_DrawStretchKids.mono _ _|exact spec_StretchKids.mono _ _ _ _ _|exact spec_StretchOk.mono _ _ _ _ _|exact LeO.refl _|exact LeO.none _|refine LeO.ite ?_ ?_|refine LeO.bind ?_ (fun _ => ?_))|exact LeO.none _|refine LeO.ite ?_ ?_|refine LeO.bind ?_ (fun _ => ?_)
  ·intro y0 y1 y2 y3 y4 y5
   unfold laws_FnStretchWords.l0
   repeat' first|(with_reducible first|exact ih0 _ _ _ _ _|exact ih1 _ _ _ _ _ _|exact ih2 _ _ _ _ _ _|exact impl_StretchKids.mono _ _ _ _ _|exact impl_StretchOf.mono _ _ _|exact impl_StretchWord.mono _ _ _ _ _|exact spec_DrawStretchKids.mono _ _|exact spec_StretchKids.mono _ _ _ _ _|exact spec_StretchOk.mono _ _ _ _ _|exact LeO.refl _|exact LeO.none _|refine LeO.ite ?_ ?_|refine LeO.bind ?_ (fun _ => ?_))|exact LeO.none _|refine LeO.ite ?_ ?_|refine LeO.bind ?_ (fun _ => ?_)
  ·intro y0 y1 y2 y3 y4 y5
   unfold laws_FnStretchWords.j2
   repeat' first|(with_reducible first|exact ih0 _ _ _ _ _|exact ih1 _ _ _ _ _ _|exact ih2 _ _ _ _ _ _|exact impl_StretchKids.mono _ _ _ _ _|exact impl_StretchOf.mono _ _ _|exact impl_StretchWord.mono _ _ _ _ _|exact spec_DrawStretchKids.mono _ _|exact spec_StretchKids.mono _ _ _ _ _|exact spec_StretchOk.mono _ _ _ _ _|exact LeO.refl _|exact LeO.none _|refine LeO.ite ?_ ?_|refine LeO.bind ?_ (fun _ => ?_))|exact LeO.none _|refine LeO.ite ?_ ?_|refine LeO.bind ?_ (fun _ => ?_)
theorem laws_FnStretchWords.mono : ∀ a0 k, LeO (laws_FnStretchWords.f k a0) (laws_FnStretchWords.f (k + 1) a0) := by
 intro a0 k
 obtain ⟨ih0, ih1, ih2⟩ := laws_FnStretchWords.mono_l k
 unfold laws_FnStretchWords.f
 repeat' first|(with_reducible first|exact ih0 _ _ _ _ _|exact ih1 _ _ _ _ _ _|exact ih2 _ _ _ _ _ _|exact impl_StretchKids.mono _ _ _ _ _|exact impl_StretchOf.mono _ _ _|exact impl_StretchWord.mono _ _ _ _ _|exact spec_DrawStretchKids.mono _ _|exact spec_StretchKids.mono _ _ _ _ _|exact spec_StretchOk.mono _ _ _ _ _|exact LeO.refl _|exact LeO.none _|refine LeO.ite ?_ ?_|refine LeO.bind ?_ (fun _ => ?_))|exact LeO.none _|refine LeO.ite ?_ ?_|refine LeO.bind ?_ (fun _ => ?_)
set_option maxHeartbeats 8000000 in
set_option maxRecDepth 100000 in
theorem laws_FnStretchWords.calls (k : Nat) (A0 : Option Addr) (c0 : Nat) (l0 : List Int) (r : Bool) (w : World) (hr0 : Kd.C (Kd.int .u8) w A0 l0.length l0) (hc0 : l0.length ≤ c0) (h : laws_FnStretchWords.f k l0 = some r) :
  Calls Try.prog 10 #[.slice A0 l0.length c0] w fun e w' => e = .returned (.bool r) ∧ Below w.heap.size w w' := by
 have hu27:=Try.underlying27
 have HR0:=mk0 hr0
 have HC0:=mk0 hc0
 clear hr0 hc0
 have HB:=mk0 (Below.refl w.heap.size w)
 have H:((laws_big.f l0).bind fun t439=>(if t439 = true then (some true) else ((spec_DrawStretchKids.f k l0).bind fun bt440=>((impl_StretchWord.f k bt440.1 bt440.2.1 bt440.2.2.1 bt440.2.2.2).bind fun t447=>((impl_StretchKids.f k bt440.1 bt440.2.1 bt440.2.2.1 bt440.2.2.2).bind fun t450=>((spec_StretchOk.f k bt440.1 bt440.2.1 bt440.2.2.1 bt440.2.2.2).bind fun t453=>(if t453 = true then ((impl_StretchOf.f k bt440.1 t447).bind fun bt454=>(if bt454.2.2.2 = true then (if (!(bt454.1 == bt440.2.1) || (!(bt454.2.1 == bt440.2.2.1) || (!(bt454.2.2.1 == bt440.2.2.2)))) = true then (laws_FnStretchWords.j0 k t450 true bt440.2.1 bt440.2.2.1 bt440.2.2.2) else (if (t447.length:Int) = bt440.2.2.2 then ((spec_StretchKids.f k bt440.1 bt440.2.1 bt440.2.2.1 bt440.2.2.2).bind fun t459=>(laws_FnStretchWords.j0 k t450 ((t450.length:Int) != (t459.length:Int)) bt440.2.1 bt440.2.2.1 bt440.2.2.2)) else (laws_FnStretchWords.j0 k t450 true bt440.2.1 bt440.2.2.1 bt440.2.2.2))) else (laws_FnStretchWords.j0 k t450 true bt440.2.1 bt440.2.2.1 bt440.2.2.2))) else (if (t447.length:Int) = 0 then (some ((t450.length:Int) == 0)) else (some false))))))))) = some r:=h
 clear h
 replace H:=Option.bind_eq_some_iff.mp H
 obtain⟨t439,A20,H⟩:=H
 replace H:(if t439 = true then (some true) else ((spec_DrawStretchKids.f k l0).bind fun bt440=>((impl_StretchWord.f k bt440.1 bt440.2.1 bt440.2.2.1 bt440.2.2.2).bind fun t447=>((impl_StretchKids.f k bt440.1 bt440.2.1 bt440.2.2.1 bt440.2.2.2).bind fun t450=>((spec_StretchOk.f k bt440.1 bt440.2.1 bt440.2.2.1 bt440.2.2.2).bind fun t453=>(if t453 = true then ((impl_StretchOf.f k bt440.1 t447).bind fun bt454=>(if bt454.2.2.2 = true then (if (!(bt454.1 == bt440.2.1) || (!(bt454.2.1 == bt440.2.2.1) || (!(bt454.2.2.1 == bt440.2.2.2)))) = true then (laws_FnStretchWords.j0 k t450 true bt440.2.1 bt440.2.2.1 bt440.2.2.2) else (if (t447.length:Int) = bt440.2.2.2 then ((spec_StretchKids.f k bt440.1 bt440.2.1 bt440.2.2.1 bt440.2.2.2).bind fun t459=>(laws_FnStretchWords.j0 k t450 ((t450.length:Int) != (t459.length:Int)) bt440.2.1 bt440.2.2.1 bt440.2.2.2)) else (laws_FnStretchWords.j0 k t450 true bt440.2.1 bt440.2.2.1 bt440.2.2.2))) else (laws_FnStretchWords.j0 k t450 true bt440.2.1 bt440.2.2.1 bt440.2.2.2))) else (if (t447.length:Int) = 0 then (some ((t450.length:Int) == 0)) else (some false)))))))) = some r:=H
 have A2:=mk0 A20
 clear A20
 by_cases c3:t439 = true
 ·subst c3
  have H1:(some true) = some r:=by rw [if_pos rfl] at H;exact H
  clear H
  have H:=H1
  clear H1
  obtain rfl:=Option.some.inj H
  go_enter Try.func10,Try.ntmps10
  go_wp2_with (first|(go_at_call 34;(with_reducible refine (laws_big.calls _ _ l0 true _ ?side1 ?side2 A2.out).mono ?_);(case side1=>repeat (first|exact HR0.out|(with_reducible first|apply aC|apply nC|apply dC)));(case side2=>exact HC0.out);rintro e w' ⟨rfl,⟨nd,rfl⟩⟩;(try first|exact⟨rfl,_,World.drewN_drewN _ _ _⟩|exact⟨rfl,_,Eq.trans (World.drewN_drewN _ _ _) (congrArg (World.drewN _) (Nat.add_assoc _ _ _))⟩)))
  repeat (go_quiet (first|(go_at_call 34;(with_reducible refine (laws_big.calls _ _ l0 true _ ?side1 ?side2 A2.out).mono ?_);(case side1=>repeat (first|exact HR0.out|(with_reducible first|apply aC|apply nC|apply dC)));(case side2=>exact HC0.out);rintro e w' ⟨rfl,⟨nd,rfl⟩⟩;(try first|exact⟨rfl,_,World.drewN_drewN _ _ _⟩|exact⟨rfl,_,Eq.trans (World.drewN_drewN _ _ _) (congrArg (World.drewN _) (Nat.add_assoc _ _ _))⟩)));try go_wp2_with (first|(go_at_call 34;(with_reducible refine (laws_big.calls _ _ l0 true _ ?side1 ?side2 A2.out).mono ?_);(case side1=>repeat (first|exact HR0.out|(with_reducible first|apply aC|apply nC|apply dC)));(case side2=>exact HC0.out);rintro e w' ⟨rfl,⟨nd,rfl⟩⟩;(try first|exact⟨rfl,_,World.drewN_drewN _ _ _⟩|exact⟨rfl,_,Eq.trans (World.drewN_drewN _ _ _) (congrArg (World.drewN _) (Nat.add_assoc _ _ _))⟩))))
  go_ret
  exact⟨by first|rfl|(simp [errW_none,errW_some] <;> rfl)|(simp [*,errW_none,errW_some] <;> rfl),kB HB.out⟩
 replace c3:=Bool.eq_false_iff.mpr c3
 subst c3
 have H1:((spec_DrawStretchKids.f k l0).bind fun bt440=>((impl_StretchWord.f k bt440.1 bt440.2.1 bt440.2.2.1 bt440.2.2.2).bind fun t447=>((impl_StretchKids.f k bt440.1 bt440.2.1 bt440.2.2.1 bt440.2.2.2).bind fun t450=>((spec_StretchOk.f k bt440.1 bt440.2.1 bt440.2.2.1 bt440.2.2.2).bind fun t453=>(if t453 = true then ((impl_StretchOf.f k bt440.1 t447).bind fun bt454=>(if bt454.2.2.2 = true then (if (!(bt454.1 == bt440.2.1) || (!(bt454.2.1 == bt440.2.2.1) || (!(bt454.2.2.1 == bt440.2.2.2)))) = true then (laws_FnStretchWords.j0 k t450 true bt440.2.1 bt440.2.2.1 bt440.2.2.2) else (if (t447.length:Int) = bt440.2.2.2 then ((spec_StretchKids.f k bt440.1 bt440.2.1 bt440.2.2.1 bt440.2.2.2).bind fun t459=>(laws_FnStretchWords.j0 k t450 ((t450.length:Int) != (t459.length:Int)) bt440.2.1 bt440.2.2.1 bt440.2.2.2)) else (laws_FnStretchWords.j0 k t450 true bt440.2.1 bt440.2.2.1 bt440.2.2.2))) else (laws_FnStretchWords.j0 k t450 true bt440.2.1 bt440.2.2.1 bt440.2.2.2))) else (if (t447.length:Int) = 0 then (some ((t450.length:Int) == 0)) else (some false))))))) = some r:=by rw [if_neg (show ¬ (false = true) by decide)] at H;exact H
 clear H
 have H:=H1
 clear H1
 replace H:=Option.bind_eq_some_iff.mp H
 obtain⟨⟨t440,t443,t444,t445⟩,A40,H⟩:=H
 replace H:((impl_StretchWord.f k t440 t443 t444 t445).bind fun t447=>((impl_StretchKids.f k t440 t443 t444 t445).bind fun t450=>((spec_StretchOk.f k t440 t443 t444 t445).bind fun t453=>(if t453 = true then ((impl_StretchOf.f k t440 t447).bind fun bt454=>(if bt454.2.2.2 = true then (if (!(bt454.1 == t443) || (!(bt454.2.1 == t444) || (!(bt454.2.2.1 == t445)))) = true then (laws_FnStretchWords.j0 k t450 true t443 t444 t445) else (if (t447.length:Int) = t445 then ((spec_StretchKids.f k t440 t443 t444 t445).bind fun t459=>(laws_FnStretchWords.j0 k t450 ((t450.length:Int) != (t459.length:Int)) t443 t444 t445)) else (laws_FnStretchWords.j0 k t450 true t443 t444 t445))) else (laws_FnStretchWords.j0 k t450 true t443 t444 t445))) else (if (t447.length:Int) = 0 then (some ((t450.length:Int) == 0)) else (some false)))))) = some r:=H
 have A4:=mk0 A40
 clear A40
 replace H:=Option.bind_eq_some_iff.mp H
 obtain⟨t447,A50,H⟩:=H
 replace H:((impl_StretchKids.f k t440 t443 t444 t445).bind fun t450=>((spec_StretchOk.f k t440 t443 t444 t445).bind fun t453=>(if t453 = true then ((impl_StretchOf.f k t440 t447).bind fun bt454=>(if bt454.2.2.2 = true then (if (!(bt454.1 == t443) || (!(bt454.2.1 == t444) || (!(bt454.2.2.1 == t445)))) = true then (laws_FnStretchWords.j0 k t450 true t443 t444 t445) else (if (t447.length:Int) = t445 then ((spec_StretchKids.f k t440 t443 t444 t445).bind fun t459=>(laws_FnStretchWords.j0 k t450 ((t450.length:Int) != (t459.length:Int)) t443 t444 t445)) else (laws_FnStretchWords.j0 k t450 true t443 t444 t445))) else (laws_FnStretchWords.j0 k t450 true t443 t444 t445))) else (if (t447.length:Int) = 0 then (some ((t450.length:Int) == 0)) else (some false))))) = some r:=H
 have A5:=mk0 A50
 clear A50
 replace H:=Option.bind_eq_some_iff.mp H
 obtain⟨t450,A60,H⟩:=H
 replace H:((spec_StretchOk.f k t440 t443 t444 t445).bind fun t453=>(if t453 = true then ((impl_StretchOf.f k t440 t447).bind fun bt454=>(if bt454.2.2.2 = true then (if (!(bt454.1 == t443) || (!(bt454.2.1 == t444) || (!(bt454.2.2.1 == t445)))) = true then (laws_FnStretchWords.j0 k t450 true t443 t444 t445) else (if (t447.length:Int) = t445 then ((spec_StretchKids.f k t440 t443 t444 t445).bind fun t459=>(laws_FnStretchWords.j0 k t450 ((t450.length:Int) != (t459.length:Int)) t443 t444 t445)) else (laws_FnStretchWords.j0 k t450 true t443 t444 t445))) else (laws_FnStretchWords.j0 k t450 true t443 t444 t445))) else (if (t447.length:Int) = 0 then (some ((t450.length:Int) == 0)) else (some false)))) = some r:=H
 have A6:=mk0 A60
 clear A60
 replace H:=Option.bind_eq_some_iff.mp H
 obtain⟨t453,A70,H⟩:=H
 replace H:(if t453 = true then ((impl_StretchOf.f k t440 t447).bind fun bt454=>(if bt454.2.2.2 = true then (if (!(bt454.1 == t443) || (!(bt454.2.1 == t444) || (!(bt454.2.2.1 == t445)))) = true then (laws_FnStretchWords.j0 k t450 true t443 t444 t445) else (if (t447.length:Int) = t445 then ((spec_StretchKids.f k t440 t443 t444 t445).bind fun t459=>(laws_FnStretchWords.j0 k t450 ((t450.length:Int) != (t459.length:Int)) t443 t444 t445)) else (laws_FnStretchWords.j0 k t450 true t443 t444 t445))) else (laws_FnStretchWords.j0 k t450 true t443 t444 t445))) else (if (t447.length:Int) = 0 then (some ((t450.length:Int) == 0)) else (some false))) = some r:=H
 have A7:=mk0 A70
 clear A70
 by_cases c8:t453 = true
 rotate_left
 ·replace c8:=Bool.eq_false_iff.mpr c8
  subst c8
  have H1:(if (t447.length:Int) = 0 then (some ((t450.length:Int) == 0)) else (some false)) = some r:=by rw [if_neg (show ¬ (false = true) by decide)] at H;exact H
  clear H
  have H:=H1
  clear H1
  by_cases c58:(t447.length:Int) = 0
  rotate_left
  ·rw [if_neg c58] at H
   have c58b0:((t447.length:Int) == 0) = false:=beq_eq_false_iff_ne.mpr c58
   have c58b1:((t447.length:Int) != 0) = true:=bne_iff_ne.mpr c58
   have c58b2:¬ (t447 = []):=fun h_=>c58 (by rw [h_];rfl)
   obtain rfl:=Option.some.inj H
   go_enter Try.func10,Try.ntmps10
   go_wp2_with (first|(go_at_call 34;(with_reducible refine (laws_big.calls _ _ l0 false _ ?side1 ?side2 A2.out).mono ?_);(case side1=>repeat (first|exact HR0.out|(with_reducible first|apply aC|apply nC|apply dC)));(case side2=>exact HC0.out);rintro e w' ⟨rfl,⟨nd,rfl⟩⟩;(try first|exact⟨rfl,_,World.drewN_drewN _ _ _⟩|exact⟨rfl,_,Eq.trans (World.drewN_drewN _ _ _) (congrArg (World.drewN _) (Nat.add_assoc _ _ _))⟩))|(go_at_call 35;(with_reducible refine (spec_DrawStretchKids.calls k _ _ l0 t440 t443 t444 t445 _ ?side1 ?side2 A4.out).mono ?_);(case side1=>repeat (first|exact HR0.out|(with_reducible first|apply aC|apply nC|apply dC)));(case side2=>exact HC0.out);rintro e w70 ⟨v441,rfl,ho0,hb⟩;have HO442:=mk0 (Kd.R_lower ho0 (kZ HB.out));replace HB:=mk0 (kS HB.out hb);(try clear hb);(try clear ho0))|((with_reducible refine gate_dst (N:=4) rfl ?_);(try (refine gate_guard (by rfl) ?_;dsimp only));refine box_event ?hg (N:=4) ?hd (cs:=#[.int .i64 0,.int .i64 0,.int .i64 0]) (t:=27) ?hr ?_;(case hd=>rfl);(case hg=>rfl);(case hr=>first|(go_simp;done)|(go_simp;rfl));intro gb446 hg w71 hbox hb;replace HO442:=mk0 (bR HO442.out hb);have BK446:=mk0 (hbox);have GW446:=mk0 ((by rw [hg];exact (kZ HB.out):w.heap.size ≤ gb446));have GE446:=mk0 ((by rw [hg];exact (kZ HB.out):w.heap.size ≤ gb446));replace HB:=mk0 (kS HB.out hb);clear hb hbox hg;obtain⟨hcz72_0,hcz72_1,hcz72_2,hfz72_0,hfz72_1,hfz72_2⟩:=cz3 BK446.out;obtain⟨Ao73,co73,eo73⟩:=Kd.R_slice HO442.out;subst eo73)|(go_at_call 17;(with_reducible refine (impl_StretchWord.calls k _ _ t440 t443 t444 t445 t447 _ ?side1 ?side2 A5.out).mono ?_);(case side1=>refine (Kd.R_reads' (e:=5) (base:=w.heap.size) (ok:=fun k_=>True) (n:=t440.length) (c:=co73) ?_).2.2;exact (by (with_reducible repeat (first|apply aR|apply nR|apply dR));exact (Kd.R_mono (Kd.R_far (p:=⟨gb446,2,none⟩) (Kd.R_far (p:=⟨gb446,1,none⟩) (Kd.R_far (p:=⟨gb446,0,none⟩) (Kd.R_types HO442.out BK446.out (by decide)) (fun _ hk=>hk.2) (.int .i64 t443)) (fun _ hk=>hk.2) (.int .i64 t444)) (fun _ hk=>hk.2) (.int .i64 t445)) (fun _ h_=>h_.1))));(case side2=>exact (Kd.R_reads' HO442.out).2.1);rintro e w74 ⟨v448,rfl,ho0,hb⟩;have HO449:=mk0 (Kd.R_lower (Kd.R_new' ho0 (Kd.R_lt (by (with_reducible repeat (first|apply aR|apply nR|apply dR));exact (Kd.R_mono (Kd.R_far (p:=⟨gb446,2,none⟩) (Kd.R_far (p:=⟨gb446,1,none⟩) (Kd.R_far (p:=⟨gb446,0,none⟩) (Kd.R_types HO442.out BK446.out (by decide)) (fun _ hk=>hk.2) (.int .i64 t443)) (fun _ hk=>hk.2) (.int .i64 t444)) (fun _ hk=>hk.2) (.int .i64 t445)) (fun _ h_=>h_.1))))) (kZ HB.out));replace HO442:=mk0 (Kd.R_elder' (by (with_reducible repeat (first|apply aR|apply nR|apply dR));exact (Kd.R_mono (Kd.R_far (p:=⟨gb446,2,none⟩) (Kd.R_far (p:=⟨gb446,1,none⟩) (Kd.R_far (p:=⟨gb446,0,none⟩) (Kd.R_types HO442.out BK446.out (by decide)) (fun _ hk=>hk.2) (.int .i64 t443)) (fun _ hk=>hk.2) (.int .i64 t444)) (fun _ hk=>hk.2) (.int .i64 t445)) (fun _ h_=>h_.1))) (Kd.R_base ho0) hb);replace BK446:=mk0 (blk_below (g:=gb446) (o:=.cells #[.int .i64 t443,.int .i64 t444,.int .i64 t445] 27 (0,0)) (by (with_reducible repeat (first|apply nB|apply dB|apply aB));refine blk_put (cs:=#[.int .i64 t443,.int .i64 t444,.int .i64 0]) ?_ 2 _ rfl;(with_reducible repeat (first|apply nB|apply dB|apply aB));refine blk_put (cs:=#[.int .i64 t443,.int .i64 0,.int .i64 0]) ?_ 1 _ rfl;(with_reducible repeat (first|apply nB|apply dB|apply aB));refine blk_put (cs:=#[.int .i64 0,.int .i64 0,.int .i64 0]) ?_ 0 _ rfl;(with_reducible repeat (first|apply nB|apply dB|apply aB));exact BK446.out) hb);replace HB:=mk0 (kS HB.out hb);(try clear hb);(try clear ho0);obtain⟨hcz75_0,hcz75_1,hcz75_2,hfz75_0,hfz75_1,hfz75_2⟩:=cz3 BK446.out)|(go_at_call 33;(with_reducible refine (impl_StretchKids.calls k _ _ t440 t443 t444 t445 t450 _ ?side1 ?side2 A6.out).mono ?_);(case side1=>exact kC (Kd.R_reads' HO442.out).2.2);(case side2=>exact (Kd.R_reads' HO442.out).2.1);rintro e w76 ⟨v451,rfl,ho0,hb⟩;replace HO442:=mk0 (bR HO442.out hb);replace HO449:=mk0 (bR HO449.out hb);have HO452:=mk0 (Kd.R_lower (Kd.R_newB ho0 (g:=gb446) (o:=.cells #[.int .i64 t443,.int .i64 t444,.int .i64 t445] 27 (0,0)) (kN BK446.out)) (kZ HB.out));replace BK446:=mk0 (kK BK446.out hb);replace HB:=mk0 (kS HB.out hb);(try clear hb);(try clear ho0);obtain⟨hcz77_0,hcz77_1,hcz77_2,hfz77_0,hfz77_1,hfz77_2⟩:=cz3 BK446.out)|(go_at_call 11;(with_reducible refine (spec_StretchOk.calls k _ _ t440 t443 t444 t445 false _ ?side1 ?side2 A7.out).mono ?_);(case side1=>exact kC (Kd.R_reads' HO442.out).2.2);(case side2=>exact (Kd.R_reads' HO442.out).2.1);rintro e w78 ⟨rfl,hb⟩;replace HO442:=mk0 (bR HO442.out hb);replace HO449:=mk0 (bR HO449.out hb);replace HO452:=mk0 (bR HO452.out hb);replace BK446:=mk0 (kK BK446.out hb);replace HB:=mk0 (kS HB.out hb);(try clear hb);obtain⟨Ao79,co79,eo79⟩:=Kd.R_slice HO449.out;subst eo79))
   repeat (go_quiet (first|(go_at_call 34;(with_reducible refine (laws_big.calls _ _ l0 false _ ?side1 ?side2 A2.out).mono ?_);(case side1=>repeat (first|exact HR0.out|(with_reducible first|apply aC|apply nC|apply dC)));(case side2=>exact HC0.out);rintro e w' ⟨rfl,⟨nd,rfl⟩⟩;(try first|exact⟨rfl,_,World.drewN_drewN _ _ _⟩|exact⟨rfl,_,Eq.trans (World.drewN_drewN _ _ _) (congrArg (World.drewN _) (Nat.add_assoc _ _ _))⟩))|(go_at_call 35;(with_reducible refine (spec_DrawStretchKids.calls k _ _ l0 t440 t443 t444 t445 _ ?side1 ?side2 A4.out).mono ?_);(case side1=>repeat (first|exact HR0.out|(with_reducible first|apply aC|apply nC|apply dC)));(case side2=>exact HC0.out);rintro e w70 ⟨v441,rfl,ho0,hb⟩;have HO442:=mk0 (Kd.R_lower ho0 (kZ HB.out));replace HB:=mk0 (kS HB.out hb);(try clear hb);(try clear ho0))|((with_reducible refine gate_dst (N:=4) rfl ?_);(try (refine gate_guard (by rfl) ?_;dsimp only));refine box_event ?hg (N:=4) ?hd (cs:=#[.int .i64 0,.int .i64 0,.int .i64 0]) (t:=27) ?hr ?_;(case hd=>rfl);(case hg=>rfl);(case hr=>first|(go_simp;done)|(go_simp;rfl));intro gb446 hg w71 hbox hb;replace HO442:=mk0 (bR HO442.out hb);have BK446:=mk0 (hbox);have GW446:=mk0 ((by rw [hg];exact (kZ HB.out):w.heap.size ≤ gb446));have GE446:=mk0 ((by rw [hg];exact (kZ HB.out):w.heap.size ≤ gb446));replace HB:=mk0 (kS HB.out hb);clear hb hbox hg;obtain⟨hcz72_0,hcz72_1,hcz72_2,hfz72_0,hfz72_1,hfz72_2⟩:=cz3 BK446.out;obtain⟨Ao73,co73,eo73⟩:=Kd.R_slice HO442.out;subst eo73)|(go_at_call 17;(with_reducible refine (impl_StretchWord.calls k _ _ t440 t443 t444 t445 t447 _ ?side1 ?side2 A5.out).mono ?_);(case side1=>refine (Kd.R_reads' (e:=5) (base:=w.heap.size) (ok:=fun k_=>True) (n:=t440.length) (c:=co73) ?_).2.2;exact (by (with_reducible repeat (first|apply aR|apply nR|apply dR));exact (Kd.R_mono (Kd.R_far (p:=⟨gb446,2,none⟩) (Kd.R_far (p:=⟨gb446,1,none⟩) (Kd.R_far (p:=⟨gb446,0,none⟩) (Kd.R_types HO442.out BK446.out (by decide)) (fun _ hk=>hk.2) (.int .i64 t443)) (fun _ hk=>hk.2) (.int .i64 t444)) (fun _ hk=>hk.2) (.int .i64 t445)) (fun _ h_=>h_.1))));(case side2=>exact (Kd.R_reads' HO442.out).2.1);rintro e w74 ⟨v448,rfl,ho0,hb⟩;have HO449:=mk0 (Kd.R_lower (Kd.R_new' ho0 (Kd.R_lt (by (with_reducible repeat (first|apply aR|apply nR|apply dR));exact (Kd.R_mono (Kd.R_far (p:=⟨gb446,2,none⟩) (Kd.R_far (p:=⟨gb446,1,none⟩) (Kd.R_far (p:=⟨gb446,0,none⟩) (Kd.R_types HO442.out BK446.out (by decide)) (fun _ hk=>hk.2) (.int .i64 t443)) (fun _ hk=>hk.2) (.int .i64 t444)) (fun _ hk=>hk.2) (.int .i64 t445)) (fun _ h_=>h_.1))))) (kZ HB.out));replace HO442:=mk0 (Kd.R_elder' (by (with_reducible repeat (first|apply aR|apply nR|apply dR));exact (Kd.R_mono (Kd.R_far (p:=⟨gb446,2,none⟩) (Kd.R_far (p:=⟨gb446,1,none⟩) (Kd.R_far (p:=⟨gb446,0,none⟩) (Kd.R_types HO442.out BK446.out (by decide)) (fun _ hk=>hk.2) (.int .i64 t443)) (fun _ hk=>hk.2) (.int .i64 t444)) (fun _ hk=>hk.2) (.int .i64 t445)) (fun _ h_=>h_.1))) (Kd.R_base ho0) hb);replace BK446:=mk0 (blk_below (g:=gb446) (o:=.cells #[.int .i64 t443,.int .i64 t444,.int .i64 t445] 27 (0,0)) (by (with_reducible repeat (first|apply nB|apply dB|apply aB));refine blk_put (cs:=#[.int .i64 t443,.int .i64 t444,.int .i64 0]) ?_ 2 _ rfl;(with_reducible repeat (first|apply nB|apply dB|apply aB));refine blk_put (cs:=#[.int .i64 t443,.int .i64 0,.int .i64 0]) ?_ 1 _ rfl;(with_reducible repeat (first|apply nB|apply dB|apply aB));refine blk_put (cs:=#[.int .i64 0,.int .i64 0,.int .i64 0]) ?_ 0 _ rfl;(with_reducible repeat (first|apply nB|apply dB|apply aB));exact BK446.out) hb);replace HB:=mk0 (kS HB.out hb);(try clear hb);(try clear ho0);obtain⟨hcz75_0,hcz75_1,hcz75_2,hfz75_0,hfz75_1,hfz75_2⟩:=cz3 BK446.out)|(go_at_call 33;(with_reducible refine (impl_StretchKids.calls k _ _ t440 t443 t444 t445 t450 _ ?side1 ?side2 A6.out).mono ?_);(case side1=>exact kC (Kd.R_reads' HO442.out).2.2);(case side2=>exact (Kd.R_reads' HO442.out).2.1);rintro e w76 ⟨v451,rfl,ho0,hb⟩;replace HO442:=mk0 (bR HO442.out hb);replace HO449:=mk0 (bR HO449.out hb);have HO452:=mk0 (Kd.R_lower (Kd.R_newB ho0 (g:=gb446) (o:=.cells #[.int .i64 t443,.int .i64 t444,.int .i64 t445] 27 (0,0)) (kN BK446.out)) (kZ HB.out));replace BK446:=mk0 (kK BK446.out hb);replace HB:=mk0 (kS HB.out hb);(try clear hb);(try clear ho0);obtain⟨hcz77_0,hcz77_1,hcz77_2,hfz77_0,hfz77_1,hfz77_2⟩:=cz3 BK446.out)|(go_at_call 11;(with_reducible refine (spec_StretchOk.calls k _ _ t440 t443 t444 t445 false _ ?side1 ?side2 A7.out).mono ?_);(case side1=>exact kC (Kd.R_reads' HO442.out).2.2);(case side2=>exact (Kd.R_reads' HO442.out).2.1);rintro e w78 ⟨rfl,hb⟩;replace HO442:=mk0 (bR HO442.out hb);replace HO449:=mk0 (bR HO449.out hb);replace HO452:=mk0 (bR HO452.out hb);replace BK446:=mk0 (kK BK446.out hb);replace HB:=mk0 (kS HB.out hb);(try clear hb);obtain⟨Ao79,co79,eo79⟩:=Kd.R_slice HO449.out;subst eo79));try go_wp2_with (first|(go_at_call 34;(with_reducible refine (laws_big.calls _ _ l0 false _ ?side1 ?side2 A2.out).mono ?_);(case side1=>repeat (first|exact HR0.out|(with_reducible first|apply aC|apply nC|apply dC)));(case side2=>exact HC0.out);rintro e w' ⟨rfl,⟨nd,rfl⟩⟩;(try first|exact⟨rfl,_,World.drewN_drewN _ _ _⟩|exact⟨rfl,_,Eq.trans (World.drewN_drewN _ _ _) (congrArg (World.drewN _) (Nat.add_assoc _ _ _))⟩))|(go_at_call 35;(with_reducible refine (spec_DrawStretchKids.calls k _ _ l0 t440 t443 t444 t445 _ ?side1 ?side2 A4.out).mono ?_);(case side1=>repeat (first|exact HR0.out|(with_reducible first|apply aC|apply nC|apply dC)));(case side2=>exact HC0.out);rintro e w70 ⟨v441,rfl,ho0,hb⟩;have HO442:=mk0 (Kd.R_lower ho0 (kZ HB.out));replace HB:=mk0 (kS HB.out hb);(try clear hb);(try clear ho0))|((with_reducible refine gate_dst (N:=4) rfl ?_);(try (refine gate_guard (by rfl) ?_;dsimp only));refine box_event ?hg (N:=4) ?hd (cs:=#[.int .i64 0,.int .i64 0,.int .i64 0]) (t:=27) ?hr ?_;(case hd=>rfl);(case hg=>rfl);(case hr=>first|(go_simp;done)|(go_simp;rfl));intro gb446 hg w71 hbox hb;replace HO442:=mk0 (bR HO442.out hb);have BK446:=mk0 (hbox);have GW446:=mk0 ((by rw [hg];exact (kZ HB.out):w.heap.size ≤ gb446));have GE446:=mk0 ((by rw [hg];exact (kZ HB.out):w.heap.size ≤ gb446));replace HB:=mk0 (kS HB.out hb);clear hb hbox hg;obtain⟨hcz72_0,hcz72_1,hcz72_2,hfz72_0,hfz72_1,hfz72_2⟩:=cz3 BK446.out;obtain⟨Ao73,co73,eo73⟩:=Kd.R_slice HO442.out;subst eo73)|(go_at_call 17;(with_reducible refine (impl_StretchWord.calls k _ _ t440 t443 t444 t445 t447 _ ?side1 ?side2 A5.out).mono ?_);(case side1=>refine (Kd.R_reads' (e:=5) (base:=w.heap.size) (ok:=fun k_=>True) (n:=t440.length) (c:=co73) ?_).2.2;exact (by (with_reducible repeat (first|apply aR|apply nR|apply dR));exact (Kd.R_mono (Kd.R_far (p:=⟨gb446,2,none⟩) (Kd.R_far (p:=⟨gb446,1,none⟩) (Kd.R_far (p:=⟨gb446,0,none⟩) (Kd.R_types HO442.out BK446.out (by decide)) (fun _ hk=>hk.2) (.int .i64 t443)) (fun _ hk=>hk.2) (.int .i64 t444)) (fun _ hk=>hk.2) (.int .i64 t445)) (fun _ h_=>h_.1))));(case side2=>exact (Kd.R_reads' HO442.out).2.1);rintro e w74 ⟨v448,rfl,ho0,hb⟩;have HO449:=mk0 (Kd.R_lower (Kd.R_new' ho0 (Kd.R_lt (by (with_reducible repeat (first|apply aR|apply nR|apply dR));exact (Kd.R_mono (Kd.R_far (p:=⟨gb446,2,none⟩) (Kd.R_far (p:=⟨gb446,1,none⟩) (Kd.R_far (p:=⟨gb446,0,none⟩) (Kd.R_types HO442.out BK446.out (by decide)) (fun _ hk=>hk.2) (.int .i64 t443)) (fun _ hk=>hk.2) (.int .i64 t444)) (fun _ hk=>hk.2) (.int .i64 t445)) (fun _ h_=>h_.1))))) (kZ HB.out));replace HO442:=mk0 (Kd.R_elder' (by (with_reducible repeat (first|apply aR|apply nR|apply dR));exact (Kd.R_mono (Kd.R_far (p:=⟨gb446,2,none⟩) (Kd.R_far (p:=⟨gb446,1,none⟩) (Kd.R_far (p:=⟨gb446,0,none⟩) (Kd.R_types HO442.out BK446.out (by decide)) (fun _ hk=>hk.2) (.int .i64 t443)) (fun _ hk=>hk.2) (.int .i64 t444)) (fun _ hk=>hk.2) (.int .i64 t445)) (fun _ h_=>h_.1))) (Kd.R_base ho0) hb);replace BK446:=mk0 (blk_below (g:=gb446) (o:=.cells #[.int .i64 t443,.int .i64 t444,.int .i64 t445] 27 (0,0)) (by (with_reducible repeat (first|apply nB|apply dB|apply aB));refine blk_put (cs:=#[.int .i64 t443,.int .i64 t444,.int .i64 0]) ?_ 2 _ rfl;(with_reducible repeat (first|apply nB|apply dB|apply aB));refine blk_put (cs:=#[.int .i64 t443,.int .i64 0,.int .i64 0]) ?_ 1 _ rfl;(with_reducible repeat (first|apply nB|apply dB|apply aB));refine blk_put (cs:=#[.int .i64 0,.int .i64 0,.int .i64 0]) ?_ 0 _ rfl;(with_reducible repeat (first|apply nB|apply dB|apply aB));exact BK446.out) hb);replace HB:=mk0 (kS HB.out hb);(try clear hb);(try clear ho0);obtain⟨hcz75_0,hcz75_1,hcz75_2,hfz75_0,hfz75_1,hfz75_2⟩:=cz3 BK446.out)|(go_at_call 33;(with_reducible refine (impl_StretchKids.calls k _ _ t440 t443 t444 t445 t450 _ ?side1 ?side2 A6.out).mono ?_);(case side1=>exact kC (Kd.R_reads' HO442.out).2.2);(case side2=>exact (Kd.R_reads' HO442.out).2.1);rintro e w76 ⟨v451,rfl,ho0,hb⟩;replace HO442:=mk0 (bR HO442.out hb);replace HO449:=mk0 (bR HO449.out hb);have HO452:=mk0 (Kd.R_lower (Kd.R_newB ho0 (g:=gb446) (o:=.cells #[.int .i64 t443,.int .i64 t444,.int .i64 t445] 27 (0,0)) (kN BK446.out)) (kZ HB.out));replace BK446:=mk0 (kK BK446.out hb);replace HB:=mk0 (kS HB.out hb);(try clear hb);(try clear ho0);obtain⟨hcz77_0,hcz77_1,hcz77_2,hfz77_0,hfz77_1,hfz77_2⟩:=cz3 BK446.out)|(go_at_call 11;(with_reducible refine (spec_StretchOk.calls k _ _ t440 t443 t444 t445 false _ ?side1 ?side2 A7.out).mono ?_);(case side1=>exact kC (Kd.R_reads' HO442.out).2.2);(case side2=>exact (Kd.R_reads' HO442.out).2.1);rintro e w78 ⟨rfl,hb⟩;replace HO442:=mk0 (bR HO442.out hb);replace HO449:=mk0 (bR HO449.out hb);replace HO452:=mk0 (bR HO452.out hb);replace BK446:=mk0 (kK BK446.out hb);replace HB:=mk0 (kS HB.out hb);(try clear hb);obtain⟨Ao79,co79,eo79⟩:=Kd.R_slice HO449.out;subst eo79)))
   go_ret
   exact⟨by first|rfl|(simp [errW_none,errW_some] <;> rfl)|(simp [*,errW_none,errW_some] <;> rfl),kB HB.out⟩

  rw [if_pos c58] at H
  have c58b0:((t447.length:Int) == 0) = true:=beq_iff_eq.mpr c58
  have c58b1:((t447.length:Int) != 0) = false:=bne_eq_false_iff_eq.mpr c58
  clear c58
  obtain rfl:=Option.some.inj H
  go_enter Try.func10,Try.ntmps10
  go_wp2_with (first|(go_at_call 34;(with_reducible refine (laws_big.calls _ _ l0 false _ ?side1 ?side2 A2.out).mono ?_);(case side1=>repeat (first|exact HR0.out|(with_reducible first|apply aC|apply nC|apply dC)));(case side2=>exact HC0.out);rintro e w' ⟨rfl,⟨nd,rfl⟩⟩;(try first|exact⟨rfl,_,World.drewN_drewN _ _ _⟩|exact⟨rfl,_,Eq.trans (World.drewN_drewN _ _ _) (congrArg (World.drewN _) (Nat.add_assoc _ _ _))⟩))|(go_at_call 35;(with_reducible refine (spec_DrawStretchKids.calls k _ _ l0 t440 t443 t444 t445 _ ?side1 ?side2 A4.out).mono ?_);(case side1=>repeat (first|exact HR0.out|(with_reducible first|apply aC|apply nC|apply dC)));(case side2=>exact HC0.out);rintro e w59 ⟨v441,rfl,ho0,hb⟩;have HO442:=mk0 (Kd.R_lower ho0 (kZ HB.out));replace HB:=mk0 (kS HB.out hb);(try clear hb);(try clear ho0))|((with_reducible refine gate_dst (N:=4) rfl ?_);(try (refine gate_guard (by rfl) ?_;dsimp only));refine box_event ?hg (N:=4) ?hd (cs:=#[.int .i64 0,.int .i64 0,.int .i64 0]) (t:=27) ?hr ?_;(case hd=>rfl);(case hg=>rfl);(case hr=>first|(go_simp;done)|(go_simp;rfl));intro gb446 hg w60 hbox hb;replace HO442:=mk0 (bR HO442.out hb);have BK446:=mk0 (hbox);have GW446:=mk0 ((by rw [hg];exact (kZ HB.out):w.heap.size ≤ gb446));have GE446:=mk0 ((by rw [hg];exact (kZ HB.out):w.heap.size ≤ gb446));replace HB:=mk0 (kS HB.out hb);clear hb hbox hg;obtain⟨hcz61_0,hcz61_1,hcz61_2,hfz61_0,hfz61_1,hfz61_2⟩:=cz3 BK446.out;obtain⟨Ao62,co62,eo62⟩:=Kd.R_slice HO442.out;subst eo62)|(go_at_call 17;(with_reducible refine (impl_StretchWord.calls k _ _ t440 t443 t444 t445 t447 _ ?side1 ?side2 A5.out).mono ?_);(case side1=>refine (Kd.R_reads' (e:=5) (base:=w.heap.size) (ok:=fun k_=>True) (n:=t440.length) (c:=co62) ?_).2.2;exact (by (with_reducible repeat (first|apply aR|apply nR|apply dR));exact (Kd.R_mono (Kd.R_far (p:=⟨gb446,2,none⟩) (Kd.R_far (p:=⟨gb446,1,none⟩) (Kd.R_far (p:=⟨gb446,0,none⟩) (Kd.R_types HO442.out BK446.out (by decide)) (fun _ hk=>hk.2) (.int .i64 t443)) (fun _ hk=>hk.2) (.int .i64 t444)) (fun _ hk=>hk.2) (.int .i64 t445)) (fun _ h_=>h_.1))));(case side2=>exact (Kd.R_reads' HO442.out).2.1);rintro e w63 ⟨v448,rfl,ho0,hb⟩;have HO449:=mk0 (Kd.R_lower (Kd.R_new' ho0 (Kd.R_lt (by (with_reducible repeat (first|apply aR|apply nR|apply dR));exact (Kd.R_mono (Kd.R_far (p:=⟨gb446,2,none⟩) (Kd.R_far (p:=⟨gb446,1,none⟩) (Kd.R_far (p:=⟨gb446,0,none⟩) (Kd.R_types HO442.out BK446.out (by decide)) (fun _ hk=>hk.2) (.int .i64 t443)) (fun _ hk=>hk.2) (.int .i64 t444)) (fun _ hk=>hk.2) (.int .i64 t445)) (fun _ h_=>h_.1))))) (kZ HB.out));replace HO442:=mk0 (Kd.R_elder' (by (with_reducible repeat (first|apply aR|apply nR|apply dR));exact (Kd.R_mono (Kd.R_far (p:=⟨gb446,2,none⟩) (Kd.R_far (p:=⟨gb446,1,none⟩) (Kd.R_far (p:=⟨gb446,0,none⟩) (Kd.R_types HO442.out BK446.out (by decide)) (fun _ hk=>hk.2) (.int .i64 t443)) (fun _ hk=>hk.2) (.int .i64 t444)) (fun _ hk=>hk.2) (.int .i64 t445)) (fun _ h_=>h_.1))) (Kd.R_base ho0) hb);replace BK446:=mk0 (blk_below (g:=gb446) (o:=.cells #[.int .i64 t443,.int .i64 t444,.int .i64 t445] 27 (0,0)) (by (with_reducible repeat (first|apply nB|apply dB|apply aB));refine blk_put (cs:=#[.int .i64 t443,.int .i64 t444,.int .i64 0]) ?_ 2 _ rfl;(with_reducible repeat (first|apply nB|apply dB|apply aB));refine blk_put (cs:=#[.int .i64 t443,.int .i64 0,.int .i64 0]) ?_ 1 _ rfl;(with_reducible repeat (first|apply nB|apply dB|apply aB));refine blk_put (cs:=#[.int .i64 0,.int .i64 0,.int .i64 0]) ?_ 0 _ rfl;(with_reducible repeat (first|apply nB|apply dB|apply aB));exact BK446.out) hb);replace HB:=mk0 (kS HB.out hb);(try clear hb);(try clear ho0);obtain⟨hcz64_0,hcz64_1,hcz64_2,hfz64_0,hfz64_1,hfz64_2⟩:=cz3 BK446.out)|(go_at_call 33;(with_reducible refine (impl_StretchKids.calls k _ _ t440 t443 t444 t445 t450 _ ?side1 ?side2 A6.out).mono ?_);(case side1=>exact kC (Kd.R_reads' HO442.out).2.2);(case side2=>exact (Kd.R_reads' HO442.out).2.1);rintro e w65 ⟨v451,rfl,ho0,hb⟩;replace HO442:=mk0 (bR HO442.out hb);replace HO449:=mk0 (bR HO449.out hb);have HO452:=mk0 (Kd.R_lower (Kd.R_newB ho0 (g:=gb446) (o:=.cells #[.int .i64 t443,.int .i64 t444,.int .i64 t445] 27 (0,0)) (kN BK446.out)) (kZ HB.out));replace BK446:=mk0 (kK BK446.out hb);replace HB:=mk0 (kS HB.out hb);(try clear hb);(try clear ho0);obtain⟨hcz66_0,hcz66_1,hcz66_2,hfz66_0,hfz66_1,hfz66_2⟩:=cz3 BK446.out)|(go_at_call 11;(with_reducible refine (spec_StretchOk.calls k _ _ t440 t443 t444 t445 false _ ?side1 ?side2 A7.out).mono ?_);(case side1=>exact kC (Kd.R_reads' HO442.out).2.2);(case side2=>exact (Kd.R_reads' HO442.out).2.1);rintro e w67 ⟨rfl,hb⟩;replace HO442:=mk0 (bR HO442.out hb);replace HO449:=mk0 (bR HO449.out hb);replace HO452:=mk0 (bR HO452.out hb);replace BK446:=mk0 (kK BK446.out hb);replace HB:=mk0 (kS HB.out hb);(try clear hb);obtain⟨Ao68,co68,eo68⟩:=Kd.R_slice HO449.out;subst eo68;obtain⟨Ao69,co69,eo69⟩:=Kd.R_slice HO452.out;subst eo69))
  repeat (go_quiet (first|(go_at_call 34;(with_reducible refine (laws_big.calls _ _ l0 false _ ?side1 ?side2 A2.out).mono ?_);(case side1=>repeat (first|exact HR0.out|(with_reducible first|apply aC|apply nC|apply dC)));(case side2=>exact HC0.out);rintro e w' ⟨rfl,⟨nd,rfl⟩⟩;(try first|exact⟨rfl,_,World.drewN_drewN _ _ _⟩|exact⟨rfl,_,Eq.trans (World.drewN_drewN _ _ _) (congrArg (World.drewN _) (Nat.add_assoc _ _ _))⟩))|(go_at_call 35;(with_reducible refine (spec_DrawStretchKids.calls k _ _ l0 t440 t443 t444 t445 _ ?side1 ?side2 A4.out).mono ?_);(case side1=>repeat (first|exact HR0.out|(with_reducible first|apply aC|apply nC|apply dC)));(case side2=>exact HC0.out);rintro e w59 ⟨v441,rfl,ho0,hb⟩;have HO442:=mk0 (Kd.R_lower ho0 (kZ HB.out));replace HB:=mk0 (kS HB.out hb);(try clear hb);(try clear ho0))|((with_reducible refine gate_dst (N:=4) rfl ?_);(try (refine gate_guard (by rfl) ?_;dsimp only));refine box_event ?hg (N:=4) ?hd (cs:=#[.int .i64 0,.int .i64 0,.int .i64 0]) (t:=27) ?hr ?_;(case hd=>rfl);(case hg=>rfl);(case hr=>first|(go_simp;done)|(go_simp;rfl));intro gb446 hg w60 hbox hb;replace HO442:=mk0 (bR HO442.out hb);have BK446:=mk0 (hbox);have GW446:=mk0 ((by rw [hg];exact (kZ HB.out):w.heap.size ≤ gb446));have GE446:=mk0 ((by rw [hg];exact (kZ HB.out):w.heap.size ≤ gb446));replace HB:=mk0 (kS HB.out hb);clear hb hbox hg;obtain⟨hcz61_0,hcz61_1,hcz61_2,hfz61_0,hfz61_1,hfz61_2⟩:=cz3 BK446.out;obtain⟨Ao62,co62,eo62⟩:=Kd.R_slice HO442.out;subst eo62)|(go_at_call 17;(with_reducible refine (impl_StretchWord.calls k _ _ t440 t443 t444 t445 t447 _ ?side1 ?side2 A5.out).mono ?_);(case side1=>refine (Kd.R_reads' (e:=5) (base:=w.heap.size) (ok:=fun k_=>True) (n:=t440.length) (c:=co62) ?_).2.2;exact (by (with_reducible repeat (first|apply aR|apply nR|apply dR));exact (Kd.R_mono (Kd.R_far (p:=⟨gb446,2,none⟩) (Kd.R_far (p:=⟨gb446,1,none⟩) (Kd.R_far (p:=⟨gb446,0,none⟩) (Kd.R_types HO442.out BK446.out (by decide)) (fun _ hk=>hk.2) (.int .i64 t443)) (fun _ hk=>hk.2) (.int .i64 t444)) (fun _ hk=>hk.2) (.int .i64 t445)) (fun _ h_=>h_.1))));(case side2=>exact (Kd.R_reads' HO442.out).2.1);rintro e w63 ⟨v448,rfl,ho0,hb⟩;have HO449:=mk0 (Kd.R_lower (Kd.R_new' ho0 (Kd.R_lt (by (with_reducible repeat (first|apply aR|apply nR|apply dR));exact (Kd.R_mono (Kd.R_far (p:=⟨gb446,2,none⟩) (Kd.R_far (p:=⟨gb446,1,none⟩) (Kd.R_far (p:=⟨gb446,0,none⟩) (Kd.R_types HO442.out BK446.out (by decide)) (fun _ hk=>hk.2) (.int .i64 t443)) (fun _ hk=>hk.2) (.int .i64 t444)) (fun _ hk=>hk.2) (.int .i64 t445)) (fun _ h_=>h_.1))))) (kZ HB.out));replace HO442:=mk0 (Kd.R_elder' (by (with_reducible repeat (first|apply aR|apply nR|apply dR));exact (Kd.R_mono (Kd.R_far (p:=⟨gb446,2,none⟩) (Kd.R_far (p:=⟨gb446,1,none⟩) (Kd.R_far (p:=⟨gb446,0,none⟩) (Kd.R_types HO442.out BK446.out (by decide)) (fun _ hk=>hk.2) (.int .i64 t443)) (fun _ hk=>hk.2) (.int .i64 t444)) (fun _ hk=>hk.2) (.int .i64 t445)) (fun _ h_=>h_.1))) (Kd.R_base ho0) hb);replace BK446:=mk0 (blk_below (g:=gb446) (o:=.cells #[.int .i64 t443,.int .i64 t444,.int .i64 t445] 27 (0,0)) (by (with_reducible repeat (first|apply nB|apply dB|apply aB));refine blk_put (cs:=#[.int .i64 t443,.int .i64 t444,.int .i64 0]) ?_ 2 _ rfl;(with_reducible repeat (first|apply nB|apply dB|apply aB));refine blk_put (cs:=#[.int .i64 t443,.int .i64 0,.int .i64 0]) ?_ 1 _ rfl;(with_reducible repeat (first|apply nB|apply dB|apply aB));refine blk_put (cs:=#[.int .i64 0,.int .i64 0,.int .i64 0]) ?_ 0 _ rfl;(with_reducible repeat (first|apply nB|apply dB|apply aB));exact BK446.out) hb);replace HB:=mk0 (kS HB.out hb);(try clear hb);(try clear ho0);obtain⟨hcz64_0,hcz64_1,hcz64_2,hfz64_0,hfz64_1,hfz64_2⟩:=cz3 BK446.out)|(go_at_call 33;(with_reducible refine (impl_StretchKids.calls k _ _ t440 t443 t444 t445 t450 _ ?side1 ?side2 A6.out).mono ?_);(case side1=>exact kC (Kd.R_reads' HO442.out).2.2);(case side2=>exact (Kd.R_reads' HO442.out).2.1);rintro e w65 ⟨v451,rfl,ho0,hb⟩;replace HO442:=mk0 (bR HO442.out hb);replace HO449:=mk0 (bR HO449.out hb);have HO452:=mk0 (Kd.R_lower (Kd.R_newB ho0 (g:=gb446) (o:=.cells #[.int .i64 t443,.int .i64 t444,.int .i64 t445] 27 (0,0)) (kN BK446.out)) (kZ HB.out));replace BK446:=mk0 (kK BK446.out hb);replace HB:=mk0 (kS HB.out hb);(try clear hb);(try clear ho0);obtain⟨hcz66_0,hcz66_1,hcz66_2,hfz66_0,hfz66_1,hfz66_2⟩:=cz3 BK446.out)|(go_at_call 11;(with_reducible refine (spec_StretchOk.calls k _ _ t440 t443 t444 t445 false _ ?side1 ?side2 A7.out).mono ?_);(case side1=>exact kC (Kd.R_reads' HO442.out).2.2);(case side2=>exact (Kd.R_reads' HO442.out).2.1);rintro e w67 ⟨rfl,hb⟩;replace HO442:=mk0 (bR HO442.out hb);replace HO449:=mk0 (bR HO449.out hb);replace HO452:=mk0 (bR HO452.out hb);replace BK446:=mk0 (kK BK446.out hb);replace HB:=mk0 (kS HB.out hb);(try clear hb);obtain⟨Ao68,co68,eo68⟩:=Kd.R_slice HO449.out;subst eo68;obtain⟨Ao69,co69,eo69⟩:=Kd.R_slice HO452.out;subst eo69));try go_wp2_with (first|(go_at_call 34;(with_reducible refine (laws_big.calls _ _ l0 false _ ?side1 ?side2 A2.out).mono ?_);(case side1=>repeat (first|exact HR0.out|(with_reducible first|apply aC|apply nC|apply dC)));(case side2=>exact HC0.out);rintro e w' ⟨rfl,⟨nd,rfl⟩⟩;(try first|exact⟨rfl,_,World.drewN_drewN _ _ _⟩|exact⟨rfl,_,Eq.trans (World.drewN_drewN _ _ _) (congrArg (World.drewN _) (Nat.add_assoc _ _ _))⟩))|(go_at_call 35;(with_reducible refine (spec_DrawStretchKids.calls k _ _ l0 t440 t443 t444 t445 _ ?side1 ?side2 A4.out).mono ?_);(case side1=>repeat (first|exact HR0.out|(with_reducible first|apply aC|apply nC|apply dC)));(case side2=>exact HC0.out);rintro e w59 ⟨v441,rfl,ho0,hb⟩;have HO442:=mk0 (Kd.R_lower ho0 (kZ HB.out));replace HB:=mk0 (kS HB.out hb);(try clear hb);(try clear ho0))|((with_reducible refine gate_dst (N:=4) rfl ?_);(try (refine gate_guard (by rfl) ?_;dsimp only));refine box_event ?hg (N:=4) ?hd (cs:=#[.int .i64 0,.int .i64 0,.int .i64 0]) (t:=27) ?hr ?_;(case hd=>rfl);(case hg=>rfl);(case hr=>first|(go_simp;done)|(go_simp;rfl));intro gb446 hg w60 hbox hb;replace HO442:=mk0 (bR HO442.out hb);have BK446:=mk0 (hbox);have GW446:=mk0 ((by rw [hg];exact (kZ HB.out):w.heap.size ≤ gb446));have GE446:=mk0 ((by rw [hg];exact (kZ HB.out):w.heap.size ≤ gb446));replace HB:=mk0 (kS HB.out hb);clear hb hbox hg;obtain⟨hcz61_0,hcz61_1,hcz61_2,hfz61_0,hfz61_1,hfz61_2⟩:=cz3 BK446.out;obtain⟨Ao62,co62,eo62⟩:=Kd.R_slice HO442.out;subst eo62)|(go_at_call 17;(with_reducible refine (impl_StretchWord.calls k _ _ t440 t443 t444 t445 t447 _ ?side1 ?side2 A5.out).mono ?_);(case side1=>refine (Kd.R_reads' (e:=5) (base:=w.heap.size) (ok:=fun k_=>True) (n:=t440.length) (c:=co62) ?_).2.2;exact (by (with_reducible repeat (first|apply aR|apply nR|apply dR));exact (Kd.R_mono (Kd.R_far (p:=⟨gb446,2,none⟩) (Kd.R_far (p:=⟨gb446,1,none⟩) (Kd.R_far (p:=⟨gb446,0,none⟩) (Kd.R_types HO442.out BK446.out (by decide)) (fun _ hk=>hk.2) (.int .i64 t443)) (fun _ hk=>hk.2) (.int .i64 t444)) (fun _ hk=>hk.2) (.int .i64 t445)) (fun _ h_=>h_.1))));(case side2=>exact (Kd.R_reads' HO442.out).2.1);rintro e w63 ⟨v448,rfl,ho0,hb⟩;have HO449:=mk0 (Kd.R_lower (Kd.R_new' ho0 (Kd.R_lt (by (with_reducible repeat (first|apply aR|apply nR|apply dR));exact (Kd.R_mono (Kd.R_far (p:=⟨gb446,2,none⟩) (Kd.R_far (p:=⟨gb446,1,none⟩) (Kd.R_far (p:=⟨gb446,0,none⟩) (Kd.R_types HO442.out BK446.out (by decide)) (fun _ hk=>hk.2) (.int .i64 t443)) (fun _ hk=>hk.2) (.int .i64 t444)) (fun _ hk=>hk.2) (.int .i64 t445)) (fun _ h_=>h_.1))))) (kZ HB.out));replace HO442:=mk0 (Kd.R_elder' (by (with_reducible repeat (first|apply aR|apply nR|apply dR));exact (Kd.R_mono (Kd.R_far (p:=⟨gb446,2,none⟩) (Kd.R_far (p:=⟨gb446,1,none⟩) (Kd.R_far (p:=⟨gb446,0,none⟩) (Kd.R_types HO442.out BK446.out (by decide)) (fun _ hk=>hk.2) (.int .i64 t443)) (fun _ hk=>hk.2) (.int .i64 t444)) (fun _ hk=>hk.2) (.int .i64 t445)) (fun _ h_=>h_.1))) (Kd.R_base ho0) hb);replace BK446:=mk0 (blk_below (g:=gb446) (o:=.cells #[.int .i64 t443,.int .i64 t444,.int .i64 t445] 27 (0,0)) (by (with_reducible repeat (first|apply nB|apply dB|apply aB));refine blk_put (cs:=#[.int .i64 t443,.int .i64 t444,.int .i64 0]) ?_ 2 _ rfl;(with_reducible repeat (first|apply nB|apply dB|apply aB));refine blk_put (cs:=#[.int .i64 t443,.int .i64 0,.int .i64 0]) ?_ 1 _ rfl;(with_reducible repeat (first|apply nB|apply dB|apply aB));refine blk_put (cs:=#[.int .i64 0,.int .i64 0,.int .i64 0]) ?_ 0 _ rfl;(with_reducible repeat (first|apply nB|apply dB|apply aB));exact BK446.out) hb);replace HB:=mk0 (kS HB.out hb);(try clear hb);(try clear ho0);obtain⟨hcz64_0,hcz64_1,hcz64_2,hfz64_0,hfz64_1,hfz64_2⟩:=cz3 BK446.out)|(go_at_call 33;(with_reducible refine (impl_StretchKids.calls k _ _ t440 t443 t444 t445 t450 _ ?side1 ?side2 A6.out).mono ?_);(case side1=>exact kC (Kd.R_reads' HO442.out).2.2);(case side2=>exact (Kd.R_reads' HO442.out).2.1);rintro e w65 ⟨v451,rfl,ho0,hb⟩;replace HO442:=mk0 (bR HO442.out hb);replace HO449:=mk0 (bR HO449.out hb);have HO452:=mk0 (Kd.R_lower (Kd.R_newB ho0 (g:=gb446) (o:=.cells #[.int .i64 t443,.int .i64 t444,.int .i64 t445] 27 (0,0)) (kN BK446.out)) (kZ HB.out));replace BK446:=mk0 (kK BK446.out hb);replace HB:=mk0 (kS HB.out hb);(try clear hb);(try clear ho0);obtain⟨hcz66_0,hcz66_1,hcz66_2,hfz66_0,hfz66_1,hfz66_2⟩:=cz3 BK446.out)|(go_at_call 11;(with_reducible refine (spec_StretchOk.calls k _ _ t440 t443 t444 t445 false _ ?side1 ?side2 A7.out).mono ?_);(case side1=>exact kC (Kd.R_reads' HO442.out).2.2);(case side2=>exact (Kd.R_reads' HO442.out).2.1);rintro e w67 ⟨rfl,hb⟩;replace HO442:=mk0 (bR HO442.out hb);replace HO449:=mk0 (bR HO449.out hb);replace HO452:=mk0 (bR HO452.out hb);replace BK446:=mk0 (kK BK446.out hb);replace HB:=mk0 (kS HB.out hb);(try clear hb);obtain⟨Ao68,co68,eo68⟩:=Kd.R_slice HO449.out;subst eo68;obtain⟨Ao69,co69,eo69⟩:=Kd.R_slice HO452.out;subst eo69)))
  go_ret
  exact⟨by first|rfl|(simp [errW_none,errW_some] <;> rfl)|(simp [*,errW_none,errW_some] <;> rfl),kB HB.out⟩
 subst c8
 have H1:((impl_StretchOf.f k t440 t447).bind fun bt454=>(if bt454.2.2.2 = true then (if (!(bt454.1 == t443) || (!(bt454.2.1 == t444) || (!(bt454.2.2.1 == t445)))) = true then (laws_FnStretchWords.j0 k t450 true t443 t444 t445) else (if (t447.length:Int) = t445 then ((spec_StretchKids.f k t440 t443 t444 t445).bind fun t459=>(laws_FnStretchWords.j0 k t450 ((t450.length:Int) != (t459.length:Int)) t443 t444 t445)) else (laws_FnStretchWords.j0 k t450 true t443 t444 t445))) else (laws_FnStretchWords.j0 k t450 true t443 t444 t445))) = some r:=by rw [if_pos rfl] at H;exact H
 clear H
 have H:=H1
 clear H1
 replace H:=Option.bind_eq_some_iff.mp H
 obtain⟨⟨t454,t455,t456,t457⟩,A90,H⟩:=H
 replace H:(if t457 = true then (if (!(t454 == t443) || (!(t455 == t444) || (!(t456 == t445)))) = true then (laws_FnStretchWords.j0 k t450 true t443 t444 t445) else (if (t447.length:Int) = t445 then ((spec_StretchKids.f k t440 t443 t444 t445).bind fun t459=>(laws_FnStretchWords.j0 k t450 ((t450.length:Int) != (t459.length:Int)) t443 t444 t445)) else (laws_FnStretchWords.j0 k t450 true t443 t444 t445))) else (laws_FnStretchWords.j0 k t450 true t443 t444 t445)) = some r:=H
 have A9:=mk0 A90
 clear A90
 have HC10:=mk0 H
 clear H
 go_enter Try.func10,Try.ntmps10
 go_upto_region 9 with (first|(go_at_call 34;(with_reducible refine (laws_big.calls _ _ l0 false _ ?side1 ?side2 A2.out).mono ?_);(case side1=>repeat (first|exact HR0.out|(with_reducible first|apply aC|apply nC|apply dC)));(case side2=>exact HC0.out);rintro e w' ⟨rfl,⟨nd,rfl⟩⟩;(try first|exact⟨rfl,_,World.drewN_drewN _ _ _⟩|exact⟨rfl,_,Eq.trans (World.drewN_drewN _ _ _) (congrArg (World.drewN _) (Nat.add_assoc _ _ _))⟩))|(go_at_call 35;(with_reducible refine (spec_DrawStretchKids.calls k _ _ l0 t440 t443 t444 t445 _ ?side1 ?side2 A4.out).mono ?_);(case side1=>repeat (first|exact HR0.out|(with_reducible first|apply aC|apply nC|apply dC)));(case side2=>exact HC0.out);rintro e w11 ⟨v441,rfl,ho0,hb⟩;have HO442:=mk0 (Kd.R_lower ho0 (kZ HB.out));replace HB:=mk0 (kS HB.out hb);(try clear hb);(try clear ho0))|((with_reducible refine gate_dst (N:=4) rfl ?_);(try (refine gate_guard (by rfl) ?_;dsimp only));refine box_event ?hg (N:=4) ?hd (cs:=#[.int .i64 0,.int .i64 0,.int .i64 0]) (t:=27) ?hr ?_;(case hd=>rfl);(case hg=>rfl);(case hr=>first|(go_simp;done)|(go_simp;rfl));intro gb446 hg w12 hbox hb;replace HO442:=mk0 (bR HO442.out hb);have BK446:=mk0 (hbox);have GW446:=mk0 ((by rw [hg];exact (kZ HB.out):w.heap.size ≤ gb446));have GE446:=mk0 ((by rw [hg];exact (kZ HB.out):w.heap.size ≤ gb446));replace HB:=mk0 (kS HB.out hb);clear hb hbox hg;obtain⟨hcz13_0,hcz13_1,hcz13_2,hfz13_0,hfz13_1,hfz13_2⟩:=cz3 BK446.out;obtain⟨Ao14,co14,eo14⟩:=Kd.R_slice HO442.out;subst eo14)|(go_at_call 17;(with_reducible refine (impl_StretchWord.calls k _ _ t440 t443 t444 t445 t447 _ ?side1 ?side2 A5.out).mono ?_);(case side1=>refine (Kd.R_reads' (e:=5) (base:=w.heap.size) (ok:=fun k_=>True) (n:=t440.length) (c:=co14) ?_).2.2;exact (by (with_reducible repeat (first|apply aR|apply nR|apply dR));exact (Kd.R_mono (Kd.R_far (p:=⟨gb446,2,none⟩) (Kd.R_far (p:=⟨gb446,1,none⟩) (Kd.R_far (p:=⟨gb446,0,none⟩) (Kd.R_types HO442.out BK446.out (by decide)) (fun _ hk=>hk.2) (.int .i64 t443)) (fun _ hk=>hk.2) (.int .i64 t444)) (fun _ hk=>hk.2) (.int .i64 t445)) (fun _ h_=>h_.1))));(case side2=>exact (Kd.R_reads' HO442.out).2.1);rintro e w15 ⟨v448,rfl,ho0,hb⟩;have HO449:=mk0 (Kd.R_lower (Kd.R_new' ho0 (Kd.R_lt (by (with_reducible repeat (first|apply aR|apply nR|apply dR));exact (Kd.R_mono (Kd.R_far (p:=⟨gb446,2,none⟩) (Kd.R_far (p:=⟨gb446,1,none⟩) (Kd.R_far (p:=⟨gb446,0,none⟩) (Kd.R_types HO442.out BK446.out (by decide)) (fun _ hk=>hk.2) (.int .i64 t443)) (fun _ hk=>hk.2) (.int .i64 t444)) (fun _ hk=>hk.2) (.int .i64 t445)) (fun _ h_=>h_.1))))) (kZ HB.out));replace HO442:=mk0 (Kd.R_elder' (by (with_reducible repeat (first|apply aR|apply nR|apply dR));exact (Kd.R_mono (Kd.R_far (p:=⟨gb446,2,none⟩) (Kd.R_far (p:=⟨gb446,1,none⟩) (Kd.R_far (p:=⟨gb446,0,none⟩) (Kd.R_types HO442.out BK446.out (by decide)) (fun _ hk=>hk.2) (.int .i64 t443)) (fun _ hk=>hk.2) (.int .i64 t444)) (fun _ hk=>hk.2) (.int .i64 t445)) (fun _ h_=>h_.1))) (Kd.R_base ho0) hb);replace BK446:=mk0 (blk_below (g:=gb446) (o:=.cells #[.int .i64 t443,.int .i64 t444,.int .i64 t445] 27 (0,0)) (by (with_reducible repeat (first|apply nB|apply dB|apply aB));refine blk_put (cs:=#[.int .i64 t443,.int .i64 t444,.int .i64 0]) ?_ 2 _ rfl;(with_reducible repeat (first|apply nB|apply dB|apply aB));refine blk_put (cs:=#[.int .i64 t443,.int .i64 0,.int .i64 0]) ?_ 1 _ rfl;(with_reducible repeat (first|apply nB|apply dB|apply aB));refine blk_put (cs:=#[.int .i64 0,.int .i64 0,.int .i64 0]) ?_ 0 _ rfl;(with_reducible repeat (first|apply nB|apply dB|apply aB));exact BK446.out) hb);replace HB:=mk0 (kS HB.out hb);(try clear hb);(try clear ho0);obtain⟨hcz16_0,hcz16_1,hcz16_2,hfz16_0,hfz16_1,hfz16_2⟩:=cz3 BK446.out)|(go_at_call 33;(with_reducible refine (impl_StretchKids.calls k _ _ t440 t443 t444 t445 t450 _ ?side1 ?side2 A6.out).mono ?_);(case side1=>exact kC (Kd.R_reads' HO442.out).2.2);(case side2=>exact (Kd.R_reads' HO442.out).2.1);rintro e w17 ⟨v451,rfl,ho0,hb⟩;replace HO442:=mk0 (bR HO442.out hb);replace HO449:=mk0 (bR HO449.out hb);have HO452:=mk0 (Kd.R_lower (Kd.R_newB ho0 (g:=gb446) (o:=.cells #[.int .i64 t443,.int .i64 t444,.int .i64 t445] 27 (0,0)) (kN BK446.out)) (kZ HB.out));replace BK446:=mk0 (kK BK446.out hb);replace HB:=mk0 (kS HB.out hb);(try clear hb);(try clear ho0);obtain⟨hcz18_0,hcz18_1,hcz18_2,hfz18_0,hfz18_1,hfz18_2⟩:=cz3 BK446.out)|(go_at_call 11;(with_reducible refine (spec_StretchOk.calls k _ _ t440 t443 t444 t445 true _ ?side1 ?side2 A7.out).mono ?_);(case side1=>exact kC (Kd.R_reads' HO442.out).2.2);(case side2=>exact (Kd.R_reads' HO442.out).2.1);rintro e w19 ⟨rfl,hb⟩;replace HO442:=mk0 (bR HO442.out hb);replace HO449:=mk0 (bR HO449.out hb);replace HO452:=mk0 (bR HO452.out hb);replace BK446:=mk0 (kK BK446.out hb);replace HB:=mk0 (kS HB.out hb);(try clear hb);obtain⟨Ao20,co20,eo20⟩:=Kd.R_slice HO449.out;subst eo20)|(go_at_call 21;(with_reducible refine (impl_StretchOf.calls k _ _ t440 _ _ t447 t454 t455 t456 t457 _ ?side1 ?side2 ?side3 ?side4 A9.out).mono ?_);(case side1=>exact kC (Kd.R_reads' HO442.out).2.2);(case side2=>exact (Kd.R_reads' HO442.out).2.1);(case side3=>exact kC (Kd.R_reads' HO449.out).2.2);(case side4=>exact (Kd.R_reads' HO449.out).2.1);rintro e w21 ⟨rfl,hb⟩;replace HO442:=mk0 (bR HO442.out hb);replace HO449:=mk0 (bR HO449.out hb);replace HO452:=mk0 (bR HO452.out hb);replace BK446:=mk0 (kK BK446.out hb);replace HB:=mk0 (kS HB.out hb);(try clear hb))|((with_reducible refine gate_dst (N:=7) rfl ?_);(try (refine gate_guard (by rfl) ?_;dsimp only));refine box_event ?hg (N:=7) ?hd (cs:=#[.int .i64 0,.int .i64 0,.int .i64 0]) (t:=27) ?hr ?_;(case hd=>rfl);(case hg=>rfl);(case hr=>first|(go_simp;done)|(go_simp;rfl));intro gb458 hg w22 hbox hb;replace HO442:=mk0 (bR HO442.out hb);replace HO449:=mk0 (bR HO449.out hb);replace HO452:=mk0 (Kd.R_below (Kd.R_elderB (rR HO452.out) gb458 (Nat.le_of_eq hg.symm)) hb);have BK458:=mk0 (hbox);have GW458:=mk0 ((by rw [hg];exact (kZ HB.out):w.heap.size ≤ gb458));have GE458:=mk0 ((by rw [hg];exact (kZ HB.out):w.heap.size ≤ gb458));replace HB:=mk0 (kS HB.out hb);have NB446_458:=mk0 ((by rw [hg];exact Nat.ne_of_lt (kL BK446.out):gb446 ≠ gb458));have NB458_446:=mk0 ((by rw [hg];exact Nat.ne_of_gt (kL BK446.out):gb458 ≠ gb446));replace BK446:=mk0 (kK BK446.out hb);clear hb hbox hg;have hnb23:=NB458_446.out;have hnc23:=NB446_458.out;obtain⟨hcz24_0,hcz24_1,hcz24_2,hfz24_0,hfz24_1,hfz24_2⟩:=cz3 BK458.out))
 repeat (go_quiet (first|(go_at_call 34;(with_reducible refine (laws_big.calls _ _ l0 false _ ?side1 ?side2 A2.out).mono ?_);(case side1=>repeat (first|exact HR0.out|(with_reducible first|apply aC|apply nC|apply dC)));(case side2=>exact HC0.out);rintro e w' ⟨rfl,⟨nd,rfl⟩⟩;(try first|exact⟨rfl,_,World.drewN_drewN _ _ _⟩|exact⟨rfl,_,Eq.trans (World.drewN_drewN _ _ _) (congrArg (World.drewN _) (Nat.add_assoc _ _ _))⟩))|(go_at_call 35;(with_reducible refine (spec_DrawStretchKids.calls k _ _ l0 t440 t443 t444 t445 _ ?side1 ?side2 A4.out).mono ?_);(case side1=>repeat (first|exact HR0.out|(with_reducible first|apply aC|apply nC|apply dC)));(case side2=>exact HC0.out);rintro e w11 ⟨v441,rfl,ho0,hb⟩;have HO442:=mk0 (Kd.R_lower ho0 (kZ HB.out));replace HB:=mk0 (kS HB.out hb);(try clear hb);(try clear ho0))|((with_reducible refine gate_dst (N:=4) rfl ?_);(try (refine gate_guard (by rfl) ?_;dsimp only));refine box_event ?hg (N:=4) ?hd (cs:=#[.int .i64 0,.int .i64 0,.int .i64 0]) (t:=27) ?hr ?_;(case hd=>rfl);(case hg=>rfl);(case hr=>first|(go_simp;done)|(go_simp;rfl));intro gb446 hg w12 hbox hb;replace HO442:=mk0 (bR HO442.out hb);have BK446:=mk0 (hbox);have GW446:=mk0 ((by rw [hg];exact (kZ HB.out):w.heap.size ≤ gb446));have GE446:=mk0 ((by rw [hg];exact (kZ HB.out):w.heap.size ≤ gb446));replace HB:=mk0 (kS HB.out hb);clear hb hbox hg;obtain⟨hcz13_0,hcz13_1,hcz13_2,hfz13_0,hfz13_1,hfz13_2⟩:=cz3 BK446.out;obtain⟨Ao14,co14,eo14⟩:=Kd.R_slice HO442.out;subst eo14)|(go_at_call 17;(with_reducible refine (impl_StretchWord.calls k _ _ t440 t443 t444 t445 t447 _ ?side1 ?side2 A5.out).mono ?_);(case side1=>refine (Kd.R_reads' (e:=5) (base:=w.heap.size) (ok:=fun k_=>True) (n:=t440.length) (c:=co14) ?_).2.2;exact (by (with_reducible repeat (first|apply aR|apply nR|apply dR));exact (Kd.R_mono (Kd.R_far (p:=⟨gb446,2,none⟩) (Kd.R_far (p:=⟨gb446,1,none⟩) (Kd.R_far (p:=⟨gb446,0,none⟩) (Kd.R_types HO442.out BK446.out (by decide)) (fun _ hk=>hk.2) (.int .i64 t443)) (fun _ hk=>hk.2) (.int .i64 t444)) (fun _ hk=>hk.2) (.int .i64 t445)) (fun _ h_=>h_.1))));(case side2=>exact (Kd.R_reads' HO442.out).2.1);rintro e w15 ⟨v448,rfl,ho0,hb⟩;have HO449:=mk0 (Kd.R_lower (Kd.R_new' ho0 (Kd.R_lt (by (with_reducible repeat (first|apply aR|apply nR|apply dR));exact (Kd.R_mono (Kd.R_far (p:=⟨gb446,2,none⟩) (Kd.R_far (p:=⟨gb446,1,none⟩) (Kd.R_far (p:=⟨gb446,0,none⟩) (Kd.R_types HO442.out BK446.out (by decide)) (fun _ hk=>hk.2) (.int .i64 t443)) (fun _ hk=>hk.2) (.int .i64 t444)) (fun _ hk=>hk.2) (.int .i64 t445)) (fun _ h_=>h_.1))))) (kZ HB.out));replace HO442:=mk0 (Kd.R_elder' (by (with_reducible repeat (first|apply aR|apply nR|apply dR));exact (Kd.R_mono (Kd.R_far (p:=⟨gb446,2,none⟩) (Kd.R_far (p:=⟨gb446,1,none⟩) (Kd.R_far (p:=⟨gb446,0,none⟩) (Kd.R_types HO442.out BK446.out (by decide)) (fun _ hk=>hk.2) (.int .i64 t443)) (fun _ hk=>hk.2) (.int .i64 t444)) (fun _ hk=>hk.2) (.int .i64 t445)) (fun _ h_=>h_.1))) (Kd.R_base ho0) hb);replace BK446:=mk0 (blk_below (g:=gb446) (o:=.cells #[.int .i64 t443,.int .i64 t444,.int .i64 t445] 27 (0,0)) (by (with_reducible repeat (first|apply nB|apply dB|apply aB));refine blk_put (cs:=#[.int .i64 t443,.int .i64 t444,.int .i64 0]) ?_ 2 _ rfl;(with_reducible repeat (first|apply nB|apply dB|apply aB));refine blk_put (cs:=#[.int .i64 t443,.int .i64 0,.int .i64 0]) ?_ 1 _ rfl;(with_reducible repeat (first|apply nB|apply dB|apply aB));refine blk_put (cs:=#[.int .i64 0,.int .i64 0,.int .i64 0]) ?_ 0 _ rfl;(with_reducible repeat (first|apply nB|apply dB|apply aB));exact BK446.out) hb);replace HB:=mk0 (kS HB.out hb);(try clear hb);(try clear ho0);obtain⟨hcz16_0,hcz16_1,hcz16_2,hfz16_0,hfz16_1,hfz16_2⟩:=cz3 BK446.out)|(go_at_call 33;(with_reducible refine (impl_StretchKids.calls k _ _ t440 t443 t444 t445 t450 _ ?side1 ?side2 A6.out).mono ?_);(case side1=>exact kC (Kd.R_reads' HO442.out).2.2);(case side2=>exact (Kd.R_reads' HO442.out).2.1);rintro e w17 ⟨v451,rfl,ho0,hb⟩;replace HO442:=mk0 (bR HO442.out hb);replace HO449:=mk0 (bR HO449.out hb);have HO452:=mk0 (Kd.R_lower (Kd.R_newB ho0 (g:=gb446) (o:=.cells #[.int .i64 t443,.int .i64 t444,.int .i64 t445] 27 (0,0)) (kN BK446.out)) (kZ HB.out));replace BK446:=mk0 (kK BK446.out hb);replace HB:=mk0 (kS HB.out hb);(try clear hb);(try clear ho0);obtain⟨hcz18_0,hcz18_1,hcz18_2,hfz18_0,hfz18_1,hfz18_2⟩:=cz3 BK446.out)|(go_at_call 11;(with_reducible refine (spec_StretchOk.calls k _ _ t440 t443 t444 t445 true _ ?side1 ?side2 A7.out).mono ?_);(case side1=>exact kC (Kd.R_reads' HO442.out).2.2);(case side2=>exact (Kd.R_reads' HO442.out).2.1);rintro e w19 ⟨rfl,hb⟩;replace HO442:=mk0 (bR HO442.out hb);replace HO449:=mk0 (bR HO449.out hb);replace HO452:=mk0 (bR HO452.out hb);replace BK446:=mk0 (kK BK446.out hb);replace HB:=mk0 (kS HB.out hb);(try clear hb);obtain⟨Ao20,co20,eo20⟩:=Kd.R_slice HO449.out;subst eo20)|(go_at_call 21;(with_reducible refine (impl_StretchOf.calls k _ _ t440 _ _ t447 t454 t455 t456 t457 _ ?side1 ?side2 ?side3 ?side4 A9.out).mono ?_);(case side1=>exact kC (Kd.R_reads' HO442.out).2.2);(case side2=>exact (Kd.R_reads' HO442.out).2.1);(case side3=>exact kC (Kd.R_reads' HO449.out).2.2);(case side4=>exact (Kd.R_reads' HO449.out).2.1);rintro e w21 ⟨rfl,hb⟩;replace HO442:=mk0 (bR HO442.out hb);replace HO449:=mk0 (bR HO449.out hb);replace HO452:=mk0 (bR HO452.out hb);replace BK446:=mk0 (kK BK446.out hb);replace HB:=mk0 (kS HB.out hb);(try clear hb))|((with_reducible refine gate_dst (N:=7) rfl ?_);(try (refine gate_guard (by rfl) ?_;dsimp only));refine box_event ?hg (N:=7) ?hd (cs:=#[.int .i64 0,.int .i64 0,.int .i64 0]) (t:=27) ?hr ?_;(case hd=>rfl);(case hg=>rfl);(case hr=>first|(go_simp;done)|(go_simp;rfl));intro gb458 hg w22 hbox hb;replace HO442:=mk0 (bR HO442.out hb);replace HO449:=mk0 (bR HO449.out hb);replace HO452:=mk0 (Kd.R_below (Kd.R_elderB (rR HO452.out) gb458 (Nat.le_of_eq hg.symm)) hb);have BK458:=mk0 (hbox);have GW458:=mk0 ((by rw [hg];exact (kZ HB.out):w.heap.size ≤ gb458));have GE458:=mk0 ((by rw [hg];exact (kZ HB.out):w.heap.size ≤ gb458));replace HB:=mk0 (kS HB.out hb);have NB446_458:=mk0 ((by rw [hg];exact Nat.ne_of_lt (kL BK446.out):gb446 ≠ gb458));have NB458_446:=mk0 ((by rw [hg];exact Nat.ne_of_gt (kL BK446.out):gb458 ≠ gb446));replace BK446:=mk0 (kK BK446.out hb);clear hb hbox hg;have hnb23:=NB458_446.out;have hnc23:=NB446_458.out;obtain⟨hcz24_0,hcz24_1,hcz24_2,hfz24_0,hfz24_1,hfz24_2⟩:=cz3 BK458.out));go_upto_region 9 with (first|(go_at_call 34;(with_reducible refine (laws_big.calls _ _ l0 false _ ?side1 ?side2 A2.out).mono ?_);(case side1=>repeat (first|exact HR0.out|(with_reducible first|apply aC|apply nC|apply dC)));(case side2=>exact HC0.out);rintro e w' ⟨rfl,⟨nd,rfl⟩⟩;(try first|exact⟨rfl,_,World.drewN_drewN _ _ _⟩|exact⟨rfl,_,Eq.trans (World.drewN_drewN _ _ _) (congrArg (World.drewN _) (Nat.add_assoc _ _ _))⟩))|(go_at_call 35;(with_reducible refine (spec_DrawStretchKids.calls k _ _ l0 t440 t443 t444 t445 _ ?side1 ?side2 A4.out).mono ?_);(case side1=>repeat (first|exact HR0.out|(with_reducible first|apply aC|apply nC|apply dC)));(case side2=>exact HC0.out);rintro e w11 ⟨v441,rfl,ho0,hb⟩;have HO442:=mk0 (Kd.R_lower ho0 (kZ HB.out));replace HB:=mk0 (kS HB.out hb);(try clear hb);(try clear ho0))|((with_reducible refine gate_dst (N:=4) rfl ?_);(try (refine gate_guard (by rfl) ?_;dsimp only));refine box_event ?hg (N:=4) ?hd (cs:=#[.int .i64 0,.int .i64 0,.int .i64 0]) (t:=27) ?hr ?_;(case hd=>rfl);(case hg=>rfl);(case hr=>first|(go_simp;done)|(go_simp;rfl));intro gb446 hg w12 hbox hb;replace HO442:=mk0 (bR HO442.out hb);have BK446:=mk0 (hbox);have GW446:=mk0 ((by rw [hg];exact (kZ HB.out):w.heap.size ≤ gb446));have GE446:=mk0 ((by rw [hg];exact (kZ HB.out):w.heap.size ≤ gb446));replace HB:=mk0 (kS HB.out hb);clear hb hbox hg;obtain⟨hcz13_0,hcz13_1,hcz13_2,hfz13_0,hfz13_1,hfz13_2⟩:=cz3 BK446.out;obtain⟨Ao14,co14,eo14⟩:=Kd.R_slice HO442.out;subst eo14)|(go_at_call 17;(with_reducible refine (impl_StretchWord.calls k _ _ t440 t443 t444 t445 t447 _ ?side1 ?side2 A5.out).mono ?_);(case side1=>refine (Kd.R_reads' (e:=5) (base:=w.heap.size) (ok:=fun k_=>True) (n:=t440.length) (c:=co14) ?_).2.2;exact (by (with_reducible repeat (first|apply aR|apply nR|apply dR));exact (Kd.R_mono (Kd.R_far (p:=⟨gb446,2,none⟩) (Kd.R_far (p:=⟨gb446,1,none⟩) (Kd.R_far (p:=⟨gb446,0,none⟩) (Kd.R_types HO442.out BK446.out (by decide)) (fun _ hk=>hk.2) (.int .i64 t443)) (fun _ hk=>hk.2) (.int .i64 t444)) (fun _ hk=>hk.2) (.int .i64 t445)) (fun _ h_=>h_.1))));(case side2=>exact (Kd.R_reads' HO442.out).2.1);rintro e w15 ⟨v448,rfl,ho0,hb⟩;have HO449:=mk0 (Kd.R_lower (Kd.R_new' ho0 (Kd.R_lt (by (with_reducible repeat (first|apply aR|apply nR|apply dR));exact (Kd.R_mono (Kd.R_far (p:=⟨gb446,2,none⟩) (Kd.R_far (p:=⟨gb446,1,none⟩) (Kd.R_far (p:=⟨gb446,0,none⟩) (Kd.R_types HO442.out BK446.out (by decide)) (fun _ hk=>hk.2) (.int .i64 t443)) (fun _ hk=>hk.2) (.int .i64 t444)) (fun _ hk=>hk.2) (.int .i64 t445)) (fun _ h_=>h_.1))))) (kZ HB.out));replace HO442:=mk0 (Kd.R_elder' (by (with_reducible repeat (first|apply aR|apply nR|apply dR));exact (Kd.R_mono (Kd.R_far (p:=⟨gb446,2,none⟩) (Kd.R_far (p:=⟨gb446,1,none⟩) (Kd.R_far (p:=⟨gb446,0,none⟩) (Kd.R_types HO442.out BK446.out (by decide)) (fun _ hk=>hk.2) (.int .i64 t443)) (fun _ hk=>hk.2) (.int .i64 t444)) (fun _ hk=>hk.2) (.int .i64 t445)) (fun _ h_=>h_.1))) (Kd.R_base ho0) hb);replace BK446:=mk0 (blk_below (g:=gb446) (o:=.cells #[.int .i64 t443,.int .i64 t444,.int .i64 t445] 27 (0,0)) (by (with_reducible repeat (first|apply nB|apply dB|apply aB));refine blk_put (cs:=#[.int .i64 t443,.int .i64 t444,.int .i64 0]) ?_ 2 _ rfl;(with_reducible repeat (first|apply nB|apply dB|apply aB));refine blk_put (cs:=#[.int .i64 t443,.int .i64 0,.int .i64 0]) ?_ 1 _ rfl;(with_reducible repeat (first|apply nB|apply dB|apply aB));refine blk_put (cs:=#[.int .i64 0,.int .i64 0,.int .i64 0]) ?_ 0 _ rfl;(with_reducible repeat (first|apply nB|apply dB|apply aB));exact BK446.out) hb);replace HB:=mk0 (kS HB.out hb);(try clear hb);(try clear ho0);obtain⟨hcz16_0,hcz16_1,hcz16_2,hfz16_0,hfz16_1,hfz16_2⟩:=cz3 BK446.out)|(go_at_call 33;(with_reducible refine (impl_StretchKids.calls k _ _ t440 t443 t444 t445 t450 _ ?side1 ?side2 A6.out).mono ?_);(case side1=>exact kC (Kd.R_reads' HO442.out).2.2);(case side2=>exact (Kd.R_reads' HO442.out).2.1);rintro e w17 ⟨v451,rfl,ho0,hb⟩;replace HO442:=mk0 (bR HO442.out hb);replace HO449:=mk0 (bR HO449.out hb);have HO452:=mk0 (Kd.R_lower (Kd.R_newB ho0 (g:=gb446) (o:=.cells #[.int .i64 t443,.int .i64 t444,.int .i64 t445] 27 (0,0)) (kN BK446.out)) (kZ HB.out));replace BK446:=mk0 (kK BK446.out hb);replace HB:=mk0 (kS HB.out hb);(try clear hb);(try clear ho0);obtain⟨hcz18_0,hcz18_1,hcz18_2,hfz18_0,hfz18_1,hfz18_2⟩:=cz3 BK446.out)|(go_at_call 11;(with_reducible refine (spec_StretchOk.calls k _ _ t440 t443 t444 t445 true _ ?side1 ?side2 A7.out).mono ?_);(case side1=>exact kC (Kd.R_reads' HO442.out).2.2);(case side2=>exact (Kd.R_reads' HO442.out).2.1);rintro e w19 ⟨rfl,hb⟩;replace HO442:=mk0 (bR HO442.out hb);replace HO449:=mk0 (bR HO449.out hb);replace HO452:=mk0 (bR HO452.out hb);replace BK446:=mk0 (kK BK446.out hb);replace HB:=mk0 (kS HB.out hb);(try clear hb);obtain⟨Ao20,co20,eo20⟩:=Kd.R_slice HO449.out;subst eo20)|(go_at_call 21;(with_reducible refine (impl_StretchOf.calls k _ _ t440 _ _ t447 t454 t455 t456 t457 _ ?side1 ?side2 ?side3 ?side4 A9.out).mono ?_);(case side1=>exact kC (Kd.R_reads' HO442.out).2.2);(case side2=>exact (Kd.R_reads' HO442.out).2.1);(case side3=>exact kC (Kd.R_reads' HO449.out).2.2);(case side4=>exact (Kd.R_reads' HO449.out).2.1);rintro e w21 ⟨rfl,hb⟩;replace HO442:=mk0 (bR HO442.out hb);replace HO449:=mk0 (bR HO449.out hb);replace HO452:=mk0 (bR HO452.out hb);replace BK446:=mk0 (kK BK446.out hb);replace HB:=mk0 (kS HB.out hb);(try clear hb))|((with_reducible refine gate_dst (N:=7) rfl ?_);(try (refine gate_guard (by rfl) ?_;dsimp only));refine box_event ?hg (N:=7) ?hd (cs:=#[.int .i64 0,.int .i64 0,.int .i64 0]) (t:=27) ?hr ?_;(case hd=>rfl);(case hg=>rfl);(case hr=>first|(go_simp;done)|(go_simp;rfl));intro gb458 hg w22 hbox hb;replace HO442:=mk0 (bR HO442.out hb);replace HO449:=mk0 (bR HO449.out hb);replace HO452:=mk0 (Kd.R_below (Kd.R_elderB (rR HO452.out) gb458 (Nat.le_of_eq hg.symm)) hb);have BK458:=mk0 (hbox);have GW458:=mk0 ((by rw [hg];exact (kZ HB.out):w.heap.size ≤ gb458));have GE458:=mk0 ((by rw [hg];exact (kZ HB.out):w.heap.size ≤ gb458));replace HB:=mk0 (kS HB.out hb);have NB446_458:=mk0 ((by rw [hg];exact Nat.ne_of_lt (kL BK446.out):gb446 ≠ gb458));have NB458_446:=mk0 ((by rw [hg];exact Nat.ne_of_gt (kL BK446.out):gb458 ≠ gb446));replace BK446:=mk0 (kK BK446.out hb);clear hb hbox hg;have hnb23:=NB458_446.out;have hnc23:=NB446_458.out;obtain⟨hcz24_0,hcz24_1,hcz24_2,hfz24_0,hfz24_1,hfz24_2⟩:=cz3 BK458.out)))
 (try simp only [Act.put,sA,sO,sS])
 go_cut [64] (fun v64 wc=>∃ (kq:Nat) (x64_9:Bool),v64 = .bool x64_9 ∧ Aside0 (laws_FnStretchWords.j0 kq t450 x64_9 t443 t444 t445 = some r) ∧ Aside0 (kq ≤ k) ∧ Aside0 (Kd.R k27 27 wc w.heap.size (fun k_=>k_ ≠ gb446 ∧ k_ ≠ gb458) v451 t450) ∧ Aside0 (wc.heap[gb446]? = some (.cells #[.int .i64 t443,.int .i64 t444,.int .i64 t445] 27 (0,0))) ∧ Aside0 (wc.heap[gb458]? = some (.cells #[.int .i64 t454,.int .i64 t455,.int .i64 t456] 27 (0,0))) ∧ Aside0 (Below w.heap.size w wc))
 case first =>
  have H:=HC10.out
  clear HC10
  by_cases c25:t457 = true
  rotate_left
  ·replace c25:=Bool.eq_false_iff.mpr c25
   subst c25
   have H1:(laws_FnStretchWords.j0 k t450 true t443 t444 t445) = some r:=by rw [if_neg (show ¬ (false = true) by decide)] at H;exact H
   clear H
   have H:=H1
   clear H1
   have H':=mk0 H
   clear H
   go_wp2
   repeat (go_quiet (fail);try go_wp2)
   go_meet
   case rel=>exact⟨_,(true),(by first|rfl|(simp;done)|(simp [*];done)),H',⟨by first|omega|exact Nat.le_refl _⟩,⟨by (with_reducible repeat (first|apply aR|apply nR|apply dR));exact Kd.R_mono (Kd.R_far (p:=⟨gb458,2,none⟩) (Kd.R_far (p:=⟨gb458,1,none⟩) (Kd.R_far (p:=⟨gb458,0,none⟩) (Kd.R_mono HO452.out (fun k_ hk=>(⟨hk,hk.2⟩:_ ∧ k_ ≠ gb458))) (fun _ hk=>hk.2) (.int .i64 t454)) (fun _ hk=>hk.2) (.int .i64 t455)) (fun _ hk=>hk.2) (.int .i64 t456)) (fun _ hk=>⟨hk.1.1.2,hk.1.2⟩)⟩,⟨by (with_reducible repeat (first|apply nB|apply dB|apply aB));refine blk_far ?_ NB446_458.out _;(with_reducible repeat (first|apply nB|apply dB|apply aB));refine blk_far ?_ NB446_458.out _;(with_reducible repeat (first|apply nB|apply dB|apply aB));refine blk_far ?_ NB446_458.out _;(with_reducible repeat (first|apply nB|apply dB|apply aB));exact BK446.out⟩,⟨by (with_reducible repeat (first|apply nB|apply dB|apply aB));refine blk_put (cs:=#[.int .i64 t454,.int .i64 t455,.int .i64 0]) ?_ 2 _ rfl;(with_reducible repeat (first|apply nB|apply dB|apply aB));refine blk_put (cs:=#[.int .i64 t454,.int .i64 0,.int .i64 0]) ?_ 1 _ rfl;(with_reducible repeat (first|apply nB|apply dB|apply aB));refine blk_put (cs:=#[.int .i64 0,.int .i64 0,.int .i64 0]) ?_ 0 _ rfl;(with_reducible repeat (first|apply nB|apply dB|apply aB));exact BK458.out⟩,⟨kB HB.out⟩⟩
  subst c25
  have H1:(if (!(t454 == t443) || (!(t455 == t444) || (!(t456 == t445)))) = true then (laws_FnStretchWords.j0 k t450 true t443 t444 t445) else (if (t447.length:Int) = t445 then ((spec_StretchKids.f k t440 t443 t444 t445).bind fun t459=>(laws_FnStretchWords.j0 k t450 ((t450.length:Int) != (t459.length:Int)) t443 t444 t445)) else (laws_FnStretchWords.j0 k t450 true t443 t444 t445))) = some r:=by rw [if_pos rfl] at H;exact H
  clear H
  have H:=H1
  clear H1
  by_cases c26:(!(t454 == t443) || (!(t455 == t444) || (!(t456 == t445)))) = true
  ·rw [if_pos c26] at H
   have c26b0:(!(t454 == t443) || (!(t455 == t444) || (!(t456 == t445)))) = true:=c26
   clear c26
   (first|rw [c26b0]|(simp only [i64_w,i32_w];rw [c26b0])|skip)
   have H':=mk0 H
   clear H
   have hnb27:=NB458_446.out
   have hnc27:=NB446_458.out
   obtain⟨hcz28_0,hcz28_1,hcz28_2,hfz28_0,hfz28_1,hfz28_2⟩:=cz3 BK458.out
   obtain⟨hcz29_0,hcz29_1,hcz29_2,hfz29_0,hfz29_1,hfz29_2⟩:=cz3 BK446.out
   go_wp2
   repeat (go_quiet (fail);try go_wp2)
   go_meet
   case rel=>exact⟨_,(true),(by first|rfl|(simp;done)|(simp [*];done)),H',⟨by first|omega|exact Nat.le_refl _⟩,⟨by (with_reducible repeat (first|apply aR|apply nR|apply dR));exact Kd.R_mono (Kd.R_far (p:=⟨gb458,2,none⟩) (Kd.R_far (p:=⟨gb458,1,none⟩) (Kd.R_far (p:=⟨gb458,0,none⟩) (Kd.R_mono HO452.out (fun k_ hk=>(⟨hk,hk.2⟩:_ ∧ k_ ≠ gb458))) (fun _ hk=>hk.2) (.int .i64 t454)) (fun _ hk=>hk.2) (.int .i64 t455)) (fun _ hk=>hk.2) (.int .i64 t456)) (fun _ hk=>⟨hk.1.1.2,hk.1.2⟩)⟩,⟨by (with_reducible repeat (first|apply nB|apply dB|apply aB));refine blk_far ?_ NB446_458.out _;(with_reducible repeat (first|apply nB|apply dB|apply aB));refine blk_far ?_ NB446_458.out _;(with_reducible repeat (first|apply nB|apply dB|apply aB));refine blk_far ?_ NB446_458.out _;(with_reducible repeat (first|apply nB|apply dB|apply aB));exact BK446.out⟩,⟨by (with_reducible repeat (first|apply nB|apply dB|apply aB));refine blk_put (cs:=#[.int .i64 t454,.int .i64 t455,.int .i64 0]) ?_ 2 _ rfl;(with_reducible repeat (first|apply nB|apply dB|apply aB));refine blk_put (cs:=#[.int .i64 t454,.int .i64 0,.int .i64 0]) ?_ 1 _ rfl;(with_reducible repeat (first|apply nB|apply dB|apply aB));refine blk_put (cs:=#[.int .i64 0,.int .i64 0,.int .i64 0]) ?_ 0 _ rfl;(with_reducible repeat (first|apply nB|apply dB|apply aB));exact BK458.out⟩,⟨kB HB.out⟩⟩
  rw [if_neg c26] at H
  have c26b0:(!(t454 == t443) || (!(t455 == t444) || (!(t456 == t445)))) = false:=by simpa using c26
  clear c26
  (first|rw [c26b0]|(simp only [i64_w,i32_w];rw [c26b0])|skip)
  by_cases c30:(t447.length:Int) = t445
  rotate_left
  ·rw [if_neg c30] at H
   have c30b0:((t447.length:Int) == t445) = false:=beq_eq_false_iff_ne.mpr c30
   have c30b1:((t447.length:Int) != t445) = true:=bne_iff_ne.mpr c30
   have H':=mk0 H
   clear H
   have hnb38:=NB458_446.out
   have hnc38:=NB446_458.out
   obtain⟨hcz39_0,hcz39_1,hcz39_2,hfz39_0,hfz39_1,hfz39_2⟩:=cz3 BK458.out
   obtain⟨hcz40_0,hcz40_1,hcz40_2,hfz40_0,hfz40_1,hfz40_2⟩:=cz3 BK446.out
   go_wp2
   repeat (go_quiet (fail);try go_wp2)
   go_meet
   case rel=>exact⟨_,(true),(by first|rfl|(simp;done)|(simp [*];done)),H',⟨by first|omega|exact Nat.le_refl _⟩,⟨by (with_reducible repeat (first|apply aR|apply nR|apply dR));exact Kd.R_mono (Kd.R_far (p:=⟨gb458,2,none⟩) (Kd.R_far (p:=⟨gb458,1,none⟩) (Kd.R_far (p:=⟨gb458,0,none⟩) (Kd.R_mono HO452.out (fun k_ hk=>(⟨hk,hk.2⟩:_ ∧ k_ ≠ gb458))) (fun _ hk=>hk.2) (.int .i64 t454)) (fun _ hk=>hk.2) (.int .i64 t455)) (fun _ hk=>hk.2) (.int .i64 t456)) (fun _ hk=>⟨hk.1.1.2,hk.1.2⟩)⟩,⟨by (with_reducible repeat (first|apply nB|apply dB|apply aB));refine blk_far ?_ NB446_458.out _;(with_reducible repeat (first|apply nB|apply dB|apply aB));refine blk_far ?_ NB446_458.out _;(with_reducible repeat (first|apply nB|apply dB|apply aB));refine blk_far ?_ NB446_458.out _;(with_reducible repeat (first|apply nB|apply dB|apply aB));exact BK446.out⟩,⟨by (with_reducible repeat (first|apply nB|apply dB|apply aB));refine blk_put (cs:=#[.int .i64 t454,.int .i64 t455,.int .i64 0]) ?_ 2 _ rfl;(with_reducible repeat (first|apply nB|apply dB|apply aB));refine blk_put (cs:=#[.int .i64 t454,.int .i64 0,.int .i64 0]) ?_ 1 _ rfl;(with_reducible repeat (first|apply nB|apply dB|apply aB));refine blk_put (cs:=#[.int .i64 0,.int .i64 0,.int .i64 0]) ?_ 0 _ rfl;(with_reducible repeat (first|apply nB|apply dB|apply aB));exact BK458.out⟩,⟨kB HB.out⟩⟩
  rw [if_pos c30] at H
  have c30b0:((t447.length:Int) == t445) = true:=beq_iff_eq.mpr c30
  have c30b1:((t447.length:Int) != t445) = false:=bne_eq_false_iff_eq.mpr c30
  clear c30
  replace H:=Option.bind_eq_some_iff.mp H
  obtain⟨t459,A310,H⟩:=H
  replace H:(laws_FnStretchWords.j0 k t450 ((t450.length:Int) != (t459.length:Int)) t443 t444 t445) = some r:=H
  have A31:=mk0 A310
  clear A310
  have H':=mk0 H
  clear H
  have hnb32:=NB458_446.out
  have hnc32:=NB446_458.out
  obtain⟨hcz33_0,hcz33_1,hcz33_2,hfz33_0,hfz33_1,hfz33_2⟩:=cz3 BK458.out
  obtain⟨hcz34_0,hcz34_1,hcz34_2,hfz34_0,hfz34_1,hfz34_2⟩:=cz3 BK446.out
  obtain⟨Ao35,co35,eo35⟩:=Kd.R_slice HO452.out
  subst eo35
  go_wp2_with (first|(go_at_call 32;(with_reducible refine (spec_StretchKids.calls k _ _ t440 t443 t444 t445 t459 _ ?side1 ?side2 A31.out).mono ?_);(case side1=>refine (Kd.R_reads' (e:=5) (base:=w.heap.size) (ok:=fun k_=>(True ∧ some k_ ≠ (.slice Ao20 t447.length co20:Value).ownBlock)) (n:=t440.length) (c:=co14) ?_).2.2;exact (by (with_reducible repeat (first|apply aR|apply nR|apply dR));exact (Kd.R_mono (Kd.R_far (p:=⟨gb458,2,none⟩) (Kd.R_far (p:=⟨gb458,1,none⟩) (Kd.R_far (p:=⟨gb458,0,none⟩) (Kd.R_types HO442.out BK458.out (by decide)) (fun _ hk=>hk.2) (.int .i64 t454)) (fun _ hk=>hk.2) (.int .i64 t455)) (fun _ hk=>hk.2) (.int .i64 t456)) (fun _ h_=>h_.1))));(case side2=>exact (Kd.R_reads' HO442.out).2.1);rintro e w36 ⟨v460,rfl,ho0,hb⟩;replace HO442:=mk0 (Kd.R_below (by (with_reducible repeat (first|apply aR|apply nR|apply dR));exact (Kd.R_mono (Kd.R_far (p:=⟨gb458,2,none⟩) (Kd.R_far (p:=⟨gb458,1,none⟩) (Kd.R_far (p:=⟨gb458,0,none⟩) (Kd.R_types HO442.out BK458.out (by decide)) (fun _ hk=>hk.2) (.int .i64 t454)) (fun _ hk=>hk.2) (.int .i64 t455)) (fun _ hk=>hk.2) (.int .i64 t456)) (fun _ h_=>h_.1))) hb);replace HO449:=mk0 (Kd.R_below (by (with_reducible repeat (first|apply aR|apply nR|apply dR));exact (Kd.R_mono (Kd.R_far (p:=⟨gb458,2,none⟩) (Kd.R_far (p:=⟨gb458,1,none⟩) (Kd.R_far (p:=⟨gb458,0,none⟩) (Kd.R_types HO449.out BK458.out (by decide)) (fun _ hk=>hk.2) (.int .i64 t454)) (fun _ hk=>hk.2) (.int .i64 t455)) (fun _ hk=>hk.2) (.int .i64 t456)) (fun _ h_=>h_.1))) hb);have HO461:=mk0 (Kd.R_lower (Kd.R_newB (Kd.R_newB (Kd.R_new' ho0 (Kd.R_lt (by (with_reducible repeat (first|apply aR|apply nR|apply dR));exact (Kd.R_mono (Kd.R_far (p:=⟨gb458,2,none⟩) (Kd.R_far (p:=⟨gb458,1,none⟩) (Kd.R_far (p:=⟨gb458,0,none⟩) (Kd.R_mono HO452.out (fun k_ hk=>(⟨hk,hk.2⟩:_ ∧ k_ ≠ gb458))) (fun _ hk=>hk.2) (.int .i64 t454)) (fun _ hk=>hk.2) (.int .i64 t455)) (fun _ hk=>hk.2) (.int .i64 t456)) (fun _ h_=>h_.1))))) (g:=gb446) (o:=.cells #[.int .i64 t443,.int .i64 t444,.int .i64 t445] 27 (0,0)) (by (with_reducible repeat (first|apply nB|apply dB|apply aB));refine blk_far ?_ NB446_458.out _;(with_reducible repeat (first|apply nB|apply dB|apply aB));refine blk_far ?_ NB446_458.out _;(with_reducible repeat (first|apply nB|apply dB|apply aB));refine blk_far ?_ NB446_458.out _;(with_reducible repeat (first|apply nB|apply dB|apply aB));exact BK446.out)) (g:=gb458) (o:=.cells #[.int .i64 t454,.int .i64 t455,.int .i64 t456] 27 (0,0)) (by (with_reducible repeat (first|apply nB|apply dB|apply aB));refine blk_put (cs:=#[.int .i64 t454,.int .i64 t455,.int .i64 0]) ?_ 2 _ rfl;(with_reducible repeat (first|apply nB|apply dB|apply aB));refine blk_put (cs:=#[.int .i64 t454,.int .i64 0,.int .i64 0]) ?_ 1 _ rfl;(with_reducible repeat (first|apply nB|apply dB|apply aB));refine blk_put (cs:=#[.int .i64 0,.int .i64 0,.int .i64 0]) ?_ 0 _ rfl;(with_reducible repeat (first|apply nB|apply dB|apply aB));exact BK458.out)) (kZ HB.out));replace HO452:=mk0 (Kd.R_elder' (by (with_reducible repeat (first|apply aR|apply nR|apply dR));exact (Kd.R_mono (Kd.R_far (p:=⟨gb458,2,none⟩) (Kd.R_far (p:=⟨gb458,1,none⟩) (Kd.R_far (p:=⟨gb458,0,none⟩) (Kd.R_mono HO452.out (fun k_ hk=>(⟨hk,hk.2⟩:_ ∧ k_ ≠ gb458))) (fun _ hk=>hk.2) (.int .i64 t454)) (fun _ hk=>hk.2) (.int .i64 t455)) (fun _ hk=>hk.2) (.int .i64 t456)) (fun _ h_=>h_.1))) (Kd.R_base ho0) hb);replace BK446:=mk0 (blk_below (g:=gb446) (o:=.cells #[.int .i64 t443,.int .i64 t444,.int .i64 t445] 27 (0,0)) (by (with_reducible repeat (first|apply nB|apply dB|apply aB));refine blk_far ?_ NB446_458.out _;(with_reducible repeat (first|apply nB|apply dB|apply aB));refine blk_far ?_ NB446_458.out _;(with_reducible repeat (first|apply nB|apply dB|apply aB));refine blk_far ?_ NB446_458.out _;(with_reducible repeat (first|apply nB|apply dB|apply aB));exact BK446.out) hb);replace BK458:=mk0 (blk_below (g:=gb458) (o:=.cells #[.int .i64 t454,.int .i64 t455,.int .i64 t456] 27 (0,0)) (by (with_reducible repeat (first|apply nB|apply dB|apply aB));refine blk_put (cs:=#[.int .i64 t454,.int .i64 t455,.int .i64 0]) ?_ 2 _ rfl;(with_reducible repeat (first|apply nB|apply dB|apply aB));refine blk_put (cs:=#[.int .i64 t454,.int .i64 0,.int .i64 0]) ?_ 1 _ rfl;(with_reducible repeat (first|apply nB|apply dB|apply aB));refine blk_put (cs:=#[.int .i64 0,.int .i64 0,.int .i64 0]) ?_ 0 _ rfl;(with_reducible repeat (first|apply nB|apply dB|apply aB));exact BK458.out) hb);replace HB:=mk0 (kS HB.out hb);(try clear hb);(try clear ho0);obtain⟨Ao37,co37,eo37⟩:=Kd.R_slice HO461.out;subst eo37))
  repeat (go_quiet (first|(go_at_call 32;(with_reducible refine (spec_StretchKids.calls k _ _ t440 t443 t444 t445 t459 _ ?side1 ?side2 A31.out).mono ?_);(case side1=>refine (Kd.R_reads' (e:=5) (base:=w.heap.size) (ok:=fun k_=>(True ∧ some k_ ≠ (.slice Ao20 t447.length co20:Value).ownBlock)) (n:=t440.length) (c:=co14) ?_).2.2;exact (by (with_reducible repeat (first|apply aR|apply nR|apply dR));exact (Kd.R_mono (Kd.R_far (p:=⟨gb458,2,none⟩) (Kd.R_far (p:=⟨gb458,1,none⟩) (Kd.R_far (p:=⟨gb458,0,none⟩) (Kd.R_types HO442.out BK458.out (by decide)) (fun _ hk=>hk.2) (.int .i64 t454)) (fun _ hk=>hk.2) (.int .i64 t455)) (fun _ hk=>hk.2) (.int .i64 t456)) (fun _ h_=>h_.1))));(case side2=>exact (Kd.R_reads' HO442.out).2.1);rintro e w36 ⟨v460,rfl,ho0,hb⟩;replace HO442:=mk0 (Kd.R_below (by (with_reducible repeat (first|apply aR|apply nR|apply dR));exact (Kd.R_mono (Kd.R_far (p:=⟨gb458,2,none⟩) (Kd.R_far (p:=⟨gb458,1,none⟩) (Kd.R_far (p:=⟨gb458,0,none⟩) (Kd.R_types HO442.out BK458.out (by decide)) (fun _ hk=>hk.2) (.int .i64 t454)) (fun _ hk=>hk.2) (.int .i64 t455)) (fun _ hk=>hk.2) (.int .i64 t456)) (fun _ h_=>h_.1))) hb);replace HO449:=mk0 (Kd.R_below (by (with_reducible repeat (first|apply aR|apply nR|apply dR));exact (Kd.R_mono (Kd.R_far (p:=⟨gb458,2,none⟩) (Kd.R_far (p:=⟨gb458,1,none⟩) (Kd.R_far (p:=⟨gb458,0,none⟩) (Kd.R_types HO449.out BK458.out (by decide)) (fun _ hk=>hk.2) (.int .i64 t454)) (fun _ hk=>hk.2) (.int .i64 t455)) (fun _ hk=>hk.2) (.int .i64 t456)) (fun _ h_=>h_.1))) hb);have HO461:=mk0 (Kd.R_lower (Kd.R_newB (Kd.R_newB (Kd.R_new' ho0 (Kd.R_lt (by (with_reducible repeat (first|apply aR|apply nR|apply dR));exact (Kd.R_mono (Kd.R_far (p:=⟨gb458,2,none⟩) (Kd.R_far (p:=⟨gb458,1,none⟩) (Kd.R_far (p:=⟨gb458,0,none⟩) (Kd.R_mono HO452.out (fun k_ hk=>(⟨hk,hk.2⟩:_ ∧ k_ ≠ gb458))) (fun _ hk=>hk.2) (.int .i64 t454)) (fun _ hk=>hk.2) (.int .i64 t455)) (fun _ hk=>hk.2) (.int .i64 t456)) (fun _ h_=>h_.1))))) (g:=gb446) (o:=.cells #[.int .i64 t443,.int .i64 t444,.int .i64 t445] 27 (0,0)) (by (with_reducible repeat (first|apply nB|apply dB|apply aB));refine blk_far ?_ NB446_458.out _;(with_reducible repeat (first|apply nB|apply dB|apply aB));refine blk_far ?_ NB446_458.out _;(with_reducible repeat (first|apply nB|apply dB|apply aB));refine blk_far ?_ NB446_458.out _;(with_reducible repeat (first|apply nB|apply dB|apply aB));exact BK446.out)) (g:=gb458) (o:=.cells #[.int .i64 t454,.int .i64 t455,.int .i64 t456] 27 (0,0)) (by (with_reducible repeat (first|apply nB|apply dB|apply aB));refine blk_put (cs:=#[.int .i64 t454,.int .i64 t455,.int .i64 0]) ?_ 2 _ rfl;(with_reducible repeat (first|apply nB|apply dB|apply aB));refine blk_put (cs:=#[.int .i64 t454,.int .i64 0,.int .i64 0]) ?_ 1 _ rfl;(with_reducible repeat (first|apply nB|apply dB|apply aB));refine blk_put (cs:=#[.int .i64 0,.int .i64 0,.int .i64 0]) ?_ 0 _ rfl;(with_reducible repeat (first|apply nB|apply dB|apply aB));exact BK458.out)) (kZ HB.out));replace HO452:=mk0 (Kd.R_elder' (by (with_reducible repeat (first|apply aR|apply nR|apply dR));exact (Kd.R_mono (Kd.R_far (p:=⟨gb458,2,none⟩) (Kd.R_far (p:=⟨gb458,1,none⟩) (Kd.R_far (p:=⟨gb458,0,none⟩) (Kd.R_mono HO452.out (fun k_ hk=>(⟨hk,hk.2⟩:_ ∧ k_ ≠ gb458))) (fun _ hk=>hk.2) (.int .i64 t454)) (fun _ hk=>hk.2) (.int .i64 t455)) (fun _ hk=>hk.2) (.int .i64 t456)) (fun _ h_=>h_.1))) (Kd.R_base ho0) hb);replace BK446:=mk0 (blk_below (g:=gb446) (o:=.cells #[.int .i64 t443,.int .i64 t444,.int .i64 t445] 27 (0,0)) (by (with_reducible repeat (first|apply nB|apply dB|apply aB));refine blk_far ?_ NB446_458.out _;(with_reducible repeat (first|apply nB|apply dB|apply aB));refine blk_far ?_ NB446_458.out _;(with_reducible repeat (first|apply nB|apply dB|apply aB));refine blk_far ?_ NB446_458.out _;(with_reducible repeat (first|apply nB|apply dB|apply aB));exact BK446.out) hb);replace BK458:=mk0 (blk_below (g:=gb458) (o:=.cells #[.int .i64 t454,.int .i64 t455,.int .i64 t456] 27 (0,0)) (by (with_reducible repeat (first|apply nB|apply dB|apply aB));refine blk_put (cs:=#[.int .i64 t454,.int .i64 t455,.int .i64 0]) ?_ 2 _ rfl;(with_reducible repeat (first|apply nB|apply dB|apply aB));refine blk_put (cs:=#[.int .i64 t454,.int .i64 0,.int .i64 0]) ?_ 1 _ rfl;(with_reducible repeat (first|apply nB|apply dB|apply aB));refine blk_put (cs:=#[.int .i64 0,.int .i64 0,.int .i64 0]) ?_ 0 _ rfl;(with_reducible repeat (first|apply nB|apply dB|apply aB));exact BK458.out) hb);replace HB:=mk0 (kS HB.out hb);(try clear hb);(try clear ho0);obtain⟨Ao37,co37,eo37⟩:=Kd.R_slice HO461.out;subst eo37));try go_wp2_with (first|(go_at_call 32;(with_reducible refine (spec_StretchKids.calls k _ _ t440 t443 t444 t445 t459 _ ?side1 ?side2 A31.out).mono ?_);(case side1=>refine (Kd.R_reads' (e:=5) (base:=w.heap.size) (ok:=fun k_=>(True ∧ some k_ ≠ (.slice Ao20 t447.length co20:Value).ownBlock)) (n:=t440.length) (c:=co14) ?_).2.2;exact (by (with_reducible repeat (first|apply aR|apply nR|apply dR));exact (Kd.R_mono (Kd.R_far (p:=⟨gb458,2,none⟩) (Kd.R_far (p:=⟨gb458,1,none⟩) (Kd.R_far (p:=⟨gb458,0,none⟩) (Kd.R_types HO442.out BK458.out (by decide)) (fun _ hk=>hk.2) (.int .i64 t454)) (fun _ hk=>hk.2) (.int .i64 t455)) (fun _ hk=>hk.2) (.int .i64 t456)) (fun _ h_=>h_.1))));(case side2=>exact (Kd.R_reads' HO442.out).2.1);rintro e w36 ⟨v460,rfl,ho0,hb⟩;replace HO442:=mk0 (Kd.R_below (by (with_reducible repeat (first|apply aR|apply nR|apply dR));exact (Kd.R_mono (Kd.R_far (p:=⟨gb458,2,none⟩) (Kd.R_far (p:=⟨gb458,1,none⟩) (Kd.R_far (p:=⟨gb458,0,none⟩) (Kd.R_types HO442.out BK458.out (by decide)) (fun _ hk=>hk.2) (.int .i64 t454)) (fun _ hk=>hk.2) (.int .i64 t455)) (fun _ hk=>hk.2) (.int .i64 t456)) (fun _ h_=>h_.1))) hb);replace HO449:=mk0 (Kd.R_below (by (with_reducible repeat (first|apply aR|apply nR|apply dR));exact (Kd.R_mono (Kd.R_far (p:=⟨gb458,2,none⟩) (Kd.R_far (p:=⟨gb458,1,none⟩) (Kd.R_far (p:=⟨gb458,0,none⟩) (Kd.R_types HO449.out BK458.out (by decide)) (fun _ hk=>hk.2) (.int .i64 t454)) (fun _ hk=>hk.2) (.int .i64 t455)) (fun _ hk=>hk.2) (.int .i64 t456)) (fun _ h_=>h_.1))) hb);have HO461:=mk0 (Kd.R_lower (Kd.R_newB (Kd.R_newB (Kd.R_new' ho0 (Kd.R_lt (by (with_reducible repeat (first|apply aR|apply nR|apply dR));exact (Kd.R_mono (Kd.R_far (p:=⟨gb458,2,none⟩) (Kd.R_far (p:=⟨gb458,1,none⟩) (Kd.R_far (p:=⟨gb458,0,none⟩) (Kd.R_mono HO452.out (fun k_ hk=>(⟨hk,hk.2⟩:_ ∧ k_ ≠ gb458))) (fun _ hk=>hk.2) (.int .i64 t454)) (fun _ hk=>hk.2) (.int .i64 t455)) (fun _ hk=>hk.2) (.int .i64 t456)) (fun _ h_=>h_.1))))) (g:=gb446) (o:=.cells #[.int .i64 t443,.int .i64 t444,.int .i64 t445] 27 (0,0)) (by (with_reducible repeat (first|apply nB|apply dB|apply aB));refine blk_far ?_ NB446_458.out _;(with_reducible repeat (first|apply nB|apply dB|apply aB));refine blk_far ?_ NB446_458.out _;(with_reducible repeat (first|apply nB|apply dB|apply aB));refine blk_far ?_ NB446_458.out _;(with_reducible repeat (first|apply nB|apply dB|apply aB));exact BK446.out)) (g:=gb458) (o:=.cells #[.int .i64 t454,.int .i64 t455,.int .i64 t456] 27 (0,0)) (by (with_reducible repeat (first|apply nB|apply dB|apply aB));refine blk_put (cs:=#[.int .i64 t454,.int .i64 t455,.int .i64 0]) ?_ 2 _ rfl;(with_reducible repeat (first|apply nB|apply dB|apply aB));refine blk_put (cs:=#[.int .i64 t454,.int .i64 0,.int .i64 0]) ?_ 1 _ rfl;(with_reducible repeat (first|apply nB|apply dB|apply aB));refine blk_put (cs:=#[.int .i64 0,.int .i64 0,.int .i64 0]) ?_ 0 _ rfl;(with_reducible repeat (first|apply nB|apply dB|apply aB));exact BK458.out)) (kZ HB.out));replace HO452:=mk0 (Kd.R_elder' (by (with_reducible repeat (first|apply aR|apply nR|apply dR));exact (Kd.R_mono (Kd.R_far (p:=⟨gb458,2,none⟩) (Kd.R_far (p:=⟨gb458,1,none⟩) (Kd.R_far (p:=⟨gb458,0,none⟩) (Kd.R_mono HO452.out (fun k_ hk=>(⟨hk,hk.2⟩:_ ∧ k_ ≠ gb458))) (fun _ hk=>hk.2) (.int .i64 t454)) (fun _ hk=>hk.2) (.int .i64 t455)) (fun _ hk=>hk.2) (.int .i64 t456)) (fun _ h_=>h_.1))) (Kd.R_base ho0) hb);replace BK446:=mk0 (blk_below (g:=gb446) (o:=.cells #[.int .i64 t443,.int .i64 t444,.int .i64 t445] 27 (0,0)) (by (with_reducible repeat (first|apply nB|apply dB|apply aB));refine blk_far ?_ NB446_458.out _;(with_reducible repeat (first|apply nB|apply dB|apply aB));refine blk_far ?_ NB446_458.out _;(with_reducible repeat (first|apply nB|apply dB|apply aB));refine blk_far ?_ NB446_458.out _;(with_reducible repeat (first|apply nB|apply dB|apply aB));exact BK446.out) hb);replace BK458:=mk0 (blk_below (g:=gb458) (o:=.cells #[.int .i64 t454,.int .i64 t455,.int .i64 t456] 27 (0,0)) (by (with_reducible repeat (first|apply nB|apply dB|apply aB));refine blk_put (cs:=#[.int .i64 t454,.int .i64 t455,.int .i64 0]) ?_ 2 _ rfl;(with_reducible repeat (first|apply nB|apply dB|apply aB));refine blk_put (cs:=#[.int .i64 t454,.int .i64 0,.int .i64 0]) ?_ 1 _ rfl;(with_reducible repeat (first|apply nB|apply dB|apply aB));refine blk_put (cs:=#[.int .i64 0,.int .i64 0,.int .i64 0]) ?_ 0 _ rfl;(with_reducible repeat (first|apply nB|apply dB|apply aB));exact BK458.out) hb);replace HB:=mk0 (kS HB.out hb);(try clear hb);(try clear ho0);obtain⟨Ao37,co37,eo37⟩:=Kd.R_slice HO461.out;subst eo37)))
  go_meet
  case rel=>exact⟨_,(((t450.length:Int) != (t459.length:Int))),(by first|rfl|(simp;done)|(simp [*];done)),H',⟨by first|omega|exact Nat.le_refl _⟩,⟨rR (Kd.R_mono HO452.out (fun _ hk=>⟨hk.1.1.2,hk.1.2⟩))⟩,⟨kN BK446.out⟩,⟨kN BK458.out⟩,⟨kB HB.out⟩⟩
 case rest =>
  clear HC10
  try clear c1
  try clear c2
  try clear p2
  try clear c3
  try clear c8
  try clear c10
  try clear c23
  try clear c25
  try clear c26
  try clear c26b0
  try clear c27
  try clear c30
  try clear c30b0
  try clear c30b1
  try clear c32
  try clear c38
  try clear hcz13_0
  try clear hcz13_1
  try clear hcz13_2
  try clear hcz16_0
  try clear hcz16_1
  try clear hcz16_2
  try clear hcz18_0
  try clear hcz18_1
  try clear hcz18_2
  try clear hcz24_0
  try clear hcz24_1
  try clear hcz24_2
  try clear hcz28_0
  try clear hcz28_1
  try clear hcz28_2
  try clear hcz29_0
  try clear hcz29_1
  try clear hcz29_2
  try clear hcz33_0
  try clear hcz33_1
  try clear hcz33_2
  try clear hcz34_0
  try clear hcz34_1
  try clear hcz34_2
  try clear hcz39_0
  try clear hcz39_1
  try clear hcz39_2
  try clear hcz40_0
  try clear hcz40_1
  try clear hcz40_2
  try clear hfz13_0
  try clear hfz13_1
  try clear hfz13_2
  try clear hfz16_0
  try clear hfz16_1
  try clear hfz16_2
  try clear hfz18_0
  try clear hfz18_1
  try clear hfz18_2
  try clear hfz24_0
  try clear hfz24_1
  try clear hfz24_2
  try clear hfz28_0
  try clear hfz28_1
  try clear hfz28_2
  try clear hfz29_0
  try clear hfz29_1
  try clear hfz29_2
  try clear hfz33_0
  try clear hfz33_1
  try clear hfz33_2
  try clear hfz34_0
  try clear hfz34_1
  try clear hfz34_2
  try clear hfz39_0
  try clear hfz39_1
  try clear hfz39_2
  try clear hfz40_0
  try clear hfz40_1
  try clear hfz40_2
  obtain⟨kq,x64_9,rfl,HA,HJ9,HO_6,BK446,BK458,HB⟩:=hcut
  cases kq with
  | zero=>exact absurd HA.out (by simp [laws_FnStretchWords.j0])
  | succ kj9 =>
   have H:=HA.out
   clear HA
   simp only [laws_FnStretchWords.j0] at H
   by_cases c41:x64_9 = true
   ·subst c41
    have H1:(some false) = some r:=by rw [if_pos rfl] at H;exact H
    clear H
    have H:=H1
    clear H1
    obtain rfl:=Option.some.inj H
    go_wp2
    repeat (go_quiet (fail);try go_wp2)
    go_ret
    exact⟨by first|rfl|(simp [errW_none,errW_some] <;> rfl)|(simp [*,errW_none,errW_some] <;> rfl),kB HB.out⟩
   replace c41:=Bool.eq_false_iff.mpr c41
   subst c41
   have H1:(laws_FnStretchWords.l0 kj9 t450 t443 0 t443 t444 t445) = some r:=by rw [if_neg (show ¬ (false = true) by decide)] at H;exact H
   clear H
   have H:=H1
   clear H1
   have H':=mk0 H
   clear H
   have hnb42:=NB446_458.out
   have hnc42:=NB458_446.out
   obtain⟨hcz43_0,hcz43_1,hcz43_2,hfz43_0,hfz43_1,hfz43_2⟩:=cz3 BK446.out
   go_wp2
   repeat (go_quiet (fail);try go_wp2)
   go_loopg [9,10] kj9 (fun kq v9 v10 w'=>∃ (x9_2:Int) (x10_2:Int),v9 = .int .i64 x9_2 ∧ v10 = .int .i64 x10_2 ∧ Aside0 (laws_FnStretchWords.l0 kq t450 x9_2 x10_2 t443 t444 t445 = some r) ∧ Aside0 (kq ≤ kj9) ∧ Aside0 (Kd.R k27 27 w' w.heap.size (fun k_=>k_ ≠ gb446 ∧ k_ ≠ gb458) v451 t450) ∧ Aside0 (w'.heap[gb446]? = some (.cells #[.int .i64 t443,.int .i64 t444,.int .i64 t445] 27 (0,0))) ∧ Aside0 (w'.heap[gb458]? = some (.cells #[.int .i64 t454,.int .i64 t455,.int .i64 t456] 27 (0,0))) ∧ Aside0 (Below w.heap.size w w'))
   case atStart=>exact⟨(t443),(0),(by first|rfl|(simp;done)|(simp [*];done)),(by first|rfl|(simp;done)|(simp [*];done)),H',⟨Nat.le_refl _⟩,⟨rR HO_6.out⟩,⟨kN BK446.out⟩,⟨kN BK458.out⟩,⟨kB HB.out⟩⟩
   case round =>
    clear H'
    try clear c1
    try clear c2
    try clear p2
    try clear c3
    try clear c4
    try clear c8
    try clear c10
    try clear c23
    try clear c25
    try clear c26
    try clear c26b0
    try clear c27
    try clear c30
    try clear c30b0
    try clear c30b1
    try clear c32
    try clear c38
    try clear c41
    try clear c42
    try clear hcz13_0
    try clear hcz13_1
    try clear hcz13_2
    try clear hcz16_0
    try clear hcz16_1
    try clear hcz16_2
    try clear hcz18_0
    try clear hcz18_1
    try clear hcz18_2
    try clear hcz24_0
    try clear hcz24_1
    try clear hcz24_2
    try clear hcz28_0
    try clear hcz28_1
    try clear hcz28_2
    try clear hcz29_0
    try clear hcz29_1
    try clear hcz29_2
    try clear hcz33_0
    try clear hcz33_1
    try clear hcz33_2
    try clear hcz34_0
    try clear hcz34_1
    try clear hcz34_2
    try clear hcz39_0
    try clear hcz39_1
    try clear hcz39_2
    try clear hcz40_0
    try clear hcz40_1
    try clear hcz40_2
    try clear hcz43_0
    try clear hcz43_1
    try clear hcz43_2
    try clear hfz13_0
    try clear hfz13_1
    try clear hfz13_2
    try clear hfz16_0
    try clear hfz16_1
    try clear hfz16_2
    try clear hfz18_0
    try clear hfz18_1
    try clear hfz18_2
    try clear hfz24_0
    try clear hfz24_1
    try clear hfz24_2
    try clear hfz28_0
    try clear hfz28_1
    try clear hfz28_2
    try clear hfz29_0
    try clear hfz29_1
    try clear hfz29_2
    try clear hfz33_0
    try clear hfz33_1
    try clear hfz33_2
    try clear hfz34_0
    try clear hfz34_1
    try clear hfz34_2
    try clear hfz39_0
    try clear hfz39_1
    try clear hfz39_2
    try clear hfz40_0
    try clear hfz40_1
    try clear hfz40_2
    try clear hfz43_0
    try clear hfz43_1
    try clear hfz43_2
    try clear p2
    obtain⟨x9_2,x10_2,rfl,rfl,HA,HK2,HO_6,BK446,BK458,HB⟩:=hrel
    cases gk with
    | zero=>exact absurd HA.out (by simp [laws_FnStretchWords.l0])
    | succ k2 =>
     have H:=HA.out
     clear HA
     simp only [laws_FnStretchWords.l0] at H
     by_cases c44:x10_2 < (t450.length:Int)
     rotate_left
     ·rw [if_neg c44] at H
      have c44b0:decide (x10_2 < (t450.length:Int)) = false:=decide_eq_false c44
      clear c44
      obtain rfl:=Option.some.inj H
      obtain⟨Ao57,co57,eo57⟩:=Kd.R_slice HO_6.out
      subst eo57
      go_wp2
      repeat (go_quiet (fail);try go_wp2)
      go_ret
      exact⟨by first|rfl|(simp [errW_none,errW_some] <;> rfl)|(simp [*,errW_none,errW_some] <;> rfl),kB HB.out⟩
     rw [if_pos c44] at H
     have c44b0:decide (x10_2 < (t450.length:Int)) = true:=decide_eq_true c44
     clear c44
     have HC45:=mk0 H
     clear H
     obtain⟨Ao46,co46,eo46⟩:=Kd.R_slice HO_6.out
     subst eo46
     go_upto_region 15 with (fail)
     repeat (go_quiet (fail);go_upto_region 15 with (fail))
     go_cut [99] (fun v99 wc=>∃ (kq:Nat) (x99_44:Bool),v99 = .bool x99_44 ∧ Aside0 (laws_FnStretchWords.j2 kq t450 x10_2 x99_44 t443 t444 t445 = some r) ∧ Aside0 (kq ≤ k2) ∧ Aside0 (Kd.R k27 27 wc w.heap.size (fun k_=>k_ ≠ gb446 ∧ k_ ≠ gb458) (.slice Ao46 t450.length co46) t450) ∧ Aside0 (wc.heap[gb446]? = some (.cells #[.int .i64 t443,.int .i64 t444,.int .i64 t445] 27 (0,0))) ∧ Aside0 (wc.heap[gb458]? = some (.cells #[.int .i64 t454,.int .i64 t455,.int .i64 t456] 27 (0,0))) ∧ Aside0 (Below w.heap.size w wc))
     case first =>
      have H:=HC45.out
      clear HC45
      by_cases c47:0 ≤ x10_2
      rotate_left
      ·rw [if_neg c47] at H
       exact absurd H (by simp)
      rw [if_pos c47] at H
      have c47b0:decide (0 ≤ x10_2) = true:=decide_eq_true c47
      clear c47
      (first|rw [c47b0]|(simp only [i64_w,i32_w];rw [c47b0])|skip)
      by_cases c48:((rd_T27 t450 x10_2).f0) < x9_2
      ·rw [if_pos c48] at H
       have c48b0:decide (((rd_T27 t450 x10_2).f0) < x9_2) = true:=decide_eq_true c48
       clear c48
       have H':=mk0 H
       clear H
       have p462:0 ≤ (x10_2:Int):=of_decide_eq_true (by first|(with_reducible assumption)|assumption)
       have q462:x10_2 < (t450.length:Int):=of_decide_eq_true (by first|(with_reducible assumption)|assumption)
       obtain⟨ad462,e462,hx462_0,hx462_1,hx462_2⟩:=at_T27 (Kd.R_reads' HO_6.out).2.2 x10_2 p462 q462
       cases e462
       replace p462:=eq_true p462
       replace q462:=eq_true q462
       go_wp2
       repeat (go_quiet (fail);try go_wp2)
       go_meet
       case rel=>exact⟨_,(true),(by first|rfl|(simp;done)|(simp [*];done)),H',⟨by have:=HJ9.out;have:=HK2.out;first|omega|exact Nat.le_refl _⟩,⟨rR HO_6.out⟩,⟨kN BK446.out⟩,⟨kN BK458.out⟩,⟨kB HB.out⟩⟩
      rw [if_neg c48] at H
      have c48b0:decide (((rd_T27 t450 x10_2).f0) < x9_2) = false:=decide_eq_false c48
      clear c48
      by_cases c49:((rd_T27 t450 x10_2).f1) > t444
      ·rw [if_pos c49] at H
       have c49b0:decide (t444 < ((rd_T27 t450 x10_2).f1)) = true:=decide_eq_true c49
       clear c49
       have H':=mk0 H
       clear H
       have p462:0 ≤ (x10_2:Int):=of_decide_eq_true (by first|(with_reducible assumption)|assumption)
       have q462:x10_2 < (t450.length:Int):=of_decide_eq_true (by first|(with_reducible assumption)|assumption)
       obtain⟨ad462,e462,hx462_0,hx462_1,hx462_2⟩:=at_T27 (Kd.R_reads' HO_6.out).2.2 x10_2 p462 q462
       cases e462
       replace p462:=eq_true p462
       replace q462:=eq_true q462
       have p463:0 ≤ (x10_2:Int):=of_decide_eq_true (by first|(with_reducible assumption)|assumption)
       have q463:x10_2 < (t450.length:Int):=of_decide_eq_true (by first|(with_reducible assumption)|assumption)
       obtain⟨ad463,e463,hx463_0,hx463_1,hx463_2⟩:=at_T27 (Kd.R_reads' HO_6.out).2.2 x10_2 p463 q463
       obtain rfl:ad462 = ad463:=(by injection e463)
       replace p463:=eq_true p463
       replace q463:=eq_true q463
       have hnb50:=NB446_458.out
       have hnc50:=NB458_446.out
       obtain⟨hcz51_0,hcz51_1,hcz51_2,hfz51_0,hfz51_1,hfz51_2⟩:=cz3 BK446.out
       go_wp2
       repeat (go_quiet (fail);try go_wp2)
       go_meet
       case rel=>exact⟨_,(true),(by first|rfl|(simp;done)|(simp [*];done)),H',⟨by have:=HJ9.out;have:=HK2.out;first|omega|exact Nat.le_refl _⟩,⟨rR HO_6.out⟩,⟨kN BK446.out⟩,⟨kN BK458.out⟩,⟨kB HB.out⟩⟩
      rw [if_neg c49] at H
      have c49b0:decide (t444 < ((rd_T27 t450 x10_2).f1)) = false:=decide_eq_false c49
      clear c49
      have H':=mk0 H
      clear H
      have p462:0 ≤ (x10_2:Int):=of_decide_eq_true (by first|(with_reducible assumption)|assumption)
      have q462:x10_2 < (t450.length:Int):=of_decide_eq_true (by first|(with_reducible assumption)|assumption)
      obtain⟨ad462,e462,hx462_0,hx462_1,hx462_2⟩:=at_T27 (Kd.R_reads' HO_6.out).2.2 x10_2 p462 q462
      cases e462
      replace p462:=eq_true p462
      replace q462:=eq_true q462
      have p463:0 ≤ (x10_2:Int):=of_decide_eq_true (by first|(with_reducible assumption)|assumption)
      have q463:x10_2 < (t450.length:Int):=of_decide_eq_true (by first|(with_reducible assumption)|assumption)
      obtain⟨ad463,e463,hx463_0,hx463_1,hx463_2⟩:=at_T27 (Kd.R_reads' HO_6.out).2.2 x10_2 p463 q463
      obtain rfl:ad462 = ad463:=(by injection e463)
      replace p463:=eq_true p463
      replace q463:=eq_true q463
      have hnb52:=NB446_458.out
      have hnc52:=NB458_446.out
      obtain⟨hcz53_0,hcz53_1,hcz53_2,hfz53_0,hfz53_1,hfz53_2⟩:=cz3 BK446.out
      have p464:0 ≤ (x10_2:Int):=of_decide_eq_true (by first|(with_reducible assumption)|assumption)
      have q464:x10_2 < (t450.length:Int):=of_decide_eq_true (by first|(with_reducible assumption)|assumption)
      obtain⟨ad464,e464,hx464_0,hx464_1,hx464_2⟩:=at_T27 (Kd.R_reads' HO_6.out).2.2 x10_2 p464 q464
      obtain rfl:ad462 = ad464:=(by injection e464)
      replace p464:=eq_true p464
      replace q464:=eq_true q464
      go_wp2
      repeat (go_quiet (fail);try go_wp2)
      go_meet
      case rel=>exact⟨_,(decide (((rd_T27 t450 x10_2).f2) ≤ t445)),(by first|rfl|(simp;done)|(simp [*];done)),H',⟨by have:=HJ9.out;have:=HK2.out;first|omega|exact Nat.le_refl _⟩,⟨rR HO_6.out⟩,⟨kN BK446.out⟩,⟨kN BK458.out⟩,⟨kB HB.out⟩⟩
     case rest =>
      clear HC45
      try clear c1
      try clear c2
      try clear p2
      try clear c3
      try clear c4
      try clear p4
      try clear q4
      try clear hx4
      try clear c5
      try clear c8
      try clear c10
      try clear c23
      try clear c25
      try clear c26
      try clear c26b0
      try clear c27
      try clear c30
      try clear c30b0
      try clear c30b1
      try clear c32
      try clear c38
      try clear c41
      try clear c42
      try clear c44
      try clear c44b0
      try clear p46
      try clear q46
      try clear hx46
      try clear c47
      try clear c47b0
      try clear c48
      try clear c48b0
      try clear c49
      try clear c49b0
      try clear c50
      try clear c52
      try clear hcz13_0
      try clear hcz13_1
      try clear hcz13_2
      try clear hcz16_0
      try clear hcz16_1
      try clear hcz16_2
      try clear hcz18_0
      try clear hcz18_1
      try clear hcz18_2
      try clear hcz24_0
      try clear hcz24_1
      try clear hcz24_2
      try clear hcz28_0
      try clear hcz28_1
      try clear hcz28_2
      try clear hcz29_0
      try clear hcz29_1
      try clear hcz29_2
      try clear hcz33_0
      try clear hcz33_1
      try clear hcz33_2
      try clear hcz34_0
      try clear hcz34_1
      try clear hcz34_2
      try clear hcz39_0
      try clear hcz39_1
      try clear hcz39_2
      try clear hcz40_0
      try clear hcz40_1
      try clear hcz40_2
      try clear hcz43_0
      try clear hcz43_1
      try clear hcz43_2
      try clear hcz51_0
      try clear hcz51_1
      try clear hcz51_2
      try clear hcz53_0
      try clear hcz53_1
      try clear hcz53_2
      try clear hfz13_0
      try clear hfz13_1
      try clear hfz13_2
      try clear hfz16_0
      try clear hfz16_1
      try clear hfz16_2
      try clear hfz18_0
      try clear hfz18_1
      try clear hfz18_2
      try clear hfz24_0
      try clear hfz24_1
      try clear hfz24_2
      try clear hfz28_0
      try clear hfz28_1
      try clear hfz28_2
      try clear hfz29_0
      try clear hfz29_1
      try clear hfz29_2
      try clear hfz33_0
      try clear hfz33_1
      try clear hfz33_2
      try clear hfz34_0
      try clear hfz34_1
      try clear hfz34_2
      try clear hfz39_0
      try clear hfz39_1
      try clear hfz39_2
      try clear hfz40_0
      try clear hfz40_1
      try clear hfz40_2
      try clear hfz43_0
      try clear hfz43_1
      try clear hfz43_2
      try clear hfz51_0
      try clear hfz51_1
      try clear hfz51_2
      try clear hfz53_0
      try clear hfz53_1
      try clear hfz53_2
      try clear hx462_0
      try clear hx462_1
      try clear hx462_2
      try clear hx463_0
      try clear hx463_1
      try clear hx463_2
      try clear hx464_0
      try clear hx464_1
      try clear hx464_2
      try clear p2
      try clear p462
      try clear p463
      try clear p464
      try clear q462
      try clear q463
      try clear q464
      obtain⟨kq,x99_44,rfl,HA,HJ44,HO_6,BK446,BK458,HB⟩:=hcut
      cases kq with
      | zero=>exact absurd HA.out (by simp [laws_FnStretchWords.j2])
      | succ kj44 =>
       have H:=HA.out
       clear HA
       simp only [laws_FnStretchWords.j2] at H
       by_cases c54:x99_44 = true
       ·subst c54
        have H1:(some false) = some r:=by rw [if_pos rfl] at H;exact H
        clear H
        have H:=H1
        clear H1
        obtain rfl:=Option.some.inj H
        go_wp2
        repeat (go_quiet (fail);try go_wp2)
        go_ret
        exact⟨by first|rfl|(simp [errW_none,errW_some] <;> rfl)|(simp [*,errW_none,errW_some] <;> rfl),kB HB.out⟩
       replace c54:=Bool.eq_false_iff.mpr c54
       subst c54
       have H1:(if 0 ≤ x10_2 then (if x10_2 < (t450.length:Int) then (laws_FnStretchWords.l0 kj44 t450 ((rd_T27 t450 x10_2).f1) (wrap64 (x10_2 + 1)) t443 t444 t445) else (none)) else (none)) = some r:=by rw [if_neg (show ¬ (false = true) by decide)] at H;exact H
       clear H
       have H:=H1
       clear H1
       by_cases c55:0 ≤ x10_2
       rotate_left
       ·rw [if_neg c55] at H
        exact absurd H (by simp)
       rw [if_pos c55] at H
       have c55b0:decide (0 ≤ x10_2) = true:=decide_eq_true c55
       clear c55
       by_cases c56:x10_2 < (t450.length:Int)
       rotate_left
       ·rw [if_neg c56] at H
        exact absurd H (by simp)
       rw [if_pos c56] at H
       have c56b0:decide (x10_2 < (t450.length:Int)) = true:=decide_eq_true c56
       clear c56
       have H':=mk0 H
       clear H
       have p465:0 ≤ (x10_2:Int):=of_decide_eq_true (by first|(with_reducible assumption)|assumption)
       have q465:x10_2 < (t450.length:Int):=of_decide_eq_true (by first|(with_reducible assumption)|assumption)
       obtain⟨ad465,e465,hx465_0,hx465_1,hx465_2⟩:=at_T27 (Kd.R_reads' HO_6.out).2.2 x10_2 p465 q465
       cases e465
       replace p465:=eq_true p465
       replace q465:=eq_true q465
       go_wp2
       repeat (go_quiet (fail);try go_wp2)
       go_roundg kj44
       case measure=>have:=HJ9.out;have:=HK2.out;have:=HJ44.out;omega
       case rel=>exact⟨((rd_T27 t450 x10_2).f1),(wrap64 (x10_2 + 1)),(by first|rfl|(simp;done)|(simp [*];done)),(by first|rfl|(simp;done)|(simp [*];done)),H',⟨by have:=HJ9.out;have:=HK2.out;have:=HJ44.out;omega⟩,⟨rR HO_6.out⟩,⟨kN BK446.out⟩,⟨kN BK458.out⟩,⟨kB HB.out⟩⟩
/-- THE ONE PURE STATEMENT of laws_FnStretchWords: yours. -/
def laws_FnStretchWords.Pure : Prop := ∀ (l0 : List Int), l0.length ≤ maxLen → l0.length * 1 ≤ 140737488351232 → (∀ x ∈ l0, (Lit.int .u8 x).wf = true) → ∃ k, laws_FnStretchWords.f k l0 = some true
theorem laws_FnStretchWords.walk (P : laws_FnStretchWords.Pure) (a0 : Option Addr) (len0 cap0 : Nat) (z0 : List Int) (w : World) (w0 : (a0 = none ∧ len0 = 0 ∧ cap0 = 0 ∧ z0 = []) ∨ ∃ x, a0 = some x ∧ len0 ≤ cap0 ∧ cap0 ≤ maxLen ∧ z0.length = cap0 ∧ (∀ i, i < z0.length → w.cell? (x.add i) = some (.int .u8 (z0.getD i 0))) ∧ ∀ n ∈ z0, (Lit.int .u8 n).wf = true) (y0 : len0 * 1 ≤ 140737488351232) :
    Calls Try.prog 10 #[.slice a0 len0 cap0] w fun e w' => e = .returned (.bool true) ∧ Below w.heap.size w w' := by
  obtain ⟨l0, rfl, hr0, hm0, hw0, hc0⟩ := ReadsInt.ofRowC w0
  obtain ⟨k, h⟩ := P l0 hm0 y0 hw0
  refine (laws_FnStretchWords.calls k _ _ l0 true w (Kd.C_of_reads (d := (0 : Int)) (h1 := fun _ => rfl) hr0) hc0 h).mono ?_
  rintro e w' ⟨rfl, hd⟩
  exact ⟨rfl, hd⟩

end Go.Proofs.Ytoinagnieobbpaa.QFnStretchWords
