-- A walk, made by walk.py, a program of this session's.
import Derived.Test.YtgjmmegmkdklbaaQFnPrefixx0
import Derived.Test.YtgjmmegmkdklbaaQFnPrefixx1
import Derived.Test.YtgjmmegmkdklbaaQFnPrefixx3
import Derived.Test.YtgjmmegmkdklbaaQFnPrefixx4
import Derived.Test.YtgjmmegmkdklbaaQFnPrefixx5
namespace Go.Proofs.Ytgjmmegmkdklbaa.QFnPrefix
open Go.RowKit Go.Proofs.YtgjmmegmkdklbaaW.PrintWords Go.Proofs.YtgjmmegmkdklbaaW.PrintLast Go.Proofs.YtgjmmegmkdklbaaW.PrintMore
attribute [local go_sem] max2_int min2_int max_two min_two max_three min_three max_four min_four   -- for this text's walks alone
set_option linter.unusedVariables false
set_option linter.unusedSimpArgs false

/-! ### laws_FnPrefix: function 3 -/
mutual
def laws_FnPrefix.l0 : Nat → Int → List Int → List Int → Option (Bool)
 | 0, _, _, _ => none
 | k + 1, x5, x12, x14 => if x5 < (x12.length : Int) then (laws_FnPrefix.j1 k x12 x14 x5 (decide (x5 < 60))) else (laws_FnPrefix.j1 k x12 x14 x5 false)
def laws_FnPrefix.j1 : Nat → List Int → List Int → Int → Bool → Option (Bool)
 | 0, _, _, _, _ => none
 | k + 1, x3, x4, x5, x33 => if x33 = true then (laws_FnPrefix.l1 k x3 x4 x5 0) else (some true)
def laws_FnPrefix.l1 : Nat → List Int → List Int → Int → Int → Option (Bool)
 | 0, _, _, _, _ => none
 | k + 1, x3, x4, x5, x6 => if x6 < (x3.length : Int) then (laws_FnPrefix.j3 k x3 x4 x5 x6 (decide (x6 < 60))) else (laws_FnPrefix.j3 k x3 x4 x5 x6 false)
def laws_FnPrefix.j3 : Nat → List Int → List Int → Int → Int → Bool → Option (Bool)
 | 0, _, _, _, _, _ => none
 | k + 1, x3, x4, x5, x6, x43 => if x43 = true then (if x5 = x6 then (laws_FnPrefix.j4 k x3 x4 x5 x6 true) else (if 0 ≤ x5 then (if x5 < (x3.length : Int) then (if (rd x3 x5) = 0 then (laws_FnPrefix.j4 k x3 x4 x5 x6 true) else (if 0 ≤ x6 then (if x6 < (x3.length : Int) then (laws_FnPrefix.j4 k x3 x4 x5 x6 (decide ((rd x3 x6) < (rd x3 x5)))) else (none)) else (none))) else (none)) else (none))) else (laws_FnPrefix.l0 k (wrap64 (x5 + 1)) x3 x4)
def laws_FnPrefix.j4 : Nat → List Int → List Int → Int → Int → Bool → Option (Bool)
 | 0, _, _, _, _, _ => none
 | k + 1, x3, x4, x5, x6, x66 => if x66 = true then (laws_FnPrefix.l1 k x3 x4 x5 (wrap64 (x6 + 1))) else (if 0 ≤ x6 then (if x6 < (x4.length : Int) then (if 0 ≤ x5 then (if x5 < (x3.length : Int) then (laws_FnPrefix.l2 k x3 x4 x5 x6 (rd x4 x6) (rd x3 x5)) else (none)) else (none)) else (none)) else (none))
def laws_FnPrefix.l2 : Nat → List Int → List Int → Int → Int → Int → Int → Option (Bool)
 | 0, _, _, _, _, _, _ => none
 | k + 1, x3, x4, x5, x6, x7, x8 => if 0 ≤ x6 then (if x6 < (x3.length : Int) then (if x8 < (rd x3 x6) then (laws_FnPrefix.l2 k x3 x4 x5 x6 (wrap64 (Int.tdiv x7 2)) (wrap64 (x8 + 1))) else (if 0 ≤ x5 then (if x5 < (x4.length : Int) then (if x7 = (rd x4 x5) then (some false) else (laws_FnPrefix.l1 k x3 x4 x5 (wrap64 (x6 + 1)))) else (none)) else (none))) else (none)) else (none)
end
def laws_FnPrefix.f (k : Nat) (l0 : List Int) : Option (Bool) := (laws_big.f l0).bind fun t322 => (if t322 = true then (some true) else ((spec_DrawHuffCodes.f k l0).bind fun t323 => ((impl_HuffCodes.f k t323).bind fun t326 => ((spec_HuffOk.f k t323).bind fun t329 => (if t329 = true then (if (t326.length : Int) = (t323.length : Int) then (laws_FnPrefix.l0 k 0 t323 t326) else (some false)) else (some ((t326.length : Int) == 0)))))))
theorem laws_FnPrefix.mono_l : ∀ k, (∀ y0 y1 y2, LeO (laws_FnPrefix.l0 k y0 y1 y2) (laws_FnPrefix.l0 (k + 1) y0 y1 y2)) ∧ (∀ y0 y1 y2 y3, LeO (laws_FnPrefix.j1 k y0 y1 y2 y3) (laws_FnPrefix.j1 (k + 1) y0 y1 y2 y3)) ∧ (∀ y0 y1 y2 y3, LeO (laws_FnPrefix.l1 k y0 y1 y2 y3) (laws_FnPrefix.l1 (k + 1) y0 y1 y2 y3)) ∧ (∀ y0 y1 y2 y3 y4, LeO (laws_FnPrefix.j3 k y0 y1 y2 y3 y4) (laws_FnPrefix.j3 (k + 1) y0 y1 y2 y3 y4)) ∧ (∀ y0 y1 y2 y3 y4, LeO (laws_FnPrefix.j4 k y0 y1 y2 y3 y4) (laws_FnPrefix.j4 (k + 1) y0 y1 y2 y3 y4)) ∧ (∀ y0 y1 y2 y3 y4 y5, LeO (laws_FnPrefix.l2 k y0 y1 y2 y3 y4 y5) (laws_FnPrefix.l2 (k + 1) y0 y1 y2 y3 y4 y5))
 | 0 => ⟨fun _ _ _ r h => by simp [laws_FnPrefix.l0] at h, fun _ _ _ _ r h => by simp [laws_FnPrefix.j1] at h, fun _ _ _ _ r h => by simp [laws_FnPrefix.l1] at h, fun _ _ _ _ _ r h => by simp [laws_FnPrefix.j3] at h, fun _ _ _ _ _ r h => by simp [laws_FnPrefix.j4] at h, fun _ _ _ _ _ _ r h => by simp [laws_FnPrefix.l2] at h⟩
 | k + 1 => by
  obtain ⟨ih0, ih1, ih2, ih3, ih4, ih5⟩ := laws_FnPrefix.mono_l k
  refine ⟨?_, ?_, ?_, ?_, ?_, ?_⟩
  ·intro y0 y1 y2
   unfold laws_FnPrefix.l0
   repeat' first|(with_reducible first|exact ih0 _ _ _|exact ih1 _ _ _ _|exact ih2 _ _ _ _|exact ih3 _ _ _ _ _|exact ih4 _ _ _ _ _|exact ih5 _ _ _ _ _ _|exact impl_HuffCodes.mono _ _|exact spec_DrawHuffCodes.mono _ _|exact spec_HuffOk.mono _ _|exact LeO.refl _|exact LeO.none _|refine LeO.ite ?_ ?_|refine LeO.bind ?_ (fun _ => ?_))|exact LeO.none _|refine LeO.ite ?_ ?_|refine LeO.bind ?_ (fun _ => ?_)
  ·intro y0 y1 y2 y3
   unfold laws_FnPrefix.j1
   repeat' first|(with_reducible first|exact ih0 _ _ _|exact ih1 _ _ _ _|exact ih2 _ _ _ _|exact ih3 _ _ _ _ _|exact ih4 _ _ _ _ _|exact ih5 _ _ _ _ _ _|exact impl_HuffCodes.mono _ _|exact spec_DrawHuffCodes.mono _ _|exact spec_HuffOk.mono _ _|exact LeO.refl _|exact LeO.none _|refine LeO.ite ?_ ?_|refine LeO.bind ?_ (fun _ => ?_))|exact LeO.none _|refine LeO.ite ?_ ?_|refine LeO.bind ?_ (fun _ => ?_)
  ·intro y0 y1 y2 y3
   unfold laws_FnPrefix.l1
   repeat' first|(with_reducible first|exact ih0 _ _ _|exact ih1 _ _ _ _|exact ih2 _ _ _ _|exact ih3 _ _ _ _ _|exact ih4 _ _ _ _ _|exact ih5 _ _ _ _ _ _|exact impl_HuffCodes.mono _ _|exact spec_DrawHuffCodes.mono _ _|exact spec_HuffOk.mono _ _|exact LeO.refl _|exact LeO.none _|refine LeO.ite ?_ ?_|refine LeO.bind ?_ (fun _ => ?_))|exact LeO.none _|refine LeO.ite ?_ ?_|refine LeO.bind ?_ (fun _ => ?_)
  ·intro y0 y1 y2 y3 y4
   unfold laws_FnPrefix.j3
   repeat' first|(with_reducible first|exact ih0 _ _ _|exact ih1 _ _ _ _|exact ih2 _ _ _ _|exact ih3 _ _ _ _ _|exact ih4 _ _ _ _ _|exact ih5 _ _ _ _ _ _|exact impl_HuffCodes.mono _ _|exact spec_DrawHuffCodes.mono _ _|exact spec_HuffOk.mono _ _|exact LeO.refl _|exact LeO.none _|refine LeO.ite ?_ ?_|refine LeO.bind ?_ (fun _ => ?_))|exact LeO.none _|refine LeO.ite ?_ ?_|refine LeO.bind ?_ (fun _ => ?_)
  ·intro y0 y1 y2 y3 y4
   unfold laws_FnPrefix.j4
   repeat' first|(with_reducible first|exact ih0 _ _ _|exact ih1 _ _ _ _|exact ih2 _ _ _ _|exact ih3 _ _ _ _ _|exact ih4 _ _ _ _ _|exact ih5 _ _ _ _ _ _|exact impl_HuffCodes.mono _ _|exact spec_DrawHuffCodes.mono _ _|exact spec_HuffOk.mono _ _|exact LeO.refl _|exact LeO.none _|refine LeO.ite ?_ ?_|refine LeO.bind ?_ (fun _ => ?_))|exact LeO.none _|refine LeO.ite ?_ ?_|refine LeO.bind ?_ (fun _ => ?_)
  ·intro y0 y1 y2 y3 y4 y5
   unfold laws_FnPrefix.l2
   repeat' first|(with_reducible first|exact ih0 _ _ _|exact ih1 _ _ _ _|exact ih2 _ _ _ _|exact ih3 _ _ _ _ _|exact ih4 _ _ _ _ _|exact ih5 _ _ _ _ _ _|exact impl_HuffCodes.mono _ _|exact spec_DrawHuffCodes.mono _ _|exact spec_HuffOk.mono _ _|exact LeO.refl _|exact LeO.none _|refine LeO.ite ?_ ?_|refine LeO.bind ?_ (fun _ => ?_))|exact LeO.none _|refine LeO.ite ?_ ?_|refine LeO.bind ?_ (fun _ => ?_)
theorem laws_FnPrefix.mono : ∀ a0 k, LeO (laws_FnPrefix.f k a0) (laws_FnPrefix.f (k + 1) a0) := by
 intro a0 k
 obtain ⟨ih0, ih1, ih2, ih3, ih4, ih5⟩ := laws_FnPrefix.mono_l k
 unfold laws_FnPrefix.f
 repeat' first|(with_reducible first|exact ih0 _ _ _|exact ih1 _ _ _ _|exact ih2 _ _ _ _|exact ih3 _ _ _ _ _|exact ih4 _ _ _ _ _|exact ih5 _ _ _ _ _ _|exact impl_HuffCodes.mono _ _|exact spec_DrawHuffCodes.mono _ _|exact spec_HuffOk.mono _ _|exact LeO.refl _|exact LeO.none _|refine LeO.ite ?_ ?_|refine LeO.bind ?_ (fun _ => ?_))|exact LeO.none _|refine LeO.ite ?_ ?_|refine LeO.bind ?_ (fun _ => ?_)
set_option maxHeartbeats 8000000 in
set_option maxRecDepth 100000 in
theorem laws_FnPrefix.calls (k : Nat) (A0 : Option Addr) (c0 : Nat) (l0 : List Int) (r : Bool) (w : World) (hr0 : Kd.C (Kd.int .u8) w A0 l0.length l0) (hc0 : l0.length ≤ c0) (h : laws_FnPrefix.f k l0 = some r) :
  Calls Try.prog 3 #[.slice A0 l0.length c0] w fun e w' => e = .returned (.bool r) ∧ Below w.heap.size w w' := by
 have HR0:=mk0 hr0
 have HC0:=mk0 hc0
 clear hr0 hc0
 have HB:=mk0 (Below.refl w.heap.size w)
 have H:((laws_big.f l0).bind fun t322=>(if t322 = true then (some true) else ((spec_DrawHuffCodes.f k l0).bind fun t323=>((impl_HuffCodes.f k t323).bind fun t326=>((spec_HuffOk.f k t323).bind fun t329=>(if t329 = true then (if (t326.length:Int) = (t323.length:Int) then (laws_FnPrefix.l0 k 0 t323 t326) else (some false)) else (some ((t326.length:Int) == 0)))))))) = some r:=h
 clear h
 replace H:=Option.bind_eq_some_iff.mp H
 obtain⟨t322,A20,H⟩:=H
 replace H:(if t322 = true then (some true) else ((spec_DrawHuffCodes.f k l0).bind fun t323=>((impl_HuffCodes.f k t323).bind fun t326=>((spec_HuffOk.f k t323).bind fun t329=>(if t329 = true then (if (t326.length:Int) = (t323.length:Int) then (laws_FnPrefix.l0 k 0 t323 t326) else (some false)) else (some ((t326.length:Int) == 0))))))) = some r:=H
 have A2:=mk0 A20
 clear A20
 by_cases c3:t322 = true
 ·subst c3
  have H1:(some true) = some r:=by rw [if_pos rfl] at H;exact H
  clear H
  have H:=H1
  clear H1
  obtain rfl:=Option.some.inj H
  go_enter Try.func3,Try.ntmps3
  go_wp2_with (first|(go_at_call 8;(with_reducible refine (laws_big.calls _ _ l0 true _ ?side1 ?side2 A2.out).mono ?_);(case side1=>repeat (first|exact HR0.out|(with_reducible first|apply aC|apply nC|apply dC)));(case side2=>exact HC0.out);rintro e w' ⟨rfl,⟨nd,rfl⟩⟩;(try first|exact⟨rfl,_,World.drewN_drewN _ _ _⟩|exact⟨rfl,_,Eq.trans (World.drewN_drewN _ _ _) (congrArg (World.drewN _) (Nat.add_assoc _ _ _))⟩)))
  repeat (go_quiet (first|(go_at_call 8;(with_reducible refine (laws_big.calls _ _ l0 true _ ?side1 ?side2 A2.out).mono ?_);(case side1=>repeat (first|exact HR0.out|(with_reducible first|apply aC|apply nC|apply dC)));(case side2=>exact HC0.out);rintro e w' ⟨rfl,⟨nd,rfl⟩⟩;(try first|exact⟨rfl,_,World.drewN_drewN _ _ _⟩|exact⟨rfl,_,Eq.trans (World.drewN_drewN _ _ _) (congrArg (World.drewN _) (Nat.add_assoc _ _ _))⟩)));try go_wp2_with (first|(go_at_call 8;(with_reducible refine (laws_big.calls _ _ l0 true _ ?side1 ?side2 A2.out).mono ?_);(case side1=>repeat (first|exact HR0.out|(with_reducible first|apply aC|apply nC|apply dC)));(case side2=>exact HC0.out);rintro e w' ⟨rfl,⟨nd,rfl⟩⟩;(try first|exact⟨rfl,_,World.drewN_drewN _ _ _⟩|exact⟨rfl,_,Eq.trans (World.drewN_drewN _ _ _) (congrArg (World.drewN _) (Nat.add_assoc _ _ _))⟩))))
  go_ret
  exact⟨by first|rfl|(simp [errW_none,errW_some] <;> rfl)|(simp [*,errW_none,errW_some] <;> rfl),kB HB.out⟩
 replace c3:=Bool.eq_false_iff.mpr c3
 subst c3
 have H1:((spec_DrawHuffCodes.f k l0).bind fun t323=>((impl_HuffCodes.f k t323).bind fun t326=>((spec_HuffOk.f k t323).bind fun t329=>(if t329 = true then (if (t326.length:Int) = (t323.length:Int) then (laws_FnPrefix.l0 k 0 t323 t326) else (some false)) else (some ((t326.length:Int) == 0)))))) = some r:=by rw [if_neg (show ¬ (false = true) by decide)] at H;exact H
 clear H
 have H:=H1
 clear H1
 replace H:=Option.bind_eq_some_iff.mp H
 obtain⟨t323,A40,H⟩:=H
 replace H:((impl_HuffCodes.f k t323).bind fun t326=>((spec_HuffOk.f k t323).bind fun t329=>(if t329 = true then (if (t326.length:Int) = (t323.length:Int) then (laws_FnPrefix.l0 k 0 t323 t326) else (some false)) else (some ((t326.length:Int) == 0))))) = some r:=H
 have A4:=mk0 A40
 clear A40
 replace H:=Option.bind_eq_some_iff.mp H
 obtain⟨t326,A50,H⟩:=H
 replace H:((spec_HuffOk.f k t323).bind fun t329=>(if t329 = true then (if (t326.length:Int) = (t323.length:Int) then (laws_FnPrefix.l0 k 0 t323 t326) else (some false)) else (some ((t326.length:Int) == 0)))) = some r:=H
 have A5:=mk0 A50
 clear A50
 replace H:=Option.bind_eq_some_iff.mp H
 obtain⟨t329,A60,H⟩:=H
 replace H:(if t329 = true then (if (t326.length:Int) = (t323.length:Int) then (laws_FnPrefix.l0 k 0 t323 t326) else (some false)) else (some ((t326.length:Int) == 0))) = some r:=H
 have A6:=mk0 A60
 clear A60
 by_cases c7:t329 = true
 rotate_left
 ·replace c7:=Bool.eq_false_iff.mpr c7
  subst c7
  have H1:(some ((t326.length:Int) == 0)) = some r:=by rw [if_neg (show ¬ (false = true) by decide)] at H;exact H
  clear H
  have H:=H1
  clear H1
  obtain rfl:=Option.some.inj H
  go_enter Try.func3,Try.ntmps3
  go_wp2_with (first|(go_at_call 8;(with_reducible refine (laws_big.calls _ _ l0 false _ ?side1 ?side2 A2.out).mono ?_);(case side1=>repeat (first|exact HR0.out|(with_reducible first|apply aC|apply nC|apply dC)));(case side2=>exact HC0.out);rintro e w' ⟨rfl,⟨nd,rfl⟩⟩;(try first|exact⟨rfl,_,World.drewN_drewN _ _ _⟩|exact⟨rfl,_,Eq.trans (World.drewN_drewN _ _ _) (congrArg (World.drewN _) (Nat.add_assoc _ _ _))⟩))|(go_at_call 9;(with_reducible refine (spec_DrawHuffCodes.calls k _ _ l0 t323 _ ?side1 ?side2 A4.out).mono ?_);(case side1=>repeat (first|exact HR0.out|(with_reducible first|apply aC|apply nC|apply dC)));(case side2=>exact HC0.out);rintro e w41 ⟨v324,rfl,ho0,hb⟩;have HO325:=mk0 (Kd.R_lower ho0 (kZ HB.out));replace HB:=mk0 (kS HB.out hb);(try clear hb);(try clear ho0);obtain⟨Ao42,co42,eo42⟩:=Kd.R_slice HO325.out;subst eo42)|(go_at_call 10;(with_reducible refine (impl_HuffCodes.calls k _ _ t323 t326 _ ?side1 ?side2 A5.out).mono ?_);(case side1=>exact kC (Kd.R_reads' HO325.out).2.2);(case side2=>exact (Kd.R_reads' HO325.out).2.1);rintro e w43 ⟨v327,rfl,ho0,hb⟩;have HO328:=mk0 (Kd.R_lower (Kd.R_new' ho0 (Kd.R_lt (rR HO325.out))) (kZ HB.out));replace HO325:=mk0 (Kd.R_elder' (rR HO325.out) (Kd.R_base ho0) hb);replace HB:=mk0 (kS HB.out hb);(try clear hb);(try clear ho0))|(go_at_call 11;(with_reducible refine (spec_HuffOk.calls k _ _ t323 false _ ?side1 ?side2 A6.out).mono ?_);(case side1=>exact kC (Kd.R_reads' HO325.out).2.2);(case side2=>exact (Kd.R_reads' HO325.out).2.1);rintro e w' ⟨rfl,⟨nd,rfl⟩⟩;(try first|exact⟨rfl,_,World.drewN_drewN _ _ _⟩|exact⟨rfl,_,Eq.trans (World.drewN_drewN _ _ _) (congrArg (World.drewN _) (Nat.add_assoc _ _ _))⟩);obtain⟨Ao44,co44,eo44⟩:=Kd.R_slice HO328.out;subst eo44))
  repeat (go_quiet (first|(go_at_call 8;(with_reducible refine (laws_big.calls _ _ l0 false _ ?side1 ?side2 A2.out).mono ?_);(case side1=>repeat (first|exact HR0.out|(with_reducible first|apply aC|apply nC|apply dC)));(case side2=>exact HC0.out);rintro e w' ⟨rfl,⟨nd,rfl⟩⟩;(try first|exact⟨rfl,_,World.drewN_drewN _ _ _⟩|exact⟨rfl,_,Eq.trans (World.drewN_drewN _ _ _) (congrArg (World.drewN _) (Nat.add_assoc _ _ _))⟩))|(go_at_call 9;(with_reducible refine (spec_DrawHuffCodes.calls k _ _ l0 t323 _ ?side1 ?side2 A4.out).mono ?_);(case side1=>repeat (first|exact HR0.out|(with_reducible first|apply aC|apply nC|apply dC)));(case side2=>exact HC0.out);rintro e w41 ⟨v324,rfl,ho0,hb⟩;have HO325:=mk0 (Kd.R_lower ho0 (kZ HB.out));replace HB:=mk0 (kS HB.out hb);(try clear hb);(try clear ho0);obtain⟨Ao42,co42,eo42⟩:=Kd.R_slice HO325.out;subst eo42)|(go_at_call 10;(with_reducible refine (impl_HuffCodes.calls k _ _ t323 t326 _ ?side1 ?side2 A5.out).mono ?_);(case side1=>exact kC (Kd.R_reads' HO325.out).2.2);(case side2=>exact (Kd.R_reads' HO325.out).2.1);rintro e w43 ⟨v327,rfl,ho0,hb⟩;have HO328:=mk0 (Kd.R_lower (Kd.R_new' ho0 (Kd.R_lt (rR HO325.out))) (kZ HB.out));replace HO325:=mk0 (Kd.R_elder' (rR HO325.out) (Kd.R_base ho0) hb);replace HB:=mk0 (kS HB.out hb);(try clear hb);(try clear ho0))|(go_at_call 11;(with_reducible refine (spec_HuffOk.calls k _ _ t323 false _ ?side1 ?side2 A6.out).mono ?_);(case side1=>exact kC (Kd.R_reads' HO325.out).2.2);(case side2=>exact (Kd.R_reads' HO325.out).2.1);rintro e w' ⟨rfl,⟨nd,rfl⟩⟩;(try first|exact⟨rfl,_,World.drewN_drewN _ _ _⟩|exact⟨rfl,_,Eq.trans (World.drewN_drewN _ _ _) (congrArg (World.drewN _) (Nat.add_assoc _ _ _))⟩);obtain⟨Ao44,co44,eo44⟩:=Kd.R_slice HO328.out;subst eo44));try go_wp2_with (first|(go_at_call 8;(with_reducible refine (laws_big.calls _ _ l0 false _ ?side1 ?side2 A2.out).mono ?_);(case side1=>repeat (first|exact HR0.out|(with_reducible first|apply aC|apply nC|apply dC)));(case side2=>exact HC0.out);rintro e w' ⟨rfl,⟨nd,rfl⟩⟩;(try first|exact⟨rfl,_,World.drewN_drewN _ _ _⟩|exact⟨rfl,_,Eq.trans (World.drewN_drewN _ _ _) (congrArg (World.drewN _) (Nat.add_assoc _ _ _))⟩))|(go_at_call 9;(with_reducible refine (spec_DrawHuffCodes.calls k _ _ l0 t323 _ ?side1 ?side2 A4.out).mono ?_);(case side1=>repeat (first|exact HR0.out|(with_reducible first|apply aC|apply nC|apply dC)));(case side2=>exact HC0.out);rintro e w41 ⟨v324,rfl,ho0,hb⟩;have HO325:=mk0 (Kd.R_lower ho0 (kZ HB.out));replace HB:=mk0 (kS HB.out hb);(try clear hb);(try clear ho0);obtain⟨Ao42,co42,eo42⟩:=Kd.R_slice HO325.out;subst eo42)|(go_at_call 10;(with_reducible refine (impl_HuffCodes.calls k _ _ t323 t326 _ ?side1 ?side2 A5.out).mono ?_);(case side1=>exact kC (Kd.R_reads' HO325.out).2.2);(case side2=>exact (Kd.R_reads' HO325.out).2.1);rintro e w43 ⟨v327,rfl,ho0,hb⟩;have HO328:=mk0 (Kd.R_lower (Kd.R_new' ho0 (Kd.R_lt (rR HO325.out))) (kZ HB.out));replace HO325:=mk0 (Kd.R_elder' (rR HO325.out) (Kd.R_base ho0) hb);replace HB:=mk0 (kS HB.out hb);(try clear hb);(try clear ho0))|(go_at_call 11;(with_reducible refine (spec_HuffOk.calls k _ _ t323 false _ ?side1 ?side2 A6.out).mono ?_);(case side1=>exact kC (Kd.R_reads' HO325.out).2.2);(case side2=>exact (Kd.R_reads' HO325.out).2.1);rintro e w' ⟨rfl,⟨nd,rfl⟩⟩;(try first|exact⟨rfl,_,World.drewN_drewN _ _ _⟩|exact⟨rfl,_,Eq.trans (World.drewN_drewN _ _ _) (congrArg (World.drewN _) (Nat.add_assoc _ _ _))⟩);obtain⟨Ao44,co44,eo44⟩:=Kd.R_slice HO328.out;subst eo44)))
  go_ret
  exact⟨by first|rfl|(simp [errW_none,errW_some] <;> rfl)|(simp [*,errW_none,errW_some] <;> rfl),kB HB.out⟩

 subst c7
 have H1:(if (t326.length:Int) = (t323.length:Int) then (laws_FnPrefix.l0 k 0 t323 t326) else (some false)) = some r:=by rw [if_pos rfl] at H;exact H
 clear H
 have H:=H1
 clear H1
 by_cases c8:(t326.length:Int) = (t323.length:Int)
 rotate_left
 ·rw [if_neg c8] at H
  have c8b0:((t326.length:Int) == (t323.length:Int)) = false:=beq_eq_false_iff_ne.mpr c8
  have c8b1:((t326.length:Int) != (t323.length:Int)) = true:=bne_iff_ne.mpr c8
  have c8b2:(t326.length == t323.length) = false:=by first|simpa using c8|(simp at c8 ⊢;omega)
  obtain rfl:=Option.some.inj H
  go_enter Try.func3,Try.ntmps3
  go_wp2_with (first|(go_at_call 8;(with_reducible refine (laws_big.calls _ _ l0 false _ ?side1 ?side2 A2.out).mono ?_);(case side1=>repeat (first|exact HR0.out|(with_reducible first|apply aC|apply nC|apply dC)));(case side2=>exact HC0.out);rintro e w' ⟨rfl,⟨nd,rfl⟩⟩;(try first|exact⟨rfl,_,World.drewN_drewN _ _ _⟩|exact⟨rfl,_,Eq.trans (World.drewN_drewN _ _ _) (congrArg (World.drewN _) (Nat.add_assoc _ _ _))⟩))|(go_at_call 9;(with_reducible refine (spec_DrawHuffCodes.calls k _ _ l0 t323 _ ?side1 ?side2 A4.out).mono ?_);(case side1=>repeat (first|exact HR0.out|(with_reducible first|apply aC|apply nC|apply dC)));(case side2=>exact HC0.out);rintro e w37 ⟨v324,rfl,ho0,hb⟩;have HO325:=mk0 (Kd.R_lower ho0 (kZ HB.out));replace HB:=mk0 (kS HB.out hb);(try clear hb);(try clear ho0);obtain⟨Ao38,co38,eo38⟩:=Kd.R_slice HO325.out;subst eo38)|(go_at_call 10;(with_reducible refine (impl_HuffCodes.calls k _ _ t323 t326 _ ?side1 ?side2 A5.out).mono ?_);(case side1=>exact kC (Kd.R_reads' HO325.out).2.2);(case side2=>exact (Kd.R_reads' HO325.out).2.1);rintro e w39 ⟨v327,rfl,ho0,hb⟩;have HO328:=mk0 (Kd.R_lower (Kd.R_new' ho0 (Kd.R_lt (rR HO325.out))) (kZ HB.out));replace HO325:=mk0 (Kd.R_elder' (rR HO325.out) (Kd.R_base ho0) hb);replace HB:=mk0 (kS HB.out hb);(try clear hb);(try clear ho0))|(go_at_call 11;(with_reducible refine (spec_HuffOk.calls k _ _ t323 true _ ?side1 ?side2 A6.out).mono ?_);(case side1=>exact kC (Kd.R_reads' HO325.out).2.2);(case side2=>exact (Kd.R_reads' HO325.out).2.1);rintro e w' ⟨rfl,⟨nd,rfl⟩⟩;(try first|exact⟨rfl,_,World.drewN_drewN _ _ _⟩|exact⟨rfl,_,Eq.trans (World.drewN_drewN _ _ _) (congrArg (World.drewN _) (Nat.add_assoc _ _ _))⟩);obtain⟨Ao40,co40,eo40⟩:=Kd.R_slice HO328.out;subst eo40))
  repeat (go_quiet (first|(go_at_call 8;(with_reducible refine (laws_big.calls _ _ l0 false _ ?side1 ?side2 A2.out).mono ?_);(case side1=>repeat (first|exact HR0.out|(with_reducible first|apply aC|apply nC|apply dC)));(case side2=>exact HC0.out);rintro e w' ⟨rfl,⟨nd,rfl⟩⟩;(try first|exact⟨rfl,_,World.drewN_drewN _ _ _⟩|exact⟨rfl,_,Eq.trans (World.drewN_drewN _ _ _) (congrArg (World.drewN _) (Nat.add_assoc _ _ _))⟩))|(go_at_call 9;(with_reducible refine (spec_DrawHuffCodes.calls k _ _ l0 t323 _ ?side1 ?side2 A4.out).mono ?_);(case side1=>repeat (first|exact HR0.out|(with_reducible first|apply aC|apply nC|apply dC)));(case side2=>exact HC0.out);rintro e w37 ⟨v324,rfl,ho0,hb⟩;have HO325:=mk0 (Kd.R_lower ho0 (kZ HB.out));replace HB:=mk0 (kS HB.out hb);(try clear hb);(try clear ho0);obtain⟨Ao38,co38,eo38⟩:=Kd.R_slice HO325.out;subst eo38)|(go_at_call 10;(with_reducible refine (impl_HuffCodes.calls k _ _ t323 t326 _ ?side1 ?side2 A5.out).mono ?_);(case side1=>exact kC (Kd.R_reads' HO325.out).2.2);(case side2=>exact (Kd.R_reads' HO325.out).2.1);rintro e w39 ⟨v327,rfl,ho0,hb⟩;have HO328:=mk0 (Kd.R_lower (Kd.R_new' ho0 (Kd.R_lt (rR HO325.out))) (kZ HB.out));replace HO325:=mk0 (Kd.R_elder' (rR HO325.out) (Kd.R_base ho0) hb);replace HB:=mk0 (kS HB.out hb);(try clear hb);(try clear ho0))|(go_at_call 11;(with_reducible refine (spec_HuffOk.calls k _ _ t323 true _ ?side1 ?side2 A6.out).mono ?_);(case side1=>exact kC (Kd.R_reads' HO325.out).2.2);(case side2=>exact (Kd.R_reads' HO325.out).2.1);rintro e w' ⟨rfl,⟨nd,rfl⟩⟩;(try first|exact⟨rfl,_,World.drewN_drewN _ _ _⟩|exact⟨rfl,_,Eq.trans (World.drewN_drewN _ _ _) (congrArg (World.drewN _) (Nat.add_assoc _ _ _))⟩);obtain⟨Ao40,co40,eo40⟩:=Kd.R_slice HO328.out;subst eo40));try go_wp2_with (first|(go_at_call 8;(with_reducible refine (laws_big.calls _ _ l0 false _ ?side1 ?side2 A2.out).mono ?_);(case side1=>repeat (first|exact HR0.out|(with_reducible first|apply aC|apply nC|apply dC)));(case side2=>exact HC0.out);rintro e w' ⟨rfl,⟨nd,rfl⟩⟩;(try first|exact⟨rfl,_,World.drewN_drewN _ _ _⟩|exact⟨rfl,_,Eq.trans (World.drewN_drewN _ _ _) (congrArg (World.drewN _) (Nat.add_assoc _ _ _))⟩))|(go_at_call 9;(with_reducible refine (spec_DrawHuffCodes.calls k _ _ l0 t323 _ ?side1 ?side2 A4.out).mono ?_);(case side1=>repeat (first|exact HR0.out|(with_reducible first|apply aC|apply nC|apply dC)));(case side2=>exact HC0.out);rintro e w37 ⟨v324,rfl,ho0,hb⟩;have HO325:=mk0 (Kd.R_lower ho0 (kZ HB.out));replace HB:=mk0 (kS HB.out hb);(try clear hb);(try clear ho0);obtain⟨Ao38,co38,eo38⟩:=Kd.R_slice HO325.out;subst eo38)|(go_at_call 10;(with_reducible refine (impl_HuffCodes.calls k _ _ t323 t326 _ ?side1 ?side2 A5.out).mono ?_);(case side1=>exact kC (Kd.R_reads' HO325.out).2.2);(case side2=>exact (Kd.R_reads' HO325.out).2.1);rintro e w39 ⟨v327,rfl,ho0,hb⟩;have HO328:=mk0 (Kd.R_lower (Kd.R_new' ho0 (Kd.R_lt (rR HO325.out))) (kZ HB.out));replace HO325:=mk0 (Kd.R_elder' (rR HO325.out) (Kd.R_base ho0) hb);replace HB:=mk0 (kS HB.out hb);(try clear hb);(try clear ho0))|(go_at_call 11;(with_reducible refine (spec_HuffOk.calls k _ _ t323 true _ ?side1 ?side2 A6.out).mono ?_);(case side1=>exact kC (Kd.R_reads' HO325.out).2.2);(case side2=>exact (Kd.R_reads' HO325.out).2.1);rintro e w' ⟨rfl,⟨nd,rfl⟩⟩;(try first|exact⟨rfl,_,World.drewN_drewN _ _ _⟩|exact⟨rfl,_,Eq.trans (World.drewN_drewN _ _ _) (congrArg (World.drewN _) (Nat.add_assoc _ _ _))⟩);obtain⟨Ao40,co40,eo40⟩:=Kd.R_slice HO328.out;subst eo40)))
  go_ret
  exact⟨by first|rfl|(simp [errW_none,errW_some] <;> rfl)|(simp [*,errW_none,errW_some] <;> rfl),kB HB.out⟩
 rw [if_pos c8] at H
 have c8b0:((t326.length:Int) == (t323.length:Int)) = true:=beq_iff_eq.mpr c8
 have c8b1:((t326.length:Int) != (t323.length:Int)) = false:=bne_eq_false_iff_eq.mpr c8
 have c8b2:(t326.length == t323.length) = true:=by first|simpa using c8|(simp at c8 ⊢;omega)
 clear c8
 have H':=mk0 H
 clear H
 go_enter Try.func3,Try.ntmps3
 go_wp2_with (first|(go_at_call 8;(with_reducible refine (laws_big.calls _ _ l0 false _ ?side1 ?side2 A2.out).mono ?_);(case side1=>repeat (first|exact HR0.out|(with_reducible first|apply aC|apply nC|apply dC)));(case side2=>exact HC0.out);rintro e w' ⟨rfl,⟨nd,rfl⟩⟩;(try first|exact⟨rfl,_,World.drewN_drewN _ _ _⟩|exact⟨rfl,_,Eq.trans (World.drewN_drewN _ _ _) (congrArg (World.drewN _) (Nat.add_assoc _ _ _))⟩))|(go_at_call 9;(with_reducible refine (spec_DrawHuffCodes.calls k _ _ l0 t323 _ ?side1 ?side2 A4.out).mono ?_);(case side1=>repeat (first|exact HR0.out|(with_reducible first|apply aC|apply nC|apply dC)));(case side2=>exact HC0.out);rintro e w9 ⟨v324,rfl,ho0,hb⟩;have HO325:=mk0 (Kd.R_lower ho0 (kZ HB.out));replace HB:=mk0 (kS HB.out hb);(try clear hb);(try clear ho0);obtain⟨Ao10,co10,eo10⟩:=Kd.R_slice HO325.out;subst eo10)|(go_at_call 10;(with_reducible refine (impl_HuffCodes.calls k _ _ t323 t326 _ ?side1 ?side2 A5.out).mono ?_);(case side1=>exact kC (Kd.R_reads' HO325.out).2.2);(case side2=>exact (Kd.R_reads' HO325.out).2.1);rintro e w11 ⟨v327,rfl,ho0,hb⟩;have HO328:=mk0 (Kd.R_lower (Kd.R_new' ho0 (Kd.R_lt (rR HO325.out))) (kZ HB.out));replace HO325:=mk0 (Kd.R_elder' (rR HO325.out) (Kd.R_base ho0) hb);replace HB:=mk0 (kS HB.out hb);(try clear hb);(try clear ho0))|(go_at_call 11;(with_reducible refine (spec_HuffOk.calls k _ _ t323 true _ ?side1 ?side2 A6.out).mono ?_);(case side1=>exact kC (Kd.R_reads' HO325.out).2.2);(case side2=>exact (Kd.R_reads' HO325.out).2.1);rintro e w' ⟨rfl,⟨nd,rfl⟩⟩;(try first|exact⟨rfl,_,World.drewN_drewN _ _ _⟩|exact⟨rfl,_,Eq.trans (World.drewN_drewN _ _ _) (congrArg (World.drewN _) (Nat.add_assoc _ _ _))⟩);obtain⟨Ao12,co12,eo12⟩:=Kd.R_slice HO328.out;subst eo12))
 repeat (go_quiet (first|(go_at_call 8;(with_reducible refine (laws_big.calls _ _ l0 false _ ?side1 ?side2 A2.out).mono ?_);(case side1=>repeat (first|exact HR0.out|(with_reducible first|apply aC|apply nC|apply dC)));(case side2=>exact HC0.out);rintro e w' ⟨rfl,⟨nd,rfl⟩⟩;(try first|exact⟨rfl,_,World.drewN_drewN _ _ _⟩|exact⟨rfl,_,Eq.trans (World.drewN_drewN _ _ _) (congrArg (World.drewN _) (Nat.add_assoc _ _ _))⟩))|(go_at_call 9;(with_reducible refine (spec_DrawHuffCodes.calls k _ _ l0 t323 _ ?side1 ?side2 A4.out).mono ?_);(case side1=>repeat (first|exact HR0.out|(with_reducible first|apply aC|apply nC|apply dC)));(case side2=>exact HC0.out);rintro e w9 ⟨v324,rfl,ho0,hb⟩;have HO325:=mk0 (Kd.R_lower ho0 (kZ HB.out));replace HB:=mk0 (kS HB.out hb);(try clear hb);(try clear ho0);obtain⟨Ao10,co10,eo10⟩:=Kd.R_slice HO325.out;subst eo10)|(go_at_call 10;(with_reducible refine (impl_HuffCodes.calls k _ _ t323 t326 _ ?side1 ?side2 A5.out).mono ?_);(case side1=>exact kC (Kd.R_reads' HO325.out).2.2);(case side2=>exact (Kd.R_reads' HO325.out).2.1);rintro e w11 ⟨v327,rfl,ho0,hb⟩;have HO328:=mk0 (Kd.R_lower (Kd.R_new' ho0 (Kd.R_lt (rR HO325.out))) (kZ HB.out));replace HO325:=mk0 (Kd.R_elder' (rR HO325.out) (Kd.R_base ho0) hb);replace HB:=mk0 (kS HB.out hb);(try clear hb);(try clear ho0))|(go_at_call 11;(with_reducible refine (spec_HuffOk.calls k _ _ t323 true _ ?side1 ?side2 A6.out).mono ?_);(case side1=>exact kC (Kd.R_reads' HO325.out).2.2);(case side2=>exact (Kd.R_reads' HO325.out).2.1);rintro e w' ⟨rfl,⟨nd,rfl⟩⟩;(try first|exact⟨rfl,_,World.drewN_drewN _ _ _⟩|exact⟨rfl,_,Eq.trans (World.drewN_drewN _ _ _) (congrArg (World.drewN _) (Nat.add_assoc _ _ _))⟩);obtain⟨Ao12,co12,eo12⟩:=Kd.R_slice HO328.out;subst eo12));try go_wp2_with (first|(go_at_call 8;(with_reducible refine (laws_big.calls _ _ l0 false _ ?side1 ?side2 A2.out).mono ?_);(case side1=>repeat (first|exact HR0.out|(with_reducible first|apply aC|apply nC|apply dC)));(case side2=>exact HC0.out);rintro e w' ⟨rfl,⟨nd,rfl⟩⟩;(try first|exact⟨rfl,_,World.drewN_drewN _ _ _⟩|exact⟨rfl,_,Eq.trans (World.drewN_drewN _ _ _) (congrArg (World.drewN _) (Nat.add_assoc _ _ _))⟩))|(go_at_call 9;(with_reducible refine (spec_DrawHuffCodes.calls k _ _ l0 t323 _ ?side1 ?side2 A4.out).mono ?_);(case side1=>repeat (first|exact HR0.out|(with_reducible first|apply aC|apply nC|apply dC)));(case side2=>exact HC0.out);rintro e w9 ⟨v324,rfl,ho0,hb⟩;have HO325:=mk0 (Kd.R_lower ho0 (kZ HB.out));replace HB:=mk0 (kS HB.out hb);(try clear hb);(try clear ho0);obtain⟨Ao10,co10,eo10⟩:=Kd.R_slice HO325.out;subst eo10)|(go_at_call 10;(with_reducible refine (impl_HuffCodes.calls k _ _ t323 t326 _ ?side1 ?side2 A5.out).mono ?_);(case side1=>exact kC (Kd.R_reads' HO325.out).2.2);(case side2=>exact (Kd.R_reads' HO325.out).2.1);rintro e w11 ⟨v327,rfl,ho0,hb⟩;have HO328:=mk0 (Kd.R_lower (Kd.R_new' ho0 (Kd.R_lt (rR HO325.out))) (kZ HB.out));replace HO325:=mk0 (Kd.R_elder' (rR HO325.out) (Kd.R_base ho0) hb);replace HB:=mk0 (kS HB.out hb);(try clear hb);(try clear ho0))|(go_at_call 11;(with_reducible refine (spec_HuffOk.calls k _ _ t323 true _ ?side1 ?side2 A6.out).mono ?_);(case side1=>exact kC (Kd.R_reads' HO325.out).2.2);(case side2=>exact (Kd.R_reads' HO325.out).2.1);rintro e w' ⟨rfl,⟨nd,rfl⟩⟩;(try first|exact⟨rfl,_,World.drewN_drewN _ _ _⟩|exact⟨rfl,_,Eq.trans (World.drewN_drewN _ _ _) (congrArg (World.drewN _) (Nat.add_assoc _ _ _))⟩);obtain⟨Ao12,co12,eo12⟩:=Kd.R_slice HO328.out;subst eo12)))
 go_loopg [5] k (fun kq v5 w'=>∃ (x5_1:Int),v5 = .int .i64 x5_1 ∧ Aside0 (laws_FnPrefix.l0 kq x5_1 t323 t326 = some r) ∧ Aside0 (kq ≤ k) ∧ Aside0 (Kd.R (Kd.int .i64) 3 w' w.heap.size (fun k_=>some k_ ≠ ((.slice Ao12 t326.length co12):Value).ownBlock) (.slice Ao10 t323.length co10) t323) ∧ Aside0 (Kd.R (Kd.int .i64) 3 w' w.heap.size (fun k_=>some k_ ≠ ((.slice Ao10 t323.length co10):Value).ownBlock) (.slice Ao12 t326.length co12) t326) ∧ Aside0 (Below w.heap.size w w'))
 case atStart=>exact⟨(0),(by first|rfl|(simp;done)|(simp [*];done)),H',⟨Nat.le_refl _⟩,⟨by (with_reducible repeat (first|apply aR|apply nR|apply dR));exact Kd.R_mono HO325.out (by first|exact fun _ hk=>hk.2|(intro k_ hk;simp only [hk,ne_eq,and_self,not_false_eq_true]))⟩,⟨by (with_reducible repeat (first|apply aR|apply nR|apply dR));exact Kd.R_mono HO328.out (by first|exact fun _ hk=>hk.2|(intro k_ hk;simp only [hk,ne_eq,and_self,not_false_eq_true]))⟩,⟨kB HB.out⟩⟩
 case round =>
  clear H'
  try clear p2
  try clear c3
  try clear c7
  try clear c8
  try clear c8b0
  try clear c8b1
  try clear c8b2
  obtain⟨x5_1,rfl,HA,HK1,HO_12,HO_14,HB⟩:=hrel
  cases gk with
  | zero=>exact absurd HA.out (by simp [laws_FnPrefix.l0])
  | succ k1 =>
   have H:=HA.out
   clear HA
   simp only [laws_FnPrefix.l0] at H
   have HC13:=mk0 H
   clear H
   go_upto_region 10 with (fail)
   repeat (go_quiet (fail);go_upto_region 10 with (fail))
   go_cut [33] (fun v33 wc=>∃ (kq:Nat) (x33_12:Bool),v33 = .bool x33_12 ∧ Aside0 (laws_FnPrefix.j1 kq t323 t326 x5_1 x33_12 = some r) ∧ Aside0 (kq ≤ k1) ∧ Aside0 (Kd.R (Kd.int .i64) 3 wc w.heap.size (fun k_=>some k_ ≠ ((.slice Ao12 t326.length co12):Value).ownBlock) (.slice Ao10 t323.length co10) t323) ∧ Aside0 (Kd.R (Kd.int .i64) 3 wc w.heap.size (fun k_=>some k_ ≠ ((.slice Ao10 t323.length co10):Value).ownBlock) (.slice Ao12 t326.length co12) t326) ∧ Aside0 (Below w.heap.size w wc))
   case first =>
    have H:=HC13.out
    clear HC13
    by_cases c14:x5_1 < (t323.length:Int)
    rotate_left
    ·rw [if_neg c14] at H
     have c14b0:decide (x5_1 < (t323.length:Int)) = false:=decide_eq_false c14
     clear c14
     (first|rw [c14b0]|(simp only [i64_w,i32_w];rw [c14b0])|skip)
     have H':=mk0 H
     clear H
     go_wp2
     repeat (go_quiet (fail);try go_wp2)
     go_meet
     case rel=>exact⟨_,(false),(by first|rfl|(simp;done)|(simp [*];done)),H',⟨by have:=HK1.out;first|omega|exact Nat.le_refl _⟩,⟨rR HO_12.out⟩,⟨rR HO_14.out⟩,⟨kB HB.out⟩⟩
    rw [if_pos c14] at H
    have c14b0:decide (x5_1 < (t323.length:Int)) = true:=decide_eq_true c14
    clear c14
    (first|rw [c14b0]|(simp only [i64_w,i32_w];rw [c14b0])|skip)
    have H':=mk0 H
    clear H
    go_wp2
    repeat (go_quiet (fail);try go_wp2)
    go_meet
    case rel=>exact⟨_,(decide (x5_1 < 60)),(by first|rfl|(simp;done)|(simp [*];done)),H',⟨by have:=HK1.out;first|omega|exact Nat.le_refl _⟩,⟨rR HO_12.out⟩,⟨rR HO_14.out⟩,⟨kB HB.out⟩⟩
   case rest =>
    clear HC13
    try clear c1
    try clear p2
    try clear c3
    try clear c7
    try clear c8
    try clear c8b0
    try clear c8b1
    try clear c8b2
    try clear c14
    try clear c14b0
    try clear p2
    obtain⟨kq,x33_12,rfl,HA,HJ12,HO_3,HO_4,HB⟩:=hcut
    cases kq with
    | zero=>exact absurd HA.out (by simp [laws_FnPrefix.j1])
    | succ kj12 =>
     have H:=HA.out
     clear HA
     simp only [laws_FnPrefix.j1] at H
     by_cases c15:x33_12 = true
     rotate_left
     ·replace c15:=Bool.eq_false_iff.mpr c15
      subst c15
      have H1:(some true) = some r:=by rw [if_neg (show ¬ (false = true) by decide)] at H;exact H
      clear H
      have H:=H1
      clear H1
      obtain rfl:=Option.some.inj H
      go_wp2
      repeat (go_quiet (fail);try go_wp2)
      go_ret
      exact⟨by first|rfl|(simp [errW_none,errW_some] <;> rfl)|(simp [*,errW_none,errW_some] <;> rfl),kB HB.out⟩
     subst c15
     have H1:(laws_FnPrefix.l1 kj12 t323 t326 x5_1 0) = some r:=by rw [if_pos rfl] at H;exact H
     clear H
     have H:=H1
     clear H1
     have H':=mk0 H
     clear H
     go_wp2
     repeat (go_quiet (fail);try go_wp2)
     go_loopg [6] kj12 (fun kq v6 w'=>∃ (x6_3:Int),v6 = .int .i64 x6_3 ∧ Aside0 (laws_FnPrefix.l1 kq t323 t326 x5_1 x6_3 = some r) ∧ Aside0 (kq ≤ kj12) ∧ Aside0 (Kd.R (Kd.int .i64) 3 w' w.heap.size (fun k_=>some k_ ≠ ((.slice Ao12 t326.length co12):Value).ownBlock) (.slice Ao10 t323.length co10) t323) ∧ Aside0 (Kd.R (Kd.int .i64) 3 w' w.heap.size (fun k_=>some k_ ≠ ((.slice Ao10 t323.length co10):Value).ownBlock) (.slice Ao12 t326.length co12) t326) ∧ Aside0 (Below w.heap.size w w'))
     case atStart=>exact⟨(0),(by first|rfl|(simp;done)|(simp [*];done)),H',⟨Nat.le_refl _⟩,⟨rR HO_3.out⟩,⟨rR HO_4.out⟩,⟨kB HB.out⟩⟩
     case round =>
      clear H'
      try clear c1
      try clear p2
      try clear c3
      try clear c7
      try clear c8
      try clear c8b0
      try clear c8b1
      try clear c8b2
      try clear c14
      try clear c14b0
      try clear c15
      try clear p2
      obtain⟨x6_3,rfl,HA,HK3,HO_3,HO_4,HB⟩:=hrel
      cases gk with
      | zero=>exact absurd HA.out (by simp [laws_FnPrefix.l1])
      | succ k3 =>
       have H:=HA.out
       clear HA
       simp only [laws_FnPrefix.l1] at H
       have HC16:=mk0 H
       clear H
       go_upto_region 13 with (fail)
       repeat (go_quiet (fail);go_upto_region 13 with (fail))
       go_cut [43] (fun v43 wc=>∃ (kq:Nat) (x43_15:Bool),v43 = .bool x43_15 ∧ Aside0 (laws_FnPrefix.j3 kq t323 t326 x5_1 x6_3 x43_15 = some r) ∧ Aside0 (kq ≤ k3) ∧ Aside0 (Kd.R (Kd.int .i64) 3 wc w.heap.size (fun k_=>some k_ ≠ ((.slice Ao12 t326.length co12):Value).ownBlock) (.slice Ao10 t323.length co10) t323) ∧ Aside0 (Kd.R (Kd.int .i64) 3 wc w.heap.size (fun k_=>some k_ ≠ ((.slice Ao10 t323.length co10):Value).ownBlock) (.slice Ao12 t326.length co12) t326) ∧ Aside0 (Below w.heap.size w wc))
       case first =>
        have H:=HC16.out
        clear HC16
        by_cases c17:x6_3 < (t323.length:Int)
        rotate_left
        ·rw [if_neg c17] at H
         have c17b0:decide (x6_3 < (t323.length:Int)) = false:=decide_eq_false c17
         clear c17
         (first|rw [c17b0]|(simp only [i64_w,i32_w];rw [c17b0])|skip)
         have H':=mk0 H
         clear H
         go_wp2
         repeat (go_quiet (fail);try go_wp2)
         go_meet
         case rel=>exact⟨_,(false),(by first|rfl|(simp;done)|(simp [*];done)),H',⟨by have:=HK1.out;have:=HJ12.out;have:=HK3.out;first|omega|exact Nat.le_refl _⟩,⟨rR HO_3.out⟩,⟨rR HO_4.out⟩,⟨kB HB.out⟩⟩
        rw [if_pos c17] at H
        have c17b0:decide (x6_3 < (t323.length:Int)) = true:=decide_eq_true c17
        clear c17
        (first|rw [c17b0]|(simp only [i64_w,i32_w];rw [c17b0])|skip)
        have H':=mk0 H
        clear H
        go_wp2
        repeat (go_quiet (fail);try go_wp2)
        go_meet
        case rel=>exact⟨_,(decide (x6_3 < 60)),(by first|rfl|(simp;done)|(simp [*];done)),H',⟨by have:=HK1.out;have:=HJ12.out;have:=HK3.out;first|omega|exact Nat.le_refl _⟩,⟨rR HO_3.out⟩,⟨rR HO_4.out⟩,⟨kB HB.out⟩⟩
       case rest =>
        clear HC16
        try clear c1
        try clear p2
        try clear c3
        try clear c7
        try clear c8
        try clear c8b0
        try clear c8b1
        try clear c8b2
        try clear c14
        try clear c14b0
        try clear c15
        try clear c17
        try clear c17b0
        try clear p2
        obtain⟨kq,x43_15,rfl,HA,HJ15,HO_3,HO_4,HB⟩:=hcut
        cases kq with
        | zero=>exact absurd HA.out (by simp [laws_FnPrefix.j3])
        | succ kj15 =>
         have H:=HA.out
         clear HA
         simp only [laws_FnPrefix.j3] at H
         by_cases c18:x43_15 = true
         rotate_left
         ·replace c18:=Bool.eq_false_iff.mpr c18
          subst c18
          have H1:(laws_FnPrefix.l0 kj15 (wrap64 (x5_1 + 1)) t323 t326) = some r:=by rw [if_neg (show ¬ (false = true) by decide)] at H;exact H
          clear H
          have H:=H1
          clear H1
          have H':=mk0 H
          clear H
          go_wp2
          repeat (go_quiet (fail);try go_wp2)
          go_roundg kj15
          case measure=>have:=HK1.out;have:=HJ12.out;have:=HK3.out;have:=HJ15.out;omega
          case rel=>exact⟨(wrap64 (x5_1 + 1)),(by first|rfl|(simp;done)|(simp [*];done)),H',⟨by have:=HK1.out;have:=HJ12.out;have:=HK3.out;have:=HJ15.out;omega⟩,⟨rR HO_3.out⟩,⟨rR HO_4.out⟩,⟨kB HB.out⟩⟩
         subst c18
         have H1:(if x5_1 = x6_3 then (laws_FnPrefix.j4 kj15 t323 t326 x5_1 x6_3 true) else (if 0 ≤ x5_1 then (if x5_1 < (t323.length:Int) then (if (rd t323 x5_1) = 0 then (laws_FnPrefix.j4 kj15 t323 t326 x5_1 x6_3 true) else (if 0 ≤ x6_3 then (if x6_3 < (t323.length:Int) then (laws_FnPrefix.j4 kj15 t323 t326 x5_1 x6_3 (decide ((rd t323 x6_3) < (rd t323 x5_1)))) else (none)) else (none))) else (none)) else (none))) = some r:=by rw [if_pos rfl] at H;exact H
         clear H
         have H:=H1
         clear H1
         have HC19:=mk0 H
         clear H
         go_upto_region 15 with (fail)
         repeat (go_quiet (fail);go_upto_region 15 with (fail))
         go_cut [66] (fun v66 wc=>∃ (kq:Nat) (x66_18:Bool),v66 = .bool x66_18 ∧ Aside0 (laws_FnPrefix.j4 kq t323 t326 x5_1 x6_3 x66_18 = some r) ∧ Aside0 (kq ≤ kj15) ∧ Aside0 (Kd.R (Kd.int .i64) 3 wc w.heap.size (fun k_=>some k_ ≠ ((.slice Ao12 t326.length co12):Value).ownBlock) (.slice Ao10 t323.length co10) t323) ∧ Aside0 (Kd.R (Kd.int .i64) 3 wc w.heap.size (fun k_=>some k_ ≠ ((.slice Ao10 t323.length co10):Value).ownBlock) (.slice Ao12 t326.length co12) t326) ∧ Aside0 (Below w.heap.size w wc))
         case first =>
          have H:=HC19.out
          clear HC19
          by_cases c20:x5_1 = x6_3
          ·rw [if_pos c20] at H
           have c20b0:(x5_1 == x6_3) = true:=beq_iff_eq.mpr c20
           have c20b1:(x5_1 != x6_3) = false:=bne_eq_false_iff_eq.mpr c20
           clear c20
           (first|rw [c20b0]|(simp only [i64_w,i32_w];rw [c20b0])|skip)
           have H':=mk0 H
           clear H
           go_wp2
           repeat (go_quiet (fail);try go_wp2)
           go_meet
           case rel=>exact⟨_,(true),(by first|rfl|(simp;done)|(simp [*];done)),H',⟨by have:=HK1.out;have:=HJ12.out;have:=HK3.out;have:=HJ15.out;first|omega|exact Nat.le_refl _⟩,⟨rR HO_3.out⟩,⟨rR HO_4.out⟩,⟨kB HB.out⟩⟩
          rw [if_neg c20] at H
          have c20b0:(x5_1 == x6_3) = false:=beq_eq_false_iff_ne.mpr c20
          have c20b1:(x5_1 != x6_3) = true:=bne_iff_ne.mpr c20
          (first|rw [c20b0]|(simp only [i64_w,i32_w];rw [c20b0])|skip)
          by_cases c21:0 ≤ x5_1
          rotate_left
          ·rw [if_neg c21] at H
           exact absurd H (by simp)
          rw [if_pos c21] at H
          have c21b0:decide (0 ≤ x5_1) = true:=decide_eq_true c21
          clear c21
          by_cases c22:x5_1 < (t323.length:Int)
          rotate_left
          ·rw [if_neg c22] at H
           exact absurd H (by simp)
          rw [if_pos c22] at H
          have c22b0:decide (x5_1 < (t323.length:Int)) = true:=decide_eq_true c22
          clear c22
          by_cases c23:(rd t323 x5_1) = 0
          ·rw [if_pos c23] at H
           have c23b0:((rd t323 x5_1) == 0) = true:=beq_iff_eq.mpr c23
           have c23b1:((rd t323 x5_1) != 0) = false:=bne_eq_false_iff_eq.mpr c23
           clear c23
           have H':=mk0 H
           clear H
           have p330:0 ≤ (x5_1:Int):=of_decide_eq_true (by first|(with_reducible assumption)|assumption)
           have q330:x5_1 < (t323.length:Int):=of_decide_eq_true (by first|(with_reducible assumption)|assumption)
           obtain⟨ad330,e330,hx330_0⟩:=Kd.at_int (Kd.R_reads' HO_3.out).2.2 x5_1 p330 q330
           cases e330
           replace p330:=eq_true p330
           replace q330:=eq_true q330
           go_wp2
           repeat (go_quiet (fail);try go_wp2)
           go_meet
           case rel=>exact⟨_,(true),(by first|rfl|(simp;done)|(simp [*];done)),H',⟨by have:=HK1.out;have:=HJ12.out;have:=HK3.out;have:=HJ15.out;first|omega|exact Nat.le_refl _⟩,⟨rR HO_3.out⟩,⟨rR HO_4.out⟩,⟨kB HB.out⟩⟩
          rw [if_neg c23] at H
          have c23b0:((rd t323 x5_1) == 0) = false:=beq_eq_false_iff_ne.mpr c23
          have c23b1:((rd t323 x5_1) != 0) = true:=bne_iff_ne.mpr c23
          by_cases c24:0 ≤ x6_3
          rotate_left
          ·rw [if_neg c24] at H
           exact absurd H (by simp)
          rw [if_pos c24] at H
          have c24b0:decide (0 ≤ x6_3) = true:=decide_eq_true c24
          clear c24
          by_cases c25:x6_3 < (t323.length:Int)
          rotate_left
          ·rw [if_neg c25] at H
           exact absurd H (by simp)
          rw [if_pos c25] at H
          have c25b0:decide (x6_3 < (t323.length:Int)) = true:=decide_eq_true c25
          clear c25
          have H':=mk0 H
          clear H
          have p330:0 ≤ (x5_1:Int):=of_decide_eq_true (by first|(with_reducible assumption)|assumption)
          have q330:x5_1 < (t323.length:Int):=of_decide_eq_true (by first|(with_reducible assumption)|assumption)
          obtain⟨ad330,e330,hx330_0⟩:=Kd.at_int (Kd.R_reads' HO_3.out).2.2 x5_1 p330 q330
          cases e330
          replace p330:=eq_true p330
          replace q330:=eq_true q330
          have p331:0 ≤ (x6_3:Int):=of_decide_eq_true (by first|(with_reducible assumption)|assumption)
          have q331:x6_3 < (t323.length:Int):=of_decide_eq_true (by first|(with_reducible assumption)|assumption)
          obtain⟨ad331,e331,hx331_0⟩:=Kd.at_int (Kd.R_reads' HO_3.out).2.2 x6_3 p331 q331
          obtain rfl:ad330 = ad331:=(by injection e331)
          replace p331:=eq_true p331
          replace q331:=eq_true q331
          have p332:0 ≤ (x5_1:Int):=of_decide_eq_true (by first|(with_reducible assumption)|assumption)
          have q332:x5_1 < (t323.length:Int):=of_decide_eq_true (by first|(with_reducible assumption)|assumption)
          obtain⟨ad332,e332,hx332_0⟩:=Kd.at_int (Kd.R_reads' HO_3.out).2.2 x5_1 p332 q332
          obtain rfl:ad330 = ad332:=(by injection e332)
          replace p332:=eq_true p332
          replace q332:=eq_true q332
          go_wp2
          repeat (go_quiet (fail);try go_wp2)
          go_meet
          case rel=>exact⟨_,(decide ((rd t323 x6_3) < (rd t323 x5_1))),(by first|rfl|(simp;done)|(simp [*];done)),H',⟨by have:=HK1.out;have:=HJ12.out;have:=HK3.out;have:=HJ15.out;first|omega|exact Nat.le_refl _⟩,⟨rR HO_3.out⟩,⟨rR HO_4.out⟩,⟨kB HB.out⟩⟩
         case rest =>
          clear HC19
          try clear c1
          try clear c2
          try clear p2
          try clear c3
          try clear p3
          try clear q3
          try clear hx3
          try clear c7
          try clear c8
          try clear c8b0
          try clear c8b1
          try clear c8b2
          try clear c14
          try clear c14b0
          try clear c15
          try clear c17
          try clear c17b0
          try clear c18
          try clear c20
          try clear c20b0
          try clear c20b1
          try clear c21
          try clear c21b0
          try clear c22
          try clear c22b0
          try clear c23
          try clear c23b0
          try clear c23b1
          try clear c24
          try clear c24b0
          try clear c25
          try clear c25b0
          try clear hx330_0
          try clear hx331_0
          try clear hx332_0
          try clear p2
          try clear p330
          try clear p331
          try clear p332
          try clear q330
          try clear q331
          try clear q332
          obtain⟨kq,x66_18,rfl,HA,HJ18,HO_3,HO_4,HB⟩:=hcut
          cases kq with
          | zero=>exact absurd HA.out (by simp [laws_FnPrefix.j4])
          | succ kj18 =>
           have H:=HA.out
           clear HA
           simp only [laws_FnPrefix.j4] at H
           by_cases c26:x66_18 = true
           ·subst c26
            have H1:(laws_FnPrefix.l1 kj18 t323 t326 x5_1 (wrap64 (x6_3 + 1))) = some r:=by rw [if_pos rfl] at H;exact H
            clear H
            have H:=H1
            clear H1
            have H':=mk0 H
            clear H
            go_wp2
            repeat (go_quiet (fail);try go_wp2)
            go_roundg kj18
            case measure=>have:=HK1.out;have:=HJ12.out;have:=HK3.out;have:=HJ15.out;have:=HJ18.out;omega
            case rel=>exact⟨(wrap64 (x6_3 + 1)),(by first|rfl|(simp;done)|(simp [*];done)),H',⟨by have:=HK1.out;have:=HJ12.out;have:=HK3.out;have:=HJ15.out;have:=HJ18.out;omega⟩,⟨rR HO_3.out⟩,⟨rR HO_4.out⟩,⟨kB HB.out⟩⟩
           replace c26:=Bool.eq_false_iff.mpr c26
           subst c26
           have H1:(if 0 ≤ x6_3 then (if x6_3 < (t326.length:Int) then (if 0 ≤ x5_1 then (if x5_1 < (t323.length:Int) then (laws_FnPrefix.l2 kj18 t323 t326 x5_1 x6_3 (rd t326 x6_3) (rd t323 x5_1)) else (none)) else (none)) else (none)) else (none)) = some r:=by rw [if_neg (show ¬ (false = true) by decide)] at H;exact H
           clear H
           have H:=H1
           clear H1
           by_cases c27:0 ≤ x6_3
           rotate_left
           ·rw [if_neg c27] at H
            exact absurd H (by simp)
           rw [if_pos c27] at H
           have c27b0:decide (0 ≤ x6_3) = true:=decide_eq_true c27
           clear c27
           by_cases c28:x6_3 < (t326.length:Int)
           rotate_left
           ·rw [if_neg c28] at H
            exact absurd H (by simp)
           rw [if_pos c28] at H
           have c28b0:decide (x6_3 < (t326.length:Int)) = true:=decide_eq_true c28
           clear c28
           by_cases c29:0 ≤ x5_1
           rotate_left
           ·rw [if_neg c29] at H
            exact absurd H (by simp)
           rw [if_pos c29] at H
           have c29b0:decide (0 ≤ x5_1) = true:=decide_eq_true c29
           clear c29
           by_cases c30:x5_1 < (t323.length:Int)
           rotate_left
           ·rw [if_neg c30] at H
            exact absurd H (by simp)
           rw [if_pos c30] at H
           have c30b0:decide (x5_1 < (t323.length:Int)) = true:=decide_eq_true c30
           clear c30
           have H':=mk0 H
           clear H
           have p333:0 ≤ (x6_3:Int):=of_decide_eq_true (by first|(with_reducible assumption)|assumption)
           have q333:x6_3 < (t326.length:Int):=of_decide_eq_true (by first|(with_reducible assumption)|assumption)
           obtain⟨ad333,e333,hx333_0⟩:=Kd.at_int (Kd.R_reads' HO_4.out).2.2 x6_3 p333 q333
           cases e333
           replace p333:=eq_true p333
           replace q333:=eq_true q333
           have p334:0 ≤ (x5_1:Int):=of_decide_eq_true (by first|(with_reducible assumption)|assumption)
           have q334:x5_1 < (t323.length:Int):=of_decide_eq_true (by first|(with_reducible assumption)|assumption)
           obtain⟨ad334,e334,hx334_0⟩:=Kd.at_int (Kd.R_reads' HO_3.out).2.2 x5_1 p334 q334
           cases e334
           replace p334:=eq_true p334
           replace q334:=eq_true q334
           go_wp2
           repeat (go_quiet (fail);try go_wp2)
           go_loopg [7,8] kj18 (fun kq v7 v8 w'=>∃ (x7_6:Int) (x8_6:Int),v7 = .int .i64 x7_6 ∧ v8 = .int .i64 x8_6 ∧ Aside0 (laws_FnPrefix.l2 kq t323 t326 x5_1 x6_3 x7_6 x8_6 = some r) ∧ Aside0 (kq ≤ kj18) ∧ Aside0 (Kd.R (Kd.int .i64) 3 w' w.heap.size (fun k_=>some k_ ≠ ((.slice (some ad333) t326.length co12):Value).ownBlock) (.slice (some ad334) t323.length co10) t323) ∧ Aside0 (Kd.R (Kd.int .i64) 3 w' w.heap.size (fun k_=>some k_ ≠ ((.slice (some ad334) t323.length co10):Value).ownBlock) (.slice (some ad333) t326.length co12) t326) ∧ Aside0 (Below w.heap.size w w'))
           case atStart=>exact⟨(rd t326 x6_3),(rd t323 x5_1),(by first|rfl|(simp;done)|(simp [*];done)),(by first|rfl|(simp;done)|(simp [*];done)),H',⟨Nat.le_refl _⟩,⟨rR HO_3.out⟩,⟨rR HO_4.out⟩,⟨kB HB.out⟩⟩
           case round =>
            clear H'
            try clear c1
            try clear c2
            try clear p2
            try clear c3
            try clear p3
            try clear q3
            try clear hx3
            try clear p6
            try clear c7
            try clear c8
            try clear c8b0
            try clear c8b1
            try clear c8b2
            try clear c14
            try clear c14b0
            try clear c15
            try clear c17
            try clear c17b0
            try clear c18
            try clear c20
            try clear c20b0
            try clear c20b1
            try clear c21
            try clear c21b0
            try clear c22
            try clear c22b0
            try clear c23
            try clear c23b0
            try clear c23b1
            try clear c24
            try clear c24b0
            try clear c25
            try clear c25b0
            try clear c26
            try clear c27
            try clear c27b0
            try clear c28
            try clear c28b0
            try clear c29
            try clear c29b0
            try clear c30
            try clear c30b0
            try clear hx330_0
            try clear hx331_0
            try clear hx332_0
            try clear hx333_0
            try clear hx334_0
            try clear p2
            try clear p3
            try clear p330
            try clear p331
            try clear p332
            try clear p333
            try clear p334
            try clear q3
            try clear q330
            try clear q331
            try clear q332
            try clear q333
            try clear q334
            obtain⟨x7_6,x8_6,rfl,rfl,HA,HK6,HO_3,HO_4,HB⟩:=hrel
            cases gk with
            | zero=>exact absurd HA.out (by simp [laws_FnPrefix.l2])
            | succ k6 =>
             have H:=HA.out
             clear HA
             simp only [laws_FnPrefix.l2] at H
             by_cases c31:0 ≤ x6_3
             rotate_left
             ·rw [if_neg c31] at H
              exact absurd H (by simp)
             rw [if_pos c31] at H
             have c31b0:decide (0 ≤ x6_3) = true:=decide_eq_true c31
             clear c31
             by_cases c32:x6_3 < (t323.length:Int)
             rotate_left
             ·rw [if_neg c32] at H
              exact absurd H (by simp)
             rw [if_pos c32] at H
             have c32b0:decide (x6_3 < (t323.length:Int)) = true:=decide_eq_true c32
             clear c32
             by_cases c33:x8_6 < (rd t323 x6_3)
             ·rw [if_pos c33] at H
              have c33b0:decide (x8_6 < (rd t323 x6_3)) = true:=decide_eq_true c33
              clear c33
              have H':=mk0 H
              clear H
              have p335:0 ≤ (x6_3:Int):=of_decide_eq_true (by first|(with_reducible assumption)|assumption)
              have q335:x6_3 < (t323.length:Int):=of_decide_eq_true (by first|(with_reducible assumption)|assumption)
              obtain⟨ad335,e335,hx335_0⟩:=Kd.at_int (Kd.R_reads' HO_3.out).2.2 x6_3 p335 q335
              obtain rfl:ad334 = ad335:=(by injection e335)
              replace p335:=eq_true p335
              replace q335:=eq_true q335
              go_wp2
              repeat (go_quiet (fail);try go_wp2)
              go_roundg k6
              case measure=>have:=HK1.out;have:=HJ12.out;have:=HK3.out;have:=HJ15.out;have:=HJ18.out;have:=HK6.out;omega
              case rel=>exact⟨(wrap64 (Int.tdiv x7_6 2)),(wrap64 (x8_6 + 1)),(by first|rfl|(simp;done)|(simp [*];done)),(by first|rfl|(simp;done)|(simp [*];done)),H',⟨by have:=HK1.out;have:=HJ12.out;have:=HK3.out;have:=HJ15.out;have:=HJ18.out;have:=HK6.out;omega⟩,⟨rR HO_3.out⟩,⟨rR HO_4.out⟩,⟨kB HB.out⟩⟩
             rw [if_neg c33] at H
             have c33b0:decide (x8_6 < (rd t323 x6_3)) = false:=decide_eq_false c33
             clear c33
             by_cases c34:0 ≤ x5_1
             rotate_left
             ·rw [if_neg c34] at H
              exact absurd H (by simp)
             rw [if_pos c34] at H
             have c34b0:decide (0 ≤ x5_1) = true:=decide_eq_true c34
             clear c34
             by_cases c35:x5_1 < (t326.length:Int)
             rotate_left
             ·rw [if_neg c35] at H
              exact absurd H (by simp)
             rw [if_pos c35] at H
             have c35b0:decide (x5_1 < (t326.length:Int)) = true:=decide_eq_true c35
             clear c35
             by_cases c36:x7_6 = (rd t326 x5_1)
             ·rw [if_pos c36] at H
              have c36b0:(x7_6 == (rd t326 x5_1)) = true:=beq_iff_eq.mpr c36
              have c36b1:(x7_6 != (rd t326 x5_1)) = false:=bne_eq_false_iff_eq.mpr c36
              clear c36
              obtain rfl:=Option.some.inj H
              have p335:0 ≤ (x6_3:Int):=of_decide_eq_true (by first|(with_reducible assumption)|assumption)
              have q335:x6_3 < (t323.length:Int):=of_decide_eq_true (by first|(with_reducible assumption)|assumption)
              obtain⟨ad335,e335,hx335_0⟩:=Kd.at_int (Kd.R_reads' HO_3.out).2.2 x6_3 p335 q335
              obtain rfl:ad334 = ad335:=(by injection e335)
              replace p335:=eq_true p335
              replace q335:=eq_true q335
              have p336:0 ≤ (x5_1:Int):=of_decide_eq_true (by first|(with_reducible assumption)|assumption)
              have q336:x5_1 < (t326.length:Int):=of_decide_eq_true (by first|(with_reducible assumption)|assumption)
              obtain⟨ad336,e336,hx336_0⟩:=Kd.at_int (Kd.R_reads' HO_4.out).2.2 x5_1 p336 q336
              obtain rfl:ad333 = ad336:=(by injection e336)
              replace p336:=eq_true p336
              replace q336:=eq_true q336
              go_wp2
              repeat (go_quiet (fail);try go_wp2)
              go_ret
              exact⟨by first|rfl|(simp [errW_none,errW_some] <;> rfl)|(simp [*,errW_none,errW_some] <;> rfl),kB HB.out⟩
             rw [if_neg c36] at H
             have c36b0:(x7_6 == (rd t326 x5_1)) = false:=beq_eq_false_iff_ne.mpr c36
             have c36b1:(x7_6 != (rd t326 x5_1)) = true:=bne_iff_ne.mpr c36
             have H':=mk0 H
             clear H
             have p335:0 ≤ (x6_3:Int):=of_decide_eq_true (by first|(with_reducible assumption)|assumption)
             have q335:x6_3 < (t323.length:Int):=of_decide_eq_true (by first|(with_reducible assumption)|assumption)
             obtain⟨ad335,e335,hx335_0⟩:=Kd.at_int (Kd.R_reads' HO_3.out).2.2 x6_3 p335 q335
             obtain rfl:ad334 = ad335:=(by injection e335)
             replace p335:=eq_true p335
             replace q335:=eq_true q335
             have p336:0 ≤ (x5_1:Int):=of_decide_eq_true (by first|(with_reducible assumption)|assumption)
             have q336:x5_1 < (t326.length:Int):=of_decide_eq_true (by first|(with_reducible assumption)|assumption)
             obtain⟨ad336,e336,hx336_0⟩:=Kd.at_int (Kd.R_reads' HO_4.out).2.2 x5_1 p336 q336
             obtain rfl:ad333 = ad336:=(by injection e336)
             replace p336:=eq_true p336
             replace q336:=eq_true q336
             go_wp2
             repeat (go_quiet (fail);try go_wp2)
             go_roundg k6
             case measure=>have:=HK1.out;have:=HJ12.out;have:=HK3.out;have:=HJ15.out;have:=HJ18.out;have:=HK6.out;omega
             case rel=>exact⟨(wrap64 (x6_3 + 1)),(by first|rfl|(simp;done)|(simp [*];done)),H',⟨by have:=HK1.out;have:=HJ12.out;have:=HK3.out;have:=HJ15.out;have:=HJ18.out;have:=HK6.out;omega⟩,⟨rR HO_3.out⟩,⟨rR HO_4.out⟩,⟨kB HB.out⟩⟩
/-- THE ONE PURE STATEMENT of laws_FnPrefix: yours. -/
def laws_FnPrefix.Pure : Prop := ∀ (l0 : List Int), l0.length ≤ maxLen → l0.length * 1 ≤ 140737488351232 → (∀ x ∈ l0, (Lit.int .u8 x).wf = true) → ∃ k, laws_FnPrefix.f k l0 = some true
theorem laws_FnPrefix.walk (P : laws_FnPrefix.Pure) (a0 : Option Addr) (len0 cap0 : Nat) (z0 : List Int) (w : World) (w0 : (a0 = none ∧ len0 = 0 ∧ cap0 = 0 ∧ z0 = []) ∨ ∃ x, a0 = some x ∧ len0 ≤ cap0 ∧ cap0 ≤ maxLen ∧ z0.length = cap0 ∧ (∀ i, i < z0.length → w.cell? (x.add i) = some (.int .u8 (z0.getD i 0))) ∧ ∀ n ∈ z0, (Lit.int .u8 n).wf = true) (y0 : len0 * 1 ≤ 140737488351232) :
    Calls Try.prog 3 #[.slice a0 len0 cap0] w fun e w' => e = .returned (.bool true) ∧ Below w.heap.size w w' := by
  obtain ⟨l0, rfl, hr0, hm0, hw0, hc0⟩ := ReadsInt.ofRowC w0
  obtain ⟨k, h⟩ := P l0 hm0 y0 hw0
  refine (laws_FnPrefix.calls k _ _ l0 true w (Kd.C_of_reads (d := (0 : Int)) (h1 := fun _ => rfl) hr0) hc0 h).mono ?_
  rintro e w' ⟨rfl, hd⟩
  exact ⟨rfl, hd⟩

end Go.Proofs.Ytgjmmegmkdklbaa.QFnPrefix
