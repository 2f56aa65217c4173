-- A walk, made by walk.py, a program of this session's.
import Derived.Test.YtadhngelhognaaaQFnPartsx0
import Derived.Laws.Cover1
import Derived.Test.YtadhngelhognaaaPrs
import Derived.Test.YtadhngelhognaaaQFnPartsx1
import Derived.Test.YtadhngelhognaaaQFnPartsx2
import Derived.Test.YtadhngelhognaaaQFnPartsx3
import Derived.Test.YtadhngelhognaaaQFnPartsx4
import Derived.Test.YtadhngelhognaaaQFnPartsx6
namespace Go.Proofs.Ytadhngelhognaaa.QFnParts
open Go.RowKit Go.Proofs.YtadhngelhognaaaW.PrintWords Go.Proofs.YtadhngelhognaaaW.PrintLast Go.Proofs.YtadhngelhognaaaW.PrintMore
attribute [local go_sem] max2_int min2_int max_two min_two max_three min_three max_four min_four   -- for this text's walks alone
set_option linter.unusedVariables false
set_option linter.unusedSimpArgs false

/-! ### laws_FnParts: function 7 -/
mutual
def laws_FnParts.j0 : Nat → List Int → List Int → Int → List (S48) → List (S48) → Bool → Option (Bool)
 | 0, _, _, _, _, _, _ => none
 | k + 1, x3, x4, x5, x6, x7, x41 => if x41 = true then (some ((x7.length : Int) == (x6.length : Int))) else ((spec_SuffixRows.f k x3).bind fun t443 => ((spec_SuffixRows.f k x4).bind fun t446 => (laws_FnParts.l0 k x3 x4 x5 x7 0 t443 t446)))
def laws_FnParts.l0 : Nat → List Int → List Int → Int → List (S48) → Int → List Int → List Int → Option (Bool)
 | 0, _, _, _, _, _, _, _ => none
 | k + 1, x3, x4, x5, x7, x10, x48, x50 => if x10 < (x7.length : Int) then (if 0 ≤ x10 then (if x10 > 0 then (if 0 ≤ (wrap64 (x10 - 1)) then (if (wrap64 (x10 - 1)) < (x7.length : Int) then (if ((Op.bytesLess ((strOfNums ((rd_T48 x7 (wrap64 (x10 - 1))).f0)).toList) ((strOfNums ((rd_T48 x7 x10).f0)).toList)) = true) then (if (wrap64 ((wrap64 ((wrap64 (((rd_T48 x7 x10).f2) - ((rd_T48 x7 x10).f1))) + ((rd_T48 x7 x10).f4))) - ((rd_T48 x7 x10).f3))) < 1 then (none) else (if ((rd_T48 x7 x10).f1) < 0 then (none) else (if ((rd_T48 x7 x10).f2) > (x48.length : Int) then (none) else (if ((rd_T48 x7 x10).f3) < 0 then (none) else (laws_FnParts.j2 k x3 x4 x5 x7 x48 x50 x10 (decide (((rd_T48 x7 x10).f4) > (x50.length : Int))) ((rd_T48 x7 x10).f0) ((rd_T48 x7 x10).f1) ((rd_T48 x7 x10).f2) ((rd_T48 x7 x10).f3) ((rd_T48 x7 x10).f4)))))) else (none)) else (none)) else (none)) else (if (wrap64 ((wrap64 ((wrap64 (((rd_T48 x7 x10).f2) - ((rd_T48 x7 x10).f1))) + ((rd_T48 x7 x10).f4))) - ((rd_T48 x7 x10).f3))) < 1 then (none) else (if ((rd_T48 x7 x10).f1) < 0 then (none) else (if ((rd_T48 x7 x10).f2) > (x48.length : Int) then (none) else (if ((rd_T48 x7 x10).f3) < 0 then (none) else (laws_FnParts.j2 k x3 x4 x5 x7 x48 x50 x10 (decide (((rd_T48 x7 x10).f4) > (x50.length : Int))) ((rd_T48 x7 x10).f0) ((rd_T48 x7 x10).f1) ((rd_T48 x7 x10).f2) ((rd_T48 x7 x10).f3) ((rd_T48 x7 x10).f4))))))) else (none)) else ((impl_PartsOk.f k x3 x4 x7).bind fun t466 => (some t466))
def laws_FnParts.j2 : Nat → List Int → List Int → Int → List (S48) → List Int → List Int → Int → Bool → List Int → Int → Int → Int → Int → Option (Bool)
 | 0, _, _, _, _, _, _, _, _, _, _, _, _, _ => none
 | k + 1, x3, x4, x5, x7, x8, x9, x10, x113, x451000, x451001, x451002, x451003, x451004 => if x113 = true then (some false) else (laws_FnParts.l1 k x3 x4 x5 x7 x8 x9 x10 x451001 x451000 x451001 x451002 x451003 x451004)
def laws_FnParts.l1 : Nat → List Int → List Int → Int → List (S48) → List Int → List Int → Int → Int → List Int → Int → Int → Int → Int → Option (Bool)
 | 0, _, _, _, _, _, _, _, _, _, _, _, _, _ => none
 | k + 1, x3, x4, x5, x7, x8, x9, x10, x12, x451000, x451001, x451002, x451003, x451004 => if x12 < x451002 then (if 0 ≤ x12 then (if x12 < (x8.length : Int) then (if 0 ≤ (rd x8 x12) then (if (rd x8 x12) ≤ (mn (x3.length : Int) (wrap64 ((rd x8 x12) + x5))) then (if (mn (x3.length : Int) (wrap64 ((rd x8 x12) + x5))) ≤ (x3.length : Int) then (if (strOfNums ((x3.take ((mn (x3.length : Int) (wrap64 ((rd x8 x12) + x5))) : Int).toNat).drop ((rd x8 x12) : Int).toNat)).toList = (strOfNums x451000).toList then (laws_FnParts.l1 k x3 x4 x5 x7 x8 x9 x10 (wrap64 (x12 + 1)) x451000 x451001 x451002 x451003 x451004) else (some false)) else (none)) else (none)) else (none)) else (none)) else (none)) else (laws_FnParts.l2 k x3 x4 x5 x7 x8 x9 x10 x451003 x451000 x451001 x451002 x451003 x451004)
def laws_FnParts.l2 : Nat → List Int → List Int → Int → List (S48) → List Int → List Int → Int → Int → List Int → Int → Int → Int → Int → Option (Bool)
 | 0, _, _, _, _, _, _, _, _, _, _, _, _, _ => none
 | k + 1, x3, x4, x5, x7, x8, x9, x10, x13, x451000, x451001, x451002, x451003, x451004 => if x13 < x451004 then (if 0 ≤ x13 then (if x13 < (x9.length : Int) then (if 0 ≤ (rd x9 x13) then (if (rd x9 x13) ≤ (mn (x4.length : Int) (wrap64 ((rd x9 x13) + x5))) then (if (mn (x4.length : Int) (wrap64 ((rd x9 x13) + x5))) ≤ (x4.length : Int) then (if (strOfNums ((x4.take ((mn (x4.length : Int) (wrap64 ((rd x9 x13) + x5))) : Int).toNat).drop ((rd x9 x13) : Int).toNat)).toList = (strOfNums x451000).toList then (laws_FnParts.l2 k x3 x4 x5 x7 x8 x9 x10 (wrap64 (x13 + 1)) x451000 x451001 x451002 x451003 x451004) else (some false)) else (none)) else (none)) else (none)) else (none)) else (none)) else (laws_FnParts.l0 k x3 x4 x5 x7 (wrap64 (x10 + 1)) x8 x9)
end
def laws_FnParts.f (k : Nat) (l0 : List Int) : Option (Bool) := (laws_big.f l0).bind fun t423 => (if t423 = true then (some true) else ((spec_DrawParts.f k l0).bind fun bt424 => ((spec_Parts.f k bt424.1 bt424.2.1 bt424.2.2).bind fun t431 => ((laws_bytesOf.f bt424.1).bind fun t434 => ((laws_bytesOf.f bt424.2.1).bind fun t437 => ((impl_Parts.f k t434 t437 bt424.2.2).bind fun t440 => (if (t440.length : Int) = (t431.length : Int) then (laws_FnParts.j0 k bt424.1 bt424.2.1 bt424.2.2 t431 t440 ((t440.length : Int) == 0)) else (laws_FnParts.j0 k bt424.1 bt424.2.1 bt424.2.2 t431 t440 true))))))))
theorem laws_FnParts.mono_l : ∀ k, (∀ y0 y1 y2 y3 y4 y5, LeO (laws_FnParts.j0 k y0 y1 y2 y3 y4 y5) (laws_FnParts.j0 (k + 1) y0 y1 y2 y3 y4 y5)) ∧ (∀ y0 y1 y2 y3 y4 y5 y6, LeO (laws_FnParts.l0 k y0 y1 y2 y3 y4 y5 y6) (laws_FnParts.l0 (k + 1) y0 y1 y2 y3 y4 y5 y6)) ∧ (∀ y0 y1 y2 y3 y4 y5 y6 y7 y8 y9 y10 y11 y12, LeO (laws_FnParts.j2 k y0 y1 y2 y3 y4 y5 y6 y7 y8 y9 y10 y11 y12) (laws_FnParts.j2 (k + 1) y0 y1 y2 y3 y4 y5 y6 y7 y8 y9 y10 y11 y12)) ∧ (∀ y0 y1 y2 y3 y4 y5 y6 y7 y8 y9 y10 y11 y12, LeO (laws_FnParts.l1 k y0 y1 y2 y3 y4 y5 y6 y7 y8 y9 y10 y11 y12) (laws_FnParts.l1 (k + 1) y0 y1 y2 y3 y4 y5 y6 y7 y8 y9 y10 y11 y12)) ∧ (∀ y0 y1 y2 y3 y4 y5 y6 y7 y8 y9 y10 y11 y12, LeO (laws_FnParts.l2 k y0 y1 y2 y3 y4 y5 y6 y7 y8 y9 y10 y11 y12) (laws_FnParts.l2 (k + 1) y0 y1 y2 y3 y4 y5 y6 y7 y8 y9 y10 y11 y12))
 | 0 => ⟨fun _ _ _ _ _ _ r h => by simp [laws_FnParts.j0] at h, fun _ _ _ _ _ _ _ r h => by simp [laws_FnParts.l0] at h, fun _ _ _ _ _ _ _ _ _ _ _ _ _ r h => by simp [laws_FnParts.j2] at h, fun _ _ _ _ _ _ _ _ _ _ _ _ _ r h => by simp [laws_FnParts.l1] at h, fun _ _ _ _ _ _ _ _ _ _ _ _ _ r h => by simp [laws_FnParts.l2] at h⟩
 | k + 1 => by
  obtain ⟨ih0, ih1, ih2, ih3, ih4⟩ := laws_FnParts.mono_l k
  refine ⟨?_, ?_, ?_, ?_, ?_⟩
  ·intro y0 y1 y2 y3 y4 y5
   unfold laws_FnParts.j0
   repeat' first|(with_reducible first|exact ih0 _ _ _ _ _ _|exact ih1 _ _ _ _ _ _ _|exact ih2 _ _ _ _ _ _ _ _ _ _ _ _ _|exact ih3 _ _ _ _ _ _ _ _ _ _ _ _ _|exact ih4 _ _ _ _ _ _ _ _ _ _ _ _ _|exact impl_Parts.mono _ _ _ _|exact impl_PartsOk.mono _ _ _ _|exact spec_DrawParts.mono _ _|exact spec_Parts.mono _ _ _ _|exact spec_SuffixRows.mono _ _|exact LeO.refl _|exact LeO.none _|refine LeO.ite ?_ ?_|refine LeO.bind ?_ (fun _ => ?_))|exact LeO.none _|refine LeO.ite ?_ ?_|refine LeO.bind ?_ (fun _ => ?_)
  ·intro y0 y1 y2 y3 y4 y5 y6
   unfold laws_FnParts.l0
   repeat' first|(with_reducible first|exact ih0 _ _ _ _ _ _|exact ih1 _ _ _ _ _ _ _|exact ih2 _ _ _ _ _ _ _ _ _ _ _ _ _|exact ih3 _ _ _ _ _ _ _ _ _ _ _ _ _|exact ih4 _ _ _ _ _ _ _ _ _ _ _ _ _|exact impl_Parts.mono _ _ _ _|exact impl_PartsOk.mono _ _ _ _|exact spec_DrawParts.mono _ _|exact spec_Parts.mono _ _ _ _|exact spec_SuffixRows.mono _ _|exact LeO.refl _|exact LeO.none _|refine LeO.ite ?_ ?_|refine LeO.bind ?_ (fun _ => ?_))|exact LeO.none _|refine LeO.ite ?_ ?_|refine LeO.bind ?_ (fun _ => ?_)
  ·intro y0 y1 y2 y3 y4 y5 y6 y7 y8 y9 y10 y11 y12
   unfold laws_FnParts.j2
   repeat' first|(with_reducible first|exact ih0 _ _ _ _ _ _|exact ih1 _ _ _ _ _ _ _|exact ih2 _ _ _ _ _ _ _ _ _ _ _ _ _|exact ih3 _ _ _ _ _ _ _ _ _ _ _ _ _|exact ih4 _ _ _ _ _ _ _ _ _ _ _ _ _|exact impl_Parts.mono _ _ _ _|exact impl_PartsOk.mono _ _ _ _|exact spec_DrawParts.mono _ _|exact spec_Parts.mono _ _ _ _|exact spec_SuffixRows.mono _ _|exact LeO.refl _|exact LeO.none _|refine LeO.ite ?_ ?_|refine LeO.bind ?_ (fun _ => ?_))|exact LeO.none _|refine LeO.ite ?_ ?_|refine LeO.bind ?_ (fun _ => ?_)
  ·intro y0 y1 y2 y3 y4 y5 y6 y7 y8 y9 y10 y11 y12
   unfold laws_FnParts.l1
   repeat' first|(with_reducible first|exact ih0 _ _ _ _ _ _|exact ih1 _ _ _ _ _ _ _|exact ih2 _ _ _ _ _ _ _ _ _ _ _ _ _|exact ih3 _ _ _ _ _ _ _ _ _ _ _ _ _|exact ih4 _ _ _ _ _ _ _ _ _ _ _ _ _|exact impl_Parts.mono _ _ _ _|exact impl_PartsOk.mono _ _ _ _|exact spec_DrawParts.mono _ _|exact spec_Parts.mono _ _ _ _|exact spec_SuffixRows.mono _ _|exact LeO.refl _|exact LeO.none _|refine LeO.ite ?_ ?_|refine LeO.bind ?_ (fun _ => ?_))|exact LeO.none _|refine LeO.ite ?_ ?_|refine LeO.bind ?_ (fun _ => ?_)
  ·intro y0 y1 y2 y3 y4 y5 y6 y7 y8 y9 y10 y11 y12
   unfold laws_FnParts.l2
   repeat' first|(with_reducible first|exact ih0 _ _ _ _ _ _|exact ih1 _ _ _ _ _ _ _|exact ih2 _ _ _ _ _ _ _ _ _ _ _ _ _|exact ih3 _ _ _ _ _ _ _ _ _ _ _ _ _|exact ih4 _ _ _ _ _ _ _ _ _ _ _ _ _|exact impl_Parts.mono _ _ _ _|exact impl_PartsOk.mono _ _ _ _|exact spec_DrawParts.mono _ _|exact spec_Parts.mono _ _ _ _|exact spec_SuffixRows.mono _ _|exact LeO.refl _|exact LeO.none _|refine LeO.ite ?_ ?_|refine LeO.bind ?_ (fun _ => ?_))|exact LeO.none _|refine LeO.ite ?_ ?_|refine LeO.bind ?_ (fun _ => ?_)
theorem laws_FnParts.mono : ∀ a0 k, LeO (laws_FnParts.f k a0) (laws_FnParts.f (k + 1) a0) := by
 intro a0 k
 obtain ⟨ih0, ih1, ih2, ih3, ih4⟩ := laws_FnParts.mono_l k
 unfold laws_FnParts.f
 repeat' first|(with_reducible first|exact ih0 _ _ _ _ _ _|exact ih1 _ _ _ _ _ _ _|exact ih2 _ _ _ _ _ _ _ _ _ _ _ _ _|exact ih3 _ _ _ _ _ _ _ _ _ _ _ _ _|exact ih4 _ _ _ _ _ _ _ _ _ _ _ _ _|exact impl_Parts.mono _ _ _ _|exact impl_PartsOk.mono _ _ _ _|exact spec_DrawParts.mono _ _|exact spec_Parts.mono _ _ _ _|exact spec_SuffixRows.mono _ _|exact LeO.refl _|exact LeO.none _|refine LeO.ite ?_ ?_|refine LeO.bind ?_ (fun _ => ?_))|exact LeO.none _|refine LeO.ite ?_ ?_|refine LeO.bind ?_ (fun _ => ?_)
set_option maxHeartbeats 8000000 in
set_option maxRecDepth 100000 in
theorem laws_FnParts.calls (k : Nat) (A0 : Option Addr) (c0 : Nat) (l0 : List Int) (r : Bool) (w : World) (hr0 : Kd.C (Kd.int .u8) w A0 l0.length l0) (hc0 : l0.length ≤ c0) (h : laws_FnParts.f k l0 = some r) :
  Calls Try.prog 7 #[.slice A0 l0.length c0] w fun e w' => e = .returned (.bool r) ∧ Below w.heap.size w w' := by
 have hu48:=Try.underlying48
 have HR0:=mk0 hr0
 have HC0:=mk0 hc0
 clear hr0 hc0
 have HB:=mk0 (Below.refl w.heap.size w)
 have H:((laws_big.f l0).bind fun t423=>(if t423 = true then (some true) else ((spec_DrawParts.f k l0).bind fun bt424=>((spec_Parts.f k bt424.1 bt424.2.1 bt424.2.2).bind fun t431=>((laws_bytesOf.f bt424.1).bind fun t434=>((laws_bytesOf.f bt424.2.1).bind fun t437=>((impl_Parts.f k t434 t437 bt424.2.2).bind fun t440=>(if (t440.length:Int) = (t431.length:Int) then (laws_FnParts.j0 k bt424.1 bt424.2.1 bt424.2.2 t431 t440 ((t440.length:Int) == 0)) else (laws_FnParts.j0 k bt424.1 bt424.2.1 bt424.2.2 t431 t440 true))))))))) = some r:=h
 clear h
 replace H:=Option.bind_eq_some_iff.mp H
 obtain⟨t423,A20,H⟩:=H
 replace H:(if t423 = true then (some true) else ((spec_DrawParts.f k l0).bind fun bt424=>((spec_Parts.f k bt424.1 bt424.2.1 bt424.2.2).bind fun t431=>((laws_bytesOf.f bt424.1).bind fun t434=>((laws_bytesOf.f bt424.2.1).bind fun t437=>((impl_Parts.f k t434 t437 bt424.2.2).bind fun t440=>(if (t440.length:Int) = (t431.length:Int) then (laws_FnParts.j0 k bt424.1 bt424.2.1 bt424.2.2 t431 t440 ((t440.length:Int) == 0)) else (laws_FnParts.j0 k bt424.1 bt424.2.1 bt424.2.2 t431 t440 true)))))))) = some r:=H
 have A2:=mk0 A20
 clear A20
 by_cases c3:t423 = true
 ·subst c3
  have H1:(some true) = some r:=by rw [if_pos rfl] at H;exact H
  clear H
  have H:=H1
  clear H1
  obtain rfl:=Option.some.inj H
  go_enter Try.func7,Try.ntmps7
  go_wp2_with (first|(go_at_call 19;(with_reducible refine (laws_big.calls _ _ l0 true _ ?side1 ?side2 A2.out).mono ?_);(case side1=>repeat (first|exact HR0.out|(with_reducible first|apply aC|apply nC|apply dC)));(case side2=>exact HC0.out);rintro e w' ⟨rfl,⟨nd,rfl⟩⟩;(try first|exact⟨rfl,_,World.drewN_drewN _ _ _⟩|exact⟨rfl,_,Eq.trans (World.drewN_drewN _ _ _) (congrArg (World.drewN _) (Nat.add_assoc _ _ _))⟩)))
  repeat (go_quiet (first|(go_at_call 19;(with_reducible refine (laws_big.calls _ _ l0 true _ ?side1 ?side2 A2.out).mono ?_);(case side1=>repeat (first|exact HR0.out|(with_reducible first|apply aC|apply nC|apply dC)));(case side2=>exact HC0.out);rintro e w' ⟨rfl,⟨nd,rfl⟩⟩;(try first|exact⟨rfl,_,World.drewN_drewN _ _ _⟩|exact⟨rfl,_,Eq.trans (World.drewN_drewN _ _ _) (congrArg (World.drewN _) (Nat.add_assoc _ _ _))⟩)));try go_wp2_with (first|(go_at_call 19;(with_reducible refine (laws_big.calls _ _ l0 true _ ?side1 ?side2 A2.out).mono ?_);(case side1=>repeat (first|exact HR0.out|(with_reducible first|apply aC|apply nC|apply dC)));(case side2=>exact HC0.out);rintro e w' ⟨rfl,⟨nd,rfl⟩⟩;(try first|exact⟨rfl,_,World.drewN_drewN _ _ _⟩|exact⟨rfl,_,Eq.trans (World.drewN_drewN _ _ _) (congrArg (World.drewN _) (Nat.add_assoc _ _ _))⟩))))
  go_ret
  exact⟨by first|rfl|(simp [errW_none,errW_some] <;> rfl)|(simp [*,errW_none,errW_some] <;> rfl),kB HB.out⟩
 replace c3:=Bool.eq_false_iff.mpr c3
 subst c3
 have H1:((spec_DrawParts.f k l0).bind fun bt424=>((spec_Parts.f k bt424.1 bt424.2.1 bt424.2.2).bind fun t431=>((laws_bytesOf.f bt424.1).bind fun t434=>((laws_bytesOf.f bt424.2.1).bind fun t437=>((impl_Parts.f k t434 t437 bt424.2.2).bind fun t440=>(if (t440.length:Int) = (t431.length:Int) then (laws_FnParts.j0 k bt424.1 bt424.2.1 bt424.2.2 t431 t440 ((t440.length:Int) == 0)) else (laws_FnParts.j0 k bt424.1 bt424.2.1 bt424.2.2 t431 t440 true))))))) = some r:=by rw [if_neg (show ¬ (false = true) by decide)] at H;exact H
 clear H
 have H:=H1
 clear H1
 replace H:=Option.bind_eq_some_iff.mp H
 obtain⟨⟨t424,t425,t426⟩,A40,H⟩:=H
 replace H:((spec_Parts.f k t424 t425 t426).bind fun t431=>((laws_bytesOf.f t424).bind fun t434=>((laws_bytesOf.f t425).bind fun t437=>((impl_Parts.f k t434 t437 t426).bind fun t440=>(if (t440.length:Int) = (t431.length:Int) then (laws_FnParts.j0 k t424 t425 t426 t431 t440 ((t440.length:Int) == 0)) else (laws_FnParts.j0 k t424 t425 t426 t431 t440 true)))))) = some r:=H
 have A4:=mk0 A40
 clear A40
 replace H:=Option.bind_eq_some_iff.mp H
 obtain⟨t431,A50,H⟩:=H
 replace H:((laws_bytesOf.f t424).bind fun t434=>((laws_bytesOf.f t425).bind fun t437=>((impl_Parts.f k t434 t437 t426).bind fun t440=>(if (t440.length:Int) = (t431.length:Int) then (laws_FnParts.j0 k t424 t425 t426 t431 t440 ((t440.length:Int) == 0)) else (laws_FnParts.j0 k t424 t425 t426 t431 t440 true))))) = some r:=H
 have A5:=mk0 A50
 clear A50
 replace H:=Option.bind_eq_some_iff.mp H
 obtain⟨t434,A60,H⟩:=H
 replace H:((laws_bytesOf.f t425).bind fun t437=>((impl_Parts.f k t434 t437 t426).bind fun t440=>(if (t440.length:Int) = (t431.length:Int) then (laws_FnParts.j0 k t424 t425 t426 t431 t440 ((t440.length:Int) == 0)) else (laws_FnParts.j0 k t424 t425 t426 t431 t440 true)))) = some r:=H
 have A6:=mk0 A60
 clear A60
 replace H:=Option.bind_eq_some_iff.mp H
 obtain⟨t437,A70,H⟩:=H
 replace H:((impl_Parts.f k t434 t437 t426).bind fun t440=>(if (t440.length:Int) = (t431.length:Int) then (laws_FnParts.j0 k t424 t425 t426 t431 t440 ((t440.length:Int) == 0)) else (laws_FnParts.j0 k t424 t425 t426 t431 t440 true))) = some r:=H
 have A7:=mk0 A70
 clear A70
 replace H:=Option.bind_eq_some_iff.mp H
 obtain⟨t440,A80,H⟩:=H
 replace H:(if (t440.length:Int) = (t431.length:Int) then (laws_FnParts.j0 k t424 t425 t426 t431 t440 ((t440.length:Int) == 0)) else (laws_FnParts.j0 k t424 t425 t426 t431 t440 true)) = some r:=H
 have A8:=mk0 A80
 clear A80
 have HC9:=mk0 H
 clear H
 go_enter Try.func7,Try.ntmps7
 go_upto_region 6 with (first|(go_at_call 19;(with_reducible refine (laws_big.calls _ _ l0 false _ ?side1 ?side2 A2.out).mono ?_);(case side1=>repeat (first|exact HR0.out|(with_reducible first|apply aC|apply nC|apply dC)));(case side2=>exact HC0.out);rintro e w' ⟨rfl,⟨nd,rfl⟩⟩;(try first|exact⟨rfl,_,World.drewN_drewN _ _ _⟩|exact⟨rfl,_,Eq.trans (World.drewN_drewN _ _ _) (congrArg (World.drewN _) (Nat.add_assoc _ _ _))⟩))|(go_at_call 26;(with_reducible refine (spec_DrawParts.calls k _ _ l0 t424 t425 t426 _ ?side1 ?side2 A4.out).mono ?_);(case side1=>repeat (first|exact HR0.out|(with_reducible first|apply aC|apply nC|apply dC)));(case side2=>exact HC0.out);rintro e w10 ⟨v427,v429,rfl,ho0,ho1,hb⟩;have HO428:=mk0 (Kd.R_lower ho0 (kZ HB.out));have HO430:=mk0 (Kd.R_lower ho1 (kZ HB.out));replace HB:=mk0 (kS HB.out hb);(try clear hb);(try clear ho0);(try clear ho1);obtain⟨Ao11,co11,eo11⟩:=Kd.R_slice HO428.out;subst eo11;obtain⟨Ao12,co12,eo12⟩:=Kd.R_slice HO430.out;subst eo12)|(go_at_call 27;(with_reducible refine (spec_Parts.calls k (fun k_=>some k_ = (.slice Ao11 t424.length co11:Value).ownBlock) _ _ t424 (fun k_=>some k_ = (.slice Ao12 t425.length co12:Value).ownBlock) _ _ t425 t426 t431 _ ?side1 ?side2 A5.out).mono ?_);(case side1=>exact Kd.R_V (Kd.R_tight rfl (HO428.out)));(case side2=>exact Kd.R_V (Kd.R_tight rfl (HO430.out)));rintro e w13 ⟨v432,rfl,ho0,hb⟩;replace HO428:=mk0 (bR HO428.out hb);replace HO430:=mk0 (bR HO430.out hb);have HO433:=mk0 (Kd.N_lower (Kd.N_mono (ok':=fun k_=>True) ho0 (fun k_ hk_=>trivial)) (kZ HB.out));replace HB:=mk0 (kS HB.out hb);(try clear hb);(try clear ho0))|(go_at_call 29;(with_reducible refine (laws_bytesOf.calls _ _ t424 t434 _ ?side1 ?side2 A6.out).mono ?_);(case side1=>exact kC (Kd.R_reads' HO428.out).2.2);(case side2=>exact (Kd.R_reads' HO428.out).2.1);rintro e w14 ⟨v435,rfl,ho0,hb⟩;replace HO433:=mk0 (Kd.N_elder' (rN HO433.out) (Kd.R_base ho0) hb);have HO436:=mk0 (Kd.R_lower (Kd.R_new' (Kd.R_new' ho0 (Kd.R_lt (rR HO428.out))) (Kd.R_lt (rR HO430.out))) (kZ HB.out));replace HO428:=mk0 (Kd.R_elder' (rR HO428.out) (Kd.R_base ho0) hb);replace HO430:=mk0 (Kd.R_elder' (rR HO430.out) (Kd.R_base ho0) hb);replace HB:=mk0 (kS HB.out hb);(try clear hb);(try clear ho0))|(go_at_call 29;(with_reducible refine (laws_bytesOf.calls _ _ t425 t437 _ ?side1 ?side2 A7.out).mono ?_);(case side1=>exact kC (Kd.R_reads' HO430.out).2.2);(case side2=>exact (Kd.R_reads' HO430.out).2.1);rintro e w15 ⟨v438,rfl,ho0,hb⟩;replace HO433:=mk0 (Kd.N_elder' (rN HO433.out) (Kd.R_base ho0) hb);have HO439:=mk0 (Kd.R_lower (Kd.R_new' (Kd.R_new' (Kd.R_new' ho0 (Kd.R_lt (rR HO428.out))) (Kd.R_lt (rR HO430.out))) (Kd.R_lt (rR HO436.out))) (kZ HB.out));replace HO428:=mk0 (Kd.R_elder' (rR HO428.out) (Kd.R_base ho0) hb);replace HO430:=mk0 (Kd.R_elder' (rR HO430.out) (Kd.R_base ho0) hb);replace HO436:=mk0 (Kd.R_elder' (rR HO436.out) (Kd.R_base ho0) hb);replace HB:=mk0 (kS HB.out hb);(try clear hb);(try clear ho0);obtain⟨Ao16,co16,eo16⟩:=Kd.R_slice HO436.out;subst eo16;obtain⟨Ao17,co17,eo17⟩:=Kd.R_slice HO439.out;subst eo17)|(go_at_call 28;(with_reducible refine (impl_Parts.calls k _ _ t434 _ _ t437 t426 t440 _ ?side1 ?side2 ?side3 ?side4 A8.out).mono ?_);(case side1=>exact kC (Kd.R_reads' HO436.out).2.2);(case side2=>exact (Kd.R_reads' HO436.out).2.1);(case side3=>exact kC (Kd.R_reads' HO439.out).2.2);(case side4=>exact (Kd.R_reads' HO439.out).2.1);rintro e w18 ⟨v441,rfl,ho0,hb⟩;have HO442:=mk0 (Kd.N_lower (Kd.N_mono (ok':=fun k_=>some k_ ≠ (.slice Ao11 t424.length co11:Value).ownBlock ∧ some k_ ≠ (.slice Ao12 t425.length co12:Value).ownBlock ∧ some k_ ≠ (v432:Value).ownBlock ∧ some k_ ≠ (.slice Ao16 t434.length co16:Value).ownBlock ∧ some k_ ≠ (.slice Ao17 t437.length co17:Value).ownBlock) ho0 (fun k_ hk_=>⟨(Kd.fresh' (Kd.R_lt (rR HO428.out)) k_ hk_),(Kd.fresh' (Kd.R_lt (rR HO430.out)) k_ hk_),(Kd.fresh' (Kd.N_lt (rN HO433.out)) k_ hk_),(Kd.fresh' (Kd.R_lt (rR HO436.out)) k_ hk_),(Kd.fresh' (Kd.R_lt (rR HO439.out)) k_ hk_)⟩)) (kZ HB.out));replace HO428:=mk0 (bR HO428.out hb);replace HO430:=mk0 (bR HO430.out hb);replace HO433:=mk0 (Kd.N_elder' (rN HO433.out) (Kd.N_base ho0) hb);replace HO436:=mk0 (bR HO436.out hb);replace HO439:=mk0 (bR HO439.out hb);replace HB:=mk0 (kS HB.out hb);(try clear hb);(try clear ho0)))
 repeat (go_quiet (first|(go_at_call 19;(with_reducible refine (laws_big.calls _ _ l0 false _ ?side1 ?side2 A2.out).mono ?_);(case side1=>repeat (first|exact HR0.out|(with_reducible first|apply aC|apply nC|apply dC)));(case side2=>exact HC0.out);rintro e w' ⟨rfl,⟨nd,rfl⟩⟩;(try first|exact⟨rfl,_,World.drewN_drewN _ _ _⟩|exact⟨rfl,_,Eq.trans (World.drewN_drewN _ _ _) (congrArg (World.drewN _) (Nat.add_assoc _ _ _))⟩))|(go_at_call 26;(with_reducible refine (spec_DrawParts.calls k _ _ l0 t424 t425 t426 _ ?side1 ?side2 A4.out).mono ?_);(case side1=>repeat (first|exact HR0.out|(with_reducible first|apply aC|apply nC|apply dC)));(case side2=>exact HC0.out);rintro e w10 ⟨v427,v429,rfl,ho0,ho1,hb⟩;have HO428:=mk0 (Kd.R_lower ho0 (kZ HB.out));have HO430:=mk0 (Kd.R_lower ho1 (kZ HB.out));replace HB:=mk0 (kS HB.out hb);(try clear hb);(try clear ho0);(try clear ho1);obtain⟨Ao11,co11,eo11⟩:=Kd.R_slice HO428.out;subst eo11;obtain⟨Ao12,co12,eo12⟩:=Kd.R_slice HO430.out;subst eo12)|(go_at_call 27;(with_reducible refine (spec_Parts.calls k (fun k_=>some k_ = (.slice Ao11 t424.length co11:Value).ownBlock) _ _ t424 (fun k_=>some k_ = (.slice Ao12 t425.length co12:Value).ownBlock) _ _ t425 t426 t431 _ ?side1 ?side2 A5.out).mono ?_);(case side1=>exact Kd.R_V (Kd.R_tight rfl (HO428.out)));(case side2=>exact Kd.R_V (Kd.R_tight rfl (HO430.out)));rintro e w13 ⟨v432,rfl,ho0,hb⟩;replace HO428:=mk0 (bR HO428.out hb);replace HO430:=mk0 (bR HO430.out hb);have HO433:=mk0 (Kd.N_lower (Kd.N_mono (ok':=fun k_=>True) ho0 (fun k_ hk_=>trivial)) (kZ HB.out));replace HB:=mk0 (kS HB.out hb);(try clear hb);(try clear ho0))|(go_at_call 29;(with_reducible refine (laws_bytesOf.calls _ _ t424 t434 _ ?side1 ?side2 A6.out).mono ?_);(case side1=>exact kC (Kd.R_reads' HO428.out).2.2);(case side2=>exact (Kd.R_reads' HO428.out).2.1);rintro e w14 ⟨v435,rfl,ho0,hb⟩;replace HO433:=mk0 (Kd.N_elder' (rN HO433.out) (Kd.R_base ho0) hb);have HO436:=mk0 (Kd.R_lower (Kd.R_new' (Kd.R_new' ho0 (Kd.R_lt (rR HO428.out))) (Kd.R_lt (rR HO430.out))) (kZ HB.out));replace HO428:=mk0 (Kd.R_elder' (rR HO428.out) (Kd.R_base ho0) hb);replace HO430:=mk0 (Kd.R_elder' (rR HO430.out) (Kd.R_base ho0) hb);replace HB:=mk0 (kS HB.out hb);(try clear hb);(try clear ho0))|(go_at_call 29;(with_reducible refine (laws_bytesOf.calls _ _ t425 t437 _ ?side1 ?side2 A7.out).mono ?_);(case side1=>exact kC (Kd.R_reads' HO430.out).2.2);(case side2=>exact (Kd.R_reads' HO430.out).2.1);rintro e w15 ⟨v438,rfl,ho0,hb⟩;replace HO433:=mk0 (Kd.N_elder' (rN HO433.out) (Kd.R_base ho0) hb);have HO439:=mk0 (Kd.R_lower (Kd.R_new' (Kd.R_new' (Kd.R_new' ho0 (Kd.R_lt (rR HO428.out))) (Kd.R_lt (rR HO430.out))) (Kd.R_lt (rR HO436.out))) (kZ HB.out));replace HO428:=mk0 (Kd.R_elder' (rR HO428.out) (Kd.R_base ho0) hb);replace HO430:=mk0 (Kd.R_elder' (rR HO430.out) (Kd.R_base ho0) hb);replace HO436:=mk0 (Kd.R_elder' (rR HO436.out) (Kd.R_base ho0) hb);replace HB:=mk0 (kS HB.out hb);(try clear hb);(try clear ho0);obtain⟨Ao16,co16,eo16⟩:=Kd.R_slice HO436.out;subst eo16;obtain⟨Ao17,co17,eo17⟩:=Kd.R_slice HO439.out;subst eo17)|(go_at_call 28;(with_reducible refine (impl_Parts.calls k _ _ t434 _ _ t437 t426 t440 _ ?side1 ?side2 ?side3 ?side4 A8.out).mono ?_);(case side1=>exact kC (Kd.R_reads' HO436.out).2.2);(case side2=>exact (Kd.R_reads' HO436.out).2.1);(case side3=>exact kC (Kd.R_reads' HO439.out).2.2);(case side4=>exact (Kd.R_reads' HO439.out).2.1);rintro e w18 ⟨v441,rfl,ho0,hb⟩;have HO442:=mk0 (Kd.N_lower (Kd.N_mono (ok':=fun k_=>some k_ ≠ (.slice Ao11 t424.length co11:Value).ownBlock ∧ some k_ ≠ (.slice Ao12 t425.length co12:Value).ownBlock ∧ some k_ ≠ (v432:Value).ownBlock ∧ some k_ ≠ (.slice Ao16 t434.length co16:Value).ownBlock ∧ some k_ ≠ (.slice Ao17 t437.length co17:Value).ownBlock) ho0 (fun k_ hk_=>⟨(Kd.fresh' (Kd.R_lt (rR HO428.out)) k_ hk_),(Kd.fresh' (Kd.R_lt (rR HO430.out)) k_ hk_),(Kd.fresh' (Kd.N_lt (rN HO433.out)) k_ hk_),(Kd.fresh' (Kd.R_lt (rR HO436.out)) k_ hk_),(Kd.fresh' (Kd.R_lt (rR HO439.out)) k_ hk_)⟩)) (kZ HB.out));replace HO428:=mk0 (bR HO428.out hb);replace HO430:=mk0 (bR HO430.out hb);replace HO433:=mk0 (Kd.N_elder' (rN HO433.out) (Kd.N_base ho0) hb);replace HO436:=mk0 (bR HO436.out hb);replace HO439:=mk0 (bR HO439.out hb);replace HB:=mk0 (kS HB.out hb);(try clear hb);(try clear ho0)));go_upto_region 6 with (first|(go_at_call 19;(with_reducible refine (laws_big.calls _ _ l0 false _ ?side1 ?side2 A2.out).mono ?_);(case side1=>repeat (first|exact HR0.out|(with_reducible first|apply aC|apply nC|apply dC)));(case side2=>exact HC0.out);rintro e w' ⟨rfl,⟨nd,rfl⟩⟩;(try first|exact⟨rfl,_,World.drewN_drewN _ _ _⟩|exact⟨rfl,_,Eq.trans (World.drewN_drewN _ _ _) (congrArg (World.drewN _) (Nat.add_assoc _ _ _))⟩))|(go_at_call 26;(with_reducible refine (spec_DrawParts.calls k _ _ l0 t424 t425 t426 _ ?side1 ?side2 A4.out).mono ?_);(case side1=>repeat (first|exact HR0.out|(with_reducible first|apply aC|apply nC|apply dC)));(case side2=>exact HC0.out);rintro e w10 ⟨v427,v429,rfl,ho0,ho1,hb⟩;have HO428:=mk0 (Kd.R_lower ho0 (kZ HB.out));have HO430:=mk0 (Kd.R_lower ho1 (kZ HB.out));replace HB:=mk0 (kS HB.out hb);(try clear hb);(try clear ho0);(try clear ho1);obtain⟨Ao11,co11,eo11⟩:=Kd.R_slice HO428.out;subst eo11;obtain⟨Ao12,co12,eo12⟩:=Kd.R_slice HO430.out;subst eo12)|(go_at_call 27;(with_reducible refine (spec_Parts.calls k (fun k_=>some k_ = (.slice Ao11 t424.length co11:Value).ownBlock) _ _ t424 (fun k_=>some k_ = (.slice Ao12 t425.length co12:Value).ownBlock) _ _ t425 t426 t431 _ ?side1 ?side2 A5.out).mono ?_);(case side1=>exact Kd.R_V (Kd.R_tight rfl (HO428.out)));(case side2=>exact Kd.R_V (Kd.R_tight rfl (HO430.out)));rintro e w13 ⟨v432,rfl,ho0,hb⟩;replace HO428:=mk0 (bR HO428.out hb);replace HO430:=mk0 (bR HO430.out hb);have HO433:=mk0 (Kd.N_lower (Kd.N_mono (ok':=fun k_=>True) ho0 (fun k_ hk_=>trivial)) (kZ HB.out));replace HB:=mk0 (kS HB.out hb);(try clear hb);(try clear ho0))|(go_at_call 29;(with_reducible refine (laws_bytesOf.calls _ _ t424 t434 _ ?side1 ?side2 A6.out).mono ?_);(case side1=>exact kC (Kd.R_reads' HO428.out).2.2);(case side2=>exact (Kd.R_reads' HO428.out).2.1);rintro e w14 ⟨v435,rfl,ho0,hb⟩;replace HO433:=mk0 (Kd.N_elder' (rN HO433.out) (Kd.R_base ho0) hb);have HO436:=mk0 (Kd.R_lower (Kd.R_new' (Kd.R_new' ho0 (Kd.R_lt (rR HO428.out))) (Kd.R_lt (rR HO430.out))) (kZ HB.out));replace HO428:=mk0 (Kd.R_elder' (rR HO428.out) (Kd.R_base ho0) hb);replace HO430:=mk0 (Kd.R_elder' (rR HO430.out) (Kd.R_base ho0) hb);replace HB:=mk0 (kS HB.out hb);(try clear hb);(try clear ho0))|(go_at_call 29;(with_reducible refine (laws_bytesOf.calls _ _ t425 t437 _ ?side1 ?side2 A7.out).mono ?_);(case side1=>exact kC (Kd.R_reads' HO430.out).2.2);(case side2=>exact (Kd.R_reads' HO430.out).2.1);rintro e w15 ⟨v438,rfl,ho0,hb⟩;replace HO433:=mk0 (Kd.N_elder' (rN HO433.out) (Kd.R_base ho0) hb);have HO439:=mk0 (Kd.R_lower (Kd.R_new' (Kd.R_new' (Kd.R_new' ho0 (Kd.R_lt (rR HO428.out))) (Kd.R_lt (rR HO430.out))) (Kd.R_lt (rR HO436.out))) (kZ HB.out));replace HO428:=mk0 (Kd.R_elder' (rR HO428.out) (Kd.R_base ho0) hb);replace HO430:=mk0 (Kd.R_elder' (rR HO430.out) (Kd.R_base ho0) hb);replace HO436:=mk0 (Kd.R_elder' (rR HO436.out) (Kd.R_base ho0) hb);replace HB:=mk0 (kS HB.out hb);(try clear hb);(try clear ho0);obtain⟨Ao16,co16,eo16⟩:=Kd.R_slice HO436.out;subst eo16;obtain⟨Ao17,co17,eo17⟩:=Kd.R_slice HO439.out;subst eo17)|(go_at_call 28;(with_reducible refine (impl_Parts.calls k _ _ t434 _ _ t437 t426 t440 _ ?side1 ?side2 ?side3 ?side4 A8.out).mono ?_);(case side1=>exact kC (Kd.R_reads' HO436.out).2.2);(case side2=>exact (Kd.R_reads' HO436.out).2.1);(case side3=>exact kC (Kd.R_reads' HO439.out).2.2);(case side4=>exact (Kd.R_reads' HO439.out).2.1);rintro e w18 ⟨v441,rfl,ho0,hb⟩;have HO442:=mk0 (Kd.N_lower (Kd.N_mono (ok':=fun k_=>some k_ ≠ (.slice Ao11 t424.length co11:Value).ownBlock ∧ some k_ ≠ (.slice Ao12 t425.length co12:Value).ownBlock ∧ some k_ ≠ (v432:Value).ownBlock ∧ some k_ ≠ (.slice Ao16 t434.length co16:Value).ownBlock ∧ some k_ ≠ (.slice Ao17 t437.length co17:Value).ownBlock) ho0 (fun k_ hk_=>⟨(Kd.fresh' (Kd.R_lt (rR HO428.out)) k_ hk_),(Kd.fresh' (Kd.R_lt (rR HO430.out)) k_ hk_),(Kd.fresh' (Kd.N_lt (rN HO433.out)) k_ hk_),(Kd.fresh' (Kd.R_lt (rR HO436.out)) k_ hk_),(Kd.fresh' (Kd.R_lt (rR HO439.out)) k_ hk_)⟩)) (kZ HB.out));replace HO428:=mk0 (bR HO428.out hb);replace HO430:=mk0 (bR HO430.out hb);replace HO433:=mk0 (Kd.N_elder' (rN HO433.out) (Kd.N_base ho0) hb);replace HO436:=mk0 (bR HO436.out hb);replace HO439:=mk0 (bR HO439.out hb);replace HB:=mk0 (kS HB.out hb);(try clear hb);(try clear ho0))))
 (try simp only [Act.put,sA,sO,sS])
 go_cut [41] (fun v41 wc=>∃ (kq:Nat) (x41_8:Bool),v41 = .bool x41_8 ∧ Aside0 (laws_FnParts.j0 kq t424 t425 t426 t431 t440 x41_8 = some r) ∧ Aside0 (kq ≤ k) ∧ Aside0 (Kd.R (Kd.int .u8) 5 wc w.heap.size (fun k_=>some k_ ≠ ((.slice Ao12 t425.length co12):Value).ownBlock) (.slice Ao11 t424.length co11) t424) ∧ Aside0 (Kd.R (Kd.int .u8) 5 wc w.heap.size (fun k_=>some k_ ≠ ((.slice Ao11 t424.length co11):Value).ownBlock) (.slice Ao12 t425.length co12) t425) ∧ Aside0 (Kd.N k48 48 wc w.heap.size (fun k_=>some k_ ≠ (v441:Value).ownBlock) v432 t431) ∧ Aside0 (Kd.N k48 48 wc w.heap.size (fun k_=>some k_ ≠ ((.slice Ao11 t424.length co11):Value).ownBlock ∧ some k_ ≠ ((.slice Ao12 t425.length co12):Value).ownBlock ∧ some k_ ≠ (v432:Value).ownBlock) v441 t440) ∧ Aside0 (Below w.heap.size w wc))
 case first =>
  have H:=HC9.out
  clear HC9
  by_cases c19:(t440.length:Int) = (t431.length:Int)
  rotate_left
  ·rw [if_neg c19] at H
   have c19b0:((t440.length:Int) == (t431.length:Int)) = false:=beq_eq_false_iff_ne.mpr c19
   (try simp only [hl449_0] at c19b0)
   (try simp only [hl451_0] at c19b0)
   have c19b1:((t440.length:Int) != (t431.length:Int)) = true:=bne_iff_ne.mpr c19
   (try simp only [hl449_0] at c19b1)
   (try simp only [hl451_0] at c19b1)
   have c19b2:(t440.length == t431.length) = false:=by first|simpa using c19|(simp at c19 ⊢;omega)
   (try simp only [hl449_0] at c19b2)
   (try simp only [hl451_0] at c19b2)
   (first|rw [c19b0]|(simp only [i64_w,i32_w];rw [c19b0])|skip)
   have H':=mk0 H
   clear H
   obtain⟨Ao22,co22,eo22⟩:=Kd.N_slice HO442.out
   subst eo22
   obtain⟨Ao23,co23,eo23⟩:=Kd.N_slice HO433.out
   subst eo23
   go_wp2
   repeat (go_quiet (fail);try go_wp2)
   go_meet
   case rel=>exact⟨_,(true),(by first|rfl|(simp;done)|(simp [*];done)),H',⟨by first|omega|exact Nat.le_refl _⟩,⟨rR (Kd.R_mono HO428.out (fun _ hk=>hk.1.1))⟩,⟨rR (Kd.R_mono HO430.out (fun _ hk=>hk.1.1))⟩,⟨rN (Kd.N_mono HO433.out (fun _ hk=>hk.2))⟩,⟨rN (Kd.N_mono HO442.out (fun _ hk=>⟨hk.1,⟨hk.2.1,hk.2.2.1⟩⟩))⟩,⟨kB HB.out⟩⟩
  rw [if_pos c19] at H
  have c19b0:((t440.length:Int) == (t431.length:Int)) = true:=beq_iff_eq.mpr c19
  (try simp only [hl449_0] at c19b0)
  (try simp only [hl451_0] at c19b0)
  have c19b1:((t440.length:Int) != (t431.length:Int)) = false:=bne_eq_false_iff_eq.mpr c19
  (try simp only [hl449_0] at c19b1)
  (try simp only [hl451_0] at c19b1)
  have c19b2:(t440.length == t431.length) = true:=by first|simpa using c19|(simp at c19 ⊢;omega)
  (try simp only [hl449_0] at c19b2)
  (try simp only [hl451_0] at c19b2)
  clear c19
  (first|rw [c19b0]|(simp only [i64_w,i32_w];rw [c19b0])|skip)
  have H':=mk0 H
  clear H
  obtain⟨Ao20,co20,eo20⟩:=Kd.N_slice HO442.out
  subst eo20
  obtain⟨Ao21,co21,eo21⟩:=Kd.N_slice HO433.out
  subst eo21
  go_wp2
  repeat (go_quiet (fail);try go_wp2)
  go_meet
  case rel=>exact⟨_,(((t440.length:Int) == 0)),(by first|rfl|(simp;done)|(simp [*];done)),H',⟨by first|omega|exact Nat.le_refl _⟩,⟨rR (Kd.R_mono HO428.out (fun _ hk=>hk.1.1))⟩,⟨rR (Kd.R_mono HO430.out (fun _ hk=>hk.1.1))⟩,⟨rN (Kd.N_mono HO433.out (fun _ hk=>hk.2))⟩,⟨rN (Kd.N_mono HO442.out (fun _ hk=>⟨hk.1,⟨hk.2.1,hk.2.2.1⟩⟩))⟩,⟨kB HB.out⟩⟩
 case rest =>
  clear HC9
  try clear c1
  try clear p2
  try clear c3
  try clear c7
  try clear c19
  try clear c19b0
  try clear c19b1
  try clear c19b2
  obtain⟨kq,x41_8,rfl,HA,HJ8,HO_3,HO_4,HO_6,HO_7,HB⟩:=hcut
  cases kq with
  | zero=>exact absurd HA.out (by simp [laws_FnParts.j0])
  | succ kj8 =>
   have H:=HA.out
   clear HA
   simp only [laws_FnParts.j0] at H
   by_cases c24:x41_8 = true
   ·subst c24
    have H1:(some ((t440.length:Int) == (t431.length:Int))) = some r:=by rw [if_pos rfl] at H;exact H
    clear H
    have H:=H1
    clear H1
    obtain rfl:=Option.some.inj H
    obtain⟨Ao25,co25,eo25⟩:=Kd.N_slice HO_7.out
    subst eo25
    obtain⟨Ao26,co26,eo26⟩:=Kd.N_slice HO_6.out
    subst eo26
    go_wp2
    repeat (go_quiet (fail);try go_wp2)
    go_ret
    exact⟨by first|rfl|(simp [errW_none,errW_some] <;> rfl)|(simp [*,errW_none,errW_some] <;> rfl),kB HB.out⟩
   replace c24:=Bool.eq_false_iff.mpr c24
   subst c24
   have H1:((spec_SuffixRows.f kj8 t424).bind fun t443=>((spec_SuffixRows.f kj8 t425).bind fun t446=>(laws_FnParts.l0 kj8 t424 t425 t426 t440 0 t443 t446))) = some r:=by rw [if_neg (show ¬ (false = true) by decide)] at H;exact H
   clear H
   have H:=H1
   clear H1
   replace H:=Option.bind_eq_some_iff.mp H
   obtain⟨t443,A270,H⟩:=H
   replace H:((spec_SuffixRows.f kj8 t425).bind fun t446=>(laws_FnParts.l0 kj8 t424 t425 t426 t440 0 t443 t446)) = some r:=H
   have A27:=mk0 A270
   clear A270
   replace H:=Option.bind_eq_some_iff.mp H
   obtain⟨t446,A280,H⟩:=H
   replace H:(laws_FnParts.l0 kj8 t424 t425 t426 t440 0 t443 t446) = some r:=H
   have A28:=mk0 A280
   clear A280
   have H':=mk0 H
   clear H
   go_wp2_with (first|(go_at_call 30;(with_reducible refine (spec_SuffixRows.calls kj8 _ _ t424 t443 _ ?side1 ?side2 A27.out).mono ?_);(case side1=>exact kC (Kd.R_reads' HO_3.out).2.2);(case side2=>exact (Kd.R_reads' HO_3.out).2.1);rintro e w29 ⟨v444,rfl,ho0,hb⟩;replace HO_3:=mk0 (bR HO_3.out hb);replace HO_4:=mk0 (bR HO_4.out hb);replace HO_6:=mk0 (Kd.N_elder' (rN HO_6.out) (Kd.R_base ho0) hb);replace HO_7:=mk0 (Kd.N_elder' (rN HO_7.out) (Kd.R_base ho0) hb);have HO445:=mk0 (Kd.R_lower ho0 (kZ HB.out));replace HB:=mk0 (kS HB.out hb);(try clear hb);(try clear ho0))|(go_at_call 30;(with_reducible refine (spec_SuffixRows.calls kj8 _ _ t425 t446 _ ?side1 ?side2 A28.out).mono ?_);(case side1=>exact kC (Kd.R_reads' HO_4.out).2.2);(case side2=>exact (Kd.R_reads' HO_4.out).2.1);rintro e w30 ⟨v447,rfl,ho0,hb⟩;replace HO_3:=mk0 (bR HO_3.out hb);replace HO_4:=mk0 (bR HO_4.out hb);replace HO_6:=mk0 (Kd.N_elder' (rN HO_6.out) (Kd.R_base ho0) hb);replace HO_7:=mk0 (Kd.N_elder' (rN HO_7.out) (Kd.R_base ho0) hb);have HO448:=mk0 (Kd.R_lower (Kd.R_new' ho0 (Kd.R_lt (rR HO445.out))) (kZ HB.out));replace HO445:=mk0 (Kd.R_elder' (rR HO445.out) (Kd.R_base ho0) hb);replace HB:=mk0 (kS HB.out hb);(try clear hb);(try clear ho0)))
   repeat (go_quiet (first|(go_at_call 30;(with_reducible refine (spec_SuffixRows.calls kj8 _ _ t424 t443 _ ?side1 ?side2 A27.out).mono ?_);(case side1=>exact kC (Kd.R_reads' HO_3.out).2.2);(case side2=>exact (Kd.R_reads' HO_3.out).2.1);rintro e w29 ⟨v444,rfl,ho0,hb⟩;replace HO_3:=mk0 (bR HO_3.out hb);replace HO_4:=mk0 (bR HO_4.out hb);replace HO_6:=mk0 (Kd.N_elder' (rN HO_6.out) (Kd.R_base ho0) hb);replace HO_7:=mk0 (Kd.N_elder' (rN HO_7.out) (Kd.R_base ho0) hb);have HO445:=mk0 (Kd.R_lower ho0 (kZ HB.out));replace HB:=mk0 (kS HB.out hb);(try clear hb);(try clear ho0))|(go_at_call 30;(with_reducible refine (spec_SuffixRows.calls kj8 _ _ t425 t446 _ ?side1 ?side2 A28.out).mono ?_);(case side1=>exact kC (Kd.R_reads' HO_4.out).2.2);(case side2=>exact (Kd.R_reads' HO_4.out).2.1);rintro e w30 ⟨v447,rfl,ho0,hb⟩;replace HO_3:=mk0 (bR HO_3.out hb);replace HO_4:=mk0 (bR HO_4.out hb);replace HO_6:=mk0 (Kd.N_elder' (rN HO_6.out) (Kd.R_base ho0) hb);replace HO_7:=mk0 (Kd.N_elder' (rN HO_7.out) (Kd.R_base ho0) hb);have HO448:=mk0 (Kd.R_lower (Kd.R_new' ho0 (Kd.R_lt (rR HO445.out))) (kZ HB.out));replace HO445:=mk0 (Kd.R_elder' (rR HO445.out) (Kd.R_base ho0) hb);replace HB:=mk0 (kS HB.out hb);(try clear hb);(try clear ho0)));try go_wp2_with (first|(go_at_call 30;(with_reducible refine (spec_SuffixRows.calls kj8 _ _ t424 t443 _ ?side1 ?side2 A27.out).mono ?_);(case side1=>exact kC (Kd.R_reads' HO_3.out).2.2);(case side2=>exact (Kd.R_reads' HO_3.out).2.1);rintro e w29 ⟨v444,rfl,ho0,hb⟩;replace HO_3:=mk0 (bR HO_3.out hb);replace HO_4:=mk0 (bR HO_4.out hb);replace HO_6:=mk0 (Kd.N_elder' (rN HO_6.out) (Kd.R_base ho0) hb);replace HO_7:=mk0 (Kd.N_elder' (rN HO_7.out) (Kd.R_base ho0) hb);have HO445:=mk0 (Kd.R_lower ho0 (kZ HB.out));replace HB:=mk0 (kS HB.out hb);(try clear hb);(try clear ho0))|(go_at_call 30;(with_reducible refine (spec_SuffixRows.calls kj8 _ _ t425 t446 _ ?side1 ?side2 A28.out).mono ?_);(case side1=>exact kC (Kd.R_reads' HO_4.out).2.2);(case side2=>exact (Kd.R_reads' HO_4.out).2.1);rintro e w30 ⟨v447,rfl,ho0,hb⟩;replace HO_3:=mk0 (bR HO_3.out hb);replace HO_4:=mk0 (bR HO_4.out hb);replace HO_6:=mk0 (Kd.N_elder' (rN HO_6.out) (Kd.R_base ho0) hb);replace HO_7:=mk0 (Kd.N_elder' (rN HO_7.out) (Kd.R_base ho0) hb);have HO448:=mk0 (Kd.R_lower (Kd.R_new' ho0 (Kd.R_lt (rR HO445.out))) (kZ HB.out));replace HO445:=mk0 (Kd.R_elder' (rR HO445.out) (Kd.R_base ho0) hb);replace HB:=mk0 (kS HB.out hb);(try clear hb);(try clear ho0))))
   go_loopg [10] kj8 (fun kq v10 w'=>∃ (x10_2:Int),v10 = .int .i64 x10_2 ∧ Aside0 (laws_FnParts.l0 kq t424 t425 t426 t440 x10_2 t443 t446 = some r) ∧ Aside0 (kq ≤ kj8) ∧ Aside0 (Kd.R (Kd.int .u8) 5 w' w.heap.size (fun k_=>some k_ ≠ ((.slice Ao12 t425.length co12):Value).ownBlock) (.slice Ao11 t424.length co11) t424) ∧ Aside0 (Kd.R (Kd.int .u8) 5 w' w.heap.size (fun k_=>some k_ ≠ ((.slice Ao11 t424.length co11):Value).ownBlock) (.slice Ao12 t425.length co12) t425) ∧ Aside0 (Kd.N k48 48 w' w.heap.size (fun k_=>some k_ ≠ ((.slice Ao11 t424.length co11):Value).ownBlock ∧ some k_ ≠ ((.slice Ao12 t425.length co12):Value).ownBlock ∧ some k_ ≠ (v444:Value).ownBlock ∧ some k_ ≠ (v447:Value).ownBlock) v441 t440) ∧ Aside0 (Kd.R (Kd.int .i64) 3 w' w.heap.size (fun k_=>some k_ ≠ (v447:Value).ownBlock) v444 t443) ∧ Aside0 (Kd.R (Kd.int .i64) 3 w' w.heap.size (fun k_=>some k_ ≠ (v444:Value).ownBlock) v447 t446) ∧ Aside0 (Below w.heap.size w w'))
   case atStart=>exact⟨(0),(by first|rfl|(simp;done)|(simp [*];done)),H',⟨Nat.le_refl _⟩,⟨rR HO_3.out⟩,⟨rR HO_4.out⟩,⟨rN (Kd.N_mono HO_7.out (fun _ hk=>⟨hk.1.1.1,⟨hk.1.1.2.1,⟨hk.1.2,hk.2⟩⟩⟩))⟩,⟨rR (Kd.R_mono HO445.out (fun _ hk=>hk.2))⟩,⟨rR (Kd.R_mono HO448.out (fun _ hk=>hk.2))⟩,⟨kB HB.out⟩⟩
   case round =>
    clear H'
    try clear c1
    try clear c2
    try clear p2
    try clear c3
    try clear c7
    try clear c19
    try clear c19b0
    try clear c19b1
    try clear c19b2
    try clear c24
    try clear p2
    obtain⟨x10_2,rfl,HA,HK2,HO_3,HO_4,HO_7,HO_48,HO_50,HB⟩:=hrel
    cases gk with
    | zero=>exact absurd HA.out (by simp [laws_FnParts.l0])
    | succ k2 =>
     have H:=HA.out
     clear HA
     simp only [laws_FnParts.l0] at H
     by_cases c31:x10_2 < (t440.length:Int)
     rotate_left
     ·rw [if_neg c31] at H
      have c31b0:decide (x10_2 < (t440.length:Int)) = false:=decide_eq_false c31
      (try simp only [hl449_0] at c31b0)
      (try simp only [hl451_0] at c31b0)
      clear c31
      replace H:=Option.bind_eq_some_iff.mp H
      obtain⟨t466,A1210,H⟩:=H
      replace H:(some t466) = some r:=H
      have A121:=mk0 A1210
      clear A1210
      obtain rfl:=Option.some.inj H
      obtain⟨Ao122,co122,eo122⟩:=Kd.N_slice HO_7.out
      subst eo122
      go_wp2_with (first|(go_at_call 31;(with_reducible refine (impl_PartsOk.calls k2 _ _ t424 _ _ t425 _ _ t440 t466 _ ?side1 ?side2 ?side3 ?side4 ?side5 ?side6 A121.out).mono ?_);(case side1=>exact kC (Kd.R_reads' HO_3.out).2.2);(case side2=>exact (Kd.R_reads' HO_3.out).2.1);(case side3=>exact kC (Kd.R_reads' HO_4.out).2.2);(case side4=>exact (Kd.R_reads' HO_4.out).2.1);(case side5=>exact kC (Kd.N_reads' HO_7.out).2.2);(case side6=>exact (Kd.N_reads' HO_7.out).2.1);rintro e w123 ⟨rfl,hb⟩;replace HO_3:=mk0 (bR HO_3.out hb);replace HO_4:=mk0 (bR HO_4.out hb);replace HO_7:=mk0 (bN HO_7.out hb);replace HO_48:=mk0 (bR HO_48.out hb);replace HO_50:=mk0 (bR HO_50.out hb);replace HB:=mk0 (kS HB.out hb);(try clear hb)))
      repeat (go_quiet (first|(go_at_call 31;(with_reducible refine (impl_PartsOk.calls k2 _ _ t424 _ _ t425 _ _ t440 t466 _ ?side1 ?side2 ?side3 ?side4 ?side5 ?side6 A121.out).mono ?_);(case side1=>exact kC (Kd.R_reads' HO_3.out).2.2);(case side2=>exact (Kd.R_reads' HO_3.out).2.1);(case side3=>exact kC (Kd.R_reads' HO_4.out).2.2);(case side4=>exact (Kd.R_reads' HO_4.out).2.1);(case side5=>exact kC (Kd.N_reads' HO_7.out).2.2);(case side6=>exact (Kd.N_reads' HO_7.out).2.1);rintro e w123 ⟨rfl,hb⟩;replace HO_3:=mk0 (bR HO_3.out hb);replace HO_4:=mk0 (bR HO_4.out hb);replace HO_7:=mk0 (bN HO_7.out hb);replace HO_48:=mk0 (bR HO_48.out hb);replace HO_50:=mk0 (bR HO_50.out hb);replace HB:=mk0 (kS HB.out hb);(try clear hb)));try go_wp2_with (first|(go_at_call 31;(with_reducible refine (impl_PartsOk.calls k2 _ _ t424 _ _ t425 _ _ t440 t466 _ ?side1 ?side2 ?side3 ?side4 ?side5 ?side6 A121.out).mono ?_);(case side1=>exact kC (Kd.R_reads' HO_3.out).2.2);(case side2=>exact (Kd.R_reads' HO_3.out).2.1);(case side3=>exact kC (Kd.R_reads' HO_4.out).2.2);(case side4=>exact (Kd.R_reads' HO_4.out).2.1);(case side5=>exact kC (Kd.N_reads' HO_7.out).2.2);(case side6=>exact (Kd.N_reads' HO_7.out).2.1);rintro e w123 ⟨rfl,hb⟩;replace HO_3:=mk0 (bR HO_3.out hb);replace HO_4:=mk0 (bR HO_4.out hb);replace HO_7:=mk0 (bN HO_7.out hb);replace HO_48:=mk0 (bR HO_48.out hb);replace HO_50:=mk0 (bR HO_50.out hb);replace HB:=mk0 (kS HB.out hb);(try clear hb))))
      go_ret
      exact⟨by first|rfl|(simp [errW_none,errW_some] <;> rfl)|(simp [*,errW_none,errW_some] <;> rfl),kB HB.out⟩

     rw [if_pos c31] at H
     have c31b0:decide (x10_2 < (t440.length:Int)) = true:=decide_eq_true c31
     (try simp only [hl449_0] at c31b0)
     (try simp only [hl451_0] at c31b0)
     clear c31
     by_cases c32:0 ≤ x10_2
     rotate_left
     ·rw [if_neg c32] at H
      exact absurd H (by simp)
     rw [if_pos c32] at H
     have c32b0:decide (0 ≤ x10_2) = true:=decide_eq_true c32
     clear c32
     have HC33:=mk0 H
     clear H
     obtain⟨Ao34,co34,eo34⟩:=Kd.N_slice HO_7.out
     subst eo34
     have p449:0 ≤ (x10_2:Int):=of_decide_eq_true (by first|(with_reducible assumption)|assumption)
     have q449:x10_2 < (t440.length:Int):=of_decide_eq_true (by first|(with_reducible assumption)|assumption)
     obtain⟨ad449,A449_0,c449_0,e449,hx449_0,hx449_1,hx449_2,hx449_3,hx449_4,hl449_0,hi449_0⟩:=at_T48 (Kd.N_reads' HO_7.out).2.2 x10_2 p449 q449
     cases e449
     obtain⟨ce449,hce449,hMe449,hcc449⟩:=Kd.N_get HO_7.out z48 x10_2 p449 (by first|exact q449|exact of_decide_eq_true (by first|(with_reducible assumption)|assumption)|(have e_:=(Kd.N_reads' HO_7.out).1;omega))
     obtain⟨ua449_0,uc449_0,rfl,ul449_0,ge449_0⟩:=k48_openF hMe449
     have hv449_0:=hcc449 0 _ rfl
     rw [Nat.add_zero] at hv449_0
     replace hv449_0:=Option.some.inj (hv449_0.symm.trans hx449_0)
     injection hv449_0 with hva_ hvn_ hvc_
     rw [hva_] at ge449_0
     rw [hvc_] at ul449_0
     have HL449_0:=mk0 (show Kd.V (Kd.int .u8) 5 _ w.heap.size _ _ ((rd_T48 t440 x10_2).f0) from Kd.V_mk ul449_0 ge449_0)
     clear hva_ hvn_ hvc_ ge449_0 ul449_0
     clear hcc449 hce449
     have HR449_0:=mk0 hi449_0
     have HC449_0:=mk0 hl449_0
     clear hi449_0 hl449_0
     replace p449:=eq_true p449
     replace q449:=eq_true q449
     go_upto_region 14 with (first|((with_reducible refine gate_dst (N:=11) rfl ?_);(try (refine gate_guard (by rfl) ?_;dsimp only));refine box_event ?hg (N:=11) ?hd (cs:=#[.slice none 0 0,.int .i64 0,.int .i64 0,.int .i64 0,.int .i64 0]) (t:=48) ?hr ?_;(case hd=>rfl);(case hg=>rfl);(case hr=>first|(go_simp;done)|(go_simp;rfl));intro gb450 hg w35 hbox hb;replace HO_3:=mk0 (bR HO_3.out hb);replace HO_4:=mk0 (bR HO_4.out hb);replace HO_7:=mk0 (Kd.N_below (Kd.N_elderB (rN HO_7.out) gb450 (Nat.le_of_eq hg.symm)) hb);replace HO_48:=mk0 (bR HO_48.out hb);replace HO_50:=mk0 (bR HO_50.out hb);replace HR449_0:=mk0 (Kd.C_below (by repeat (first|(with_reducible exact HR449_0.out)|(with_reducible first|apply aC|apply nC|apply dC)|exact HR449_0.out|exact (Kd.V_reads' HL449_0.out).2.2)) hb);replace HL449_0:=mk0 (Kd.V_below (Kd.V_elderB (rV HL449_0.out) gb450 (Nat.le_of_eq hg.symm)) hb);have BK450:=mk0 (hbox);have GW450:=mk0 ((by rw [hg];exact (kZ HB.out):w.heap.size ≤ gb450));have GE450:=mk0 ((by rw [hg];exact (kZ HB.out):w.heap.size ≤ gb450));replace HB:=mk0 (kS HB.out hb);clear hb hbox hg;obtain⟨hcz36_0,hcz36_1,hcz36_2,hcz36_3,hcz36_4,hfz36_0,hfz36_1,hfz36_2,hfz36_3,hfz36_4⟩:=cz5 BK450.out))
     repeat (go_quiet (first|((with_reducible refine gate_dst (N:=11) rfl ?_);(try (refine gate_guard (by rfl) ?_;dsimp only));refine box_event ?hg (N:=11) ?hd (cs:=#[.slice none 0 0,.int .i64 0,.int .i64 0,.int .i64 0,.int .i64 0]) (t:=48) ?hr ?_;(case hd=>rfl);(case hg=>rfl);(case hr=>first|(go_simp;done)|(go_simp;rfl));intro gb450 hg w35 hbox hb;replace HO_3:=mk0 (bR HO_3.out hb);replace HO_4:=mk0 (bR HO_4.out hb);replace HO_7:=mk0 (Kd.N_below (Kd.N_elderB (rN HO_7.out) gb450 (Nat.le_of_eq hg.symm)) hb);replace HO_48:=mk0 (bR HO_48.out hb);replace HO_50:=mk0 (bR HO_50.out hb);replace HR449_0:=mk0 (Kd.C_below (by repeat (first|(with_reducible exact HR449_0.out)|(with_reducible first|apply aC|apply nC|apply dC)|exact HR449_0.out|exact (Kd.V_reads' HL449_0.out).2.2)) hb);replace HL449_0:=mk0 (Kd.V_below (Kd.V_elderB (rV HL449_0.out) gb450 (Nat.le_of_eq hg.symm)) hb);have BK450:=mk0 (hbox);have GW450:=mk0 ((by rw [hg];exact (kZ HB.out):w.heap.size ≤ gb450));have GE450:=mk0 ((by rw [hg];exact (kZ HB.out):w.heap.size ≤ gb450));replace HB:=mk0 (kS HB.out hb);clear hb hbox hg;obtain⟨hcz36_0,hcz36_1,hcz36_2,hcz36_3,hcz36_4,hfz36_0,hfz36_1,hfz36_2,hfz36_3,hfz36_4⟩:=cz5 BK450.out));go_upto_region 14 with (first|((with_reducible refine gate_dst (N:=11) rfl ?_);(try (refine gate_guard (by rfl) ?_;dsimp only));refine box_event ?hg (N:=11) ?hd (cs:=#[.slice none 0 0,.int .i64 0,.int .i64 0,.int .i64 0,.int .i64 0]) (t:=48) ?hr ?_;(case hd=>rfl);(case hg=>rfl);(case hr=>first|(go_simp;done)|(go_simp;rfl));intro gb450 hg w35 hbox hb;replace HO_3:=mk0 (bR HO_3.out hb);replace HO_4:=mk0 (bR HO_4.out hb);replace HO_7:=mk0 (Kd.N_below (Kd.N_elderB (rN HO_7.out) gb450 (Nat.le_of_eq hg.symm)) hb);replace HO_48:=mk0 (bR HO_48.out hb);replace HO_50:=mk0 (bR HO_50.out hb);replace HR449_0:=mk0 (Kd.C_below (by repeat (first|(with_reducible exact HR449_0.out)|(with_reducible first|apply aC|apply nC|apply dC)|exact HR449_0.out|exact (Kd.V_reads' HL449_0.out).2.2)) hb);replace HL449_0:=mk0 (Kd.V_below (Kd.V_elderB (rV HL449_0.out) gb450 (Nat.le_of_eq hg.symm)) hb);have BK450:=mk0 (hbox);have GW450:=mk0 ((by rw [hg];exact (kZ HB.out):w.heap.size ≤ gb450));have GE450:=mk0 ((by rw [hg];exact (kZ HB.out):w.heap.size ≤ gb450));replace HB:=mk0 (kS HB.out hb);clear hb hbox hg;obtain⟨hcz36_0,hcz36_1,hcz36_2,hcz36_3,hcz36_4,hfz36_0,hfz36_1,hfz36_2,hfz36_3,hfz36_4⟩:=cz5 BK450.out)))
     (try simp only [Act.put,sA,sO,sS])
     go_cut [113] (fun v113 wc=>∃ (kq:Nat) (x113_32:Bool),v113 = .bool x113_32 ∧ Aside0 (laws_FnParts.j2 kq t424 t425 t426 t440 t443 t446 x10_2 x113_32 ((rd_T48 t440 x10_2).f0) ((rd_T48 t440 x10_2).f1) ((rd_T48 t440 x10_2).f2) ((rd_T48 t440 x10_2).f3) ((rd_T48 t440 x10_2).f4) = some r) ∧ Aside0 (kq ≤ k2) ∧ Aside0 (Kd.R (Kd.int .u8) 5 wc w.heap.size (fun k_=>some k_ ≠ ((.slice Ao12 t425.length co12):Value).ownBlock) (.slice Ao11 t424.length co11) t424) ∧ Aside0 (Kd.R (Kd.int .u8) 5 wc w.heap.size (fun k_=>some k_ ≠ ((.slice Ao11 t424.length co11):Value).ownBlock) (.slice Ao12 t425.length co12) t425) ∧ Aside0 (Kd.N k48 48 wc w.heap.size (fun k_=>some k_ ≠ ((.slice Ao11 t424.length co11):Value).ownBlock ∧ some k_ ≠ ((.slice Ao12 t425.length co12):Value).ownBlock ∧ some k_ ≠ (v444:Value).ownBlock ∧ some k_ ≠ (v447:Value).ownBlock ∧ k_ ≠ gb450) (.slice (some ad449) t440.length co34) t440) ∧ Aside0 (Kd.R (Kd.int .i64) 3 wc w.heap.size (fun k_=>some k_ ≠ (v447:Value).ownBlock) v444 t443) ∧ Aside0 (Kd.R (Kd.int .i64) 3 wc w.heap.size (fun k_=>some k_ ≠ (v444:Value).ownBlock) v447 t446) ∧ Aside0 (wc.heap[gb450]? = some (.cells #[(.slice A449_0 ((rd_T48 t440 x10_2).f0).length c449_0),.int .i64 ((rd_T48 t440 x10_2).f1),.int .i64 ((rd_T48 t440 x10_2).f2),.int .i64 ((rd_T48 t440 x10_2).f3),.int .i64 ((rd_T48 t440 x10_2).f4)] 48 (0,0))) ∧ Aside0 (Kd.C (Kd.int .u8) wc A449_0 ((rd_T48 t440 x10_2).f0).length ((rd_T48 t440 x10_2).f0)) ∧ Aside0 (Below w.heap.size w wc))
     case first =>
      have H:=HC33.out
      clear HC33
      have n0_:Aside0 (Kd.R (Kd.int .u8) 5 (((((w35.setCell ⟨gb450,0,none⟩ (.slice A449_0 ((rd_T48 t440 x10_2).f0).length c449_0)).setCell ⟨gb450,1,none⟩ (.int .i64 ((rd_T48 t440 x10_2).f1))).setCell ⟨gb450,2,none⟩ (.int .i64 ((rd_T48 t440 x10_2).f2))).setCell ⟨gb450,3,none⟩ (.int .i64 ((rd_T48 t440 x10_2).f3))).setCell ⟨gb450,4,none⟩ (.int .i64 ((rd_T48 t440 x10_2).f4))) w.heap.size (fun k_=>some k_ ≠ ((.slice Ao12 t425.length co12):Value).ownBlock) (.slice Ao11 t424.length co11) t424):=⟨by (with_reducible repeat (first|apply aR|apply nR|apply dR));exact Kd.R_mono (Kd.R_far (p:=⟨gb450,4,none⟩) (Kd.R_far (p:=⟨gb450,3,none⟩) (Kd.R_far (p:=⟨gb450,2,none⟩) (Kd.R_far (p:=⟨gb450,1,none⟩) (Kd.R_far (p:=⟨gb450,0,none⟩) (Kd.R_types HO_3.out BK450.out (by decide)) (fun _ hk=>hk.2) (.slice A449_0 ((rd_T48 t440 x10_2).f0).length c449_0)) (fun _ hk=>hk.2) (.int .i64 ((rd_T48 t440 x10_2).f1))) (fun _ hk=>hk.2) (.int .i64 ((rd_T48 t440 x10_2).f2))) (fun _ hk=>hk.2) (.int .i64 ((rd_T48 t440 x10_2).f3))) (fun _ hk=>hk.2) (.int .i64 ((rd_T48 t440 x10_2).f4))) (fun _ hk=>hk.1)⟩
      have n1_:Aside0 (Kd.R (Kd.int .u8) 5 (((((w35.setCell ⟨gb450,0,none⟩ (.slice A449_0 ((rd_T48 t440 x10_2).f0).length c449_0)).setCell ⟨gb450,1,none⟩ (.int .i64 ((rd_T48 t440 x10_2).f1))).setCell ⟨gb450,2,none⟩ (.int .i64 ((rd_T48 t440 x10_2).f2))).setCell ⟨gb450,3,none⟩ (.int .i64 ((rd_T48 t440 x10_2).f3))).setCell ⟨gb450,4,none⟩ (.int .i64 ((rd_T48 t440 x10_2).f4))) w.heap.size (fun k_=>some k_ ≠ ((.slice Ao11 t424.length co11):Value).ownBlock) (.slice Ao12 t425.length co12) t425):=⟨by (with_reducible repeat (first|apply aR|apply nR|apply dR));exact Kd.R_mono (Kd.R_far (p:=⟨gb450,4,none⟩) (Kd.R_far (p:=⟨gb450,3,none⟩) (Kd.R_far (p:=⟨gb450,2,none⟩) (Kd.R_far (p:=⟨gb450,1,none⟩) (Kd.R_far (p:=⟨gb450,0,none⟩) (Kd.R_types HO_4.out BK450.out (by decide)) (fun _ hk=>hk.2) (.slice A449_0 ((rd_T48 t440 x10_2).f0).length c449_0)) (fun _ hk=>hk.2) (.int .i64 ((rd_T48 t440 x10_2).f1))) (fun _ hk=>hk.2) (.int .i64 ((rd_T48 t440 x10_2).f2))) (fun _ hk=>hk.2) (.int .i64 ((rd_T48 t440 x10_2).f3))) (fun _ hk=>hk.2) (.int .i64 ((rd_T48 t440 x10_2).f4))) (fun _ hk=>hk.1)⟩
      have n2_:Aside0 (Kd.N k48 48 (((((w35.setCell ⟨gb450,0,none⟩ (.slice A449_0 ((rd_T48 t440 x10_2).f0).length c449_0)).setCell ⟨gb450,1,none⟩ (.int .i64 ((rd_T48 t440 x10_2).f1))).setCell ⟨gb450,2,none⟩ (.int .i64 ((rd_T48 t440 x10_2).f2))).setCell ⟨gb450,3,none⟩ (.int .i64 ((rd_T48 t440 x10_2).f3))).setCell ⟨gb450,4,none⟩ (.int .i64 ((rd_T48 t440 x10_2).f4))) w.heap.size (fun k_=>some k_ ≠ ((.slice Ao11 t424.length co11):Value).ownBlock ∧ some k_ ≠ ((.slice Ao12 t425.length co12):Value).ownBlock ∧ some k_ ≠ (v444:Value).ownBlock ∧ some k_ ≠ (v447:Value).ownBlock ∧ k_ ≠ gb450) (.slice (some ad449) t440.length co34) t440):=⟨by (with_reducible repeat (first|apply aN|apply nN|apply dN));exact Kd.N_mono (Kd.N_far (p:=⟨gb450,4,none⟩) (Kd.N_far (p:=⟨gb450,3,none⟩) (Kd.N_far (p:=⟨gb450,2,none⟩) (Kd.N_far (p:=⟨gb450,1,none⟩) (Kd.N_far (p:=⟨gb450,0,none⟩) (Kd.N_mono HO_7.out (fun k_ hk=>(⟨hk,hk.2⟩:_ ∧ k_ ≠ gb450))) (fun _ hk=>hk.2) (.slice A449_0 ((rd_T48 t440 x10_2).f0).length c449_0)) (fun _ hk=>hk.2) (.int .i64 ((rd_T48 t440 x10_2).f1))) (fun _ hk=>hk.2) (.int .i64 ((rd_T48 t440 x10_2).f2))) (fun _ hk=>hk.2) (.int .i64 ((rd_T48 t440 x10_2).f3))) (fun _ hk=>hk.2) (.int .i64 ((rd_T48 t440 x10_2).f4))) (fun _ hk=>⟨hk.1.1.1,⟨hk.1.1.2.1,⟨hk.1.1.2.2.1,⟨hk.1.1.2.2.2,hk.1.2⟩⟩⟩⟩)⟩
      have n3_:Aside0 (Kd.R (Kd.int .i64) 3 (((((w35.setCell ⟨gb450,0,none⟩ (.slice A449_0 ((rd_T48 t440 x10_2).f0).length c449_0)).setCell ⟨gb450,1,none⟩ (.int .i64 ((rd_T48 t440 x10_2).f1))).setCell ⟨gb450,2,none⟩ (.int .i64 ((rd_T48 t440 x10_2).f2))).setCell ⟨gb450,3,none⟩ (.int .i64 ((rd_T48 t440 x10_2).f3))).setCell ⟨gb450,4,none⟩ (.int .i64 ((rd_T48 t440 x10_2).f4))) w.heap.size (fun k_=>some k_ ≠ (v447:Value).ownBlock) v444 t443):=⟨by (with_reducible repeat (first|apply aR|apply nR|apply dR));exact Kd.R_mono (Kd.R_far (p:=⟨gb450,4,none⟩) (Kd.R_far (p:=⟨gb450,3,none⟩) (Kd.R_far (p:=⟨gb450,2,none⟩) (Kd.R_far (p:=⟨gb450,1,none⟩) (Kd.R_far (p:=⟨gb450,0,none⟩) (Kd.R_types HO_48.out BK450.out (by decide)) (fun _ hk=>hk.2) (.slice A449_0 ((rd_T48 t440 x10_2).f0).length c449_0)) (fun _ hk=>hk.2) (.int .i64 ((rd_T48 t440 x10_2).f1))) (fun _ hk=>hk.2) (.int .i64 ((rd_T48 t440 x10_2).f2))) (fun _ hk=>hk.2) (.int .i64 ((rd_T48 t440 x10_2).f3))) (fun _ hk=>hk.2) (.int .i64 ((rd_T48 t440 x10_2).f4))) (fun _ hk=>hk.1)⟩
      have n4_:Aside0 (Kd.R (Kd.int .i64) 3 (((((w35.setCell ⟨gb450,0,none⟩ (.slice A449_0 ((rd_T48 t440 x10_2).f0).length c449_0)).setCell ⟨gb450,1,none⟩ (.int .i64 ((rd_T48 t440 x10_2).f1))).setCell ⟨gb450,2,none⟩ (.int .i64 ((rd_T48 t440 x10_2).f2))).setCell ⟨gb450,3,none⟩ (.int .i64 ((rd_T48 t440 x10_2).f3))).setCell ⟨gb450,4,none⟩ (.int .i64 ((rd_T48 t440 x10_2).f4))) w.heap.size (fun k_=>some k_ ≠ (v444:Value).ownBlock) v447 t446):=⟨by (with_reducible repeat (first|apply aR|apply nR|apply dR));exact Kd.R_mono (Kd.R_far (p:=⟨gb450,4,none⟩) (Kd.R_far (p:=⟨gb450,3,none⟩) (Kd.R_far (p:=⟨gb450,2,none⟩) (Kd.R_far (p:=⟨gb450,1,none⟩) (Kd.R_far (p:=⟨gb450,0,none⟩) (Kd.R_types HO_50.out BK450.out (by decide)) (fun _ hk=>hk.2) (.slice A449_0 ((rd_T48 t440 x10_2).f0).length c449_0)) (fun _ hk=>hk.2) (.int .i64 ((rd_T48 t440 x10_2).f1))) (fun _ hk=>hk.2) (.int .i64 ((rd_T48 t440 x10_2).f2))) (fun _ hk=>hk.2) (.int .i64 ((rd_T48 t440 x10_2).f3))) (fun _ hk=>hk.2) (.int .i64 ((rd_T48 t440 x10_2).f4))) (fun _ hk=>hk.1)⟩
      have n5_:Aside0 ((((((w35.setCell ⟨gb450,0,none⟩ (.slice A449_0 ((rd_T48 t440 x10_2).f0).length c449_0)).setCell ⟨gb450,1,none⟩ (.int .i64 ((rd_T48 t440 x10_2).f1))).setCell ⟨gb450,2,none⟩ (.int .i64 ((rd_T48 t440 x10_2).f2))).setCell ⟨gb450,3,none⟩ (.int .i64 ((rd_T48 t440 x10_2).f3))).setCell ⟨gb450,4,none⟩ (.int .i64 ((rd_T48 t440 x10_2).f4))).heap[gb450]? = some (.cells #[(.slice A449_0 ((rd_T48 t440 x10_2).f0).length c449_0),.int .i64 ((rd_T48 t440 x10_2).f1),.int .i64 ((rd_T48 t440 x10_2).f2),.int .i64 ((rd_T48 t440 x10_2).f3),.int .i64 ((rd_T48 t440 x10_2).f4)] 48 (0,0))):=⟨by (with_reducible repeat (first|apply nB|apply dB|apply aB));refine blk_put (cs:=#[.slice A449_0 ((rd_T48 t440 x10_2).f0).length c449_0,.int .i64 ((rd_T48 t440 x10_2).f1),.int .i64 ((rd_T48 t440 x10_2).f2),.int .i64 ((rd_T48 t440 x10_2).f3),.int .i64 0]) ?_ 4 _ rfl;(with_reducible repeat (first|apply nB|apply dB|apply aB));refine blk_put (cs:=#[.slice A449_0 ((rd_T48 t440 x10_2).f0).length c449_0,.int .i64 ((rd_T48 t440 x10_2).f1),.int .i64 ((rd_T48 t440 x10_2).f2),.int .i64 0,.int .i64 0]) ?_ 3 _ rfl;(with_reducible repeat (first|apply nB|apply dB|apply aB));refine blk_put (cs:=#[.slice A449_0 ((rd_T48 t440 x10_2).f0).length c449_0,.int .i64 ((rd_T48 t440 x10_2).f1),.int .i64 0,.int .i64 0,.int .i64 0]) ?_ 2 _ rfl;(with_reducible repeat (first|apply nB|apply dB|apply aB));refine blk_put (cs:=#[.slice A449_0 ((rd_T48 t440 x10_2).f0).length c449_0,.int .i64 0,.int .i64 0,.int .i64 0,.int .i64 0]) ?_ 1 _ rfl;(with_reducible repeat (first|apply nB|apply dB|apply aB));refine blk_put (cs:=#[.slice none 0 0,.int .i64 0,.int .i64 0,.int .i64 0,.int .i64 0]) ?_ 0 _ rfl;(with_reducible repeat (first|apply nB|apply dB|apply aB));exact BK450.out⟩
      have n6_:Aside0 (Kd.C (Kd.int .u8) (((((w35.setCell ⟨gb450,0,none⟩ (.slice A449_0 ((rd_T48 t440 x10_2).f0).length c449_0)).setCell ⟨gb450,1,none⟩ (.int .i64 ((rd_T48 t440 x10_2).f1))).setCell ⟨gb450,2,none⟩ (.int .i64 ((rd_T48 t440 x10_2).f2))).setCell ⟨gb450,3,none⟩ (.int .i64 ((rd_T48 t440 x10_2).f3))).setCell ⟨gb450,4,none⟩ (.int .i64 ((rd_T48 t440 x10_2).f4))) A449_0 ((rd_T48 t440 x10_2).f0).length ((rd_T48 t440 x10_2).f0)):=⟨(Kd.V_reads' (by (with_reducible repeat (first|apply aV|apply nV|apply dV));exact (Kd.V_mono (Kd.V_far (p:=⟨gb450,4,none⟩) (Kd.V_far (p:=⟨gb450,3,none⟩) (Kd.V_far (p:=⟨gb450,2,none⟩) (Kd.V_far (p:=⟨gb450,1,none⟩) (Kd.V_far (p:=⟨gb450,0,none⟩) (Kd.V_mono HL449_0.out (fun k_ hk=>(⟨hk,hk.2⟩:_ ∧ k_ ≠ gb450))) (fun _ hk=>hk.2) (.slice A449_0 ((rd_T48 t440 x10_2).f0).length c449_0)) (fun _ hk=>hk.2) (.int .i64 ((rd_T48 t440 x10_2).f1))) (fun _ hk=>hk.2) (.int .i64 ((rd_T48 t440 x10_2).f2))) (fun _ hk=>hk.2) (.int .i64 ((rd_T48 t440 x10_2).f3))) (fun _ hk=>hk.2) (.int .i64 ((rd_T48 t440 x10_2).f4))) (fun _ h_=>h_.1)))).2.2⟩
      have n7_:Aside0 (Below w.heap.size w (((((w35.setCell ⟨gb450,0,none⟩ (.slice A449_0 ((rd_T48 t440 x10_2).f0).length c449_0)).setCell ⟨gb450,1,none⟩ (.int .i64 ((rd_T48 t440 x10_2).f1))).setCell ⟨gb450,2,none⟩ (.int .i64 ((rd_T48 t440 x10_2).f2))).setCell ⟨gb450,3,none⟩ (.int .i64 ((rd_T48 t440 x10_2).f3))).setCell ⟨gb450,4,none⟩ (.int .i64 ((rd_T48 t440 x10_2).f4)))):=⟨kB HB.out⟩
      clear HL449_0 HO_3 HO_4 HO_7 HO_48 HO_50 BK450 HR449_0 HB
      generalize (((((w35.setCell ⟨gb450,0,none⟩ (.slice A449_0 ((rd_T48 t440 x10_2).f0).length c449_0)).setCell ⟨gb450,1,none⟩ (.int .i64 ((rd_T48 t440 x10_2).f1))).setCell ⟨gb450,2,none⟩ (.int .i64 ((rd_T48 t440 x10_2).f2))).setCell ⟨gb450,3,none⟩ (.int .i64 ((rd_T48 t440 x10_2).f3))).setCell ⟨gb450,4,none⟩ (.int .i64 ((rd_T48 t440 x10_2).f4))) = w999 at n0_ n1_ n2_ n3_ n4_ n5_ n6_ n7_ ⊢
      have HO_3:=n0_
      have HO_4:=n1_
      have HO_7:=n2_
      have HO_48:=n3_
      have HO_50:=n4_
      have BK450:=n5_
      have HR449_0:=n6_
      have HB:=n7_
      clear n0_ n1_ n2_ n3_ n4_ n5_ n6_ n7_
      by_cases c37:x10_2 > 0
      rotate_left
      ·rw [if_neg c37] at H
       have c37b0:decide (0 < x10_2) = false:=decide_eq_false c37
       clear c37
       (first|rw [c37b0]|(simp only [i64_w,i32_w];rw [c37b0])|skip)
       by_cases c68:(wrap64 ((wrap64 ((wrap64 (((rd_T48 t440 x10_2).f2) - ((rd_T48 t440 x10_2).f1))) + ((rd_T48 t440 x10_2).f4))) - ((rd_T48 t440 x10_2).f3))) < 1
       ·rw [if_pos c68] at H
        exact absurd H (by simp)
       rw [if_neg c68] at H
       have c68b0:decide ((wrap64 ((wrap64 ((wrap64 (((rd_T48 t440 x10_2).f2) - ((rd_T48 t440 x10_2).f1))) + ((rd_T48 t440 x10_2).f4))) - ((rd_T48 t440 x10_2).f3))) < 1) = false:=decide_eq_false c68
       clear c68
       by_cases c70:((rd_T48 t440 x10_2).f1) < 0
       ·rw [if_pos c70] at H
        exact absurd H (by simp)
       rw [if_neg c70] at H
       have c70b0:decide (((rd_T48 t440 x10_2).f1) < 0) = false:=decide_eq_false c70
       clear c70
       by_cases c72:((rd_T48 t440 x10_2).f2) > (t443.length:Int)
       ·rw [if_pos c72] at H
        exact absurd H (by simp)
       rw [if_neg c72] at H
       have c72b0:decide ((t443.length:Int) < ((rd_T48 t440 x10_2).f2)) = false:=decide_eq_false c72
       (try simp only [hl449_0] at c72b0)
       (try simp only [hl451_0] at c72b0)
       clear c72
       by_cases c75:((rd_T48 t440 x10_2).f3) < 0
       ·rw [if_pos c75] at H
        exact absurd H (by simp)
       rw [if_neg c75] at H
       have c75b0:decide (((rd_T48 t440 x10_2).f3) < 0) = false:=decide_eq_false c75
       clear c75
       have H':=mk0 H
       clear H
       obtain⟨hcz78_0,hcz78_1,hcz78_2,hcz78_3,hcz78_4,hfz78_0,hfz78_1,hfz78_2,hfz78_3,hfz78_4⟩:=cz5 BK450.out
       obtain⟨Ao79,co79,eo79⟩:=Kd.R_slice HO_48.out
       subst eo79
       obtain⟨Ao80,co80,eo80⟩:=Kd.R_slice HO_50.out
       subst eo80
       go_wp2
       repeat (go_quiet (fail);try go_wp2)
       go_meet
       case rel=>exact⟨_,(decide (((rd_T48 t440 x10_2).f4) > (t446.length:Int))),(by first|rfl|(simp;done)|(simp [*];done)),H',⟨by have:=HJ8.out;have:=HK2.out;first|omega|exact Nat.le_refl _⟩,⟨rR HO_3.out⟩,⟨rR HO_4.out⟩,⟨rN HO_7.out⟩,⟨rR HO_48.out⟩,⟨rR HO_50.out⟩,⟨by (with_reducible repeat (first|apply nB|apply dB|apply aB));exact BK450.out⟩,⟨kC HR449_0.out⟩,⟨kB HB.out⟩⟩
      rw [if_pos c37] at H
      have c37b0:decide (0 < x10_2) = true:=decide_eq_true c37
      clear c37
      (first|rw [c37b0]|(simp only [i64_w,i32_w];rw [c37b0])|skip)
      obtain⟨ji38,hji38⟩:∃ j_:Int,(wrap64 (x10_2 - 1)) = j_:=⟨_,rfl⟩
      replace H:(if 0 ≤ (ji38) then (if (ji38) < (t440.length:Int) then (if ((Op.bytesLess ((strOfNums ((rd_T48 t440 (ji38)).f0)).toList) ((strOfNums ((rd_T48 t440 x10_2).f0)).toList)) = true) then (if (wrap64 ((wrap64 ((wrap64 (((rd_T48 t440 x10_2).f2) - ((rd_T48 t440 x10_2).f1))) + ((rd_T48 t440 x10_2).f4))) - ((rd_T48 t440 x10_2).f3))) < 1 then (none) else (if ((rd_T48 t440 x10_2).f1) < 0 then (none) else (if ((rd_T48 t440 x10_2).f2) > (t443.length:Int) then (none) else (if ((rd_T48 t440 x10_2).f3) < 0 then (none) else (laws_FnParts.j2 k2 t424 t425 t426 t440 t443 t446 x10_2 (decide (((rd_T48 t440 x10_2).f4) > (t446.length:Int))) ((rd_T48 t440 x10_2).f0) ((rd_T48 t440 x10_2).f1) ((rd_T48 t440 x10_2).f2) ((rd_T48 t440 x10_2).f3) ((rd_T48 t440 x10_2).f4)))))) else (none)) else (none)) else (none)) = some r:=by first|(rw [hji38] at H;exact H)|(simp only [hji38] at H ⊢;exact H)
      have hji38w:(IntKind.i64.wrap (x10_2 - 1)) = ji38:=(i64_w _).trans hji38
      by_cases c39:0 ≤ (ji38)
      rotate_left
      ·rw [if_neg c39] at H
       exact absurd H (by simp)
      rw [if_pos c39] at H
      have c39b0:decide (0 ≤ (ji38)) = true:=decide_eq_true c39
      clear c39
      by_cases c40:(ji38) < (t440.length:Int)
      rotate_left
      ·rw [if_neg c40] at H
       exact absurd H (by simp)
      rw [if_pos c40] at H
      have c40b0:decide ((ji38) < (t440.length:Int)) = true:=decide_eq_true c40
      (try simp only [hl449_0] at c40b0)
      (try simp only [hl451_0] at c40b0)
      clear c40
      have p451:0 ≤ ((ji38):Int):=of_decide_eq_true (by first|(with_reducible assumption)|assumption)
      have q451:(ji38) < (t440.length:Int):=of_decide_eq_true (by first|(with_reducible assumption)|assumption)
      obtain⟨ad451,A451_0,c451_0,e451,hx451_0,hx451_1,hx451_2,hx451_3,hx451_4,hl451_0,hi451_0⟩:=at_T48 (Kd.N_reads' HO_7.out).2.2 (ji38) p451 q451
      obtain rfl:ad449 = ad451:=(by injection e451)
      replace p451:=eq_true p451
      replace q451:=eq_true q451
      have hcv1_:=Kd.C_string (P:=Try.prog) (A:=A451_0) (c:=c451_0) Try.underlying22 Try.underlying5 Try.underlying9 hi451_0
      have hcw1_:=fun (n_:Nat)=>Kd.C_string (P:=Try.prog) (A:=A451_0) (c:=c451_0) Try.underlying22 Try.underlying5 Try.underlying9 (Kd.C_drewN hi451_0 n_)
      have hcv2_:=Kd.C_string (P:=Try.prog) (A:=A449_0) (c:=c449_0) Try.underlying22 Try.underlying5 Try.underlying9 HR449_0.out
      have hcw2_:=fun (n_:Nat)=>Kd.C_string (P:=Try.prog) (A:=A449_0) (c:=c449_0) Try.underlying22 Try.underlying5 Try.underlying9 (Kd.C_drewN HR449_0.out n_)
      by_cases c41:((Op.bytesLess ((strOfNums ((rd_T48 t440 (ji38)).f0)).toList) ((strOfNums ((rd_T48 t440 x10_2).f0)).toList)) = true)
      rotate_left
      ·rw [if_neg c41] at H
       exact absurd H (by simp)
      rw [if_pos c41] at H
      have c41b0:(Op.bytesLess ((strOfNums ((rd_T48 t440 (ji38)).f0)).toList) ((strOfNums ((rd_T48 t440 x10_2).f0)).toList)) = true:=c41
      clear c41
      by_cases c42:(wrap64 ((wrap64 ((wrap64 (((rd_T48 t440 x10_2).f2) - ((rd_T48 t440 x10_2).f1))) + ((rd_T48 t440 x10_2).f4))) - ((rd_T48 t440 x10_2).f3))) < 1
      ·rw [if_pos c42] at H
       exact absurd H (by simp)
      rw [if_neg c42] at H
      have c42b0:decide ((wrap64 ((wrap64 ((wrap64 (((rd_T48 t440 x10_2).f2) - ((rd_T48 t440 x10_2).f1))) + ((rd_T48 t440 x10_2).f4))) - ((rd_T48 t440 x10_2).f3))) < 1) = false:=decide_eq_false c42
      clear c42
      by_cases c46:((rd_T48 t440 x10_2).f1) < 0
      ·rw [if_pos c46] at H
       exact absurd H (by simp)
      rw [if_neg c46] at H
      have c46b0:decide (((rd_T48 t440 x10_2).f1) < 0) = false:=decide_eq_false c46
      clear c46
      by_cases c50:((rd_T48 t440 x10_2).f2) > (t443.length:Int)
      ·rw [if_pos c50] at H
       exact absurd H (by simp)
      rw [if_neg c50] at H
      have c50b0:decide ((t443.length:Int) < ((rd_T48 t440 x10_2).f2)) = false:=decide_eq_false c50
      (try simp only [hl449_0] at c50b0)
      (try simp only [hl451_0] at c50b0)
      clear c50
      by_cases c55:((rd_T48 t440 x10_2).f3) < 0
      ·rw [if_pos c55] at H
       exact absurd H (by simp)
      rw [if_neg c55] at H
      have c55b0:decide (((rd_T48 t440 x10_2).f3) < 0) = false:=decide_eq_false c55
      clear c55
      have H':=mk0 H
      clear H
      obtain⟨hcz61_0,hcz61_1,hcz61_2,hcz61_3,hcz61_4,hfz61_0,hfz61_1,hfz61_2,hfz61_3,hfz61_4⟩:=cz5 BK450.out
      obtain⟨Ao63,co63,eo63⟩:=Kd.R_slice HO_48.out
      subst eo63
      obtain⟨Ao64,co64,eo64⟩:=Kd.R_slice HO_50.out
      subst eo64
      go_wp2
      repeat (go_quiet (fail);try go_wp2)
      go_meet
      case rel=>exact⟨_,(decide (((rd_T48 t440 x10_2).f4) > (t446.length:Int))),(by first|rfl|(simp;done)|(simp [*];done)),H',⟨by have:=HJ8.out;have:=HK2.out;first|omega|exact Nat.le_refl _⟩,⟨rR HO_3.out⟩,⟨rR HO_4.out⟩,⟨rN HO_7.out⟩,⟨rR HO_48.out⟩,⟨rR HO_50.out⟩,⟨by (with_reducible repeat (first|apply nB|apply dB|apply aB));exact BK450.out⟩,⟨kC HR449_0.out⟩,⟨kB HB.out⟩⟩
     case rest =>
      clear HC33
      try clear p2
      try clear c3
      try clear c4
      try clear p4
      try clear q4
      try clear hx4
      try clear hcv4
      try clear c5
      try clear hcv5
      try clear c6
      try clear p6
      try clear hcv6
      try clear c7
      try clear c37
      try clear c37b0
      try clear c39
      try clear c39b0
      try clear c40
      try clear c40b0
      try clear c41
      try clear c41b0
      try clear c42
      try clear c42b0
      try clear hcv43
      try clear c44
      try clear p44
      try clear q44
      try clear c45
      try clear p45
      try clear q45
      try clear hx45
      try clear hcv45
      try clear c46
      try clear c46b0
      try clear hcv47
      try clear hcv49
      try clear c50
      try clear c50b0
      try clear hcv51
      try clear hcv53
      try clear c55
      try clear c55b0
      try clear hcv56
      try clear hcv58
      try clear hcv60
      try clear hcv62
      try clear p64
      try clear hcv65
      try clear hcv67
      try clear c68
      try clear c68b0
      try clear c70
      try clear c70b0
      try clear c72
      try clear c72b0
      try clear c75
      try clear c75b0
      try clear hcz36_0
      try clear hcz36_1
      try clear hcz36_2
      try clear hcz36_3
      try clear hcz36_4
      try clear hcz44_0
      try clear hcz44_1
      try clear hcz44_2
      try clear hcz44_3
      try clear hcz44_4
      try clear hcz48_0
      try clear hcz48_1
      try clear hcz48_2
      try clear hcz48_3
      try clear hcz48_4
      try clear hcz52_0
      try clear hcz52_1
      try clear hcz52_2
      try clear hcz52_3
      try clear hcz52_4
      try clear hcz57_0
      try clear hcz57_1
      try clear hcz57_2
      try clear hcz57_3
      try clear hcz57_4
      try clear hcz61_0
      try clear hcz61_1
      try clear hcz61_2
      try clear hcz61_3
      try clear hcz61_4
      try clear hcz66_0
      try clear hcz66_1
      try clear hcz66_2
      try clear hcz66_3
      try clear hcz66_4
      try clear hcz69_0
      try clear hcz69_1
      try clear hcz69_2
      try clear hcz69_3
      try clear hcz69_4
      try clear hcz71_0
      try clear hcz71_1
      try clear hcz71_2
      try clear hcz71_3
      try clear hcz71_4
      try clear hcz73_0
      try clear hcz73_1
      try clear hcz73_2
      try clear hcz73_3
      try clear hcz73_4
      try clear hcz76_0
      try clear hcz76_1
      try clear hcz76_2
      try clear hcz76_3
      try clear hcz76_4
      try clear hcz78_0
      try clear hcz78_1
      try clear hcz78_2
      try clear hcz78_3
      try clear hcz78_4
      try clear hfz36_0
      try clear hfz36_1
      try clear hfz36_2
      try clear hfz36_3
      try clear hfz36_4
      try clear hfz44_0
      try clear hfz44_1
      try clear hfz44_2
      try clear hfz44_3
      try clear hfz44_4
      try clear hfz48_0
      try clear hfz48_1
      try clear hfz48_2
      try clear hfz48_3
      try clear hfz48_4
      try clear hfz52_0
      try clear hfz52_1
      try clear hfz52_2
      try clear hfz52_3
      try clear hfz52_4
      try clear hfz57_0
      try clear hfz57_1
      try clear hfz57_2
      try clear hfz57_3
      try clear hfz57_4
      try clear hfz61_0
      try clear hfz61_1
      try clear hfz61_2
      try clear hfz61_3
      try clear hfz61_4
      try clear hfz66_0
      try clear hfz66_1
      try clear hfz66_2
      try clear hfz66_3
      try clear hfz66_4
      try clear hfz69_0
      try clear hfz69_1
      try clear hfz69_2
      try clear hfz69_3
      try clear hfz69_4
      try clear hfz71_0
      try clear hfz71_1
      try clear hfz71_2
      try clear hfz71_3
      try clear hfz71_4
      try clear hfz73_0
      try clear hfz73_1
      try clear hfz73_2
      try clear hfz73_3
      try clear hfz73_4
      try clear hfz76_0
      try clear hfz76_1
      try clear hfz76_2
      try clear hfz76_3
      try clear hfz76_4
      try clear hfz78_0
      try clear hfz78_1
      try clear hfz78_2
      try clear hfz78_3
      try clear hfz78_4
      try clear hx451_0
      try clear hx451_1
      try clear hx451_2
      try clear hx451_3
      try clear hx451_4
      try clear p449
      try clear p451
      try clear q449
      try clear q451
      obtain⟨kq,x113_32,rfl,HA,HJ32,HO_3,HO_4,HO_7,HO_8,HO_9,BK450,HR449_0,HB⟩:=hcut
      cases kq with
      | zero=>exact absurd HA.out (by simp [laws_FnParts.j2])
      | succ kj32 =>
       have H:=HA.out
       clear HA
       simp only [laws_FnParts.j2] at H
       by_cases c81:x113_32 = true
       ·subst c81
        have H1:(some false) = some r:=by rw [if_pos rfl] at H;exact H
        clear H
        have H:=H1
        clear H1
        obtain rfl:=Option.some.inj H
        go_wp2
        repeat (go_quiet (fail);try go_wp2)
        go_ret
        exact⟨by first|rfl|(simp [errW_none,errW_some] <;> rfl)|(simp [*,errW_none,errW_some] <;> rfl),kB HB.out⟩
       replace c81:=Bool.eq_false_iff.mpr c81
       subst c81
       have H1:(laws_FnParts.l1 kj32 t424 t425 t426 t440 t443 t446 x10_2 ((rd_T48 t440 x10_2).f1) ((rd_T48 t440 x10_2).f0) ((rd_T48 t440 x10_2).f1) ((rd_T48 t440 x10_2).f2) ((rd_T48 t440 x10_2).f3) ((rd_T48 t440 x10_2).f4)) = some r:=by rw [if_neg (show ¬ (false = true) by decide)] at H;exact H
       clear H
       have H:=H1
       clear H1
       have H':=mk0 H
       clear H
       obtain⟨hcz82_0,hcz82_1,hcz82_2,hcz82_3,hcz82_4,hfz82_0,hfz82_1,hfz82_2,hfz82_3,hfz82_4⟩:=cz5 BK450.out
       go_wp2
       repeat (go_quiet (fail);try go_wp2)
       go_loopg [12] kj32 (fun kq v12 w'=>∃ (x12_4:Int),v12 = .int .i64 x12_4 ∧ Aside0 (laws_FnParts.l1 kq t424 t425 t426 t440 t443 t446 x10_2 x12_4 ((rd_T48 t440 x10_2).f0) ((rd_T48 t440 x10_2).f1) ((rd_T48 t440 x10_2).f2) ((rd_T48 t440 x10_2).f3) ((rd_T48 t440 x10_2).f4) = some r) ∧ Aside0 (kq ≤ kj32) ∧ Aside0 (Kd.R (Kd.int .u8) 5 w' w.heap.size (fun k_=>some k_ ≠ ((.slice Ao12 t425.length co12):Value).ownBlock) (.slice Ao11 t424.length co11) t424) ∧ Aside0 (Kd.R (Kd.int .u8) 5 w' w.heap.size (fun k_=>some k_ ≠ ((.slice Ao11 t424.length co11):Value).ownBlock) (.slice Ao12 t425.length co12) t425) ∧ Aside0 (Kd.N k48 48 w' w.heap.size (fun k_=>some k_ ≠ ((.slice Ao11 t424.length co11):Value).ownBlock ∧ some k_ ≠ ((.slice Ao12 t425.length co12):Value).ownBlock ∧ some k_ ≠ (v444:Value).ownBlock ∧ some k_ ≠ (v447:Value).ownBlock ∧ k_ ≠ gb450) (.slice (some ad449) t440.length co34) t440) ∧ Aside0 (Kd.R (Kd.int .i64) 3 w' w.heap.size (fun k_=>some k_ ≠ (v447:Value).ownBlock) v444 t443) ∧ Aside0 (Kd.R (Kd.int .i64) 3 w' w.heap.size (fun k_=>some k_ ≠ (v444:Value).ownBlock) v447 t446) ∧ Aside0 (w'.heap[gb450]? = some (.cells #[(.slice A449_0 ((rd_T48 t440 x10_2).f0).length c449_0),.int .i64 ((rd_T48 t440 x10_2).f1),.int .i64 ((rd_T48 t440 x10_2).f2),.int .i64 ((rd_T48 t440 x10_2).f3),.int .i64 ((rd_T48 t440 x10_2).f4)] 48 (0,0))) ∧ Aside0 (Kd.C (Kd.int .u8) w' A449_0 ((rd_T48 t440 x10_2).f0).length ((rd_T48 t440 x10_2).f0)) ∧ Aside0 (Below w.heap.size w w'))
       case atStart=>exact⟨(((rd_T48 t440 x10_2).f1)),(by first|rfl|(simp;done)|(simp [*];done)),H',⟨Nat.le_refl _⟩,⟨rR HO_3.out⟩,⟨rR HO_4.out⟩,⟨rN HO_7.out⟩,⟨rR HO_8.out⟩,⟨rR HO_9.out⟩,⟨kN BK450.out⟩,⟨by repeat (first|(with_reducible exact HR449_0.out)|(with_reducible first|apply aC|apply nC|apply dC)|exact HR449_0.out|exact (Kd.V_reads' HL449_0.out).2.2)⟩,⟨kB HB.out⟩⟩
       case round =>
        clear H'
        try clear p2
        try clear c3
        try clear c4
        try clear p4
        try clear q4
        try clear hx4
        try clear hcv4
        try clear c5
        try clear hcv5
        try clear c6
        try clear p6
        try clear hcv6
        try clear c7
        try clear c8
        try clear c37
        try clear c37b0
        try clear c39
        try clear c39b0
        try clear c40
        try clear c40b0
        try clear c41
        try clear c41b0
        try clear c42
        try clear c42b0
        try clear hcv43
        try clear c44
        try clear p44
        try clear q44
        try clear c45
        try clear p45
        try clear q45
        try clear hx45
        try clear hcv45
        try clear c46
        try clear c46b0
        try clear hcv47
        try clear hcv49
        try clear c50
        try clear c50b0
        try clear hcv51
        try clear hcv53
        try clear c55
        try clear c55b0
        try clear hcv56
        try clear hcv58
        try clear hcv60
        try clear hcv62
        try clear p64
        try clear hcv65
        try clear hcv67
        try clear c68
        try clear c68b0
        try clear c70
        try clear c70b0
        try clear c72
        try clear c72b0
        try clear c75
        try clear c75b0
        try clear c81
        try clear hcz36_0
        try clear hcz36_1
        try clear hcz36_2
        try clear hcz36_3
        try clear hcz36_4
        try clear hcz44_0
        try clear hcz44_1
        try clear hcz44_2
        try clear hcz44_3
        try clear hcz44_4
        try clear hcz48_0
        try clear hcz48_1
        try clear hcz48_2
        try clear hcz48_3
        try clear hcz48_4
        try clear hcz52_0
        try clear hcz52_1
        try clear hcz52_2
        try clear hcz52_3
        try clear hcz52_4
        try clear hcz57_0
        try clear hcz57_1
        try clear hcz57_2
        try clear hcz57_3
        try clear hcz57_4
        try clear hcz61_0
        try clear hcz61_1
        try clear hcz61_2
        try clear hcz61_3
        try clear hcz61_4
        try clear hcz66_0
        try clear hcz66_1
        try clear hcz66_2
        try clear hcz66_3
        try clear hcz66_4
        try clear hcz69_0
        try clear hcz69_1
        try clear hcz69_2
        try clear hcz69_3
        try clear hcz69_4
        try clear hcz71_0
        try clear hcz71_1
        try clear hcz71_2
        try clear hcz71_3
        try clear hcz71_4
        try clear hcz73_0
        try clear hcz73_1
        try clear hcz73_2
        try clear hcz73_3
        try clear hcz73_4
        try clear hcz76_0
        try clear hcz76_1
        try clear hcz76_2
        try clear hcz76_3
        try clear hcz76_4
        try clear hcz78_0
        try clear hcz78_1
        try clear hcz78_2
        try clear hcz78_3
        try clear hcz78_4
        try clear hcz82_0
        try clear hcz82_1
        try clear hcz82_2
        try clear hcz82_3
        try clear hcz82_4
        try clear hfz36_0
        try clear hfz36_1
        try clear hfz36_2
        try clear hfz36_3
        try clear hfz36_4
        try clear hfz44_0
        try clear hfz44_1
        try clear hfz44_2
        try clear hfz44_3
        try clear hfz44_4
        try clear hfz48_0
        try clear hfz48_1
        try clear hfz48_2
        try clear hfz48_3
        try clear hfz48_4
        try clear hfz52_0
        try clear hfz52_1
        try clear hfz52_2
        try clear hfz52_3
        try clear hfz52_4
        try clear hfz57_0
        try clear hfz57_1
        try clear hfz57_2
        try clear hfz57_3
        try clear hfz57_4
        try clear hfz61_0
        try clear hfz61_1
        try clear hfz61_2
        try clear hfz61_3
        try clear hfz61_4
        try clear hfz66_0
        try clear hfz66_1
        try clear hfz66_2
        try clear hfz66_3
        try clear hfz66_4
        try clear hfz69_0
        try clear hfz69_1
        try clear hfz69_2
        try clear hfz69_3
        try clear hfz69_4
        try clear hfz71_0
        try clear hfz71_1
        try clear hfz71_2
        try clear hfz71_3
        try clear hfz71_4
        try clear hfz73_0
        try clear hfz73_1
        try clear hfz73_2
        try clear hfz73_3
        try clear hfz73_4
        try clear hfz76_0
        try clear hfz76_1
        try clear hfz76_2
        try clear hfz76_3
        try clear hfz76_4
        try clear hfz78_0
        try clear hfz78_1
        try clear hfz78_2
        try clear hfz78_3
        try clear hfz78_4
        try clear hfz82_0
        try clear hfz82_1
        try clear hfz82_2
        try clear hfz82_3
        try clear hfz82_4
        try clear hx451_0
        try clear hx451_1
        try clear hx451_2
        try clear hx451_3
        try clear hx451_4
        try clear p2
        try clear p4
        try clear p44
        try clear p449
        try clear p45
        try clear p451
        try clear p6
        try clear p64
        try clear q4
        try clear q44
        try clear q449
        try clear q45
        try clear q451
        obtain⟨x12_4,rfl,HA,HK4,HO_3,HO_4,HO_7,HO_8,HO_9,BK450,HR449_0,HB⟩:=hrel
        cases gk with
        | zero=>exact absurd HA.out (by simp [laws_FnParts.l1])
        | succ k4 =>
         have H:=HA.out
         clear HA
         simp only [laws_FnParts.l1] at H
         by_cases c83:x12_4 < ((rd_T48 t440 x10_2).f2)
         ·rw [if_pos c83] at H
          have c83b0:decide (x12_4 < ((rd_T48 t440 x10_2).f2)) = true:=decide_eq_true c83
          clear c83
          by_cases c84:0 ≤ x12_4
          rotate_left
          ·rw [if_neg c84] at H
           exact absurd H (by simp)
          rw [if_pos c84] at H
          have c84b0:decide (0 ≤ x12_4) = true:=decide_eq_true c84
          clear c84
          by_cases c85:x12_4 < (t443.length:Int)
          rotate_left
          ·rw [if_neg c85] at H
           exact absurd H (by simp)
          rw [if_pos c85] at H
          have c85b0:decide (x12_4 < (t443.length:Int)) = true:=decide_eq_true c85
          (try simp only [hl449_0] at c85b0)
          (try simp only [hl451_0] at c85b0)
          clear c85
          obtain⟨ji86,hji86⟩:∃ j_:Int,(mn (t424.length:Int) (wrap64 ((rd t443 x12_4) + t426))) = j_:=⟨_,rfl⟩
          replace H:(if 0 ≤ (rd t443 x12_4) then (if (rd t443 x12_4) ≤ (ji86) then (if (ji86) ≤ (t424.length:Int) then (if (strOfNums ((t424.take ((ji86):Int).toNat).drop ((rd t443 x12_4):Int).toNat)).toList = (strOfNums ((rd_T48 t440 x10_2).f0)).toList then (laws_FnParts.l1 k4 t424 t425 t426 t440 t443 t446 x10_2 (wrap64 (x12_4 + 1)) ((rd_T48 t440 x10_2).f0) ((rd_T48 t440 x10_2).f1) ((rd_T48 t440 x10_2).f2) ((rd_T48 t440 x10_2).f3) ((rd_T48 t440 x10_2).f4)) else (some false)) else (none)) else (none)) else (none)) = some r:=by first|(rw [hji86] at H;exact H)|(simp only [hji86] at H ⊢;exact H)
          have hji86_:(if (wrap64 ((rd t443 x12_4) + t426)) < (t424.length:Int) then (wrap64 ((rd t443 x12_4) + t426)) else (t424.length:Int)) = ji86:=hji86
          by_cases c87:0 ≤ (rd t443 x12_4)
          rotate_left
          ·rw [if_neg c87] at H
           exact absurd H (by simp)
          rw [if_pos c87] at H
          have c87b0:=eq_true c87
          have c87b1:decide (0 ≤ (rd t443 x12_4)) = true:=decide_eq_true c87
          clear c87
          by_cases c88:(rd t443 x12_4) ≤ (ji86)
          rotate_left
          ·rw [if_neg c88] at H
           exact absurd H (by simp)
          rw [if_pos c88] at H
          have c88b0:=eq_true c88
          have c88b1:decide ((rd t443 x12_4) ≤ (ji86)) = true:=decide_eq_true c88
          clear c88
          by_cases c89:(ji86) ≤ (t424.length:Int)
          rotate_left
          ·rw [if_neg c89] at H
           exact absurd H (by simp)
          rw [if_pos c89] at H
          have c89b0:=eq_true c89
          have c89b1:decide ((ji86) ≤ (t424.length:Int)) = true:=decide_eq_true c89
          (try simp only [hl449_0] at c89b1)
          (try simp only [hl451_0] at c89b1)
          clear c89
          obtain⟨y454,hy454⟩:∃ y_:List Int,y_ = ((t424.take ((ji86):Int).toNat).drop ((rd t443 x12_4):Int).toNat):=⟨_,rfl⟩
          replace H:(if (strOfNums y454).toList = (strOfNums ((rd_T48 t440 x10_2).f0)).toList then (laws_FnParts.l1 k4 t424 t425 t426 t440 t443 t446 x10_2 (wrap64 (x12_4 + 1)) ((rd_T48 t440 x10_2).f0) ((rd_T48 t440 x10_2).f1) ((rd_T48 t440 x10_2).f2) ((rd_T48 t440 x10_2).f3) ((rd_T48 t440 x10_2).f4)) else (some false)) = some r:=by first|(rw [hy454];with_reducible exact H)|(have H2_:=(Option.bind_some _ _).symm.trans H;rw [hy454];with_reducible exact H2_)|(have H2_:=(Option.bind_some _ _).symm.trans H;with_reducible exact H2_)|with_reducible exact H|(rw [hy454];exact H)|exact H
          have Ny454:=mk0 hy454
          clear hy454
          by_cases c90:(strOfNums y454).toList = (strOfNums ((rd_T48 t440 x10_2).f0)).toList
          rotate_left
          ·rw [if_neg c90] at H
           have c90b0:((strOfNums y454).toList == (strOfNums ((rd_T48 t440 x10_2).f0)).toList) = false:=beq_eq_false_iff_ne.mpr c90
           have c90b1:((strOfNums y454).toList != (strOfNums ((rd_T48 t440 x10_2).f0)).toList) = true:=bne_iff_ne.mpr c90
           obtain rfl:=Option.some.inj H
           obtain⟨hcz96_0,hcz96_1,hcz96_2,hcz96_3,hcz96_4,hfz96_0,hfz96_1,hfz96_2,hfz96_3,hfz96_4⟩:=cz5 BK450.out
           obtain⟨Ao97,co97,eo97⟩:=Kd.R_slice HO_8.out
           subst eo97
           have p452:0 ≤ (x12_4:Int):=of_decide_eq_true (by first|(with_reducible assumption)|assumption)
           have q452:x12_4 < (t443.length:Int):=of_decide_eq_true (by first|(with_reducible assumption)|assumption)
           obtain⟨ad452,e452,hx452_0⟩:=Kd.at_int (Kd.R_reads' HO_8.out).2.2 x12_4 p452 q452
           cases e452
           replace p452:=eq_true p452
           replace q452:=eq_true q452
           have p453:0 ≤ (x12_4:Int):=of_decide_eq_true (by first|(with_reducible assumption)|assumption)
           have q453:x12_4 < (t443.length:Int):=of_decide_eq_true (by first|(with_reducible assumption)|assumption)
           obtain⟨ad453,e453,hx453_0⟩:=Kd.at_int (Kd.R_reads' HO_8.out).2.2 x12_4 p453 q453
           obtain rfl:ad452 = ad453:=(by injection e453)
           replace p453:=eq_true p453
           replace q453:=eq_true q453
           have q98:((ji86):Int) ≤ ((t424.length:Int):Int):=of_decide_eq_true (by first|(with_reducible assumption)|assumption)
           obtain⟨i098,hi098,_,hsz98,_⟩:=info_parts info5
           have hroom98:t424.length ≤ co11:=(Kd.R_reads' HO_3.out).2.1
           have hC98:Kd.F (Kd.int .u8) _ _ Ao11 t424.length t424:=(Kd.V_at (base:=w.heap.size) (Kd.R_V (Kd.R_types (Kd.R_apart' (Kd.R_apart' (Kd.R_apart' (HO_3.out) (Kd.N_typed HO_7.out) (by decide)) (Kd.R_typed HO_8.out) (by decide)) (Kd.R_typed HO_9.out) (by decide)) BK450.out (by decide)))).2.2
           have ql98:((rd t443 x12_4):Int) ≤ ((ji86):Int):=of_decide_eq_true (by first|(with_reducible assumption)|assumption)
           have q098:(0:Int) ≤ ((rd t443 x12_4):Int):=of_decide_eq_true (by first|(with_reducible assumption)|assumption)
           have hcut98:=cut_mid (P:=Try.prog) 22 5 .i64 .i64 Try.underlying22 hi098 1 hsz98 Ao11 t424.length co11 (rd t443 x12_4) (ji86) q098 ql98 q98 hroom98
           have hr98:=Kd.F_mid (lo:=((rd t443 x12_4):Int).toNat) (hi:=((ji86):Int).toNat) (c:=co11) hC98 (by omega) (by omega) hroom98
           obtain⟨A98,hA98⟩:∃ A1,A1 = (if co11 = ((rd t443 x12_4):Int).toNat then Ao11 else (Ao11:Option Addr).map (·.add (((rd t443 x12_4):Int).toNat * 1))):=⟨_,rfl⟩
           obtain⟨c98,hc98⟩:∃ c1,c1 = co11 - ((rd t443 x12_4):Int).toNat:=⟨_,rfl⟩
           have hy98:y454.length = ((ji86):Int).toNat - ((rd t443 x12_4):Int).toNat:=(by rw [Ny454.out,List.length_drop,List.length_take] <;> omega)
           rw [show ((t424).take ((ji86):Int).toNat).drop ((rd t443 x12_4):Int).toNat = y454 from Ny454.out.symm] at hr98
           replace hr98:Kd.F (Kd.int .u8) _ _ A98 y454.length y454:=(by rw [hA98];exact hr98)
           rw [← hy98, ← hA98, ← hc98] at hcut98
           have HO458:=mk0 (show Kd.V (Kd.int .u8) 5 _ w.heap.size _ (.slice A98 y454.length c98) y454 from Kd.V_mk (by rw [hy98,hc98];exact Nat.sub_le_sub_right (Nat.le_trans (by omega) hroom98) _) hr98)
           have HC458:=mk0 (show y454.length ≤ c98 from by rw [hy98,hc98];exact Nat.sub_le_sub_right (Nat.le_trans (by omega) hroom98) _)
           clear hr98 hC98 hroom98 hi098 hsz98 hc98
           have KY98:=mk0 hy98
           have KA98:=mk0 hA98
           clear hy98 hA98
           replace q98:=eq_true q98
           have hcv99:=Kd.C_string (P:=Try.prog) (A:=A98) (c:=c98) Try.underlying22 Try.underlying5 Try.underlying9 (Kd.V_reads' HO458.out).2.2
           have hcw99:=fun (n_:Nat)=>Kd.C_string (P:=Try.prog) (A:=A98) (c:=c98) Try.underlying22 Try.underlying5 Try.underlying9 (Kd.C_drewN (Kd.V_reads' HO458.out).2.2 n_)
           have hcv100:=Kd.C_string (P:=Try.prog) (A:=A449_0) (c:=c449_0) Try.underlying22 Try.underlying5 Try.underlying9 HR449_0.out
           have hcw100:=fun (n_:Nat)=>Kd.C_string (P:=Try.prog) (A:=A449_0) (c:=c449_0) Try.underlying22 Try.underlying5 Try.underlying9 (Kd.C_drewN HR449_0.out n_)
           go_wp2
           repeat (go_quiet (fail);try go_wp2)
           go_ret
           exact⟨by first|rfl|(simp [errW_none,errW_some] <;> rfl)|(simp only [← hji86];first|rfl|(simp [errW_none,errW_some] <;> rfl))|(simp [*,errW_none,errW_some] <;> rfl),kB HB.out⟩
          rw [if_pos c90] at H
          have c90b0:((strOfNums y454).toList == (strOfNums ((rd_T48 t440 x10_2).f0)).toList) = true:=beq_iff_eq.mpr c90
          have c90b1:((strOfNums y454).toList != (strOfNums ((rd_T48 t440 x10_2).f0)).toList) = false:=bne_eq_false_iff_eq.mpr c90
          clear c90
          have H':=mk0 H
          clear H
          obtain⟨hcz91_0,hcz91_1,hcz91_2,hcz91_3,hcz91_4,hfz91_0,hfz91_1,hfz91_2,hfz91_3,hfz91_4⟩:=cz5 BK450.out
          obtain⟨Ao92,co92,eo92⟩:=Kd.R_slice HO_8.out
          subst eo92
          have p452:0 ≤ (x12_4:Int):=of_decide_eq_true (by first|(with_reducible assumption)|assumption)
          have q452:x12_4 < (t443.length:Int):=of_decide_eq_true (by first|(with_reducible assumption)|assumption)
          obtain⟨ad452,e452,hx452_0⟩:=Kd.at_int (Kd.R_reads' HO_8.out).2.2 x12_4 p452 q452
          cases e452
          replace p452:=eq_true p452
          replace q452:=eq_true q452
          have p453:0 ≤ (x12_4:Int):=of_decide_eq_true (by first|(with_reducible assumption)|assumption)
          have q453:x12_4 < (t443.length:Int):=of_decide_eq_true (by first|(with_reducible assumption)|assumption)
          obtain⟨ad453,e453,hx453_0⟩:=Kd.at_int (Kd.R_reads' HO_8.out).2.2 x12_4 p453 q453
          obtain rfl:ad452 = ad453:=(by injection e453)
          replace p453:=eq_true p453
          replace q453:=eq_true q453
          have q93:((ji86):Int) ≤ ((t424.length:Int):Int):=of_decide_eq_true (by first|(with_reducible assumption)|assumption)
          obtain⟨i093,hi093,_,hsz93,_⟩:=info_parts info5
          have hroom93:t424.length ≤ co11:=(Kd.R_reads' HO_3.out).2.1
          have hC93:Kd.F (Kd.int .u8) _ _ Ao11 t424.length t424:=(Kd.V_at (base:=w.heap.size) (Kd.R_V (Kd.R_types (Kd.R_apart' (Kd.R_apart' (Kd.R_apart' (HO_3.out) (Kd.N_typed HO_7.out) (by decide)) (Kd.R_typed HO_8.out) (by decide)) (Kd.R_typed HO_9.out) (by decide)) BK450.out (by decide)))).2.2
          have ql93:((rd t443 x12_4):Int) ≤ ((ji86):Int):=of_decide_eq_true (by first|(with_reducible assumption)|assumption)
          have q093:(0:Int) ≤ ((rd t443 x12_4):Int):=of_decide_eq_true (by first|(with_reducible assumption)|assumption)
          have hcut93:=cut_mid (P:=Try.prog) 22 5 .i64 .i64 Try.underlying22 hi093 1 hsz93 Ao11 t424.length co11 (rd t443 x12_4) (ji86) q093 ql93 q93 hroom93
          have hr93:=Kd.F_mid (lo:=((rd t443 x12_4):Int).toNat) (hi:=((ji86):Int).toNat) (c:=co11) hC93 (by omega) (by omega) hroom93
          obtain⟨A93,hA93⟩:∃ A1,A1 = (if co11 = ((rd t443 x12_4):Int).toNat then Ao11 else (Ao11:Option Addr).map (·.add (((rd t443 x12_4):Int).toNat * 1))):=⟨_,rfl⟩
          obtain⟨c93,hc93⟩:∃ c1,c1 = co11 - ((rd t443 x12_4):Int).toNat:=⟨_,rfl⟩
          have hy93:y454.length = ((ji86):Int).toNat - ((rd t443 x12_4):Int).toNat:=(by rw [Ny454.out,List.length_drop,List.length_take] <;> omega)
          rw [show ((t424).take ((ji86):Int).toNat).drop ((rd t443 x12_4):Int).toNat = y454 from Ny454.out.symm] at hr93
          replace hr93:Kd.F (Kd.int .u8) _ _ A93 y454.length y454:=(by rw [hA93];exact hr93)
          rw [← hy93, ← hA93, ← hc93] at hcut93
          have HO458:=mk0 (show Kd.V (Kd.int .u8) 5 _ w.heap.size _ (.slice A93 y454.length c93) y454 from Kd.V_mk (by rw [hy93,hc93];exact Nat.sub_le_sub_right (Nat.le_trans (by omega) hroom93) _) hr93)
          have HC458:=mk0 (show y454.length ≤ c93 from by rw [hy93,hc93];exact Nat.sub_le_sub_right (Nat.le_trans (by omega) hroom93) _)
          clear hr93 hC93 hroom93 hi093 hsz93 hc93
          have KY93:=mk0 hy93
          have KA93:=mk0 hA93
          clear hy93 hA93
          replace q93:=eq_true q93
          have hcv94:=Kd.C_string (P:=Try.prog) (A:=A93) (c:=c93) Try.underlying22 Try.underlying5 Try.underlying9 (Kd.V_reads' HO458.out).2.2
          have hcw94:=fun (n_:Nat)=>Kd.C_string (P:=Try.prog) (A:=A93) (c:=c93) Try.underlying22 Try.underlying5 Try.underlying9 (Kd.C_drewN (Kd.V_reads' HO458.out).2.2 n_)
          have hcv95:=Kd.C_string (P:=Try.prog) (A:=A449_0) (c:=c449_0) Try.underlying22 Try.underlying5 Try.underlying9 HR449_0.out
          have hcw95:=fun (n_:Nat)=>Kd.C_string (P:=Try.prog) (A:=A449_0) (c:=c449_0) Try.underlying22 Try.underlying5 Try.underlying9 (Kd.C_drewN HR449_0.out n_)
          go_wp2
          repeat (go_quiet (fail);try go_wp2)
          go_roundg k4
          case measure=>have:=HJ8.out;have:=HK2.out;have:=HJ32.out;have:=HK4.out;omega
          case rel=>exact⟨(wrap64 (x12_4 + 1)),(by first|rfl|(simp;done)|(simp [*];done)),H',⟨by have:=HJ8.out;have:=HK2.out;have:=HJ32.out;have:=HK4.out;omega⟩,⟨rR HO_3.out⟩,⟨rR HO_4.out⟩,⟨rN HO_7.out⟩,⟨rR HO_8.out⟩,⟨rR HO_9.out⟩,⟨kN BK450.out⟩,⟨by repeat (first|(with_reducible exact HR449_0.out)|(with_reducible first|apply aC|apply nC|apply dC)|exact HR449_0.out|exact (Kd.V_reads' HL449_0.out).2.2)⟩,⟨kB HB.out⟩⟩
         rw [if_neg c83] at H
         have c83b0:decide (x12_4 < ((rd_T48 t440 x10_2).f2)) = false:=decide_eq_false c83
         clear c83
         have H':=mk0 H
         clear H
         obtain⟨hcz101_0,hcz101_1,hcz101_2,hcz101_3,hcz101_4,hfz101_0,hfz101_1,hfz101_2,hfz101_3,hfz101_4⟩:=cz5 BK450.out
         go_wp2
         repeat (go_quiet (fail);try go_wp2)
         go_loopg [13] k4 (fun kq v13 w'=>∃ (x13_5:Int),v13 = .int .i64 x13_5 ∧ Aside0 (laws_FnParts.l2 kq t424 t425 t426 t440 t443 t446 x10_2 x13_5 ((rd_T48 t440 x10_2).f0) ((rd_T48 t440 x10_2).f1) ((rd_T48 t440 x10_2).f2) ((rd_T48 t440 x10_2).f3) ((rd_T48 t440 x10_2).f4) = some r) ∧ Aside0 (kq ≤ k4) ∧ Aside0 (Kd.R (Kd.int .u8) 5 w' w.heap.size (fun k_=>some k_ ≠ ((.slice Ao12 t425.length co12):Value).ownBlock) (.slice Ao11 t424.length co11) t424) ∧ Aside0 (Kd.R (Kd.int .u8) 5 w' w.heap.size (fun k_=>some k_ ≠ ((.slice Ao11 t424.length co11):Value).ownBlock) (.slice Ao12 t425.length co12) t425) ∧ Aside0 (Kd.N k48 48 w' w.heap.size (fun k_=>some k_ ≠ ((.slice Ao11 t424.length co11):Value).ownBlock ∧ some k_ ≠ ((.slice Ao12 t425.length co12):Value).ownBlock ∧ some k_ ≠ (v444:Value).ownBlock ∧ some k_ ≠ (v447:Value).ownBlock ∧ k_ ≠ gb450) (.slice (some ad449) t440.length co34) t440) ∧ Aside0 (Kd.R (Kd.int .i64) 3 w' w.heap.size (fun k_=>some k_ ≠ (v447:Value).ownBlock) v444 t443) ∧ Aside0 (Kd.R (Kd.int .i64) 3 w' w.heap.size (fun k_=>some k_ ≠ (v444:Value).ownBlock) v447 t446) ∧ Aside0 (w'.heap[gb450]? = some (.cells #[(.slice A449_0 ((rd_T48 t440 x10_2).f0).length c449_0),.int .i64 ((rd_T48 t440 x10_2).f1),.int .i64 ((rd_T48 t440 x10_2).f2),.int .i64 ((rd_T48 t440 x10_2).f3),.int .i64 ((rd_T48 t440 x10_2).f4)] 48 (0,0))) ∧ Aside0 (Kd.C (Kd.int .u8) w' A449_0 ((rd_T48 t440 x10_2).f0).length ((rd_T48 t440 x10_2).f0)) ∧ Aside0 (Below w.heap.size w w'))
         case atStart=>exact⟨(((rd_T48 t440 x10_2).f3)),(by first|rfl|(simp;done)|(simp [*];done)),H',⟨Nat.le_refl _⟩,⟨rR HO_3.out⟩,⟨rR HO_4.out⟩,⟨rN HO_7.out⟩,⟨rR HO_8.out⟩,⟨rR HO_9.out⟩,⟨kN BK450.out⟩,⟨by repeat (first|(with_reducible exact HR449_0.out)|(with_reducible first|apply aC|apply nC|apply dC)|exact HR449_0.out|exact (Kd.V_reads' HL449_0.out).2.2)⟩,⟨kB HB.out⟩⟩
         case round =>
          clear H'
          try clear c1
          try clear hcv1
          try clear p2
          try clear c3
          try clear c4
          try clear p4
          try clear q4
          try clear hx4
          try clear hcv4
          try clear c5
          try clear hcv5
          try clear c6
          try clear p6
          try clear hcv6
          try clear c7
          try clear c8
          try clear c9
          try clear q9
          try clear hcv9
          try clear hcv10
          try clear c37
          try clear c37b0
          try clear c39
          try clear c39b0
          try clear c40
          try clear c40b0
          try clear c41
          try clear c41b0
          try clear c42
          try clear c42b0
          try clear hcv43
          try clear c44
          try clear p44
          try clear q44
          try clear c45
          try clear p45
          try clear q45
          try clear hx45
          try clear hcv45
          try clear c46
          try clear c46b0
          try clear hcv47
          try clear hcv49
          try clear c50
          try clear c50b0
          try clear hcv51
          try clear hcv53
          try clear c55
          try clear c55b0
          try clear hcv56
          try clear hcv58
          try clear hcv60
          try clear hcv62
          try clear p64
          try clear hcv65
          try clear hcv67
          try clear c68
          try clear c68b0
          try clear c70
          try clear c70b0
          try clear c72
          try clear c72b0
          try clear c75
          try clear c75b0
          try clear c81
          try clear c83
          try clear c83b0
          try clear c84
          try clear c84b0
          try clear c85
          try clear c85b0
          try clear c87
          try clear c87b0
          try clear c87b1
          try clear c88
          try clear c88b0
          try clear c88b1
          try clear c89
          try clear c89b0
          try clear c89b1
          try clear c90
          try clear c90b0
          try clear c90b1
          try clear c93
          try clear q93
          try clear hcv94
          try clear hcv95
          try clear c98
          try clear q98
          try clear hcv99
          try clear hcv100
          try clear hcz101_0
          try clear hcz101_1
          try clear hcz101_2
          try clear hcz101_3
          try clear hcz101_4
          try clear hcz36_0
          try clear hcz36_1
          try clear hcz36_2
          try clear hcz36_3
          try clear hcz36_4
          try clear hcz44_0
          try clear hcz44_1
          try clear hcz44_2
          try clear hcz44_3
          try clear hcz44_4
          try clear hcz48_0
          try clear hcz48_1
          try clear hcz48_2
          try clear hcz48_3
          try clear hcz48_4
          try clear hcz52_0
          try clear hcz52_1
          try clear hcz52_2
          try clear hcz52_3
          try clear hcz52_4
          try clear hcz57_0
          try clear hcz57_1
          try clear hcz57_2
          try clear hcz57_3
          try clear hcz57_4
          try clear hcz61_0
          try clear hcz61_1
          try clear hcz61_2
          try clear hcz61_3
          try clear hcz61_4
          try clear hcz66_0
          try clear hcz66_1
          try clear hcz66_2
          try clear hcz66_3
          try clear hcz66_4
          try clear hcz69_0
          try clear hcz69_1
          try clear hcz69_2
          try clear hcz69_3
          try clear hcz69_4
          try clear hcz71_0
          try clear hcz71_1
          try clear hcz71_2
          try clear hcz71_3
          try clear hcz71_4
          try clear hcz73_0
          try clear hcz73_1
          try clear hcz73_2
          try clear hcz73_3
          try clear hcz73_4
          try clear hcz76_0
          try clear hcz76_1
          try clear hcz76_2
          try clear hcz76_3
          try clear hcz76_4
          try clear hcz78_0
          try clear hcz78_1
          try clear hcz78_2
          try clear hcz78_3
          try clear hcz78_4
          try clear hcz82_0
          try clear hcz82_1
          try clear hcz82_2
          try clear hcz82_3
          try clear hcz82_4
          try clear hcz91_0
          try clear hcz91_1
          try clear hcz91_2
          try clear hcz91_3
          try clear hcz91_4
          try clear hcz96_0
          try clear hcz96_1
          try clear hcz96_2
          try clear hcz96_3
          try clear hcz96_4
          try clear hfz101_0
          try clear hfz101_1
          try clear hfz101_2
          try clear hfz101_3
          try clear hfz101_4
          try clear hfz36_0
          try clear hfz36_1
          try clear hfz36_2
          try clear hfz36_3
          try clear hfz36_4
          try clear hfz44_0
          try clear hfz44_1
          try clear hfz44_2
          try clear hfz44_3
          try clear hfz44_4
          try clear hfz48_0
          try clear hfz48_1
          try clear hfz48_2
          try clear hfz48_3
          try clear hfz48_4
          try clear hfz52_0
          try clear hfz52_1
          try clear hfz52_2
          try clear hfz52_3
          try clear hfz52_4
          try clear hfz57_0
          try clear hfz57_1
          try clear hfz57_2
          try clear hfz57_3
          try clear hfz57_4
          try clear hfz61_0
          try clear hfz61_1
          try clear hfz61_2
          try clear hfz61_3
          try clear hfz61_4
          try clear hfz66_0
          try clear hfz66_1
          try clear hfz66_2
          try clear hfz66_3
          try clear hfz66_4
          try clear hfz69_0
          try clear hfz69_1
          try clear hfz69_2
          try clear hfz69_3
          try clear hfz69_4
          try clear hfz71_0
          try clear hfz71_1
          try clear hfz71_2
          try clear hfz71_3
          try clear hfz71_4
          try clear hfz73_0
          try clear hfz73_1
          try clear hfz73_2
          try clear hfz73_3
          try clear hfz73_4
          try clear hfz76_0
          try clear hfz76_1
          try clear hfz76_2
          try clear hfz76_3
          try clear hfz76_4
          try clear hfz78_0
          try clear hfz78_1
          try clear hfz78_2
          try clear hfz78_3
          try clear hfz78_4
          try clear hfz82_0
          try clear hfz82_1
          try clear hfz82_2
          try clear hfz82_3
          try clear hfz82_4
          try clear hfz91_0
          try clear hfz91_1
          try clear hfz91_2
          try clear hfz91_3
          try clear hfz91_4
          try clear hfz96_0
          try clear hfz96_1
          try clear hfz96_2
          try clear hfz96_3
          try clear hfz96_4
          try clear hx451_0
          try clear hx451_1
          try clear hx451_2
          try clear hx451_3
          try clear hx451_4
          try clear hx452_0
          try clear hx453_0
          try clear p2
          try clear p4
          try clear p44
          try clear p449
          try clear p45
          try clear p451
          try clear p452
          try clear p453
          try clear p6
          try clear p64
          try clear q093
          try clear q098
          try clear q4
          try clear q44
          try clear q449
          try clear q45
          try clear q451
          try clear q452
          try clear q453
          try clear q93
          try clear q98
          obtain⟨x13_5,rfl,HA,HK5,HO_3,HO_4,HO_7,HO_8,HO_9,BK450,HR449_0,HB⟩:=hrel
          cases gk with
          | zero=>exact absurd HA.out (by simp [laws_FnParts.l2])
          | succ k5 =>
           have H:=HA.out
           clear HA
           simp only [laws_FnParts.l2] at H
           by_cases c102:x13_5 < ((rd_T48 t440 x10_2).f4)
           rotate_left
           ·rw [if_neg c102] at H
            have c102b0:decide (x13_5 < ((rd_T48 t440 x10_2).f4)) = false:=decide_eq_false c102
            clear c102
            have H':=mk0 H
            clear H
            obtain⟨hcz120_0,hcz120_1,hcz120_2,hcz120_3,hcz120_4,hfz120_0,hfz120_1,hfz120_2,hfz120_3,hfz120_4⟩:=cz5 BK450.out
            go_wp2
            repeat (go_quiet (fail);try go_wp2)
            go_roundg k5
            case measure=>have:=HJ8.out;have:=HK2.out;have:=HJ32.out;have:=HK4.out;have:=HK5.out;omega
            case rel=>exact⟨(wrap64 (x10_2 + 1)),(by first|rfl|(simp;done)|(simp [*];done)),H',⟨by have:=HJ8.out;have:=HK2.out;have:=HJ32.out;have:=HK4.out;have:=HK5.out;omega⟩,⟨rR HO_3.out⟩,⟨rR HO_4.out⟩,⟨rN (Kd.N_mono HO_7.out (fun _ hk=>⟨hk.1,⟨hk.2.1,⟨hk.2.2.1,hk.2.2.2.1⟩⟩⟩))⟩,⟨rR HO_8.out⟩,⟨rR HO_9.out⟩,⟨kB HB.out⟩⟩
           rw [if_pos c102] at H
           have c102b0:decide (x13_5 < ((rd_T48 t440 x10_2).f4)) = true:=decide_eq_true c102
           clear c102
           by_cases c103:0 ≤ x13_5
           rotate_left
           ·rw [if_neg c103] at H
            exact absurd H (by simp)
           rw [if_pos c103] at H
           have c103b0:decide (0 ≤ x13_5) = true:=decide_eq_true c103
           clear c103
           by_cases c104:x13_5 < (t446.length:Int)
           rotate_left
           ·rw [if_neg c104] at H
            exact absurd H (by simp)
           rw [if_pos c104] at H
           have c104b0:decide (x13_5 < (t446.length:Int)) = true:=decide_eq_true c104
           (try simp only [hl449_0] at c104b0)
           (try simp only [hl451_0] at c104b0)
           clear c104
           obtain⟨ji105,hji105⟩:∃ j_:Int,(mn (t425.length:Int) (wrap64 ((rd t446 x13_5) + t426))) = j_:=⟨_,rfl⟩
           replace H:(if 0 ≤ (rd t446 x13_5) then (if (rd t446 x13_5) ≤ (ji105) then (if (ji105) ≤ (t425.length:Int) then (if (strOfNums ((t425.take ((ji105):Int).toNat).drop ((rd t446 x13_5):Int).toNat)).toList = (strOfNums ((rd_T48 t440 x10_2).f0)).toList then (laws_FnParts.l2 k5 t424 t425 t426 t440 t443 t446 x10_2 (wrap64 (x13_5 + 1)) ((rd_T48 t440 x10_2).f0) ((rd_T48 t440 x10_2).f1) ((rd_T48 t440 x10_2).f2) ((rd_T48 t440 x10_2).f3) ((rd_T48 t440 x10_2).f4)) else (some false)) else (none)) else (none)) else (none)) = some r:=by first|(rw [hji105] at H;exact H)|(simp only [hji105] at H ⊢;exact H)
           have hji105_:(if (wrap64 ((rd t446 x13_5) + t426)) < (t425.length:Int) then (wrap64 ((rd t446 x13_5) + t426)) else (t425.length:Int)) = ji105:=hji105
           by_cases c106:0 ≤ (rd t446 x13_5)
           rotate_left
           ·rw [if_neg c106] at H
            exact absurd H (by simp)
           rw [if_pos c106] at H
           have c106b0:=eq_true c106
           have c106b1:decide (0 ≤ (rd t446 x13_5)) = true:=decide_eq_true c106
           clear c106
           by_cases c107:(rd t446 x13_5) ≤ (ji105)
           rotate_left
           ·rw [if_neg c107] at H
            exact absurd H (by simp)
           rw [if_pos c107] at H
           have c107b0:=eq_true c107
           have c107b1:decide ((rd t446 x13_5) ≤ (ji105)) = true:=decide_eq_true c107
           clear c107
           by_cases c108:(ji105) ≤ (t425.length:Int)
           rotate_left
           ·rw [if_neg c108] at H
            exact absurd H (by simp)
           rw [if_pos c108] at H
           have c108b0:=eq_true c108
           have c108b1:decide ((ji105) ≤ (t425.length:Int)) = true:=decide_eq_true c108
           (try simp only [hl449_0] at c108b1)
           (try simp only [hl451_0] at c108b1)
           clear c108
           obtain⟨y461,hy461⟩:∃ y_:List Int,y_ = ((t425.take ((ji105):Int).toNat).drop ((rd t446 x13_5):Int).toNat):=⟨_,rfl⟩
           replace H:(if (strOfNums y461).toList = (strOfNums ((rd_T48 t440 x10_2).f0)).toList then (laws_FnParts.l2 k5 t424 t425 t426 t440 t443 t446 x10_2 (wrap64 (x13_5 + 1)) ((rd_T48 t440 x10_2).f0) ((rd_T48 t440 x10_2).f1) ((rd_T48 t440 x10_2).f2) ((rd_T48 t440 x10_2).f3) ((rd_T48 t440 x10_2).f4)) else (some false)) = some r:=by first|(rw [hy461];with_reducible exact H)|(have H2_:=(Option.bind_some _ _).symm.trans H;rw [hy461];with_reducible exact H2_)|(have H2_:=(Option.bind_some _ _).symm.trans H;with_reducible exact H2_)|with_reducible exact H|(rw [hy461];exact H)|exact H
           have Ny461:=mk0 hy461
           clear hy461
           by_cases c109:(strOfNums y461).toList = (strOfNums ((rd_T48 t440 x10_2).f0)).toList
           rotate_left
           ·rw [if_neg c109] at H
            have c109b0:((strOfNums y461).toList == (strOfNums ((rd_T48 t440 x10_2).f0)).toList) = false:=beq_eq_false_iff_ne.mpr c109
            have c109b1:((strOfNums y461).toList != (strOfNums ((rd_T48 t440 x10_2).f0)).toList) = true:=bne_iff_ne.mpr c109
            obtain rfl:=Option.some.inj H
            obtain⟨hcz115_0,hcz115_1,hcz115_2,hcz115_3,hcz115_4,hfz115_0,hfz115_1,hfz115_2,hfz115_3,hfz115_4⟩:=cz5 BK450.out
            obtain⟨Ao116,co116,eo116⟩:=Kd.R_slice HO_9.out
            subst eo116
            have p459:0 ≤ (x13_5:Int):=of_decide_eq_true (by first|(with_reducible assumption)|assumption)
            have q459:x13_5 < (t446.length:Int):=of_decide_eq_true (by first|(with_reducible assumption)|assumption)
            obtain⟨ad459,e459,hx459_0⟩:=Kd.at_int (Kd.R_reads' HO_9.out).2.2 x13_5 p459 q459
            cases e459
            replace p459:=eq_true p459
            replace q459:=eq_true q459
            have p460:0 ≤ (x13_5:Int):=of_decide_eq_true (by first|(with_reducible assumption)|assumption)
            have q460:x13_5 < (t446.length:Int):=of_decide_eq_true (by first|(with_reducible assumption)|assumption)
            obtain⟨ad460,e460,hx460_0⟩:=Kd.at_int (Kd.R_reads' HO_9.out).2.2 x13_5 p460 q460
            obtain rfl:ad459 = ad460:=(by injection e460)
            replace p460:=eq_true p460
            replace q460:=eq_true q460
            have q117:((ji105):Int) ≤ ((t425.length:Int):Int):=of_decide_eq_true (by first|(with_reducible assumption)|assumption)
            obtain⟨i0117,hi0117,_,hsz117,_⟩:=info_parts info5
            have hroom117:t425.length ≤ co12:=(Kd.R_reads' HO_4.out).2.1
            have hC117:Kd.F (Kd.int .u8) _ _ Ao12 t425.length t425:=(Kd.V_at (base:=w.heap.size) (Kd.R_V (Kd.R_types (Kd.R_apart' (Kd.R_apart' (Kd.R_apart' (HO_4.out) (Kd.N_typed HO_7.out) (by decide)) (Kd.R_typed HO_8.out) (by decide)) (Kd.R_typed HO_9.out) (by decide)) BK450.out (by decide)))).2.2
            have ql117:((rd t446 x13_5):Int) ≤ ((ji105):Int):=of_decide_eq_true (by first|(with_reducible assumption)|assumption)
            have q0117:(0:Int) ≤ ((rd t446 x13_5):Int):=of_decide_eq_true (by first|(with_reducible assumption)|assumption)
            have hcut117:=cut_mid (P:=Try.prog) 22 5 .i64 .i64 Try.underlying22 hi0117 1 hsz117 Ao12 t425.length co12 (rd t446 x13_5) (ji105) q0117 ql117 q117 hroom117
            have hr117:=Kd.F_mid (lo:=((rd t446 x13_5):Int).toNat) (hi:=((ji105):Int).toNat) (c:=co12) hC117 (by omega) (by omega) hroom117
            obtain⟨A117,hA117⟩:∃ A1,A1 = (if co12 = ((rd t446 x13_5):Int).toNat then Ao12 else (Ao12:Option Addr).map (·.add (((rd t446 x13_5):Int).toNat * 1))):=⟨_,rfl⟩
            obtain⟨c117,hc117⟩:∃ c1,c1 = co12 - ((rd t446 x13_5):Int).toNat:=⟨_,rfl⟩
            have hy117:y461.length = ((ji105):Int).toNat - ((rd t446 x13_5):Int).toNat:=(by rw [Ny461.out,List.length_drop,List.length_take] <;> omega)
            rw [show ((t425).take ((ji105):Int).toNat).drop ((rd t446 x13_5):Int).toNat = y461 from Ny461.out.symm] at hr117
            replace hr117:Kd.F (Kd.int .u8) _ _ A117 y461.length y461:=(by rw [hA117];exact hr117)
            rw [← hy117, ← hA117, ← hc117] at hcut117
            have HO465:=mk0 (show Kd.V (Kd.int .u8) 5 _ w.heap.size _ (.slice A117 y461.length c117) y461 from Kd.V_mk (by rw [hy117,hc117];exact Nat.sub_le_sub_right (Nat.le_trans (by omega) hroom117) _) hr117)
            have HC465:=mk0 (show y461.length ≤ c117 from by rw [hy117,hc117];exact Nat.sub_le_sub_right (Nat.le_trans (by omega) hroom117) _)
            clear hr117 hC117 hroom117 hi0117 hsz117 hc117
            have KY117:=mk0 hy117
            have KA117:=mk0 hA117
            clear hy117 hA117
            replace q117:=eq_true q117
            have hcv118:=Kd.C_string (P:=Try.prog) (A:=A117) (c:=c117) Try.underlying22 Try.underlying5 Try.underlying9 (Kd.V_reads' HO465.out).2.2
            have hcw118:=fun (n_:Nat)=>Kd.C_string (P:=Try.prog) (A:=A117) (c:=c117) Try.underlying22 Try.underlying5 Try.underlying9 (Kd.C_drewN (Kd.V_reads' HO465.out).2.2 n_)
            have hcv119:=Kd.C_string (P:=Try.prog) (A:=A449_0) (c:=c449_0) Try.underlying22 Try.underlying5 Try.underlying9 HR449_0.out
            have hcw119:=fun (n_:Nat)=>Kd.C_string (P:=Try.prog) (A:=A449_0) (c:=c449_0) Try.underlying22 Try.underlying5 Try.underlying9 (Kd.C_drewN HR449_0.out n_)
            go_wp2
            repeat (go_quiet (fail);try go_wp2)
            go_ret
            exact⟨by first|rfl|(simp [errW_none,errW_some] <;> rfl)|(simp only [← hji105];first|rfl|(simp [errW_none,errW_some] <;> rfl))|(simp [*,errW_none,errW_some] <;> rfl),kB HB.out⟩
           rw [if_pos c109] at H
           have c109b0:((strOfNums y461).toList == (strOfNums ((rd_T48 t440 x10_2).f0)).toList) = true:=beq_iff_eq.mpr c109
           have c109b1:((strOfNums y461).toList != (strOfNums ((rd_T48 t440 x10_2).f0)).toList) = false:=bne_eq_false_iff_eq.mpr c109
           clear c109
           have H':=mk0 H
           clear H
           obtain⟨hcz110_0,hcz110_1,hcz110_2,hcz110_3,hcz110_4,hfz110_0,hfz110_1,hfz110_2,hfz110_3,hfz110_4⟩:=cz5 BK450.out
           obtain⟨Ao111,co111,eo111⟩:=Kd.R_slice HO_9.out
           subst eo111
           have p459:0 ≤ (x13_5:Int):=of_decide_eq_true (by first|(with_reducible assumption)|assumption)
           have q459:x13_5 < (t446.length:Int):=of_decide_eq_true (by first|(with_reducible assumption)|assumption)
           obtain⟨ad459,e459,hx459_0⟩:=Kd.at_int (Kd.R_reads' HO_9.out).2.2 x13_5 p459 q459
           cases e459
           replace p459:=eq_true p459
           replace q459:=eq_true q459
           have p460:0 ≤ (x13_5:Int):=of_decide_eq_true (by first|(with_reducible assumption)|assumption)
           have q460:x13_5 < (t446.length:Int):=of_decide_eq_true (by first|(with_reducible assumption)|assumption)
           obtain⟨ad460,e460,hx460_0⟩:=Kd.at_int (Kd.R_reads' HO_9.out).2.2 x13_5 p460 q460
           obtain rfl:ad459 = ad460:=(by injection e460)
           replace p460:=eq_true p460
           replace q460:=eq_true q460
           have q112:((ji105):Int) ≤ ((t425.length:Int):Int):=of_decide_eq_true (by first|(with_reducible assumption)|assumption)
           obtain⟨i0112,hi0112,_,hsz112,_⟩:=info_parts info5
           have hroom112:t425.length ≤ co12:=(Kd.R_reads' HO_4.out).2.1
           have hC112:Kd.F (Kd.int .u8) _ _ Ao12 t425.length t425:=(Kd.V_at (base:=w.heap.size) (Kd.R_V (Kd.R_types (Kd.R_apart' (Kd.R_apart' (Kd.R_apart' (HO_4.out) (Kd.N_typed HO_7.out) (by decide)) (Kd.R_typed HO_8.out) (by decide)) (Kd.R_typed HO_9.out) (by decide)) BK450.out (by decide)))).2.2
           have ql112:((rd t446 x13_5):Int) ≤ ((ji105):Int):=of_decide_eq_true (by first|(with_reducible assumption)|assumption)
           have q0112:(0:Int) ≤ ((rd t446 x13_5):Int):=of_decide_eq_true (by first|(with_reducible assumption)|assumption)
           have hcut112:=cut_mid (P:=Try.prog) 22 5 .i64 .i64 Try.underlying22 hi0112 1 hsz112 Ao12 t425.length co12 (rd t446 x13_5) (ji105) q0112 ql112 q112 hroom112
           have hr112:=Kd.F_mid (lo:=((rd t446 x13_5):Int).toNat) (hi:=((ji105):Int).toNat) (c:=co12) hC112 (by omega) (by omega) hroom112
           obtain⟨A112,hA112⟩:∃ A1,A1 = (if co12 = ((rd t446 x13_5):Int).toNat then Ao12 else (Ao12:Option Addr).map (·.add (((rd t446 x13_5):Int).toNat * 1))):=⟨_,rfl⟩
           obtain⟨c112,hc112⟩:∃ c1,c1 = co12 - ((rd t446 x13_5):Int).toNat:=⟨_,rfl⟩
           have hy112:y461.length = ((ji105):Int).toNat - ((rd t446 x13_5):Int).toNat:=(by rw [Ny461.out,List.length_drop,List.length_take] <;> omega)
           rw [show ((t425).take ((ji105):Int).toNat).drop ((rd t446 x13_5):Int).toNat = y461 from Ny461.out.symm] at hr112
           replace hr112:Kd.F (Kd.int .u8) _ _ A112 y461.length y461:=(by rw [hA112];exact hr112)
           rw [← hy112, ← hA112, ← hc112] at hcut112
           have HO465:=mk0 (show Kd.V (Kd.int .u8) 5 _ w.heap.size _ (.slice A112 y461.length c112) y461 from Kd.V_mk (by rw [hy112,hc112];exact Nat.sub_le_sub_right (Nat.le_trans (by omega) hroom112) _) hr112)
           have HC465:=mk0 (show y461.length ≤ c112 from by rw [hy112,hc112];exact Nat.sub_le_sub_right (Nat.le_trans (by omega) hroom112) _)
           clear hr112 hC112 hroom112 hi0112 hsz112 hc112
           have KY112:=mk0 hy112
           have KA112:=mk0 hA112
           clear hy112 hA112
           replace q112:=eq_true q112
           have hcv113:=Kd.C_string (P:=Try.prog) (A:=A112) (c:=c112) Try.underlying22 Try.underlying5 Try.underlying9 (Kd.V_reads' HO465.out).2.2
           have hcw113:=fun (n_:Nat)=>Kd.C_string (P:=Try.prog) (A:=A112) (c:=c112) Try.underlying22 Try.underlying5 Try.underlying9 (Kd.C_drewN (Kd.V_reads' HO465.out).2.2 n_)
           have hcv114:=Kd.C_string (P:=Try.prog) (A:=A449_0) (c:=c449_0) Try.underlying22 Try.underlying5 Try.underlying9 HR449_0.out
           have hcw114:=fun (n_:Nat)=>Kd.C_string (P:=Try.prog) (A:=A449_0) (c:=c449_0) Try.underlying22 Try.underlying5 Try.underlying9 (Kd.C_drewN HR449_0.out n_)
           go_wp2
           repeat (go_quiet (fail);try go_wp2)
           go_roundg k5
           case measure=>have:=HJ8.out;have:=HK2.out;have:=HJ32.out;have:=HK4.out;have:=HK5.out;omega
           case rel=>exact⟨(wrap64 (x13_5 + 1)),(by first|rfl|(simp;done)|(simp [*];done)),H',⟨by have:=HJ8.out;have:=HK2.out;have:=HJ32.out;have:=HK4.out;have:=HK5.out;omega⟩,⟨rR HO_3.out⟩,⟨rR HO_4.out⟩,⟨rN HO_7.out⟩,⟨rR HO_8.out⟩,⟨rR HO_9.out⟩,⟨kN BK450.out⟩,⟨by repeat (first|(with_reducible exact HR449_0.out)|(with_reducible first|apply aC|apply nC|apply dC)|exact HR449_0.out|exact (Kd.V_reads' HL449_0.out).2.2)⟩,⟨kB HB.out⟩⟩
/-- THE ONE PURE STATEMENT of laws_FnParts: yours. -/
def laws_FnParts.Pure : Prop := ∀ (l0 : List Int), l0.length ≤ maxLen → l0.length * 1 ≤ 140737488351232 → (∀ x ∈ l0, (Lit.int .u8 x).wf = true) → ∃ k, laws_FnParts.f k l0 = some true
theorem laws_FnParts.walk (P : laws_FnParts.Pure) (a0 : Option Addr) (len0 cap0 : Nat) (z0 : List Int) (w : World) (w0 : (a0 = none ∧ len0 = 0 ∧ cap0 = 0 ∧ z0 = []) ∨ ∃ x, a0 = some x ∧ len0 ≤ cap0 ∧ cap0 ≤ maxLen ∧ z0.length = cap0 ∧ (∀ i, i < z0.length → w.cell? (x.add i) = some (.int .u8 (z0.getD i 0))) ∧ ∀ n ∈ z0, (Lit.int .u8 n).wf = true) (y0 : len0 * 1 ≤ 140737488351232) :
    Calls Try.prog 7 #[.slice a0 len0 cap0] w fun e w' => e = .returned (.bool true) ∧ Below w.heap.size w w' := by
  obtain ⟨l0, rfl, hr0, hm0, hw0, hc0⟩ := ReadsInt.ofRowC w0
  obtain ⟨k, h⟩ := P l0 hm0 y0 hw0
  refine (laws_FnParts.calls k _ _ l0 true w (Kd.C_of_reads (d := (0 : Int)) (h1 := fun _ => rfl) hr0) hc0 h).mono ?_
  rintro e w' ⟨rfl, hd⟩
  exact ⟨rfl, hd⟩

end Go.Proofs.Ytadhngelhognaaa.QFnParts
