-- A walk, made by walk.py, a program of this session's.
import Derived.Test.YtlnmkgeoiinjfaaQFnCommonx0
import Derived.Test.YtlnmkgeoiinjfaaQFnCommonx1
import Derived.Test.YtlnmkgeoiinjfaaQFnCommonx2
namespace Go.Proofs.Ytlnmkgeoiinjfaa.QFnCommon
open Go.RowKit Go.Proofs.YtlnmkgeoiinjfaaW.PrintWords Go.Proofs.YtlnmkgeoiinjfaaW.PrintLast Go.Proofs.YtlnmkgeoiinjfaaW.PrintMore
attribute [local go_sem] max2_int min2_int max_two min_two max_three min_three max_four min_four   -- for this text's walks alone
set_option linter.unusedVariables false
set_option linter.unusedSimpArgs false

/-! ### spec_CommonOf: function 25 -/
mutual
def spec_CommonOf.j0 : Nat → List Int → List Int → Bool → Option ((List (S56)))
 | 0, _, _, _ => none
 | k + 1, x0, x1, x19 => if x19 = true then (some ([] : List (S56))) else ((spec_l12Table.f k x0 x1).bind fun t205 => (spec_CommonOf.l0 k x0 x1 t205 (([] : List (S56))) 0 0))
def spec_CommonOf.l0 : Nat → List Int → List Int → List (List Int) → List (S56) → Int → Int → Option ((List (S56)))
 | 0, _, _, _, _, _, _ => none
 | k + 1, x0, x1, x5, x6, x7, x8 => if 0 ≤ x7 then (if x7 < (x5.length : Int) then (if 0 ≤ x8 then (if x8 < ((rd_L1 x5 x7).length : Int) then (if (rd (rd_L1 x5 x7) x8) > 0 then (spec_CommonOf.l1 k x0 x1 x5 x6 x7 x8 x7 (-1)) else (some x6)) else (none)) else (none)) else (none)) else (none)
def spec_CommonOf.l1 : Nat → List Int → List Int → List (List Int) → List (S56) → Int → Int → Int → Int → Option ((List (S56)))
 | 0, _, _, _, _, _, _, _, _ => none
 | k + 1, x0, x1, x5, x6, x7, x8, x9, x10 => if x10 < 0 then (spec_CommonOf.l2 k x0 x1 x5 x6 x7 x8 x9 x10 (wrap64 ((x1.length : Int) - 1))) else (if x6.length < 8796093022208 then (spec_CommonOf.l0 k x0 x1 x5 (x6 ++ [(⟨wrap64 (x9 - 1), x10⟩ : S56)]) x9 (wrap64 (x10 + 1))) else (none))
def spec_CommonOf.l2 : Nat → List Int → List Int → List (List Int) → List (S56) → Int → Int → Int → Int → Int → Option ((List (S56)))
 | 0, _, _, _, _, _, _, _, _, _ => none
 | k + 1, x0, x1, x5, x6, x7, x8, x9, x10, x11 => if x11 ≥ x8 then (if 0 ≤ x9 then (if x9 < (x0.length : Int) then (if 0 ≤ x11 then (if x11 < (x1.length : Int) then (if (rd x0 x9) = (rd x1 x11) then (if 0 ≤ (wrap64 (x9 + 1)) then (if (wrap64 (x9 + 1)) < (x5.length : Int) then (if 0 ≤ (wrap64 (x11 + 1)) then (if (wrap64 (x11 + 1)) < ((rd_L1 x5 (wrap64 (x9 + 1))).length : Int) then (if 0 ≤ x7 then (if x7 < (x5.length : Int) then (if 0 ≤ x8 then (if x8 < ((rd_L1 x5 x7).length : Int) then (if (wrap64 (1 + (rd (rd_L1 x5 (wrap64 (x9 + 1))) (wrap64 (x11 + 1))))) = (rd (rd_L1 x5 x7) x8) then (spec_CommonOf.l2 k x0 x1 x5 x6 x7 x8 x9 x11 (wrap64 (x11 - 1))) else (spec_CommonOf.l2 k x0 x1 x5 x6 x7 x8 x9 x10 (wrap64 (x11 - 1)))) else (none)) else (none)) else (none)) else (none)) else (none)) else (none)) else (none)) else (none)) else (spec_CommonOf.l2 k x0 x1 x5 x6 x7 x8 x9 x10 (wrap64 (x11 - 1)))) else (none)) else (none)) else (none)) else (none)) else (spec_CommonOf.l1 k x0 x1 x5 x6 x7 x8 (wrap64 (x9 + 1)) x10)
end
def spec_CommonOf.f (k : Nat) (l0 : List Int) (l1 : List Int) : Option ((List (S56))) := (spec_l12Right.f l0).bind fun t203 => (if t203 = true then ((spec_l12Right.f l1).bind fun t204 => (spec_CommonOf.j0 k l0 l1 (!t204))) else (spec_CommonOf.j0 k l0 l1 true))
theorem spec_CommonOf.mono_l : ∀ k, (∀ y0 y1 y2, LeO (spec_CommonOf.j0 k y0 y1 y2) (spec_CommonOf.j0 (k + 1) y0 y1 y2)) ∧ (∀ y0 y1 y2 y3 y4 y5, LeO (spec_CommonOf.l0 k y0 y1 y2 y3 y4 y5) (spec_CommonOf.l0 (k + 1) y0 y1 y2 y3 y4 y5)) ∧ (∀ y0 y1 y2 y3 y4 y5 y6 y7, LeO (spec_CommonOf.l1 k y0 y1 y2 y3 y4 y5 y6 y7) (spec_CommonOf.l1 (k + 1) y0 y1 y2 y3 y4 y5 y6 y7)) ∧ (∀ y0 y1 y2 y3 y4 y5 y6 y7 y8, LeO (spec_CommonOf.l2 k y0 y1 y2 y3 y4 y5 y6 y7 y8) (spec_CommonOf.l2 (k + 1) y0 y1 y2 y3 y4 y5 y6 y7 y8))
 | 0 => ⟨fun _ _ _ r h => by simp [spec_CommonOf.j0] at h, fun _ _ _ _ _ _ r h => by simp [spec_CommonOf.l0] at h, fun _ _ _ _ _ _ _ _ r h => by simp [spec_CommonOf.l1] at h, fun _ _ _ _ _ _ _ _ _ r h => by simp [spec_CommonOf.l2] at h⟩
 | k + 1 => by
  obtain ⟨ih0, ih1, ih2, ih3⟩ := spec_CommonOf.mono_l k
  refine ⟨?_, ?_, ?_, ?_⟩
  ·intro y0 y1 y2
   unfold spec_CommonOf.j0
   repeat' first
   | (with_reducible exact ih0 _ _ _)
   | (with_reducible exact ih1 _ _ _ _ _ _)
   | (with_reducible exact ih2 _ _ _ _ _ _ _ _)
   | (with_reducible exact ih3 _ _ _ _ _ _ _ _ _)
   | (with_reducible exact spec_l12Table.mono _ _ _)
   | (with_reducible exact LeO.refl _)
   | (with_reducible exact LeO.none _)
   | (with_reducible refine LeO.ite ?_ ?_)
   | (with_reducible refine LeO.bind ?_ (fun _ => ?_))
   | exact ih0 _ _ _
   | exact ih1 _ _ _ _ _ _
   | exact ih2 _ _ _ _ _ _ _ _
   | exact ih3 _ _ _ _ _ _ _ _ _
   | exact spec_l12Table.mono _ _ _
   | exact LeO.none _
   | refine LeO.ite ?_ ?_
   | refine LeO.bind ?_ (fun _ => ?_)
  ·intro y0 y1 y2 y3 y4 y5
   unfold spec_CommonOf.l0
   repeat' first
   | (with_reducible exact ih0 _ _ _)
   | (with_reducible exact ih1 _ _ _ _ _ _)
   | (with_reducible exact ih2 _ _ _ _ _ _ _ _)
   | (with_reducible exact ih3 _ _ _ _ _ _ _ _ _)
   | (with_reducible exact spec_l12Table.mono _ _ _)
   | (with_reducible exact LeO.refl _)
   | (with_reducible exact LeO.none _)
   | (with_reducible refine LeO.ite ?_ ?_)
   | (with_reducible refine LeO.bind ?_ (fun _ => ?_))
   | exact ih0 _ _ _
   | exact ih1 _ _ _ _ _ _
   | exact ih2 _ _ _ _ _ _ _ _
   | exact ih3 _ _ _ _ _ _ _ _ _
   | exact spec_l12Table.mono _ _ _
   | exact LeO.none _
   | refine LeO.ite ?_ ?_
   | refine LeO.bind ?_ (fun _ => ?_)
  ·intro y0 y1 y2 y3 y4 y5 y6 y7
   unfold spec_CommonOf.l1
   repeat' first
   | (with_reducible exact ih0 _ _ _)
   | (with_reducible exact ih1 _ _ _ _ _ _)
   | (with_reducible exact ih2 _ _ _ _ _ _ _ _)
   | (with_reducible exact ih3 _ _ _ _ _ _ _ _ _)
   | (with_reducible exact spec_l12Table.mono _ _ _)
   | (with_reducible exact LeO.refl _)
   | (with_reducible exact LeO.none _)
   | (with_reducible refine LeO.ite ?_ ?_)
   | (with_reducible refine LeO.bind ?_ (fun _ => ?_))
   | exact ih0 _ _ _
   | exact ih1 _ _ _ _ _ _
   | exact ih2 _ _ _ _ _ _ _ _
   | exact ih3 _ _ _ _ _ _ _ _ _
   | exact spec_l12Table.mono _ _ _
   | exact LeO.none _
   | refine LeO.ite ?_ ?_
   | refine LeO.bind ?_ (fun _ => ?_)
  ·intro y0 y1 y2 y3 y4 y5 y6 y7 y8
   unfold spec_CommonOf.l2
   repeat' first
   | (with_reducible exact ih0 _ _ _)
   | (with_reducible exact ih1 _ _ _ _ _ _)
   | (with_reducible exact ih2 _ _ _ _ _ _ _ _)
   | (with_reducible exact ih3 _ _ _ _ _ _ _ _ _)
   | (with_reducible exact spec_l12Table.mono _ _ _)
   | (with_reducible exact LeO.refl _)
   | (with_reducible exact LeO.none _)
   | (with_reducible refine LeO.ite ?_ ?_)
   | (with_reducible refine LeO.bind ?_ (fun _ => ?_))
   | exact ih0 _ _ _
   | exact ih1 _ _ _ _ _ _
   | exact ih2 _ _ _ _ _ _ _ _
   | exact ih3 _ _ _ _ _ _ _ _ _
   | exact spec_l12Table.mono _ _ _
   | exact LeO.none _
   | refine LeO.ite ?_ ?_
   | refine LeO.bind ?_ (fun _ => ?_)
theorem spec_CommonOf.mono : ∀ a0 a1 k, LeO (spec_CommonOf.f k a0 a1) (spec_CommonOf.f (k + 1) a0 a1) := by
 intro a0 a1 k
 obtain ⟨ih0, ih1, ih2, ih3⟩ := spec_CommonOf.mono_l k
 unfold spec_CommonOf.f
 repeat' first
   | (with_reducible exact ih0 _ _ _)
   | (with_reducible exact ih1 _ _ _ _ _ _)
   | (with_reducible exact ih2 _ _ _ _ _ _ _ _)
   | (with_reducible exact ih3 _ _ _ _ _ _ _ _ _)
   | (with_reducible exact spec_l12Table.mono _ _ _)
   | (with_reducible exact LeO.refl _)
   | (with_reducible exact LeO.none _)
   | (with_reducible refine LeO.ite ?_ ?_)
   | (with_reducible refine LeO.bind ?_ (fun _ => ?_))
   | exact ih0 _ _ _
   | exact ih1 _ _ _ _ _ _
   | exact ih2 _ _ _ _ _ _ _ _
   | exact ih3 _ _ _ _ _ _ _ _ _
   | exact spec_l12Table.mono _ _ _
   | exact LeO.none _
   | refine LeO.ite ?_ ?_
   | refine LeO.bind ?_ (fun _ => ?_)
set_option maxHeartbeats 8000000 in
set_option maxRecDepth 100000 in
theorem spec_CommonOf.calls (k : Nat) (A0 : Option Addr) (c0 : Nat) (l0 : List Int) (A1 : Option Addr) (c1 : Nat) (l1 : List Int) (r : List (S56)) (w : World) (hr0 : Kd.C (Kd.int .i64) w A0 l0.length l0) (hc0 : l0.length ≤ c0) (hr1 : Kd.C (Kd.int .i64) w A1 l1.length l1) (hc1 : l1.length ≤ c1) (h : spec_CommonOf.f k l0 l1 = some r) :
  Calls Try.prog 25 #[.slice A0 l0.length c0, .slice A1 l1.length c1] w fun e w' => ∃ v0_ : Value, e = .returned (v0_) ∧ Kd.R k56 56 w' w.heap.size (fun _ => True) v0_ r ∧ Below w.heap.size w w' := by
 have hu56:=Try.underlying56
 have HR0:=mk0 hr0
 have HC0:=mk0 hc0
 clear hr0 hc0
 have HR1:=mk0 hr1
 have HC1:=mk0 hc1
 clear hr1 hc1
 have HB:=mk0 (Below.refl w.heap.size w)
 have H:((spec_l12Right.f l0).bind fun t203=>(if t203 = true then ((spec_l12Right.f l1).bind fun t204=>(spec_CommonOf.j0 k l0 l1 (!t204))) else (spec_CommonOf.j0 k l0 l1 true))) = some r:=h
 clear h
 have HC3:=mk0 H
 clear H
 go_enter Try.func25,Try.ntmps25
 go_upto_region 1 with (fail)
 repeat (go_quiet (fail);go_upto_region 1 with (fail))
 go_cut [19] (fun v19 wc=>∃ (kq:Nat) (x19_2:Bool),v19 = .bool x19_2 ∧ Aside0 (spec_CommonOf.j0 kq l0 l1 x19_2 = some r) ∧ Aside0 (kq ≤ k) ∧ Aside0 (Below w.heap.size w wc))
 case first =>
  have H:=HC3.out
  clear HC3
  replace H:=Option.bind_eq_some_iff.mp H
  obtain⟨t203,A40,H⟩:=H
  replace H:(if t203 = true then ((spec_l12Right.f l1).bind fun t204=>(spec_CommonOf.j0 k l0 l1 (!t204))) else (spec_CommonOf.j0 k l0 l1 true)) = some r:=H
  have A4:=mk0 A40
  clear A40
  by_cases c5:t203 = true
  rotate_left
  ·replace c5:=Bool.eq_false_iff.mpr c5
   subst c5
   have H1:(spec_CommonOf.j0 k l0 l1 true) = some r:=by rw [if_neg (show ¬ (false = true) by decide)] at H;exact H
   clear H
   have H:=H1
   clear H1
   have H':=mk0 H
   clear H
   go_wp2_with (first|(go_at_call 35;(with_reducible refine (spec_l12Right.calls _ _ l0 false _ ?side1 ?side2 A4.out).mono ?_);(case side1=>repeat (first|exact (Kd.C_below HR0.out HB.out)|(with_reducible first|refine aC ?_ _|refine nC ?_ _|refine dC ?_)));(case side2=>exact HC0.out);rintro e w' ⟨rfl,⟨nd,rfl⟩⟩;(try first|exact⟨rfl,_,World.drewN_drewN _ _ _⟩|exact⟨rfl,_,Eq.trans (World.drewN_drewN _ _ _) (congrArg (World.drewN _) (Nat.add_assoc _ _ _))⟩)))
   repeat (go_quiet (first|(go_at_call 35;(with_reducible refine (spec_l12Right.calls _ _ l0 false _ ?side1 ?side2 A4.out).mono ?_);(case side1=>repeat (first|exact (Kd.C_below HR0.out HB.out)|(with_reducible first|refine aC ?_ _|refine nC ?_ _|refine dC ?_)));(case side2=>exact HC0.out);rintro e w' ⟨rfl,⟨nd,rfl⟩⟩;(try first|exact⟨rfl,_,World.drewN_drewN _ _ _⟩|exact⟨rfl,_,Eq.trans (World.drewN_drewN _ _ _) (congrArg (World.drewN _) (Nat.add_assoc _ _ _))⟩)));try go_wp2_with (first|(go_at_call 35;(with_reducible refine (spec_l12Right.calls _ _ l0 false _ ?side1 ?side2 A4.out).mono ?_);(case side1=>repeat (first|exact (Kd.C_below HR0.out HB.out)|(with_reducible first|refine aC ?_ _|refine nC ?_ _|refine dC ?_)));(case side2=>exact HC0.out);rintro e w' ⟨rfl,⟨nd,rfl⟩⟩;(try first|exact⟨rfl,_,World.drewN_drewN _ _ _⟩|exact⟨rfl,_,Eq.trans (World.drewN_drewN _ _ _) (congrArg (World.drewN _) (Nat.add_assoc _ _ _))⟩))))
   go_meet
   case rel=>exact⟨_,(true),(by first|rfl|(simp;done)|(simp [*];done)),H',⟨by first|omega|exact Nat.le_refl _⟩,⟨by repeat (first|(with_reducible first|exact HB.out|apply aZ|apply nZ|apply dZ)|exact HB.out)⟩⟩
  subst c5
  have H1:((spec_l12Right.f l1).bind fun t204=>(spec_CommonOf.j0 k l0 l1 (!t204))) = some r:=by rw [if_pos rfl] at H;exact H
  clear H
  have H:=H1
  clear H1
  replace H:=Option.bind_eq_some_iff.mp H
  obtain⟨t204,A60,H⟩:=H
  replace H:(spec_CommonOf.j0 k l0 l1 (!t204)) = some r:=H
  have A6:=mk0 A60
  clear A60
  have H':=mk0 H
  clear H
  go_wp2_with (first|(go_at_call 35;(with_reducible refine (spec_l12Right.calls _ _ l0 true _ ?side1 ?side2 A4.out).mono ?_);(case side1=>repeat (first|exact (Kd.C_below HR0.out HB.out)|(with_reducible first|refine aC ?_ _|refine nC ?_ _|refine dC ?_)));(case side2=>exact HC0.out);rintro e w' ⟨rfl,⟨nd,rfl⟩⟩;(try first|exact⟨rfl,_,World.drewN_drewN _ _ _⟩|exact⟨rfl,_,Eq.trans (World.drewN_drewN _ _ _) (congrArg (World.drewN _) (Nat.add_assoc _ _ _))⟩))|(go_at_call 35;(with_reducible refine (spec_l12Right.calls _ _ l1 t204 _ ?side1 ?side2 A6.out).mono ?_);(case side1=>repeat (first|exact (Kd.C_below HR1.out (by repeat (first|(with_reducible first|exact HB.out|apply aZ|apply nZ|apply dZ)|exact HB.out)))|(with_reducible first|refine aC ?_ _|refine nC ?_ _|refine dC ?_)));(case side2=>exact HC1.out);rintro e w' ⟨rfl,⟨nd,rfl⟩⟩;(try first|exact⟨rfl,_,World.drewN_drewN _ _ _⟩|exact⟨rfl,_,Eq.trans (World.drewN_drewN _ _ _) (congrArg (World.drewN _) (Nat.add_assoc _ _ _))⟩)))
  repeat (go_quiet (first|(go_at_call 35;(with_reducible refine (spec_l12Right.calls _ _ l0 true _ ?side1 ?side2 A4.out).mono ?_);(case side1=>repeat (first|exact (Kd.C_below HR0.out HB.out)|(with_reducible first|refine aC ?_ _|refine nC ?_ _|refine dC ?_)));(case side2=>exact HC0.out);rintro e w' ⟨rfl,⟨nd,rfl⟩⟩;(try first|exact⟨rfl,_,World.drewN_drewN _ _ _⟩|exact⟨rfl,_,Eq.trans (World.drewN_drewN _ _ _) (congrArg (World.drewN _) (Nat.add_assoc _ _ _))⟩))|(go_at_call 35;(with_reducible refine (spec_l12Right.calls _ _ l1 t204 _ ?side1 ?side2 A6.out).mono ?_);(case side1=>repeat (first|exact (Kd.C_below HR1.out (by repeat (first|(with_reducible first|exact HB.out|apply aZ|apply nZ|apply dZ)|exact HB.out)))|(with_reducible first|refine aC ?_ _|refine nC ?_ _|refine dC ?_)));(case side2=>exact HC1.out);rintro e w' ⟨rfl,⟨nd,rfl⟩⟩;(try first|exact⟨rfl,_,World.drewN_drewN _ _ _⟩|exact⟨rfl,_,Eq.trans (World.drewN_drewN _ _ _) (congrArg (World.drewN _) (Nat.add_assoc _ _ _))⟩)));try go_wp2_with (first|(go_at_call 35;(with_reducible refine (spec_l12Right.calls _ _ l0 true _ ?side1 ?side2 A4.out).mono ?_);(case side1=>repeat (first|exact (Kd.C_below HR0.out HB.out)|(with_reducible first|refine aC ?_ _|refine nC ?_ _|refine dC ?_)));(case side2=>exact HC0.out);rintro e w' ⟨rfl,⟨nd,rfl⟩⟩;(try first|exact⟨rfl,_,World.drewN_drewN _ _ _⟩|exact⟨rfl,_,Eq.trans (World.drewN_drewN _ _ _) (congrArg (World.drewN _) (Nat.add_assoc _ _ _))⟩))|(go_at_call 35;(with_reducible refine (spec_l12Right.calls _ _ l1 t204 _ ?side1 ?side2 A6.out).mono ?_);(case side1=>repeat (first|exact (Kd.C_below HR1.out (by repeat (first|(with_reducible first|exact HB.out|apply aZ|apply nZ|apply dZ)|exact HB.out)))|(with_reducible first|refine aC ?_ _|refine nC ?_ _|refine dC ?_)));(case side2=>exact HC1.out);rintro e w' ⟨rfl,⟨nd,rfl⟩⟩;(try first|exact⟨rfl,_,World.drewN_drewN _ _ _⟩|exact⟨rfl,_,Eq.trans (World.drewN_drewN _ _ _) (congrArg (World.drewN _) (Nat.add_assoc _ _ _))⟩))))
  go_meet
  case rel=>exact⟨_,(!t204),(by first|rfl|(simp;done)|(simp [*];done)),H',⟨by first|omega|exact Nat.le_refl _⟩,⟨by repeat (first|(with_reducible first|exact HB.out|apply aZ|apply nZ|apply dZ)|exact HB.out)⟩⟩
 case rest =>
  clear HC3
  try clear c1
  try clear c2
  try clear p2
  try clear c5
  obtain⟨kq,x19_2,rfl,HA,HJ2,HB⟩:=hcut
  cases kq with
  | zero=>exact absurd HA.out (by simp [spec_CommonOf.j0])
  | succ kj2 =>
   have H:=HA.out
   clear HA
   simp only [spec_CommonOf.j0] at H
   by_cases c7:x19_2 = true
   ·subst c7
    have H1:(some ([]:List (S56))) = some r:=by rw [if_pos rfl] at H;exact H
    clear H
    have H:=H1
    clear H1
    obtain rfl:=Option.some.inj H
    go_wp2
    repeat (go_quiet (fail);try go_wp2)
    go_ret
    exact⟨_,by first|rfl|(simp [errW_none,errW_some] <;> rfl)|(simp [*,errW_none,errW_some] <;> rfl),by first|exact Kd.R_nil _ _ _ _ _|exact Kd.N_nil _ _ _ _ _|exact Kd.V_nil _ _ _ _ _|exact Kd.Q_nil _ _ _ _ _|exact Kd.S_nil _ _ _ _ _,by repeat (first|(with_reducible first|exact HB.out|apply aZ|apply nZ|apply dZ)|exact HB.out)⟩
   replace c7:=Bool.eq_false_iff.mpr c7
   subst c7
   have H1:((spec_l12Table.f kj2 l0 l1).bind fun t205=>(spec_CommonOf.l0 kj2 l0 l1 t205 (([]:List (S56))) 0 0)) = some r:=by rw [if_neg (show ¬ (false = true) by decide)] at H;exact H
   clear H
   have H:=H1
   clear H1
   replace H:=Option.bind_eq_some_iff.mp H
   obtain⟨t205,A80,H⟩:=H
   replace H:(spec_CommonOf.l0 kj2 l0 l1 t205 (([]:List (S56))) 0 0) = some r:=H
   have A8:=mk0 A80
   clear A80
   obtain⟨y208,hy208⟩:∃ y_:List (S56),y_ = (([]:List (S56))):=⟨_,rfl⟩
   replace H:(spec_CommonOf.l0 kj2 l0 l1 t205 y208 0 0) = some r:=by first|(rw [hy208];with_reducible exact H)|(have H2_:=(Option.bind_some _ _).symm.trans H;rw [hy208];with_reducible exact H2_)|(have H2_:=(Option.bind_some _ _).symm.trans H;with_reducible exact H2_)|with_reducible exact H|(rw [hy208];exact H)|exact H
   have Ny208:=mk0 hy208
   clear hy208
   have H':=mk0 H
   clear H
   go_wp2_with (first|(go_at_call 36;(with_reducible refine (spec_l12Table.calls kj2 _ _ l0 _ _ l1 t205 _ ?side1 ?side2 ?side3 ?side4 A8.out).mono ?_);(case side1=>repeat (first|exact (Kd.C_below HR0.out HB.out)|(with_reducible first|refine aC ?_ _|refine nC ?_ _|refine dC ?_)));(case side2=>exact HC0.out);(case side3=>repeat (first|exact (Kd.C_below HR1.out HB.out)|(with_reducible first|refine aC ?_ _|refine nC ?_ _|refine dC ?_)));(case side4=>exact HC1.out);rintro e w9 ⟨v206,rfl,ho0,hb⟩;have n0_:=mk0 (Kd.S_lower ho0 (below_size (by repeat (first|(with_reducible first|exact HB.out|apply aZ|apply nZ|apply dZ)|exact HB.out))));have n1_:=mk0 (below_step (by repeat (first|(with_reducible first|exact HB.out|apply aZ|apply nZ|apply dZ)|exact HB.out)) hb);clear HB;have HO207:=n0_;have HB:=n1_;clear n0_ n1_;(try clear hb);(try clear hb2);(try clear hk);(try clear hi);(try clear ho0))|((with_reducible refine gate_dst (N:=23) rfl ?_);refine Kd.R_lit k56 _ 56 ?hg (N:=23) ?hd (xs:=([]:List (S56))) (inner:=[]) (ok:=fun _=>True) (okp:=fun _=>True) ?hr ?hp (fun _ hk=>hk) trivial (Below.refl _ _) (Nat.le_refl _) (by simp) ?_;(case hd=>rfl);(case hg=>rfl);(case hr=>first|(go_simp;done)|(go_simp;rfl));(case hp=>exact (Reps.none _ _));intro v209 w10 ho11 hb hg_ hnew_;clear hg_ hnew_;(first|rw [← Ny208.out] at ho11|(simp only [Int.reduceToNat] at ho11;rw [← Ny208.out] at ho11));have n0_:=mk0 (Kd.S_below (by (with_reducible repeat (first|apply aS|apply nS|apply dS));exact HO207.out) hb);have n1_:=mk0 (Kd.R_lower ho11 (below_size (by repeat (first|(with_reducible first|exact HB.out|apply aZ|apply nZ|apply dZ)|exact HB.out))));have n2_:=mk0 (below_step (by repeat (first|(with_reducible first|exact HB.out|apply aZ|apply nZ|apply dZ)|exact HB.out)) hb);clear HO207 HB;have HO207:=n0_;have HO210:=n1_;have HB:=n2_;clear n0_ n1_ n2_ hb ho11))
   repeat (go_quiet (first|(go_at_call 36;(with_reducible refine (spec_l12Table.calls kj2 _ _ l0 _ _ l1 t205 _ ?side1 ?side2 ?side3 ?side4 A8.out).mono ?_);(case side1=>repeat (first|exact (Kd.C_below HR0.out HB.out)|(with_reducible first|refine aC ?_ _|refine nC ?_ _|refine dC ?_)));(case side2=>exact HC0.out);(case side3=>repeat (first|exact (Kd.C_below HR1.out HB.out)|(with_reducible first|refine aC ?_ _|refine nC ?_ _|refine dC ?_)));(case side4=>exact HC1.out);rintro e w9 ⟨v206,rfl,ho0,hb⟩;have n0_:=mk0 (Kd.S_lower ho0 (below_size (by repeat (first|(with_reducible first|exact HB.out|apply aZ|apply nZ|apply dZ)|exact HB.out))));have n1_:=mk0 (below_step (by repeat (first|(with_reducible first|exact HB.out|apply aZ|apply nZ|apply dZ)|exact HB.out)) hb);clear HB;have HO207:=n0_;have HB:=n1_;clear n0_ n1_;(try clear hb);(try clear hb2);(try clear hk);(try clear hi);(try clear ho0))|((with_reducible refine gate_dst (N:=23) rfl ?_);refine Kd.R_lit k56 _ 56 ?hg (N:=23) ?hd (xs:=([]:List (S56))) (inner:=[]) (ok:=fun _=>True) (okp:=fun _=>True) ?hr ?hp (fun _ hk=>hk) trivial (Below.refl _ _) (Nat.le_refl _) (by simp) ?_;(case hd=>rfl);(case hg=>rfl);(case hr=>first|(go_simp;done)|(go_simp;rfl));(case hp=>exact (Reps.none _ _));intro v209 w10 ho11 hb hg_ hnew_;clear hg_ hnew_;(first|rw [← Ny208.out] at ho11|(simp only [Int.reduceToNat] at ho11;rw [← Ny208.out] at ho11));have n0_:=mk0 (Kd.S_below (by (with_reducible repeat (first|apply aS|apply nS|apply dS));exact HO207.out) hb);have n1_:=mk0 (Kd.R_lower ho11 (below_size (by repeat (first|(with_reducible first|exact HB.out|apply aZ|apply nZ|apply dZ)|exact HB.out))));have n2_:=mk0 (below_step (by repeat (first|(with_reducible first|exact HB.out|apply aZ|apply nZ|apply dZ)|exact HB.out)) hb);clear HO207 HB;have HO207:=n0_;have HO210:=n1_;have HB:=n2_;clear n0_ n1_ n2_ hb ho11));try go_wp2_with (first|(go_at_call 36;(with_reducible refine (spec_l12Table.calls kj2 _ _ l0 _ _ l1 t205 _ ?side1 ?side2 ?side3 ?side4 A8.out).mono ?_);(case side1=>repeat (first|exact (Kd.C_below HR0.out HB.out)|(with_reducible first|refine aC ?_ _|refine nC ?_ _|refine dC ?_)));(case side2=>exact HC0.out);(case side3=>repeat (first|exact (Kd.C_below HR1.out HB.out)|(with_reducible first|refine aC ?_ _|refine nC ?_ _|refine dC ?_)));(case side4=>exact HC1.out);rintro e w9 ⟨v206,rfl,ho0,hb⟩;have n0_:=mk0 (Kd.S_lower ho0 (below_size (by repeat (first|(with_reducible first|exact HB.out|apply aZ|apply nZ|apply dZ)|exact HB.out))));have n1_:=mk0 (below_step (by repeat (first|(with_reducible first|exact HB.out|apply aZ|apply nZ|apply dZ)|exact HB.out)) hb);clear HB;have HO207:=n0_;have HB:=n1_;clear n0_ n1_;(try clear hb);(try clear hb2);(try clear hk);(try clear hi);(try clear ho0))|((with_reducible refine gate_dst (N:=23) rfl ?_);refine Kd.R_lit k56 _ 56 ?hg (N:=23) ?hd (xs:=([]:List (S56))) (inner:=[]) (ok:=fun _=>True) (okp:=fun _=>True) ?hr ?hp (fun _ hk=>hk) trivial (Below.refl _ _) (Nat.le_refl _) (by simp) ?_;(case hd=>rfl);(case hg=>rfl);(case hr=>first|(go_simp;done)|(go_simp;rfl));(case hp=>exact (Reps.none _ _));intro v209 w10 ho11 hb hg_ hnew_;clear hg_ hnew_;(first|rw [← Ny208.out] at ho11|(simp only [Int.reduceToNat] at ho11;rw [← Ny208.out] at ho11));have n0_:=mk0 (Kd.S_below (by (with_reducible repeat (first|apply aS|apply nS|apply dS));exact HO207.out) hb);have n1_:=mk0 (Kd.R_lower ho11 (below_size (by repeat (first|(with_reducible first|exact HB.out|apply aZ|apply nZ|apply dZ)|exact HB.out))));have n2_:=mk0 (below_step (by repeat (first|(with_reducible first|exact HB.out|apply aZ|apply nZ|apply dZ)|exact HB.out)) hb);clear HO207 HB;have HO207:=n0_;have HO210:=n1_;have HB:=n2_;clear n0_ n1_ n2_ hb ho11)))
   go_loopg [6,7,8] kj2 (fun kq v6 v7 v8 w'=>∃ (x6_2:List (S56)) (x7_2:Int) (x8_2:Int),v7 = .int .i64 x7_2 ∧ v8 = .int .i64 x8_2 ∧ Aside0 (spec_CommonOf.l0 kq l0 l1 t205 x6_2 x7_2 x8_2 = some r) ∧ Aside0 (kq ≤ kj2) ∧ Aside0 (Kd.S (Kd.slice 3 (Kd.int .i64)) 22 w' w.heap.size (fun _=>True) v206 t205) ∧ Aside0 (Kd.R k56 56 w' w.heap.size (fun _=>True) v6 x6_2) ∧ Aside0 (Below w.heap.size w w'))
   case atStart=>exact⟨(y208),(0),(0),(by first|rfl|(simp;done)|(simp [*];done)),(by first|rfl|(simp;done)|(simp [*];done)),H',⟨Nat.le_refl _⟩,⟨by (with_reducible repeat (first|apply aS|apply nS|apply dS));exact HO207.out⟩,⟨by (with_reducible repeat (first|apply aR|apply nR|apply dR));exact HO210.out⟩,⟨by repeat (first|(with_reducible first|exact HB.out|apply aZ|apply nZ|apply dZ)|exact HB.out)⟩⟩
   case round =>
    clear H'
    try clear c1
    try clear c2
    try clear p2
    try clear c5
    try clear c7
    try clear p2
    obtain⟨x6_2,x7_2,x8_2,rfl,rfl,HA,HK2,HO_5,HO_6,HB⟩:=hrel
    cases gk with
    | zero=>exact absurd HA.out (by simp [spec_CommonOf.l0])
    | succ k2 =>
     have H:=HA.out
     clear HA
     simp only [spec_CommonOf.l0] at H
     by_cases c12:0 ≤ x7_2
     rotate_left
     ·rw [if_neg c12] at H
      exact absurd H (by simp)

     rw [if_pos c12] at H
     have c12b0:decide (0 ≤ x7_2) = true:=decide_eq_true c12
     clear c12
     by_cases c13:x7_2 < (t205.length:Int)
     rotate_left
     ·rw [if_neg c13] at H
      exact absurd H (by simp)
     rw [if_pos c13] at H
     have c13b0:decide (x7_2 < (t205.length:Int)) = true:=decide_eq_true c13
     (try simp only [hl211_0] at c13b0)
     (try simp only [hl218_0] at c13b0)
     (try simp only [hl220_0] at c13b0)
     clear c13
     by_cases c14:0 ≤ x8_2
     rotate_left
     ·rw [if_neg c14] at H
      exact absurd H (by simp)
     rw [if_pos c14] at H
     have c14b0:decide (0 ≤ x8_2) = true:=decide_eq_true c14
     clear c14
     by_cases c15:x8_2 < ((rd_L1 t205 x7_2).length:Int)
     rotate_left
     ·rw [if_neg c15] at H
      exact absurd H (by simp)
     rw [if_pos c15] at H
     have c15b0:decide (x8_2 < ((rd_L1 t205 x7_2).length:Int)) = true:=decide_eq_true c15
     (try simp only [hl211_0] at c15b0)
     (try simp only [hl218_0] at c15b0)
     (try simp only [hl220_0] at c15b0)
     clear c15
     by_cases c16:(rd (rd_L1 t205 x7_2) x8_2) > 0
     rotate_left
     ·rw [if_neg c16] at H
      have c16b0:decide (0 < (rd (rd_L1 t205 x7_2) x8_2)) = false:=decide_eq_false c16
      clear c16
      obtain rfl:=Option.some.inj H
      obtain⟨Ao38,co38,eo38⟩:=Kd.S_slice HO_5.out
      subst eo38
      have p211:0 ≤ (x7_2:Int):=of_decide_eq_true (by first|(with_reducible assumption)|assumption)
      have q211:x7_2 < (t205.length:Int):=of_decide_eq_true (by first|(with_reducible assumption)|assumption)
      obtain⟨ad211,A211_0,c211_0,e211,hx211_0,hl211_0,hi211_0⟩:=at_L1 (Kd.S_reads' HO_5.out).2.2 x7_2 p211 q211
      cases e211
      obtain⟨ce211,hce211,hMe211,hcc211⟩:=Kd.S_get HO_5.out [] x7_2 p211 (by first|exact q211|exact of_decide_eq_true (by first|(with_reducible assumption)|assumption)|(have e_:=(Kd.S_reads' HO_5.out).1;omega))
      obtain⟨ve211_0,rfl,ge211_0⟩:=hMe211
      have hv211_0:=hcc211 0 _ rfl
      rw [Nat.add_zero,show ((Kd.slice 3 (Kd.int .i64))).sz = 1 from rfl,Nat.mul_one] at hv211_0
      replace hv211_0:=Option.some.inj (hv211_0.symm.trans hx211_0)
      rw [hv211_0] at ge211_0
      have HL211_0:=mk0 (show Kd.R (Kd.int .i64) 3 _ _ _ _ (rd_L1 t205 x7_2) from ge211_0)
      clear hv211_0 ge211_0
      clear hcc211 hce211
      have HR211_0:=mk0 hi211_0
      have HC211_0:=mk0 hl211_0
      clear hi211_0 hl211_0
      replace p211:=eq_true p211
      replace q211:=eq_true q211
      have p212:0 ≤ (x8_2:Int):=of_decide_eq_true (by first|(with_reducible assumption)|assumption)
      have q212:x8_2 < ((rd_L1 t205 x7_2).length:Int):=of_decide_eq_true (by first|(with_reducible assumption)|assumption)
      obtain⟨ad212,e212,hx212_0⟩:=Kd.at_int (by repeat (first|(with_reducible exact HR211_0.out)|(with_reducible first|refine aC ?_ _|refine nC ?_ _|refine dC ?_)|exact HR211_0.out)) x8_2 p212 q212
      cases e212
      replace p212:=eq_true p212
      replace q212:=eq_true q212
      go_wp2
      repeat (go_quiet (fail);try go_wp2)
      go_ret
      exact⟨_,by first|rfl|(simp [errW_none,errW_some] <;> rfl)|(simp [*,errW_none,errW_some] <;> rfl),by (with_reducible repeat (first|apply aR|apply nR|apply dR));exact HO_6.out,by repeat (first|(with_reducible first|exact HB.out|apply aZ|apply nZ|apply dZ)|exact HB.out)⟩
     rw [if_pos c16] at H
     have c16b0:decide (0 < (rd (rd_L1 t205 x7_2) x8_2)) = true:=decide_eq_true c16
     clear c16
     have H':=mk0 H
     clear H
     obtain⟨Ao17,co17,eo17⟩:=Kd.S_slice HO_5.out
     subst eo17
     have p211:0 ≤ (x7_2:Int):=of_decide_eq_true (by first|(with_reducible assumption)|assumption)
     have q211:x7_2 < (t205.length:Int):=of_decide_eq_true (by first|(with_reducible assumption)|assumption)
     obtain⟨ad211,A211_0,c211_0,e211,hx211_0,hl211_0,hi211_0⟩:=at_L1 (Kd.S_reads' HO_5.out).2.2 x7_2 p211 q211
     cases e211
     obtain⟨ce211,hce211,hMe211,hcc211⟩:=Kd.S_get HO_5.out [] x7_2 p211 (by first|exact q211|exact of_decide_eq_true (by first|(with_reducible assumption)|assumption)|(have e_:=(Kd.S_reads' HO_5.out).1;omega))
     obtain⟨ve211_0,rfl,ge211_0⟩:=hMe211
     have hv211_0:=hcc211 0 _ rfl
     rw [Nat.add_zero,show ((Kd.slice 3 (Kd.int .i64))).sz = 1 from rfl,Nat.mul_one] at hv211_0
     replace hv211_0:=Option.some.inj (hv211_0.symm.trans hx211_0)
     rw [hv211_0] at ge211_0
     have HL211_0:=mk0 (show Kd.R (Kd.int .i64) 3 _ _ _ _ (rd_L1 t205 x7_2) from ge211_0)
     clear hv211_0 ge211_0
     clear hcc211 hce211
     have HR211_0:=mk0 hi211_0
     have HC211_0:=mk0 hl211_0
     clear hi211_0 hl211_0
     replace p211:=eq_true p211
     replace q211:=eq_true q211
     have p212:0 ≤ (x8_2:Int):=of_decide_eq_true (by first|(with_reducible assumption)|assumption)
     have q212:x8_2 < ((rd_L1 t205 x7_2).length:Int):=of_decide_eq_true (by first|(with_reducible assumption)|assumption)
     obtain⟨ad212,e212,hx212_0⟩:=Kd.at_int (by repeat (first|(with_reducible exact HR211_0.out)|(with_reducible first|refine aC ?_ _|refine nC ?_ _|refine dC ?_)|exact HR211_0.out)) x8_2 p212 q212
     cases e212
     replace p212:=eq_true p212
     replace q212:=eq_true q212
     go_wp2
     repeat (go_quiet (fail);try go_wp2)
     go_loopg [9,10] k2 (fun kq v9 v10 w'=>∃ (x9_3:Int) (x10_3:Int),v9 = .int .i64 x9_3 ∧ v10 = .int .i64 x10_3 ∧ Aside0 (spec_CommonOf.l1 kq l0 l1 t205 x6_2 x7_2 x8_2 x9_3 x10_3 = some r) ∧ Aside0 (kq ≤ k2) ∧ Aside0 (Kd.S (Kd.slice 3 (Kd.int .i64)) 22 w' w.heap.size (fun _=>True) (.slice (some ad211) t205.length co17) t205) ∧ Aside0 (Kd.R k56 56 w' w.heap.size (fun _=>True) u6 x6_2) ∧ Aside0 (Kd.C (Kd.int .i64) w' (some ad212) (rd_L1 t205 x7_2).length (rd_L1 t205 x7_2)) ∧ Aside0 (Below w.heap.size w w'))
     case atStart=>exact⟨(x7_2),((-1)),(by first|rfl|(simp;done)|(simp [*];done)),(by first|rfl|(simp;done)|(simp [*];done)),H',⟨Nat.le_refl _⟩,⟨by (with_reducible repeat (first|apply aS|apply nS|apply dS));exact HO_5.out⟩,⟨by (with_reducible repeat (first|apply aR|apply nR|apply dR));exact HO_6.out⟩,⟨by repeat (first|(with_reducible exact HR211_0.out)|(with_reducible first|refine aC ?_ _|refine nC ?_ _|refine dC ?_)|exact HR211_0.out)⟩,⟨by repeat (first|(with_reducible first|exact HB.out|apply aZ|apply nZ|apply dZ)|exact HB.out)⟩⟩
     case round =>
      clear H'
      try clear c1
      try clear c2
      try clear p2
      try clear q2
      try clear hx2
      try clear c5
      try clear c7
      try clear c12
      try clear c12b0
      try clear c13
      try clear c13b0
      try clear c14
      try clear c14b0
      try clear c15
      try clear c15b0
      try clear c16
      try clear c16b0
      try clear hx211_0
      try clear hx212_0
      try clear p2
      try clear p211
      try clear p212
      try clear q211
      try clear q212
      obtain⟨x9_3,x10_3,rfl,rfl,HA,HK3,HO_5,HO_6,HR211_0,HB⟩:=hrel
      cases gk with
      | zero=>exact absurd HA.out (by simp [spec_CommonOf.l1])
      | succ k3 =>
       have H:=HA.out
       clear HA
       simp only [spec_CommonOf.l1] at H
       by_cases c18:x10_3 < 0
       rotate_left
       ·rw [if_neg c18] at H
        have c18b0:decide (x10_3 < 0) = false:=decide_eq_false c18
        clear c18
        by_cases c36:x6_2.length < 8796093022208
        rotate_left
        ·rw [if_neg c36] at H
         exact absurd H (by simp)
        rw [if_pos c36] at H
        have LMc36:=mk0 c36
        clear c36
        obtain⟨y213,hy213⟩:∃ y_:List (S56),y_ = (x6_2 ++ [(⟨wrap64 (x9_3 - 1),x10_3⟩:S56)]):=⟨_,rfl⟩
        replace H:(spec_CommonOf.l0 k3 l0 l1 t205 y213 x9_3 (wrap64 (x10_3 + 1))) = some r:=by first|(rw [hy213];with_reducible exact H)|(have H2_:=(Option.bind_some _ _).symm.trans H;rw [hy213];with_reducible exact H2_)|(have H2_:=(Option.bind_some _ _).symm.trans H;with_reducible exact H2_)|with_reducible exact H|(rw [hy213];exact H)|exact H
        have Ny213:=mk0 hy213
        clear hy213
        have H':=mk0 H
        clear H
        go_wp2_with (first|((with_reducible refine gate_builtin (b:=.append) (xs:=#[.tmp 75,.tmp 80]) rfl ?_);at_builtin;refine Kd.R_append k56 (w0:=w) w.heap.size rfl (.tmp 75) (.tmp 80) 29 56 (.agg #[(.int .i64 0),(.int .i64 0)]) 16 rfl Try.underlying29 info56 rfl (by decide) (by omega) u6 x6_2 (⟨wrap64 (x9_3 - 1),x10_3⟩:S56) [.int .i64 (wrap64 (x9_3 - 1)),.int .i64 x10_3] (fun _=>True) (fun _=>False) rfl rfl ?aP (fun _ hk=>hk.elim) ?aF ?aO ?aB ?aS ?aL ?_;(case aP=>exact k56_mkM _ _ _ (⟨wrap64 (x9_3 - 1),x10_3⟩:S56));(case aB=>exact (by repeat (first|(with_reducible first|exact HB.out|apply aZ|apply nZ|apply dZ)|exact HB.out)));(case aF=>exact (fun _ _=>trivial));(case aO=>exact (by (with_reducible repeat (first|apply aR|apply nR|apply dR));exact HO_6.out));(case aS=>exact (below_size (by repeat (first|(with_reducible first|exact HB.out|apply aZ|apply nZ|apply dZ)|exact HB.out))));(case aL=>have:=LMc36.out;omega);intro v214 w37 ho hb hg hat;rw [← Ny213.out] at ho;have n0_:=mk0 (Kd.S_over' (by (with_reducible repeat (first|apply aS|apply nS|apply dS));exact HO_5.out) (Kd.R_typed (by (with_reducible repeat (first|apply aR|apply nR|apply dR));exact HO_6.out)) (by decide) hg);have n1_:=mk0 (hb);have n2_:=mk0 (ho);clear HO_5 HB HO_6;have HO_5:=n0_;have HB:=n1_;have HO215:=n2_;clear n0_ n1_ n2_ ho hb hg hat))
        repeat (go_quiet (first|((with_reducible refine gate_builtin (b:=.append) (xs:=#[.tmp 75,.tmp 80]) rfl ?_);at_builtin;refine Kd.R_append k56 (w0:=w) w.heap.size rfl (.tmp 75) (.tmp 80) 29 56 (.agg #[(.int .i64 0),(.int .i64 0)]) 16 rfl Try.underlying29 info56 rfl (by decide) (by omega) u6 x6_2 (⟨wrap64 (x9_3 - 1),x10_3⟩:S56) [.int .i64 (wrap64 (x9_3 - 1)),.int .i64 x10_3] (fun _=>True) (fun _=>False) rfl rfl ?aP (fun _ hk=>hk.elim) ?aF ?aO ?aB ?aS ?aL ?_;(case aP=>exact k56_mkM _ _ _ (⟨wrap64 (x9_3 - 1),x10_3⟩:S56));(case aB=>exact (by repeat (first|(with_reducible first|exact HB.out|apply aZ|apply nZ|apply dZ)|exact HB.out)));(case aF=>exact (fun _ _=>trivial));(case aO=>exact (by (with_reducible repeat (first|apply aR|apply nR|apply dR));exact HO_6.out));(case aS=>exact (below_size (by repeat (first|(with_reducible first|exact HB.out|apply aZ|apply nZ|apply dZ)|exact HB.out))));(case aL=>have:=LMc36.out;omega);intro v214 w37 ho hb hg hat;rw [← Ny213.out] at ho;have n0_:=mk0 (Kd.S_over' (by (with_reducible repeat (first|apply aS|apply nS|apply dS));exact HO_5.out) (Kd.R_typed (by (with_reducible repeat (first|apply aR|apply nR|apply dR));exact HO_6.out)) (by decide) hg);have n1_:=mk0 (hb);have n2_:=mk0 (ho);clear HO_5 HB HO_6;have HO_5:=n0_;have HB:=n1_;have HO215:=n2_;clear n0_ n1_ n2_ ho hb hg hat));try go_wp2_with (first|((with_reducible refine gate_builtin (b:=.append) (xs:=#[.tmp 75,.tmp 80]) rfl ?_);at_builtin;refine Kd.R_append k56 (w0:=w) w.heap.size rfl (.tmp 75) (.tmp 80) 29 56 (.agg #[(.int .i64 0),(.int .i64 0)]) 16 rfl Try.underlying29 info56 rfl (by decide) (by omega) u6 x6_2 (⟨wrap64 (x9_3 - 1),x10_3⟩:S56) [.int .i64 (wrap64 (x9_3 - 1)),.int .i64 x10_3] (fun _=>True) (fun _=>False) rfl rfl ?aP (fun _ hk=>hk.elim) ?aF ?aO ?aB ?aS ?aL ?_;(case aP=>exact k56_mkM _ _ _ (⟨wrap64 (x9_3 - 1),x10_3⟩:S56));(case aB=>exact (by repeat (first|(with_reducible first|exact HB.out|apply aZ|apply nZ|apply dZ)|exact HB.out)));(case aF=>exact (fun _ _=>trivial));(case aO=>exact (by (with_reducible repeat (first|apply aR|apply nR|apply dR));exact HO_6.out));(case aS=>exact (below_size (by repeat (first|(with_reducible first|exact HB.out|apply aZ|apply nZ|apply dZ)|exact HB.out))));(case aL=>have:=LMc36.out;omega);intro v214 w37 ho hb hg hat;rw [← Ny213.out] at ho;have n0_:=mk0 (Kd.S_over' (by (with_reducible repeat (first|apply aS|apply nS|apply dS));exact HO_5.out) (Kd.R_typed (by (with_reducible repeat (first|apply aR|apply nR|apply dR));exact HO_6.out)) (by decide) hg);have n1_:=mk0 (hb);have n2_:=mk0 (ho);clear HO_5 HB HO_6;have HO_5:=n0_;have HB:=n1_;have HO215:=n2_;clear n0_ n1_ n2_ ho hb hg hat)))
        go_roundg k3
        case measure=>have:=HJ2.out;have:=HK2.out;have:=HK3.out;omega
        case rel=>exact⟨(y213),(x9_3),(wrap64 (x10_3 + 1)),(by first|rfl|(simp;done)|(simp [*];done)),(by first|rfl|(simp;done)|(simp [*];done)),H',⟨by have:=HJ2.out;have:=HK2.out;have:=HK3.out;omega⟩,⟨by (with_reducible repeat (first|apply aS|apply nS|apply dS));exact HO_5.out⟩,⟨by (with_reducible repeat (first|apply aR|apply nR|apply dR));exact HO215.out⟩,⟨by repeat (first|(with_reducible first|exact HB.out|apply aZ|apply nZ|apply dZ)|exact HB.out)⟩⟩
       rw [if_pos c18] at H
       have c18b0:decide (x10_3 < 0) = true:=decide_eq_true c18
       clear c18
       have H':=mk0 H
       clear H
       go_wp2
       repeat (go_quiet (fail);try go_wp2)
       go_loopg [10,11] k3 (fun kq v10 v11 w'=>∃ (x10_4:Int) (x11_4:Int),v10 = .int .i64 x10_4 ∧ v11 = .int .i64 x11_4 ∧ Aside0 (spec_CommonOf.l2 kq l0 l1 t205 x6_2 x7_2 x8_2 x9_3 x10_4 x11_4 = some r) ∧ Aside0 (kq ≤ k3) ∧ Aside0 (Kd.S (Kd.slice 3 (Kd.int .i64)) 22 w' w.heap.size (fun _=>True) (.slice (some ad211) t205.length co17) t205) ∧ Aside0 (Kd.R k56 56 w' w.heap.size (fun _=>True) u6 x6_2) ∧ Aside0 (Kd.C (Kd.int .i64) w' (some ad212) (rd_L1 t205 x7_2).length (rd_L1 t205 x7_2)) ∧ Aside0 (Below w.heap.size w w'))
       case atStart=>exact⟨(x10_3),(wrap64 ((l1.length:Int) - 1)),(by first|rfl|(simp;done)|(simp [*];done)),(by first|rfl|(simp;done)|(simp [*];done)),H',⟨Nat.le_refl _⟩,⟨by (with_reducible repeat (first|apply aS|apply nS|apply dS));exact HO_5.out⟩,⟨by (with_reducible repeat (first|apply aR|apply nR|apply dR));exact HO_6.out⟩,⟨by repeat (first|(with_reducible exact HR211_0.out)|(with_reducible first|refine aC ?_ _|refine nC ?_ _|refine dC ?_)|exact HR211_0.out)⟩,⟨by repeat (first|(with_reducible first|exact HB.out|apply aZ|apply nZ|apply dZ)|exact HB.out)⟩⟩
       case round =>
        clear H'
        try clear c1
        try clear c2
        try clear p2
        try clear q2
        try clear hx2
        try clear c5
        try clear p6
        try clear c7
        try clear c12
        try clear c12b0
        try clear c13
        try clear c13b0
        try clear c14
        try clear c14b0
        try clear c15
        try clear c15b0
        try clear c16
        try clear c16b0
        try clear c18
        try clear c18b0
        try clear hx211_0
        try clear hx212_0
        try clear p2
        try clear p211
        try clear p212
        try clear q2
        try clear q211
        try clear q212
        obtain⟨x10_4,x11_4,rfl,rfl,HA,HK4,HO_5,HO_6,HR211_0,HB⟩:=hrel
        cases gk with
        | zero=>exact absurd HA.out (by simp [spec_CommonOf.l2])
        | succ k4 =>
         have H:=HA.out
         clear HA
         simp only [spec_CommonOf.l2] at H
         by_cases c19:x11_4 ≥ x8_2
         rotate_left
         ·rw [if_neg c19] at H
          have c19b0:decide (x8_2 ≤ x11_4) = false:=decide_eq_false c19
          clear c19
          have H':=mk0 H
          clear H
          go_wp2
          repeat (go_quiet (fail);try go_wp2)
          go_roundg k4
          case measure=>have:=HJ2.out;have:=HK2.out;have:=HK3.out;have:=HK4.out;omega
          case rel=>exact⟨(wrap64 (x9_3 + 1)),(x10_4),(by first|rfl|(simp;done)|(simp [*];done)),(by first|rfl|(simp;done)|(simp [*];done)),H',⟨by have:=HJ2.out;have:=HK2.out;have:=HK3.out;have:=HK4.out;omega⟩,⟨by (with_reducible repeat (first|apply aS|apply nS|apply dS));exact HO_5.out⟩,⟨by (with_reducible repeat (first|apply aR|apply nR|apply dR));exact HO_6.out⟩,⟨by repeat (first|(with_reducible exact HR211_0.out)|(with_reducible first|refine aC ?_ _|refine nC ?_ _|refine dC ?_)|exact HR211_0.out)⟩,⟨by repeat (first|(with_reducible first|exact HB.out|apply aZ|apply nZ|apply dZ)|exact HB.out)⟩⟩
         rw [if_pos c19] at H
         have c19b0:decide (x8_2 ≤ x11_4) = true:=decide_eq_true c19
         clear c19
         by_cases c20:0 ≤ x9_3
         rotate_left
         ·rw [if_neg c20] at H
          exact absurd H (by simp)
         rw [if_pos c20] at H
         have c20b0:decide (0 ≤ x9_3) = true:=decide_eq_true c20
         clear c20
         by_cases c21:x9_3 < (l0.length:Int)
         rotate_left
         ·rw [if_neg c21] at H
          exact absurd H (by simp)
         rw [if_pos c21] at H
         have c21b0:decide (x9_3 < (l0.length:Int)) = true:=decide_eq_true c21
         (try simp only [hl211_0] at c21b0)
         (try simp only [hl218_0] at c21b0)
         (try simp only [hl220_0] at c21b0)
         clear c21
         by_cases c22:0 ≤ x11_4
         rotate_left
         ·rw [if_neg c22] at H
          exact absurd H (by simp)
         rw [if_pos c22] at H
         have c22b0:decide (0 ≤ x11_4) = true:=decide_eq_true c22
         clear c22
         by_cases c23:x11_4 < (l1.length:Int)
         rotate_left
         ·rw [if_neg c23] at H
          exact absurd H (by simp)
         rw [if_pos c23] at H
         have c23b0:decide (x11_4 < (l1.length:Int)) = true:=decide_eq_true c23
         (try simp only [hl211_0] at c23b0)
         (try simp only [hl218_0] at c23b0)
         (try simp only [hl220_0] at c23b0)
         clear c23
         by_cases c24:(rd l0 x9_3) = (rd l1 x11_4)
         rotate_left
         ·rw [if_neg c24] at H
          have c24b0:((rd l0 x9_3) == (rd l1 x11_4)) = false:=beq_eq_false_iff_ne.mpr c24
          have c24b1:((rd l0 x9_3) != (rd l1 x11_4)) = true:=bne_iff_ne.mpr c24
          have H':=mk0 H
          clear H
          have p216:0 ≤ (x9_3:Int):=of_decide_eq_true (by first|(with_reducible assumption)|assumption)
          have q216:x9_3 < (l0.length:Int):=of_decide_eq_true (by first|(with_reducible assumption)|assumption)
          obtain⟨ad216,e216,hx216_0⟩:=Kd.at_int HR0.out x9_3 p216 q216
          cases e216
          replace hx216_0:=(HB.out.cell (World.block_lt_of_cell? w _ hx216_0)).trans hx216_0
          replace p216:=eq_true p216
          replace q216:=eq_true q216
          have p217:0 ≤ (x11_4:Int):=of_decide_eq_true (by first|(with_reducible assumption)|assumption)
          have q217:x11_4 < (l1.length:Int):=of_decide_eq_true (by first|(with_reducible assumption)|assumption)
          obtain⟨ad217,e217,hx217_0⟩:=Kd.at_int HR1.out x11_4 p217 q217
          cases e217
          replace hx217_0:=(HB.out.cell (World.block_lt_of_cell? w _ hx217_0)).trans hx217_0
          replace p217:=eq_true p217
          replace q217:=eq_true q217
          go_wp2
          repeat (go_quiet (fail);try go_wp2)
          go_roundg k4
          case measure=>have:=HJ2.out;have:=HK2.out;have:=HK3.out;have:=HK4.out;omega
          case rel=>exact⟨(x10_4),(wrap64 (x11_4 - 1)),(by first|rfl|(simp;done)|(simp [*];done)),(by first|rfl|(simp;done)|(simp [*];done)),H',⟨by have:=HJ2.out;have:=HK2.out;have:=HK3.out;have:=HK4.out;omega⟩,⟨by (with_reducible repeat (first|apply aS|apply nS|apply dS));exact HO_5.out⟩,⟨by (with_reducible repeat (first|apply aR|apply nR|apply dR));exact HO_6.out⟩,⟨by repeat (first|(with_reducible exact HR211_0.out)|(with_reducible first|refine aC ?_ _|refine nC ?_ _|refine dC ?_)|exact HR211_0.out)⟩,⟨by repeat (first|(with_reducible first|exact HB.out|apply aZ|apply nZ|apply dZ)|exact HB.out)⟩⟩
         rw [if_pos c24] at H
         have c24b0:((rd l0 x9_3) == (rd l1 x11_4)) = true:=beq_iff_eq.mpr c24
         have c24b1:((rd l0 x9_3) != (rd l1 x11_4)) = false:=bne_eq_false_iff_eq.mpr c24
         clear c24
         obtain⟨ji25,hji25⟩:∃ j_:Int,(wrap64 (x9_3 + 1)) = j_:=⟨_,rfl⟩
         replace H:(if 0 ≤ (ji25) then (if (ji25) < (t205.length:Int) then (if 0 ≤ (wrap64 (x11_4 + 1)) then (if (wrap64 (x11_4 + 1)) < ((rd_L1 t205 (ji25)).length:Int) then (if 0 ≤ x7_2 then (if x7_2 < (t205.length:Int) then (if 0 ≤ x8_2 then (if x8_2 < ((rd_L1 t205 x7_2).length:Int) then (if (wrap64 (1 + (rd (rd_L1 t205 (ji25)) (wrap64 (x11_4 + 1))))) = (rd (rd_L1 t205 x7_2) x8_2) then (spec_CommonOf.l2 k4 l0 l1 t205 x6_2 x7_2 x8_2 x9_3 x11_4 (wrap64 (x11_4 - 1))) else (spec_CommonOf.l2 k4 l0 l1 t205 x6_2 x7_2 x8_2 x9_3 x10_4 (wrap64 (x11_4 - 1)))) else (none)) else (none)) else (none)) else (none)) else (none)) else (none)) else (none)) else (none)) = some r:=by first|(rw [hji25] at H;exact H)|(simp only [hji25] at H ⊢;exact H)
         have hji25w:(IntKind.i64.wrap (x9_3 + 1)) = ji25:=(i64_w _).trans hji25
         by_cases c26:0 ≤ (ji25)
         rotate_left
         ·rw [if_neg c26] at H
          exact absurd H (by simp)
         rw [if_pos c26] at H
         have c26b0:decide (0 ≤ (ji25)) = true:=decide_eq_true c26
         clear c26
         by_cases c27:(ji25) < (t205.length:Int)
         rotate_left
         ·rw [if_neg c27] at H
          exact absurd H (by simp)
         rw [if_pos c27] at H
         have c27b0:decide ((ji25) < (t205.length:Int)) = true:=decide_eq_true c27
         (try simp only [hl211_0] at c27b0)
         (try simp only [hl218_0] at c27b0)
         (try simp only [hl220_0] at c27b0)
         clear c27
         obtain⟨ji28,hji28⟩:∃ j_:Int,(wrap64 (x11_4 + 1)) = j_:=⟨_,rfl⟩
         replace H:(if 0 ≤ (ji28) then (if (ji28) < ((rd_L1 t205 (ji25)).length:Int) then (if 0 ≤ x7_2 then (if x7_2 < (t205.length:Int) then (if 0 ≤ x8_2 then (if x8_2 < ((rd_L1 t205 x7_2).length:Int) then (if (wrap64 (1 + (rd (rd_L1 t205 (ji25)) (ji28)))) = (rd (rd_L1 t205 x7_2) x8_2) then (spec_CommonOf.l2 k4 l0 l1 t205 x6_2 x7_2 x8_2 x9_3 x11_4 (wrap64 (x11_4 - 1))) else (spec_CommonOf.l2 k4 l0 l1 t205 x6_2 x7_2 x8_2 x9_3 x10_4 (wrap64 (x11_4 - 1)))) else (none)) else (none)) else (none)) else (none)) else (none)) else (none)) = some r:=by first|(rw [hji28] at H;exact H)|(simp only [hji28] at H ⊢;exact H)
         have hji28w:(IntKind.i64.wrap (x11_4 + 1)) = ji28:=(i64_w _).trans hji28
         by_cases c29:0 ≤ (ji28)
         rotate_left
         ·rw [if_neg c29] at H
          exact absurd H (by simp)
         rw [if_pos c29] at H
         have c29b0:decide (0 ≤ (ji28)) = true:=decide_eq_true c29
         clear c29
         by_cases c30:(ji28) < ((rd_L1 t205 (ji25)).length:Int)
         rotate_left
         ·rw [if_neg c30] at H
          exact absurd H (by simp)
         rw [if_pos c30] at H
         have c30b0:decide ((ji28) < ((rd_L1 t205 (ji25)).length:Int)) = true:=decide_eq_true c30
         (try simp only [hl211_0] at c30b0)
         (try simp only [hl218_0] at c30b0)
         (try simp only [hl220_0] at c30b0)
         clear c30
         by_cases c31:0 ≤ x7_2
         rotate_left
         ·rw [if_neg c31] at H
          exact absurd H (by simp)
         rw [if_pos c31] at H
         have c31b0:decide (0 ≤ x7_2) = true:=decide_eq_true c31
         clear c31
         by_cases c32:x7_2 < (t205.length:Int)
         rotate_left
         ·rw [if_neg c32] at H
          exact absurd H (by simp)
         rw [if_pos c32] at H
         have c32b0:decide (x7_2 < (t205.length:Int)) = true:=decide_eq_true c32
         (try simp only [hl211_0] at c32b0)
         (try simp only [hl218_0] at c32b0)
         (try simp only [hl220_0] at c32b0)
         clear c32
         by_cases c33:0 ≤ x8_2
         rotate_left
         ·rw [if_neg c33] at H
          exact absurd H (by simp)
         rw [if_pos c33] at H
         have c33b0:decide (0 ≤ x8_2) = true:=decide_eq_true c33
         clear c33
         by_cases c34:x8_2 < ((rd_L1 t205 x7_2).length:Int)
         rotate_left
         ·rw [if_neg c34] at H
          exact absurd H (by simp)
         rw [if_pos c34] at H
         have c34b0:decide (x8_2 < ((rd_L1 t205 x7_2).length:Int)) = true:=decide_eq_true c34
         (try simp only [hl211_0] at c34b0)
         (try simp only [hl218_0] at c34b0)
         (try simp only [hl220_0] at c34b0)
         clear c34
         by_cases c35:(wrap64 (1 + (rd (rd_L1 t205 (ji25)) (ji28)))) = (rd (rd_L1 t205 x7_2) x8_2)
         rotate_left
         ·rw [if_neg c35] at H
          have c35b0:((wrap64 (1 + (rd (rd_L1 t205 (ji25)) (ji28)))) == (rd (rd_L1 t205 x7_2) x8_2)) = false:=beq_eq_false_iff_ne.mpr c35
          have c35b1:((wrap64 (1 + (rd (rd_L1 t205 (ji25)) (ji28)))) != (rd (rd_L1 t205 x7_2) x8_2)) = true:=bne_iff_ne.mpr c35
          have H':=mk0 H
          clear H
          have p216:0 ≤ (x9_3:Int):=of_decide_eq_true (by first|(with_reducible assumption)|assumption)
          have q216:x9_3 < (l0.length:Int):=of_decide_eq_true (by first|(with_reducible assumption)|assumption)
          obtain⟨ad216,e216,hx216_0⟩:=Kd.at_int HR0.out x9_3 p216 q216
          cases e216
          replace hx216_0:=(HB.out.cell (World.block_lt_of_cell? w _ hx216_0)).trans hx216_0
          replace p216:=eq_true p216
          replace q216:=eq_true q216
          have p217:0 ≤ (x11_4:Int):=of_decide_eq_true (by first|(with_reducible assumption)|assumption)
          have q217:x11_4 < (l1.length:Int):=of_decide_eq_true (by first|(with_reducible assumption)|assumption)
          obtain⟨ad217,e217,hx217_0⟩:=Kd.at_int HR1.out x11_4 p217 q217
          cases e217
          replace hx217_0:=(HB.out.cell (World.block_lt_of_cell? w _ hx217_0)).trans hx217_0
          replace p217:=eq_true p217
          replace q217:=eq_true q217
          have p218:0 ≤ ((ji25):Int):=of_decide_eq_true (by first|(with_reducible assumption)|assumption)
          have q218:(ji25) < (t205.length:Int):=of_decide_eq_true (by first|(with_reducible assumption)|assumption)
          obtain⟨ad218,A218_0,c218_0,e218,hx218_0,hl218_0,hi218_0⟩:=at_L1 (Kd.S_reads' HO_5.out).2.2 (ji25) p218 q218
          obtain rfl:ad211 = ad218:=(by injection e218)
          obtain⟨ce218,hce218,hMe218,hcc218⟩:=Kd.S_get HO_5.out [] (ji25) p218 (by first|exact q218|exact of_decide_eq_true (by first|(with_reducible assumption)|assumption)|(have e_:=(Kd.S_reads' HO_5.out).1;omega))
          obtain⟨ve218_0,rfl,ge218_0⟩:=hMe218
          have hv218_0:=hcc218 0 _ rfl
          rw [Nat.add_zero,show ((Kd.slice 3 (Kd.int .i64))).sz = 1 from rfl,Nat.mul_one] at hv218_0
          replace hv218_0:=Option.some.inj (hv218_0.symm.trans hx218_0)
          rw [hv218_0] at ge218_0
          have HL218_0:=mk0 (show Kd.R (Kd.int .i64) 3 _ _ _ _ (rd_L1 t205 (ji25)) from ge218_0)
          clear hv218_0 ge218_0
          clear hcc218 hce218
          have HR218_0:=mk0 hi218_0
          have HC218_0:=mk0 hl218_0
          clear hi218_0 hl218_0
          replace p218:=eq_true p218
          replace q218:=eq_true q218
          have p219:0 ≤ ((ji28):Int):=of_decide_eq_true (by first|(with_reducible assumption)|assumption)
          have q219:(ji28) < ((rd_L1 t205 (ji25)).length:Int):=of_decide_eq_true (by first|(with_reducible assumption)|assumption)
          obtain⟨ad219,e219,hx219_0⟩:=Kd.at_int (by repeat (first|(with_reducible exact HR218_0.out)|(with_reducible first|refine aC ?_ _|refine nC ?_ _|refine dC ?_)|exact HR218_0.out)) (ji28) p219 q219
          cases e219
          replace p219:=eq_true p219
          replace q219:=eq_true q219
          have p220:0 ≤ (x7_2:Int):=of_decide_eq_true (by first|(with_reducible assumption)|assumption)
          have q220:x7_2 < (t205.length:Int):=of_decide_eq_true (by first|(with_reducible assumption)|assumption)
          obtain⟨ad220,A220_0,c220_0,e220,hx220_0,hl220_0,hi220_0⟩:=at_L1 (Kd.S_reads' HO_5.out).2.2 x7_2 p220 q220
          obtain rfl:ad211 = ad220:=(by injection e220)
          obtain⟨ce220,hce220,hMe220,hcc220⟩:=Kd.S_get HO_5.out [] x7_2 p220 (by first|exact q220|exact of_decide_eq_true (by first|(with_reducible assumption)|assumption)|(have e_:=(Kd.S_reads' HO_5.out).1;omega))
          obtain⟨ve220_0,rfl,ge220_0⟩:=hMe220
          have hv220_0:=hcc220 0 _ rfl
          rw [Nat.add_zero,show ((Kd.slice 3 (Kd.int .i64))).sz = 1 from rfl,Nat.mul_one] at hv220_0
          replace hv220_0:=Option.some.inj (hv220_0.symm.trans hx220_0)
          rw [hv220_0] at ge220_0
          have HL220_0:=mk0 (show Kd.R (Kd.int .i64) 3 _ _ _ _ (rd_L1 t205 x7_2) from ge220_0)
          clear hv220_0 ge220_0
          clear hcc220 hce220
          have HR220_0:=mk0 hi220_0
          have HC220_0:=mk0 hl220_0
          clear hi220_0 hl220_0
          replace p220:=eq_true p220
          replace q220:=eq_true q220
          have p221:0 ≤ (x8_2:Int):=of_decide_eq_true (by first|(with_reducible assumption)|assumption)
          have q221:x8_2 < ((rd_L1 t205 x7_2).length:Int):=of_decide_eq_true (by first|(with_reducible assumption)|assumption)
          obtain⟨ad221,e221,hx221_0⟩:=Kd.at_int (by repeat (first|(with_reducible exact HR220_0.out)|(with_reducible first|refine aC ?_ _|refine nC ?_ _|refine dC ?_)|exact HR220_0.out)) x8_2 p221 q221
          cases e221
          replace p221:=eq_true p221
          replace q221:=eq_true q221
          go_wp2
          repeat (go_quiet (fail);try go_wp2)
          go_roundg k4
          case measure=>have:=HJ2.out;have:=HK2.out;have:=HK3.out;have:=HK4.out;omega
          case rel=>exact⟨(x10_4),(wrap64 (x11_4 - 1)),(by first|rfl|(simp;done)|(simp [*];done)),(by first|rfl|(simp;done)|(simp [*];done)),H',⟨by have:=HJ2.out;have:=HK2.out;have:=HK3.out;have:=HK4.out;omega⟩,⟨by (with_reducible repeat (first|apply aS|apply nS|apply dS));exact HO_5.out⟩,⟨by (with_reducible repeat (first|apply aR|apply nR|apply dR));exact HO_6.out⟩,⟨by repeat (first|(with_reducible exact HR211_0.out)|(with_reducible first|refine aC ?_ _|refine nC ?_ _|refine dC ?_)|exact HR211_0.out)⟩,⟨by repeat (first|(with_reducible first|exact HB.out|apply aZ|apply nZ|apply dZ)|exact HB.out)⟩⟩
         rw [if_pos c35] at H
         have c35b0:((wrap64 (1 + (rd (rd_L1 t205 (ji25)) (ji28)))) == (rd (rd_L1 t205 x7_2) x8_2)) = true:=beq_iff_eq.mpr c35
         have c35b1:((wrap64 (1 + (rd (rd_L1 t205 (ji25)) (ji28)))) != (rd (rd_L1 t205 x7_2) x8_2)) = false:=bne_eq_false_iff_eq.mpr c35
         clear c35
         have H':=mk0 H
         clear H
         have p216:0 ≤ (x9_3:Int):=of_decide_eq_true (by first|(with_reducible assumption)|assumption)
         have q216:x9_3 < (l0.length:Int):=of_decide_eq_true (by first|(with_reducible assumption)|assumption)
         obtain⟨ad216,e216,hx216_0⟩:=Kd.at_int HR0.out x9_3 p216 q216
         cases e216
         replace hx216_0:=(HB.out.cell (World.block_lt_of_cell? w _ hx216_0)).trans hx216_0
         replace p216:=eq_true p216
         replace q216:=eq_true q216
         have p217:0 ≤ (x11_4:Int):=of_decide_eq_true (by first|(with_reducible assumption)|assumption)
         have q217:x11_4 < (l1.length:Int):=of_decide_eq_true (by first|(with_reducible assumption)|assumption)
         obtain⟨ad217,e217,hx217_0⟩:=Kd.at_int HR1.out x11_4 p217 q217
         cases e217
         replace hx217_0:=(HB.out.cell (World.block_lt_of_cell? w _ hx217_0)).trans hx217_0
         replace p217:=eq_true p217
         replace q217:=eq_true q217
         have p218:0 ≤ ((ji25):Int):=of_decide_eq_true (by first|(with_reducible assumption)|assumption)
         have q218:(ji25) < (t205.length:Int):=of_decide_eq_true (by first|(with_reducible assumption)|assumption)
         obtain⟨ad218,A218_0,c218_0,e218,hx218_0,hl218_0,hi218_0⟩:=at_L1 (Kd.S_reads' HO_5.out).2.2 (ji25) p218 q218
         obtain rfl:ad211 = ad218:=(by injection e218)
         obtain⟨ce218,hce218,hMe218,hcc218⟩:=Kd.S_get HO_5.out [] (ji25) p218 (by first|exact q218|exact of_decide_eq_true (by first|(with_reducible assumption)|assumption)|(have e_:=(Kd.S_reads' HO_5.out).1;omega))
         obtain⟨ve218_0,rfl,ge218_0⟩:=hMe218
         have hv218_0:=hcc218 0 _ rfl
         rw [Nat.add_zero,show ((Kd.slice 3 (Kd.int .i64))).sz = 1 from rfl,Nat.mul_one] at hv218_0
         replace hv218_0:=Option.some.inj (hv218_0.symm.trans hx218_0)
         rw [hv218_0] at ge218_0
         have HL218_0:=mk0 (show Kd.R (Kd.int .i64) 3 _ _ _ _ (rd_L1 t205 (ji25)) from ge218_0)
         clear hv218_0 ge218_0
         clear hcc218 hce218
         have HR218_0:=mk0 hi218_0
         have HC218_0:=mk0 hl218_0
         clear hi218_0 hl218_0
         replace p218:=eq_true p218
         replace q218:=eq_true q218
         have p219:0 ≤ ((ji28):Int):=of_decide_eq_true (by first|(with_reducible assumption)|assumption)
         have q219:(ji28) < ((rd_L1 t205 (ji25)).length:Int):=of_decide_eq_true (by first|(with_reducible assumption)|assumption)
         obtain⟨ad219,e219,hx219_0⟩:=Kd.at_int (by repeat (first|(with_reducible exact HR218_0.out)|(with_reducible first|refine aC ?_ _|refine nC ?_ _|refine dC ?_)|exact HR218_0.out)) (ji28) p219 q219
         cases e219
         replace p219:=eq_true p219
         replace q219:=eq_true q219
         have p220:0 ≤ (x7_2:Int):=of_decide_eq_true (by first|(with_reducible assumption)|assumption)
         have q220:x7_2 < (t205.length:Int):=of_decide_eq_true (by first|(with_reducible assumption)|assumption)
         obtain⟨ad220,A220_0,c220_0,e220,hx220_0,hl220_0,hi220_0⟩:=at_L1 (Kd.S_reads' HO_5.out).2.2 x7_2 p220 q220
         obtain rfl:ad211 = ad220:=(by injection e220)
         obtain⟨ce220,hce220,hMe220,hcc220⟩:=Kd.S_get HO_5.out [] x7_2 p220 (by first|exact q220|exact of_decide_eq_true (by first|(with_reducible assumption)|assumption)|(have e_:=(Kd.S_reads' HO_5.out).1;omega))
         obtain⟨ve220_0,rfl,ge220_0⟩:=hMe220
         have hv220_0:=hcc220 0 _ rfl
         rw [Nat.add_zero,show ((Kd.slice 3 (Kd.int .i64))).sz = 1 from rfl,Nat.mul_one] at hv220_0
         replace hv220_0:=Option.some.inj (hv220_0.symm.trans hx220_0)
         rw [hv220_0] at ge220_0
         have HL220_0:=mk0 (show Kd.R (Kd.int .i64) 3 _ _ _ _ (rd_L1 t205 x7_2) from ge220_0)
         clear hv220_0 ge220_0
         clear hcc220 hce220
         have HR220_0:=mk0 hi220_0
         have HC220_0:=mk0 hl220_0
         clear hi220_0 hl220_0
         replace p220:=eq_true p220
         replace q220:=eq_true q220
         have p221:0 ≤ (x8_2:Int):=of_decide_eq_true (by first|(with_reducible assumption)|assumption)
         have q221:x8_2 < ((rd_L1 t205 x7_2).length:Int):=of_decide_eq_true (by first|(with_reducible assumption)|assumption)
         obtain⟨ad221,e221,hx221_0⟩:=Kd.at_int (by repeat (first|(with_reducible exact HR220_0.out)|(with_reducible first|refine aC ?_ _|refine nC ?_ _|refine dC ?_)|exact HR220_0.out)) x8_2 p221 q221
         cases e221
         replace p221:=eq_true p221
         replace q221:=eq_true q221
         go_wp2
         repeat (go_quiet (fail);try go_wp2)
         go_roundg k4
         case measure=>have:=HJ2.out;have:=HK2.out;have:=HK3.out;have:=HK4.out;omega
         case rel=>exact⟨(x11_4),(wrap64 (x11_4 - 1)),(by first|rfl|(simp;done)|(simp [*];done)),(by first|rfl|(simp;done)|(simp [*];done)),H',⟨by have:=HJ2.out;have:=HK2.out;have:=HK3.out;have:=HK4.out;omega⟩,⟨by (with_reducible repeat (first|apply aS|apply nS|apply dS));exact HO_5.out⟩,⟨by (with_reducible repeat (first|apply aR|apply nR|apply dR));exact HO_6.out⟩,⟨by repeat (first|(with_reducible exact HR211_0.out)|(with_reducible first|refine aC ?_ _|refine nC ?_ _|refine dC ?_)|exact HR211_0.out)⟩,⟨by repeat (first|(with_reducible first|exact HB.out|apply aZ|apply nZ|apply dZ)|exact HB.out)⟩⟩
/-- A state of type 76 at block g of W; what its slices lead to came in by w0. -/
def IsS76 (w0 W : World) (g : Nat) (f0 : List Int) (f1 : Int) (f2 : Int) : Prop := ∃ A0 c0, W.heap[g]? = some (.cells #[.slice A0 f0.length c0, .int .i64 f1, .int .i64 f2] 76 (0, 0)) ∧ w0.heap.size ≤ g ∧ Kd.C (Kd.int .u8) w0 A0 f0.length f0
theorem IsS76.grown {w0 W : World} {g : Nat} {f0 : List Int} {f1 : Int} {f2 : Int} {W1 : World} {row : Option Nat} (h : IsS76 w0 W g f0 f1 f2) (hw : W.grownBy W1 row) (hne : some g ≠ row) : IsS76 w0 W1 g f0 f1 f2 := by
 obtain ⟨A0, c0, hb, hg, hr0⟩ := h
 exact ⟨A0, c0, blk_grown hb hw hne, hg, hr0⟩
theorem IsS76.own_neN {w0 W : World} {g : Nat} {f0 : List Int} {f1 : Int} {f2 : Int} {α : Type} {d : Kd α} {e : Nat} {base : Nat} {ok : Nat → Prop} {v : Value} {xs : List α} (h : IsS76 w0 W g f0 f1 f2) (ho : Kd.N d e W base ok v xs) (ht : e ≠ 76) : some g ≠ v.ownBlock := by
 obtain ⟨A0, c0, hb, hg, hr0⟩ := h
 exact Kd.N_ne ho hb ht
theorem IsS76.fresh {w0 W : World} {g : Nat} {f0 : List Int} {f1 : Int} {f2 : Int} (h : IsS76 w0 W g f0 f1 f2) : ∀ k, W.heap.size ≤ k → k ≠ g := by
 obtain ⟨A0, c0, hb, hg, hr0⟩ := h
 exact Kd.freshB hb
theorem IsS76.kept {w0 W : World} {g : Nat} {f0 : List Int} {f1 : Int} {f2 : Int} {W1 : World} {S : Nat → Prop} (h : IsS76 w0 W g f0 f1 f2) (hk : Kept W W1 S) (hne : ¬ S g) : IsS76 w0 W1 g f0 f1 f2 := by
 obtain ⟨A0, c0, hb, hg, hr0⟩ := h
 exact ⟨A0, c0, blk_kept hb hk hne, hg, hr0⟩
theorem IsS76.below {w0 W : World} {g : Nat} {f0 : List Int} {f1 : Int} {f2 : Int} {W1 : World} (h : IsS76 w0 W g f0 f1 f2) (hw : Below W.heap.size W W1) : IsS76 w0 W1 g f0 f1 f2 := h.grown (grown_of_below hw none) (by simp)
theorem IsS76.alloc {w0 W : World} {g : Nat} {f0 : List Int} {f1 : Int} {f2 : Int} (h : IsS76 w0 W g f0 f1 f2) (o : Obj) : IsS76 w0 (W.alloc o) g f0 f1 f2 := h.below (below_alloc (Below.refl _ _) o)
theorem IsS76.drewN {w0 W : World} {g : Nat} {f0 : List Int} {f1 : Int} {f2 : Int} (h : IsS76 w0 W g f0 f1 f2) (m : Nat) : IsS76 w0 (W.drewN m) g f0 f1 f2 := h
theorem IsS76.drew {w0 W : World} {g : Nat} {f0 : List Int} {f1 : Int} {f2 : Int} (h : IsS76 w0 W g f0 f1 f2) : IsS76 w0 W.drew g f0 f1 f2 := h
theorem IsS76.at_ {w0 W : World} {g : Nat} {f0 : List Int} {f1 : Int} {f2 : Int} {w' : World} {m : Nat} (hq : W.drewN m = w') (h : IsS76 w0 W g f0 f1 f2) : IsS76 w0 w' g f0 f1 f2 := by subst hq; exact IsS76.drewN h m
theorem IsS76.apart {w0 W : World} {g : Nat} {f0 : List Int} {f1 : Int} {f2 : Int} {α : Type} {d : Kd α} {e : Nat} {base : Nat} {ok : Nat → Prop} {v : Value} {xs : List α} (h : IsS76 w0 W g f0 f1 f2) (ho : d.R e W base ok v xs) (ht : ∀ q, q ∈ e :: d.E → q ≠ 76) : d.R e W base (fun k => ok k ∧ k ≠ g) v xs := by
 obtain ⟨A0, c0, hb, hg, hr0⟩ := h
 exact Kd.R_types ho hb ht
theorem IsS76.own_ne {w0 W : World} {g : Nat} {f0 : List Int} {f1 : Int} {f2 : Int} {α : Type} {d : Kd α} {e : Nat} {base : Nat} {ok : Nat → Prop} {v : Value} {xs : List α} (h : IsS76 w0 W g f0 f1 f2) (ho : d.R e W base ok v xs) (ht : e ≠ 76) : some g ≠ v.ownBlock := by
 obtain ⟨A0, c0, hb, hg, hr0⟩ := h
 exact Kd.R_ne ho hb ht
theorem IsS76.apartQ {w0 W : World} {g : Nat} {f0 : List Int} {f1 : Int} {f2 : Int} {α : Type} {d : Kd α} {e : Nat} {base : Nat} {ok : Nat → Prop} {v : Value} {xs : List α} (h : IsS76 w0 W g f0 f1 f2) (ho : d.Q e W base ok v xs) (ht : ∀ q, q ∈ e :: d.E → q ≠ 76) : d.Q e W base (fun k => ok k ∧ k ≠ g) v xs := by
 obtain ⟨A0, c0, hb, hg, hr0⟩ := h
 exact Kd.Q_types ho hb ht
theorem IsS76.own_neQ {w0 W : World} {g : Nat} {f0 : List Int} {f1 : Int} {f2 : Int} {α : Type} {d : Kd α} {e : Nat} {base : Nat} {ok : Nat → Prop} {v : Value} {xs : List α} (h : IsS76 w0 W g f0 f1 f2) (ho : d.Q e W base ok v xs) (ht : e ≠ 76) : some g ≠ v.ownBlock := by
 obtain ⟨A0, c0, hb, hg, hr0⟩ := h
 exact Kd.Q_ne ho hb ht
theorem IsS76.apartS {w0 W : World} {g : Nat} {f0 : List Int} {f1 : Int} {f2 : Int} {α : Type} {d : Kd α} {e : Nat} {base : Nat} {ok : Nat → Prop} {v : Value} {xs : List α} (h : IsS76 w0 W g f0 f1 f2) (ho : d.S e W base ok v xs) (ht : ∀ q, q ∈ e :: d.E → q ≠ 76) : d.S e W base (fun k => ok k ∧ k ≠ g) v xs := by
 obtain ⟨A0, c0, hb, hg, hr0⟩ := h
 exact Kd.S_types ho hb ht
theorem IsS76.own_neS {w0 W : World} {g : Nat} {f0 : List Int} {f1 : Int} {f2 : Int} {α : Type} {d : Kd α} {e : Nat} {base : Nat} {ok : Nat → Prop} {v : Value} {xs : List α} (h : IsS76 w0 W g f0 f1 f2) (ho : d.S e W base ok v xs) (ht : e ≠ 76) : some g ≠ v.ownBlock := by
 obtain ⟨A0, c0, hb, hg, hr0⟩ := h
 exact Kd.S_ne ho hb ht
theorem IsS76.lt {w0 W : World} {g : Nat} {f0 : List Int} {f1 : Int} {f2 : Int} (h : IsS76 w0 W g f0 f1 f2) : g < W.heap.size := by
 obtain ⟨A0, c0, hb, hg, hr0⟩ := h
 exact blk_lt hb
theorem IsS76.ge {w0 W : World} {g : Nat} {f0 : List Int} {f1 : Int} {f2 : Int} (h : IsS76 w0 W g f0 f1 f2) : w0.heap.size ≤ g := by
 obtain ⟨A0, c0, hb, hg, hr0⟩ := h
 exact hg
theorem IsS76.ne_blk {w0 W : World} {g : Nat} {f0 : List Int} {f1 : Int} {f2 : Int} {a : Nat} {cs : Array Value} {t : TypeId} {fr : Nat × Nat} (h : IsS76 w0 W g f0 f1 f2) (hb2 : W.heap[a]? = some (.cells cs t fr)) (ht : t ≠ 76) : g ≠ a := by
 obtain ⟨A0, c0, hb, hg, hr0⟩ := h
 rintro rfl
 rw [hb] at hb2
 injection hb2 with hb2
 injection hb2 with _ ht2
 exact ht ht2.symm
theorem IsS76.far {w0 W : World} {g : Nat} {f0 : List Int} {f1 : Int} {f2 : Int} {p : Addr} (h : IsS76 w0 W g f0 f1 f2) (hne : g ≠ p.block) (u : Value) : IsS76 w0 (W.setCell p u) g f0 f1 f2 := by
 obtain ⟨A0, c0, hb, hg, hr0⟩ := h
 exact ⟨A0, c0, blk_far hb hne u, hg, hr0⟩
theorem cellS76_0 {W : World} {g : Nat} {A0 : Option Addr} {c0 : Nat} {f0 : List Int} {f1 : Int} {f2 : Int} (h : W.heap[g]? = some (.cells #[.slice A0 f0.length c0, .int .i64 f1, .int .i64 f2] 76 (0, 0))) : W.cell? ⟨g, 0, none⟩ = some (.slice A0 f0.length c0) := (blk_cell h 0).trans rfl
theorem cellS76_1 {W : World} {g : Nat} {A0 : Option Addr} {c0 : Nat} {f0 : List Int} {f1 : Int} {f2 : Int} (h : W.heap[g]? = some (.cells #[.slice A0 f0.length c0, .int .i64 f1, .int .i64 f2] 76 (0, 0))) : W.cell? ⟨g, 1, none⟩ = some (.int .i64 f1) := (blk_cell h 1).trans rfl
theorem IsS76.set_1 {w0 W : World} {g : Nat} {f0 : List Int} {f1 : Int} {f2 : Int} (h : IsS76 w0 W g f0 f1 f2) (x : Int) : IsS76 w0 (W.setCell ⟨g, 1, none⟩ (.int .i64 x)) g f0 x f2 := by
 obtain ⟨A0, c0, hb, hg, hr0⟩ := h
 exact ⟨A0, c0, by simpa using blk_set hb 1 (.int .i64 x), hg, hr0⟩
theorem cellS76_2 {W : World} {g : Nat} {A0 : Option Addr} {c0 : Nat} {f0 : List Int} {f1 : Int} {f2 : Int} (h : W.heap[g]? = some (.cells #[.slice A0 f0.length c0, .int .i64 f1, .int .i64 f2] 76 (0, 0))) : W.cell? ⟨g, 2, none⟩ = some (.int .i64 f2) := (blk_cell h 2).trans rfl
theorem IsS76.set_2 {w0 W : World} {g : Nat} {f0 : List Int} {f1 : Int} {f2 : Int} (h : IsS76 w0 W g f0 f1 f2) (x : Int) : IsS76 w0 (W.setCell ⟨g, 2, none⟩ (.int .i64 x)) g f0 f1 x := by
 obtain ⟨A0, c0, hb, hg, hr0⟩ := h
 exact ⟨A0, c0, by simpa using blk_set hb 2 (.int .i64 x), hg, hr0⟩
theorem IsS76.new (w0 W : World) (A0 : Option Addr) (c0 : Nat) (f0 : List Int) (f1 : Int) (f2 : Int) (hB : Below w0.heap.size w0 W) (hr0 : Kd.C (Kd.int .u8) w0 A0 f0.length f0) : IsS76 w0 (W.alloc (.cells #[.slice A0 f0.length c0, .int .i64 f1, .int .i64 f2] 76)) W.heap.size f0 f1 f2 := ⟨A0, c0, by simpa using heap_alloc_new W _, hB.size, hr0⟩

/-! ### spec_l01Open: function 48 -/
def spec_l01Open.f (l0 : List Int) : Option (List Int × Int × Int) := some (l0, 0, 89 + ((l0.length : Int) % 1000))
set_option maxHeartbeats 8000000 in
set_option maxRecDepth 100000 in
theorem spec_l01Open.calls (A0 : Option Addr) (c0 : Nat) (l0 : List Int) (r1 : List Int) (r2 : Int) (r3 : Int) (w0 w : World) (hB : Below w0.heap.size w0 w) (hr0 : Kd.C (Kd.int .u8) w0 A0 l0.length l0) (hc0 : l0.length ≤ c0) (h : spec_l01Open.f l0 = some (r1, r2, r3)) :
  Calls Try.prog 48 #[.slice A0 l0.length c0] w fun e w' => ∃ g_ : Nat, e = .returned (.pointer (some ⟨g_, 0, none⟩)) ∧ IsS76 w0 w' g_ r1 r2 r3 ∧ Below w0.heap.size w0 w' ∧ Below w.heap.size w w' := by
 have hu76:=Try.underlying76
 have HR0:=mk0 hr0
 have HC0:=mk0 hc0
 clear hr0 hc0
 have HBW:=mk0 (Below.refl w.heap.size w)
 have HW0:=mk0 hB.size
 have HB:=mk0 hB
 clear hB
 have H:(some (l0,0,89 + ((l0.length:Int) % 1000))) = some (r1,r2,r3):=h
 clear h
 simp only [Option.some.injEq,Prod.mk.injEq] at H
 obtain⟨rfl,rfl,rfl⟩:=H
 go_enter Try.func48,Try.ntmps48
 go_wp2_with (first|((with_reducible refine gate_dst (N:=9) rfl ?_);refine box_event ?hg (N:=9) ?hd (cs:=#[.slice A0 l0.length c0,.int .i64 0,.int .i64 (89 + ((l0.length:Int) % 1000))]) (t:=76) ?hr ?_;(case hd=>rfl);(case hg=>rfl);(case hr=>first|(go_simp;done)|(go_simp;rfl));intro gb222 hg w2 hbox hb;have n0_:=mk0 (below_step HBW.out hb);have n1_:=mk0 (below_step (by repeat (first|(with_reducible first|exact HB.out|apply aZ|apply nZ|apply dZ)|exact HB.out)) hb);have n2_:=mk0 (hbox);have n3_:=mk0 ((by rw [hg];exact (below_size (by repeat (first|(with_reducible first|exact HBW.out|apply aZ|apply nZ|apply dZ)|exact HBW.out))):w.heap.size ≤ gb222));have n4_:=mk0 ((Nat.le_trans HW0.out (by rw [hg];exact (below_size (by repeat (first|(with_reducible first|exact HBW.out|apply aZ|apply nZ|apply dZ)|exact HBW.out))):w.heap.size ≤ gb222):w0.heap.size ≤ gb222));clear HBW HB;have HBW:=n0_;have HB:=n1_;have BK222:=n2_;have GW222:=n3_;have GE222:=n4_;clear n0_ n1_ n2_ n3_ n4_ hb hbox hg))
 go_ret
 exact⟨_,rfl,(show IsS76 w0 _ gb222 l0 0 (89 + ((l0.length:Int) % 1000)) from ⟨_,_,by (with_reducible repeat (first|refine nB ?_ _|refine dB ?_|refine aB ?_ _));exact BK222.out,GE222.out,HR0.out⟩),by repeat (first|(with_reducible first|exact HB.out|apply aZ|apply nZ|apply dZ|refine sZ ?_ GE222.out)|exact HB.out),by repeat (first|(with_reducible first|exact HBW.out|apply aZ|apply nZ|apply dZ|refine sZ ?_ GW222.out)|exact HBW.out)⟩

end Go.Proofs.Ytlnmkgeoiinjfaa.QFnCommon
