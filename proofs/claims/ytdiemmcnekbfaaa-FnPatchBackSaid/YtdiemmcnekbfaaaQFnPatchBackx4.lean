-- A walk, made by walk.py, a program of this session's.
import Derived.Test.YtdiemmcnekbfaaaQFnPatchBackx0
import Derived.Test.YtdiemmcnekbfaaaQFnPatchBackx1
import Derived.Test.YtdiemmcnekbfaaaQFnPatchBackx2
import Derived.Test.YtdiemmcnekbfaaaQFnPatchBackx3
namespace Go.Proofs.Ytdiemmcnekbfaaa.QFnPatchBack
open Go.RowKit Go.Proofs.YtdiemmcnekbfaaaW.PrintWords Go.Proofs.YtdiemmcnekbfaaaW.PrintLast Go.Proofs.YtdiemmcnekbfaaaW.PrintMore
attribute [local go_sem] max2_int min2_int max_two min_two max_three min_three max_four min_four   -- for this text's walks alone
set_option linter.unusedVariables false
set_option linter.unusedSimpArgs false

/-! ### spec_CommonOf: function 25 -/
mutual
def spec_CommonOf.j0 : Nat → List Int → List Int → Bool → Option ((List (S70)))
 | 0, _, _, _ => none
 | k + 1, x0, x1, x19 => if x19 = true then (some ([] : List (S70))) else ((spec_l12Table.f k x0 x1).bind fun t166 => (spec_CommonOf.l0 k x0 x1 t166 (([] : List (S70))) 0 0))
def spec_CommonOf.l0 : Nat → List Int → List Int → List (List Int) → List (S70) → Int → Int → Option ((List (S70)))
 | 0, _, _, _, _, _, _ => none
 | k + 1, x0, x1, x5, x6, x7, x8 => if 0 ≤ x7 then (if x7 < (x5.length : Int) then (if 0 ≤ x8 then (if x8 < ((rd_L3 x5 x7).length : Int) then (if (rd (rd_L3 x5 x7) x8) > 0 then (spec_CommonOf.l1 k x0 x1 x5 x6 x7 x8 x7 (-1)) else (some x6)) else (none)) else (none)) else (none)) else (none)
def spec_CommonOf.l1 : Nat → List Int → List Int → List (List Int) → List (S70) → Int → Int → Int → Int → Option ((List (S70)))
 | 0, _, _, _, _, _, _, _, _ => none
 | k + 1, x0, x1, x5, x6, x7, x8, x9, x10 => if x10 < 0 then (spec_CommonOf.l2 k x0 x1 x5 x6 x7 x8 x9 x10 (wrap64 ((x1.length : Int) - 1))) else (if x6.length < 8796093022208 then (spec_CommonOf.l0 k x0 x1 x5 (x6 ++ [(⟨wrap64 (x9 - 1), x10⟩ : S70)]) x9 (wrap64 (x10 + 1))) else (none))
def spec_CommonOf.l2 : Nat → List Int → List Int → List (List Int) → List (S70) → Int → Int → Int → Int → Int → Option ((List (S70)))
 | 0, _, _, _, _, _, _, _, _, _ => none
 | k + 1, x0, x1, x5, x6, x7, x8, x9, x10, x11 => if x11 ≥ x8 then (if 0 ≤ x9 then (if x9 < (x0.length : Int) then (if 0 ≤ x11 then (if x11 < (x1.length : Int) then (if (rd x0 x9) = (rd x1 x11) then (if 0 ≤ (wrap64 (x9 + 1)) then (if (wrap64 (x9 + 1)) < (x5.length : Int) then (if 0 ≤ (wrap64 (x11 + 1)) then (if (wrap64 (x11 + 1)) < ((rd_L3 x5 (wrap64 (x9 + 1))).length : Int) then (if 0 ≤ x7 then (if x7 < (x5.length : Int) then (if 0 ≤ x8 then (if x8 < ((rd_L3 x5 x7).length : Int) then (if (wrap64 (1 + (rd (rd_L3 x5 (wrap64 (x9 + 1))) (wrap64 (x11 + 1))))) = (rd (rd_L3 x5 x7) x8) then (spec_CommonOf.l2 k x0 x1 x5 x6 x7 x8 x9 x11 (wrap64 (x11 - 1))) else (spec_CommonOf.l2 k x0 x1 x5 x6 x7 x8 x9 x10 (wrap64 (x11 - 1)))) else (none)) else (none)) else (none)) else (none)) else (none)) else (none)) else (none)) else (none)) else (spec_CommonOf.l2 k x0 x1 x5 x6 x7 x8 x9 x10 (wrap64 (x11 - 1)))) else (none)) else (none)) else (none)) else (none)) else (spec_CommonOf.l1 k x0 x1 x5 x6 x7 x8 (wrap64 (x9 + 1)) x10)
end
def spec_CommonOf.f (k : Nat) (l0 : List Int) (l1 : List Int) : Option ((List (S70))) := (spec_l12Right.f l0).bind fun t164 => (if t164 = true then ((spec_l12Right.f l1).bind fun t165 => (spec_CommonOf.j0 k l0 l1 (!t165))) else (spec_CommonOf.j0 k l0 l1 true))
theorem spec_CommonOf.mono_l : ∀ k, (∀ y0 y1 y2, LeO (spec_CommonOf.j0 k y0 y1 y2) (spec_CommonOf.j0 (k + 1) y0 y1 y2)) ∧ (∀ y0 y1 y2 y3 y4 y5, LeO (spec_CommonOf.l0 k y0 y1 y2 y3 y4 y5) (spec_CommonOf.l0 (k + 1) y0 y1 y2 y3 y4 y5)) ∧ (∀ y0 y1 y2 y3 y4 y5 y6 y7, LeO (spec_CommonOf.l1 k y0 y1 y2 y3 y4 y5 y6 y7) (spec_CommonOf.l1 (k + 1) y0 y1 y2 y3 y4 y5 y6 y7)) ∧ (∀ y0 y1 y2 y3 y4 y5 y6 y7 y8, LeO (spec_CommonOf.l2 k y0 y1 y2 y3 y4 y5 y6 y7 y8) (spec_CommonOf.l2 (k + 1) y0 y1 y2 y3 y4 y5 y6 y7 y8))
 | 0 => ⟨fun _ _ _ r h => by simp [spec_CommonOf.j0] at h, fun _ _ _ _ _ _ r h => by simp [spec_CommonOf.l0] at h, fun _ _ _ _ _ _ _ _ r h => by simp [spec_CommonOf.l1] at h, fun _ _ _ _ _ _ _ _ _ r h => by simp [spec_CommonOf.l2] at h⟩
 | k + 1 => by
  obtain ⟨ih0, ih1, ih2, ih3⟩ := spec_CommonOf.mono_l k
  refine ⟨?_, ?_, ?_, ?_⟩
  ·intro y0 y1 y2
   unfold spec_CommonOf.j0
   repeat' first|(with_reducible first|exact ih0 _ _ _|exact ih1 _ _ _ _ _ _|exact ih2 _ _ _ _ _ _ _ _|exact ih3 _ _ _ _ _ _ _ _ _|exact spec_l12Table.mono _ _ _|exact LeO.refl _|exact LeO.none _|refine LeO.ite ?_ ?_|refine LeO.bind ?_ (fun _ => ?_))|exact LeO.none _|refine LeO.ite ?_ ?_|refine LeO.bind ?_ (fun _ => ?_)
  ·intro y0 y1 y2 y3 y4 y5
   unfold spec_CommonOf.l0
   repeat' first|(with_reducible first|exact ih0 _ _ _|exact ih1 _ _ _ _ _ _|exact ih2 _ _ _ _ _ _ _ _|exact ih3 _ _ _ _ _ _ _ _ _|exact spec_l12Table.mono _ _ _|exact LeO.refl _|exact LeO.none _|refine LeO.ite ?_ ?_|refine LeO.bind ?_ (fun _ => ?_))|exact LeO.none _|refine LeO.ite ?_ ?_|refine LeO.bind ?_ (fun _ => ?_)
  ·intro y0 y1 y2 y3 y4 y5 y6 y7
   unfold spec_CommonOf.l1
   repeat' first|(with_reducible first|exact ih0 _ _ _|exact ih1 _ _ _ _ _ _|exact ih2 _ _ _ _ _ _ _ _|exact ih3 _ _ _ _ _ _ _ _ _|exact spec_l12Table.mono _ _ _|exact LeO.refl _|exact LeO.none _|refine LeO.ite ?_ ?_|refine LeO.bind ?_ (fun _ => ?_))|exact LeO.none _|refine LeO.ite ?_ ?_|refine LeO.bind ?_ (fun _ => ?_)
  ·intro y0 y1 y2 y3 y4 y5 y6 y7 y8
   unfold spec_CommonOf.l2
   repeat' first|(with_reducible first|exact ih0 _ _ _|exact ih1 _ _ _ _ _ _|exact ih2 _ _ _ _ _ _ _ _|exact ih3 _ _ _ _ _ _ _ _ _|exact spec_l12Table.mono _ _ _|exact LeO.refl _|exact LeO.none _|refine LeO.ite ?_ ?_|refine LeO.bind ?_ (fun _ => ?_))|exact LeO.none _|refine LeO.ite ?_ ?_|refine LeO.bind ?_ (fun _ => ?_)
theorem spec_CommonOf.mono : ∀ a0 a1 k, LeO (spec_CommonOf.f k a0 a1) (spec_CommonOf.f (k + 1) a0 a1) := by
 intro a0 a1 k
 obtain ⟨ih0, ih1, ih2, ih3⟩ := spec_CommonOf.mono_l k
 unfold spec_CommonOf.f
 repeat' first|(with_reducible first|exact ih0 _ _ _|exact ih1 _ _ _ _ _ _|exact ih2 _ _ _ _ _ _ _ _|exact ih3 _ _ _ _ _ _ _ _ _|exact spec_l12Table.mono _ _ _|exact LeO.refl _|exact LeO.none _|refine LeO.ite ?_ ?_|refine LeO.bind ?_ (fun _ => ?_))|exact LeO.none _|refine LeO.ite ?_ ?_|refine LeO.bind ?_ (fun _ => ?_)
set_option maxHeartbeats 8000000 in
set_option maxRecDepth 100000 in
theorem spec_CommonOf.calls (k : Nat) (A0 : Option Addr) (c0 : Nat) (l0 : List Int) (A1 : Option Addr) (c1 : Nat) (l1 : List Int) (r : List (S70)) (w : World) (hr0 : Kd.C (Kd.int .i64) w A0 l0.length l0) (hc0 : l0.length ≤ c0) (hr1 : Kd.C (Kd.int .i64) w A1 l1.length l1) (hc1 : l1.length ≤ c1) (h : spec_CommonOf.f k l0 l1 = some r) :
  Calls Try.prog 25 #[.slice A0 l0.length c0, .slice A1 l1.length c1] w fun e w' => ∃ v0_ : Value, e = .returned (v0_) ∧ Kd.R k70 70 w' w.heap.size (fun _ => True) v0_ r ∧ Below w.heap.size w w' := by
 have hu70:=Try.underlying70
 have HR0:=mk0 hr0
 have HC0:=mk0 hc0
 clear hr0 hc0
 have HR1:=mk0 hr1
 have HC1:=mk0 hc1
 clear hr1 hc1
 have HB:=mk0 (Below.refl w.heap.size w)
 have H:((spec_l12Right.f l0).bind fun t164=>(if t164 = true then ((spec_l12Right.f l1).bind fun t165=>(spec_CommonOf.j0 k l0 l1 (!t165))) else (spec_CommonOf.j0 k l0 l1 true))) = some r:=h
 clear h
 have HC3:=mk0 H
 clear H
 go_enter Try.func25,Try.ntmps25
 go_upto_region 1 with (fail)
 repeat (go_quiet (fail);go_upto_region 1 with (fail))
 go_cut [19] (fun v19 wc=>∃ (kq:Nat) (x19_2:Bool),v19 = .bool x19_2 ∧ Aside0 (spec_CommonOf.j0 kq l0 l1 x19_2 = some r) ∧ Aside0 (kq ≤ k) ∧ Aside0 (Below w.heap.size w wc))
 case first =>
  have H:=HC3.out
  clear HC3
  replace H:=Option.bind_eq_some_iff.mp H
  obtain⟨t164,A40,H⟩:=H
  replace H:(if t164 = true then ((spec_l12Right.f l1).bind fun t165=>(spec_CommonOf.j0 k l0 l1 (!t165))) else (spec_CommonOf.j0 k l0 l1 true)) = some r:=H
  have A4:=mk0 A40
  clear A40
  by_cases c5:t164 = true
  rotate_left
  ·replace c5:=Bool.eq_false_iff.mpr c5
   subst c5
   have H1:(spec_CommonOf.j0 k l0 l1 true) = some r:=by rw [if_neg (show ¬ (false = true) by decide)] at H;exact H
   clear H
   have H:=H1
   clear H1
   have H':=mk0 H
   clear H
   go_wp2_with (first|(go_at_call 23;(with_reducible refine (spec_l12Right.calls _ _ l0 false _ ?side1 ?side2 A4.out).mono ?_);(case side1=>repeat (first|exact (Kd.C_below HR0.out HB.out)|(with_reducible first|apply aC|apply nC|apply dC)));(case side2=>exact HC0.out);rintro e w' ⟨rfl,⟨nd,rfl⟩⟩;(try first|exact⟨rfl,_,World.drewN_drewN _ _ _⟩|exact⟨rfl,_,Eq.trans (World.drewN_drewN _ _ _) (congrArg (World.drewN _) (Nat.add_assoc _ _ _))⟩)))
   repeat (go_quiet (first|(go_at_call 23;(with_reducible refine (spec_l12Right.calls _ _ l0 false _ ?side1 ?side2 A4.out).mono ?_);(case side1=>repeat (first|exact (Kd.C_below HR0.out HB.out)|(with_reducible first|apply aC|apply nC|apply dC)));(case side2=>exact HC0.out);rintro e w' ⟨rfl,⟨nd,rfl⟩⟩;(try first|exact⟨rfl,_,World.drewN_drewN _ _ _⟩|exact⟨rfl,_,Eq.trans (World.drewN_drewN _ _ _) (congrArg (World.drewN _) (Nat.add_assoc _ _ _))⟩)));try go_wp2_with (first|(go_at_call 23;(with_reducible refine (spec_l12Right.calls _ _ l0 false _ ?side1 ?side2 A4.out).mono ?_);(case side1=>repeat (first|exact (Kd.C_below HR0.out HB.out)|(with_reducible first|apply aC|apply nC|apply dC)));(case side2=>exact HC0.out);rintro e w' ⟨rfl,⟨nd,rfl⟩⟩;(try first|exact⟨rfl,_,World.drewN_drewN _ _ _⟩|exact⟨rfl,_,Eq.trans (World.drewN_drewN _ _ _) (congrArg (World.drewN _) (Nat.add_assoc _ _ _))⟩))))
   go_meet
   case rel=>exact⟨_,(true),(by first|rfl|(simp;done)|(simp [*];done)),H',⟨by first|omega|exact Nat.le_refl _⟩,⟨by repeat (first|(with_reducible first|exact HB.out|apply aZ|apply nZ|apply dZ)|exact HB.out)⟩⟩
  subst c5
  have H1:((spec_l12Right.f l1).bind fun t165=>(spec_CommonOf.j0 k l0 l1 (!t165))) = some r:=by rw [if_pos rfl] at H;exact H
  clear H
  have H:=H1
  clear H1
  replace H:=Option.bind_eq_some_iff.mp H
  obtain⟨t165,A60,H⟩:=H
  replace H:(spec_CommonOf.j0 k l0 l1 (!t165)) = some r:=H
  have A6:=mk0 A60
  clear A60
  have H':=mk0 H
  clear H
  go_wp2_with (first|(go_at_call 23;(with_reducible refine (spec_l12Right.calls _ _ l0 true _ ?side1 ?side2 A4.out).mono ?_);(case side1=>repeat (first|exact (Kd.C_below HR0.out HB.out)|(with_reducible first|apply aC|apply nC|apply dC)));(case side2=>exact HC0.out);rintro e w' ⟨rfl,⟨nd,rfl⟩⟩;(try first|exact⟨rfl,_,World.drewN_drewN _ _ _⟩|exact⟨rfl,_,Eq.trans (World.drewN_drewN _ _ _) (congrArg (World.drewN _) (Nat.add_assoc _ _ _))⟩))|(go_at_call 23;(with_reducible refine (spec_l12Right.calls _ _ l1 t165 _ ?side1 ?side2 A6.out).mono ?_);(case side1=>repeat (first|exact (Kd.C_below HR1.out (by repeat (first|(with_reducible first|exact HB.out|apply aZ|apply nZ|apply dZ)|exact HB.out)))|(with_reducible first|apply aC|apply nC|apply dC)));(case side2=>exact HC1.out);rintro e w' ⟨rfl,⟨nd,rfl⟩⟩;(try first|exact⟨rfl,_,World.drewN_drewN _ _ _⟩|exact⟨rfl,_,Eq.trans (World.drewN_drewN _ _ _) (congrArg (World.drewN _) (Nat.add_assoc _ _ _))⟩)))
  repeat (go_quiet (first|(go_at_call 23;(with_reducible refine (spec_l12Right.calls _ _ l0 true _ ?side1 ?side2 A4.out).mono ?_);(case side1=>repeat (first|exact (Kd.C_below HR0.out HB.out)|(with_reducible first|apply aC|apply nC|apply dC)));(case side2=>exact HC0.out);rintro e w' ⟨rfl,⟨nd,rfl⟩⟩;(try first|exact⟨rfl,_,World.drewN_drewN _ _ _⟩|exact⟨rfl,_,Eq.trans (World.drewN_drewN _ _ _) (congrArg (World.drewN _) (Nat.add_assoc _ _ _))⟩))|(go_at_call 23;(with_reducible refine (spec_l12Right.calls _ _ l1 t165 _ ?side1 ?side2 A6.out).mono ?_);(case side1=>repeat (first|exact (Kd.C_below HR1.out (by repeat (first|(with_reducible first|exact HB.out|apply aZ|apply nZ|apply dZ)|exact HB.out)))|(with_reducible first|apply aC|apply nC|apply dC)));(case side2=>exact HC1.out);rintro e w' ⟨rfl,⟨nd,rfl⟩⟩;(try first|exact⟨rfl,_,World.drewN_drewN _ _ _⟩|exact⟨rfl,_,Eq.trans (World.drewN_drewN _ _ _) (congrArg (World.drewN _) (Nat.add_assoc _ _ _))⟩)));try go_wp2_with (first|(go_at_call 23;(with_reducible refine (spec_l12Right.calls _ _ l0 true _ ?side1 ?side2 A4.out).mono ?_);(case side1=>repeat (first|exact (Kd.C_below HR0.out HB.out)|(with_reducible first|apply aC|apply nC|apply dC)));(case side2=>exact HC0.out);rintro e w' ⟨rfl,⟨nd,rfl⟩⟩;(try first|exact⟨rfl,_,World.drewN_drewN _ _ _⟩|exact⟨rfl,_,Eq.trans (World.drewN_drewN _ _ _) (congrArg (World.drewN _) (Nat.add_assoc _ _ _))⟩))|(go_at_call 23;(with_reducible refine (spec_l12Right.calls _ _ l1 t165 _ ?side1 ?side2 A6.out).mono ?_);(case side1=>repeat (first|exact (Kd.C_below HR1.out (by repeat (first|(with_reducible first|exact HB.out|apply aZ|apply nZ|apply dZ)|exact HB.out)))|(with_reducible first|apply aC|apply nC|apply dC)));(case side2=>exact HC1.out);rintro e w' ⟨rfl,⟨nd,rfl⟩⟩;(try first|exact⟨rfl,_,World.drewN_drewN _ _ _⟩|exact⟨rfl,_,Eq.trans (World.drewN_drewN _ _ _) (congrArg (World.drewN _) (Nat.add_assoc _ _ _))⟩))))
  go_meet
  case rel=>exact⟨_,(!t165),(by first|rfl|(simp;done)|(simp [*];done)),H',⟨by first|omega|exact Nat.le_refl _⟩,⟨by repeat (first|(with_reducible first|exact HB.out|apply aZ|apply nZ|apply dZ)|exact HB.out)⟩⟩
 case rest =>
  clear HC3
  try clear c1
  try clear c2
  try clear p2
  try clear c5
  obtain⟨kq,x19_2,rfl,HA,HJ2,HB⟩:=hcut
  cases kq with
  | zero=>exact absurd HA.out (by simp [spec_CommonOf.j0])
  | succ kj2 =>
   have H:=HA.out
   clear HA
   simp only [spec_CommonOf.j0] at H
   by_cases c7:x19_2 = true
   ·subst c7
    have H1:(some ([]:List (S70))) = some r:=by rw [if_pos rfl] at H;exact H
    clear H
    have H:=H1
    clear H1
    obtain rfl:=Option.some.inj H
    go_wp2
    repeat (go_quiet (fail);try go_wp2)
    go_ret
    exact⟨_,by first|rfl|(simp [errW_none,errW_some] <;> rfl)|(simp [*,errW_none,errW_some] <;> rfl),by first|exact Kd.R_nil _ _ _ _ _|exact Kd.N_nil _ _ _ _ _|exact Kd.V_nil _ _ _ _ _|exact Kd.Q_nil _ _ _ _ _|exact Kd.S_nil _ _ _ _ _,by repeat (first|(with_reducible first|exact HB.out|apply aZ|apply nZ|apply dZ)|exact HB.out)⟩
   replace c7:=Bool.eq_false_iff.mpr c7
   subst c7
   have H1:((spec_l12Table.f kj2 l0 l1).bind fun t166=>(spec_CommonOf.l0 kj2 l0 l1 t166 (([]:List (S70))) 0 0)) = some r:=by rw [if_neg (show ¬ (false = true) by decide)] at H;exact H
   clear H
   have H:=H1
   clear H1
   replace H:=Option.bind_eq_some_iff.mp H
   obtain⟨t166,A80,H⟩:=H
   replace H:(spec_CommonOf.l0 kj2 l0 l1 t166 (([]:List (S70))) 0 0) = some r:=H
   have A8:=mk0 A80
   clear A80
   obtain⟨y169,hy169⟩:∃ y_:List (S70),y_ = (([]:List (S70))):=⟨_,rfl⟩
   replace H:(spec_CommonOf.l0 kj2 l0 l1 t166 y169 0 0) = some r:=by first|(rw [hy169];with_reducible exact H)|(have H2_:=(Option.bind_some _ _).symm.trans H;rw [hy169];with_reducible exact H2_)|(have H2_:=(Option.bind_some _ _).symm.trans H;with_reducible exact H2_)|with_reducible exact H|(rw [hy169];exact H)|exact H
   have Ny169:=mk0 hy169
   clear hy169
   have H':=mk0 H
   clear H
   go_wp2_with (first|(go_at_call 45;(with_reducible refine (spec_l12Table.calls kj2 _ _ l0 _ _ l1 t166 _ ?side1 ?side2 ?side3 ?side4 A8.out).mono ?_);(case side1=>repeat (first|exact (Kd.C_below HR0.out HB.out)|(with_reducible first|apply aC|apply nC|apply dC)));(case side2=>exact HC0.out);(case side3=>repeat (first|exact (Kd.C_below HR1.out HB.out)|(with_reducible first|apply aC|apply nC|apply dC)));(case side4=>exact HC1.out);rintro e w9 ⟨v167,rfl,ho0,hb⟩;have n0_:=mk0 (Kd.S_lower ho0 (below_size (by repeat (first|(with_reducible first|exact HB.out|apply aZ|apply nZ|apply dZ)|exact HB.out))));have n1_:=mk0 (below_step (by repeat (first|(with_reducible first|exact HB.out|apply aZ|apply nZ|apply dZ)|exact HB.out)) hb);clear HB;have HO168:=n0_;have HB:=n1_;clear n0_ n1_;(try clear hb);(try clear hb2);(try clear hk);(try clear hi);(try clear ho0))|((with_reducible refine gate_dst (N:=23) rfl ?_);refine Kd.R_lit k70 _ 70 ?hg (N:=23) ?hd (xs:=([]:List (S70))) (inner:=[]) (ok:=fun _=>True) (okp:=fun _=>True) ?hr ?hp (fun _ hk=>hk) trivial (Below.refl _ _) (Nat.le_refl _) (by simp) ?_;(case hd=>rfl);(case hg=>rfl);(case hr=>first|(go_simp;done)|(go_simp;rfl));(case hp=>exact (Reps.none _ _));intro v170 w10 ho11 hb hg_ hnew_;clear hg_ hnew_;(first|rw [← Ny169.out] at ho11|(simp only [Int.reduceToNat] at ho11;rw [← Ny169.out] at ho11));have n0_:=mk0 (Kd.S_below (by (with_reducible repeat (first|apply aS|apply nS|apply dS));exact HO168.out) hb);have n1_:=mk0 (Kd.R_lower ho11 (below_size (by repeat (first|(with_reducible first|exact HB.out|apply aZ|apply nZ|apply dZ)|exact HB.out))));have n2_:=mk0 (below_step (by repeat (first|(with_reducible first|exact HB.out|apply aZ|apply nZ|apply dZ)|exact HB.out)) hb);clear HO168 HB;have HO168:=n0_;have HO171:=n1_;have HB:=n2_;clear n0_ n1_ n2_ hb ho11))
   repeat (go_quiet (first|(go_at_call 45;(with_reducible refine (spec_l12Table.calls kj2 _ _ l0 _ _ l1 t166 _ ?side1 ?side2 ?side3 ?side4 A8.out).mono ?_);(case side1=>repeat (first|exact (Kd.C_below HR0.out HB.out)|(with_reducible first|apply aC|apply nC|apply dC)));(case side2=>exact HC0.out);(case side3=>repeat (first|exact (Kd.C_below HR1.out HB.out)|(with_reducible first|apply aC|apply nC|apply dC)));(case side4=>exact HC1.out);rintro e w9 ⟨v167,rfl,ho0,hb⟩;have n0_:=mk0 (Kd.S_lower ho0 (below_size (by repeat (first|(with_reducible first|exact HB.out|apply aZ|apply nZ|apply dZ)|exact HB.out))));have n1_:=mk0 (below_step (by repeat (first|(with_reducible first|exact HB.out|apply aZ|apply nZ|apply dZ)|exact HB.out)) hb);clear HB;have HO168:=n0_;have HB:=n1_;clear n0_ n1_;(try clear hb);(try clear hb2);(try clear hk);(try clear hi);(try clear ho0))|((with_reducible refine gate_dst (N:=23) rfl ?_);refine Kd.R_lit k70 _ 70 ?hg (N:=23) ?hd (xs:=([]:List (S70))) (inner:=[]) (ok:=fun _=>True) (okp:=fun _=>True) ?hr ?hp (fun _ hk=>hk) trivial (Below.refl _ _) (Nat.le_refl _) (by simp) ?_;(case hd=>rfl);(case hg=>rfl);(case hr=>first|(go_simp;done)|(go_simp;rfl));(case hp=>exact (Reps.none _ _));intro v170 w10 ho11 hb hg_ hnew_;clear hg_ hnew_;(first|rw [← Ny169.out] at ho11|(simp only [Int.reduceToNat] at ho11;rw [← Ny169.out] at ho11));have n0_:=mk0 (Kd.S_below (by (with_reducible repeat (first|apply aS|apply nS|apply dS));exact HO168.out) hb);have n1_:=mk0 (Kd.R_lower ho11 (below_size (by repeat (first|(with_reducible first|exact HB.out|apply aZ|apply nZ|apply dZ)|exact HB.out))));have n2_:=mk0 (below_step (by repeat (first|(with_reducible first|exact HB.out|apply aZ|apply nZ|apply dZ)|exact HB.out)) hb);clear HO168 HB;have HO168:=n0_;have HO171:=n1_;have HB:=n2_;clear n0_ n1_ n2_ hb ho11));try go_wp2_with (first|(go_at_call 45;(with_reducible refine (spec_l12Table.calls kj2 _ _ l0 _ _ l1 t166 _ ?side1 ?side2 ?side3 ?side4 A8.out).mono ?_);(case side1=>repeat (first|exact (Kd.C_below HR0.out HB.out)|(with_reducible first|apply aC|apply nC|apply dC)));(case side2=>exact HC0.out);(case side3=>repeat (first|exact (Kd.C_below HR1.out HB.out)|(with_reducible first|apply aC|apply nC|apply dC)));(case side4=>exact HC1.out);rintro e w9 ⟨v167,rfl,ho0,hb⟩;have n0_:=mk0 (Kd.S_lower ho0 (below_size (by repeat (first|(with_reducible first|exact HB.out|apply aZ|apply nZ|apply dZ)|exact HB.out))));have n1_:=mk0 (below_step (by repeat (first|(with_reducible first|exact HB.out|apply aZ|apply nZ|apply dZ)|exact HB.out)) hb);clear HB;have HO168:=n0_;have HB:=n1_;clear n0_ n1_;(try clear hb);(try clear hb2);(try clear hk);(try clear hi);(try clear ho0))|((with_reducible refine gate_dst (N:=23) rfl ?_);refine Kd.R_lit k70 _ 70 ?hg (N:=23) ?hd (xs:=([]:List (S70))) (inner:=[]) (ok:=fun _=>True) (okp:=fun _=>True) ?hr ?hp (fun _ hk=>hk) trivial (Below.refl _ _) (Nat.le_refl _) (by simp) ?_;(case hd=>rfl);(case hg=>rfl);(case hr=>first|(go_simp;done)|(go_simp;rfl));(case hp=>exact (Reps.none _ _));intro v170 w10 ho11 hb hg_ hnew_;clear hg_ hnew_;(first|rw [← Ny169.out] at ho11|(simp only [Int.reduceToNat] at ho11;rw [← Ny169.out] at ho11));have n0_:=mk0 (Kd.S_below (by (with_reducible repeat (first|apply aS|apply nS|apply dS));exact HO168.out) hb);have n1_:=mk0 (Kd.R_lower ho11 (below_size (by repeat (first|(with_reducible first|exact HB.out|apply aZ|apply nZ|apply dZ)|exact HB.out))));have n2_:=mk0 (below_step (by repeat (first|(with_reducible first|exact HB.out|apply aZ|apply nZ|apply dZ)|exact HB.out)) hb);clear HO168 HB;have HO168:=n0_;have HO171:=n1_;have HB:=n2_;clear n0_ n1_ n2_ hb ho11)))
   go_loopg [6,7,8] kj2 (fun kq v6 v7 v8 w'=>∃ (x6_2:List (S70)) (x7_2:Int) (x8_2:Int),v7 = .int .i64 x7_2 ∧ v8 = .int .i64 x8_2 ∧ Aside0 (spec_CommonOf.l0 kq l0 l1 t166 x6_2 x7_2 x8_2 = some r) ∧ Aside0 (kq ≤ kj2) ∧ Aside0 (Kd.S (Kd.slice 3 (Kd.int .i64)) 22 w' w.heap.size (fun _=>True) v167 t166) ∧ Aside0 (Kd.R k70 70 w' w.heap.size (fun _=>True) v6 x6_2) ∧ Aside0 (Below w.heap.size w w'))
   case atStart=>exact⟨(y169),(0),(0),(by first|rfl|(simp;done)|(simp [*];done)),(by first|rfl|(simp;done)|(simp [*];done)),H',⟨Nat.le_refl _⟩,⟨by (with_reducible repeat (first|apply aS|apply nS|apply dS));exact HO168.out⟩,⟨by (with_reducible repeat (first|apply aR|apply nR|apply dR));exact HO171.out⟩,⟨by repeat (first|(with_reducible first|exact HB.out|apply aZ|apply nZ|apply dZ)|exact HB.out)⟩⟩
   case round =>
    clear H'
    try clear c1
    try clear c2
    try clear p2
    try clear c5
    try clear c7
    try clear p2
    obtain⟨x6_2,x7_2,x8_2,rfl,rfl,HA,HK2,HO_5,HO_6,HB⟩:=hrel
    cases gk with
    | zero=>exact absurd HA.out (by simp [spec_CommonOf.l0])
    | succ k2 =>
     have H:=HA.out
     clear HA
     simp only [spec_CommonOf.l0] at H
     by_cases c12:0 ≤ x7_2
     rotate_left
     ·rw [if_neg c12] at H
      exact absurd H (by simp)

     rw [if_pos c12] at H
     have c12b0:decide (0 ≤ x7_2) = true:=decide_eq_true c12
     clear c12
     by_cases c13:x7_2 < (t166.length:Int)
     rotate_left
     ·rw [if_neg c13] at H
      exact absurd H (by simp)
     rw [if_pos c13] at H
     have c13b0:decide (x7_2 < (t166.length:Int)) = true:=decide_eq_true c13
     (try simp only [hl172_0] at c13b0)
     (try simp only [hl179_0] at c13b0)
     (try simp only [hl181_0] at c13b0)
     clear c13
     by_cases c14:0 ≤ x8_2
     rotate_left
     ·rw [if_neg c14] at H
      exact absurd H (by simp)
     rw [if_pos c14] at H
     have c14b0:decide (0 ≤ x8_2) = true:=decide_eq_true c14
     clear c14
     by_cases c15:x8_2 < ((rd_L3 t166 x7_2).length:Int)
     rotate_left
     ·rw [if_neg c15] at H
      exact absurd H (by simp)
     rw [if_pos c15] at H
     have c15b0:decide (x8_2 < ((rd_L3 t166 x7_2).length:Int)) = true:=decide_eq_true c15
     (try simp only [hl172_0] at c15b0)
     (try simp only [hl179_0] at c15b0)
     (try simp only [hl181_0] at c15b0)
     clear c15
     by_cases c16:(rd (rd_L3 t166 x7_2) x8_2) > 0
     rotate_left
     ·rw [if_neg c16] at H
      have c16b0:decide (0 < (rd (rd_L3 t166 x7_2) x8_2)) = false:=decide_eq_false c16
      clear c16
      obtain rfl:=Option.some.inj H
      obtain⟨Ao38,co38,eo38⟩:=Kd.S_slice HO_5.out
      subst eo38
      have p172:0 ≤ (x7_2:Int):=of_decide_eq_true (by first|(with_reducible assumption)|assumption)
      have q172:x7_2 < (t166.length:Int):=of_decide_eq_true (by first|(with_reducible assumption)|assumption)
      obtain⟨ad172,A172_0,c172_0,e172,hx172_0,hl172_0,hi172_0⟩:=at_L3 (Kd.S_reads' HO_5.out).2.2 x7_2 p172 q172
      cases e172
      obtain⟨ce172,hce172,hMe172,hcc172⟩:=Kd.S_get HO_5.out [] x7_2 p172 (by first|exact q172|exact of_decide_eq_true (by first|(with_reducible assumption)|assumption)|(have e_:=(Kd.S_reads' HO_5.out).1;omega))
      obtain⟨ve172_0,rfl,ge172_0⟩:=hMe172
      have hv172_0:=hcc172 0 _ rfl
      rw [Nat.add_zero,show ((Kd.slice 3 (Kd.int .i64))).sz = 1 from rfl,Nat.mul_one] at hv172_0
      replace hv172_0:=Option.some.inj (hv172_0.symm.trans hx172_0)
      rw [hv172_0] at ge172_0
      have HL172_0:=mk0 (show Kd.R (Kd.int .i64) 3 _ _ _ _ (rd_L3 t166 x7_2) from ge172_0)
      clear hv172_0 ge172_0
      clear hcc172 hce172
      have HR172_0:=mk0 hi172_0
      have HC172_0:=mk0 hl172_0
      clear hi172_0 hl172_0
      replace p172:=eq_true p172
      replace q172:=eq_true q172
      have p173:0 ≤ (x8_2:Int):=of_decide_eq_true (by first|(with_reducible assumption)|assumption)
      have q173:x8_2 < ((rd_L3 t166 x7_2).length:Int):=of_decide_eq_true (by first|(with_reducible assumption)|assumption)
      obtain⟨ad173,e173,hx173_0⟩:=Kd.at_int (by repeat (first|(with_reducible exact HR172_0.out)|(with_reducible first|apply aC|apply nC|apply dC)|exact HR172_0.out)) x8_2 p173 q173
      cases e173
      replace p173:=eq_true p173
      replace q173:=eq_true q173
      go_wp2
      repeat (go_quiet (fail);try go_wp2)
      go_ret
      exact⟨_,by first|rfl|(simp [errW_none,errW_some] <;> rfl)|(simp [*,errW_none,errW_some] <;> rfl),by (with_reducible repeat (first|apply aR|apply nR|apply dR));exact HO_6.out,by repeat (first|(with_reducible first|exact HB.out|apply aZ|apply nZ|apply dZ)|exact HB.out)⟩
     rw [if_pos c16] at H
     have c16b0:decide (0 < (rd (rd_L3 t166 x7_2) x8_2)) = true:=decide_eq_true c16
     clear c16
     have H':=mk0 H
     clear H
     obtain⟨Ao17,co17,eo17⟩:=Kd.S_slice HO_5.out
     subst eo17
     have p172:0 ≤ (x7_2:Int):=of_decide_eq_true (by first|(with_reducible assumption)|assumption)
     have q172:x7_2 < (t166.length:Int):=of_decide_eq_true (by first|(with_reducible assumption)|assumption)
     obtain⟨ad172,A172_0,c172_0,e172,hx172_0,hl172_0,hi172_0⟩:=at_L3 (Kd.S_reads' HO_5.out).2.2 x7_2 p172 q172
     cases e172
     obtain⟨ce172,hce172,hMe172,hcc172⟩:=Kd.S_get HO_5.out [] x7_2 p172 (by first|exact q172|exact of_decide_eq_true (by first|(with_reducible assumption)|assumption)|(have e_:=(Kd.S_reads' HO_5.out).1;omega))
     obtain⟨ve172_0,rfl,ge172_0⟩:=hMe172
     have hv172_0:=hcc172 0 _ rfl
     rw [Nat.add_zero,show ((Kd.slice 3 (Kd.int .i64))).sz = 1 from rfl,Nat.mul_one] at hv172_0
     replace hv172_0:=Option.some.inj (hv172_0.symm.trans hx172_0)
     rw [hv172_0] at ge172_0
     have HL172_0:=mk0 (show Kd.R (Kd.int .i64) 3 _ _ _ _ (rd_L3 t166 x7_2) from ge172_0)
     clear hv172_0 ge172_0
     clear hcc172 hce172
     have HR172_0:=mk0 hi172_0
     have HC172_0:=mk0 hl172_0
     clear hi172_0 hl172_0
     replace p172:=eq_true p172
     replace q172:=eq_true q172
     have p173:0 ≤ (x8_2:Int):=of_decide_eq_true (by first|(with_reducible assumption)|assumption)
     have q173:x8_2 < ((rd_L3 t166 x7_2).length:Int):=of_decide_eq_true (by first|(with_reducible assumption)|assumption)
     obtain⟨ad173,e173,hx173_0⟩:=Kd.at_int (by repeat (first|(with_reducible exact HR172_0.out)|(with_reducible first|apply aC|apply nC|apply dC)|exact HR172_0.out)) x8_2 p173 q173
     cases e173
     replace p173:=eq_true p173
     replace q173:=eq_true q173
     go_wp2
     repeat (go_quiet (fail);try go_wp2)
     go_loopg [9,10] k2 (fun kq v9 v10 w'=>∃ (x9_3:Int) (x10_3:Int),v9 = .int .i64 x9_3 ∧ v10 = .int .i64 x10_3 ∧ Aside0 (spec_CommonOf.l1 kq l0 l1 t166 x6_2 x7_2 x8_2 x9_3 x10_3 = some r) ∧ Aside0 (kq ≤ k2) ∧ Aside0 (Kd.S (Kd.slice 3 (Kd.int .i64)) 22 w' w.heap.size (fun _=>True) (.slice (some ad172) t166.length co17) t166) ∧ Aside0 (Kd.R k70 70 w' w.heap.size (fun _=>True) u6 x6_2) ∧ Aside0 (Kd.C (Kd.int .i64) w' (some ad173) (rd_L3 t166 x7_2).length (rd_L3 t166 x7_2)) ∧ Aside0 (Below w.heap.size w w'))
     case atStart=>exact⟨(x7_2),((-1)),(by first|rfl|(simp;done)|(simp [*];done)),(by first|rfl|(simp;done)|(simp [*];done)),H',⟨Nat.le_refl _⟩,⟨by (with_reducible repeat (first|apply aS|apply nS|apply dS));exact HO_5.out⟩,⟨by (with_reducible repeat (first|apply aR|apply nR|apply dR));exact HO_6.out⟩,⟨by repeat (first|(with_reducible exact HR172_0.out)|(with_reducible first|apply aC|apply nC|apply dC)|exact HR172_0.out)⟩,⟨by repeat (first|(with_reducible first|exact HB.out|apply aZ|apply nZ|apply dZ)|exact HB.out)⟩⟩
     case round =>
      clear H'
      try clear c1
      try clear p1
      try clear q1
      try clear hx1
      try clear c2
      try clear p2
      try clear c5
      try clear c7
      try clear c12
      try clear c12b0
      try clear c13
      try clear c13b0
      try clear c14
      try clear c14b0
      try clear c15
      try clear c15b0
      try clear c16
      try clear c16b0
      try clear c17
      try clear p17
      try clear q17
      try clear hx17
      try clear hx172_0
      try clear hx173_0
      try clear p172
      try clear p173
      try clear p2
      try clear q172
      try clear q173
      obtain⟨x9_3,x10_3,rfl,rfl,HA,HK3,HO_5,HO_6,HR172_0,HB⟩:=hrel
      cases gk with
      | zero=>exact absurd HA.out (by simp [spec_CommonOf.l1])
      | succ k3 =>
       have H:=HA.out
       clear HA
       simp only [spec_CommonOf.l1] at H
       by_cases c18:x10_3 < 0
       rotate_left
       ·rw [if_neg c18] at H
        have c18b0:decide (x10_3 < 0) = false:=decide_eq_false c18
        clear c18
        by_cases c36:x6_2.length < 8796093022208
        rotate_left
        ·rw [if_neg c36] at H
         exact absurd H (by simp)
        rw [if_pos c36] at H
        have LMc36:=mk0 c36
        clear c36
        obtain⟨y174,hy174⟩:∃ y_:List (S70),y_ = (x6_2 ++ [(⟨wrap64 (x9_3 - 1),x10_3⟩:S70)]):=⟨_,rfl⟩
        replace H:(spec_CommonOf.l0 k3 l0 l1 t166 y174 x9_3 (wrap64 (x10_3 + 1))) = some r:=by first|(rw [hy174];with_reducible exact H)|(have H2_:=(Option.bind_some _ _).symm.trans H;rw [hy174];with_reducible exact H2_)|(have H2_:=(Option.bind_some _ _).symm.trans H;with_reducible exact H2_)|with_reducible exact H|(rw [hy174];exact H)|exact H
        have Ny174:=mk0 hy174
        clear hy174
        have H':=mk0 H
        clear H
        go_wp2_with (first|((with_reducible refine gate_builtin (b:=.append) (xs:=#[.tmp 75,.tmp 80]) rfl ?_);at_builtin;refine Kd.R_append k70 (w0:=w) w.heap.size rfl (.tmp 75) (.tmp 80) 50 70 (.agg #[(.int .i64 0),(.int .i64 0)]) 16 rfl Try.underlying50 info70 rfl (by decide) (by omega) u6 x6_2 (⟨wrap64 (x9_3 - 1),x10_3⟩:S70) [.int .i64 (wrap64 (x9_3 - 1)),.int .i64 x10_3] (fun _=>True) (fun _=>False) rfl rfl ?aP (fun _ hk=>hk.elim) ?aF ?aO ?aB ?aS ?aL ?_;(case aP=>exact k70_mkM _ _ _ (⟨wrap64 (x9_3 - 1),x10_3⟩:S70));(case aB=>exact (by repeat (first|(with_reducible first|exact HB.out|apply aZ|apply nZ|apply dZ)|exact HB.out)));(case aF=>exact (fun _ _=>trivial));(case aO=>exact (by (with_reducible repeat (first|apply aR|apply nR|apply dR));exact HO_6.out));(case aS=>exact (below_size (by repeat (first|(with_reducible first|exact HB.out|apply aZ|apply nZ|apply dZ)|exact HB.out))));(case aL=>have:=LMc36.out;omega);intro v175 w37 ho hb hg hat;rw [← Ny174.out] at ho;have n0_:=mk0 (Kd.S_over' (by (with_reducible repeat (first|apply aS|apply nS|apply dS));exact HO_5.out) (Kd.R_typed (by (with_reducible repeat (first|apply aR|apply nR|apply dR));exact HO_6.out)) (by decide) hg);have n1_:=mk0 (hb);have n2_:=mk0 (ho);clear HO_5 HB HO_6;have HO_5:=n0_;have HB:=n1_;have HO176:=n2_;clear n0_ n1_ n2_ ho hb hg hat))
        repeat (go_quiet (first|((with_reducible refine gate_builtin (b:=.append) (xs:=#[.tmp 75,.tmp 80]) rfl ?_);at_builtin;refine Kd.R_append k70 (w0:=w) w.heap.size rfl (.tmp 75) (.tmp 80) 50 70 (.agg #[(.int .i64 0),(.int .i64 0)]) 16 rfl Try.underlying50 info70 rfl (by decide) (by omega) u6 x6_2 (⟨wrap64 (x9_3 - 1),x10_3⟩:S70) [.int .i64 (wrap64 (x9_3 - 1)),.int .i64 x10_3] (fun _=>True) (fun _=>False) rfl rfl ?aP (fun _ hk=>hk.elim) ?aF ?aO ?aB ?aS ?aL ?_;(case aP=>exact k70_mkM _ _ _ (⟨wrap64 (x9_3 - 1),x10_3⟩:S70));(case aB=>exact (by repeat (first|(with_reducible first|exact HB.out|apply aZ|apply nZ|apply dZ)|exact HB.out)));(case aF=>exact (fun _ _=>trivial));(case aO=>exact (by (with_reducible repeat (first|apply aR|apply nR|apply dR));exact HO_6.out));(case aS=>exact (below_size (by repeat (first|(with_reducible first|exact HB.out|apply aZ|apply nZ|apply dZ)|exact HB.out))));(case aL=>have:=LMc36.out;omega);intro v175 w37 ho hb hg hat;rw [← Ny174.out] at ho;have n0_:=mk0 (Kd.S_over' (by (with_reducible repeat (first|apply aS|apply nS|apply dS));exact HO_5.out) (Kd.R_typed (by (with_reducible repeat (first|apply aR|apply nR|apply dR));exact HO_6.out)) (by decide) hg);have n1_:=mk0 (hb);have n2_:=mk0 (ho);clear HO_5 HB HO_6;have HO_5:=n0_;have HB:=n1_;have HO176:=n2_;clear n0_ n1_ n2_ ho hb hg hat));try go_wp2_with (first|((with_reducible refine gate_builtin (b:=.append) (xs:=#[.tmp 75,.tmp 80]) rfl ?_);at_builtin;refine Kd.R_append k70 (w0:=w) w.heap.size rfl (.tmp 75) (.tmp 80) 50 70 (.agg #[(.int .i64 0),(.int .i64 0)]) 16 rfl Try.underlying50 info70 rfl (by decide) (by omega) u6 x6_2 (⟨wrap64 (x9_3 - 1),x10_3⟩:S70) [.int .i64 (wrap64 (x9_3 - 1)),.int .i64 x10_3] (fun _=>True) (fun _=>False) rfl rfl ?aP (fun _ hk=>hk.elim) ?aF ?aO ?aB ?aS ?aL ?_;(case aP=>exact k70_mkM _ _ _ (⟨wrap64 (x9_3 - 1),x10_3⟩:S70));(case aB=>exact (by repeat (first|(with_reducible first|exact HB.out|apply aZ|apply nZ|apply dZ)|exact HB.out)));(case aF=>exact (fun _ _=>trivial));(case aO=>exact (by (with_reducible repeat (first|apply aR|apply nR|apply dR));exact HO_6.out));(case aS=>exact (below_size (by repeat (first|(with_reducible first|exact HB.out|apply aZ|apply nZ|apply dZ)|exact HB.out))));(case aL=>have:=LMc36.out;omega);intro v175 w37 ho hb hg hat;rw [← Ny174.out] at ho;have n0_:=mk0 (Kd.S_over' (by (with_reducible repeat (first|apply aS|apply nS|apply dS));exact HO_5.out) (Kd.R_typed (by (with_reducible repeat (first|apply aR|apply nR|apply dR));exact HO_6.out)) (by decide) hg);have n1_:=mk0 (hb);have n2_:=mk0 (ho);clear HO_5 HB HO_6;have HO_5:=n0_;have HB:=n1_;have HO176:=n2_;clear n0_ n1_ n2_ ho hb hg hat)))
        go_roundg k3
        case measure=>have:=HJ2.out;have:=HK2.out;have:=HK3.out;omega
        case rel=>exact⟨(y174),(x9_3),(wrap64 (x10_3 + 1)),(by first|rfl|(simp;done)|(simp [*];done)),(by first|rfl|(simp;done)|(simp [*];done)),H',⟨by have:=HJ2.out;have:=HK2.out;have:=HK3.out;omega⟩,⟨by (with_reducible repeat (first|apply aS|apply nS|apply dS));exact HO_5.out⟩,⟨by (with_reducible repeat (first|apply aR|apply nR|apply dR));exact HO176.out⟩,⟨by repeat (first|(with_reducible first|exact HB.out|apply aZ|apply nZ|apply dZ)|exact HB.out)⟩⟩
       rw [if_pos c18] at H
       have c18b0:decide (x10_3 < 0) = true:=decide_eq_true c18
       clear c18
       have H':=mk0 H
       clear H
       go_wp2
       repeat (go_quiet (fail);try go_wp2)
       go_loopg [10,11] k3 (fun kq v10 v11 w'=>∃ (x10_4:Int) (x11_4:Int),v10 = .int .i64 x10_4 ∧ v11 = .int .i64 x11_4 ∧ Aside0 (spec_CommonOf.l2 kq l0 l1 t166 x6_2 x7_2 x8_2 x9_3 x10_4 x11_4 = some r) ∧ Aside0 (kq ≤ k3) ∧ Aside0 (Kd.S (Kd.slice 3 (Kd.int .i64)) 22 w' w.heap.size (fun _=>True) (.slice (some ad172) t166.length co17) t166) ∧ Aside0 (Kd.R k70 70 w' w.heap.size (fun _=>True) u6 x6_2) ∧ Aside0 (Kd.C (Kd.int .i64) w' (some ad173) (rd_L3 t166 x7_2).length (rd_L3 t166 x7_2)) ∧ Aside0 (Below w.heap.size w w'))
       case atStart=>exact⟨(x10_3),(wrap64 ((l1.length:Int) - 1)),(by first|rfl|(simp;done)|(simp [*];done)),(by first|rfl|(simp;done)|(simp [*];done)),H',⟨Nat.le_refl _⟩,⟨by (with_reducible repeat (first|apply aS|apply nS|apply dS));exact HO_5.out⟩,⟨by (with_reducible repeat (first|apply aR|apply nR|apply dR));exact HO_6.out⟩,⟨by repeat (first|(with_reducible exact HR172_0.out)|(with_reducible first|apply aC|apply nC|apply dC)|exact HR172_0.out)⟩,⟨by repeat (first|(with_reducible first|exact HB.out|apply aZ|apply nZ|apply dZ)|exact HB.out)⟩⟩
       case round =>
        clear H'
        try clear c1
        try clear p1
        try clear q1
        try clear hx1
        try clear c2
        try clear p2
        try clear c5
        try clear p6
        try clear c7
        try clear c12
        try clear c12b0
        try clear c13
        try clear c13b0
        try clear c14
        try clear c14b0
        try clear c15
        try clear c15b0
        try clear c16
        try clear c16b0
        try clear c17
        try clear p17
        try clear q17
        try clear hx17
        try clear c18
        try clear c18b0
        try clear hx172_0
        try clear hx173_0
        try clear p1
        try clear p17
        try clear p172
        try clear p173
        try clear p2
        try clear q1
        try clear q17
        try clear q172
        try clear q173
        obtain⟨x10_4,x11_4,rfl,rfl,HA,HK4,HO_5,HO_6,HR172_0,HB⟩:=hrel
        cases gk with
        | zero=>exact absurd HA.out (by simp [spec_CommonOf.l2])
        | succ k4 =>
         have H:=HA.out
         clear HA
         simp only [spec_CommonOf.l2] at H
         by_cases c19:x11_4 ≥ x8_2
         rotate_left
         ·rw [if_neg c19] at H
          have c19b0:decide (x8_2 ≤ x11_4) = false:=decide_eq_false c19
          clear c19
          have H':=mk0 H
          clear H
          go_wp2
          repeat (go_quiet (fail);try go_wp2)
          go_roundg k4
          case measure=>have:=HJ2.out;have:=HK2.out;have:=HK3.out;have:=HK4.out;omega
          case rel=>exact⟨(wrap64 (x9_3 + 1)),(x10_4),(by first|rfl|(simp;done)|(simp [*];done)),(by first|rfl|(simp;done)|(simp [*];done)),H',⟨by have:=HJ2.out;have:=HK2.out;have:=HK3.out;have:=HK4.out;omega⟩,⟨by (with_reducible repeat (first|apply aS|apply nS|apply dS));exact HO_5.out⟩,⟨by (with_reducible repeat (first|apply aR|apply nR|apply dR));exact HO_6.out⟩,⟨by repeat (first|(with_reducible exact HR172_0.out)|(with_reducible first|apply aC|apply nC|apply dC)|exact HR172_0.out)⟩,⟨by repeat (first|(with_reducible first|exact HB.out|apply aZ|apply nZ|apply dZ)|exact HB.out)⟩⟩
         rw [if_pos c19] at H
         have c19b0:decide (x8_2 ≤ x11_4) = true:=decide_eq_true c19
         clear c19
         by_cases c20:0 ≤ x9_3
         rotate_left
         ·rw [if_neg c20] at H
          exact absurd H (by simp)
         rw [if_pos c20] at H
         have c20b0:decide (0 ≤ x9_3) = true:=decide_eq_true c20
         clear c20
         by_cases c21:x9_3 < (l0.length:Int)
         rotate_left
         ·rw [if_neg c21] at H
          exact absurd H (by simp)
         rw [if_pos c21] at H
         have c21b0:decide (x9_3 < (l0.length:Int)) = true:=decide_eq_true c21
         (try simp only [hl172_0] at c21b0)
         (try simp only [hl179_0] at c21b0)
         (try simp only [hl181_0] at c21b0)
         clear c21
         by_cases c22:0 ≤ x11_4
         rotate_left
         ·rw [if_neg c22] at H
          exact absurd H (by simp)
         rw [if_pos c22] at H
         have c22b0:decide (0 ≤ x11_4) = true:=decide_eq_true c22
         clear c22
         by_cases c23:x11_4 < (l1.length:Int)
         rotate_left
         ·rw [if_neg c23] at H
          exact absurd H (by simp)
         rw [if_pos c23] at H
         have c23b0:decide (x11_4 < (l1.length:Int)) = true:=decide_eq_true c23
         (try simp only [hl172_0] at c23b0)
         (try simp only [hl179_0] at c23b0)
         (try simp only [hl181_0] at c23b0)
         clear c23
         by_cases c24:(rd l0 x9_3) = (rd l1 x11_4)
         rotate_left
         ·rw [if_neg c24] at H
          have c24b0:((rd l0 x9_3) == (rd l1 x11_4)) = false:=beq_eq_false_iff_ne.mpr c24
          have c24b1:((rd l0 x9_3) != (rd l1 x11_4)) = true:=bne_iff_ne.mpr c24
          have H':=mk0 H
          clear H
          have p177:0 ≤ (x9_3:Int):=of_decide_eq_true (by first|(with_reducible assumption)|assumption)
          have q177:x9_3 < (l0.length:Int):=of_decide_eq_true (by first|(with_reducible assumption)|assumption)
          obtain⟨ad177,e177,hx177_0⟩:=Kd.at_int HR0.out x9_3 p177 q177
          cases e177
          replace hx177_0:=(HB.out.cell (World.block_lt_of_cell? w _ hx177_0)).trans hx177_0
          replace p177:=eq_true p177
          replace q177:=eq_true q177
          have p178:0 ≤ (x11_4:Int):=of_decide_eq_true (by first|(with_reducible assumption)|assumption)
          have q178:x11_4 < (l1.length:Int):=of_decide_eq_true (by first|(with_reducible assumption)|assumption)
          obtain⟨ad178,e178,hx178_0⟩:=Kd.at_int HR1.out x11_4 p178 q178
          cases e178
          replace hx178_0:=(HB.out.cell (World.block_lt_of_cell? w _ hx178_0)).trans hx178_0
          replace p178:=eq_true p178
          replace q178:=eq_true q178
          go_wp2
          repeat (go_quiet (fail);try go_wp2)
          go_roundg k4
          case measure=>have:=HJ2.out;have:=HK2.out;have:=HK3.out;have:=HK4.out;omega
          case rel=>exact⟨(x10_4),(wrap64 (x11_4 - 1)),(by first|rfl|(simp;done)|(simp [*];done)),(by first|rfl|(simp;done)|(simp [*];done)),H',⟨by have:=HJ2.out;have:=HK2.out;have:=HK3.out;have:=HK4.out;omega⟩,⟨by (with_reducible repeat (first|apply aS|apply nS|apply dS));exact HO_5.out⟩,⟨by (with_reducible repeat (first|apply aR|apply nR|apply dR));exact HO_6.out⟩,⟨by repeat (first|(with_reducible exact HR172_0.out)|(with_reducible first|apply aC|apply nC|apply dC)|exact HR172_0.out)⟩,⟨by repeat (first|(with_reducible first|exact HB.out|apply aZ|apply nZ|apply dZ)|exact HB.out)⟩⟩
         rw [if_pos c24] at H
         have c24b0:((rd l0 x9_3) == (rd l1 x11_4)) = true:=beq_iff_eq.mpr c24
         have c24b1:((rd l0 x9_3) != (rd l1 x11_4)) = false:=bne_eq_false_iff_eq.mpr c24
         clear c24
         obtain⟨ji25,hji25⟩:∃ j_:Int,(wrap64 (x9_3 + 1)) = j_:=⟨_,rfl⟩
         replace H:(if 0 ≤ (ji25) then (if (ji25) < (t166.length:Int) then (if 0 ≤ (wrap64 (x11_4 + 1)) then (if (wrap64 (x11_4 + 1)) < ((rd_L3 t166 (ji25)).length:Int) then (if 0 ≤ x7_2 then (if x7_2 < (t166.length:Int) then (if 0 ≤ x8_2 then (if x8_2 < ((rd_L3 t166 x7_2).length:Int) then (if (wrap64 (1 + (rd (rd_L3 t166 (ji25)) (wrap64 (x11_4 + 1))))) = (rd (rd_L3 t166 x7_2) x8_2) then (spec_CommonOf.l2 k4 l0 l1 t166 x6_2 x7_2 x8_2 x9_3 x11_4 (wrap64 (x11_4 - 1))) else (spec_CommonOf.l2 k4 l0 l1 t166 x6_2 x7_2 x8_2 x9_3 x10_4 (wrap64 (x11_4 - 1)))) else (none)) else (none)) else (none)) else (none)) else (none)) else (none)) else (none)) else (none)) = some r:=by first|(rw [hji25] at H;exact H)|(simp only [hji25] at H ⊢;exact H)
         have hji25w:(IntKind.i64.wrap (x9_3 + 1)) = ji25:=(i64_w _).trans hji25
         by_cases c26:0 ≤ (ji25)
         rotate_left
         ·rw [if_neg c26] at H
          exact absurd H (by simp)
         rw [if_pos c26] at H
         have c26b0:decide (0 ≤ (ji25)) = true:=decide_eq_true c26
         clear c26
         by_cases c27:(ji25) < (t166.length:Int)
         rotate_left
         ·rw [if_neg c27] at H
          exact absurd H (by simp)
         rw [if_pos c27] at H
         have c27b0:decide ((ji25) < (t166.length:Int)) = true:=decide_eq_true c27
         (try simp only [hl172_0] at c27b0)
         (try simp only [hl179_0] at c27b0)
         (try simp only [hl181_0] at c27b0)
         clear c27
         obtain⟨ji28,hji28⟩:∃ j_:Int,(wrap64 (x11_4 + 1)) = j_:=⟨_,rfl⟩
         replace H:(if 0 ≤ (ji28) then (if (ji28) < ((rd_L3 t166 (ji25)).length:Int) then (if 0 ≤ x7_2 then (if x7_2 < (t166.length:Int) then (if 0 ≤ x8_2 then (if x8_2 < ((rd_L3 t166 x7_2).length:Int) then (if (wrap64 (1 + (rd (rd_L3 t166 (ji25)) (ji28)))) = (rd (rd_L3 t166 x7_2) x8_2) then (spec_CommonOf.l2 k4 l0 l1 t166 x6_2 x7_2 x8_2 x9_3 x11_4 (wrap64 (x11_4 - 1))) else (spec_CommonOf.l2 k4 l0 l1 t166 x6_2 x7_2 x8_2 x9_3 x10_4 (wrap64 (x11_4 - 1)))) else (none)) else (none)) else (none)) else (none)) else (none)) else (none)) = some r:=by first|(rw [hji28] at H;exact H)|(simp only [hji28] at H ⊢;exact H)
         have hji28w:(IntKind.i64.wrap (x11_4 + 1)) = ji28:=(i64_w _).trans hji28
         by_cases c29:0 ≤ (ji28)
         rotate_left
         ·rw [if_neg c29] at H
          exact absurd H (by simp)
         rw [if_pos c29] at H
         have c29b0:decide (0 ≤ (ji28)) = true:=decide_eq_true c29
         clear c29
         by_cases c30:(ji28) < ((rd_L3 t166 (ji25)).length:Int)
         rotate_left
         ·rw [if_neg c30] at H
          exact absurd H (by simp)
         rw [if_pos c30] at H
         have c30b0:decide ((ji28) < ((rd_L3 t166 (ji25)).length:Int)) = true:=decide_eq_true c30
         (try simp only [hl172_0] at c30b0)
         (try simp only [hl179_0] at c30b0)
         (try simp only [hl181_0] at c30b0)
         clear c30
         by_cases c31:0 ≤ x7_2
         rotate_left
         ·rw [if_neg c31] at H
          exact absurd H (by simp)
         rw [if_pos c31] at H
         have c31b0:decide (0 ≤ x7_2) = true:=decide_eq_true c31
         clear c31
         by_cases c32:x7_2 < (t166.length:Int)
         rotate_left
         ·rw [if_neg c32] at H
          exact absurd H (by simp)
         rw [if_pos c32] at H
         have c32b0:decide (x7_2 < (t166.length:Int)) = true:=decide_eq_true c32
         (try simp only [hl172_0] at c32b0)
         (try simp only [hl179_0] at c32b0)
         (try simp only [hl181_0] at c32b0)
         clear c32
         by_cases c33:0 ≤ x8_2
         rotate_left
         ·rw [if_neg c33] at H
          exact absurd H (by simp)
         rw [if_pos c33] at H
         have c33b0:decide (0 ≤ x8_2) = true:=decide_eq_true c33
         clear c33
         by_cases c34:x8_2 < ((rd_L3 t166 x7_2).length:Int)
         rotate_left
         ·rw [if_neg c34] at H
          exact absurd H (by simp)
         rw [if_pos c34] at H
         have c34b0:decide (x8_2 < ((rd_L3 t166 x7_2).length:Int)) = true:=decide_eq_true c34
         (try simp only [hl172_0] at c34b0)
         (try simp only [hl179_0] at c34b0)
         (try simp only [hl181_0] at c34b0)
         clear c34
         by_cases c35:(wrap64 (1 + (rd (rd_L3 t166 (ji25)) (ji28)))) = (rd (rd_L3 t166 x7_2) x8_2)
         rotate_left
         ·rw [if_neg c35] at H
          have c35b0:((wrap64 (1 + (rd (rd_L3 t166 (ji25)) (ji28)))) == (rd (rd_L3 t166 x7_2) x8_2)) = false:=beq_eq_false_iff_ne.mpr c35
          have c35b1:((wrap64 (1 + (rd (rd_L3 t166 (ji25)) (ji28)))) != (rd (rd_L3 t166 x7_2) x8_2)) = true:=bne_iff_ne.mpr c35
          have H':=mk0 H
          clear H
          have p177:0 ≤ (x9_3:Int):=of_decide_eq_true (by first|(with_reducible assumption)|assumption)
          have q177:x9_3 < (l0.length:Int):=of_decide_eq_true (by first|(with_reducible assumption)|assumption)
          obtain⟨ad177,e177,hx177_0⟩:=Kd.at_int HR0.out x9_3 p177 q177
          cases e177
          replace hx177_0:=(HB.out.cell (World.block_lt_of_cell? w _ hx177_0)).trans hx177_0
          replace p177:=eq_true p177
          replace q177:=eq_true q177
          have p178:0 ≤ (x11_4:Int):=of_decide_eq_true (by first|(with_reducible assumption)|assumption)
          have q178:x11_4 < (l1.length:Int):=of_decide_eq_true (by first|(with_reducible assumption)|assumption)
          obtain⟨ad178,e178,hx178_0⟩:=Kd.at_int HR1.out x11_4 p178 q178
          cases e178
          replace hx178_0:=(HB.out.cell (World.block_lt_of_cell? w _ hx178_0)).trans hx178_0
          replace p178:=eq_true p178
          replace q178:=eq_true q178
          have p179:0 ≤ ((ji25):Int):=of_decide_eq_true (by first|(with_reducible assumption)|assumption)
          have q179:(ji25) < (t166.length:Int):=of_decide_eq_true (by first|(with_reducible assumption)|assumption)
          obtain⟨ad179,A179_0,c179_0,e179,hx179_0,hl179_0,hi179_0⟩:=at_L3 (Kd.S_reads' HO_5.out).2.2 (ji25) p179 q179
          obtain rfl:ad172 = ad179:=(by injection e179)
          obtain⟨ce179,hce179,hMe179,hcc179⟩:=Kd.S_get HO_5.out [] (ji25) p179 (by first|exact q179|exact of_decide_eq_true (by first|(with_reducible assumption)|assumption)|(have e_:=(Kd.S_reads' HO_5.out).1;omega))
          obtain⟨ve179_0,rfl,ge179_0⟩:=hMe179
          have hv179_0:=hcc179 0 _ rfl
          rw [Nat.add_zero,show ((Kd.slice 3 (Kd.int .i64))).sz = 1 from rfl,Nat.mul_one] at hv179_0
          replace hv179_0:=Option.some.inj (hv179_0.symm.trans hx179_0)
          rw [hv179_0] at ge179_0
          have HL179_0:=mk0 (show Kd.R (Kd.int .i64) 3 _ _ _ _ (rd_L3 t166 (ji25)) from ge179_0)
          clear hv179_0 ge179_0
          clear hcc179 hce179
          have HR179_0:=mk0 hi179_0
          have HC179_0:=mk0 hl179_0
          clear hi179_0 hl179_0
          replace p179:=eq_true p179
          replace q179:=eq_true q179
          have p180:0 ≤ ((ji28):Int):=of_decide_eq_true (by first|(with_reducible assumption)|assumption)
          have q180:(ji28) < ((rd_L3 t166 (ji25)).length:Int):=of_decide_eq_true (by first|(with_reducible assumption)|assumption)
          obtain⟨ad180,e180,hx180_0⟩:=Kd.at_int (by repeat (first|(with_reducible exact HR179_0.out)|(with_reducible first|apply aC|apply nC|apply dC)|exact HR179_0.out)) (ji28) p180 q180
          cases e180
          replace p180:=eq_true p180
          replace q180:=eq_true q180
          have p181:0 ≤ (x7_2:Int):=of_decide_eq_true (by first|(with_reducible assumption)|assumption)
          have q181:x7_2 < (t166.length:Int):=of_decide_eq_true (by first|(with_reducible assumption)|assumption)
          obtain⟨ad181,A181_0,c181_0,e181,hx181_0,hl181_0,hi181_0⟩:=at_L3 (Kd.S_reads' HO_5.out).2.2 x7_2 p181 q181
          obtain rfl:ad172 = ad181:=(by injection e181)
          obtain⟨ce181,hce181,hMe181,hcc181⟩:=Kd.S_get HO_5.out [] x7_2 p181 (by first|exact q181|exact of_decide_eq_true (by first|(with_reducible assumption)|assumption)|(have e_:=(Kd.S_reads' HO_5.out).1;omega))
          obtain⟨ve181_0,rfl,ge181_0⟩:=hMe181
          have hv181_0:=hcc181 0 _ rfl
          rw [Nat.add_zero,show ((Kd.slice 3 (Kd.int .i64))).sz = 1 from rfl,Nat.mul_one] at hv181_0
          replace hv181_0:=Option.some.inj (hv181_0.symm.trans hx181_0)
          rw [hv181_0] at ge181_0
          have HL181_0:=mk0 (show Kd.R (Kd.int .i64) 3 _ _ _ _ (rd_L3 t166 x7_2) from ge181_0)
          clear hv181_0 ge181_0
          clear hcc181 hce181
          have HR181_0:=mk0 hi181_0
          have HC181_0:=mk0 hl181_0
          clear hi181_0 hl181_0
          replace p181:=eq_true p181
          replace q181:=eq_true q181
          have p182:0 ≤ (x8_2:Int):=of_decide_eq_true (by first|(with_reducible assumption)|assumption)
          have q182:x8_2 < ((rd_L3 t166 x7_2).length:Int):=of_decide_eq_true (by first|(with_reducible assumption)|assumption)
          obtain⟨ad182,e182,hx182_0⟩:=Kd.at_int (by repeat (first|(with_reducible exact HR181_0.out)|(with_reducible first|apply aC|apply nC|apply dC)|exact HR181_0.out)) x8_2 p182 q182
          cases e182
          replace p182:=eq_true p182
          replace q182:=eq_true q182
          go_wp2
          repeat (go_quiet (fail);try go_wp2)
          go_roundg k4
          case measure=>have:=HJ2.out;have:=HK2.out;have:=HK3.out;have:=HK4.out;omega
          case rel=>exact⟨(x10_4),(wrap64 (x11_4 - 1)),(by first|rfl|(simp;done)|(simp [*];done)),(by first|rfl|(simp;done)|(simp [*];done)),H',⟨by have:=HJ2.out;have:=HK2.out;have:=HK3.out;have:=HK4.out;omega⟩,⟨by (with_reducible repeat (first|apply aS|apply nS|apply dS));exact HO_5.out⟩,⟨by (with_reducible repeat (first|apply aR|apply nR|apply dR));exact HO_6.out⟩,⟨by repeat (first|(with_reducible exact HR172_0.out)|(with_reducible first|apply aC|apply nC|apply dC)|exact HR172_0.out)⟩,⟨by repeat (first|(with_reducible first|exact HB.out|apply aZ|apply nZ|apply dZ)|exact HB.out)⟩⟩
         rw [if_pos c35] at H
         have c35b0:((wrap64 (1 + (rd (rd_L3 t166 (ji25)) (ji28)))) == (rd (rd_L3 t166 x7_2) x8_2)) = true:=beq_iff_eq.mpr c35
         have c35b1:((wrap64 (1 + (rd (rd_L3 t166 (ji25)) (ji28)))) != (rd (rd_L3 t166 x7_2) x8_2)) = false:=bne_eq_false_iff_eq.mpr c35
         clear c35
         have H':=mk0 H
         clear H
         have p177:0 ≤ (x9_3:Int):=of_decide_eq_true (by first|(with_reducible assumption)|assumption)
         have q177:x9_3 < (l0.length:Int):=of_decide_eq_true (by first|(with_reducible assumption)|assumption)
         obtain⟨ad177,e177,hx177_0⟩:=Kd.at_int HR0.out x9_3 p177 q177
         cases e177
         replace hx177_0:=(HB.out.cell (World.block_lt_of_cell? w _ hx177_0)).trans hx177_0
         replace p177:=eq_true p177
         replace q177:=eq_true q177
         have p178:0 ≤ (x11_4:Int):=of_decide_eq_true (by first|(with_reducible assumption)|assumption)
         have q178:x11_4 < (l1.length:Int):=of_decide_eq_true (by first|(with_reducible assumption)|assumption)
         obtain⟨ad178,e178,hx178_0⟩:=Kd.at_int HR1.out x11_4 p178 q178
         cases e178
         replace hx178_0:=(HB.out.cell (World.block_lt_of_cell? w _ hx178_0)).trans hx178_0
         replace p178:=eq_true p178
         replace q178:=eq_true q178
         have p179:0 ≤ ((ji25):Int):=of_decide_eq_true (by first|(with_reducible assumption)|assumption)
         have q179:(ji25) < (t166.length:Int):=of_decide_eq_true (by first|(with_reducible assumption)|assumption)
         obtain⟨ad179,A179_0,c179_0,e179,hx179_0,hl179_0,hi179_0⟩:=at_L3 (Kd.S_reads' HO_5.out).2.2 (ji25) p179 q179
         obtain rfl:ad172 = ad179:=(by injection e179)
         obtain⟨ce179,hce179,hMe179,hcc179⟩:=Kd.S_get HO_5.out [] (ji25) p179 (by first|exact q179|exact of_decide_eq_true (by first|(with_reducible assumption)|assumption)|(have e_:=(Kd.S_reads' HO_5.out).1;omega))
         obtain⟨ve179_0,rfl,ge179_0⟩:=hMe179
         have hv179_0:=hcc179 0 _ rfl
         rw [Nat.add_zero,show ((Kd.slice 3 (Kd.int .i64))).sz = 1 from rfl,Nat.mul_one] at hv179_0
         replace hv179_0:=Option.some.inj (hv179_0.symm.trans hx179_0)
         rw [hv179_0] at ge179_0
         have HL179_0:=mk0 (show Kd.R (Kd.int .i64) 3 _ _ _ _ (rd_L3 t166 (ji25)) from ge179_0)
         clear hv179_0 ge179_0
         clear hcc179 hce179
         have HR179_0:=mk0 hi179_0
         have HC179_0:=mk0 hl179_0
         clear hi179_0 hl179_0
         replace p179:=eq_true p179
         replace q179:=eq_true q179
         have p180:0 ≤ ((ji28):Int):=of_decide_eq_true (by first|(with_reducible assumption)|assumption)
         have q180:(ji28) < ((rd_L3 t166 (ji25)).length:Int):=of_decide_eq_true (by first|(with_reducible assumption)|assumption)
         obtain⟨ad180,e180,hx180_0⟩:=Kd.at_int (by repeat (first|(with_reducible exact HR179_0.out)|(with_reducible first|apply aC|apply nC|apply dC)|exact HR179_0.out)) (ji28) p180 q180
         cases e180
         replace p180:=eq_true p180
         replace q180:=eq_true q180
         have p181:0 ≤ (x7_2:Int):=of_decide_eq_true (by first|(with_reducible assumption)|assumption)
         have q181:x7_2 < (t166.length:Int):=of_decide_eq_true (by first|(with_reducible assumption)|assumption)
         obtain⟨ad181,A181_0,c181_0,e181,hx181_0,hl181_0,hi181_0⟩:=at_L3 (Kd.S_reads' HO_5.out).2.2 x7_2 p181 q181
         obtain rfl:ad172 = ad181:=(by injection e181)
         obtain⟨ce181,hce181,hMe181,hcc181⟩:=Kd.S_get HO_5.out [] x7_2 p181 (by first|exact q181|exact of_decide_eq_true (by first|(with_reducible assumption)|assumption)|(have e_:=(Kd.S_reads' HO_5.out).1;omega))
         obtain⟨ve181_0,rfl,ge181_0⟩:=hMe181
         have hv181_0:=hcc181 0 _ rfl
         rw [Nat.add_zero,show ((Kd.slice 3 (Kd.int .i64))).sz = 1 from rfl,Nat.mul_one] at hv181_0
         replace hv181_0:=Option.some.inj (hv181_0.symm.trans hx181_0)
         rw [hv181_0] at ge181_0
         have HL181_0:=mk0 (show Kd.R (Kd.int .i64) 3 _ _ _ _ (rd_L3 t166 x7_2) from ge181_0)
         clear hv181_0 ge181_0
         clear hcc181 hce181
         have HR181_0:=mk0 hi181_0
         have HC181_0:=mk0 hl181_0
         clear hi181_0 hl181_0
         replace p181:=eq_true p181
         replace q181:=eq_true q181
         have p182:0 ≤ (x8_2:Int):=of_decide_eq_true (by first|(with_reducible assumption)|assumption)
         have q182:x8_2 < ((rd_L3 t166 x7_2).length:Int):=of_decide_eq_true (by first|(with_reducible assumption)|assumption)
         obtain⟨ad182,e182,hx182_0⟩:=Kd.at_int (by repeat (first|(with_reducible exact HR181_0.out)|(with_reducible first|apply aC|apply nC|apply dC)|exact HR181_0.out)) x8_2 p182 q182
         cases e182
         replace p182:=eq_true p182
         replace q182:=eq_true q182
         go_wp2
         repeat (go_quiet (fail);try go_wp2)
         go_roundg k4
         case measure=>have:=HJ2.out;have:=HK2.out;have:=HK3.out;have:=HK4.out;omega
         case rel=>exact⟨(x11_4),(wrap64 (x11_4 - 1)),(by first|rfl|(simp;done)|(simp [*];done)),(by first|rfl|(simp;done)|(simp [*];done)),H',⟨by have:=HJ2.out;have:=HK2.out;have:=HK3.out;have:=HK4.out;omega⟩,⟨by (with_reducible repeat (first|apply aS|apply nS|apply dS));exact HO_5.out⟩,⟨by (with_reducible repeat (first|apply aR|apply nR|apply dR));exact HO_6.out⟩,⟨by repeat (first|(with_reducible exact HR172_0.out)|(with_reducible first|apply aC|apply nC|apply dC)|exact HR172_0.out)⟩,⟨by repeat (first|(with_reducible first|exact HB.out|apply aZ|apply nZ|apply dZ)|exact HB.out)⟩⟩
/-! ### spec_PatchOf: function 6 -/
def spec_PatchOf.j0 : Nat → List Int → List Int → Bool → Option (Int × List Int × Int × List Int × List Int × Bool)
 | 0, _, _, _ => none
 | k + 1, x0, x1, x13 => if x13 = true then (some (0, ([] : List Int), 0, ([] : List Int), ([] : List Int), false)) else ((spec_CommonOf.f k x0 x1).bind fun t186 => ((spec_l12Patch.f k (x0.length : Int) x1 t186).bind fun bt189 => (some (bt189.1, bt189.2.1, bt189.2.2.1, bt189.2.2.2.1, bt189.2.2.2.2, true))))
def spec_PatchOf.f (k : Nat) (l0 : List Int) (l1 : List Int) : Option (Int × List Int × Int × List Int × List Int × Bool) := (spec_l12Right.f l0).bind fun t184 => (if t184 = true then ((spec_l12Right.f l1).bind fun t185 => (spec_PatchOf.j0 k l0 l1 (!t185))) else (spec_PatchOf.j0 k l0 l1 true))
theorem spec_PatchOf.mono_l : ∀ k, (∀ y0 y1 y2, LeO (spec_PatchOf.j0 k y0 y1 y2) (spec_PatchOf.j0 (k + 1) y0 y1 y2))
 | 0 => fun _ _ _ r h => by simp [spec_PatchOf.j0] at h
 | k + 1 => by
  have ih0 := spec_PatchOf.mono_l k
  ·intro y0 y1 y2
   unfold spec_PatchOf.j0
   repeat' first|(with_reducible first|exact ih0 _ _ _|exact spec_CommonOf.mono _ _ _|exact spec_l12Patch.mono _ _ _ _|exact LeO.refl _|exact LeO.none _|refine LeO.ite ?_ ?_|refine LeO.bind ?_ (fun _ => ?_))|exact LeO.none _|refine LeO.ite ?_ ?_|refine LeO.bind ?_ (fun _ => ?_)
theorem spec_PatchOf.mono : ∀ a0 a1 k, LeO (spec_PatchOf.f k a0 a1) (spec_PatchOf.f (k + 1) a0 a1) := by
 intro a0 a1 k
 have ih0 := spec_PatchOf.mono_l k
 unfold spec_PatchOf.f
 repeat' first|(with_reducible first|exact ih0 _ _ _|exact spec_CommonOf.mono _ _ _|exact spec_l12Patch.mono _ _ _ _|exact LeO.refl _|exact LeO.none _|refine LeO.ite ?_ ?_|refine LeO.bind ?_ (fun _ => ?_))|exact LeO.none _|refine LeO.ite ?_ ?_|refine LeO.bind ?_ (fun _ => ?_)
set_option maxHeartbeats 8000000 in
set_option maxRecDepth 100000 in
theorem spec_PatchOf.calls (k : Nat) (A0 : Option Addr) (c0 : Nat) (l0 : List Int) (A1 : Option Addr) (c1 : Nat) (l1 : List Int) (r1 : Int) (r2 : List Int) (r3 : Int) (r4 : List Int) (r5 : List Int) (r6 : Bool) (w : World) (hr0 : Kd.C (Kd.int .i64) w A0 l0.length l0) (hc0 : l0.length ≤ c0) (hr1 : Kd.C (Kd.int .i64) w A1 l1.length l1) (hc1 : l1.length ≤ c1) (h : spec_PatchOf.f k l0 l1 = some (r1, r2, r3, r4, r5, r6)) :
  Calls Try.prog 6 #[.slice A0 l0.length c0, .slice A1 l1.length c1] w fun e w' => ∃ v1_ v3_ v4_ : Value, e = .returned (.tuple #[.agg #[.int .i64 r1, v1_, .int .i64 r3, v3_, v4_], .bool r6]) ∧ Kd.R (Kd.int .u64) 77 w' w.heap.size (fun k_ => some k_ ≠ (v3_ : Value).ownBlock) v1_ r2 ∧ Kd.R (Kd.int .u64) 77 w' w.heap.size (fun k_ => some k_ ≠ (v1_ : Value).ownBlock) v3_ r4 ∧ Kd.R (Kd.int .i64) 3 w' w.heap.size (fun _ => True) v4_ r5 ∧ Below w.heap.size w w' := by
 have hu27:=Try.underlying27
 have HR0:=mk0 hr0
 have HC0:=mk0 hc0
 clear hr0 hc0
 have HR1:=mk0 hr1
 have HC1:=mk0 hc1
 clear hr1 hc1
 have HB:=mk0 (Below.refl w.heap.size w)
 have H:((spec_l12Right.f l0).bind fun t184=>(if t184 = true then ((spec_l12Right.f l1).bind fun t185=>(spec_PatchOf.j0 k l0 l1 (!t185))) else (spec_PatchOf.j0 k l0 l1 true))) = some (r1,r2,r3,r4,r5,r6):=h
 clear h
 have HC3:=mk0 H
 clear H
 go_enter Try.func6,Try.ntmps6
 go_upto_region 1 with (first|((with_reducible refine gate_dst (N:=4) rfl ?_);refine box_event ?hg (N:=4) ?hd (cs:=#[.int .i64 0,.slice none 0 0,.int .i64 0,.slice none 0 0,.slice none 0 0]) (t:=27) ?hr ?_;(case hd=>rfl);(case hg=>rfl);(case hr=>first|(go_simp;done)|(go_simp;rfl));intro gb183 hg w4 hbox hb;have n0_:=mk0 (below_step (by repeat (first|(with_reducible first|exact HB.out|apply aZ|apply nZ|apply dZ)|exact HB.out)) hb);have n1_:=mk0 (hbox);have n2_:=mk0 ((by rw [hg];exact (below_size (by repeat (first|(with_reducible first|exact HB.out|apply aZ|apply nZ|apply dZ)|exact HB.out))):w.heap.size ≤ gb183));have n3_:=mk0 ((by rw [hg];exact (below_size (by repeat (first|(with_reducible first|exact HB.out|apply aZ|apply nZ|apply dZ)|exact HB.out))):w.heap.size ≤ gb183));clear HB;have HB:=n0_;have BK183:=n1_;have GW183:=n2_;have GE183:=n3_;clear n0_ n1_ n2_ n3_ hb hbox hg))
 (try simp only [Act.put,sA,sO,sS])
 go_cut [13] (fun v13 wc=>∃ (kq:Nat) (x13_2:Bool),v13 = .bool x13_2 ∧ Aside0 (spec_PatchOf.j0 kq l0 l1 x13_2 = some (r1,r2,r3,r4,r5,r6)) ∧ Aside0 (kq ≤ k) ∧ Aside0 (wc.heap[gb183]? = some (.cells #[.int .i64 0,(.slice none 0 0),.int .i64 0,(.slice none 0 0),(.slice none 0 0)] 27 (0,0))) ∧ Aside0 (Below w.heap.size w wc))
 case first =>
  have H:=HC3.out
  clear HC3
  replace H:=Option.bind_eq_some_iff.mp H
  obtain⟨t184,A50,H⟩:=H
  replace H:(if t184 = true then ((spec_l12Right.f l1).bind fun t185=>(spec_PatchOf.j0 k l0 l1 (!t185))) else (spec_PatchOf.j0 k l0 l1 true)) = some (r1,r2,r3,r4,r5,r6):=H
  have A5:=mk0 A50
  clear A50
  by_cases c6:t184 = true
  rotate_left
  ·replace c6:=Bool.eq_false_iff.mpr c6
   subst c6
   have H1:(spec_PatchOf.j0 k l0 l1 true) = some (r1,r2,r3,r4,r5,r6):=by rw [if_neg (show ¬ (false = true) by decide)] at H;exact H
   clear H
   have H:=H1
   clear H1
   have H':=mk0 H
   clear H
   go_wp2_with (first|((with_reducible refine gate_callee (f:=23) rfl ?_);refine goesL_ (some 7) rfl rfl Try.func23 (by kernel_rfl) rfl #[.slice A0 l0.length c0] rfl (by (try simp only [mA,mC,mN]);first|done|rfl|(simp only [List.length_drop,List.length_take];rfl)) ?_;(with_reducible refine (spec_l12Right.calls _ _ l0 false _ ?side1 ?side2 A5.out).mono ?_);(case side1=>repeat (first|exact (Kd.C_below HR0.out HB.out)|(with_reducible first|apply aC|apply nC|apply dC)));(case side2=>exact HC0.out);rintro e w' ⟨rfl,⟨nd,rfl⟩⟩;refine⟨_,rfl,?_⟩))
   go_meet
   case rel=>exact⟨_,(true),(by first|rfl|(simp;done)|(simp [*];done)),H',⟨by first|omega|exact Nat.le_refl _⟩,⟨by (with_reducible repeat (first|apply nB|apply dB|apply aB));exact BK183.out⟩,⟨by repeat (first|(with_reducible first|exact HB.out|apply aZ|apply nZ|apply dZ|refine sZ ?_ GE183.out)|exact HB.out)⟩⟩
  subst c6
  have H1:((spec_l12Right.f l1).bind fun t185=>(spec_PatchOf.j0 k l0 l1 (!t185))) = some (r1,r2,r3,r4,r5,r6):=by rw [if_pos rfl] at H;exact H
  clear H
  have H:=H1
  clear H1
  replace H:=Option.bind_eq_some_iff.mp H
  obtain⟨t185,A70,H⟩:=H
  replace H:(spec_PatchOf.j0 k l0 l1 (!t185)) = some (r1,r2,r3,r4,r5,r6):=H
  have A7:=mk0 A70
  clear A70
  have H':=mk0 H
  clear H
  go_wp2_with (first|((with_reducible refine gate_callee (f:=23) rfl ?_);refine goesL_ (some 7) rfl rfl Try.func23 (by kernel_rfl) rfl #[.slice A0 l0.length c0] rfl (by (try simp only [mA,mC,mN]);first|done|rfl|(simp only [List.length_drop,List.length_take];rfl)) ?_;(with_reducible refine (spec_l12Right.calls _ _ l0 true _ ?side1 ?side2 A5.out).mono ?_);(case side1=>repeat (first|exact (Kd.C_below HR0.out HB.out)|(with_reducible first|apply aC|apply nC|apply dC)));(case side2=>exact HC0.out);rintro e w' ⟨rfl,⟨nd,rfl⟩⟩;refine⟨_,rfl,?_⟩)|(go_at_call 23;(with_reducible refine (spec_l12Right.calls _ _ l1 t185 _ ?side1 ?side2 A7.out).mono ?_);(case side1=>repeat (first|exact (Kd.C_below HR1.out (by repeat (first|(with_reducible first|exact HB.out|apply aZ|apply nZ|apply dZ|refine sZ ?_ GE183.out)|exact HB.out)))|(with_reducible first|apply aC|apply nC|apply dC)));(case side2=>exact HC1.out);rintro e w' ⟨rfl,⟨nd,rfl⟩⟩))
  go_meet
  case rel=>exact⟨_,(!t185),(by first|rfl|(simp;done)|(simp [*];done)),H',⟨by first|omega|exact Nat.le_refl _⟩,⟨by (with_reducible repeat (first|apply nB|apply dB|apply aB));exact BK183.out⟩,⟨by repeat (first|(with_reducible first|exact HB.out|apply aZ|apply nZ|apply dZ|refine sZ ?_ GE183.out)|exact HB.out)⟩⟩
 case rest =>
  clear HC3
  try clear c1
  try clear c2
  try clear p2
  try clear c6
  obtain⟨kq,x13_2,rfl,HA,HJ2,BK183,HB⟩:=hcut
  cases kq with
  | zero=>exact absurd HA.out (by simp [spec_PatchOf.j0])
  | succ kj2 =>
   have H:=HA.out
   clear HA
   simp only [spec_PatchOf.j0] at H
   by_cases c8:x13_2 = true
   ·subst c8
    have H1:(some (0,([]:List Int),0,([]:List Int),([]:List Int),false)) = some (r1,r2,r3,r4,r5,r6):=by rw [if_pos rfl] at H;exact H
    clear H
    have H:=H1
    clear H1
    simp only [Option.some.injEq,Prod.mk.injEq] at H
    obtain⟨rfl,rfl,rfl,rfl,rfl,rfl⟩:=H
    have hcz9_0:wc.cell? ⟨gb183,0,none⟩ = some (.int .i64 0):=(blk_cell BK183.out 0).trans rfl
    have hcz9_1:wc.cell? ⟨gb183,1,none⟩ = some (.slice none 0 0):=(blk_cell BK183.out 1).trans rfl
    have hcz9_2:wc.cell? ⟨gb183,2,none⟩ = some (.int .i64 0):=(blk_cell BK183.out 2).trans rfl
    have hcz9_3:wc.cell? ⟨gb183,3,none⟩ = some (.slice none 0 0):=(blk_cell BK183.out 3).trans rfl
    have hcz9_4:wc.cell? ⟨gb183,4,none⟩ = some (.slice none 0 0):=(blk_cell BK183.out 4).trans rfl
    have hfz9_0:=blk_frozen BK183.out 0
    have hfz9_1:=blk_frozen BK183.out 1
    have hfz9_2:=blk_frozen BK183.out 2
    have hfz9_3:=blk_frozen BK183.out 3
    have hfz9_4:=blk_frozen BK183.out 4
    go_wp2
    refine bodyPost_ret (results_ct rfl _ _ gb183 27 #[.int .i64 0,.slice none 0 0,.int .i64 0,.slice none 0 0,.slice none 0 0] (0,0) _ rfl (by (with_reducible repeat (first|apply nB|apply dB|apply aB));refine blk_put (cs:=#[.int .i64 0,.slice none 0 0,.int .i64 0,.slice none 0 0,.slice none 0 0]) ?_ 4 _ rfl;(with_reducible repeat (first|apply nB|apply dB|apply aB));refine blk_put (cs:=#[.int .i64 0,.slice none 0 0,.int .i64 0,.slice none 0 0,.slice none 0 0]) ?_ 3 _ rfl;(with_reducible repeat (first|apply nB|apply dB|apply aB));refine blk_put (cs:=#[.int .i64 0,.slice none 0 0,.int .i64 0,.slice none 0 0,.slice none 0 0]) ?_ 2 _ rfl;(with_reducible repeat (first|apply nB|apply dB|apply aB));refine blk_put (cs:=#[.int .i64 0,.slice none 0 0,.int .i64 0,.slice none 0 0,.slice none 0 0]) ?_ 1 _ rfl;(with_reducible repeat (first|apply nB|apply dB|apply aB));refine blk_put (cs:=#[.int .i64 0,.slice none 0 0,.int .i64 0,.slice none 0 0,.slice none 0 0]) ?_ 0 _ rfl;(with_reducible repeat (first|apply nB|apply dB|apply aB));exact BK183.out) Try.underlying27 rfl (by kernel_rfl)) rfl ?_
    exact⟨_,_,_,by first|rfl|(simp [errW_none,errW_some] <;> rfl)|(simp [*,errW_none,errW_some] <;> rfl),by first|exact Kd.R_nil _ _ _ _ _|exact Kd.N_nil _ _ _ _ _|exact Kd.V_nil _ _ _ _ _|exact Kd.Q_nil _ _ _ _ _|exact Kd.S_nil _ _ _ _ _,by first|exact Kd.R_nil _ _ _ _ _|exact Kd.N_nil _ _ _ _ _|exact Kd.V_nil _ _ _ _ _|exact Kd.Q_nil _ _ _ _ _|exact Kd.S_nil _ _ _ _ _,by first|exact Kd.R_nil _ _ _ _ _|exact Kd.N_nil _ _ _ _ _|exact Kd.V_nil _ _ _ _ _|exact Kd.Q_nil _ _ _ _ _|exact Kd.S_nil _ _ _ _ _,by repeat (first|(with_reducible first|exact HB.out|apply aZ|apply nZ|apply dZ|refine sZ ?_ GE183.out)|exact HB.out)⟩
   replace c8:=Bool.eq_false_iff.mpr c8
   subst c8
   have H1:((spec_CommonOf.f kj2 l0 l1).bind fun t186=>((spec_l12Patch.f kj2 (l0.length:Int) l1 t186).bind fun bt189=>(some (bt189.1,bt189.2.1,bt189.2.2.1,bt189.2.2.2.1,bt189.2.2.2.2,true)))) = some (r1,r2,r3,r4,r5,r6):=by rw [if_neg (show ¬ (false = true) by decide)] at H;exact H
   clear H
   have H:=H1
   clear H1
   replace H:=Option.bind_eq_some_iff.mp H
   obtain⟨t186,A100,H⟩:=H
   replace H:((spec_l12Patch.f kj2 (l0.length:Int) l1 t186).bind fun bt189=>(some (bt189.1,bt189.2.1,bt189.2.2.1,bt189.2.2.2.1,bt189.2.2.2.2,true))) = some (r1,r2,r3,r4,r5,r6):=H
   have A10:=mk0 A100
   clear A100
   replace H:=Option.bind_eq_some_iff.mp H
   obtain⟨⟨t189,t190,t193,t194,t197⟩,A110,H⟩:=H
   replace H:(some (t189,t190,t193,t194,t197,true)) = some (r1,r2,r3,r4,r5,r6):=H
   have A11:=mk0 A110
   clear A110
   simp only [Option.some.injEq,Prod.mk.injEq] at H
   obtain⟨rfl,rfl,rfl,rfl,rfl,rfl⟩:=H
   go_wp2_with (first|((with_reducible refine gate_callee (f:=25) rfl ?_);refine goesL_ (some 20) rfl rfl Try.func25 (by kernel_rfl) rfl #[.slice A0 l0.length c0,.slice A1 l1.length c1] rfl (by (try simp only [mA,mC,mN]);first|done|rfl|(simp only [List.length_drop,List.length_take];rfl)) ?_;(with_reducible refine (spec_CommonOf.calls kj2 _ _ l0 _ _ l1 t186 _ ?side1 ?side2 ?side3 ?side4 A10.out).mono ?_);(case side1=>repeat (first|exact (Kd.C_below HR0.out HB.out)|(with_reducible first|apply aC|apply nC|apply dC)));(case side2=>exact HC0.out);(case side3=>repeat (first|exact (Kd.C_below HR1.out HB.out)|(with_reducible first|apply aC|apply nC|apply dC)));(case side4=>exact HC1.out);rintro e w12 ⟨v187,rfl,ho0,hb⟩;refine⟨_,rfl,?_⟩;have n0_:=mk0 (Kd.R_lower ho0 (below_size (by repeat (first|(with_reducible first|exact HB.out|apply aZ|apply nZ|apply dZ|refine sZ ?_ GE183.out)|exact HB.out))));have n1_:=mk0 (blk_below (g:=gb183) (o:=.cells #[.int .i64 0,.slice none 0 0,.int .i64 0,.slice none 0 0,.slice none 0 0] 27 (0,0)) (by (with_reducible repeat (first|apply nB|apply dB|apply aB));exact BK183.out) hb);have n2_:=mk0 (below_step (by repeat (first|(with_reducible first|exact HB.out|apply aZ|apply nZ|apply dZ|refine sZ ?_ GE183.out)|exact HB.out)) hb);clear BK183 HB;have HO188:=n0_;have BK183:=n1_;have HB:=n2_;clear n0_ n1_ n2_;(try clear hb);(try clear hb2);(try clear hk);(try clear hi);(try clear ho0);obtain⟨Ao13,co13,eo13⟩:=Kd.R_slice HO188.out;subst eo13)|((with_reducible refine gate_callee (f:=24) rfl ?_);refine goesL_ (some 21) rfl rfl Try.func24 (by kernel_rfl) rfl #[.int .i64 (l0.length:Int),.slice A1 l1.length c1,.slice Ao13 t186.length co13] rfl (by (try simp only [mA,mC,mN]);first|done|rfl|(simp only [List.length_drop,List.length_take];rfl)) ?_;(with_reducible refine (spec_l12Patch.calls kj2 (l0.length:Int) _ _ l1 _ _ t186 t189 t190 t193 t194 t197 _ ?side1 ?side2 ?side3 ?side4 A11.out).mono ?_);(case side1=>repeat (first|exact (Kd.C_below HR1.out HB.out)|(with_reducible first|apply aC|apply nC|apply dC)));(case side2=>exact HC1.out);(case side3=>repeat (first|exact (Kd.R_reads' HO188.out).2.2|(with_reducible first|apply aC|apply nC|apply dC)));(case side4=>exact (Kd.R_reads' HO188.out).2.1);rintro e w14 ⟨v191,v195,v198,rfl,ho0,ho1,ho2,hb⟩;refine⟨_,rfl,?_⟩;have n0_:=mk0 (Kd.R_below (by (with_reducible repeat (first|apply aR|apply nR|apply dR));exact HO188.out) hb);have n1_:=mk0 (Kd.R_lower ho0 (below_size (by repeat (first|(with_reducible first|exact HB.out|apply aZ|apply nZ|apply dZ|refine sZ ?_ GE183.out)|exact HB.out))));have n2_:=mk0 (Kd.R_lower ho1 (below_size (by repeat (first|(with_reducible first|exact HB.out|apply aZ|apply nZ|apply dZ|refine sZ ?_ GE183.out)|exact HB.out))));have n3_:=mk0 (Kd.R_lower ho2 (below_size (by repeat (first|(with_reducible first|exact HB.out|apply aZ|apply nZ|apply dZ|refine sZ ?_ GE183.out)|exact HB.out))));have n4_:=mk0 (blk_below (g:=gb183) (o:=.cells #[.int .i64 0,.slice none 0 0,.int .i64 0,.slice none 0 0,.slice none 0 0] 27 (0,0)) (by (with_reducible repeat (first|apply nB|apply dB|apply aB));exact BK183.out) hb);have n5_:=mk0 (below_step (by repeat (first|(with_reducible first|exact HB.out|apply aZ|apply nZ|apply dZ|refine sZ ?_ GE183.out)|exact HB.out)) hb);clear HO188 BK183 HB;have HO188:=n0_;have HO192:=n1_;have HO196:=n2_;have HO199:=n3_;have BK183:=n4_;have HB:=n5_;clear n0_ n1_ n2_ n3_ n4_ n5_;(try clear hb);(try clear hb2);(try clear hk);(try clear hi);(try clear ho0);(try clear ho1);(try clear ho2);have hcz15_0:w14.cell? ⟨gb183,0,none⟩ = some (.int .i64 0):=(blk_cell BK183.out 0).trans rfl;have hcz15_1:w14.cell? ⟨gb183,1,none⟩ = some (.slice none 0 0):=(blk_cell BK183.out 1).trans rfl;have hcz15_2:w14.cell? ⟨gb183,2,none⟩ = some (.int .i64 0):=(blk_cell BK183.out 2).trans rfl;have hcz15_3:w14.cell? ⟨gb183,3,none⟩ = some (.slice none 0 0):=(blk_cell BK183.out 3).trans rfl;have hcz15_4:w14.cell? ⟨gb183,4,none⟩ = some (.slice none 0 0):=(blk_cell BK183.out 4).trans rfl;have hfz15_0:=blk_frozen BK183.out 0;have hfz15_1:=blk_frozen BK183.out 1;have hfz15_2:=blk_frozen BK183.out 2;have hfz15_3:=blk_frozen BK183.out 3;have hfz15_4:=blk_frozen BK183.out 4;obtain⟨Ao16,co16,eo16⟩:=Kd.R_slice HO192.out;subst eo16;obtain⟨Ao17,co17,eo17⟩:=Kd.R_slice HO196.out;subst eo17;obtain⟨Ao18,co18,eo18⟩:=Kd.R_slice HO199.out;subst eo18))
   refine bodyPost_ret (results_ct rfl _ _ gb183 27 #[.int .i64 t189,.slice Ao16 t190.length co16,.int .i64 t193,.slice Ao17 t194.length co17,.slice Ao18 t197.length co18] (0,0) _ rfl (by (with_reducible repeat (first|apply nB|apply dB|apply aB));refine blk_put (cs:=#[.int .i64 t189,.slice Ao16 t190.length co16,.int .i64 t193,.slice Ao17 t194.length co17,.slice none 0 0]) ?_ 4 _ rfl;(with_reducible repeat (first|apply nB|apply dB|apply aB));refine blk_put (cs:=#[.int .i64 t189,.slice Ao16 t190.length co16,.int .i64 t193,.slice none 0 0,.slice none 0 0]) ?_ 3 _ rfl;(with_reducible repeat (first|apply nB|apply dB|apply aB));refine blk_put (cs:=#[.int .i64 t189,.slice Ao16 t190.length co16,.int .i64 0,.slice none 0 0,.slice none 0 0]) ?_ 2 _ rfl;(with_reducible repeat (first|apply nB|apply dB|apply aB));refine blk_put (cs:=#[.int .i64 t189,.slice none 0 0,.int .i64 0,.slice none 0 0,.slice none 0 0]) ?_ 1 _ rfl;(with_reducible repeat (first|apply nB|apply dB|apply aB));refine blk_put (cs:=#[.int .i64 0,.slice none 0 0,.int .i64 0,.slice none 0 0,.slice none 0 0]) ?_ 0 _ rfl;(with_reducible repeat (first|apply nB|apply dB|apply aB));exact BK183.out) Try.underlying27 rfl (by kernel_rfl)) rfl ?_
   exact⟨_,_,_,by first|rfl|(simp [errW_none,errW_some] <;> rfl)|(simp [*,errW_none,errW_some] <;> rfl),by (with_reducible repeat (first|apply aR|apply nR|apply dR));exact Kd.R_mono (Kd.R_far (p:=⟨gb183,4,none⟩) (Kd.R_far (p:=⟨gb183,3,none⟩) (Kd.R_far (p:=⟨gb183,2,none⟩) (Kd.R_far (p:=⟨gb183,1,none⟩) (Kd.R_far (p:=⟨gb183,0,none⟩) (Kd.R_types HO192.out BK183.out (by decide)) (by first|exact fun _ hk=>hk.2|(intro k_ hk;simp only [hk,ne_eq,and_self,not_false_eq_true])) (.int .i64 t189)) (by first|exact fun _ hk=>hk.2|(intro k_ hk;simp only [hk,ne_eq,and_self,not_false_eq_true])) (.slice Ao16 t190.length co16)) (by first|exact fun _ hk=>hk.2|(intro k_ hk;simp only [hk,ne_eq,and_self,not_false_eq_true])) (.int .i64 t193)) (by first|exact fun _ hk=>hk.2|(intro k_ hk;simp only [hk,ne_eq,and_self,not_false_eq_true])) (.slice Ao17 t194.length co17)) (by first|exact fun _ hk=>hk.2|(intro k_ hk;simp only [hk,ne_eq,and_self,not_false_eq_true])) (.slice Ao18 t197.length co18)) (by first|exact fun _ hk=>hk.1|(intro k_ hk;simp only [hk,ne_eq,and_self,not_false_eq_true])),by (with_reducible repeat (first|apply aR|apply nR|apply dR));exact Kd.R_mono (Kd.R_far (p:=⟨gb183,4,none⟩) (Kd.R_far (p:=⟨gb183,3,none⟩) (Kd.R_far (p:=⟨gb183,2,none⟩) (Kd.R_far (p:=⟨gb183,1,none⟩) (Kd.R_far (p:=⟨gb183,0,none⟩) (Kd.R_types HO196.out BK183.out (by decide)) (by first|exact fun _ hk=>hk.2|(intro k_ hk;simp only [hk,ne_eq,and_self,not_false_eq_true])) (.int .i64 t189)) (by first|exact fun _ hk=>hk.2|(intro k_ hk;simp only [hk,ne_eq,and_self,not_false_eq_true])) (.slice Ao16 t190.length co16)) (by first|exact fun _ hk=>hk.2|(intro k_ hk;simp only [hk,ne_eq,and_self,not_false_eq_true])) (.int .i64 t193)) (by first|exact fun _ hk=>hk.2|(intro k_ hk;simp only [hk,ne_eq,and_self,not_false_eq_true])) (.slice Ao17 t194.length co17)) (by first|exact fun _ hk=>hk.2|(intro k_ hk;simp only [hk,ne_eq,and_self,not_false_eq_true])) (.slice Ao18 t197.length co18)) (by first|exact fun _ hk=>hk.1|(intro k_ hk;simp only [hk,ne_eq,and_self,not_false_eq_true])),by (with_reducible repeat (first|apply aR|apply nR|apply dR));exact Kd.R_mono (Kd.R_far (p:=⟨gb183,4,none⟩) (Kd.R_far (p:=⟨gb183,3,none⟩) (Kd.R_far (p:=⟨gb183,2,none⟩) (Kd.R_far (p:=⟨gb183,1,none⟩) (Kd.R_far (p:=⟨gb183,0,none⟩) (Kd.R_types HO199.out BK183.out (by decide)) (by first|exact fun _ hk=>hk.2|(intro k_ hk;simp only [hk,ne_eq,and_self,not_false_eq_true])) (.int .i64 t189)) (by first|exact fun _ hk=>hk.2|(intro k_ hk;simp only [hk,ne_eq,and_self,not_false_eq_true])) (.slice Ao16 t190.length co16)) (by first|exact fun _ hk=>hk.2|(intro k_ hk;simp only [hk,ne_eq,and_self,not_false_eq_true])) (.int .i64 t193)) (by first|exact fun _ hk=>hk.2|(intro k_ hk;simp only [hk,ne_eq,and_self,not_false_eq_true])) (.slice Ao17 t194.length co17)) (by first|exact fun _ hk=>hk.2|(intro k_ hk;simp only [hk,ne_eq,and_self,not_false_eq_true])) (.slice Ao18 t197.length co18)) (fun _ hk=>trivial),by repeat (first|(with_reducible first|exact HB.out|apply aZ|apply nZ|apply dZ|refine sZ ?_ GE183.out)|exact HB.out)⟩

/-! ### impl_areListed: function 26 -/
def impl_areListed.f (l0 : List Int) (l1 : List Int) : Option (Bool) := if (l0.length : Int) ≤ 301 then (some (decide ((l1.length : Int) ≤ 301))) else (some false)
set_option maxHeartbeats 8000000 in
set_option maxRecDepth 100000 in
theorem impl_areListed.calls (A0 : Option Addr) (c0 : Nat) (l0 : List Int) (A1 : Option Addr) (c1 : Nat) (l1 : List Int) (r : Bool) (w : World) (hr0 : Kd.C (Kd.int .i64) w A0 l0.length l0) (hc0 : l0.length ≤ c0) (hr1 : Kd.C (Kd.int .i64) w A1 l1.length l1) (hc1 : l1.length ≤ c1) (h : impl_areListed.f l0 l1 = some r) :
  Calls Try.prog 26 #[.slice A0 l0.length c0, .slice A1 l1.length c1] w fun e w' => e = .returned (.bool r) ∧ Drawn0 w w' := by
 have HR0:=mk0 hr0
 have HC0:=mk0 hc0
 clear hr0 hc0
 have HR1:=mk0 hr1
 have HC1:=mk0 hc1
 clear hr1 hc1
 have H:(if (l0.length:Int) ≤ 301 then (some (decide ((l1.length:Int) ≤ 301))) else (some false)) = some r:=h
 clear h
 by_cases c3:(l0.length:Int) ≤ 301
 ·rw [if_pos c3] at H
  have c3b0:decide ((l0.length:Int) ≤ 301) = true:=decide_eq_true c3
  have c3b1:decide (l0.length ≤ 301) = true:=decide_eq_true (by omega)
  clear c3
  obtain rfl:=Option.some.inj H
  go_enter Try.func26,Try.ntmps26
  go_wp2
  go_ret
  exact⟨by first|rfl|(simp;done)|(simp [*];done),by repeat (first|exact Drawn0.refl _|apply Drawn0.step)⟩
 ·rw [if_neg c3] at H
  have c3b0:decide ((l0.length:Int) ≤ 301) = false:=decide_eq_false c3
  have c3b1:decide (l0.length ≤ 301) = false:=decide_eq_false (by omega)
  clear c3
  obtain rfl:=Option.some.inj H
  go_enter Try.func26,Try.ntmps26
  go_wp2
  go_ret
  exact⟨by first|rfl|(simp;done)|(simp [*];done),by repeat (first|exact Drawn0.refl _|apply Drawn0.step)⟩

end Go.Proofs.Ytdiemmcnekbfaaa.QFnPatchBack
