-- A walk, made by walk.py, a program of this session's.
import Derived.Test.YtadhngelhognaaaQFnSharex0
import Derived.Test.YtadhngelhognaaaQFnSharex4
import Derived.Test.YtadhngelhognaaaQFnSharex5
namespace Go.Proofs.Ytadhngelhognaaa.QFnShare
open Go.RowKit Go.Proofs.YtadhngelhognaaaW.PrintWords Go.Proofs.YtadhngelhognaaaW.PrintLast Go.Proofs.YtadhngelhognaaaW.PrintMore
attribute [local go_sem] max2_int min2_int max_two min_two max_three min_three max_four min_four   -- for this text's walks alone
set_option linter.unusedVariables false
set_option linter.unusedSimpArgs false
/-! ### spec_CommonLen: function 36 -/
def spec_CommonLen.f (k : Nat) (l0 : List Int) (l1 : List Int) : Option (Int) := (spec_l12Right.f l0).bind fun t269 => (if t269 = true then ((spec_l12Right.f l1).bind fun t270 => (if t270 = true then ((spec_l12Table.f k l0 l1).bind fun t271 => (if 0 < (t271.length : Int) then (if 0 < ((rd_L4 t271 0).length : Int) then (some (rd (rd_L4 t271 0) 0)) else (none)) else (none))) else (some (-1)))) else (some (-1)))
set_option maxHeartbeats 8000000 in
set_option maxRecDepth 100000 in
theorem spec_CommonLen.calls (k : Nat) (A0 : Option Addr) (c0 : Nat) (l0 : List Int) (A1 : Option Addr) (c1 : Nat) (l1 : List Int) (r : Int) (w : World) (hr0 : Kd.C (Kd.int .i64) w A0 l0.length l0) (hc0 : l0.length ≤ c0) (hr1 : Kd.C (Kd.int .i64) w A1 l1.length l1) (hc1 : l1.length ≤ c1) (h : spec_CommonLen.f k l0 l1 = some r) :
  Calls Try.prog 36 #[.slice A0 l0.length c0, .slice A1 l1.length c1] w fun e w' => e = .returned (.int .i64 r) ∧ Below w.heap.size w w' := by
 have HR0:=mk0 hr0
 have HC0:=mk0 hc0
 clear hr0 hc0
 have HR1:=mk0 hr1
 have HC1:=mk0 hc1
 clear hr1 hc1
 have HB:=mk0 (Below.refl w.heap.size w)
 have H:((spec_l12Right.f l0).bind fun t269=>(if t269 = true then ((spec_l12Right.f l1).bind fun t270=>(if t270 = true then ((spec_l12Table.f k l0 l1).bind fun t271=>(if 0 < (t271.length:Int) then (if 0 < ((rd_L4 t271 0).length:Int) then (some (rd (rd_L4 t271 0) 0)) else (none)) else (none))) else (some (-1)))) else (some (-1)))) = some r:=h
 clear h
 replace H:=bE H
 obtain⟨t269,A3,H⟩:=H
 by_cases c4:t269 = true
 ·subst c4
  replace H:=iT H
  replace H:=bE H
  obtain⟨t270,A5,H⟩:=H
  by_cases c6:t270 = true
  ·subst c6
   replace H:=iT H
   replace H:=bE H
   obtain⟨t271,A7,H⟩:=H
   by_cases c8:0 < (t271.length:Int)
   ·rw [if_pos c8] at H
    have c8b0:decide (0 < (t271.length:Int)) = true:=decide_eq_true c8
    (try simp only [hl274_0] at c8b0)
    have c8b1:decide (0 < t271.length) = true:=decide_eq_true (by omega)
    (try simp only [hl274_0] at c8b1)
    clear c8
    by_cases c9:0 < ((rd_L4 t271 0).length:Int)
    ·rw [if_pos c9] at H
     have c9b0:decide (0 < ((rd_L4 t271 0).length:Int)) = true:=decide_eq_true c9
     (try simp only [hl274_0] at c9b0)
     have c9b1:decide (0 < (rd_L4 t271 0).length) = true:=decide_eq_true (by omega)
     (try simp only [hl274_0] at c9b1)
     clear c9
     obtain rfl:=Option.some.inj H
     go_enter Try.func36,Try.ntmps36
     go_wp2_with (first|((with_reducible refine gate_callee (f:=58) rfl ?_);refine gL (some 6) Try.func58 #[.slice A0 l0.length c0] ?_;(with_reducible refine (spec_l12Right.calls _ _ l0 true _ ?side1 ?side2 A3.out).mono ?_);(case side1=>exact kC HR0.out);(case side2=>exact HC0.out);rintro e w' ⟨rfl,⟨nd,rfl⟩⟩;refine⟨_,rfl,?_⟩)|(go_at_call 58;(with_reducible refine (spec_l12Right.calls _ _ l1 true _ ?side1 ?side2 A5.out).mono ?_);(case side1=>exact kC HR1.out);(case side2=>exact HC1.out);rintro e w' ⟨rfl,⟨nd,rfl⟩⟩)|((with_reducible refine gate_callee (f:=59) rfl ?_);refine gL (some 15) Try.func59 #[.slice A0 l0.length c0,.slice A1 l1.length c1] ?_;(with_reducible refine (spec_l12Table.calls k _ _ l0 _ _ l1 t271 _ ?side1 ?side2 ?side3 ?side4 A7.out).mono ?_);(case side1=>exact kC HR0.out);(case side2=>exact HC0.out);(case side3=>exact kC HR1.out);(case side4=>exact HC1.out);rintro e w10 ⟨v272,rfl,ho0,hb⟩;refine⟨_,rfl,?_⟩;have HO273:=mk0 (Kd.S_lower ho0 (kZ HB.out));replace HB:=mk0 (kS HB.out hb);(try clear hb);(try clear ho0);obtain⟨Ao11,co11,eo11⟩:=Kd.S_slice HO273.out;subst eo11;have p274:0 ≤ (0:Int):=(by omega);have q274:0 < (t271.length:Int):=oD;obtain⟨ad274,A274_0,c274_0,e274,hx274_0,hl274_0,hi274_0⟩:=at_L4 (Kd.S_reads' HO273.out).2.2 0 p274 q274;cases e274;obtain⟨ce274,hce274,hMe274,hcc274⟩:=Kd.S_get HO273.out [] 0 p274 (by first|exact q274|exact oD|(have e_:=(Kd.S_reads' HO273.out).1;omega));obtain⟨ve274_0,rfl,ge274_0⟩:=hMe274;have hv274_0:=hcc274 0 _ rfl;rw [Nat.add_zero,show ((Kd.slice 3 (Kd.int .i64))).sz = 1 from rfl,Nat.mul_one] at hv274_0;replace hv274_0:=Option.some.inj (hv274_0.symm.trans hx274_0);rw [hv274_0] at ge274_0;have HL274_0:=mk0 (show Kd.R (Kd.int .i64) 3 _ _ _ _ (rd_L4 t271 0) from ge274_0);clear hv274_0 ge274_0 hcc274 hce274;have qi274:(0 < t271.length) = True:=eq_true (by omega);(try rw [show ((0:Int)).toNat = 0 from rfl] at hx274_0);(try rw [Addr.add_zero'] at hx274_0);have HR274_0:=mk0 hi274_0;have HC274_0:=mk0 hl274_0;clear hi274_0 hl274_0;replace p274:=eq_true p274;replace q274:=eq_true q274;have p275:0 ≤ (0:Int):=(by omega);have q275:0 < ((rd_L4 t271 0).length:Int):=oD;obtain⟨ad275,e275,hx275_0⟩:=Kd.at_int (by repeat (first|(with_reducible exact HR274_0.out)|(with_reducible first|apply aC|apply nC|apply dC)|exact HR274_0.out|exact (Kd.V_reads' HL274_0.out).2.2)) 0 p275 q275;cases e275;have qi275:(0 < (rd_L4 t271 0).length) = True:=eq_true (by omega);(try rw [show ((0:Int)).toNat = 0 from rfl] at hx275_0);(try rw [Addr.add_zero'] at hx275_0);replace p275:=eq_true p275;replace q275:=eq_true q275))
     go_ret
     exact⟨eR,kB HB.out⟩
    ·rw [if_neg c9] at H
     exact nn H
   ·rw [if_neg c8] at H
    exact nn H
  ·replace c6:=Bool.eq_false_iff.mpr c6
   subst c6
   replace H:=iF H
   obtain rfl:=Option.some.inj H
   go_enter Try.func36,Try.ntmps36
   go_wp2_with (first|((with_reducible refine gate_callee (f:=58) rfl ?_);refine gL (some 6) Try.func58 #[.slice A0 l0.length c0] ?_;(with_reducible refine (spec_l12Right.calls _ _ l0 true _ ?side1 ?side2 A3.out).mono ?_);(case side1=>exact kC HR0.out);(case side2=>exact HC0.out);rintro e w' ⟨rfl,⟨nd,rfl⟩⟩;refine⟨_,rfl,?_⟩)|(go_at_call 58;(with_reducible refine (spec_l12Right.calls _ _ l1 false _ ?side1 ?side2 A5.out).mono ?_);(case side1=>exact kC HR1.out);(case side2=>exact HC1.out);rintro e w' ⟨rfl,⟨nd,rfl⟩⟩))
   go_ret
   exact⟨eR,kB HB.out⟩
 ·replace c4:=Bool.eq_false_iff.mpr c4
  subst c4
  replace H:=iF H
  obtain rfl:=Option.some.inj H
  go_enter Try.func36,Try.ntmps36
  go_wp2_with (first|((with_reducible refine gate_callee (f:=58) rfl ?_);refine gL (some 6) Try.func58 #[.slice A0 l0.length c0] ?_;(with_reducible refine (spec_l12Right.calls _ _ l0 false _ ?side1 ?side2 A3.out).mono ?_);(case side1=>exact kC HR0.out);(case side2=>exact HC0.out);rintro e w' ⟨rfl,⟨nd,rfl⟩⟩;refine⟨_,rfl,?_⟩))
  go_ret
  exact⟨eR,kB HB.out⟩
/-! ### spec_CommonOf: function 66 -/
mutual
def spec_CommonOf.j0 : Nat → List Int → List Int → Bool → Option ((List (S56)))
 | 0, _, _, _ => none
 | k + 1, x0, x1, x19 => if x19 = true then (some ([] : List (S56))) else ((spec_l12Table.f k x0 x1).bind fun t278 => (spec_CommonOf.l0 k x0 x1 (([] : List (S56))) 0 0 t278))
def spec_CommonOf.l0 : Nat → List Int → List Int → List (S56) → Int → Int → List (List Int) → Option ((List (S56)))
 | 0, _, _, _, _, _, _ => none
 | k + 1, x0, x1, x6, x7, x8, x22 => if 0 ≤ x7 then (if x7 < (x22.length : Int) then (if 0 ≤ x8 then (if x8 < ((rd_L4 x22 x7).length : Int) then (if (rd (rd_L4 x22 x7) x8) > 0 then (spec_CommonOf.l1 k x0 x1 x6 x7 x8 x7 (-1) x22) else (some x6)) else (none)) else (none)) else (none)) else (none)
def spec_CommonOf.l1 : Nat → List Int → List Int → List (S56) → Int → Int → Int → Int → List (List Int) → Option ((List (S56)))
 | 0, _, _, _, _, _, _, _, _ => none
 | k + 1, x0, x1, x6, x7, x8, x9, x10, x22 => if x10 < 0 then (spec_CommonOf.l2 k x0 x1 x6 x7 x8 x9 x10 (wrap64 ((x1.length : Int) - 1)) x22) else (if x6.length < 8796093022208 then (spec_CommonOf.l0 k x0 x1 (x6 ++ [(⟨wrap64 (x9 - 1), x10⟩ : S56)]) x9 (wrap64 (x10 + 1)) x22) else (none))
def spec_CommonOf.l2 : Nat → List Int → List Int → List (S56) → Int → Int → Int → Int → Int → List (List Int) → Option ((List (S56)))
 | 0, _, _, _, _, _, _, _, _, _ => none
 | k + 1, x0, x1, x6, x7, x8, x9, x10, x11, x22 => if x11 ≥ x8 then (if 0 ≤ x9 then (if x9 < (x0.length : Int) then (if 0 ≤ x11 then (if x11 < (x1.length : Int) then (if (rd x0 x9) = (rd x1 x11) then (if 0 ≤ (wrap64 (x9 + 1)) then (if (wrap64 (x9 + 1)) < (x22.length : Int) then (if 0 ≤ (wrap64 (x11 + 1)) then (if (wrap64 (x11 + 1)) < ((rd_L4 x22 (wrap64 (x9 + 1))).length : Int) then (if 0 ≤ x7 then (if x7 < (x22.length : Int) then (if 0 ≤ x8 then (if x8 < ((rd_L4 x22 x7).length : Int) then (if (wrap64 (1 + (rd (rd_L4 x22 (wrap64 (x9 + 1))) (wrap64 (x11 + 1))))) = (rd (rd_L4 x22 x7) x8) then (spec_CommonOf.l2 k x0 x1 x6 x7 x8 x9 x11 (wrap64 (x11 - 1)) x22) else (spec_CommonOf.l2 k x0 x1 x6 x7 x8 x9 x10 (wrap64 (x11 - 1)) x22)) else (none)) else (none)) else (none)) else (none)) else (none)) else (none)) else (none)) else (none)) else (spec_CommonOf.l2 k x0 x1 x6 x7 x8 x9 x10 (wrap64 (x11 - 1)) x22)) else (none)) else (none)) else (none)) else (none)) else (spec_CommonOf.l1 k x0 x1 x6 x7 x8 (wrap64 (x9 + 1)) x10 x22)
end
def spec_CommonOf.f (k : Nat) (l0 : List Int) (l1 : List Int) : Option ((List (S56))) := (spec_l12Right.f l0).bind fun t276 => (if t276 = true then ((spec_l12Right.f l1).bind fun t277 => (spec_CommonOf.j0 k l0 l1 (!t277))) else (spec_CommonOf.j0 k l0 l1 true))
set_option maxHeartbeats 8000000 in
set_option maxRecDepth 100000 in
theorem spec_CommonOf.calls (k : Nat) (A0 : Option Addr) (c0 : Nat) (l0 : List Int) (A1 : Option Addr) (c1 : Nat) (l1 : List Int) (r : List (S56)) (w : World) (hr0 : Kd.C (Kd.int .i64) w A0 l0.length l0) (hc0 : l0.length ≤ c0) (hr1 : Kd.C (Kd.int .i64) w A1 l1.length l1) (hc1 : l1.length ≤ c1) (h : spec_CommonOf.f k l0 l1 = some r) :
  Calls Try.prog 66 #[.slice A0 l0.length c0, .slice A1 l1.length c1] w fun e w' => ∃ v0_ : Value, e = .returned (v0_) ∧ Kd.R k56 56 w' w.heap.size (fun _ => True) v0_ r ∧ Below w.heap.size w w' := by
 have hu56:=Try.underlying56
 have HR0:=mk0 hr0
 have HC0:=mk0 hc0
 clear hr0 hc0
 have HR1:=mk0 hr1
 have HC1:=mk0 hc1
 clear hr1 hc1
 have HB:=mk0 (Below.refl w.heap.size w)
 have H:((spec_l12Right.f l0).bind fun t276=>(if t276 = true then ((spec_l12Right.f l1).bind fun t277=>(spec_CommonOf.j0 k l0 l1 (!t277))) else (spec_CommonOf.j0 k l0 l1 true))) = some r:=h
 clear h
 have HC3:=mk0 H
 clear H
 go_enter Try.func66,Try.ntmps66
 go_upto_region 1 with (fail)
 repeat (go_quiet (fail);go_upto_region 1 with (fail))
 go_cut [19] (fun v19 wc=>∃ (kq:Nat) (x19_2:Bool),v19 = .bool x19_2 ∧ Aside0 (spec_CommonOf.j0 kq l0 l1 x19_2 = some r) ∧ Aside0 (kq ≤ k) ∧ Aside0 (Below w.heap.size w wc))
 case first =>
  have H:=HC3.out
  clear HC3
  replace H:=bE H
  obtain⟨t276,A4,H⟩:=H
  by_cases c5:t276 = true
  rotate_left
  ·replace c5:=Bool.eq_false_iff.mpr c5
   subst c5
   replace H:=iF H
   have H':=mk0 H
   clear H
   go_wp2_with (first|(go_at_call 58;(with_reducible refine (spec_l12Right.calls _ _ l0 false _ ?side1 ?side2 A4.out).mono ?_);(case side1=>exact kC (Kd.C_below HR0.out HB.out));(case side2=>exact HC0.out);rintro e w' ⟨rfl,⟨nd,rfl⟩⟩;(try first|exact⟨rfl,_,World.drewN_drewN _ _ _⟩|exact⟨rfl,_,Eq.trans (World.drewN_drewN _ _ _) (congrArg (World.drewN _) (Nat.add_assoc _ _ _))⟩)))
   repeat (go_quiet (first|(go_at_call 58;(with_reducible refine (spec_l12Right.calls _ _ l0 false _ ?side1 ?side2 A4.out).mono ?_);(case side1=>exact kC (Kd.C_below HR0.out HB.out));(case side2=>exact HC0.out);rintro e w' ⟨rfl,⟨nd,rfl⟩⟩;(try first|exact⟨rfl,_,World.drewN_drewN _ _ _⟩|exact⟨rfl,_,Eq.trans (World.drewN_drewN _ _ _) (congrArg (World.drewN _) (Nat.add_assoc _ _ _))⟩)));try go_wp2_with (first|(go_at_call 58;(with_reducible refine (spec_l12Right.calls _ _ l0 false _ ?side1 ?side2 A4.out).mono ?_);(case side1=>exact kC (Kd.C_below HR0.out HB.out));(case side2=>exact HC0.out);rintro e w' ⟨rfl,⟨nd,rfl⟩⟩;(try first|exact⟨rfl,_,World.drewN_drewN _ _ _⟩|exact⟨rfl,_,Eq.trans (World.drewN_drewN _ _ _) (congrArg (World.drewN _) (Nat.add_assoc _ _ _))⟩))))
   go_meet
   case rel=>exact⟨_,(true),eS,H',⟨by first|omega|exact Nat.le_refl _⟩,⟨kB HB.out⟩⟩
  subst c5
  replace H:=iT H
  replace H:=bE H
  obtain⟨t277,A6,H⟩:=H
  have H':=mk0 H
  clear H
  go_wp2_with (first|(go_at_call 58;(with_reducible refine (spec_l12Right.calls _ _ l0 true _ ?side1 ?side2 A4.out).mono ?_);(case side1=>exact kC (Kd.C_below HR0.out HB.out));(case side2=>exact HC0.out);rintro e w' ⟨rfl,⟨nd,rfl⟩⟩;(try first|exact⟨rfl,_,World.drewN_drewN _ _ _⟩|exact⟨rfl,_,Eq.trans (World.drewN_drewN _ _ _) (congrArg (World.drewN _) (Nat.add_assoc _ _ _))⟩))|(go_at_call 58;(with_reducible refine (spec_l12Right.calls _ _ l1 t277 _ ?side1 ?side2 A6.out).mono ?_);(case side1=>repeat (first|exact (Kd.C_below HR1.out (kB HB.out))|(with_reducible first|apply aC|apply nC|apply dC)));(case side2=>exact HC1.out);rintro e w' ⟨rfl,⟨nd,rfl⟩⟩;(try first|exact⟨rfl,_,World.drewN_drewN _ _ _⟩|exact⟨rfl,_,Eq.trans (World.drewN_drewN _ _ _) (congrArg (World.drewN _) (Nat.add_assoc _ _ _))⟩)))
  repeat (go_quiet (first|(go_at_call 58;(with_reducible refine (spec_l12Right.calls _ _ l0 true _ ?side1 ?side2 A4.out).mono ?_);(case side1=>exact kC (Kd.C_below HR0.out HB.out));(case side2=>exact HC0.out);rintro e w' ⟨rfl,⟨nd,rfl⟩⟩;(try first|exact⟨rfl,_,World.drewN_drewN _ _ _⟩|exact⟨rfl,_,Eq.trans (World.drewN_drewN _ _ _) (congrArg (World.drewN _) (Nat.add_assoc _ _ _))⟩))|(go_at_call 58;(with_reducible refine (spec_l12Right.calls _ _ l1 t277 _ ?side1 ?side2 A6.out).mono ?_);(case side1=>repeat (first|exact (Kd.C_below HR1.out (kB HB.out))|(with_reducible first|apply aC|apply nC|apply dC)));(case side2=>exact HC1.out);rintro e w' ⟨rfl,⟨nd,rfl⟩⟩;(try first|exact⟨rfl,_,World.drewN_drewN _ _ _⟩|exact⟨rfl,_,Eq.trans (World.drewN_drewN _ _ _) (congrArg (World.drewN _) (Nat.add_assoc _ _ _))⟩)));try go_wp2_with (first|(go_at_call 58;(with_reducible refine (spec_l12Right.calls _ _ l0 true _ ?side1 ?side2 A4.out).mono ?_);(case side1=>exact kC (Kd.C_below HR0.out HB.out));(case side2=>exact HC0.out);rintro e w' ⟨rfl,⟨nd,rfl⟩⟩;(try first|exact⟨rfl,_,World.drewN_drewN _ _ _⟩|exact⟨rfl,_,Eq.trans (World.drewN_drewN _ _ _) (congrArg (World.drewN _) (Nat.add_assoc _ _ _))⟩))|(go_at_call 58;(with_reducible refine (spec_l12Right.calls _ _ l1 t277 _ ?side1 ?side2 A6.out).mono ?_);(case side1=>repeat (first|exact (Kd.C_below HR1.out (kB HB.out))|(with_reducible first|apply aC|apply nC|apply dC)));(case side2=>exact HC1.out);rintro e w' ⟨rfl,⟨nd,rfl⟩⟩;(try first|exact⟨rfl,_,World.drewN_drewN _ _ _⟩|exact⟨rfl,_,Eq.trans (World.drewN_drewN _ _ _) (congrArg (World.drewN _) (Nat.add_assoc _ _ _))⟩))))
  go_meet
  case rel=>exact⟨_,(!t277),eS,H',⟨by first|omega|exact Nat.le_refl _⟩,⟨kB HB.out⟩⟩
 case rest =>
  clear HC3
  try clear c1
  try clear p2
  try clear c5
  try clear c6
  obtain⟨kq,x19_2,rfl,HA,HJ2,HB⟩:=hcut
  cases kq with
  | zero=>exact absurd HA.out (by simp [spec_CommonOf.j0])
  | succ kj2 =>
   have H:=HA.out
   clear HA
   simp only [spec_CommonOf.j0] at H
   by_cases c7:x19_2 = true
   ·subst c7
    replace H:=iT H
    obtain rfl:=Option.some.inj H
    go_wp2
    repeat (go_quiet (fail);try go_wp2)
    go_ret
    exact⟨_,eR,by first|exact Kd.R_nil _ _ _ _ _|exact Kd.N_nil _ _ _ _ _|exact Kd.V_nil _ _ _ _ _|exact Kd.Q_nil _ _ _ _ _|exact Kd.S_nil _ _ _ _ _,kB HB.out⟩
   replace c7:=Bool.eq_false_iff.mpr c7
   subst c7
   replace H:=iF H
   replace H:=bE H
   obtain⟨t278,A8,H⟩:=H
   obtain⟨y281,hy281⟩:∃ y_:List (S56),y_ = (([]:List (S56))):=⟨_,rfl⟩
   first|(with_reducible replace H:=yB hy281 H)|rw [← hy281] at H|skip
   have Ny281:=mk0 hy281
   clear hy281
   have H':=mk0 H
   clear H
   go_wp2_with (first|(go_at_call 59;(with_reducible refine (spec_l12Table.calls kj2 _ _ l0 _ _ l1 t278 _ ?side1 ?side2 ?side3 ?side4 A8.out).mono ?_);(case side1=>exact kC (Kd.C_below HR0.out HB.out));(case side2=>exact HC0.out);(case side3=>exact kC (Kd.C_below HR1.out HB.out));(case side4=>exact HC1.out);rintro e w9 ⟨v279,rfl,ho0,hb⟩;have HO280:=mk0 (Kd.S_lower ho0 (kZ HB.out));replace HB:=mk0 (kS HB.out hb);(try clear hb);(try clear ho0))|((with_reducible refine gate_dst (N:=23) rfl ?_);refine Kd.R_lit k56 _ 56 ?hg (N:=23) ?hd (xs:=([]:List (S56))) (inner:=[]) (ok:=fun _=>True) (okp:=fun _=>True) ?hr ?hp (fun _ hk=>hk) trivial (Below.refl _ _) (Nat.le_refl _) (by simp) ?_;(case hd=>rfl);(case hg=>rfl);(case hr=>first|(go_simp;done)|(go_simp;rfl));(case hp=>exact (Reps.none _ _));intro v282 w10 ho11 hb hg_ hnew_;clear hg_ hnew_;(first|rw [← Ny281.out] at ho11|(simp only [Int.reduceToNat] at ho11;rw [← Ny281.out] at ho11));replace HO280:=mk0 (bS HO280.out hb);have HO283:=mk0 (Kd.R_lower ho11 (kZ HB.out));replace HB:=mk0 (kS HB.out hb);clear hb ho11))
   repeat (go_quiet (first|(go_at_call 59;(with_reducible refine (spec_l12Table.calls kj2 _ _ l0 _ _ l1 t278 _ ?side1 ?side2 ?side3 ?side4 A8.out).mono ?_);(case side1=>exact kC (Kd.C_below HR0.out HB.out));(case side2=>exact HC0.out);(case side3=>exact kC (Kd.C_below HR1.out HB.out));(case side4=>exact HC1.out);rintro e w9 ⟨v279,rfl,ho0,hb⟩;have HO280:=mk0 (Kd.S_lower ho0 (kZ HB.out));replace HB:=mk0 (kS HB.out hb);(try clear hb);(try clear ho0))|((with_reducible refine gate_dst (N:=23) rfl ?_);refine Kd.R_lit k56 _ 56 ?hg (N:=23) ?hd (xs:=([]:List (S56))) (inner:=[]) (ok:=fun _=>True) (okp:=fun _=>True) ?hr ?hp (fun _ hk=>hk) trivial (Below.refl _ _) (Nat.le_refl _) (by simp) ?_;(case hd=>rfl);(case hg=>rfl);(case hr=>first|(go_simp;done)|(go_simp;rfl));(case hp=>exact (Reps.none _ _));intro v282 w10 ho11 hb hg_ hnew_;clear hg_ hnew_;(first|rw [← Ny281.out] at ho11|(simp only [Int.reduceToNat] at ho11;rw [← Ny281.out] at ho11));replace HO280:=mk0 (bS HO280.out hb);have HO283:=mk0 (Kd.R_lower ho11 (kZ HB.out));replace HB:=mk0 (kS HB.out hb);clear hb ho11));try go_wp2_with (first|(go_at_call 59;(with_reducible refine (spec_l12Table.calls kj2 _ _ l0 _ _ l1 t278 _ ?side1 ?side2 ?side3 ?side4 A8.out).mono ?_);(case side1=>exact kC (Kd.C_below HR0.out HB.out));(case side2=>exact HC0.out);(case side3=>exact kC (Kd.C_below HR1.out HB.out));(case side4=>exact HC1.out);rintro e w9 ⟨v279,rfl,ho0,hb⟩;have HO280:=mk0 (Kd.S_lower ho0 (kZ HB.out));replace HB:=mk0 (kS HB.out hb);(try clear hb);(try clear ho0))|((with_reducible refine gate_dst (N:=23) rfl ?_);refine Kd.R_lit k56 _ 56 ?hg (N:=23) ?hd (xs:=([]:List (S56))) (inner:=[]) (ok:=fun _=>True) (okp:=fun _=>True) ?hr ?hp (fun _ hk=>hk) trivial (Below.refl _ _) (Nat.le_refl _) (by simp) ?_;(case hd=>rfl);(case hg=>rfl);(case hr=>first|(go_simp;done)|(go_simp;rfl));(case hp=>exact (Reps.none _ _));intro v282 w10 ho11 hb hg_ hnew_;clear hg_ hnew_;(first|rw [← Ny281.out] at ho11|(simp only [Int.reduceToNat] at ho11;rw [← Ny281.out] at ho11));replace HO280:=mk0 (bS HO280.out hb);have HO283:=mk0 (Kd.R_lower ho11 (kZ HB.out));replace HB:=mk0 (kS HB.out hb);clear hb ho11)))
   go_loopg [6,7,8] kj2 (fun kq v6 v7 v8 w'=>∃ (x6_2:List (S56)) (x7_2:Int) (x8_2:Int),v7 = .int .i64 x7_2 ∧ v8 = .int .i64 x8_2 ∧ Aside0 (spec_CommonOf.l0 kq l0 l1 x6_2 x7_2 x8_2 t278 = some r) ∧ Aside0 (kq ≤ kj2) ∧ Aside0 (Kd.R k56 56 w' w.heap.size (fun _=>True) v6 x6_2) ∧ Aside0 (Kd.S (Kd.slice 3 (Kd.int .i64)) 45 w' w.heap.size (fun _=>True) v279 t278) ∧ Aside0 (Below w.heap.size w w'))
   case atStart=>exact⟨(y281),(0),(0),eS,eS,H',⟨Nat.le_refl _⟩,⟨rR HO283.out⟩,⟨rS HO280.out⟩,⟨kB HB.out⟩⟩
   case round =>
    clear H'
    try clear c1
    try clear p2
    try clear c5
    try clear c6
    try clear c7
    try clear p2
    obtain⟨x6_2,x7_2,x8_2,rfl,rfl,HA,HK2,HO_6,HO_22,HB⟩:=hrel
    cases gk with
    | zero=>exact absurd HA.out (by simp [spec_CommonOf.l0])
    | succ k2 =>
     have H:=HA.out
     clear HA
     simp only [spec_CommonOf.l0] at H
     by_cases c12:0 ≤ x7_2
     rotate_left
     ·rw [if_neg c12] at H
      exact nn H
     rw [if_pos c12] at H
     have c12b0:decide (0 ≤ x7_2) = true:=decide_eq_true c12
     clear c12
     by_cases c13:x7_2 < (t278.length:Int)
     rotate_left
     ·rw [if_neg c13] at H
      exact nn H
     rw [if_pos c13] at H
     have c13b0:decide (x7_2 < (t278.length:Int)) = true:=decide_eq_true c13
     (try simp only [hl284_0] at c13b0)
     (try simp only [hl291_0] at c13b0)
     (try simp only [hl293_0] at c13b0)
     clear c13
     by_cases c14:0 ≤ x8_2
     rotate_left
     ·rw [if_neg c14] at H
      exact nn H
     rw [if_pos c14] at H
     have c14b0:decide (0 ≤ x8_2) = true:=decide_eq_true c14
     clear c14
     by_cases c15:x8_2 < ((rd_L4 t278 x7_2).length:Int)
     rotate_left
     ·rw [if_neg c15] at H
      exact nn H
     rw [if_pos c15] at H
     have c15b0:decide (x8_2 < ((rd_L4 t278 x7_2).length:Int)) = true:=decide_eq_true c15
     (try simp only [hl284_0] at c15b0)
     (try simp only [hl291_0] at c15b0)
     (try simp only [hl293_0] at c15b0)
     clear c15
     by_cases c16:(rd (rd_L4 t278 x7_2) x8_2) > 0
     rotate_left
     ·rw [if_neg c16] at H
      have c16b0:decide (0 < (rd (rd_L4 t278 x7_2) x8_2)) = false:=decide_eq_false c16
      clear c16
      obtain rfl:=Option.some.inj H
      obtain⟨Ao38,co38,eo38⟩:=Kd.S_slice HO_22.out
      subst eo38
      have p284:0 ≤ (x7_2:Int):=oD
      have q284:x7_2 < (t278.length:Int):=oD
      obtain⟨ad284,A284_0,c284_0,e284,hx284_0,hl284_0,hi284_0⟩:=at_L4 (Kd.S_reads' HO_22.out).2.2 x7_2 p284 q284
      cases e284
      obtain⟨ce284,hce284,hMe284,hcc284⟩:=Kd.S_get HO_22.out [] x7_2 p284 (by first|exact q284|exact oD|(have e_:=(Kd.S_reads' HO_22.out).1;omega))
      obtain⟨ve284_0,rfl,ge284_0⟩:=hMe284
      have hv284_0:=hcc284 0 _ rfl
      rw [Nat.add_zero,show ((Kd.slice 3 (Kd.int .i64))).sz = 1 from rfl,Nat.mul_one] at hv284_0
      replace hv284_0:=Option.some.inj (hv284_0.symm.trans hx284_0)
      rw [hv284_0] at ge284_0
      have HL284_0:=mk0 (show Kd.R (Kd.int .i64) 3 _ _ _ _ (rd_L4 t278 x7_2) from ge284_0)
      clear hv284_0 ge284_0
      clear hcc284 hce284
      have HR284_0:=mk0 hi284_0
      have HC284_0:=mk0 hl284_0
      clear hi284_0 hl284_0
      replace p284:=eq_true p284
      replace q284:=eq_true q284
      have p285:0 ≤ (x8_2:Int):=oD
      have q285:x8_2 < ((rd_L4 t278 x7_2).length:Int):=oD
      obtain⟨ad285,e285,hx285_0⟩:=Kd.at_int (by repeat (first|(with_reducible exact HR284_0.out)|(with_reducible first|apply aC|apply nC|apply dC)|exact HR284_0.out|exact (Kd.V_reads' HL284_0.out).2.2)) x8_2 p285 q285
      cases e285
      replace p285:=eq_true p285
      replace q285:=eq_true q285
      go_wp2
      repeat (go_quiet (fail);try go_wp2)
      go_ret
      exact⟨_,eR,rR HO_6.out,kB HB.out⟩
     rw [if_pos c16] at H
     have c16b0:decide (0 < (rd (rd_L4 t278 x7_2) x8_2)) = true:=decide_eq_true c16
     clear c16
     have H':=mk0 H
     clear H
     obtain⟨Ao17,co17,eo17⟩:=Kd.S_slice HO_22.out
     subst eo17
     have p284:0 ≤ (x7_2:Int):=oD
     have q284:x7_2 < (t278.length:Int):=oD
     obtain⟨ad284,A284_0,c284_0,e284,hx284_0,hl284_0,hi284_0⟩:=at_L4 (Kd.S_reads' HO_22.out).2.2 x7_2 p284 q284
     cases e284
     obtain⟨ce284,hce284,hMe284,hcc284⟩:=Kd.S_get HO_22.out [] x7_2 p284 (by first|exact q284|exact oD|(have e_:=(Kd.S_reads' HO_22.out).1;omega))
     obtain⟨ve284_0,rfl,ge284_0⟩:=hMe284
     have hv284_0:=hcc284 0 _ rfl
     rw [Nat.add_zero,show ((Kd.slice 3 (Kd.int .i64))).sz = 1 from rfl,Nat.mul_one] at hv284_0
     replace hv284_0:=Option.some.inj (hv284_0.symm.trans hx284_0)
     rw [hv284_0] at ge284_0
     have HL284_0:=mk0 (show Kd.R (Kd.int .i64) 3 _ _ _ _ (rd_L4 t278 x7_2) from ge284_0)
     clear hv284_0 ge284_0
     clear hcc284 hce284
     have HR284_0:=mk0 hi284_0
     have HC284_0:=mk0 hl284_0
     clear hi284_0 hl284_0
     replace p284:=eq_true p284
     replace q284:=eq_true q284
     have p285:0 ≤ (x8_2:Int):=oD
     have q285:x8_2 < ((rd_L4 t278 x7_2).length:Int):=oD
     obtain⟨ad285,e285,hx285_0⟩:=Kd.at_int (by repeat (first|(with_reducible exact HR284_0.out)|(with_reducible first|apply aC|apply nC|apply dC)|exact HR284_0.out|exact (Kd.V_reads' HL284_0.out).2.2)) x8_2 p285 q285
     cases e285
     replace p285:=eq_true p285
     replace q285:=eq_true q285
     go_wp2
     repeat (go_quiet (fail);try go_wp2)
     go_loopg [9,10] k2 (fun kq v9 v10 w'=>∃ (x9_3:Int) (x10_3:Int),v9 = .int .i64 x9_3 ∧ v10 = .int .i64 x10_3 ∧ Aside0 (spec_CommonOf.l1 kq l0 l1 x6_2 x7_2 x8_2 x9_3 x10_3 t278 = some r) ∧ Aside0 (kq ≤ k2) ∧ Aside0 (Kd.R k56 56 w' w.heap.size (fun _=>True) u6 x6_2) ∧ Aside0 (Kd.S (Kd.slice 3 (Kd.int .i64)) 45 w' w.heap.size (fun _=>True) (.slice (some ad284) t278.length co17) t278) ∧ Aside0 (Kd.C (Kd.int .i64) w' (some ad285) (rd_L4 t278 x7_2).length (rd_L4 t278 x7_2)) ∧ Aside0 (Below w.heap.size w w'))
     case atStart=>exact⟨(x7_2),((-1)),eS,eS,H',⟨Nat.le_refl _⟩,⟨rR HO_6.out⟩,⟨rS HO_22.out⟩,⟨by repeat (first|(with_reducible exact HR284_0.out)|(with_reducible first|apply aC|apply nC|apply dC)|exact HR284_0.out|exact (Kd.V_reads' HL284_0.out).2.2)⟩,⟨kB HB.out⟩⟩
     case round =>
      clear H'
      try clear c1
      try clear c2
      try clear p2
      try clear q2
      try clear hx2
      try clear c5
      try clear c6
      try clear c7
      try clear c12
      try clear c12b0
      try clear c13
      try clear c13b0
      try clear c14
      try clear c14b0
      try clear c15
      try clear c15b0
      try clear c16
      try clear c16b0
      try clear hx284_0
      try clear hx285_0
      try clear p2
      try clear p284
      try clear p285
      try clear q284
      try clear q285
      obtain⟨x9_3,x10_3,rfl,rfl,HA,HK3,HO_6,HO_22,HR284_0,HB⟩:=hrel
      cases gk with
      | zero=>exact absurd HA.out (by simp [spec_CommonOf.l1])
      | succ k3 =>
       have H:=HA.out
       clear HA
       simp only [spec_CommonOf.l1] at H
       by_cases c18:x10_3 < 0
       rotate_left
       ·rw [if_neg c18] at H
        have c18b0:decide (x10_3 < 0) = false:=decide_eq_false c18
        clear c18
        by_cases c36:x6_2.length < 8796093022208
        rotate_left
        ·rw [if_neg c36] at H
         exact nn H
        rw [if_pos c36] at H
        have LMc36:=mk0 c36
        clear c36
        obtain⟨y286,hy286⟩:∃ y_:List (S56),y_ = (x6_2 ++ [(⟨wrap64 (x9_3 - 1),x10_3⟩:S56)]):=⟨_,rfl⟩
        first|(with_reducible replace H:=yB hy286 H)|rw [← hy286] at H|skip
        have Ny286:=mk0 hy286
        clear hy286
        have H':=mk0 H
        clear H
        go_wp2_with (first|((with_reducible refine gate_builtin (b:=.append) (xs:=#[.tmp 75,.tmp 80]) rfl ?_);at_builtin;refine Kd.R_append k56 (w0:=w) w.heap.size rfl (.tmp 75) (.tmp 80) 27 56 (.agg #[(.int .i64 0),(.int .i64 0)]) 16 rfl Try.underlying27 info56 rfl (by decide) (by omega) u6 x6_2 (⟨wrap64 (x9_3 - 1),x10_3⟩:S56) [.int .i64 (wrap64 (x9_3 - 1)),.int .i64 x10_3] (fun _=>True) (fun _=>False) rfl rfl ?aP (fun _ hk=>hk.elim) ?aF ?aO ?aB ?aS ?aL ?_;(case aP=>exact k56_mkM _ _ _ (⟨wrap64 (x9_3 - 1),x10_3⟩:S56));(case aB=>exact (kB HB.out));(case aF=>exact (fun _ _=>trivial));(case aO=>exact (rR HO_6.out));(case aS=>exact (kZ HB.out));(case aL=>have:=LMc36.out;omega);intro v287 w37 ho hb hg hat;rw [← Ny286.out] at ho;replace HO_22:=mk0 (Kd.S_over' (rS HO_22.out) (Kd.R_typed (rR HO_6.out)) (by decide) hg);replace HB:=mk0 (hb);have HO288:=mk0 (ho);clear HO_6 ho hb hg hat))
        repeat (go_quiet (first|((with_reducible refine gate_builtin (b:=.append) (xs:=#[.tmp 75,.tmp 80]) rfl ?_);at_builtin;refine Kd.R_append k56 (w0:=w) w.heap.size rfl (.tmp 75) (.tmp 80) 27 56 (.agg #[(.int .i64 0),(.int .i64 0)]) 16 rfl Try.underlying27 info56 rfl (by decide) (by omega) u6 x6_2 (⟨wrap64 (x9_3 - 1),x10_3⟩:S56) [.int .i64 (wrap64 (x9_3 - 1)),.int .i64 x10_3] (fun _=>True) (fun _=>False) rfl rfl ?aP (fun _ hk=>hk.elim) ?aF ?aO ?aB ?aS ?aL ?_;(case aP=>exact k56_mkM _ _ _ (⟨wrap64 (x9_3 - 1),x10_3⟩:S56));(case aB=>exact (kB HB.out));(case aF=>exact (fun _ _=>trivial));(case aO=>exact (rR HO_6.out));(case aS=>exact (kZ HB.out));(case aL=>have:=LMc36.out;omega);intro v287 w37 ho hb hg hat;rw [← Ny286.out] at ho;replace HO_22:=mk0 (Kd.S_over' (rS HO_22.out) (Kd.R_typed (rR HO_6.out)) (by decide) hg);replace HB:=mk0 (hb);have HO288:=mk0 (ho);clear HO_6 ho hb hg hat));try go_wp2_with (first|((with_reducible refine gate_builtin (b:=.append) (xs:=#[.tmp 75,.tmp 80]) rfl ?_);at_builtin;refine Kd.R_append k56 (w0:=w) w.heap.size rfl (.tmp 75) (.tmp 80) 27 56 (.agg #[(.int .i64 0),(.int .i64 0)]) 16 rfl Try.underlying27 info56 rfl (by decide) (by omega) u6 x6_2 (⟨wrap64 (x9_3 - 1),x10_3⟩:S56) [.int .i64 (wrap64 (x9_3 - 1)),.int .i64 x10_3] (fun _=>True) (fun _=>False) rfl rfl ?aP (fun _ hk=>hk.elim) ?aF ?aO ?aB ?aS ?aL ?_;(case aP=>exact k56_mkM _ _ _ (⟨wrap64 (x9_3 - 1),x10_3⟩:S56));(case aB=>exact (kB HB.out));(case aF=>exact (fun _ _=>trivial));(case aO=>exact (rR HO_6.out));(case aS=>exact (kZ HB.out));(case aL=>have:=LMc36.out;omega);intro v287 w37 ho hb hg hat;rw [← Ny286.out] at ho;replace HO_22:=mk0 (Kd.S_over' (rS HO_22.out) (Kd.R_typed (rR HO_6.out)) (by decide) hg);replace HB:=mk0 (hb);have HO288:=mk0 (ho);clear HO_6 ho hb hg hat)))
        go_roundg k3
        case measure=>have:=HJ2.out;have:=HK2.out;have:=HK3.out;omega
        case rel=>exact⟨(y286),(x9_3),(wrap64 (x10_3 + 1)),eS,eS,H',⟨by have:=HJ2.out;have:=HK2.out;have:=HK3.out;omega⟩,⟨rR HO288.out⟩,⟨rS HO_22.out⟩,⟨kB HB.out⟩⟩
       rw [if_pos c18] at H
       have c18b0:decide (x10_3 < 0) = true:=decide_eq_true c18
       clear c18
       have H':=mk0 H
       clear H
       go_wp2
       repeat (go_quiet (fail);try go_wp2)
       go_loopg [10,11] k3 (fun kq v10 v11 w'=>∃ (x10_4:Int) (x11_4:Int),v10 = .int .i64 x10_4 ∧ v11 = .int .i64 x11_4 ∧ Aside0 (spec_CommonOf.l2 kq l0 l1 x6_2 x7_2 x8_2 x9_3 x10_4 x11_4 t278 = some r) ∧ Aside0 (kq ≤ k3) ∧ Aside0 (Kd.R k56 56 w' w.heap.size (fun _=>True) u6 x6_2) ∧ Aside0 (Kd.S (Kd.slice 3 (Kd.int .i64)) 45 w' w.heap.size (fun _=>True) (.slice (some ad284) t278.length co17) t278) ∧ Aside0 (Kd.C (Kd.int .i64) w' (some ad285) (rd_L4 t278 x7_2).length (rd_L4 t278 x7_2)) ∧ Aside0 (Below w.heap.size w w'))
       case atStart=>exact⟨(x10_3),(wrap64 ((l1.length:Int) - 1)),eS,eS,H',⟨Nat.le_refl _⟩,⟨rR HO_6.out⟩,⟨rS HO_22.out⟩,⟨by repeat (first|(with_reducible exact HR284_0.out)|(with_reducible first|apply aC|apply nC|apply dC)|exact HR284_0.out|exact (Kd.V_reads' HL284_0.out).2.2)⟩,⟨kB HB.out⟩⟩
       case round =>
        clear H'
        try clear c1
        try clear c2
        try clear p2
        try clear q2
        try clear hx2
        try clear c5
        try clear c6
        try clear p6
        try clear c7
        try clear c12
        try clear c12b0
        try clear c13
        try clear c13b0
        try clear c14
        try clear c14b0
        try clear c15
        try clear c15b0
        try clear c16
        try clear c16b0
        try clear c18
        try clear c18b0
        try clear hx284_0
        try clear hx285_0
        try clear p2
        try clear p284
        try clear p285
        try clear q2
        try clear q284
        try clear q285
        obtain⟨x10_4,x11_4,rfl,rfl,HA,HK4,HO_6,HO_22,HR284_0,HB⟩:=hrel
        cases gk with
        | zero=>exact absurd HA.out (by simp [spec_CommonOf.l2])
        | succ k4 =>
         have H:=HA.out
         clear HA
         simp only [spec_CommonOf.l2] at H
         by_cases c19:x11_4 ≥ x8_2
         rotate_left
         ·rw [if_neg c19] at H
          have c19b0:decide (x8_2 ≤ x11_4) = false:=decide_eq_false c19
          clear c19
          have H':=mk0 H
          clear H
          go_wp2
          repeat (go_quiet (fail);try go_wp2)
          go_roundg k4
          case measure=>have:=HJ2.out;have:=HK2.out;have:=HK3.out;have:=HK4.out;omega
          case rel=>exact⟨(wrap64 (x9_3 + 1)),(x10_4),eS,eS,H',⟨by have:=HJ2.out;have:=HK2.out;have:=HK3.out;have:=HK4.out;omega⟩,⟨rR HO_6.out⟩,⟨rS HO_22.out⟩,⟨by repeat (first|(with_reducible exact HR284_0.out)|(with_reducible first|apply aC|apply nC|apply dC)|exact HR284_0.out|exact (Kd.V_reads' HL284_0.out).2.2)⟩,⟨kB HB.out⟩⟩
         rw [if_pos c19] at H
         have c19b0:decide (x8_2 ≤ x11_4) = true:=decide_eq_true c19
         clear c19
         by_cases c20:0 ≤ x9_3
         rotate_left
         ·rw [if_neg c20] at H
          exact nn H
         rw [if_pos c20] at H
         have c20b0:decide (0 ≤ x9_3) = true:=decide_eq_true c20
         clear c20
         by_cases c21:x9_3 < (l0.length:Int)
         rotate_left
         ·rw [if_neg c21] at H
          exact nn H
         rw [if_pos c21] at H
         have c21b0:decide (x9_3 < (l0.length:Int)) = true:=decide_eq_true c21
         (try simp only [hl284_0] at c21b0)
         (try simp only [hl291_0] at c21b0)
         (try simp only [hl293_0] at c21b0)
         clear c21
         by_cases c22:0 ≤ x11_4
         rotate_left
         ·rw [if_neg c22] at H
          exact nn H
         rw [if_pos c22] at H
         have c22b0:decide (0 ≤ x11_4) = true:=decide_eq_true c22
         clear c22
         by_cases c23:x11_4 < (l1.length:Int)
         rotate_left
         ·rw [if_neg c23] at H
          exact nn H
         rw [if_pos c23] at H
         have c23b0:decide (x11_4 < (l1.length:Int)) = true:=decide_eq_true c23
         (try simp only [hl284_0] at c23b0)
         (try simp only [hl291_0] at c23b0)
         (try simp only [hl293_0] at c23b0)
         clear c23
         by_cases c24:(rd l0 x9_3) = (rd l1 x11_4)
         rotate_left
         ·rw [if_neg c24] at H
          have c24b0:((rd l0 x9_3) == (rd l1 x11_4)) = false:=beq_eq_false_iff_ne.mpr c24
          have c24b1:((rd l0 x9_3) != (rd l1 x11_4)) = true:=bne_iff_ne.mpr c24
          have H':=mk0 H
          clear H
          have p289:0 ≤ (x9_3:Int):=oD
          have q289:x9_3 < (l0.length:Int):=oD
          obtain⟨ad289,e289,hx289_0⟩:=Kd.at_int HR0.out x9_3 p289 q289
          cases e289
          replace hx289_0:=(HB.out.cell (World.block_lt_of_cell? w _ hx289_0)).trans hx289_0
          replace p289:=eq_true p289
          replace q289:=eq_true q289
          have p290:0 ≤ (x11_4:Int):=oD
          have q290:x11_4 < (l1.length:Int):=oD
          obtain⟨ad290,e290,hx290_0⟩:=Kd.at_int HR1.out x11_4 p290 q290
          cases e290
          replace hx290_0:=(HB.out.cell (World.block_lt_of_cell? w _ hx290_0)).trans hx290_0
          replace p290:=eq_true p290
          replace q290:=eq_true q290
          go_wp2
          repeat (go_quiet (fail);try go_wp2)
          go_roundg k4
          case measure=>have:=HJ2.out;have:=HK2.out;have:=HK3.out;have:=HK4.out;omega
          case rel=>exact⟨(x10_4),(wrap64 (x11_4 - 1)),eS,eS,H',⟨by have:=HJ2.out;have:=HK2.out;have:=HK3.out;have:=HK4.out;omega⟩,⟨rR HO_6.out⟩,⟨rS HO_22.out⟩,⟨by repeat (first|(with_reducible exact HR284_0.out)|(with_reducible first|apply aC|apply nC|apply dC)|exact HR284_0.out|exact (Kd.V_reads' HL284_0.out).2.2)⟩,⟨kB HB.out⟩⟩
         rw [if_pos c24] at H
         have c24b0:((rd l0 x9_3) == (rd l1 x11_4)) = true:=beq_iff_eq.mpr c24
         have c24b1:((rd l0 x9_3) != (rd l1 x11_4)) = false:=bne_eq_false_iff_eq.mpr c24
         clear c24
         obtain⟨ji25,hji25⟩:∃ j_:Int,(wrap64 (x9_3 + 1)) = j_:=⟨_,rfl⟩
         first|rw [hji25] at H|simp only [hji25] at H
         have hji25w:(IntKind.i64.wrap (x9_3 + 1)) = ji25:=(i64_w _).trans hji25
         by_cases c26:0 ≤ (ji25)
         rotate_left
         ·rw [if_neg c26] at H
          exact nn H
         rw [if_pos c26] at H
         have c26b0:decide (0 ≤ (ji25)) = true:=decide_eq_true c26
         clear c26
         by_cases c27:(ji25) < (t278.length:Int)
         rotate_left
         ·rw [if_neg c27] at H
          exact nn H
         rw [if_pos c27] at H
         have c27b0:decide ((ji25) < (t278.length:Int)) = true:=decide_eq_true c27
         (try simp only [hl284_0] at c27b0)
         (try simp only [hl291_0] at c27b0)
         (try simp only [hl293_0] at c27b0)
         clear c27
         obtain⟨ji28,hji28⟩:∃ j_:Int,(wrap64 (x11_4 + 1)) = j_:=⟨_,rfl⟩
         first|rw [hji28] at H|simp only [hji28] at H
         have hji28w:(IntKind.i64.wrap (x11_4 + 1)) = ji28:=(i64_w _).trans hji28
         by_cases c29:0 ≤ (ji28)
         rotate_left
         ·rw [if_neg c29] at H
          exact nn H
         rw [if_pos c29] at H
         have c29b0:decide (0 ≤ (ji28)) = true:=decide_eq_true c29
         clear c29
         by_cases c30:(ji28) < ((rd_L4 t278 (ji25)).length:Int)
         rotate_left
         ·rw [if_neg c30] at H
          exact nn H
         rw [if_pos c30] at H
         have c30b0:decide ((ji28) < ((rd_L4 t278 (ji25)).length:Int)) = true:=decide_eq_true c30
         (try simp only [hl284_0] at c30b0)
         (try simp only [hl291_0] at c30b0)
         (try simp only [hl293_0] at c30b0)
         clear c30
         by_cases c31:0 ≤ x7_2
         rotate_left
         ·rw [if_neg c31] at H
          exact nn H
         rw [if_pos c31] at H
         have c31b0:decide (0 ≤ x7_2) = true:=decide_eq_true c31
         clear c31
         by_cases c32:x7_2 < (t278.length:Int)
         rotate_left
         ·rw [if_neg c32] at H
          exact nn H
         rw [if_pos c32] at H
         have c32b0:decide (x7_2 < (t278.length:Int)) = true:=decide_eq_true c32
         (try simp only [hl284_0] at c32b0)
         (try simp only [hl291_0] at c32b0)
         (try simp only [hl293_0] at c32b0)
         clear c32
         by_cases c33:0 ≤ x8_2
         rotate_left
         ·rw [if_neg c33] at H
          exact nn H
         rw [if_pos c33] at H
         have c33b0:decide (0 ≤ x8_2) = true:=decide_eq_true c33
         clear c33
         by_cases c34:x8_2 < ((rd_L4 t278 x7_2).length:Int)
         rotate_left
         ·rw [if_neg c34] at H
          exact nn H
         rw [if_pos c34] at H
         have c34b0:decide (x8_2 < ((rd_L4 t278 x7_2).length:Int)) = true:=decide_eq_true c34
         (try simp only [hl284_0] at c34b0)
         (try simp only [hl291_0] at c34b0)
         (try simp only [hl293_0] at c34b0)
         clear c34
         by_cases c35:(wrap64 (1 + (rd (rd_L4 t278 (ji25)) (ji28)))) = (rd (rd_L4 t278 x7_2) x8_2)
         rotate_left
         ·rw [if_neg c35] at H
          have c35b0:((wrap64 (1 + (rd (rd_L4 t278 (ji25)) (ji28)))) == (rd (rd_L4 t278 x7_2) x8_2)) = false:=beq_eq_false_iff_ne.mpr c35
          have c35b1:((wrap64 (1 + (rd (rd_L4 t278 (ji25)) (ji28)))) != (rd (rd_L4 t278 x7_2) x8_2)) = true:=bne_iff_ne.mpr c35
          have H':=mk0 H
          clear H
          have p289:0 ≤ (x9_3:Int):=oD
          have q289:x9_3 < (l0.length:Int):=oD
          obtain⟨ad289,e289,hx289_0⟩:=Kd.at_int HR0.out x9_3 p289 q289
          cases e289
          replace hx289_0:=(HB.out.cell (World.block_lt_of_cell? w _ hx289_0)).trans hx289_0
          replace p289:=eq_true p289
          replace q289:=eq_true q289
          have p290:0 ≤ (x11_4:Int):=oD
          have q290:x11_4 < (l1.length:Int):=oD
          obtain⟨ad290,e290,hx290_0⟩:=Kd.at_int HR1.out x11_4 p290 q290
          cases e290
          replace hx290_0:=(HB.out.cell (World.block_lt_of_cell? w _ hx290_0)).trans hx290_0
          replace p290:=eq_true p290
          replace q290:=eq_true q290
          have p291:0 ≤ ((ji25):Int):=oD
          have q291:(ji25) < (t278.length:Int):=oD
          obtain⟨ad291,A291_0,c291_0,e291,hx291_0,hl291_0,hi291_0⟩:=at_L4 (Kd.S_reads' HO_22.out).2.2 (ji25) p291 q291
          obtain rfl:ad284 = ad291:=(by injection e291)
          obtain⟨ce291,hce291,hMe291,hcc291⟩:=Kd.S_get HO_22.out [] (ji25) p291 (by first|exact q291|exact oD|(have e_:=(Kd.S_reads' HO_22.out).1;omega))
          obtain⟨ve291_0,rfl,ge291_0⟩:=hMe291
          have hv291_0:=hcc291 0 _ rfl
          rw [Nat.add_zero,show ((Kd.slice 3 (Kd.int .i64))).sz = 1 from rfl,Nat.mul_one] at hv291_0
          replace hv291_0:=Option.some.inj (hv291_0.symm.trans hx291_0)
          rw [hv291_0] at ge291_0
          have HL291_0:=mk0 (show Kd.R (Kd.int .i64) 3 _ _ _ _ (rd_L4 t278 (ji25)) from ge291_0)
          clear hv291_0 ge291_0
          clear hcc291 hce291
          have HR291_0:=mk0 hi291_0
          have HC291_0:=mk0 hl291_0
          clear hi291_0 hl291_0
          replace p291:=eq_true p291
          replace q291:=eq_true q291
          have p292:0 ≤ ((ji28):Int):=oD
          have q292:(ji28) < ((rd_L4 t278 (ji25)).length:Int):=oD
          obtain⟨ad292,e292,hx292_0⟩:=Kd.at_int (by repeat (first|(with_reducible exact HR291_0.out)|(with_reducible first|apply aC|apply nC|apply dC)|exact HR291_0.out|exact (Kd.V_reads' HL291_0.out).2.2)) (ji28) p292 q292
          cases e292
          replace p292:=eq_true p292
          replace q292:=eq_true q292
          have p293:0 ≤ (x7_2:Int):=oD
          have q293:x7_2 < (t278.length:Int):=oD
          obtain⟨ad293,A293_0,c293_0,e293,hx293_0,hl293_0,hi293_0⟩:=at_L4 (Kd.S_reads' HO_22.out).2.2 x7_2 p293 q293
          obtain rfl:ad284 = ad293:=(by injection e293)
          obtain⟨ce293,hce293,hMe293,hcc293⟩:=Kd.S_get HO_22.out [] x7_2 p293 (by first|exact q293|exact oD|(have e_:=(Kd.S_reads' HO_22.out).1;omega))
          obtain⟨ve293_0,rfl,ge293_0⟩:=hMe293
          have hv293_0:=hcc293 0 _ rfl
          rw [Nat.add_zero,show ((Kd.slice 3 (Kd.int .i64))).sz = 1 from rfl,Nat.mul_one] at hv293_0
          replace hv293_0:=Option.some.inj (hv293_0.symm.trans hx293_0)
          rw [hv293_0] at ge293_0
          have HL293_0:=mk0 (show Kd.R (Kd.int .i64) 3 _ _ _ _ (rd_L4 t278 x7_2) from ge293_0)
          clear hv293_0 ge293_0
          clear hcc293 hce293
          have HR293_0:=mk0 hi293_0
          have HC293_0:=mk0 hl293_0
          clear hi293_0 hl293_0
          replace p293:=eq_true p293
          replace q293:=eq_true q293
          have p294:0 ≤ (x8_2:Int):=oD
          have q294:x8_2 < ((rd_L4 t278 x7_2).length:Int):=oD
          obtain⟨ad294,e294,hx294_0⟩:=Kd.at_int (by repeat (first|(with_reducible exact HR293_0.out)|(with_reducible first|apply aC|apply nC|apply dC)|exact HR293_0.out|exact (Kd.V_reads' HL293_0.out).2.2)) x8_2 p294 q294
          cases e294
          replace p294:=eq_true p294
          replace q294:=eq_true q294
          go_wp2
          repeat (go_quiet (fail);try go_wp2)
          go_roundg k4
          case measure=>have:=HJ2.out;have:=HK2.out;have:=HK3.out;have:=HK4.out;omega
          case rel=>exact⟨(x10_4),(wrap64 (x11_4 - 1)),eS,eS,H',⟨by have:=HJ2.out;have:=HK2.out;have:=HK3.out;have:=HK4.out;omega⟩,⟨rR HO_6.out⟩,⟨rS HO_22.out⟩,⟨by repeat (first|(with_reducible exact HR284_0.out)|(with_reducible first|apply aC|apply nC|apply dC)|exact HR284_0.out|exact (Kd.V_reads' HL284_0.out).2.2)⟩,⟨kB HB.out⟩⟩
         rw [if_pos c35] at H
         have c35b0:((wrap64 (1 + (rd (rd_L4 t278 (ji25)) (ji28)))) == (rd (rd_L4 t278 x7_2) x8_2)) = true:=beq_iff_eq.mpr c35
         have c35b1:((wrap64 (1 + (rd (rd_L4 t278 (ji25)) (ji28)))) != (rd (rd_L4 t278 x7_2) x8_2)) = false:=bne_eq_false_iff_eq.mpr c35
         clear c35
         have H':=mk0 H
         clear H
         have p289:0 ≤ (x9_3:Int):=oD
         have q289:x9_3 < (l0.length:Int):=oD
         obtain⟨ad289,e289,hx289_0⟩:=Kd.at_int HR0.out x9_3 p289 q289
         cases e289
         replace hx289_0:=(HB.out.cell (World.block_lt_of_cell? w _ hx289_0)).trans hx289_0
         replace p289:=eq_true p289
         replace q289:=eq_true q289
         have p290:0 ≤ (x11_4:Int):=oD
         have q290:x11_4 < (l1.length:Int):=oD
         obtain⟨ad290,e290,hx290_0⟩:=Kd.at_int HR1.out x11_4 p290 q290
         cases e290
         replace hx290_0:=(HB.out.cell (World.block_lt_of_cell? w _ hx290_0)).trans hx290_0
         replace p290:=eq_true p290
         replace q290:=eq_true q290
         have p291:0 ≤ ((ji25):Int):=oD
         have q291:(ji25) < (t278.length:Int):=oD
         obtain⟨ad291,A291_0,c291_0,e291,hx291_0,hl291_0,hi291_0⟩:=at_L4 (Kd.S_reads' HO_22.out).2.2 (ji25) p291 q291
         obtain rfl:ad284 = ad291:=(by injection e291)
         obtain⟨ce291,hce291,hMe291,hcc291⟩:=Kd.S_get HO_22.out [] (ji25) p291 (by first|exact q291|exact oD|(have e_:=(Kd.S_reads' HO_22.out).1;omega))
         obtain⟨ve291_0,rfl,ge291_0⟩:=hMe291
         have hv291_0:=hcc291 0 _ rfl
         rw [Nat.add_zero,show ((Kd.slice 3 (Kd.int .i64))).sz = 1 from rfl,Nat.mul_one] at hv291_0
         replace hv291_0:=Option.some.inj (hv291_0.symm.trans hx291_0)
         rw [hv291_0] at ge291_0
         have HL291_0:=mk0 (show Kd.R (Kd.int .i64) 3 _ _ _ _ (rd_L4 t278 (ji25)) from ge291_0)
         clear hv291_0 ge291_0
         clear hcc291 hce291
         have HR291_0:=mk0 hi291_0
         have HC291_0:=mk0 hl291_0
         clear hi291_0 hl291_0
         replace p291:=eq_true p291
         replace q291:=eq_true q291
         have p292:0 ≤ ((ji28):Int):=oD
         have q292:(ji28) < ((rd_L4 t278 (ji25)).length:Int):=oD
         obtain⟨ad292,e292,hx292_0⟩:=Kd.at_int (by repeat (first|(with_reducible exact HR291_0.out)|(with_reducible first|apply aC|apply nC|apply dC)|exact HR291_0.out|exact (Kd.V_reads' HL291_0.out).2.2)) (ji28) p292 q292
         cases e292
         replace p292:=eq_true p292
         replace q292:=eq_true q292
         have p293:0 ≤ (x7_2:Int):=oD
         have q293:x7_2 < (t278.length:Int):=oD
         obtain⟨ad293,A293_0,c293_0,e293,hx293_0,hl293_0,hi293_0⟩:=at_L4 (Kd.S_reads' HO_22.out).2.2 x7_2 p293 q293
         obtain rfl:ad284 = ad293:=(by injection e293)
         obtain⟨ce293,hce293,hMe293,hcc293⟩:=Kd.S_get HO_22.out [] x7_2 p293 (by first|exact q293|exact oD|(have e_:=(Kd.S_reads' HO_22.out).1;omega))
         obtain⟨ve293_0,rfl,ge293_0⟩:=hMe293
         have hv293_0:=hcc293 0 _ rfl
         rw [Nat.add_zero,show ((Kd.slice 3 (Kd.int .i64))).sz = 1 from rfl,Nat.mul_one] at hv293_0
         replace hv293_0:=Option.some.inj (hv293_0.symm.trans hx293_0)
         rw [hv293_0] at ge293_0
         have HL293_0:=mk0 (show Kd.R (Kd.int .i64) 3 _ _ _ _ (rd_L4 t278 x7_2) from ge293_0)
         clear hv293_0 ge293_0
         clear hcc293 hce293
         have HR293_0:=mk0 hi293_0
         have HC293_0:=mk0 hl293_0
         clear hi293_0 hl293_0
         replace p293:=eq_true p293
         replace q293:=eq_true q293
         have p294:0 ≤ (x8_2:Int):=oD
         have q294:x8_2 < ((rd_L4 t278 x7_2).length:Int):=oD
         obtain⟨ad294,e294,hx294_0⟩:=Kd.at_int (by repeat (first|(with_reducible exact HR293_0.out)|(with_reducible first|apply aC|apply nC|apply dC)|exact HR293_0.out|exact (Kd.V_reads' HL293_0.out).2.2)) x8_2 p294 q294
         cases e294
         replace p294:=eq_true p294
         replace q294:=eq_true q294
         go_wp2
         repeat (go_quiet (fail);try go_wp2)
         go_roundg k4
         case measure=>have:=HJ2.out;have:=HK2.out;have:=HK3.out;have:=HK4.out;omega
         case rel=>exact⟨(x11_4),(wrap64 (x11_4 - 1)),eS,eS,H',⟨by have:=HJ2.out;have:=HK2.out;have:=HK3.out;have:=HK4.out;omega⟩,⟨rR HO_6.out⟩,⟨rS HO_22.out⟩,⟨by repeat (first|(with_reducible exact HR284_0.out)|(with_reducible first|apply aC|apply nC|apply dC)|exact HR284_0.out|exact (Kd.V_reads' HL284_0.out).2.2)⟩,⟨kB HB.out⟩⟩
/-! ### spec_CommonWithin: function 42 -/
def spec_CommonWithin.f (k : Nat) (l0 : List Int) (l1 : List Int) (a2 : Int) : Option ((List (S56))) := (spec_CommonLen.f k l0 l1).bind fun t295 => (if t295 < 0 then (some ([] : List (S56))) else (if (wrap64 ((wrap64 ((l0.length : Int) + (l1.length : Int))) - (wrap64 (2 * t295)))) > a2 then (some ([] : List (S56))) else ((spec_CommonOf.f k l0 l1).bind fun t296 => (some t296))))
set_option maxHeartbeats 8000000 in
set_option maxRecDepth 100000 in
theorem spec_CommonWithin.calls (k : Nat) (A0 : Option Addr) (c0 : Nat) (l0 : List Int) (A1 : Option Addr) (c1 : Nat) (l1 : List Int) (a2 : Int) (r : List (S56)) (w : World) (hr0 : Kd.C (Kd.int .i64) w A0 l0.length l0) (hc0 : l0.length ≤ c0) (hr1 : Kd.C (Kd.int .i64) w A1 l1.length l1) (hc1 : l1.length ≤ c1) (h : spec_CommonWithin.f k l0 l1 a2 = some r) :
  Calls Try.prog 42 #[.slice A0 l0.length c0, .slice A1 l1.length c1, .int .i64 a2] w fun e w' => ∃ v0_ : Value, e = .returned (v0_) ∧ Kd.R k56 56 w' w.heap.size (fun _ => True) v0_ r ∧ Below w.heap.size w w' := by
 have HR0:=mk0 hr0
 have HC0:=mk0 hc0
 clear hr0 hc0
 have HR1:=mk0 hr1
 have HC1:=mk0 hc1
 clear hr1 hc1
 have HB:=mk0 (Below.refl w.heap.size w)
 have H:((spec_CommonLen.f k l0 l1).bind fun t295=>(if t295 < 0 then (some ([]:List (S56))) else (if (wrap64 ((wrap64 ((l0.length:Int) + (l1.length:Int))) - (wrap64 (2 * t295)))) > a2 then (some ([]:List (S56))) else ((spec_CommonOf.f k l0 l1).bind fun t296=>(some t296))))) = some r:=h
 clear h
 replace H:=bE H
 obtain⟨t295,A4,H⟩:=H
 by_cases c5:t295 < 0
 ·rw [if_pos c5] at H
  have c5b0:decide (t295 < 0) = true:=decide_eq_true c5
  clear c5
  obtain rfl:=Option.some.inj H
  go_enter Try.func42,Try.ntmps42
  go_wp2_with (first|((with_reducible refine gate_callee (f:=36) rfl ?_);refine gL (some 10) Try.func36 #[.slice A0 l0.length c0,.slice A1 l1.length c1] ?_;(with_reducible refine (spec_CommonLen.calls k _ _ l0 _ _ l1 t295 _ ?side1 ?side2 ?side3 ?side4 A4.out).mono ?_);(case side1=>exact kC HR0.out);(case side2=>exact HC0.out);(case side3=>exact kC HR1.out);(case side4=>exact HC1.out);rintro e w6 ⟨rfl,hb⟩;refine⟨_,rfl,?_⟩;replace HB:=mk0 (kS HB.out hb);(try clear hb)))
  go_ret
  exact⟨_,eR,by first|exact Kd.R_nil _ _ _ _ _|exact Kd.N_nil _ _ _ _ _|exact Kd.V_nil _ _ _ _ _|exact Kd.Q_nil _ _ _ _ _|exact Kd.S_nil _ _ _ _ _,kB HB.out⟩
 ·rw [if_neg c5] at H
  have c5b0:decide (t295 < 0) = false:=decide_eq_false c5
  clear c5
  by_cases c7:(wrap64 ((wrap64 ((l0.length:Int) + (l1.length:Int))) - (wrap64 (2 * t295)))) > a2
  ·rw [if_pos c7] at H
   have c7b0:decide (a2 < (wrap64 ((wrap64 ((l0.length:Int) + (l1.length:Int))) - (wrap64 (2 * t295))))) = true:=decide_eq_true c7
   clear c7
   obtain rfl:=Option.some.inj H
   go_enter Try.func42,Try.ntmps42
   go_wp2_with (first|((with_reducible refine gate_callee (f:=36) rfl ?_);refine gL (some 10) Try.func36 #[.slice A0 l0.length c0,.slice A1 l1.length c1] ?_;(with_reducible refine (spec_CommonLen.calls k _ _ l0 _ _ l1 t295 _ ?side1 ?side2 ?side3 ?side4 A4.out).mono ?_);(case side1=>exact kC HR0.out);(case side2=>exact HC0.out);(case side3=>exact kC HR1.out);(case side4=>exact HC1.out);rintro e w8 ⟨rfl,hb⟩;refine⟨_,rfl,?_⟩;replace HB:=mk0 (kS HB.out hb);(try clear hb)))
   go_ret
   exact⟨_,eR,by first|exact Kd.R_nil _ _ _ _ _|exact Kd.N_nil _ _ _ _ _|exact Kd.V_nil _ _ _ _ _|exact Kd.Q_nil _ _ _ _ _|exact Kd.S_nil _ _ _ _ _,kB HB.out⟩
  ·rw [if_neg c7] at H
   have c7b0:decide (a2 < (wrap64 ((wrap64 ((l0.length:Int) + (l1.length:Int))) - (wrap64 (2 * t295))))) = false:=decide_eq_false c7
   clear c7
   replace H:=bE H
   obtain⟨t296,A9,H⟩:=H
   obtain rfl:=Option.some.inj H
   go_enter Try.func42,Try.ntmps42
   go_wp2_with (first|((with_reducible refine gate_callee (f:=36) rfl ?_);refine gL (some 10) Try.func36 #[.slice A0 l0.length c0,.slice A1 l1.length c1] ?_;(with_reducible refine (spec_CommonLen.calls k _ _ l0 _ _ l1 t295 _ ?side1 ?side2 ?side3 ?side4 A4.out).mono ?_);(case side1=>exact kC HR0.out);(case side2=>exact HC0.out);(case side3=>exact kC HR1.out);(case side4=>exact HC1.out);rintro e w10 ⟨rfl,hb⟩;refine⟨_,rfl,?_⟩;replace HB:=mk0 (kS HB.out hb);(try clear hb))|((with_reducible refine gate_callee (f:=66) rfl ?_);refine gL (some 27) Try.func66 #[.slice A0 l0.length c0,.slice A1 l1.length c1] ?_;(with_reducible refine (spec_CommonOf.calls k _ _ l0 _ _ l1 t296 _ ?side1 ?side2 ?side3 ?side4 A9.out).mono ?_);(case side1=>exact kC (Kd.C_below HR0.out HB.out));(case side2=>exact HC0.out);(case side3=>exact kC (Kd.C_below HR1.out HB.out));(case side4=>exact HC1.out);rintro e w11 ⟨v297,rfl,ho0,hb⟩;refine⟨_,rfl,?_⟩;have HO298:=mk0 (Kd.R_lower ho0 (kZ HB.out));replace HB:=mk0 (kS HB.out hb);(try clear hb);(try clear ho0)))
   go_ret
   exact⟨_,eR,rR HO298.out,kB HB.out⟩
end Go.Proofs.Ytadhngelhognaaa.QFnShare
