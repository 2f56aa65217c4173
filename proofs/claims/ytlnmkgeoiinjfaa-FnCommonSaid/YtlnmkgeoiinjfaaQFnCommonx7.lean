-- A walk, made by walk.py, a program of this session's.
import Derived.Test.YtlnmkgeoiinjfaaQFnCommonx0
import Derived.Test.YtlnmkgeoiinjfaaQFnCommonx3
import Derived.Test.YtlnmkgeoiinjfaaQFnCommonx4
namespace Go.Proofs.Ytlnmkgeoiinjfaa.QFnCommon
open Go.RowKit Go.Proofs.YtlnmkgeoiinjfaaW.PrintWords Go.Proofs.YtlnmkgeoiinjfaaW.PrintLast Go.Proofs.YtlnmkgeoiinjfaaW.PrintMore
attribute [local go_sem] max2_int min2_int max_two min_two max_three min_three max_four min_four   -- for this text's walks alone
set_option linter.unusedVariables false
set_option linter.unusedSimpArgs false

/-! ### slices_Index_int_int: function 54 -/
def slices_Index_int_int.l0 : Nat → List Int → Int → Int → Int → Option (Int)
 | 0, _, _, _, _ => none
 | k + 1, x0, x1, x7, x8 => if x8 < x7 then (if 0 ≤ x8 then (if x8 < (x0.length : Int) then (if x1 = (rd x0 x8) then (some x8) else (slices_Index_int_int.l0 k x0 x1 x7 (wrap64 (x8 + 1)))) else (none)) else (none)) else (some (-1))
def slices_Index_int_int.f (k : Nat) (l0 : List Int) (a1 : Int) : Option (Int) := slices_Index_int_int.l0 k l0 a1 (l0.length : Int) 0
theorem slices_Index_int_int.mono_l : ∀ k, (∀ y0 y1 y2 y3, LeO (slices_Index_int_int.l0 k y0 y1 y2 y3) (slices_Index_int_int.l0 (k + 1) y0 y1 y2 y3))
 | 0 => fun _ _ _ _ r h => by simp [slices_Index_int_int.l0] at h
 | k + 1 => by
  have ih0 := slices_Index_int_int.mono_l k
  ·intro y0 y1 y2 y3
   unfold slices_Index_int_int.l0
   repeat' first
   | (with_reducible exact ih0 _ _ _ _)
   | (with_reducible exact LeO.refl _)
   | (with_reducible exact LeO.none _)
   | (with_reducible refine LeO.ite ?_ ?_)
   | (with_reducible refine LeO.bind ?_ (fun _ => ?_))
   | exact ih0 _ _ _ _
   | exact LeO.none _
   | refine LeO.ite ?_ ?_
   | refine LeO.bind ?_ (fun _ => ?_)
theorem slices_Index_int_int.mono : ∀ a0 a1 k, LeO (slices_Index_int_int.f k a0 a1) (slices_Index_int_int.f (k + 1) a0 a1) := by
 intro a0 a1 k
 have ih0 := slices_Index_int_int.mono_l k
 unfold slices_Index_int_int.f
 repeat' first
   | (with_reducible exact ih0 _ _ _ _)
   | (with_reducible exact LeO.refl _)
   | (with_reducible exact LeO.none _)
   | (with_reducible refine LeO.ite ?_ ?_)
   | (with_reducible refine LeO.bind ?_ (fun _ => ?_))
   | exact ih0 _ _ _ _
   | exact LeO.none _
   | refine LeO.ite ?_ ?_
   | refine LeO.bind ?_ (fun _ => ?_)
set_option maxHeartbeats 8000000 in
set_option maxRecDepth 100000 in
theorem slices_Index_int_int.calls (k : Nat) (A0 : Option Addr) (c0 : Nat) (l0 : List Int) (a1 : Int) (r : Int) (w : World) (hr0 : Kd.C (Kd.int .i64) w A0 l0.length l0) (hc0 : l0.length ≤ c0) (h : slices_Index_int_int.f k l0 a1 = some r) :
  Calls Try.prog 54 #[.slice A0 l0.length c0, .int .i64 a1] w fun e w' => e = .returned (.int .i64 r) ∧ Drawn0 w w' := by
 have HR0:=mk0 hr0
 have HC0:=mk0 hc0
 clear hr0 hc0
 have H:(slices_Index_int_int.l0 k l0 a1 (l0.length:Int) 0) = some r:=h
 clear h
 have H':=mk0 H
 clear H
 go_enter Try.func54,Try.ntmps54
 go_wp2
 go_loopg [8] k (fun kq v8 w'=>∃ (x8_1:Int),v8 = .int .i64 x8_1 ∧ Aside0 (slices_Index_int_int.l0 kq l0 a1 (l0.length:Int) x8_1 = some r) ∧ Aside0 (kq ≤ k) ∧ Drawn0 w w')
 case atStart=>exact⟨(0),(by first|rfl|(simp;done)|(simp [*];done)),H',⟨Nat.le_refl _⟩,by repeat (first|exact Drawn0.refl _|apply Drawn0.step)⟩
 case round =>
  clear H'
  try clear p2
  obtain⟨x8_1,rfl,HA,HK1,⟨m1,rfl⟩⟩:=hrel
  cases gk with
  | zero=>exact absurd HA.out (by simp [slices_Index_int_int.l0])
  | succ k1 =>
   have H:=HA.out
   clear HA
   simp only [slices_Index_int_int.l0] at H
   by_cases c3:x8_1 < (l0.length:Int)
   ·rw [if_pos c3] at H
    have c3b0:decide (x8_1 < (l0.length:Int)) = true:=decide_eq_true c3
    clear c3
    by_cases c4:0 ≤ x8_1
    ·rw [if_pos c4] at H
     have c4b0:decide (0 ≤ x8_1) = true:=decide_eq_true c4
     clear c4
     by_cases c5:x8_1 < (l0.length:Int)
     ·rw [if_pos c5] at H
      have c5b0:decide (x8_1 < (l0.length:Int)) = true:=decide_eq_true c5
      clear c5
      by_cases c6:a1 = (rd l0 x8_1)
      ·rw [if_pos c6] at H
       have c6b0:(a1 == (rd l0 x8_1)) = true:=beq_iff_eq.mpr c6
       have c6b1:(a1 != (rd l0 x8_1)) = false:=bne_eq_false_iff_eq.mpr c6
       clear c6
       obtain rfl:=Option.some.inj H
       have p183:0 ≤ (x8_1:Int):=of_decide_eq_true (by first|(with_reducible assumption)|assumption)
       have q183:x8_1 < (l0.length:Int):=of_decide_eq_true (by first|(with_reducible assumption)|assumption)
       obtain⟨ad183,e183,hx183_0⟩:=Kd.at_int HR0.out x8_1 p183 q183
       cases e183
       replace p183:=eq_true p183
       replace q183:=eq_true q183
       go_wp2
       go_ret
       exact⟨by first|rfl|(simp;done)|(simp [*];done),by repeat (first|exact Drawn0.refl _|apply Drawn0.step)⟩
      ·rw [if_neg c6] at H
       have c6b0:(a1 == (rd l0 x8_1)) = false:=beq_eq_false_iff_ne.mpr c6
       have c6b1:(a1 != (rd l0 x8_1)) = true:=bne_iff_ne.mpr c6
       have H':=mk0 H
       clear H
       have p183:0 ≤ (x8_1:Int):=of_decide_eq_true (by first|(with_reducible assumption)|assumption)
       have q183:x8_1 < (l0.length:Int):=of_decide_eq_true (by first|(with_reducible assumption)|assumption)
       obtain⟨ad183,e183,hx183_0⟩:=Kd.at_int HR0.out x8_1 p183 q183
       cases e183
       replace p183:=eq_true p183
       replace q183:=eq_true q183
       go_wp2
       go_roundg k1
       case measure=>have:=HK1.out;omega
       case rel=>exact⟨(wrap64 (x8_1 + 1)),(by first|rfl|(simp;done)|(simp [*];done)),H',⟨by have:=HK1.out;omega⟩,by repeat (first|exact Drawn0.refl _|apply Drawn0.step)⟩
     ·rw [if_neg c5] at H
      exact absurd H (by simp)
    ·rw [if_neg c4] at H
     exact absurd H (by simp)
   ·rw [if_neg c3] at H
    have c3b0:decide (x8_1 < (l0.length:Int)) = false:=decide_eq_false c3
    clear c3
    obtain rfl:=Option.some.inj H
    go_wp2
    go_ret
    exact⟨by first|rfl|(simp;done)|(simp [*];done),by repeat (first|exact Drawn0.refl _|apply Drawn0.step)⟩

/-! ### impl_commonOf: function 47 -/
def impl_commonOf.l0 : Nat → List Int → List Int → List (List Int) → List (S56) → Int → Int → Option ((List (S56)))
 | 0, _, _, _, _, _, _ => none
 | k + 1, x0, x1, x5, x6, x7, x8 => if 0 ≤ x7 then (if x7 < (x5.length : Int) then (if 0 ≤ x8 then (if x8 < ((rd_L1 x5 x7).length : Int) then (if (rd (rd_L1 x5 x7) x8) > 0 then (if x8 ≤ (x1.length : Int) then (if x7 < (x0.length : Int) then ((slices_Index_int_int.f k (x1.drop (x8 : Int).toNat) (rd x0 x7)).bind fun t191 => (if t191 ≥ 0 then (if 0 ≤ (wrap64 (x7 + 1)) then (if (wrap64 (x7 + 1)) < (x5.length : Int) then (if 0 ≤ (wrap64 ((wrap64 (x8 + t191)) + 1)) then (if (wrap64 ((wrap64 (x8 + t191)) + 1)) < ((rd_L1 x5 (wrap64 (x7 + 1))).length : Int) then (if (wrap64 ((rd (rd_L1 x5 (wrap64 (x7 + 1))) (wrap64 ((wrap64 (x8 + t191)) + 1))) + 1)) = (rd (rd_L1 x5 x7) x8) then (if x6.length < 8796093022208 then (impl_commonOf.l0 k x0 x1 x5 (x6 ++ [(⟨x7, wrap64 (x8 + t191)⟩ : S56)]) (wrap64 (x7 + 1)) (wrap64 (x8 + (wrap64 (t191 + 1))))) else (none)) else (impl_commonOf.l0 k x0 x1 x5 x6 (wrap64 (x7 + 1)) x8)) else (none)) else (none)) else (none)) else (none)) else (impl_commonOf.l0 k x0 x1 x5 x6 (wrap64 (x7 + 1)) x8))) else (none)) else (none)) else (some x6)) else (none)) else (none)) else (none)) else (none)
def impl_commonOf.f (k : Nat) (l0 : List Int) (l1 : List Int) : Option ((List (S56))) := (impl_commonTable.f k l0 l1).bind fun t184 => (impl_commonOf.l0 k l0 l1 t184 ([] : List (S56)) 0 0)
theorem impl_commonOf.mono_l : ∀ k, (∀ y0 y1 y2 y3 y4 y5, LeO (impl_commonOf.l0 k y0 y1 y2 y3 y4 y5) (impl_commonOf.l0 (k + 1) y0 y1 y2 y3 y4 y5))
 | 0 => fun _ _ _ _ _ _ r h => by simp [impl_commonOf.l0] at h
 | k + 1 => by
  have ih0 := impl_commonOf.mono_l k
  ·intro y0 y1 y2 y3 y4 y5
   unfold impl_commonOf.l0
   repeat' first
   | (with_reducible exact ih0 _ _ _ _ _ _)
   | (with_reducible exact impl_commonTable.mono _ _ _)
   | (with_reducible exact slices_Index_int_int.mono _ _ _)
   | (with_reducible exact LeO.refl _)
   | (with_reducible exact LeO.none _)
   | (with_reducible refine LeO.ite ?_ ?_)
   | (with_reducible refine LeO.bind ?_ (fun _ => ?_))
   | exact ih0 _ _ _ _ _ _
   | exact impl_commonTable.mono _ _ _
   | exact slices_Index_int_int.mono _ _ _
   | exact LeO.none _
   | refine LeO.ite ?_ ?_
   | refine LeO.bind ?_ (fun _ => ?_)
theorem impl_commonOf.mono : ∀ a0 a1 k, LeO (impl_commonOf.f k a0 a1) (impl_commonOf.f (k + 1) a0 a1) := by
 intro a0 a1 k
 have ih0 := impl_commonOf.mono_l k
 unfold impl_commonOf.f
 repeat' first
   | (with_reducible exact ih0 _ _ _ _ _ _)
   | (with_reducible exact impl_commonTable.mono _ _ _)
   | (with_reducible exact slices_Index_int_int.mono _ _ _)
   | (with_reducible exact LeO.refl _)
   | (with_reducible exact LeO.none _)
   | (with_reducible refine LeO.ite ?_ ?_)
   | (with_reducible refine LeO.bind ?_ (fun _ => ?_))
   | exact ih0 _ _ _ _ _ _
   | exact impl_commonTable.mono _ _ _
   | exact slices_Index_int_int.mono _ _ _
   | exact LeO.none _
   | refine LeO.ite ?_ ?_
   | refine LeO.bind ?_ (fun _ => ?_)
set_option maxHeartbeats 8000000 in
set_option maxRecDepth 100000 in
theorem impl_commonOf.calls (k : Nat) (A0 : Option Addr) (c0 : Nat) (l0 : List Int) (A1 : Option Addr) (c1 : Nat) (l1 : List Int) (r : List (S56)) (w : World) (hr0 : Kd.C (Kd.int .i64) w A0 l0.length l0) (hc0 : l0.length ≤ c0) (hr1 : Kd.C (Kd.int .i64) w A1 l1.length l1) (hc1 : l1.length ≤ c1) (h : impl_commonOf.f k l0 l1 = some r) :
  Calls Try.prog 47 #[.slice A0 l0.length c0, .slice A1 l1.length c1] w fun e w' => ∃ v0_ : Value, e = .returned (v0_) ∧ Kd.R k56 56 w' w.heap.size (fun _ => True) v0_ r ∧ Below w.heap.size w w' := by
 have hu56:=Try.underlying56
 have HR0:=mk0 hr0
 have HC0:=mk0 hc0
 clear hr0 hc0
 have HR1:=mk0 hr1
 have HC1:=mk0 hc1
 clear hr1 hc1
 have HB:=mk0 (Below.refl w.heap.size w)
 have H:((impl_commonTable.f k l0 l1).bind fun t184=>(impl_commonOf.l0 k l0 l1 t184 ([]:List (S56)) 0 0)) = some r:=h
 clear h
 replace H:=Option.bind_eq_some_iff.mp H
 obtain⟨t184,A30,H⟩:=H
 replace H:(impl_commonOf.l0 k l0 l1 t184 ([]:List (S56)) 0 0) = some r:=H
 have A3:=mk0 A30
 clear A30
 have H':=mk0 H
 clear H
 go_enter Try.func47,Try.ntmps47
 go_wp2_with (first|(go_at_call 38;(with_reducible refine (impl_commonTable.calls k _ _ l0 _ _ l1 t184 _ ?side1 ?side2 ?side3 ?side4 A3.out).mono ?_);(case side1=>repeat (first|exact HR0.out|(with_reducible first|refine aC ?_ _|refine nC ?_ _|refine dC ?_)));(case side2=>exact HC0.out);(case side3=>repeat (first|exact HR1.out|(with_reducible first|refine aC ?_ _|refine nC ?_ _|refine dC ?_)));(case side4=>exact HC1.out);rintro e w4 ⟨v185,rfl,ho0,hb⟩;have n0_:=mk0 (Kd.S_lower ho0 (below_size (by repeat (first|(with_reducible first|exact HB.out|apply aZ|apply nZ|apply dZ)|exact HB.out))));have n1_:=mk0 (below_step (by repeat (first|(with_reducible first|exact HB.out|apply aZ|apply nZ|apply dZ)|exact HB.out)) hb);clear HB;have HO186:=n0_;have HB:=n1_;clear n0_ n1_;(try clear hb);(try clear hb2);(try clear hk);(try clear hi);(try clear ho0)))
 repeat (go_quiet (first|(go_at_call 38;(with_reducible refine (impl_commonTable.calls k _ _ l0 _ _ l1 t184 _ ?side1 ?side2 ?side3 ?side4 A3.out).mono ?_);(case side1=>repeat (first|exact HR0.out|(with_reducible first|refine aC ?_ _|refine nC ?_ _|refine dC ?_)));(case side2=>exact HC0.out);(case side3=>repeat (first|exact HR1.out|(with_reducible first|refine aC ?_ _|refine nC ?_ _|refine dC ?_)));(case side4=>exact HC1.out);rintro e w4 ⟨v185,rfl,ho0,hb⟩;have n0_:=mk0 (Kd.S_lower ho0 (below_size (by repeat (first|(with_reducible first|exact HB.out|apply aZ|apply nZ|apply dZ)|exact HB.out))));have n1_:=mk0 (below_step (by repeat (first|(with_reducible first|exact HB.out|apply aZ|apply nZ|apply dZ)|exact HB.out)) hb);clear HB;have HO186:=n0_;have HB:=n1_;clear n0_ n1_;(try clear hb);(try clear hb2);(try clear hk);(try clear hi);(try clear ho0)));try go_wp2_with (first|(go_at_call 38;(with_reducible refine (impl_commonTable.calls k _ _ l0 _ _ l1 t184 _ ?side1 ?side2 ?side3 ?side4 A3.out).mono ?_);(case side1=>repeat (first|exact HR0.out|(with_reducible first|refine aC ?_ _|refine nC ?_ _|refine dC ?_)));(case side2=>exact HC0.out);(case side3=>repeat (first|exact HR1.out|(with_reducible first|refine aC ?_ _|refine nC ?_ _|refine dC ?_)));(case side4=>exact HC1.out);rintro e w4 ⟨v185,rfl,ho0,hb⟩;have n0_:=mk0 (Kd.S_lower ho0 (below_size (by repeat (first|(with_reducible first|exact HB.out|apply aZ|apply nZ|apply dZ)|exact HB.out))));have n1_:=mk0 (below_step (by repeat (first|(with_reducible first|exact HB.out|apply aZ|apply nZ|apply dZ)|exact HB.out)) hb);clear HB;have HO186:=n0_;have HB:=n1_;clear n0_ n1_;(try clear hb);(try clear hb2);(try clear hk);(try clear hi);(try clear ho0))))
 go_loopg [6,7,8] k (fun kq v6 v7 v8 w'=>∃ (x6_1:List (S56)) (x7_1:Int) (x8_1:Int),v7 = .int .i64 x7_1 ∧ v8 = .int .i64 x8_1 ∧ Aside0 (impl_commonOf.l0 kq l0 l1 t184 x6_1 x7_1 x8_1 = some r) ∧ Aside0 (kq ≤ k) ∧ Aside0 (Kd.S (Kd.slice 3 (Kd.int .i64)) 22 w' w.heap.size (fun _=>True) v185 t184) ∧ Aside0 (Kd.R k56 56 w' w.heap.size (fun _=>True) v6 x6_1) ∧ Aside0 (Below w.heap.size w w'))
 case atStart=>exact⟨(([]:List (S56))),(0),(0),(by first|rfl|(simp;done)|(simp [*];done)),(by first|rfl|(simp;done)|(simp [*];done)),H',⟨Nat.le_refl _⟩,⟨by (with_reducible repeat (first|apply aS|apply nS|apply dS));exact HO186.out⟩,⟨by first|exact Kd.R_nil _ _ _ _ _|exact Kd.N_nil _ _ _ _ _|exact Kd.V_nil _ _ _ _ _|exact Kd.Q_nil _ _ _ _ _|exact Kd.S_nil _ _ _ _ _⟩,⟨by repeat (first|(with_reducible first|exact HB.out|apply aZ|apply nZ|apply dZ)|exact HB.out)⟩⟩
 case round =>
  clear H'
  try clear c1
  try clear p2
  try clear c4
  obtain⟨x6_1,x7_1,x8_1,rfl,rfl,HA,HK1,HO_5,HO_6,HB⟩:=hrel
  cases gk with
  | zero=>exact absurd HA.out (by simp [impl_commonOf.l0])
  | succ k1 =>
   have H:=HA.out
   clear HA
   simp only [impl_commonOf.l0] at H
   by_cases c5:0 ≤ x7_1
   rotate_left
   ·rw [if_neg c5] at H
    exact absurd H (by simp)

   rw [if_pos c5] at H
   have c5b0:decide (0 ≤ x7_1) = true:=decide_eq_true c5
   clear c5
   by_cases c6:x7_1 < (t184.length:Int)
   rotate_left
   ·rw [if_neg c6] at H
    exact absurd H (by simp)
   rw [if_pos c6] at H
   have c6b0:decide (x7_1 < (t184.length:Int)) = true:=decide_eq_true c6
   (try simp only [hl187_0] at c6b0)
   (try simp only [hl192_0] at c6b0)
   (try simp only [hl194_0] at c6b0)
   clear c6
   by_cases c7:0 ≤ x8_1
   rotate_left
   ·rw [if_neg c7] at H
    exact absurd H (by simp)
   rw [if_pos c7] at H
   have c7b0:decide (0 ≤ x8_1) = true:=decide_eq_true c7
   clear c7
   by_cases c8:x8_1 < ((rd_L1 t184 x7_1).length:Int)
   rotate_left
   ·rw [if_neg c8] at H
    exact absurd H (by simp)
   rw [if_pos c8] at H
   have c8b0:decide (x8_1 < ((rd_L1 t184 x7_1).length:Int)) = true:=decide_eq_true c8
   (try simp only [hl187_0] at c8b0)
   (try simp only [hl192_0] at c8b0)
   (try simp only [hl194_0] at c8b0)
   clear c8
   by_cases c9:(rd (rd_L1 t184 x7_1) x8_1) > 0
   rotate_left
   ·rw [if_neg c9] at H
    have c9b0:decide (0 < (rd (rd_L1 t184 x7_1) x8_1)) = false:=decide_eq_false c9
    clear c9
    obtain rfl:=Option.some.inj H
    obtain⟨Ao30,co30,eo30⟩:=Kd.S_slice HO_5.out
    subst eo30
    have p187:0 ≤ (x7_1:Int):=of_decide_eq_true (by first|(with_reducible assumption)|assumption)
    have q187:x7_1 < (t184.length:Int):=of_decide_eq_true (by first|(with_reducible assumption)|assumption)
    obtain⟨ad187,A187_0,c187_0,e187,hx187_0,hl187_0,hi187_0⟩:=at_L1 (Kd.S_reads' HO_5.out).2.2 x7_1 p187 q187
    cases e187
    obtain⟨ce187,hce187,hMe187,hcc187⟩:=Kd.S_get HO_5.out [] x7_1 p187 (by first|exact q187|exact of_decide_eq_true (by first|(with_reducible assumption)|assumption)|(have e_:=(Kd.S_reads' HO_5.out).1;omega))
    obtain⟨ve187_0,rfl,ge187_0⟩:=hMe187
    have hv187_0:=hcc187 0 _ rfl
    rw [Nat.add_zero,show ((Kd.slice 3 (Kd.int .i64))).sz = 1 from rfl,Nat.mul_one] at hv187_0
    replace hv187_0:=Option.some.inj (hv187_0.symm.trans hx187_0)
    rw [hv187_0] at ge187_0
    have HL187_0:=mk0 (show Kd.R (Kd.int .i64) 3 _ _ _ _ (rd_L1 t184 x7_1) from ge187_0)
    clear hv187_0 ge187_0
    clear hcc187 hce187
    have HR187_0:=mk0 hi187_0
    have HC187_0:=mk0 hl187_0
    clear hi187_0 hl187_0
    replace p187:=eq_true p187
    replace q187:=eq_true q187
    have p188:0 ≤ (x8_1:Int):=of_decide_eq_true (by first|(with_reducible assumption)|assumption)
    have q188:x8_1 < ((rd_L1 t184 x7_1).length:Int):=of_decide_eq_true (by first|(with_reducible assumption)|assumption)
    obtain⟨ad188,e188,hx188_0⟩:=Kd.at_int (by repeat (first|(with_reducible exact HR187_0.out)|(with_reducible first|refine aC ?_ _|refine nC ?_ _|refine dC ?_)|exact HR187_0.out)) x8_1 p188 q188
    cases e188
    replace p188:=eq_true p188
    replace q188:=eq_true q188
    go_wp2
    repeat (go_quiet (fail);try go_wp2)
    go_ret
    exact⟨_,by first|rfl|(simp [errW_none,errW_some] <;> rfl)|(simp [*,errW_none,errW_some] <;> rfl),by (with_reducible repeat (first|apply aR|apply nR|apply dR));exact HO_6.out,by repeat (first|(with_reducible first|exact HB.out|apply aZ|apply nZ|apply dZ)|exact HB.out)⟩
   rw [if_pos c9] at H
   have c9b0:decide (0 < (rd (rd_L1 t184 x7_1) x8_1)) = true:=decide_eq_true c9
   clear c9
   have c10b0:=eq_true (of_decide_eq_true (by first|(with_reducible assumption)|assumption):0 ≤ x8_1)
   by_cases c11:x8_1 ≤ (l1.length:Int)
   rotate_left
   ·rw [if_neg c11] at H
    exact absurd H (by simp)
   rw [if_pos c11] at H
   have c11b0:=eq_true c11
   have c11b1:decide (x8_1 ≤ (l1.length:Int)) = true:=decide_eq_true c11
   (try simp only [hl187_0] at c11b1)
   (try simp only [hl192_0] at c11b1)
   (try simp only [hl194_0] at c11b1)
   clear c11
   by_cases c12:x7_1 < (l0.length:Int)
   rotate_left
   ·rw [if_neg c12] at H
    exact absurd H (by simp)
   rw [if_pos c12] at H
   have c12b0:decide (x7_1 < (l0.length:Int)) = true:=decide_eq_true c12
   (try simp only [hl187_0] at c12b0)
   (try simp only [hl192_0] at c12b0)
   (try simp only [hl194_0] at c12b0)
   clear c12
   replace H:=Option.bind_eq_some_iff.mp H
   obtain⟨t191,A130,H⟩:=H
   replace H:(if t191 ≥ 0 then (if 0 ≤ (wrap64 (x7_1 + 1)) then (if (wrap64 (x7_1 + 1)) < (t184.length:Int) then (if 0 ≤ (wrap64 ((wrap64 (x8_1 + t191)) + 1)) then (if (wrap64 ((wrap64 (x8_1 + t191)) + 1)) < ((rd_L1 t184 (wrap64 (x7_1 + 1))).length:Int) then (if (wrap64 ((rd (rd_L1 t184 (wrap64 (x7_1 + 1))) (wrap64 ((wrap64 (x8_1 + t191)) + 1))) + 1)) = (rd (rd_L1 t184 x7_1) x8_1) then (if x6_1.length < 8796093022208 then (impl_commonOf.l0 k1 l0 l1 t184 (x6_1 ++ [(⟨x7_1,wrap64 (x8_1 + t191)⟩:S56)]) (wrap64 (x7_1 + 1)) (wrap64 (x8_1 + (wrap64 (t191 + 1))))) else (none)) else (impl_commonOf.l0 k1 l0 l1 t184 x6_1 (wrap64 (x7_1 + 1)) x8_1)) else (none)) else (none)) else (none)) else (none)) else (impl_commonOf.l0 k1 l0 l1 t184 x6_1 (wrap64 (x7_1 + 1)) x8_1)) = some r:=H
   have A13:=mk0 A130
   clear A130
   by_cases c14:t191 ≥ 0
   rotate_left
   ·rw [if_neg c14] at H
    have c14b0:decide (0 ≤ t191) = false:=decide_eq_false c14
    clear c14
    have H':=mk0 H
    clear H
    obtain⟨Ao28,co28,eo28⟩:=Kd.S_slice HO_5.out
    subst eo28
    have p187:0 ≤ (x7_1:Int):=of_decide_eq_true (by first|(with_reducible assumption)|assumption)
    have q187:x7_1 < (t184.length:Int):=of_decide_eq_true (by first|(with_reducible assumption)|assumption)
    obtain⟨ad187,A187_0,c187_0,e187,hx187_0,hl187_0,hi187_0⟩:=at_L1 (Kd.S_reads' HO_5.out).2.2 x7_1 p187 q187
    cases e187
    obtain⟨ce187,hce187,hMe187,hcc187⟩:=Kd.S_get HO_5.out [] x7_1 p187 (by first|exact q187|exact of_decide_eq_true (by first|(with_reducible assumption)|assumption)|(have e_:=(Kd.S_reads' HO_5.out).1;omega))
    obtain⟨ve187_0,rfl,ge187_0⟩:=hMe187
    have hv187_0:=hcc187 0 _ rfl
    rw [Nat.add_zero,show ((Kd.slice 3 (Kd.int .i64))).sz = 1 from rfl,Nat.mul_one] at hv187_0
    replace hv187_0:=Option.some.inj (hv187_0.symm.trans hx187_0)
    rw [hv187_0] at ge187_0
    have HL187_0:=mk0 (show Kd.R (Kd.int .i64) 3 _ _ _ _ (rd_L1 t184 x7_1) from ge187_0)
    clear hv187_0 ge187_0
    clear hcc187 hce187
    have HR187_0:=mk0 hi187_0
    have HC187_0:=mk0 hl187_0
    clear hi187_0 hl187_0
    replace p187:=eq_true p187
    replace q187:=eq_true q187
    have p188:0 ≤ (x8_1:Int):=of_decide_eq_true (by first|(with_reducible assumption)|assumption)
    have q188:x8_1 < ((rd_L1 t184 x7_1).length:Int):=of_decide_eq_true (by first|(with_reducible assumption)|assumption)
    obtain⟨ad188,e188,hx188_0⟩:=Kd.at_int (by repeat (first|(with_reducible exact HR187_0.out)|(with_reducible first|refine aC ?_ _|refine nC ?_ _|refine dC ?_)|exact HR187_0.out)) x8_1 p188 q188
    cases e188
    replace p188:=eq_true p188
    replace q188:=eq_true q188
    obtain⟨i029,hi029,_,hsz29,_⟩:=info_parts info3
    obtain⟨A29,hcut29,hA29,hC29⟩:=print_drop_of (P:=Try.prog) (Value.int .i64) 0 22 3 .i64 Try.underlying22 hi029 hsz29 A1 c1 l1 x8_1 (of_decide_eq_true (by first|(with_reducible assumption)|assumption)) (of_decide_eq_true (by first|(with_reducible assumption)|assumption)) HC1.out
    have HR189:=mk0 (Kd.C_of_reads (h1:=fun _=>rfl) (hA29 _ (Kd.reads_of_C HR1.out)))
    have HC189:=mk0 hC29
    clear hA29 hC29 hi029 hsz29
    have p190:0 ≤ (x7_1:Int):=of_decide_eq_true (by first|(with_reducible assumption)|assumption)
    have q190:x7_1 < (l0.length:Int):=of_decide_eq_true (by first|(with_reducible assumption)|assumption)
    obtain⟨ad190,e190,hx190_0⟩:=Kd.at_int HR0.out x7_1 p190 q190
    cases e190
    replace hx190_0:=(HB.out.cell (World.block_lt_of_cell? w _ hx190_0)).trans hx190_0
    replace p190:=eq_true p190
    replace q190:=eq_true q190
    go_wp2_with (first|(go_at_call 54;refine calls_of_args (args':=#[.slice A29 (l1.drop (x8_1:Int).toNat).length (c1 - x8_1.toNat),.int .i64 (rd l0 x7_1)]) (by first|(rw [show (l1.drop (x8_1:Int).toNat).length = (l1.length - x8_1.toNat) from List.length_drop] <;> rfl)|rfl|(simp only [List.length_drop,List.length_take];rfl)) ?_;(with_reducible refine (slices_Index_int_int.calls k1 _ _ (l1.drop (x8_1:Int).toNat) (rd l0 x7_1) t191 _ ?side1 ?side2 A13.out).mono ?_);(case side1=>repeat (first|exact (Kd.C_below HR189.out HB.out)|(with_reducible first|refine aC ?_ _|refine nC ?_ _|refine dC ?_)));(case side2=>exact HC189.out);rintro e w' ⟨rfl,⟨nd,rfl⟩⟩;(try first|exact⟨rfl,_,World.drewN_drewN _ _ _⟩|exact⟨rfl,_,Eq.trans (World.drewN_drewN _ _ _) (congrArg (World.drewN _) (Nat.add_assoc _ _ _))⟩)))
    repeat (go_quiet (first|(go_at_call 54;refine calls_of_args (args':=#[.slice A29 (l1.drop (x8_1:Int).toNat).length (c1 - x8_1.toNat),.int .i64 (rd l0 x7_1)]) (by first|(rw [show (l1.drop (x8_1:Int).toNat).length = (l1.length - x8_1.toNat) from List.length_drop] <;> rfl)|rfl|(simp only [List.length_drop,List.length_take];rfl)) ?_;(with_reducible refine (slices_Index_int_int.calls k1 _ _ (l1.drop (x8_1:Int).toNat) (rd l0 x7_1) t191 _ ?side1 ?side2 A13.out).mono ?_);(case side1=>repeat (first|exact (Kd.C_below HR189.out HB.out)|(with_reducible first|refine aC ?_ _|refine nC ?_ _|refine dC ?_)));(case side2=>exact HC189.out);rintro e w' ⟨rfl,⟨nd,rfl⟩⟩;(try first|exact⟨rfl,_,World.drewN_drewN _ _ _⟩|exact⟨rfl,_,Eq.trans (World.drewN_drewN _ _ _) (congrArg (World.drewN _) (Nat.add_assoc _ _ _))⟩)));try go_wp2_with (first|(go_at_call 54;refine calls_of_args (args':=#[.slice A29 (l1.drop (x8_1:Int).toNat).length (c1 - x8_1.toNat),.int .i64 (rd l0 x7_1)]) (by first|(rw [show (l1.drop (x8_1:Int).toNat).length = (l1.length - x8_1.toNat) from List.length_drop] <;> rfl)|rfl|(simp only [List.length_drop,List.length_take];rfl)) ?_;(with_reducible refine (slices_Index_int_int.calls k1 _ _ (l1.drop (x8_1:Int).toNat) (rd l0 x7_1) t191 _ ?side1 ?side2 A13.out).mono ?_);(case side1=>repeat (first|exact (Kd.C_below HR189.out HB.out)|(with_reducible first|refine aC ?_ _|refine nC ?_ _|refine dC ?_)));(case side2=>exact HC189.out);rintro e w' ⟨rfl,⟨nd,rfl⟩⟩;(try first|exact⟨rfl,_,World.drewN_drewN _ _ _⟩|exact⟨rfl,_,Eq.trans (World.drewN_drewN _ _ _) (congrArg (World.drewN _) (Nat.add_assoc _ _ _))⟩))))
    go_roundg k1
    case measure=>have:=HK1.out;omega
    case rel=>exact⟨(x6_1),(wrap64 (x7_1 + 1)),(x8_1),(by first|rfl|(simp;done)|(simp [*];done)),(by first|rfl|(simp;done)|(simp [*];done)),H',⟨by have:=HK1.out;omega⟩,⟨by (with_reducible repeat (first|apply aS|apply nS|apply dS));exact HO_5.out⟩,⟨by (with_reducible repeat (first|apply aR|apply nR|apply dR));exact HO_6.out⟩,⟨by repeat (first|(with_reducible first|exact HB.out|apply aZ|apply nZ|apply dZ)|exact HB.out)⟩⟩
   rw [if_pos c14] at H
   have c14b0:decide (0 ≤ t191) = true:=decide_eq_true c14
   clear c14
   obtain⟨ji15,hji15⟩:∃ j_:Int,(wrap64 (x7_1 + 1)) = j_:=⟨_,rfl⟩
   replace H:(if 0 ≤ (ji15) then (if (ji15) < (t184.length:Int) then (if 0 ≤ (wrap64 ((wrap64 (x8_1 + t191)) + 1)) then (if (wrap64 ((wrap64 (x8_1 + t191)) + 1)) < ((rd_L1 t184 (ji15)).length:Int) then (if (wrap64 ((rd (rd_L1 t184 (ji15)) (wrap64 ((wrap64 (x8_1 + t191)) + 1))) + 1)) = (rd (rd_L1 t184 x7_1) x8_1) then (if x6_1.length < 8796093022208 then (impl_commonOf.l0 k1 l0 l1 t184 (x6_1 ++ [(⟨x7_1,wrap64 (x8_1 + t191)⟩:S56)]) ji15 (wrap64 (x8_1 + (wrap64 (t191 + 1))))) else (none)) else (impl_commonOf.l0 k1 l0 l1 t184 x6_1 ji15 x8_1)) else (none)) else (none)) else (none)) else (none)) = some r:=by first|(rw [hji15] at H;exact H)|(simp only [hji15] at H ⊢;exact H)
   (try rw [hji15] at A13)
   have hji15w:(IntKind.i64.wrap (x7_1 + 1)) = ji15:=(i64_w _).trans hji15
   by_cases c16:0 ≤ (ji15)
   rotate_left
   ·rw [if_neg c16] at H
    exact absurd H (by simp)
   rw [if_pos c16] at H
   have c16b0:decide (0 ≤ (ji15)) = true:=decide_eq_true c16
   clear c16
   by_cases c17:(ji15) < (t184.length:Int)
   rotate_left
   ·rw [if_neg c17] at H
    exact absurd H (by simp)
   rw [if_pos c17] at H
   have c17b0:decide ((ji15) < (t184.length:Int)) = true:=decide_eq_true c17
   (try simp only [hl187_0] at c17b0)
   (try simp only [hl192_0] at c17b0)
   (try simp only [hl194_0] at c17b0)
   clear c17
   obtain⟨ji18,hji18⟩:∃ j_:Int,(wrap64 ((wrap64 (x8_1 + t191)) + 1)) = j_:=⟨_,rfl⟩
   replace H:(if 0 ≤ (ji18) then (if (ji18) < ((rd_L1 t184 (ji15)).length:Int) then (if (wrap64 ((rd (rd_L1 t184 (ji15)) (ji18)) + 1)) = (rd (rd_L1 t184 x7_1) x8_1) then (if x6_1.length < 8796093022208 then (impl_commonOf.l0 k1 l0 l1 t184 (x6_1 ++ [(⟨x7_1,wrap64 (x8_1 + t191)⟩:S56)]) ji15 (wrap64 (x8_1 + (wrap64 (t191 + 1))))) else (none)) else (impl_commonOf.l0 k1 l0 l1 t184 x6_1 ji15 x8_1)) else (none)) else (none)) = some r:=by first|(rw [hji18] at H;exact H)|(simp only [hji18] at H ⊢;exact H)
   (try rw [hji18] at A13)
   have hji18w:(IntKind.i64.wrap ((wrap64 (x8_1 + t191)) + 1)) = ji18:=(i64_w _).trans hji18
   by_cases c19:0 ≤ (ji18)
   rotate_left
   ·rw [if_neg c19] at H
    exact absurd H (by simp)
   rw [if_pos c19] at H
   have c19b0:decide (0 ≤ (ji18)) = true:=decide_eq_true c19
   clear c19
   by_cases c20:(ji18) < ((rd_L1 t184 (ji15)).length:Int)
   rotate_left
   ·rw [if_neg c20] at H
    exact absurd H (by simp)
   rw [if_pos c20] at H
   have c20b0:decide ((ji18) < ((rd_L1 t184 (ji15)).length:Int)) = true:=decide_eq_true c20
   (try simp only [hl187_0] at c20b0)
   (try simp only [hl192_0] at c20b0)
   (try simp only [hl194_0] at c20b0)
   clear c20
   by_cases c21:(wrap64 ((rd (rd_L1 t184 (ji15)) (ji18)) + 1)) = (rd (rd_L1 t184 x7_1) x8_1)
   rotate_left
   ·rw [if_neg c21] at H
    have c21b0:((wrap64 ((rd (rd_L1 t184 (ji15)) (ji18)) + 1)) == (rd (rd_L1 t184 x7_1) x8_1)) = false:=beq_eq_false_iff_ne.mpr c21
    have c21b1:((wrap64 ((rd (rd_L1 t184 (ji15)) (ji18)) + 1)) != (rd (rd_L1 t184 x7_1) x8_1)) = true:=bne_iff_ne.mpr c21
    have H':=mk0 H
    clear H
    obtain⟨Ao26,co26,eo26⟩:=Kd.S_slice HO_5.out
    subst eo26
    have p187:0 ≤ (x7_1:Int):=of_decide_eq_true (by first|(with_reducible assumption)|assumption)
    have q187:x7_1 < (t184.length:Int):=of_decide_eq_true (by first|(with_reducible assumption)|assumption)
    obtain⟨ad187,A187_0,c187_0,e187,hx187_0,hl187_0,hi187_0⟩:=at_L1 (Kd.S_reads' HO_5.out).2.2 x7_1 p187 q187
    cases e187
    obtain⟨ce187,hce187,hMe187,hcc187⟩:=Kd.S_get HO_5.out [] x7_1 p187 (by first|exact q187|exact of_decide_eq_true (by first|(with_reducible assumption)|assumption)|(have e_:=(Kd.S_reads' HO_5.out).1;omega))
    obtain⟨ve187_0,rfl,ge187_0⟩:=hMe187
    have hv187_0:=hcc187 0 _ rfl
    rw [Nat.add_zero,show ((Kd.slice 3 (Kd.int .i64))).sz = 1 from rfl,Nat.mul_one] at hv187_0
    replace hv187_0:=Option.some.inj (hv187_0.symm.trans hx187_0)
    rw [hv187_0] at ge187_0
    have HL187_0:=mk0 (show Kd.R (Kd.int .i64) 3 _ _ _ _ (rd_L1 t184 x7_1) from ge187_0)
    clear hv187_0 ge187_0
    clear hcc187 hce187
    have HR187_0:=mk0 hi187_0
    have HC187_0:=mk0 hl187_0
    clear hi187_0 hl187_0
    replace p187:=eq_true p187
    replace q187:=eq_true q187
    have p188:0 ≤ (x8_1:Int):=of_decide_eq_true (by first|(with_reducible assumption)|assumption)
    have q188:x8_1 < ((rd_L1 t184 x7_1).length:Int):=of_decide_eq_true (by first|(with_reducible assumption)|assumption)
    obtain⟨ad188,e188,hx188_0⟩:=Kd.at_int (by repeat (first|(with_reducible exact HR187_0.out)|(with_reducible first|refine aC ?_ _|refine nC ?_ _|refine dC ?_)|exact HR187_0.out)) x8_1 p188 q188
    cases e188
    replace p188:=eq_true p188
    replace q188:=eq_true q188
    obtain⟨i027,hi027,_,hsz27,_⟩:=info_parts info3
    obtain⟨A27,hcut27,hA27,hC27⟩:=print_drop_of (P:=Try.prog) (Value.int .i64) 0 22 3 .i64 Try.underlying22 hi027 hsz27 A1 c1 l1 x8_1 (of_decide_eq_true (by first|(with_reducible assumption)|assumption)) (of_decide_eq_true (by first|(with_reducible assumption)|assumption)) HC1.out
    have HR189:=mk0 (Kd.C_of_reads (h1:=fun _=>rfl) (hA27 _ (Kd.reads_of_C HR1.out)))
    have HC189:=mk0 hC27
    clear hA27 hC27 hi027 hsz27
    have p190:0 ≤ (x7_1:Int):=of_decide_eq_true (by first|(with_reducible assumption)|assumption)
    have q190:x7_1 < (l0.length:Int):=of_decide_eq_true (by first|(with_reducible assumption)|assumption)
    obtain⟨ad190,e190,hx190_0⟩:=Kd.at_int HR0.out x7_1 p190 q190
    cases e190
    replace hx190_0:=(HB.out.cell (World.block_lt_of_cell? w _ hx190_0)).trans hx190_0
    replace p190:=eq_true p190
    replace q190:=eq_true q190
    go_wp2_with (first|(go_at_call 54;refine calls_of_args (args':=#[.slice A27 (l1.drop (x8_1:Int).toNat).length (c1 - x8_1.toNat),.int .i64 (rd l0 x7_1)]) (by first|(rw [show (l1.drop (x8_1:Int).toNat).length = (l1.length - x8_1.toNat) from List.length_drop] <;> rfl)|rfl|(simp only [List.length_drop,List.length_take];rfl)) ?_;(with_reducible refine (slices_Index_int_int.calls k1 _ _ (l1.drop (x8_1:Int).toNat) (rd l0 x7_1) t191 _ ?side1 ?side2 A13.out).mono ?_);(case side1=>repeat (first|exact (Kd.C_below HR189.out HB.out)|(with_reducible first|refine aC ?_ _|refine nC ?_ _|refine dC ?_)));(case side2=>exact HC189.out);rintro e w' ⟨rfl,⟨nd,rfl⟩⟩;(try first|exact⟨rfl,_,World.drewN_drewN _ _ _⟩|exact⟨rfl,_,Eq.trans (World.drewN_drewN _ _ _) (congrArg (World.drewN _) (Nat.add_assoc _ _ _))⟩);have p192:0 ≤ ((ji15):Int):=of_decide_eq_true (by first|(with_reducible assumption)|assumption);have q192:(ji15) < (t184.length:Int):=of_decide_eq_true (by first|(with_reducible assumption)|assumption);obtain⟨ad192,A192_0,c192_0,e192,hx192_0,hl192_0,hi192_0⟩:=at_L1 (Kd.S_reads' HO_5.out).2.2 (ji15) p192 q192;obtain rfl:ad187 = ad192:=(by injection e192);obtain⟨ce192,hce192,hMe192,hcc192⟩:=Kd.S_get HO_5.out [] (ji15) p192 (by first|exact q192|exact of_decide_eq_true (by first|(with_reducible assumption)|assumption)|(have e_:=(Kd.S_reads' HO_5.out).1;omega));obtain⟨ve192_0,rfl,ge192_0⟩:=hMe192;have hv192_0:=hcc192 0 _ rfl;rw [Nat.add_zero,show ((Kd.slice 3 (Kd.int .i64))).sz = 1 from rfl,Nat.mul_one] at hv192_0;replace hv192_0:=Option.some.inj (hv192_0.symm.trans hx192_0);rw [hv192_0] at ge192_0;have HL192_0:=mk0 (show Kd.R (Kd.int .i64) 3 _ _ _ _ (rd_L1 t184 (ji15)) from ge192_0);clear hv192_0 ge192_0 hcc192 hce192;have HR192_0:=mk0 hi192_0;have HC192_0:=mk0 hl192_0;clear hi192_0 hl192_0;replace p192:=eq_true p192;replace q192:=eq_true q192;have p193:0 ≤ ((ji18):Int):=of_decide_eq_true (by first|(with_reducible assumption)|assumption);have q193:(ji18) < ((rd_L1 t184 (ji15)).length:Int):=of_decide_eq_true (by first|(with_reducible assumption)|assumption);obtain⟨ad193,e193,hx193_0⟩:=Kd.at_int (by repeat (first|(with_reducible exact HR192_0.out)|(with_reducible first|refine aC ?_ _|refine nC ?_ _|refine dC ?_)|exact HR192_0.out)) (ji18) p193 q193;cases e193;replace p193:=eq_true p193;replace q193:=eq_true q193;have p194:0 ≤ (x7_1:Int):=of_decide_eq_true (by first|(with_reducible assumption)|assumption);have q194:x7_1 < (t184.length:Int):=of_decide_eq_true (by first|(with_reducible assumption)|assumption);obtain⟨ad194,A194_0,c194_0,e194,hx194_0,hl194_0,hi194_0⟩:=at_L1 (Kd.S_reads' HO_5.out).2.2 x7_1 p194 q194;obtain rfl:ad187 = ad194:=(by injection e194);obtain⟨ce194,hce194,hMe194,hcc194⟩:=Kd.S_get HO_5.out [] x7_1 p194 (by first|exact q194|exact of_decide_eq_true (by first|(with_reducible assumption)|assumption)|(have e_:=(Kd.S_reads' HO_5.out).1;omega));obtain⟨ve194_0,rfl,ge194_0⟩:=hMe194;have hv194_0:=hcc194 0 _ rfl;rw [Nat.add_zero,show ((Kd.slice 3 (Kd.int .i64))).sz = 1 from rfl,Nat.mul_one] at hv194_0;replace hv194_0:=Option.some.inj (hv194_0.symm.trans hx194_0);rw [hv194_0] at ge194_0;have HL194_0:=mk0 (show Kd.R (Kd.int .i64) 3 _ _ _ _ (rd_L1 t184 x7_1) from ge194_0);clear hv194_0 ge194_0 hcc194 hce194;have HR194_0:=mk0 hi194_0;have HC194_0:=mk0 hl194_0;clear hi194_0 hl194_0;replace p194:=eq_true p194;replace q194:=eq_true q194;have ea_:=Option.some.inj (hx187_0.symm.trans hx194_0);injection ea_ with ea_ en_ ec_;subst ea_;subst ec_;clear en_;have p195:0 ≤ (x8_1:Int):=of_decide_eq_true (by first|(with_reducible assumption)|assumption);have q195:x8_1 < ((rd_L1 t184 x7_1).length:Int):=of_decide_eq_true (by first|(with_reducible assumption)|assumption);obtain⟨ad195,e195,hx195_0⟩:=Kd.at_int (by repeat (first|(with_reducible exact HR194_0.out)|(with_reducible first|refine aC ?_ _|refine nC ?_ _|refine dC ?_)|exact HR194_0.out)) x8_1 p195 q195;cases e195;replace p195:=eq_true p195;replace q195:=eq_true q195))
    repeat (go_quiet (first|(go_at_call 54;refine calls_of_args (args':=#[.slice A27 (l1.drop (x8_1:Int).toNat).length (c1 - x8_1.toNat),.int .i64 (rd l0 x7_1)]) (by first|(rw [show (l1.drop (x8_1:Int).toNat).length = (l1.length - x8_1.toNat) from List.length_drop] <;> rfl)|rfl|(simp only [List.length_drop,List.length_take];rfl)) ?_;(with_reducible refine (slices_Index_int_int.calls k1 _ _ (l1.drop (x8_1:Int).toNat) (rd l0 x7_1) t191 _ ?side1 ?side2 A13.out).mono ?_);(case side1=>repeat (first|exact (Kd.C_below HR189.out HB.out)|(with_reducible first|refine aC ?_ _|refine nC ?_ _|refine dC ?_)));(case side2=>exact HC189.out);rintro e w' ⟨rfl,⟨nd,rfl⟩⟩;(try first|exact⟨rfl,_,World.drewN_drewN _ _ _⟩|exact⟨rfl,_,Eq.trans (World.drewN_drewN _ _ _) (congrArg (World.drewN _) (Nat.add_assoc _ _ _))⟩);have p192:0 ≤ ((ji15):Int):=of_decide_eq_true (by first|(with_reducible assumption)|assumption);have q192:(ji15) < (t184.length:Int):=of_decide_eq_true (by first|(with_reducible assumption)|assumption);obtain⟨ad192,A192_0,c192_0,e192,hx192_0,hl192_0,hi192_0⟩:=at_L1 (Kd.S_reads' HO_5.out).2.2 (ji15) p192 q192;obtain rfl:ad187 = ad192:=(by injection e192);obtain⟨ce192,hce192,hMe192,hcc192⟩:=Kd.S_get HO_5.out [] (ji15) p192 (by first|exact q192|exact of_decide_eq_true (by first|(with_reducible assumption)|assumption)|(have e_:=(Kd.S_reads' HO_5.out).1;omega));obtain⟨ve192_0,rfl,ge192_0⟩:=hMe192;have hv192_0:=hcc192 0 _ rfl;rw [Nat.add_zero,show ((Kd.slice 3 (Kd.int .i64))).sz = 1 from rfl,Nat.mul_one] at hv192_0;replace hv192_0:=Option.some.inj (hv192_0.symm.trans hx192_0);rw [hv192_0] at ge192_0;have HL192_0:=mk0 (show Kd.R (Kd.int .i64) 3 _ _ _ _ (rd_L1 t184 (ji15)) from ge192_0);clear hv192_0 ge192_0 hcc192 hce192;have HR192_0:=mk0 hi192_0;have HC192_0:=mk0 hl192_0;clear hi192_0 hl192_0;replace p192:=eq_true p192;replace q192:=eq_true q192;have p193:0 ≤ ((ji18):Int):=of_decide_eq_true (by first|(with_reducible assumption)|assumption);have q193:(ji18) < ((rd_L1 t184 (ji15)).length:Int):=of_decide_eq_true (by first|(with_reducible assumption)|assumption);obtain⟨ad193,e193,hx193_0⟩:=Kd.at_int (by repeat (first|(with_reducible exact HR192_0.out)|(with_reducible first|refine aC ?_ _|refine nC ?_ _|refine dC ?_)|exact HR192_0.out)) (ji18) p193 q193;cases e193;replace p193:=eq_true p193;replace q193:=eq_true q193;have p194:0 ≤ (x7_1:Int):=of_decide_eq_true (by first|(with_reducible assumption)|assumption);have q194:x7_1 < (t184.length:Int):=of_decide_eq_true (by first|(with_reducible assumption)|assumption);obtain⟨ad194,A194_0,c194_0,e194,hx194_0,hl194_0,hi194_0⟩:=at_L1 (Kd.S_reads' HO_5.out).2.2 x7_1 p194 q194;obtain rfl:ad187 = ad194:=(by injection e194);obtain⟨ce194,hce194,hMe194,hcc194⟩:=Kd.S_get HO_5.out [] x7_1 p194 (by first|exact q194|exact of_decide_eq_true (by first|(with_reducible assumption)|assumption)|(have e_:=(Kd.S_reads' HO_5.out).1;omega));obtain⟨ve194_0,rfl,ge194_0⟩:=hMe194;have hv194_0:=hcc194 0 _ rfl;rw [Nat.add_zero,show ((Kd.slice 3 (Kd.int .i64))).sz = 1 from rfl,Nat.mul_one] at hv194_0;replace hv194_0:=Option.some.inj (hv194_0.symm.trans hx194_0);rw [hv194_0] at ge194_0;have HL194_0:=mk0 (show Kd.R (Kd.int .i64) 3 _ _ _ _ (rd_L1 t184 x7_1) from ge194_0);clear hv194_0 ge194_0 hcc194 hce194;have HR194_0:=mk0 hi194_0;have HC194_0:=mk0 hl194_0;clear hi194_0 hl194_0;replace p194:=eq_true p194;replace q194:=eq_true q194;have ea_:=Option.some.inj (hx187_0.symm.trans hx194_0);injection ea_ with ea_ en_ ec_;subst ea_;subst ec_;clear en_;have p195:0 ≤ (x8_1:Int):=of_decide_eq_true (by first|(with_reducible assumption)|assumption);have q195:x8_1 < ((rd_L1 t184 x7_1).length:Int):=of_decide_eq_true (by first|(with_reducible assumption)|assumption);obtain⟨ad195,e195,hx195_0⟩:=Kd.at_int (by repeat (first|(with_reducible exact HR194_0.out)|(with_reducible first|refine aC ?_ _|refine nC ?_ _|refine dC ?_)|exact HR194_0.out)) x8_1 p195 q195;cases e195;replace p195:=eq_true p195;replace q195:=eq_true q195));try go_wp2_with (first|(go_at_call 54;refine calls_of_args (args':=#[.slice A27 (l1.drop (x8_1:Int).toNat).length (c1 - x8_1.toNat),.int .i64 (rd l0 x7_1)]) (by first|(rw [show (l1.drop (x8_1:Int).toNat).length = (l1.length - x8_1.toNat) from List.length_drop] <;> rfl)|rfl|(simp only [List.length_drop,List.length_take];rfl)) ?_;(with_reducible refine (slices_Index_int_int.calls k1 _ _ (l1.drop (x8_1:Int).toNat) (rd l0 x7_1) t191 _ ?side1 ?side2 A13.out).mono ?_);(case side1=>repeat (first|exact (Kd.C_below HR189.out HB.out)|(with_reducible first|refine aC ?_ _|refine nC ?_ _|refine dC ?_)));(case side2=>exact HC189.out);rintro e w' ⟨rfl,⟨nd,rfl⟩⟩;(try first|exact⟨rfl,_,World.drewN_drewN _ _ _⟩|exact⟨rfl,_,Eq.trans (World.drewN_drewN _ _ _) (congrArg (World.drewN _) (Nat.add_assoc _ _ _))⟩);have p192:0 ≤ ((ji15):Int):=of_decide_eq_true (by first|(with_reducible assumption)|assumption);have q192:(ji15) < (t184.length:Int):=of_decide_eq_true (by first|(with_reducible assumption)|assumption);obtain⟨ad192,A192_0,c192_0,e192,hx192_0,hl192_0,hi192_0⟩:=at_L1 (Kd.S_reads' HO_5.out).2.2 (ji15) p192 q192;obtain rfl:ad187 = ad192:=(by injection e192);obtain⟨ce192,hce192,hMe192,hcc192⟩:=Kd.S_get HO_5.out [] (ji15) p192 (by first|exact q192|exact of_decide_eq_true (by first|(with_reducible assumption)|assumption)|(have e_:=(Kd.S_reads' HO_5.out).1;omega));obtain⟨ve192_0,rfl,ge192_0⟩:=hMe192;have hv192_0:=hcc192 0 _ rfl;rw [Nat.add_zero,show ((Kd.slice 3 (Kd.int .i64))).sz = 1 from rfl,Nat.mul_one] at hv192_0;replace hv192_0:=Option.some.inj (hv192_0.symm.trans hx192_0);rw [hv192_0] at ge192_0;have HL192_0:=mk0 (show Kd.R (Kd.int .i64) 3 _ _ _ _ (rd_L1 t184 (ji15)) from ge192_0);clear hv192_0 ge192_0 hcc192 hce192;have HR192_0:=mk0 hi192_0;have HC192_0:=mk0 hl192_0;clear hi192_0 hl192_0;replace p192:=eq_true p192;replace q192:=eq_true q192;have p193:0 ≤ ((ji18):Int):=of_decide_eq_true (by first|(with_reducible assumption)|assumption);have q193:(ji18) < ((rd_L1 t184 (ji15)).length:Int):=of_decide_eq_true (by first|(with_reducible assumption)|assumption);obtain⟨ad193,e193,hx193_0⟩:=Kd.at_int (by repeat (first|(with_reducible exact HR192_0.out)|(with_reducible first|refine aC ?_ _|refine nC ?_ _|refine dC ?_)|exact HR192_0.out)) (ji18) p193 q193;cases e193;replace p193:=eq_true p193;replace q193:=eq_true q193;have p194:0 ≤ (x7_1:Int):=of_decide_eq_true (by first|(with_reducible assumption)|assumption);have q194:x7_1 < (t184.length:Int):=of_decide_eq_true (by first|(with_reducible assumption)|assumption);obtain⟨ad194,A194_0,c194_0,e194,hx194_0,hl194_0,hi194_0⟩:=at_L1 (Kd.S_reads' HO_5.out).2.2 x7_1 p194 q194;obtain rfl:ad187 = ad194:=(by injection e194);obtain⟨ce194,hce194,hMe194,hcc194⟩:=Kd.S_get HO_5.out [] x7_1 p194 (by first|exact q194|exact of_decide_eq_true (by first|(with_reducible assumption)|assumption)|(have e_:=(Kd.S_reads' HO_5.out).1;omega));obtain⟨ve194_0,rfl,ge194_0⟩:=hMe194;have hv194_0:=hcc194 0 _ rfl;rw [Nat.add_zero,show ((Kd.slice 3 (Kd.int .i64))).sz = 1 from rfl,Nat.mul_one] at hv194_0;replace hv194_0:=Option.some.inj (hv194_0.symm.trans hx194_0);rw [hv194_0] at ge194_0;have HL194_0:=mk0 (show Kd.R (Kd.int .i64) 3 _ _ _ _ (rd_L1 t184 x7_1) from ge194_0);clear hv194_0 ge194_0 hcc194 hce194;have HR194_0:=mk0 hi194_0;have HC194_0:=mk0 hl194_0;clear hi194_0 hl194_0;replace p194:=eq_true p194;replace q194:=eq_true q194;have ea_:=Option.some.inj (hx187_0.symm.trans hx194_0);injection ea_ with ea_ en_ ec_;subst ea_;subst ec_;clear en_;have p195:0 ≤ (x8_1:Int):=of_decide_eq_true (by first|(with_reducible assumption)|assumption);have q195:x8_1 < ((rd_L1 t184 x7_1).length:Int):=of_decide_eq_true (by first|(with_reducible assumption)|assumption);obtain⟨ad195,e195,hx195_0⟩:=Kd.at_int (by repeat (first|(with_reducible exact HR194_0.out)|(with_reducible first|refine aC ?_ _|refine nC ?_ _|refine dC ?_)|exact HR194_0.out)) x8_1 p195 q195;cases e195;replace p195:=eq_true p195;replace q195:=eq_true q195)))
    go_roundg k1
    case measure=>have:=HK1.out;omega
    case rel=>exact⟨(x6_1),(ji15),(x8_1),(by first|rfl|(simp;done)|(simp only [← hji15] <;> (first|rfl|simp))|(simp [*];done)),(by first|rfl|(simp;done)|(simp [*];done)),H',⟨by have:=HK1.out;omega⟩,⟨by (with_reducible repeat (first|apply aS|apply nS|apply dS));exact HO_5.out⟩,⟨by (with_reducible repeat (first|apply aR|apply nR|apply dR));exact HO_6.out⟩,⟨by repeat (first|(with_reducible first|exact HB.out|apply aZ|apply nZ|apply dZ)|exact HB.out)⟩⟩
   rw [if_pos c21] at H
   have c21b0:((wrap64 ((rd (rd_L1 t184 (ji15)) (ji18)) + 1)) == (rd (rd_L1 t184 x7_1) x8_1)) = true:=beq_iff_eq.mpr c21
   have c21b1:((wrap64 ((rd (rd_L1 t184 (ji15)) (ji18)) + 1)) != (rd (rd_L1 t184 x7_1) x8_1)) = false:=bne_eq_false_iff_eq.mpr c21
   clear c21
   by_cases c22:x6_1.length < 8796093022208
   rotate_left
   ·rw [if_neg c22] at H
    exact absurd H (by simp)
   rw [if_pos c22] at H
   have LMc22:=mk0 c22
   clear c22
   obtain⟨y196,hy196⟩:∃ y_:List (S56),y_ = (x6_1 ++ [(⟨x7_1,wrap64 (x8_1 + t191)⟩:S56)]):=⟨_,rfl⟩
   replace H:(impl_commonOf.l0 k1 l0 l1 t184 y196 ji15 (wrap64 (x8_1 + (wrap64 (t191 + 1))))) = some r:=by first|(rw [hy196];with_reducible exact H)|(have H2_:=(Option.bind_some _ _).symm.trans H;rw [hy196];with_reducible exact H2_)|(have H2_:=(Option.bind_some _ _).symm.trans H;with_reducible exact H2_)|with_reducible exact H|(rw [hy196];exact H)|exact H
   have Ny196:=mk0 hy196
   clear hy196
   have H':=mk0 H
   clear H
   obtain⟨Ao23,co23,eo23⟩:=Kd.S_slice HO_5.out
   subst eo23
   have p187:0 ≤ (x7_1:Int):=of_decide_eq_true (by first|(with_reducible assumption)|assumption)
   have q187:x7_1 < (t184.length:Int):=of_decide_eq_true (by first|(with_reducible assumption)|assumption)
   obtain⟨ad187,A187_0,c187_0,e187,hx187_0,hl187_0,hi187_0⟩:=at_L1 (Kd.S_reads' HO_5.out).2.2 x7_1 p187 q187
   cases e187
   obtain⟨ce187,hce187,hMe187,hcc187⟩:=Kd.S_get HO_5.out [] x7_1 p187 (by first|exact q187|exact of_decide_eq_true (by first|(with_reducible assumption)|assumption)|(have e_:=(Kd.S_reads' HO_5.out).1;omega))
   obtain⟨ve187_0,rfl,ge187_0⟩:=hMe187
   have hv187_0:=hcc187 0 _ rfl
   rw [Nat.add_zero,show ((Kd.slice 3 (Kd.int .i64))).sz = 1 from rfl,Nat.mul_one] at hv187_0
   replace hv187_0:=Option.some.inj (hv187_0.symm.trans hx187_0)
   rw [hv187_0] at ge187_0
   have HL187_0:=mk0 (show Kd.R (Kd.int .i64) 3 _ _ _ _ (rd_L1 t184 x7_1) from ge187_0)
   clear hv187_0 ge187_0
   clear hcc187 hce187
   have HR187_0:=mk0 hi187_0
   have HC187_0:=mk0 hl187_0
   clear hi187_0 hl187_0
   replace p187:=eq_true p187
   replace q187:=eq_true q187
   have p188:0 ≤ (x8_1:Int):=of_decide_eq_true (by first|(with_reducible assumption)|assumption)
   have q188:x8_1 < ((rd_L1 t184 x7_1).length:Int):=of_decide_eq_true (by first|(with_reducible assumption)|assumption)
   obtain⟨ad188,e188,hx188_0⟩:=Kd.at_int (by repeat (first|(with_reducible exact HR187_0.out)|(with_reducible first|refine aC ?_ _|refine nC ?_ _|refine dC ?_)|exact HR187_0.out)) x8_1 p188 q188
   cases e188
   replace p188:=eq_true p188
   replace q188:=eq_true q188
   obtain⟨i024,hi024,_,hsz24,_⟩:=info_parts info3
   obtain⟨A24,hcut24,hA24,hC24⟩:=print_drop_of (P:=Try.prog) (Value.int .i64) 0 22 3 .i64 Try.underlying22 hi024 hsz24 A1 c1 l1 x8_1 (of_decide_eq_true (by first|(with_reducible assumption)|assumption)) (of_decide_eq_true (by first|(with_reducible assumption)|assumption)) HC1.out
   have HR189:=mk0 (Kd.C_of_reads (h1:=fun _=>rfl) (hA24 _ (Kd.reads_of_C HR1.out)))
   have HC189:=mk0 hC24
   clear hA24 hC24 hi024 hsz24
   have p190:0 ≤ (x7_1:Int):=of_decide_eq_true (by first|(with_reducible assumption)|assumption)
   have q190:x7_1 < (l0.length:Int):=of_decide_eq_true (by first|(with_reducible assumption)|assumption)
   obtain⟨ad190,e190,hx190_0⟩:=Kd.at_int HR0.out x7_1 p190 q190
   cases e190
   replace hx190_0:=(HB.out.cell (World.block_lt_of_cell? w _ hx190_0)).trans hx190_0
   replace p190:=eq_true p190
   replace q190:=eq_true q190
   go_wp2_with (first|(go_at_call 54;refine calls_of_args (args':=#[.slice A24 (l1.drop (x8_1:Int).toNat).length (c1 - x8_1.toNat),.int .i64 (rd l0 x7_1)]) (by first|(rw [show (l1.drop (x8_1:Int).toNat).length = (l1.length - x8_1.toNat) from List.length_drop] <;> rfl)|rfl|(simp only [List.length_drop,List.length_take];rfl)) ?_;(with_reducible refine (slices_Index_int_int.calls k1 _ _ (l1.drop (x8_1:Int).toNat) (rd l0 x7_1) t191 _ ?side1 ?side2 A13.out).mono ?_);(case side1=>repeat (first|exact (Kd.C_below HR189.out HB.out)|(with_reducible first|refine aC ?_ _|refine nC ?_ _|refine dC ?_)));(case side2=>exact HC189.out);rintro e w' ⟨rfl,⟨nd,rfl⟩⟩;(try first|exact⟨rfl,_,World.drewN_drewN _ _ _⟩|exact⟨rfl,_,Eq.trans (World.drewN_drewN _ _ _) (congrArg (World.drewN _) (Nat.add_assoc _ _ _))⟩);have p192:0 ≤ ((ji15):Int):=of_decide_eq_true (by first|(with_reducible assumption)|assumption);have q192:(ji15) < (t184.length:Int):=of_decide_eq_true (by first|(with_reducible assumption)|assumption);obtain⟨ad192,A192_0,c192_0,e192,hx192_0,hl192_0,hi192_0⟩:=at_L1 (Kd.S_reads' HO_5.out).2.2 (ji15) p192 q192;obtain rfl:ad187 = ad192:=(by injection e192);obtain⟨ce192,hce192,hMe192,hcc192⟩:=Kd.S_get HO_5.out [] (ji15) p192 (by first|exact q192|exact of_decide_eq_true (by first|(with_reducible assumption)|assumption)|(have e_:=(Kd.S_reads' HO_5.out).1;omega));obtain⟨ve192_0,rfl,ge192_0⟩:=hMe192;have hv192_0:=hcc192 0 _ rfl;rw [Nat.add_zero,show ((Kd.slice 3 (Kd.int .i64))).sz = 1 from rfl,Nat.mul_one] at hv192_0;replace hv192_0:=Option.some.inj (hv192_0.symm.trans hx192_0);rw [hv192_0] at ge192_0;have HL192_0:=mk0 (show Kd.R (Kd.int .i64) 3 _ _ _ _ (rd_L1 t184 (ji15)) from ge192_0);clear hv192_0 ge192_0 hcc192 hce192;have HR192_0:=mk0 hi192_0;have HC192_0:=mk0 hl192_0;clear hi192_0 hl192_0;replace p192:=eq_true p192;replace q192:=eq_true q192;have p193:0 ≤ ((ji18):Int):=of_decide_eq_true (by first|(with_reducible assumption)|assumption);have q193:(ji18) < ((rd_L1 t184 (ji15)).length:Int):=of_decide_eq_true (by first|(with_reducible assumption)|assumption);obtain⟨ad193,e193,hx193_0⟩:=Kd.at_int (by repeat (first|(with_reducible exact HR192_0.out)|(with_reducible first|refine aC ?_ _|refine nC ?_ _|refine dC ?_)|exact HR192_0.out)) (ji18) p193 q193;cases e193;replace p193:=eq_true p193;replace q193:=eq_true q193;have p194:0 ≤ (x7_1:Int):=of_decide_eq_true (by first|(with_reducible assumption)|assumption);have q194:x7_1 < (t184.length:Int):=of_decide_eq_true (by first|(with_reducible assumption)|assumption);obtain⟨ad194,A194_0,c194_0,e194,hx194_0,hl194_0,hi194_0⟩:=at_L1 (Kd.S_reads' HO_5.out).2.2 x7_1 p194 q194;obtain rfl:ad187 = ad194:=(by injection e194);obtain⟨ce194,hce194,hMe194,hcc194⟩:=Kd.S_get HO_5.out [] x7_1 p194 (by first|exact q194|exact of_decide_eq_true (by first|(with_reducible assumption)|assumption)|(have e_:=(Kd.S_reads' HO_5.out).1;omega));obtain⟨ve194_0,rfl,ge194_0⟩:=hMe194;have hv194_0:=hcc194 0 _ rfl;rw [Nat.add_zero,show ((Kd.slice 3 (Kd.int .i64))).sz = 1 from rfl,Nat.mul_one] at hv194_0;replace hv194_0:=Option.some.inj (hv194_0.symm.trans hx194_0);rw [hv194_0] at ge194_0;have HL194_0:=mk0 (show Kd.R (Kd.int .i64) 3 _ _ _ _ (rd_L1 t184 x7_1) from ge194_0);clear hv194_0 ge194_0 hcc194 hce194;have HR194_0:=mk0 hi194_0;have HC194_0:=mk0 hl194_0;clear hi194_0 hl194_0;replace p194:=eq_true p194;replace q194:=eq_true q194;have ea_:=Option.some.inj (hx187_0.symm.trans hx194_0);injection ea_ with ea_ en_ ec_;subst ea_;subst ec_;clear en_;have p195:0 ≤ (x8_1:Int):=of_decide_eq_true (by first|(with_reducible assumption)|assumption);have q195:x8_1 < ((rd_L1 t184 x7_1).length:Int):=of_decide_eq_true (by first|(with_reducible assumption)|assumption);obtain⟨ad195,e195,hx195_0⟩:=Kd.at_int (by repeat (first|(with_reducible exact HR194_0.out)|(with_reducible first|refine aC ?_ _|refine nC ?_ _|refine dC ?_)|exact HR194_0.out)) x8_1 p195 q195;cases e195;replace p195:=eq_true p195;replace q195:=eq_true q195)|((with_reducible refine gate_builtin (b:=.append) (xs:=#[.tmp 55,.tmp 61]) rfl ?_);at_builtin;refine Kd.R_append k56 (w0:=w) w.heap.size rfl (.tmp 55) (.tmp 61) 29 56 (.agg #[(.int .i64 0),(.int .i64 0)]) 16 rfl Try.underlying29 info56 rfl (by decide) (by omega) u6 x6_1 (⟨x7_1,wrap64 (x8_1 + t191)⟩:S56) [.int .i64 x7_1,.int .i64 (wrap64 (x8_1 + t191))] (fun _=>True) (fun _=>False) rfl rfl ?aP (fun _ hk=>hk.elim) ?aF ?aO ?aB ?aS ?aL ?_;(case aP=>exact k56_mkM _ _ _ (⟨x7_1,wrap64 (x8_1 + t191)⟩:S56));(case aB=>exact (by repeat (first|(with_reducible first|exact HB.out|apply aZ|apply nZ|apply dZ)|exact HB.out)));(case aF=>exact (fun _ _=>trivial));(case aO=>exact (by (with_reducible repeat (first|apply aR|apply nR|apply dR));exact HO_6.out));(case aS=>exact (below_size (by repeat (first|(with_reducible first|exact HB.out|apply aZ|apply nZ|apply dZ)|exact HB.out))));(case aL=>have:=LMc22.out;omega);intro v197 w25 ho hb hg hat;rw [← Ny196.out] at ho;have n0_:=mk0 (Kd.S_over' (by (with_reducible repeat (first|apply aS|apply nS|apply dS));exact HO_5.out) (Kd.R_typed (by (with_reducible repeat (first|apply aR|apply nR|apply dR));exact HO_6.out)) (by decide) hg);have n1_:=mk0 (Kd.R_over' (by (with_reducible repeat (first|apply aR|apply nR|apply dR));exact HL187_0.out) (Kd.R_typed (by (with_reducible repeat (first|apply aR|apply nR|apply dR));exact HO_6.out)) (by decide) hg);have n2_:=mk0 (Kd.R_over' (by (with_reducible repeat (first|apply aR|apply nR|apply dR));exact HL192_0.out) (Kd.R_typed (by (with_reducible repeat (first|apply aR|apply nR|apply dR));exact HO_6.out)) (by decide) hg);have n3_:=mk0 (Kd.R_over' (by (with_reducible repeat (first|apply aR|apply nR|apply dR));exact HL194_0.out) (Kd.R_typed (by (with_reducible repeat (first|apply aR|apply nR|apply dR));exact HO_6.out)) (by decide) hg);have n4_:=mk0 (hb);have n5_:=mk0 (ho);clear HO_5 HL187_0 HL192_0 HL194_0 HB HO_6;have HO_5:=n0_;have HL187_0:=n1_;have HL192_0:=n2_;have HL194_0:=n3_;have HB:=n4_;have HO198:=n5_;clear n0_ n1_ n2_ n3_ n4_ n5_ ho hb hg hat))
   repeat (go_quiet (first|(go_at_call 54;refine calls_of_args (args':=#[.slice A24 (l1.drop (x8_1:Int).toNat).length (c1 - x8_1.toNat),.int .i64 (rd l0 x7_1)]) (by first|(rw [show (l1.drop (x8_1:Int).toNat).length = (l1.length - x8_1.toNat) from List.length_drop] <;> rfl)|rfl|(simp only [List.length_drop,List.length_take];rfl)) ?_;(with_reducible refine (slices_Index_int_int.calls k1 _ _ (l1.drop (x8_1:Int).toNat) (rd l0 x7_1) t191 _ ?side1 ?side2 A13.out).mono ?_);(case side1=>repeat (first|exact (Kd.C_below HR189.out HB.out)|(with_reducible first|refine aC ?_ _|refine nC ?_ _|refine dC ?_)));(case side2=>exact HC189.out);rintro e w' ⟨rfl,⟨nd,rfl⟩⟩;(try first|exact⟨rfl,_,World.drewN_drewN _ _ _⟩|exact⟨rfl,_,Eq.trans (World.drewN_drewN _ _ _) (congrArg (World.drewN _) (Nat.add_assoc _ _ _))⟩);have p192:0 ≤ ((ji15):Int):=of_decide_eq_true (by first|(with_reducible assumption)|assumption);have q192:(ji15) < (t184.length:Int):=of_decide_eq_true (by first|(with_reducible assumption)|assumption);obtain⟨ad192,A192_0,c192_0,e192,hx192_0,hl192_0,hi192_0⟩:=at_L1 (Kd.S_reads' HO_5.out).2.2 (ji15) p192 q192;obtain rfl:ad187 = ad192:=(by injection e192);obtain⟨ce192,hce192,hMe192,hcc192⟩:=Kd.S_get HO_5.out [] (ji15) p192 (by first|exact q192|exact of_decide_eq_true (by first|(with_reducible assumption)|assumption)|(have e_:=(Kd.S_reads' HO_5.out).1;omega));obtain⟨ve192_0,rfl,ge192_0⟩:=hMe192;have hv192_0:=hcc192 0 _ rfl;rw [Nat.add_zero,show ((Kd.slice 3 (Kd.int .i64))).sz = 1 from rfl,Nat.mul_one] at hv192_0;replace hv192_0:=Option.some.inj (hv192_0.symm.trans hx192_0);rw [hv192_0] at ge192_0;have HL192_0:=mk0 (show Kd.R (Kd.int .i64) 3 _ _ _ _ (rd_L1 t184 (ji15)) from ge192_0);clear hv192_0 ge192_0 hcc192 hce192;have HR192_0:=mk0 hi192_0;have HC192_0:=mk0 hl192_0;clear hi192_0 hl192_0;replace p192:=eq_true p192;replace q192:=eq_true q192;have p193:0 ≤ ((ji18):Int):=of_decide_eq_true (by first|(with_reducible assumption)|assumption);have q193:(ji18) < ((rd_L1 t184 (ji15)).length:Int):=of_decide_eq_true (by first|(with_reducible assumption)|assumption);obtain⟨ad193,e193,hx193_0⟩:=Kd.at_int (by repeat (first|(with_reducible exact HR192_0.out)|(with_reducible first|refine aC ?_ _|refine nC ?_ _|refine dC ?_)|exact HR192_0.out)) (ji18) p193 q193;cases e193;replace p193:=eq_true p193;replace q193:=eq_true q193;have p194:0 ≤ (x7_1:Int):=of_decide_eq_true (by first|(with_reducible assumption)|assumption);have q194:x7_1 < (t184.length:Int):=of_decide_eq_true (by first|(with_reducible assumption)|assumption);obtain⟨ad194,A194_0,c194_0,e194,hx194_0,hl194_0,hi194_0⟩:=at_L1 (Kd.S_reads' HO_5.out).2.2 x7_1 p194 q194;obtain rfl:ad187 = ad194:=(by injection e194);obtain⟨ce194,hce194,hMe194,hcc194⟩:=Kd.S_get HO_5.out [] x7_1 p194 (by first|exact q194|exact of_decide_eq_true (by first|(with_reducible assumption)|assumption)|(have e_:=(Kd.S_reads' HO_5.out).1;omega));obtain⟨ve194_0,rfl,ge194_0⟩:=hMe194;have hv194_0:=hcc194 0 _ rfl;rw [Nat.add_zero,show ((Kd.slice 3 (Kd.int .i64))).sz = 1 from rfl,Nat.mul_one] at hv194_0;replace hv194_0:=Option.some.inj (hv194_0.symm.trans hx194_0);rw [hv194_0] at ge194_0;have HL194_0:=mk0 (show Kd.R (Kd.int .i64) 3 _ _ _ _ (rd_L1 t184 x7_1) from ge194_0);clear hv194_0 ge194_0 hcc194 hce194;have HR194_0:=mk0 hi194_0;have HC194_0:=mk0 hl194_0;clear hi194_0 hl194_0;replace p194:=eq_true p194;replace q194:=eq_true q194;have ea_:=Option.some.inj (hx187_0.symm.trans hx194_0);injection ea_ with ea_ en_ ec_;subst ea_;subst ec_;clear en_;have p195:0 ≤ (x8_1:Int):=of_decide_eq_true (by first|(with_reducible assumption)|assumption);have q195:x8_1 < ((rd_L1 t184 x7_1).length:Int):=of_decide_eq_true (by first|(with_reducible assumption)|assumption);obtain⟨ad195,e195,hx195_0⟩:=Kd.at_int (by repeat (first|(with_reducible exact HR194_0.out)|(with_reducible first|refine aC ?_ _|refine nC ?_ _|refine dC ?_)|exact HR194_0.out)) x8_1 p195 q195;cases e195;replace p195:=eq_true p195;replace q195:=eq_true q195)|((with_reducible refine gate_builtin (b:=.append) (xs:=#[.tmp 55,.tmp 61]) rfl ?_);at_builtin;refine Kd.R_append k56 (w0:=w) w.heap.size rfl (.tmp 55) (.tmp 61) 29 56 (.agg #[(.int .i64 0),(.int .i64 0)]) 16 rfl Try.underlying29 info56 rfl (by decide) (by omega) u6 x6_1 (⟨x7_1,wrap64 (x8_1 + t191)⟩:S56) [.int .i64 x7_1,.int .i64 (wrap64 (x8_1 + t191))] (fun _=>True) (fun _=>False) rfl rfl ?aP (fun _ hk=>hk.elim) ?aF ?aO ?aB ?aS ?aL ?_;(case aP=>exact k56_mkM _ _ _ (⟨x7_1,wrap64 (x8_1 + t191)⟩:S56));(case aB=>exact (by repeat (first|(with_reducible first|exact HB.out|apply aZ|apply nZ|apply dZ)|exact HB.out)));(case aF=>exact (fun _ _=>trivial));(case aO=>exact (by (with_reducible repeat (first|apply aR|apply nR|apply dR));exact HO_6.out));(case aS=>exact (below_size (by repeat (first|(with_reducible first|exact HB.out|apply aZ|apply nZ|apply dZ)|exact HB.out))));(case aL=>have:=LMc22.out;omega);intro v197 w25 ho hb hg hat;rw [← Ny196.out] at ho;have n0_:=mk0 (Kd.S_over' (by (with_reducible repeat (first|apply aS|apply nS|apply dS));exact HO_5.out) (Kd.R_typed (by (with_reducible repeat (first|apply aR|apply nR|apply dR));exact HO_6.out)) (by decide) hg);have n1_:=mk0 (Kd.R_over' (by (with_reducible repeat (first|apply aR|apply nR|apply dR));exact HL187_0.out) (Kd.R_typed (by (with_reducible repeat (first|apply aR|apply nR|apply dR));exact HO_6.out)) (by decide) hg);have n2_:=mk0 (Kd.R_over' (by (with_reducible repeat (first|apply aR|apply nR|apply dR));exact HL192_0.out) (Kd.R_typed (by (with_reducible repeat (first|apply aR|apply nR|apply dR));exact HO_6.out)) (by decide) hg);have n3_:=mk0 (Kd.R_over' (by (with_reducible repeat (first|apply aR|apply nR|apply dR));exact HL194_0.out) (Kd.R_typed (by (with_reducible repeat (first|apply aR|apply nR|apply dR));exact HO_6.out)) (by decide) hg);have n4_:=mk0 (hb);have n5_:=mk0 (ho);clear HO_5 HL187_0 HL192_0 HL194_0 HB HO_6;have HO_5:=n0_;have HL187_0:=n1_;have HL192_0:=n2_;have HL194_0:=n3_;have HB:=n4_;have HO198:=n5_;clear n0_ n1_ n2_ n3_ n4_ n5_ ho hb hg hat));try go_wp2_with (first|(go_at_call 54;refine calls_of_args (args':=#[.slice A24 (l1.drop (x8_1:Int).toNat).length (c1 - x8_1.toNat),.int .i64 (rd l0 x7_1)]) (by first|(rw [show (l1.drop (x8_1:Int).toNat).length = (l1.length - x8_1.toNat) from List.length_drop] <;> rfl)|rfl|(simp only [List.length_drop,List.length_take];rfl)) ?_;(with_reducible refine (slices_Index_int_int.calls k1 _ _ (l1.drop (x8_1:Int).toNat) (rd l0 x7_1) t191 _ ?side1 ?side2 A13.out).mono ?_);(case side1=>repeat (first|exact (Kd.C_below HR189.out HB.out)|(with_reducible first|refine aC ?_ _|refine nC ?_ _|refine dC ?_)));(case side2=>exact HC189.out);rintro e w' ⟨rfl,⟨nd,rfl⟩⟩;(try first|exact⟨rfl,_,World.drewN_drewN _ _ _⟩|exact⟨rfl,_,Eq.trans (World.drewN_drewN _ _ _) (congrArg (World.drewN _) (Nat.add_assoc _ _ _))⟩);have p192:0 ≤ ((ji15):Int):=of_decide_eq_true (by first|(with_reducible assumption)|assumption);have q192:(ji15) < (t184.length:Int):=of_decide_eq_true (by first|(with_reducible assumption)|assumption);obtain⟨ad192,A192_0,c192_0,e192,hx192_0,hl192_0,hi192_0⟩:=at_L1 (Kd.S_reads' HO_5.out).2.2 (ji15) p192 q192;obtain rfl:ad187 = ad192:=(by injection e192);obtain⟨ce192,hce192,hMe192,hcc192⟩:=Kd.S_get HO_5.out [] (ji15) p192 (by first|exact q192|exact of_decide_eq_true (by first|(with_reducible assumption)|assumption)|(have e_:=(Kd.S_reads' HO_5.out).1;omega));obtain⟨ve192_0,rfl,ge192_0⟩:=hMe192;have hv192_0:=hcc192 0 _ rfl;rw [Nat.add_zero,show ((Kd.slice 3 (Kd.int .i64))).sz = 1 from rfl,Nat.mul_one] at hv192_0;replace hv192_0:=Option.some.inj (hv192_0.symm.trans hx192_0);rw [hv192_0] at ge192_0;have HL192_0:=mk0 (show Kd.R (Kd.int .i64) 3 _ _ _ _ (rd_L1 t184 (ji15)) from ge192_0);clear hv192_0 ge192_0 hcc192 hce192;have HR192_0:=mk0 hi192_0;have HC192_0:=mk0 hl192_0;clear hi192_0 hl192_0;replace p192:=eq_true p192;replace q192:=eq_true q192;have p193:0 ≤ ((ji18):Int):=of_decide_eq_true (by first|(with_reducible assumption)|assumption);have q193:(ji18) < ((rd_L1 t184 (ji15)).length:Int):=of_decide_eq_true (by first|(with_reducible assumption)|assumption);obtain⟨ad193,e193,hx193_0⟩:=Kd.at_int (by repeat (first|(with_reducible exact HR192_0.out)|(with_reducible first|refine aC ?_ _|refine nC ?_ _|refine dC ?_)|exact HR192_0.out)) (ji18) p193 q193;cases e193;replace p193:=eq_true p193;replace q193:=eq_true q193;have p194:0 ≤ (x7_1:Int):=of_decide_eq_true (by first|(with_reducible assumption)|assumption);have q194:x7_1 < (t184.length:Int):=of_decide_eq_true (by first|(with_reducible assumption)|assumption);obtain⟨ad194,A194_0,c194_0,e194,hx194_0,hl194_0,hi194_0⟩:=at_L1 (Kd.S_reads' HO_5.out).2.2 x7_1 p194 q194;obtain rfl:ad187 = ad194:=(by injection e194);obtain⟨ce194,hce194,hMe194,hcc194⟩:=Kd.S_get HO_5.out [] x7_1 p194 (by first|exact q194|exact of_decide_eq_true (by first|(with_reducible assumption)|assumption)|(have e_:=(Kd.S_reads' HO_5.out).1;omega));obtain⟨ve194_0,rfl,ge194_0⟩:=hMe194;have hv194_0:=hcc194 0 _ rfl;rw [Nat.add_zero,show ((Kd.slice 3 (Kd.int .i64))).sz = 1 from rfl,Nat.mul_one] at hv194_0;replace hv194_0:=Option.some.inj (hv194_0.symm.trans hx194_0);rw [hv194_0] at ge194_0;have HL194_0:=mk0 (show Kd.R (Kd.int .i64) 3 _ _ _ _ (rd_L1 t184 x7_1) from ge194_0);clear hv194_0 ge194_0 hcc194 hce194;have HR194_0:=mk0 hi194_0;have HC194_0:=mk0 hl194_0;clear hi194_0 hl194_0;replace p194:=eq_true p194;replace q194:=eq_true q194;have ea_:=Option.some.inj (hx187_0.symm.trans hx194_0);injection ea_ with ea_ en_ ec_;subst ea_;subst ec_;clear en_;have p195:0 ≤ (x8_1:Int):=of_decide_eq_true (by first|(with_reducible assumption)|assumption);have q195:x8_1 < ((rd_L1 t184 x7_1).length:Int):=of_decide_eq_true (by first|(with_reducible assumption)|assumption);obtain⟨ad195,e195,hx195_0⟩:=Kd.at_int (by repeat (first|(with_reducible exact HR194_0.out)|(with_reducible first|refine aC ?_ _|refine nC ?_ _|refine dC ?_)|exact HR194_0.out)) x8_1 p195 q195;cases e195;replace p195:=eq_true p195;replace q195:=eq_true q195)|((with_reducible refine gate_builtin (b:=.append) (xs:=#[.tmp 55,.tmp 61]) rfl ?_);at_builtin;refine Kd.R_append k56 (w0:=w) w.heap.size rfl (.tmp 55) (.tmp 61) 29 56 (.agg #[(.int .i64 0),(.int .i64 0)]) 16 rfl Try.underlying29 info56 rfl (by decide) (by omega) u6 x6_1 (⟨x7_1,wrap64 (x8_1 + t191)⟩:S56) [.int .i64 x7_1,.int .i64 (wrap64 (x8_1 + t191))] (fun _=>True) (fun _=>False) rfl rfl ?aP (fun _ hk=>hk.elim) ?aF ?aO ?aB ?aS ?aL ?_;(case aP=>exact k56_mkM _ _ _ (⟨x7_1,wrap64 (x8_1 + t191)⟩:S56));(case aB=>exact (by repeat (first|(with_reducible first|exact HB.out|apply aZ|apply nZ|apply dZ)|exact HB.out)));(case aF=>exact (fun _ _=>trivial));(case aO=>exact (by (with_reducible repeat (first|apply aR|apply nR|apply dR));exact HO_6.out));(case aS=>exact (below_size (by repeat (first|(with_reducible first|exact HB.out|apply aZ|apply nZ|apply dZ)|exact HB.out))));(case aL=>have:=LMc22.out;omega);intro v197 w25 ho hb hg hat;rw [← Ny196.out] at ho;have n0_:=mk0 (Kd.S_over' (by (with_reducible repeat (first|apply aS|apply nS|apply dS));exact HO_5.out) (Kd.R_typed (by (with_reducible repeat (first|apply aR|apply nR|apply dR));exact HO_6.out)) (by decide) hg);have n1_:=mk0 (Kd.R_over' (by (with_reducible repeat (first|apply aR|apply nR|apply dR));exact HL187_0.out) (Kd.R_typed (by (with_reducible repeat (first|apply aR|apply nR|apply dR));exact HO_6.out)) (by decide) hg);have n2_:=mk0 (Kd.R_over' (by (with_reducible repeat (first|apply aR|apply nR|apply dR));exact HL192_0.out) (Kd.R_typed (by (with_reducible repeat (first|apply aR|apply nR|apply dR));exact HO_6.out)) (by decide) hg);have n3_:=mk0 (Kd.R_over' (by (with_reducible repeat (first|apply aR|apply nR|apply dR));exact HL194_0.out) (Kd.R_typed (by (with_reducible repeat (first|apply aR|apply nR|apply dR));exact HO_6.out)) (by decide) hg);have n4_:=mk0 (hb);have n5_:=mk0 (ho);clear HO_5 HL187_0 HL192_0 HL194_0 HB HO_6;have HO_5:=n0_;have HL187_0:=n1_;have HL192_0:=n2_;have HL194_0:=n3_;have HB:=n4_;have HO198:=n5_;clear n0_ n1_ n2_ n3_ n4_ n5_ ho hb hg hat)))
   go_roundg k1
   case measure=>have:=HK1.out;omega
   case rel=>exact⟨(y196),(ji15),(wrap64 (x8_1 + (wrap64 (t191 + 1)))),(by first|rfl|(simp;done)|(simp only [← hji15] <;> (first|rfl|simp))|(simp [*];done)),(by first|rfl|(simp;done)|(simp [*];done)),H',⟨by have:=HK1.out;omega⟩,⟨by (with_reducible repeat (first|apply aS|apply nS|apply dS));exact HO_5.out⟩,⟨by (with_reducible repeat (first|apply aR|apply nR|apply dR));exact HO198.out⟩,⟨by repeat (first|(with_reducible first|exact HB.out|apply aZ|apply nZ|apply dZ)|exact HB.out)⟩⟩
/-! ### impl_CommonOf: function 26 -/
def impl_CommonOf.f (k : Nat) (l0 : List Int) (l1 : List Int) : Option ((List (S56))) := (impl_areListed.f l0 l1).bind fun t199 => (if t199 = true then ((impl_commonOf.f k l0 l1).bind fun t200 => (some t200)) else (some ([] : List (S56))))
theorem impl_CommonOf.mono : ∀ a0 a1 k, LeO (impl_CommonOf.f k a0 a1) (impl_CommonOf.f (k + 1) a0 a1) := by
 intro a0 a1 k
 unfold impl_CommonOf.f
 repeat' first
   | (with_reducible exact impl_commonOf.mono _ _ _)
   | (with_reducible exact LeO.refl _)
   | (with_reducible exact LeO.none _)
   | (with_reducible refine LeO.ite ?_ ?_)
   | (with_reducible refine LeO.bind ?_ (fun _ => ?_))
   | exact impl_commonOf.mono _ _ _
   | exact LeO.none _
   | refine LeO.ite ?_ ?_
   | refine LeO.bind ?_ (fun _ => ?_)
set_option maxHeartbeats 8000000 in
set_option maxRecDepth 100000 in
theorem impl_CommonOf.calls (k : Nat) (A0 : Option Addr) (c0 : Nat) (l0 : List Int) (A1 : Option Addr) (c1 : Nat) (l1 : List Int) (r : List (S56)) (w : World) (hr0 : Kd.C (Kd.int .i64) w A0 l0.length l0) (hc0 : l0.length ≤ c0) (hr1 : Kd.C (Kd.int .i64) w A1 l1.length l1) (hc1 : l1.length ≤ c1) (h : impl_CommonOf.f k l0 l1 = some r) :
  Calls Try.prog 26 #[.slice A0 l0.length c0, .slice A1 l1.length c1] w fun e w' => ∃ v0_ : Value, e = .returned (v0_) ∧ Kd.R k56 56 w' w.heap.size (fun _ => True) v0_ r ∧ Below w.heap.size w w' := by
 have HR0:=mk0 hr0
 have HC0:=mk0 hc0
 clear hr0 hc0
 have HR1:=mk0 hr1
 have HC1:=mk0 hc1
 clear hr1 hc1
 have HB:=mk0 (Below.refl w.heap.size w)
 have H:((impl_areListed.f l0 l1).bind fun t199=>(if t199 = true then ((impl_commonOf.f k l0 l1).bind fun t200=>(some t200)) else (some ([]:List (S56))))) = some r:=h
 clear h
 replace H:=Option.bind_eq_some_iff.mp H
 obtain⟨t199,A30,H⟩:=H
 replace H:(if t199 = true then ((impl_commonOf.f k l0 l1).bind fun t200=>(some t200)) else (some ([]:List (S56)))) = some r:=H
 have A3:=mk0 A30
 clear A30
 by_cases c4:t199 = true
 ·subst c4
  have H1:((impl_commonOf.f k l0 l1).bind fun t200=>(some t200)) = some r:=by rw [if_pos rfl] at H;exact H
  clear H
  have H:=H1
  clear H1
  replace H:=Option.bind_eq_some_iff.mp H
  obtain⟨t200,A50,H⟩:=H
  replace H:(some t200) = some r:=H
  have A5:=mk0 A50
  clear A50
  obtain rfl:=Option.some.inj H
  go_enter Try.func26,Try.ntmps26
  go_wp2_with (first|((with_reducible refine gate_callee (f:=37) rfl ?_);refine goesL_ (some 7) rfl rfl Try.func37 (by kernel_rfl) rfl #[.slice A0 l0.length c0,.slice A1 l1.length c1] rfl (by (try simp only [mA,mC,mN]);first|done|rfl|(simp only [List.length_drop,List.length_take];rfl)) ?_;(with_reducible refine (impl_areListed.calls _ _ l0 _ _ l1 true _ ?side1 ?side2 ?side3 ?side4 A3.out).mono ?_);(case side1=>repeat (first|exact HR0.out|(with_reducible first|refine aC ?_ _|refine nC ?_ _|refine dC ?_)));(case side2=>exact HC0.out);(case side3=>repeat (first|exact HR1.out|(with_reducible first|refine aC ?_ _|refine nC ?_ _|refine dC ?_)));(case side4=>exact HC1.out);rintro e w' ⟨rfl,⟨nd,rfl⟩⟩;refine⟨_,rfl,?_⟩)|((with_reducible refine gate_callee (f:=47) rfl ?_);refine goesL_ (some 11) rfl rfl Try.func47 (by kernel_rfl) rfl #[.slice A0 l0.length c0,.slice A1 l1.length c1] rfl (by (try simp only [mA,mC,mN]);first|done|rfl|(simp only [List.length_drop,List.length_take];rfl)) ?_;(with_reducible refine (impl_commonOf.calls k _ _ l0 _ _ l1 t200 _ ?side1 ?side2 ?side3 ?side4 A5.out).mono ?_);(case side1=>repeat (first|exact HR0.out|(with_reducible first|refine aC ?_ _|refine nC ?_ _|refine dC ?_)));(case side2=>exact HC0.out);(case side3=>repeat (first|exact HR1.out|(with_reducible first|refine aC ?_ _|refine nC ?_ _|refine dC ?_)));(case side4=>exact HC1.out);rintro e w6 ⟨v201,rfl,ho0,hb⟩;refine⟨_,rfl,?_⟩;have n0_:=mk0 (Kd.R_lower ho0 (below_size (by repeat (first|(with_reducible first|exact HB.out|apply aZ|apply nZ|apply dZ)|exact HB.out))));have n1_:=mk0 (below_step (by repeat (first|(with_reducible first|exact HB.out|apply aZ|apply nZ|apply dZ)|exact HB.out)) hb);clear HB;have HO202:=n0_;have HB:=n1_;clear n0_ n1_;(try clear hb);(try clear hb2);(try clear hk);(try clear hi);(try clear ho0)))
  go_ret
  exact⟨_,by first|rfl|(simp [errW_none,errW_some] <;> rfl)|(simp [*,errW_none,errW_some] <;> rfl),by (with_reducible repeat (first|apply aR|apply nR|apply dR));exact HO202.out,by repeat (first|(with_reducible first|exact HB.out|apply aZ|apply nZ|apply dZ)|exact HB.out)⟩
 ·replace c4:=Bool.eq_false_iff.mpr c4
  subst c4
  have H1:(some ([]:List (S56))) = some r:=by rw [if_neg (show ¬ (false = true) by decide)] at H;exact H
  clear H
  have H:=H1
  clear H1
  obtain rfl:=Option.some.inj H
  go_enter Try.func26,Try.ntmps26
  go_wp2_with (first|((with_reducible refine gate_callee (f:=37) rfl ?_);refine goesL_ (some 7) rfl rfl Try.func37 (by kernel_rfl) rfl #[.slice A0 l0.length c0,.slice A1 l1.length c1] rfl (by (try simp only [mA,mC,mN]);first|done|rfl|(simp only [List.length_drop,List.length_take];rfl)) ?_;(with_reducible refine (impl_areListed.calls _ _ l0 _ _ l1 false _ ?side1 ?side2 ?side3 ?side4 A3.out).mono ?_);(case side1=>repeat (first|exact HR0.out|(with_reducible first|refine aC ?_ _|refine nC ?_ _|refine dC ?_)));(case side2=>exact HC0.out);(case side3=>repeat (first|exact HR1.out|(with_reducible first|refine aC ?_ _|refine nC ?_ _|refine dC ?_)));(case side4=>exact HC1.out);rintro e w' ⟨rfl,⟨nd,rfl⟩⟩;refine⟨_,rfl,?_⟩))
  go_ret
  exact⟨_,by first|rfl|(simp [errW_none,errW_some] <;> rfl)|(simp [*,errW_none,errW_some] <;> rfl),by first|exact Kd.R_nil _ _ _ _ _|exact Kd.N_nil _ _ _ _ _|exact Kd.V_nil _ _ _ _ _|exact Kd.Q_nil _ _ _ _ _|exact Kd.S_nil _ _ _ _ _,by repeat (first|(with_reducible first|exact HB.out|apply aZ|apply nZ|apply dZ)|exact HB.out)⟩

/-! ### laws_big: function 32 -/
def laws_big.f (l0 : List Int) : Option (Bool) := some (decide ((l0.length : Int) > 1048576))
set_option maxHeartbeats 8000000 in
set_option maxRecDepth 100000 in
theorem laws_big.calls (A0 : Option Addr) (c0 : Nat) (l0 : List Int) (r : Bool) (w : World) (hr0 : Kd.C (Kd.int .u8) w A0 l0.length l0) (hc0 : l0.length ≤ c0) (h : laws_big.f l0 = some r) :
  Calls Try.prog 32 #[.slice A0 l0.length c0] w fun e w' => e = .returned (.bool r) ∧ Drawn0 w w' := by
 have HR0:=mk0 hr0
 have HC0:=mk0 hc0
 clear hr0 hc0
 have H:(some (decide ((l0.length:Int) > 1048576))) = some r:=h
 clear h
 obtain rfl:=Option.some.inj H
 go_enter Try.func32,Try.ntmps32
 go_wp2
 go_ret
 exact⟨by first|rfl|(simp;done)|(simp [*];done),by repeat (first|exact Drawn0.refl _|apply Drawn0.step)⟩

end Go.Proofs.Ytlnmkgeoiinjfaa.QFnCommon
