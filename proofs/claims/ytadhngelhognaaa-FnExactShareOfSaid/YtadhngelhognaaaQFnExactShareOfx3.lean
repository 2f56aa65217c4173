-- A walk, made by walk.py, a program of this session's.
import Derived.Test.YtadhngelhognaaaQFnExactShareOfx0
import Derived.Test.YtadhngelhognaaaQFnExactShareOfx1
import Derived.Test.YtadhngelhognaaaQFnExactShareOfx2
namespace Go.Proofs.Ytadhngelhognaaa.QFnExactShareOf
open Go.RowKit Go.Proofs.YtadhngelhognaaaW.PrintWords Go.Proofs.YtadhngelhognaaaW.PrintLast Go.Proofs.YtadhngelhognaaaW.PrintMore
set_option linter.unusedVariables false
set_option linter.unusedSimpArgs false
attribute [local go_sem] max2_int min2_int max_two min_two max_three min_three max_four min_four
mutual
def spec_Parts.l0 : Nat → List (List Int) → Int → List (List Int) → List (List Int) → List (List Int) → Option ((List (S48)))
 | 0, _, _, _, _, _ => none
 | k + 1, x10, x11, x25, x28, x33 => if x11 < (x33.length : Int) then (spec_Parts.l1 k x10 x11 0 false x25 x28 x33) else (spec_Parts.l2 k x10 (([] : List (S48))) 0 x25 x28)
def spec_Parts.j2 : Nat → List (List Int) → List (List Int) → List (List Int) → List (List Int) → Int → Int → Bool → Option ((List (S48)))
 | 0, _, _, _, _, _, _, _ => none
 | k + 1, x7, x8, x9, x10, x11, x12, x13 => if x13 = true then (spec_Parts.l0 k x10 (wrap64 (x11 + 1)) x7 x8 x9) else (if 0 ≤ x11 then (if x11 < (x9.length : Int) then ((some (([rd_L2 x9 x11] : List (List Int)) : List (List Int))).bind fun y191 => (if 0 ≤ x12 then (if x12 ≤ (x10.length : Int) then ((some (x10.drop (x12 : Int).toNat : List (List Int))).bind fun y194 => (if y191.length + y194.length < 5864062014805 then ((some (y191 ++ y194 : List (List Int))).bind fun y199 => ((some (([] : List (List Int)) : List (List Int))).bind fun y202 => ((some (x10.take (x12 : Int).toNat : List (List Int))).bind fun y205 => (if y202.length + y205.length < 5864062014805 then ((some (y202 ++ y205 : List (List Int))).bind fun y210 => (if y210.length + y199.length < 5864062014805 then (spec_Parts.l0 k (y210 ++ y199) (wrap64 (x11 + 1)) x7 x8 x9) else (none))) else (none))))) else (none))) else (none)) else (none))) else (none)) else (none))
def spec_Parts.l1 : Nat → List (List Int) → Int → Int → Bool → List (List Int) → List (List Int) → List (List Int) → Option ((List (S48)))
 | 0, _, _, _, _, _, _, _ => none
 | k + 1, x10, x11, x12, x13, x25, x28, x33 => if x12 < (x10.length : Int) then (if 0 ≤ x12 then (if 0 ≤ x11 then (if x11 < (x33.length : Int) then ((spec_l05Cmp.f k (rd_L2 x10 x12) (rd_L2 x33 x11)).bind fun t186 => (if t186 ≤ 0 then (if x13 = true then (spec_Parts.l1 k x10 x11 (wrap64 (x12 + 1)) true x25 x28 x33) else ((spec_l05Cmp.f k (rd_L2 x10 x12) (rd_L2 x33 x11)).bind fun t189 => (spec_Parts.l1 k x10 x11 (wrap64 (x12 + 1)) (t189 == 0) x25 x28 x33))) else (spec_Parts.j2 k x25 x28 x33 x10 x11 x12 x13))) else (none)) else (none)) else (none)) else (spec_Parts.j2 k x25 x28 x33 x10 x11 x12 x13)
def spec_Parts.l2 : Nat → List (List Int) → List (S48) → Int → List (List Int) → List (List Int) → Option ((List (S48)))
 | 0, _, _, _, _, _ => none
 | k + 1, x10, x15, x16, x25, x28 => if x16 < (x10.length : Int) then ((some (([] : List Int) : List Int)).bind fun y219 => (if 0 ≤ x16 then (if y219.length + (rd_L2 x10 x16).length < 140737488355328 then ((spec_l13Span.f k x25 (rd_L2 x10 x16)).bind fun bt228 => ((spec_l13Span.f k x28 (rd_L2 x10 x16)).bind fun bt231 => (if x15.length < 2513169434916 then (spec_Parts.l2 k x10 (x15 ++ [(⟨(y219 ++ (rd_L2 x10 x16)), bt228.1, bt228.2, bt231.1, bt231.2⟩ : S48)]) (wrap64 (x16 + 1)) x25 x28) else (none)))) else (none)) else (none))) else (some x15)
end
def spec_Parts.f (k : Nat) (l0 : List Int) (l1 : List Int) (a2 : Int) : Option ((List (S48))) := (spec_l13Fit.f l0 l1 a2).bind fun t165 => (if t165 = true then ((spec_l13Heads.f k l0 a2).bind fun t166 => ((spec_l13Heads.f k l1 a2).bind fun t169 => ((some (([] : List (List Int)) : List (List Int))).bind fun y172 => (if y172.length + t166.length < 5864062014805 then ((some (y172 ++ t166 : List (List Int))).bind fun y175 => (if y175.length + t169.length < 5864062014805 then (spec_Parts.l0 k (([] : List (List Int))) 0 t166 t169 (y175 ++ t169)) else (none))) else (none))))) else (some ([] : List (S48))))
theorem spec_Parts.mono_l : ∀ k, (∀ y0 y1 y2 y3 y4, LeO (spec_Parts.l0 k y0 y1 y2 y3 y4) (spec_Parts.l0 (k + 1) y0 y1 y2 y3 y4)) ∧ (∀ y0 y1 y2 y3 y4 y5 y6, LeO (spec_Parts.j2 k y0 y1 y2 y3 y4 y5 y6) (spec_Parts.j2 (k + 1) y0 y1 y2 y3 y4 y5 y6)) ∧ (∀ y0 y1 y2 y3 y4 y5 y6, LeO (spec_Parts.l1 k y0 y1 y2 y3 y4 y5 y6) (spec_Parts.l1 (k + 1) y0 y1 y2 y3 y4 y5 y6)) ∧ (∀ y0 y1 y2 y3 y4, LeO (spec_Parts.l2 k y0 y1 y2 y3 y4) (spec_Parts.l2 (k + 1) y0 y1 y2 y3 y4))
 | 0 => ⟨fun _ _ _ _ _ r h => by simp [spec_Parts.l0] at h, fun _ _ _ _ _ _ _ r h => by simp [spec_Parts.j2] at h, fun _ _ _ _ _ _ _ r h => by simp [spec_Parts.l1] at h, fun _ _ _ _ _ r h => by simp [spec_Parts.l2] at h⟩
 | k + 1 => by
  obtain ⟨ih0, ih1, ih2, ih3⟩ := spec_Parts.mono_l k
  refine ⟨?_, ?_, ?_, ?_⟩
  ·intro y0 y1 y2 y3 y4
   unfold spec_Parts.l0
   repeat' first|(with_reducible first|exact ih0 _ _ _ _ _|exact ih1 _ _ _ _ _ _ _|exact ih2 _ _ _ _ _ _ _|exact ih3 _ _ _ _ _|exact spec_l05Cmp.mono _ _ _|exact spec_l13Heads.mono _ _ _|exact spec_l13Span.mono _ _ _|exact LeO.refl _|exact LeO.none _|refine LeO.ite ?_ ?_|refine LeO.bind ?_ (fun _ => ?_))|exact LeO.none _|refine LeO.ite ?_ ?_|refine LeO.bind ?_ (fun _ => ?_)
  ·intro y0 y1 y2 y3 y4 y5 y6
   unfold spec_Parts.j2
   repeat' first|(with_reducible first|exact ih0 _ _ _ _ _|exact ih1 _ _ _ _ _ _ _|exact ih2 _ _ _ _ _ _ _|exact ih3 _ _ _ _ _|exact spec_l05Cmp.mono _ _ _|exact spec_l13Heads.mono _ _ _|exact spec_l13Span.mono _ _ _|exact LeO.refl _|exact LeO.none _|refine LeO.ite ?_ ?_|refine LeO.bind ?_ (fun _ => ?_))|exact LeO.none _|refine LeO.ite ?_ ?_|refine LeO.bind ?_ (fun _ => ?_)
  ·intro y0 y1 y2 y3 y4 y5 y6
   unfold spec_Parts.l1
   repeat' first|(with_reducible first|exact ih0 _ _ _ _ _|exact ih1 _ _ _ _ _ _ _|exact ih2 _ _ _ _ _ _ _|exact ih3 _ _ _ _ _|exact spec_l05Cmp.mono _ _ _|exact spec_l13Heads.mono _ _ _|exact spec_l13Span.mono _ _ _|exact LeO.refl _|exact LeO.none _|refine LeO.ite ?_ ?_|refine LeO.bind ?_ (fun _ => ?_))|exact LeO.none _|refine LeO.ite ?_ ?_|refine LeO.bind ?_ (fun _ => ?_)
  ·intro y0 y1 y2 y3 y4
   unfold spec_Parts.l2
   repeat' first|(with_reducible first|exact ih0 _ _ _ _ _|exact ih1 _ _ _ _ _ _ _|exact ih2 _ _ _ _ _ _ _|exact ih3 _ _ _ _ _|exact spec_l05Cmp.mono _ _ _|exact spec_l13Heads.mono _ _ _|exact spec_l13Span.mono _ _ _|exact LeO.refl _|exact LeO.none _|refine LeO.ite ?_ ?_|refine LeO.bind ?_ (fun _ => ?_))|exact LeO.none _|refine LeO.ite ?_ ?_|refine LeO.bind ?_ (fun _ => ?_)
theorem spec_Parts.mono : ∀ a0 a1 a2 k, LeO (spec_Parts.f k a0 a1 a2) (spec_Parts.f (k + 1) a0 a1 a2) := by
 intro a0 a1 a2 k
 obtain ⟨ih0, ih1, ih2, ih3⟩ := spec_Parts.mono_l k
 unfold spec_Parts.f
 repeat' first|(with_reducible first|exact ih0 _ _ _ _ _|exact ih1 _ _ _ _ _ _ _|exact ih2 _ _ _ _ _ _ _|exact ih3 _ _ _ _ _|exact spec_l05Cmp.mono _ _ _|exact spec_l13Heads.mono _ _ _|exact spec_l13Span.mono _ _ _|exact LeO.refl _|exact LeO.none _|refine LeO.ite ?_ ?_|refine LeO.bind ?_ (fun _ => ?_))|exact LeO.none _|refine LeO.ite ?_ ?_|refine LeO.bind ?_ (fun _ => ?_)
def spec_Parts.T12 : Bool × List (List Nat × List Nat) := (true, [([], []), ([], []), ([1], [1]), ([0, 2], [0, 2]), ([3], [3]), ([4], [4]), ([4], [4]), ([5, 6, 4], [4, 5, 6]), ([7, 4], [4, 7]), ([4], [4]), ([4], [4]), ([9, 10, 4], [4, 9, 10]), ([11, 4], [4, 11]), ([8, 12, 4, 4], [4, 8, 12]), ([13, 4], [4, 13]), ([4, 14], [4, 14])])
def spec_Parts.B12 : List Nat := [0, 0, 2, 7, 15, 31, 31, 127, 255, 31, 31, 1567, 3615, 8191, 16383, 32767]
theorem spec_Parts.tab12 : rtab .any (opsOf Try.f27 12) = spec_Parts.T12 := by kernel_rfl
theorem spec_Parts.bits12 : waitsOk spec_Parts.T12.2 spec_Parts.B12 = true := by kernel_rfl
def spec_Parts.T13 : Bool × List (List Nat × List Nat) := (true, [([], []), ([0], [0]), ([1], [1]), ([1], [1]), ([2, 3, 1], [1, 2, 3]), ([4, 1], [1, 4]), ([1], [1]), ([1], [1]), ([6, 7, 1], [1, 6, 7]), ([8, 1], [1, 8]), ([5, 9, 1, 1], [1, 5, 9]), ([10, 1], [1, 10]), ([1, 11], [1, 11]), ([12, 10, 0, 1, 2, 3, 4, 5, 6, 7, 8, 9, 10, 11, 12], [0, 12])])
def spec_Parts.B13 : List Nat := [0, 1, 3, 3, 15, 31, 3, 3, 195, 451, 1023, 2047, 4095, 8191]
theorem spec_Parts.tab13 : rtab .any (opsOf Try.f27 13) = spec_Parts.T13 := by kernel_rfl
theorem spec_Parts.bits13 : waitsOk spec_Parts.T13.2 spec_Parts.B13 = true := by kernel_rfl
def spec_Parts.T16 : Bool × List (List Nat × List Nat) := (true, [([], []), ([], []), ([0, 1], [0, 1]), ([2], [2]), ([3], [3]), ([], []), ([], []), ([5, 6], [5, 6]), ([4, 7], [4, 7]), ([8, 8, 0, 1, 2, 3, 4, 5, 6, 7, 8], [8])])
def spec_Parts.B16 : List Nat := [0, 0, 3, 7, 15, 0, 0, 96, 255, 511]
theorem spec_Parts.tab16 : rtab .any (opsOf Try.f27 16) = spec_Parts.T16 := by kernel_rfl
theorem spec_Parts.bits16 : waitsOk spec_Parts.T16.2 spec_Parts.B16 = true := by kernel_rfl
abbrev spec_Parts.m0 : Array Bool := #[F,F,F,F,F,F,F,F,F,F,F,F,F,F,F,F]
abbrev spec_Parts.m1 : Array Bool := #[T,F,F,F,F,F,F,F,F,F,F,F,F,F,F,F]
abbrev spec_Parts.m2 : Array Bool := #[T,T,F,F,F,F,F,F,F,F,F,F,F,F,F,F]
abbrev spec_Parts.m3 : Array Bool := #[T,T,T,F,F,F,F,F,F,F,F,F,F,F,F,F]
abbrev spec_Parts.m4 : Array Bool := #[T,T,T,T,F,F,F,F,F,F,F,F,F,F,F,F]
abbrev spec_Parts.m5 : Array Bool := #[T,T,T,T,T,F,F,F,F,F,F,F,F,F,F,F]
abbrev spec_Parts.m6 : Array Bool := #[T,T,T,T,T,T,F,F,F,F,F,F,F,F,F,F]
abbrev spec_Parts.m7 : Array Bool := #[T,T,T,T,T,T,T,F,F,F,F,F,F,F,F,F]
abbrev spec_Parts.m8 : Array Bool := #[T,T,T,T,T,T,T,T,F,F,F,F,F,F,F,F]
abbrev spec_Parts.m9 : Array Bool := #[T,T,T,T,T,T,T,T,T,F,F,F,F,F,F,F]
abbrev spec_Parts.m10 : Array Bool := #[T,T,T,T,T,T,T,T,T,T,F,F,F,F,F,F]
abbrev spec_Parts.m11 : Array Bool := #[T,T,T,T,T,T,T,T,T,T,T,F,F,F,F,F]
abbrev spec_Parts.m12 : Array Bool := #[T,T,T,T,T,T,T,T,T,T,T,T,F,F,F,F]
abbrev spec_Parts.m13 : Array Bool := #[T,T,T,T,T,T,T,T,T,T,T,T,T,F,F,F]
abbrev spec_Parts.m14 : Array Bool := #[T,T,T,T,T,T,T,T,T,T,T,T,T,T,F,F]
abbrev spec_Parts.m15 : Array Bool := #[T,T,T,T,T,T,T,T,T,T,T,T,T,T,T,F]
abbrev spec_Parts.m16 : Array Bool := #[T,T,T,T,T,T,T,T,T,T,T,T,T,T,T,T]
abbrev spec_Parts.m17 : Array Bool := #[T,T,T,T,T,T,T,T,F,T,F,F,F,F,F,F]
abbrev spec_Parts.m18 : Array Bool := #[T,T,T,T,T,T,T,T,F,T,T,F,F,F,F,F]
abbrev spec_Parts.m19 : Array Bool := #[T,T,T,T,T,T,T,T,F,T,T,T,F,F,F,F]
abbrev spec_Parts.m20 : Array Bool := #[F,F,F,F,F,F,F,F,F,F,F,F,F,F]
abbrev spec_Parts.m21 : Array Bool := #[T,F,F,F,F,F,F,F,F,F,F,F,F,F]
abbrev spec_Parts.m22 : Array Bool := #[T,T,F,F,F,F,F,F,F,F,F,F,F,F]
abbrev spec_Parts.m23 : Array Bool := #[T,T,T,F,F,F,F,F,F,F,F,F,F,F]
abbrev spec_Parts.m24 : Array Bool := #[T,T,T,T,F,F,F,F,F,F,F,F,F,F]
abbrev spec_Parts.m25 : Array Bool := #[T,T,T,T,T,F,F,F,F,F,F,F,F,F]
abbrev spec_Parts.m26 : Array Bool := #[T,T,T,T,T,T,F,F,F,F,F,F,F,F]
abbrev spec_Parts.m27 : Array Bool := #[T,T,T,T,T,T,T,F,F,F,F,F,F,F]
abbrev spec_Parts.m28 : Array Bool := #[T,T,T,T,T,T,T,T,F,F,F,F,F,F]
abbrev spec_Parts.m29 : Array Bool := #[T,T,T,T,T,T,T,T,T,F,F,F,F,F]
abbrev spec_Parts.m30 : Array Bool := #[T,T,T,T,T,T,T,T,T,T,F,F,F,F]
abbrev spec_Parts.m31 : Array Bool := #[T,T,T,T,T,T,T,T,T,T,T,F,F,F]
abbrev spec_Parts.m32 : Array Bool := #[T,T,T,T,T,T,T,T,T,T,T,T,F,F]
abbrev spec_Parts.m33 : Array Bool := #[T,T,T,T,T,T,T,T,T,T,T,T,T,F]
abbrev spec_Parts.m34 : Array Bool := #[T,T,T,T,T,T,T,T,T,T,T,T,T,T]
abbrev spec_Parts.m35 : Array Bool := #[T,T,T,T,T,F,T,F,F,F,F,F,F,F]
abbrev spec_Parts.m36 : Array Bool := #[T,T,T,T,T,F,T,T,F,F,F,F,F,F]
abbrev spec_Parts.m37 : Array Bool := #[T,T,T,T,T,F,T,T,T,F,F,F,F,F]
abbrev spec_Parts.m38 : Array Bool := #[F,F,F,F,F,F,F,F,F,F]
abbrev spec_Parts.m39 : Array Bool := #[T,F,F,F,F,F,F,F,F,F]
abbrev spec_Parts.m40 : Array Bool := #[T,T,F,F,F,F,F,F,F,F]
abbrev spec_Parts.m41 : Array Bool := #[T,T,T,F,F,F,F,F,F,F]
abbrev spec_Parts.m42 : Array Bool := #[T,T,T,F,F,T,F,F,F,F]
abbrev spec_Parts.m43 : Array Bool := #[T,T,T,F,F,T,T,F,F,F]
abbrev spec_Parts.m44 : Array Bool := #[T,T,T,F,F,T,T,T,F,F]
abbrev spec_Parts.m45 : Array Bool := #[T,T,T,T,F,T,T,T,F,F]
abbrev spec_Parts.m46 : Array Bool := #[T,T,T,T,T,T,T,T,F,F]
abbrev spec_Parts.m47 : Array Bool := #[T,T,T,T,T,T,T,T,T,F]
abbrev spec_Parts.m48 : Array Bool := #[T,T,T,T,T,T,T,T,T,T]
set_option maxHeartbeats 8000000 in
set_option maxRecDepth 100000 in
theorem spec_Parts.calls (k : Nat) (P0_ : Nat → Prop) (A0 : Option Addr) (c0 : Nat) (l0 : List Int) (P1_ : Nat → Prop) (A1 : Option Addr) (c1 : Nat) (l1 : List Int) (a2 : Int) (r : List (S48)) (w : World) (hs0 : Kd.V (Kd.int .u8) 5 w w.heap.size (fun k_ => P0_ k_) (.slice A0 l0.length c0) l0) (hs1 : Kd.V (Kd.int .u8) 5 w w.heap.size (fun k_ => P1_ k_) (.slice A1 l1.length c1) l1) (h : spec_Parts.f k l0 l1 a2 = some r) :
  Calls Try.prog 27 #[.slice A0 l0.length c0, .slice A1 l1.length c1, .int .i64 a2] w fun e w' => ∃ v0_ : Value, e = .returned (v0_) ∧ Kd.N k48 48 w' w.heap.size (fun k_ => ((P0_ k_ ∨ P1_ k_) ∨ w.heap.size ≤ k_)) v0_ r ∧ Below w.heap.size w w' := by
 have hu48:=Try.underlying48
 have HO0:=mk0 (show Kd.V (Kd.int .u8) 5 w w.heap.size (fun k_=>((P0_ k_ ∨ P1_ k_) ∨ w.heap.size ≤ k_)) (.slice A0 l0.length c0) l0 from Kd.V_mono hs0 (fun k_ hk=>.inl (.inl hk)))
 have HO1:=mk0 (show Kd.V (Kd.int .u8) 5 w w.heap.size (fun k_=>((P0_ k_ ∨ P1_ k_) ∨ w.heap.size ≤ k_)) (.slice A1 l1.length c1) l1 from Kd.V_mono hs1 (fun k_ hk=>.inl (.inr hk)))
 have HB:=mk0 (Below.refl w.heap.size w)
 have H:((spec_l13Fit.f l0 l1 a2).bind fun t165=>(if t165 = true then ((spec_l13Heads.f k l0 a2).bind fun t166=>((spec_l13Heads.f k l1 a2).bind fun t169=>((some (([]:List (List Int)):List (List Int))).bind fun y172=>(if y172.length + t166.length < 5864062014805 then ((some (y172 ++ t166:List (List Int))).bind fun y175=>(if y175.length + t169.length < 5864062014805 then (spec_Parts.l0 k (([]:List (List Int))) 0 t166 t169 (y175 ++ t169)) else (none))) else (none))))) else (some ([]:List (S48))))) = some r:=h
 clear h
 replace H:=Option.bind_eq_some_iff.mp H
 obtain⟨t165,A40,H⟩:=H
 replace H:(if t165 = true then ((spec_l13Heads.f k l0 a2).bind fun t166=>((spec_l13Heads.f k l1 a2).bind fun t169=>((some (([]:List (List Int)):List (List Int))).bind fun y172=>(if y172.length + t166.length < 5864062014805 then ((some (y172 ++ t166:List (List Int))).bind fun y175=>(if y175.length + t169.length < 5864062014805 then (spec_Parts.l0 k (([]:List (List Int))) 0 t166 t169 (y175 ++ t169)) else (none))) else (none))))) else (some ([]:List (S48)))) = some r:=H
 have A4:=mk0 A40
 clear A40
 by_cases c5:t165 = true
 rotate_left
 ·replace c5:=Bool.eq_false_iff.mpr c5
  subst c5
  have H1:(some ([]:List (S48))) = some r:=by rw [if_neg (show ¬ (false = true) by decide)] at H;exact H
  clear H
  have H:=H1
  clear H1
  obtain rfl:=Option.some.inj H
  go_enter Try.func27,Try.ntmps27
  go_wp2_with (first|((with_reducible refine gate_callee (f:=35) rfl ?_);refine goesL_ (some 21) rfl rfl Try.func35 (by kernel_rfl) rfl #[.slice A0 l0.length c0,.slice A1 l1.length c1,.int .i64 a2] rfl (by (try simp only [mA,mC,mN]);first|done|rfl|(simp only [List.length_drop,List.length_take];done)|(simp only [List.length_drop,List.length_take];rfl)) ?_;(with_reducible refine (spec_l13Fit.calls _ _ l0 _ _ l1 a2 false _ ?side1 ?side2 ?side3 ?side4 A4.out).mono ?_);(case side1=>exact kC (Kd.V_reads' HO0.out).2.2);(case side2=>exact (Kd.V_reads' HO0.out).2.1);(case side3=>exact kC (Kd.V_reads' HO1.out).2.2);(case side4=>exact (Kd.V_reads' HO1.out).2.1);rintro e w' ⟨rfl,⟨nd,rfl⟩⟩;refine⟨_,rfl,?_⟩))
  go_ret
  exact⟨_,by first|rfl|(simp [errW_none,errW_some] <;> rfl)|(simp [*,errW_none,errW_some] <;> rfl),by first|exact Kd.S_nil _ _ _ _ _|exact Kd.N_nil _ _ _ _ _|exact Kd.V_nil _ _ _ _ _|exact Kd.Q_nil _ _ _ _ _|exact Kd.R_nil _ _ _ _ _,kB HB.out⟩
 subst c5
 have H1:((spec_l13Heads.f k l0 a2).bind fun t166=>((spec_l13Heads.f k l1 a2).bind fun t169=>((some (([]:List (List Int)):List (List Int))).bind fun y172=>(if y172.length + t166.length < 5864062014805 then ((some (y172 ++ t166:List (List Int))).bind fun y175=>(if y175.length + t169.length < 5864062014805 then (spec_Parts.l0 k (([]:List (List Int))) 0 t166 t169 (y175 ++ t169)) else (none))) else (none))))) = some r:=by rw [if_pos rfl] at H;exact H
 clear H
 have H:=H1
 clear H1
 replace H:=Option.bind_eq_some_iff.mp H
 obtain⟨t166,A60,H⟩:=H
 replace H:((spec_l13Heads.f k l1 a2).bind fun t169=>((some (([]:List (List Int)):List (List Int))).bind fun y172=>(if y172.length + t166.length < 5864062014805 then ((some (y172 ++ t166:List (List Int))).bind fun y175=>(if y175.length + t169.length < 5864062014805 then (spec_Parts.l0 k (([]:List (List Int))) 0 t166 t169 (y175 ++ t169)) else (none))) else (none)))) = some r:=H
 have A6:=mk0 A60
 clear A60
 replace H:=Option.bind_eq_some_iff.mp H
 obtain⟨t169,A70,H⟩:=H
 replace H:((some (([]:List (List Int)):List (List Int))).bind fun y172=>(if y172.length + t166.length < 5864062014805 then ((some (y172 ++ t166:List (List Int))).bind fun y175=>(if y175.length + t169.length < 5864062014805 then (spec_Parts.l0 k (([]:List (List Int))) 0 t166 t169 (y175 ++ t169)) else (none))) else (none))) = some r:=H
 have A7:=mk0 A70
 clear A70
 obtain⟨y172,hy172⟩:∃ y_:List (List Int),y_ = (([]:List (List Int))):=⟨_,rfl⟩
 replace H:(if y172.length + t166.length < 5864062014805 then ((some (y172 ++ t166:List (List Int))).bind fun y175=>(if y175.length + t169.length < 5864062014805 then (spec_Parts.l0 k (([]:List (List Int))) 0 t166 t169 (y175 ++ t169)) else (none))) else (none)) = some r:=by first|(rw [hy172];with_reducible exact H)|(have H2_:=(Option.bind_some _ _).symm.trans H;rw [hy172];with_reducible exact H2_)|(have H2_:=(Option.bind_some _ _).symm.trans H;with_reducible exact H2_)|with_reducible exact H|(rw [hy172];exact H)|exact H
 have Ny172:=mk0 hy172
 clear hy172
 by_cases c8:y172.length + t166.length < 5864062014805
 rotate_left
 ·rw [if_neg c8] at H
  exact absurd H (by simp)
 rw [if_pos c8] at H
 have LMc8:=mk0 c8
 clear c8
 obtain⟨y175,hy175⟩:∃ y_:List (List Int),y_ = (y172 ++ t166):=⟨_,rfl⟩
 replace H:(if y175.length + t169.length < 5864062014805 then (spec_Parts.l0 k (([]:List (List Int))) 0 t166 t169 (y175 ++ t169)) else (none)) = some r:=by first|(rw [hy175];with_reducible exact H)|(have H2_:=(Option.bind_some _ _).symm.trans H;rw [hy175];with_reducible exact H2_)|(have H2_:=(Option.bind_some _ _).symm.trans H;with_reducible exact H2_)|with_reducible exact H|(rw [hy175];exact H)|exact H
 have Ny175:=mk0 hy175
 clear hy175
 by_cases c9:y175.length + t169.length < 5864062014805
 rotate_left
 ·rw [if_neg c9] at H
  exact absurd H (by simp)
 rw [if_pos c9] at H
 have LMc9:=mk0 c9
 clear c9
 obtain⟨y178,hy178⟩:∃ y_:List (List Int),y_ = (y175 ++ t169):=⟨_,rfl⟩
 replace H:(spec_Parts.l0 k (([]:List (List Int))) 0 t166 t169 y178) = some r:=by first|(rw [hy178];with_reducible exact H)|(have H2_:=(Option.bind_some _ _).symm.trans H;rw [hy178];with_reducible exact H2_)|(have H2_:=(Option.bind_some _ _).symm.trans H;with_reducible exact H2_)|with_reducible exact H|(rw [hy178];exact H)|exact H
 have Ny178:=mk0 hy178
 clear hy178
 obtain⟨y181,hy181⟩:∃ y_:List (List Int),y_ = (([]:List (List Int))):=⟨_,rfl⟩
 replace H:(spec_Parts.l0 k y181 0 t166 t169 y178) = some r:=by first|(rw [hy181];with_reducible exact H)|(have H2_:=(Option.bind_some _ _).symm.trans H;rw [hy181];with_reducible exact H2_)|(have H2_:=(Option.bind_some _ _).symm.trans H;with_reducible exact H2_)|with_reducible exact H|(rw [hy181];exact H)|exact H
 have Ny181:=mk0 hy181
 clear hy181
 have H':=mk0 H
 clear H
 go_enter Try.func27,Try.ntmps27
 go_wp2_with (first|((with_reducible refine gate_callee (f:=35) rfl ?_);refine goesL_ (some 21) rfl rfl Try.func35 (by kernel_rfl) rfl #[.slice A0 l0.length c0,.slice A1 l1.length c1,.int .i64 a2] rfl (by (try simp only [mA,mC,mN]);first|done|rfl|(simp only [List.length_drop,List.length_take];done)|(simp only [List.length_drop,List.length_take];rfl)) ?_;(with_reducible refine (spec_l13Fit.calls _ _ l0 _ _ l1 a2 true _ ?side1 ?side2 ?side3 ?side4 A4.out).mono ?_);(case side1=>exact kC (Kd.V_reads' HO0.out).2.2);(case side2=>exact (Kd.V_reads' HO0.out).2.1);(case side3=>exact kC (Kd.V_reads' HO1.out).2.2);(case side4=>exact (Kd.V_reads' HO1.out).2.1);rintro e w' ⟨rfl,⟨nd,rfl⟩⟩;refine⟨_,rfl,?_⟩)|((with_reducible refine gate_callee (f:=52) rfl ?_);refine goesL_ (some 25) rfl rfl Try.func52 (by kernel_rfl) rfl #[.slice A0 l0.length c0,.int .i64 a2] rfl (by (try simp only [mA,mC,mN]);first|done|rfl|(simp only [List.length_drop,List.length_take];done)|(simp only [List.length_drop,List.length_take];rfl)) ?_;(with_reducible refine (spec_l13Heads.calls k (fun k_=>((P0_ k_ ∨ P1_ k_) ∨ w.heap.size ≤ k_)) _ _ l0 a2 t166 _ ?side1 A6.out).mono ?_);(case side1=>exact HO0.out);rintro e w10 ⟨v167,rfl,ho0,hb⟩;refine⟨_,rfl,?_⟩;replace HO0:=mk0 (Kd.V_elder' (rV HO0.out) (Kd.N_base ho0) hb);replace HO1:=mk0 (Kd.V_elder' (rV HO1.out) (Kd.N_base ho0) hb);have HO168:=mk0 (Kd.N_lower (Kd.N_mono (ok':=fun k_=>((P0_ k_ ∨ P1_ k_) ∨ w.heap.size ≤ k_)) ho0 (fun k_ hk_=>Or.elim hk_ (fun hs_=>hs_) (fun hn_=>(.inr (Nat.le_trans (kZ HB.out) hn_))))) (kZ HB.out));replace HB:=mk0 (kS HB.out hb);(try clear hb);(try clear ho0))|((with_reducible refine gate_callee (f:=52) rfl ?_);refine goesL_ (some 28) rfl rfl Try.func52 (by kernel_rfl) rfl #[.slice A1 l1.length c1,.int .i64 a2] rfl (by (try simp only [mA,mC,mN]);first|done|rfl|(simp only [List.length_drop,List.length_take];done)|(simp only [List.length_drop,List.length_take];rfl)) ?_;(with_reducible refine (spec_l13Heads.calls k (fun k_=>(((P0_ k_ ∨ P1_ k_) ∨ w.heap.size ≤ k_) ∧ some k_ ≠ (v167:Value).ownBlock)) _ _ l1 a2 t169 _ ?side1 A7.out).mono ?_);(case side1=>exact HO1.out);rintro e w11 ⟨v170,rfl,ho0,hb⟩;refine⟨_,rfl,?_⟩;replace HO0:=mk0 (Kd.V_elder' (rV HO0.out) (Kd.N_base ho0) hb);replace HO1:=mk0 (Kd.V_elder' (rV HO1.out) (Kd.N_base ho0) hb);have HO171:=mk0 (Kd.N_lower (Kd.N_mono (ok':=fun k_=>((P0_ k_ ∨ P1_ k_) ∨ w.heap.size ≤ k_) ∧ some k_ ≠ (v167:Value).ownBlock) ho0 (fun k_ hk_=>⟨Or.elim hk_ (fun hs_=>hs_.1) (fun hn_=>(.inr (Nat.le_trans (kZ HB.out) hn_))),Or.elim hk_ (fun hs_=>hs_.2) (fun hn_=>(Kd.fresh' (Kd.N_lt (rN HO168.out)) k_ hn_))⟩)) (kZ HB.out));replace HO168:=mk0 (Kd.N_elder' (rN HO168.out) (Kd.N_base ho0) hb);replace HB:=mk0 (kS HB.out hb);(try clear hb);(try clear ho0))|((with_reducible refine gate_dst (N:=29) rfl ?_);refine Kd.N_lit (Kd.slice 5 (Kd.int .u8)) _ 22 ?hg (N':=29) ?hd (xs:=([]:List (List Int))) (inner:=[]) (ok:=(fun k_=>((P0_ k_ ∨ P1_ k_) ∨ w.heap.size ≤ k_) ∧ some k_ ≠ (v167:Value).ownBlock ∧ some k_ ≠ (v170:Value).ownBlock)) (okp:=(fun k_=>((P0_ k_ ∨ P1_ k_) ∨ w.heap.size ≤ k_) ∧ some k_ ≠ (v167:Value).ownBlock ∧ some k_ ≠ (v170:Value).ownBlock)) ?hr ?hp (fun _ hk=>hk) ((show ∀ k_,w11.heap.size ≤ k_ → (fun k_=>((P0_ k_ ∨ P1_ k_) ∨ w.heap.size ≤ k_) ∧ some k_ ≠ (v167:Value).ownBlock ∧ some k_ ≠ (v170:Value).ownBlock) k_ from fun k_ hk=>⟨(.inr (Nat.le_trans (kZ HB.out) hk)),Kd.fresh' (Kd.N_lt (rN HO168.out)) k_ hk,Kd.fresh' (Kd.N_lt (rN HO171.out)) k_ hk⟩) _ (Nat.le_refl _)) (Below.refl _ _) (Nat.le_refl _) (by simp) ?_;(case hd=>rfl);(case hg=>rfl);(case hr=>first|(go_simp;done)|(go_simp;rfl));(case hp=>exact (Reps.none _ _));intro v173 w12 ho13 hb hg_ hnew_;clear hg_ hnew_;(first|rw [← Ny172.out] at ho13|(simp only [Int.reduceToNat] at ho13;rw [← Ny172.out] at ho13));replace HO0:=mk0 (Kd.V_elder' (rV HO0.out) (Kd.N_base ho13) hb);replace HO1:=mk0 (Kd.V_elder' (rV HO1.out) (Kd.N_base ho13) hb);replace HO168:=mk0 (Kd.N_elder' (rN HO168.out) (Kd.N_base ho13) hb);replace HO171:=mk0 (Kd.N_elder' (rN HO171.out) (Kd.N_base ho13) hb);have HO174:=mk0 (Kd.N_lower ho13 (kZ HB.out));replace HB:=mk0 (kS HB.out hb);clear hb ho13;obtain⟨Ao15,co15,eo15⟩:=Kd.N_slice HO168.out;subst eo15)|((with_reducible refine gate_builtin (b:=.append) (xs:=#[.tmp 29,.tmp 30]) rfl ?_);at_builtin;refine Kd.N_append_rows (Kd.slice 5 (Kd.int .u8)) (w0:=w) w.heap.size rfl (.tmp 29) (.tmp 30) 66 22 (.slice none 0 0) 24 rfl Try.underlying66 info22 rfl (by decide) (by omega) v173 y172 t166 _ _ _ (fun k_=>((P0_ k_ ∨ P1_ k_) ∨ w.heap.size ≤ k_) ∧ some k_ ≠ (v170:Value).ownBlock) (fun k_=>((fun k_=>((P0_ k_ ∨ P1_ k_) ∨ w.heap.size ≤ k_) ∧ some k_ ≠ (v170:Value).ownBlock)) k_ ∧ some k_ ≠ (v173:Value).ownBlock) rfl rfl ?aO ?aR (fun _ hk=>hk) ?aF ?aB ?aS ?aL ?_;(case aR=>exact (by skip;exact Kd.N_F (Kd.N_mono (ok':=(fun k_=>((fun k_=>((P0_ k_ ∨ P1_ k_) ∨ w.heap.size ≤ k_) ∧ some k_ ≠ (v170:Value).ownBlock)) k_ ∧ some k_ ≠ (v173:Value).ownBlock)) (HO168.out) (fun k_ hk=>⟨⟨hk.1.1,hk.1.2⟩,hk.2⟩))));(case aB=>exact (kB HB.out));(case aF=>exact (fun k_ hk=>⟨(.inr (Nat.le_trans (kZ HB.out) hk)),Kd.fresh' (Kd.N_lt (rN HO171.out)) k_ hk⟩));(case aO=>exact (rN (Kd.N_mono HO174.out (fun _ hk=>⟨hk.1,hk.2.2⟩))));(case aS=>exact (kZ HB.out));(case aL=>have:=LMc8.out;omega);intro v176 w14 ho hb hg hat;rw [← Ny175.out] at ho;replace HO0:=mk0 (Kd.V_afterv (ok:=(fun k_=>((P0_ k_ ∨ P1_ k_) ∨ w.heap.size ≤ k_) ∧ some k_ ≠ (.slice Ao15 t166.length co15:Value).ownBlock ∧ some k_ ≠ (v170:Value).ownBlock)) (rV (Kd.V_mono HO0.out (fun _ hk=>⟨⟨hk.1.1.1,⟨hk.1.1.2,hk.1.2⟩⟩,hk.2⟩))) hg hat);replace HO1:=mk0 (Kd.V_afterv (ok:=(fun k_=>((P0_ k_ ∨ P1_ k_) ∨ w.heap.size ≤ k_) ∧ some k_ ≠ (.slice Ao15 t166.length co15:Value).ownBlock ∧ some k_ ≠ (v170:Value).ownBlock)) (rV (Kd.V_mono HO1.out (fun _ hk=>⟨⟨hk.1.1.1,⟨hk.1.1.2,hk.1.2⟩⟩,hk.2⟩))) hg hat);replace HO168:=mk0 (Kd.N_afterv (ok:=(fun k_=>((P0_ k_ ∨ P1_ k_) ∨ w.heap.size ≤ k_) ∧ some k_ ≠ (v170:Value).ownBlock)) (rN HO168.out) hg hat);replace HO171:=mk0 (Kd.N_afterv (ok:=(fun k_=>((P0_ k_ ∨ P1_ k_) ∨ w.heap.size ≤ k_) ∧ some k_ ≠ (.slice Ao15 t166.length co15:Value).ownBlock)) (rN HO171.out) hg hat);replace HB:=mk0 (hb);have HO177:=mk0 (ho);clear HO174 ho hb hg hat;obtain⟨Ao17,co17,eo17⟩:=Kd.N_slice HO171.out;subst eo17)|((with_reducible refine gate_builtin (b:=.append) (xs:=#[.tmp 31,.tmp 32]) rfl ?_);at_builtin;refine Kd.N_append_rows (Kd.slice 5 (Kd.int .u8)) (w0:=w) w.heap.size rfl (.tmp 31) (.tmp 32) 66 22 (.slice none 0 0) 24 rfl Try.underlying66 info22 rfl (by decide) (by omega) v176 y175 t169 _ _ _ (fun k_=>((P0_ k_ ∨ P1_ k_) ∨ w.heap.size ≤ k_)) (fun k_=>((fun k_=>((P0_ k_ ∨ P1_ k_) ∨ w.heap.size ≤ k_))) k_ ∧ some k_ ≠ (v176:Value).ownBlock) rfl rfl ?aO ?aR (fun _ hk=>hk) ?aF ?aB ?aS ?aL ?_;(case aR=>exact (by skip;exact Kd.N_F (Kd.N_mono (ok':=(fun k_=>((fun k_=>((P0_ k_ ∨ P1_ k_) ∨ w.heap.size ≤ k_))) k_ ∧ some k_ ≠ (v176:Value).ownBlock)) (HO171.out) (fun k_ hk=>⟨hk.1.1,hk.2⟩))));(case aB=>exact (kB HB.out));(case aF=>exact (fun k_ hk=>(.inr (Nat.le_trans (kZ HB.out) hk))));(case aO=>exact (rN (Kd.N_mono HO177.out (fun _ hk=>hk.1))));(case aS=>exact (kZ HB.out));(case aL=>have:=LMc9.out;omega);intro v179 w16 ho hb hg hat;rw [← Ny178.out] at ho;replace HO0:=mk0 (Kd.V_afterv (ok:=(fun k_=>((P0_ k_ ∨ P1_ k_) ∨ w.heap.size ≤ k_) ∧ some k_ ≠ (.slice Ao15 t166.length co15:Value).ownBlock ∧ some k_ ≠ (.slice Ao17 t169.length co17:Value).ownBlock)) (rV HO0.out) hg hat);replace HO1:=mk0 (Kd.V_afterv (ok:=(fun k_=>((P0_ k_ ∨ P1_ k_) ∨ w.heap.size ≤ k_) ∧ some k_ ≠ (.slice Ao15 t166.length co15:Value).ownBlock ∧ some k_ ≠ (.slice Ao17 t169.length co17:Value).ownBlock)) (rV HO1.out) hg hat);replace HO168:=mk0 (Kd.N_afterv (ok:=(fun k_=>((P0_ k_ ∨ P1_ k_) ∨ w.heap.size ≤ k_) ∧ some k_ ≠ (.slice Ao17 t169.length co17:Value).ownBlock)) (rN HO168.out) hg hat);replace HO171:=mk0 (Kd.N_afterv (ok:=(fun k_=>((P0_ k_ ∨ P1_ k_) ∨ w.heap.size ≤ k_) ∧ some k_ ≠ (.slice Ao15 t166.length co15:Value).ownBlock)) (rN HO171.out) hg hat);replace HB:=mk0 (hb);have HO180:=mk0 (ho);clear HO177 ho hb hg hat)|((with_reducible refine gate_dst (N:=34) rfl ?_);refine Kd.N_lit (Kd.slice 5 (Kd.int .u8)) _ 22 ?hg (N':=34) ?hd (xs:=([]:List (List Int))) (inner:=[]) (ok:=(fun k_=>((P0_ k_ ∨ P1_ k_) ∨ w.heap.size ≤ k_) ∧ some k_ ≠ (.slice Ao15 t166.length co15:Value).ownBlock ∧ some k_ ≠ (.slice Ao17 t169.length co17:Value).ownBlock ∧ some k_ ≠ (v179:Value).ownBlock)) (okp:=(fun k_=>((P0_ k_ ∨ P1_ k_) ∨ w.heap.size ≤ k_) ∧ some k_ ≠ (.slice Ao15 t166.length co15:Value).ownBlock ∧ some k_ ≠ (.slice Ao17 t169.length co17:Value).ownBlock ∧ some k_ ≠ (v179:Value).ownBlock)) ?hr ?hp (fun _ hk=>hk) ((show ∀ k_,w16.heap.size ≤ k_ → (fun k_=>((P0_ k_ ∨ P1_ k_) ∨ w.heap.size ≤ k_) ∧ some k_ ≠ (.slice Ao15 t166.length co15:Value).ownBlock ∧ some k_ ≠ (.slice Ao17 t169.length co17:Value).ownBlock ∧ some k_ ≠ (v179:Value).ownBlock) k_ from fun k_ hk=>⟨(.inr (Nat.le_trans (kZ HB.out) hk)),Kd.fresh' (Kd.N_lt (rN HO168.out)) k_ hk,Kd.fresh' (Kd.N_lt (rN HO171.out)) k_ hk,Kd.fresh' (Kd.N_lt (rN HO180.out)) k_ hk⟩) _ (Nat.le_refl _)) (Below.refl _ _) (Nat.le_refl _) (by simp) ?_;(case hd=>rfl);(case hg=>rfl);(case hr=>first|(go_simp;done)|(go_simp;rfl));(case hp=>exact (Reps.none _ _));intro v182 w18 ho19 hb hg_ hnew_;clear hg_ hnew_;(first|rw [← Ny181.out] at ho19|(simp only [Int.reduceToNat] at ho19;rw [← Ny181.out] at ho19));replace HO0:=mk0 (Kd.V_elder' (rV HO0.out) (Kd.N_base ho19) hb);replace HO1:=mk0 (Kd.V_elder' (rV HO1.out) (Kd.N_base ho19) hb);replace HO168:=mk0 (Kd.N_elder' (rN HO168.out) (Kd.N_base ho19) hb);replace HO171:=mk0 (Kd.N_elder' (rN HO171.out) (Kd.N_base ho19) hb);replace HO180:=mk0 (Kd.N_elder' (rN HO180.out) (Kd.N_base ho19) hb);have HO183:=mk0 (Kd.N_lower ho19 (kZ HB.out));replace HB:=mk0 (kS HB.out hb);clear hb ho19))
 go_loopg [10,11] k (fun kq v10 v11 w'=>∃ (x10_1:List (List Int)) (x11_1:Int),v11 = .int .i64 x11_1 ∧ Aside0 (spec_Parts.l0 kq x10_1 x11_1 t166 t169 y178 = some r) ∧ Aside0 (kq ≤ k) ∧ Aside0 (Kd.N (Kd.slice 5 (Kd.int .u8)) 22 w' w.heap.size (fun k_=>((P0_ k_ ∨ P1_ k_) ∨ w.heap.size ≤ k_) ∧ some k_ ≠ (v179:Value).ownBlock) v10 x10_1) ∧ Aside0 (Kd.N (Kd.slice 5 (Kd.int .u8)) 22 w' w.heap.size (fun k_=>((P0_ k_ ∨ P1_ k_) ∨ w.heap.size ≤ k_) ∧ some k_ ≠ (v10:Value).ownBlock ∧ some k_ ≠ ((.slice Ao17 t169.length co17):Value).ownBlock ∧ some k_ ≠ (v179:Value).ownBlock) (.slice Ao15 t166.length co15) t166) ∧ Aside0 (Kd.N (Kd.slice 5 (Kd.int .u8)) 22 w' w.heap.size (fun k_=>((P0_ k_ ∨ P1_ k_) ∨ w.heap.size ≤ k_) ∧ some k_ ≠ (v10:Value).ownBlock ∧ some k_ ≠ ((.slice Ao15 t166.length co15):Value).ownBlock ∧ some k_ ≠ (v179:Value).ownBlock) (.slice Ao17 t169.length co17) t169) ∧ Aside0 (Kd.N (Kd.slice 5 (Kd.int .u8)) 22 w' w.heap.size (fun k_=>((P0_ k_ ∨ P1_ k_) ∨ w.heap.size ≤ k_) ∧ some k_ ≠ (v10:Value).ownBlock) v179 y178) ∧ Aside0 (Below w.heap.size w w'))
 case atStart=>exact⟨(y181),(0),(by first|rfl|(simp;done)|(simp [*];done)),H',⟨Nat.le_refl _⟩,⟨rN (Kd.N_mono HO183.out (fun _ hk=>⟨hk.1,hk.2.2.2⟩))⟩,⟨rN (Kd.N_mono HO168.out (fun _ hk=>⟨hk.1.1.1,⟨hk.2,⟨hk.1.1.2,hk.1.2⟩⟩⟩))⟩,⟨rN (Kd.N_mono HO171.out (fun _ hk=>⟨hk.1.1.1,⟨hk.2,⟨hk.1.1.2,hk.1.2⟩⟩⟩))⟩,⟨rN HO180.out⟩,⟨kB HB.out⟩⟩
 case round =>
  clear H'
  try clear c1
  try clear c2
  try clear p2
  try clear c3
  try clear c5
  try clear c8
  try clear c9
  obtain⟨x10_1,x11_1,rfl,HA,HK1,HO_10,HO_25,HO_28,HO_33,HB⟩:=hrel
  cases gk with
  | zero=>exact absurd HA.out (by simp [spec_Parts.l0])
  | succ k1 =>
   have H:=HA.out
   clear HA
   simp only [spec_Parts.l0] at H
   by_cases c20:x11_1 < (y178.length:Int)
   rotate_left
   ·rw [if_neg c20] at H
    have c20b0:decide (x11_1 < (y178.length:Int)) = false:=decide_eq_false c20
    (try simp only [hl184_0] at c20b0)
    (try simp only [hl185_0] at c20b0)
    (try simp only [hl187_0] at c20b0)
    (try simp only [hl188_0] at c20b0)
    (try simp only [hl190_0] at c20b0)
    (try simp only [hl222_0] at c20b0)
    (try simp only [hl227_0] at c20b0)
    (try simp only [hl230_0] at c20b0)
    clear c20
    obtain⟨y216,hy216⟩:∃ y_:List (S48),y_ = (([]:List (S48))):=⟨_,rfl⟩
    replace H:(spec_Parts.l2 k1 x10_1 y216 0 t166 t169) = some r:=by first|(rw [hy216];with_reducible exact H)|(have H2_:=(Option.bind_some _ _).symm.trans H;rw [hy216];with_reducible exact H2_)|(have H2_:=(Option.bind_some _ _).symm.trans H;with_reducible exact H2_)|with_reducible exact H|(rw [hy216];exact H)|exact H
    have Ny216:=mk0 hy216
    clear hy216
    have H':=mk0 H
    clear H
    obtain⟨Ao63,co63,eo63⟩:=Kd.N_slice HO_33.out
    subst eo63
    go_wp2_with (first|((with_reducible refine gate_dst (N:=90) rfl ?_);refine Kd.N_lit k48 _ 48 ?hg (N':=90) ?hd (xs:=([]:List (S48))) (inner:=[]) (ok:=(fun k_=>((P0_ k_ ∨ P1_ k_) ∨ w.heap.size ≤ k_) ∧ some k_ ≠ (u10:Value).ownBlock ∧ some k_ ≠ (.slice Ao15 t166.length co15:Value).ownBlock ∧ some k_ ≠ (.slice Ao17 t169.length co17:Value).ownBlock ∧ some k_ ≠ (.slice Ao63 y178.length co63:Value).ownBlock)) (okp:=(fun k_=>((P0_ k_ ∨ P1_ k_) ∨ w.heap.size ≤ k_) ∧ some k_ ≠ (u10:Value).ownBlock ∧ some k_ ≠ (.slice Ao15 t166.length co15:Value).ownBlock ∧ some k_ ≠ (.slice Ao17 t169.length co17:Value).ownBlock ∧ some k_ ≠ (.slice Ao63 y178.length co63:Value).ownBlock)) ?hr ?hp (fun _ hk=>hk) ((show ∀ k_,wr.heap.size ≤ k_ → (fun k_=>((P0_ k_ ∨ P1_ k_) ∨ w.heap.size ≤ k_) ∧ some k_ ≠ (u10:Value).ownBlock ∧ some k_ ≠ (.slice Ao15 t166.length co15:Value).ownBlock ∧ some k_ ≠ (.slice Ao17 t169.length co17:Value).ownBlock ∧ some k_ ≠ (.slice Ao63 y178.length co63:Value).ownBlock) k_ from fun k_ hk=>⟨(.inr (Nat.le_trans (kZ HB.out) hk)),Kd.fresh' (Kd.N_lt (rN HO_10.out)) k_ hk,Kd.fresh' (Kd.N_lt (rN HO_25.out)) k_ hk,Kd.fresh' (Kd.N_lt (rN HO_28.out)) k_ hk,Kd.fresh' (Kd.N_lt (rN HO_33.out)) k_ hk⟩) _ (Nat.le_refl _)) (Below.refl _ _) (Nat.le_refl _) (by simp) ?_;(case hd=>rfl);(case hg=>rfl);(case hr=>first|(go_simp;done)|(go_simp;rfl));(case hp=>exact (Reps.none _ _));intro v217 w64 ho65 hb hg_ hnew_;clear hg_ hnew_;(first|rw [← Ny216.out] at ho65|(simp only [Int.reduceToNat] at ho65;rw [← Ny216.out] at ho65));replace HO_10:=mk0 (Kd.N_elder' (rN HO_10.out) (Kd.N_base ho65) hb);replace HO_25:=mk0 (Kd.N_elder' (rN HO_25.out) (Kd.N_base ho65) hb);replace HO_28:=mk0 (Kd.N_elder' (rN HO_28.out) (Kd.N_base ho65) hb);replace HO_33:=mk0 (Kd.N_elder' (rN HO_33.out) (Kd.N_base ho65) hb);have HO218:=mk0 (Kd.N_lower ho65 (kZ HB.out));replace HB:=mk0 (kS HB.out hb);clear hb ho65))
    go_loopg [15,16] k1 (fun kq v15 v16 w'=>∃ (x15_2:List (S48)) (x16_2:Int),v16 = .int .i64 x16_2 ∧ Aside0 (spec_Parts.l2 kq x10_1 x15_2 x16_2 t166 t169 = some r) ∧ Aside0 (kq ≤ k1) ∧ Aside0 (Kd.N (Kd.slice 5 (Kd.int .u8)) 22 w' w.heap.size (fun k_=>((P0_ k_ ∨ P1_ k_) ∨ w.heap.size ≤ k_) ∧ some k_ ≠ (v15:Value).ownBlock) u10 x10_1) ∧ Aside0 (Kd.N k48 48 w' w.heap.size (fun k_=>((P0_ k_ ∨ P1_ k_) ∨ w.heap.size ≤ k_) ∧ some k_ ≠ (u10:Value).ownBlock ∧ some k_ ≠ ((.slice Ao15 t166.length co15):Value).ownBlock ∧ some k_ ≠ ((.slice Ao17 t169.length co17):Value).ownBlock) v15 x15_2) ∧ Aside0 (Kd.N (Kd.slice 5 (Kd.int .u8)) 22 w' w.heap.size (fun k_=>((P0_ k_ ∨ P1_ k_) ∨ w.heap.size ≤ k_) ∧ some k_ ≠ (u10:Value).ownBlock ∧ some k_ ≠ (v15:Value).ownBlock ∧ some k_ ≠ ((.slice Ao17 t169.length co17):Value).ownBlock) (.slice Ao15 t166.length co15) t166) ∧ Aside0 (Kd.N (Kd.slice 5 (Kd.int .u8)) 22 w' w.heap.size (fun k_=>((P0_ k_ ∨ P1_ k_) ∨ w.heap.size ≤ k_) ∧ some k_ ≠ (u10:Value).ownBlock ∧ some k_ ≠ (v15:Value).ownBlock ∧ some k_ ≠ ((.slice Ao15 t166.length co15):Value).ownBlock) (.slice Ao17 t169.length co17) t169) ∧ Aside0 (Below w.heap.size w w'))
    case atStart=>exact⟨(y216),(0),(by first|rfl|(simp;done)|(simp [*];done)),H',⟨Nat.le_refl _⟩,⟨rN (Kd.N_mono HO_10.out (fun _ hk=>⟨hk.1.1,hk.2⟩))⟩,⟨rN (Kd.N_mono HO218.out (fun _ hk=>⟨hk.1,⟨hk.2.1,⟨hk.2.2.1,hk.2.2.2.1⟩⟩⟩))⟩,⟨rN (Kd.N_mono HO_25.out (fun _ hk=>⟨hk.1.1,⟨hk.1.2.1,⟨hk.2,hk.1.2.2.1⟩⟩⟩))⟩,⟨rN (Kd.N_mono HO_28.out (fun _ hk=>⟨hk.1.1,⟨hk.1.2.1,⟨hk.2,hk.1.2.2.1⟩⟩⟩))⟩,⟨kB HB.out⟩⟩
    case round =>
     clear H'
     try clear c1
     try clear p1
     try clear q1
     try clear hx1
     try clear c2
     try clear p2
     try clear c4
     try clear c5
     try clear q5
     try clear p6
     try clear c18
     try clear p18
     try clear q18
     try clear hx18
     try clear c19
     try clear p19
     try clear q19
     try clear hx19
     try clear c20
     try clear c20b0
     try clear c23
     try clear c23b0
     try clear c24
     try clear c25
     try clear c26
     try clear c28
     try clear c28b0
     try clear c41
     try clear c42
     try clear c42b0
     try clear c43
     try clear c43b0
     try clear c44
     try clear c44b0
     try clear c44b1
     try clear c45
     try clear c45b0
     try clear c45b1
     try clear c46
     try clear c47
     try clear c47b0
     try clear c48
     try clear c48b0
     try clear c49
     try clear c50
     try clear c52
     try clear q52
     try clear c53
     try clear q59
     try clear p64
     try clear hx184_0
     try clear hx185_0
     try clear hx187_0
     try clear hx188_0
     try clear hx190_0
     try clear p1
     try clear p18
     try clear p184
     try clear p185
     try clear p187
     try clear p188
     try clear p190
     try clear p2
     try clear p6
     try clear q052
     try clear q1
     try clear q18
     try clear q184
     try clear q185
     try clear q187
     try clear q188
     try clear q190
     try clear q52
     try clear q59
     obtain⟨x15_2,x16_2,rfl,HA,HK2,HO_10,HO_15,HO_25,HO_28,HB⟩:=hrel
     cases gk with
     | zero=>exact absurd HA.out (by simp [spec_Parts.l2])
     | succ k2 =>
      have H:=HA.out
      clear HA
      simp only [spec_Parts.l2] at H
      by_cases c66:x16_2 < (x10_1.length:Int)
      rotate_left
      ·rw [if_neg c66] at H
       have c66b0:decide (x16_2 < (x10_1.length:Int)) = false:=decide_eq_false c66
       (try simp only [hl184_0] at c66b0)
       (try simp only [hl185_0] at c66b0)
       (try simp only [hl187_0] at c66b0)
       (try simp only [hl188_0] at c66b0)
       (try simp only [hl190_0] at c66b0)
       (try simp only [hl222_0] at c66b0)
       (try simp only [hl227_0] at c66b0)
       (try simp only [hl230_0] at c66b0)
       clear c66
       obtain rfl:=Option.some.inj H
       obtain⟨Ao90,co90,eo90⟩:=Kd.N_slice HO_10.out
       subst eo90
       go_wp2
       go_ret
       exact⟨_,by first|rfl|(simp [errW_none,errW_some] <;> rfl)|(simp [*,errW_none,errW_some] <;> rfl),rN (Kd.N_mono HO_15.out (fun _ hk=>hk.1)),kB HB.out⟩
      rw [if_pos c66] at H
      have c66b0:decide (x16_2 < (x10_1.length:Int)) = true:=decide_eq_true c66
      (try simp only [hl184_0] at c66b0)
      (try simp only [hl185_0] at c66b0)
      (try simp only [hl187_0] at c66b0)
      (try simp only [hl188_0] at c66b0)
      (try simp only [hl190_0] at c66b0)
      (try simp only [hl222_0] at c66b0)
      (try simp only [hl227_0] at c66b0)
      (try simp only [hl230_0] at c66b0)
      clear c66
      obtain⟨y219,hy219⟩:∃ y_:List Int,y_ = (([]:List Int)):=⟨_,rfl⟩
      replace H:(if 0 ≤ x16_2 then (if y219.length + (rd_L2 x10_1 x16_2).length < 140737488355328 then ((spec_l13Span.f k2 t166 (rd_L2 x10_1 x16_2)).bind fun bt228=>((spec_l13Span.f k2 t169 (rd_L2 x10_1 x16_2)).bind fun bt231=>(if x15_2.length < 2513169434916 then (spec_Parts.l2 k2 x10_1 (x15_2 ++ [(⟨(y219 ++ (rd_L2 x10_1 x16_2)),bt228.1,bt228.2,bt231.1,bt231.2⟩:S48)]) (wrap64 (x16_2 + 1)) t166 t169) else (none)))) else (none)) else (none)) = some r:=by first|(rw [hy219];with_reducible exact H)|(have H2_:=(Option.bind_some _ _).symm.trans H;rw [hy219];with_reducible exact H2_)|(have H2_:=(Option.bind_some _ _).symm.trans H;with_reducible exact H2_)|with_reducible exact H|(rw [hy219];exact H)|exact H
      have Ny219:=mk0 hy219
      clear hy219
      by_cases c67:0 ≤ x16_2
      rotate_left
      ·rw [if_neg c67] at H
       exact absurd H (by simp)
      rw [if_pos c67] at H
      have c67b0:decide (0 ≤ x16_2) = true:=decide_eq_true c67
      clear c67
      by_cases c68:y219.length + (rd_L2 x10_1 x16_2).length < 140737488355328
      rotate_left
      ·rw [if_neg c68] at H
       exact absurd H (by simp)
      rw [if_pos c68] at H
      have LMc68:=mk0 c68
      clear c68
      obtain⟨y223,hy223⟩:∃ y_:List Int,y_ = (y219 ++ (rd_L2 x10_1 x16_2)):=⟨_,rfl⟩
      replace H:((spec_l13Span.f k2 t166 (rd_L2 x10_1 x16_2)).bind fun bt228=>((spec_l13Span.f k2 t169 (rd_L2 x10_1 x16_2)).bind fun bt231=>(if x15_2.length < 2513169434916 then (spec_Parts.l2 k2 x10_1 (x15_2 ++ [(⟨y223,bt228.1,bt228.2,bt231.1,bt231.2⟩:S48)]) (wrap64 (x16_2 + 1)) t166 t169) else (none)))) = some r:=by first|(rw [hy223];with_reducible exact H)|(have H2_:=(Option.bind_some _ _).symm.trans H;rw [hy223];with_reducible exact H2_)|(have H2_:=(Option.bind_some _ _).symm.trans H;with_reducible exact H2_)|with_reducible exact H|(rw [hy223];exact H)|exact H
      have Ny223:=mk0 hy223
      clear hy223
      replace H:=Option.bind_eq_some_iff.mp H
      obtain⟨⟨t228,t229⟩,A690,H⟩:=H
      replace H:((spec_l13Span.f k2 t169 (rd_L2 x10_1 x16_2)).bind fun bt231=>(if x15_2.length < 2513169434916 then (spec_Parts.l2 k2 x10_1 (x15_2 ++ [(⟨y223,t228,t229,bt231.1,bt231.2⟩:S48)]) (wrap64 (x16_2 + 1)) t166 t169) else (none))) = some r:=H
      have A69:=mk0 A690
      clear A690
      replace H:=Option.bind_eq_some_iff.mp H
      obtain⟨⟨t231,t232⟩,A700,H⟩:=H
      replace H:(if x15_2.length < 2513169434916 then (spec_Parts.l2 k2 x10_1 (x15_2 ++ [(⟨y223,t228,t229,t231,t232⟩:S48)]) (wrap64 (x16_2 + 1)) t166 t169) else (none)) = some r:=H
      have A70:=mk0 A700
      clear A700
      by_cases c71:x15_2.length < 2513169434916
      rotate_left
      ·rw [if_neg c71] at H
       exact absurd H (by simp)
      rw [if_pos c71] at H
      have LMc71:=mk0 c71
      clear c71
      obtain⟨y233,hy233⟩:∃ y_:List (S48),y_ = (x15_2 ++ [(⟨y223,t228,t229,t231,t232⟩:S48)]):=⟨_,rfl⟩
      replace H:(spec_Parts.l2 k2 x10_1 y233 (wrap64 (x16_2 + 1)) t166 t169) = some r:=by first|(rw [hy233];with_reducible exact H)|(have H2_:=(Option.bind_some _ _).symm.trans H;rw [hy233];with_reducible exact H2_)|(have H2_:=(Option.bind_some _ _).symm.trans H;with_reducible exact H2_)|with_reducible exact H|(rw [hy233];exact H)|exact H
      have Ny233:=mk0 hy233
      clear hy233
      have H':=mk0 H
      clear H
      obtain⟨Ao72,co72,eo72⟩:=Kd.N_slice HO_10.out
      subst eo72
      go_wp2_with (first|((with_reducible refine gate_dst (N:=97) rfl ?_);refine Kd.R_lit (Kd.int .u8) _ 5 ?hg (N:=97) ?hd (xs:=([]:List Int)) (inner:=[]) (ok:=fun _=>True) (okp:=fun _=>True) ?hr ?hp (fun _ hk=>hk) trivial (Below.refl _ _) (Nat.le_refl _) (by simp) ?_;(case hd=>rfl);(case hg=>rfl);(case hr=>first|(go_simp;done)|(go_simp;rfl));(case hp=>exact (Reps.none _ _));intro v220 w73 ho74 hb hg_ hnew_;clear hg_ hnew_;(first|rw [← Ny219.out] at ho74|(simp only [Int.reduceToNat] at ho74;rw [← Ny219.out] at ho74));replace HO_10:=mk0 (Kd.N_elder' (rN HO_10.out) (Kd.R_base ho74) hb);replace HO_15:=mk0 (Kd.N_elder' (rN HO_15.out) (Kd.R_base ho74) hb);replace HO_25:=mk0 (Kd.N_elder' (rN HO_25.out) (Kd.R_base ho74) hb);replace HO_28:=mk0 (Kd.N_elder' (rN HO_28.out) (Kd.R_base ho74) hb);have HO221:=mk0 (Kd.R_lower (Kd.R_newM (M:=fun k_=>(w.heap.size ≤ k_)) ho74 (kZ HB.out) (fun k_ h_=>h_)) (kZ HB.out));replace HB:=mk0 (kS HB.out hb);clear hb ho74;have p222:0 ≤ (x16_2:Int):=of_decide_eq_true (by first|(with_reducible assumption)|assumption);have q222:x16_2 < (x10_1.length:Int):=of_decide_eq_true (by first|(with_reducible assumption)|assumption);obtain⟨ad222,A222_0,c222_0,e222,hx222_0,hl222_0,hi222_0⟩:=at_L2 (Kd.N_reads' HO_10.out).2.2 x16_2 p222 q222;cases e222;obtain⟨ce222,hce222,hMe222,hcc222⟩:=Kd.N_get HO_10.out [] x16_2 p222 (by first|exact q222|exact of_decide_eq_true (by first|(with_reducible assumption)|assumption)|(have e_:=(Kd.N_reads' HO_10.out).1;omega));obtain⟨ua222_0,uc222_0,rfl,ul222_0,ge222_0⟩:=Kd.FK_slice_open hMe222;have hv222_0:=hcc222 0 _ rfl;rw [Nat.add_zero,show ((Kd.slice 5 (Kd.int .u8))).sz = 1 from rfl,Nat.mul_one] at hv222_0;replace hv222_0:=Option.some.inj (hv222_0.symm.trans hx222_0);injection hv222_0 with hva_ hvn_ hvc_;rw [hva_] at ge222_0;rw [hvc_] at ul222_0;have HL222_0:=mk0 (show Kd.V (Kd.int .u8) 5 _ w.heap.size _ _ (rd_L2 x10_1 x16_2) from Kd.V_mk ul222_0 ge222_0);clear hva_ hvn_ hvc_ ge222_0 ul222_0 hcc222 hce222;have HR222_0:=mk0 hi222_0;have HC222_0:=mk0 hl222_0;clear hi222_0 hl222_0;replace p222:=eq_true p222;replace q222:=eq_true q222)|((with_reducible refine gate_builtin (b:=.append) (xs:=#[.tmp 97,.tmp 101]) rfl ?_);at_builtin;refine Kd.R_append_rows (Kd.int .u8) (w0:=w) w.heap.size rfl (.tmp 97) (.tmp 101) 22 5 (.int .u8 0) 1 rfl Try.underlying22 info5 rfl (by decide) (by omega) v220 y219 (rd_L2 x10_1 x16_2) _ _ _ (fun k_=>(w.heap.size ≤ k_)) (fun _=>False) rfl rfl ?aO ?aR (fun _ _ h=>h) (fun _ h=>h.elim) ?aF ?aB ?aS ?aL ?_;(case aR=>repeat (first|exact (by repeat (first|(with_reducible exact HR222_0.out)|(with_reducible first|apply aC|apply nC|apply dC)|exact HR222_0.out|exact (Kd.V_reads' HL222_0.out).2.2))|(with_reducible first|apply aC|apply nC|apply dC)));(case aB=>exact (kB HB.out));(case aF=>exact (fun k_ hk=>(Nat.le_trans (kZ HB.out) hk)));(case aO=>exact (rR (Kd.R_mono HO221.out (fun _ hk=>hk.1))));(case aS=>exact (kZ HB.out));(case aL=>have:=LMc68.out;omega);intro v224 w75 ho hb hg hat;rw [← Ny223.out] at ho;replace HO_10:=mk0 (Kd.N_afterv (ok:=(fun k_=>((P0_ k_ ∨ P1_ k_) ∨ w.heap.size ≤ k_) ∧ some k_ ≠ (u15:Value).ownBlock)) (rN HO_10.out) hg hat);replace HO_15:=mk0 (Kd.N_afterv (ok:=(fun k_=>((P0_ k_ ∨ P1_ k_) ∨ w.heap.size ≤ k_) ∧ some k_ ≠ (.slice (some ad222) x10_1.length co72:Value).ownBlock ∧ some k_ ≠ (.slice Ao15 t166.length co15:Value).ownBlock ∧ some k_ ≠ (.slice Ao17 t169.length co17:Value).ownBlock)) (rN HO_15.out) hg hat);replace HO_25:=mk0 (Kd.N_afterv (ok:=(fun k_=>((P0_ k_ ∨ P1_ k_) ∨ w.heap.size ≤ k_) ∧ some k_ ≠ (.slice (some ad222) x10_1.length co72:Value).ownBlock ∧ some k_ ≠ (u15:Value).ownBlock ∧ some k_ ≠ (.slice Ao17 t169.length co17:Value).ownBlock)) (rN HO_25.out) hg hat);replace HO_28:=mk0 (Kd.N_afterv (ok:=(fun k_=>((P0_ k_ ∨ P1_ k_) ∨ w.heap.size ≤ k_) ∧ some k_ ≠ (.slice (some ad222) x10_1.length co72:Value).ownBlock ∧ some k_ ≠ (u15:Value).ownBlock ∧ some k_ ≠ (.slice Ao15 t166.length co15:Value).ownBlock)) (rN HO_28.out) hg hat);replace HL222_0:=mk0 (Kd.V_afterv (ok:=(fun k_=>((P0_ k_ ∨ P1_ k_) ∨ w.heap.size ≤ k_) ∧ some k_ ≠ (.slice (some ad222) x10_1.length co72:Value).ownBlock ∧ some k_ ≠ (u15:Value).ownBlock)) (rV (Kd.V_mono HL222_0.out (fun _ hk=>⟨⟨hk.1.1.1,⟨hk.2,hk.1.1.2⟩⟩,hk.1.2⟩))) hg hat);replace HB:=mk0 (hb);have HO225:=mk0 (ho);clear HO221 ho hb hg hat;obtain⟨Ao76,co76,eo76⟩:=Kd.R_slice HO225.out;subst eo76)|((with_reducible refine gate_dst (N:=17) rfl ?_);refine box_event ?hg (N:=17) ?hd (cs:=#[.slice none 0 0,.int .i64 0,.int .i64 0,.int .i64 0,.int .i64 0]) (t:=48) ?hr ?_;(case hd=>rfl);(case hg=>rfl);(case hr=>first|(go_simp;done)|(go_simp;rfl));intro gb226 hg w77 hbox hb;replace HO_10:=mk0 (Kd.N_below (Kd.N_elderB (rN HO_10.out) gb226 (Nat.le_of_eq hg.symm)) hb);replace HO_15:=mk0 (Kd.N_below (Kd.N_elderB (rN HO_15.out) gb226 (Nat.le_of_eq hg.symm)) hb);replace HO_25:=mk0 (Kd.N_below (Kd.N_elderB (rN HO_25.out) gb226 (Nat.le_of_eq hg.symm)) hb);replace HO_28:=mk0 (Kd.N_below (Kd.N_elderB (rN HO_28.out) gb226 (Nat.le_of_eq hg.symm)) hb);replace HL222_0:=mk0 (Kd.V_below (Kd.V_elderB (rV HL222_0.out) gb226 (Nat.le_of_eq hg.symm)) hb);replace HO225:=mk0 (bR HO225.out hb);have BK226:=mk0 (hbox);have GW226:=mk0 ((by rw [hg];exact (kZ HB.out):w.heap.size ≤ gb226));have GE226:=mk0 ((by rw [hg];exact (kZ HB.out):w.heap.size ≤ gb226));replace HB:=mk0 (kS HB.out hb);clear hb hbox hg;obtain⟨hcz78_0,hcz78_1,hcz78_2,hcz78_3,hcz78_4,hfz78_0,hfz78_1,hfz78_2,hfz78_3,hfz78_4⟩:=cz5 BK226.out)|((with_reducible refine gate_store (t:=48) (p:=17) rfl ?_);refine store_event (t:=48) (p:=17) (v:=?vo_w79) (w1:=(((((w77.setCell ⟨gb226,0,none⟩ (.slice Ao76 y223.length co76)).setCell ⟨gb226,1,none⟩ (.int .i64 0)).setCell ⟨gb226,2,none⟩ (.int .i64 0)).setCell ⟨gb226,3,none⟩ (.int .i64 0)).setCell ⟨gb226,4,none⟩ (.int .i64 0))) ?hg ?ho ?hn ?hr ?_;(case ho=>rfl);(case hg=>rfl);(case hn=>rfl);(case hr=>first|(go_simp;done)|(go_simp;rfl));intro w79 hw;have n0_:Aside0 (Kd.N (Kd.slice 5 (Kd.int .u8)) 22 w79 w.heap.size (fun k_=>((P0_ k_ ∨ P1_ k_) ∨ w.heap.size ≤ k_) ∧ some k_ ≠ (u15:Value).ownBlock ∧ some k_ ≠ (.slice Ao76 y223.length co76:Value).ownBlock ∧ k_ ≠ gb226) (.slice (some ad222) x10_1.length co72) x10_1):=⟨(by rw [hw];exact (by (with_reducible repeat (first|apply aN|apply nN|apply dN));exact Kd.N_mono (Kd.N_far (p:=⟨gb226,4,none⟩) (Kd.N_far (p:=⟨gb226,3,none⟩) (Kd.N_far (p:=⟨gb226,2,none⟩) (Kd.N_far (p:=⟨gb226,1,none⟩) (Kd.N_far (p:=⟨gb226,0,none⟩) (Kd.N_mono HO_10.out (fun k_ hk=>(⟨hk,hk.2⟩:_ ∧ k_ ≠ gb226))) (fun _ hk=>hk.2) (.slice Ao76 y223.length co76)) (fun _ hk=>hk.2) (.int .i64 0)) (fun _ hk=>hk.2) (.int .i64 0)) (fun _ hk=>hk.2) (.int .i64 0)) (fun _ hk=>hk.2) (.int .i64 0)) (fun _ hk=>⟨hk.1.1.1.1,⟨hk.1.1.1.2,⟨hk.1.1.2,hk.1.2⟩⟩⟩)))⟩;have n1_:Aside0 (Kd.N k48 48 w79 w.heap.size (fun k_=>((P0_ k_ ∨ P1_ k_) ∨ w.heap.size ≤ k_) ∧ some k_ ≠ (.slice (some ad222) x10_1.length co72:Value).ownBlock ∧ some k_ ≠ (.slice Ao15 t166.length co15:Value).ownBlock ∧ some k_ ≠ (.slice Ao17 t169.length co17:Value).ownBlock ∧ some k_ ≠ (.slice Ao76 y223.length co76:Value).ownBlock ∧ k_ ≠ gb226) u15 x15_2):=⟨(by rw [hw];exact (by (with_reducible repeat (first|apply aN|apply nN|apply dN));exact Kd.N_mono (Kd.N_far (p:=⟨gb226,4,none⟩) (Kd.N_far (p:=⟨gb226,3,none⟩) (Kd.N_far (p:=⟨gb226,2,none⟩) (Kd.N_far (p:=⟨gb226,1,none⟩) (Kd.N_far (p:=⟨gb226,0,none⟩) (Kd.N_mono HO_15.out (fun k_ hk=>(⟨hk,hk.2⟩:_ ∧ k_ ≠ gb226))) (fun _ hk=>hk.2) (.slice Ao76 y223.length co76)) (fun _ hk=>hk.2) (.int .i64 0)) (fun _ hk=>hk.2) (.int .i64 0)) (fun _ hk=>hk.2) (.int .i64 0)) (fun _ hk=>hk.2) (.int .i64 0)) (fun _ hk=>⟨hk.1.1.1.1,⟨hk.1.1.1.2.1,⟨hk.1.1.1.2.2.1,⟨hk.1.1.1.2.2.2,⟨hk.1.1.2,hk.1.2⟩⟩⟩⟩⟩)))⟩;have n2_:Aside0 (Kd.N (Kd.slice 5 (Kd.int .u8)) 22 w79 w.heap.size (fun k_=>((P0_ k_ ∨ P1_ k_) ∨ w.heap.size ≤ k_) ∧ some k_ ≠ (.slice (some ad222) x10_1.length co72:Value).ownBlock ∧ some k_ ≠ (u15:Value).ownBlock ∧ some k_ ≠ (.slice Ao17 t169.length co17:Value).ownBlock ∧ some k_ ≠ (.slice Ao76 y223.length co76:Value).ownBlock ∧ k_ ≠ gb226) (.slice Ao15 t166.length co15) t166):=⟨(by rw [hw];exact (by (with_reducible repeat (first|apply aN|apply nN|apply dN));exact Kd.N_mono (Kd.N_far (p:=⟨gb226,4,none⟩) (Kd.N_far (p:=⟨gb226,3,none⟩) (Kd.N_far (p:=⟨gb226,2,none⟩) (Kd.N_far (p:=⟨gb226,1,none⟩) (Kd.N_far (p:=⟨gb226,0,none⟩) (Kd.N_mono HO_25.out (fun k_ hk=>(⟨hk,hk.2⟩:_ ∧ k_ ≠ gb226))) (fun _ hk=>hk.2) (.slice Ao76 y223.length co76)) (fun _ hk=>hk.2) (.int .i64 0)) (fun _ hk=>hk.2) (.int .i64 0)) (fun _ hk=>hk.2) (.int .i64 0)) (fun _ hk=>hk.2) (.int .i64 0)) (fun _ hk=>⟨hk.1.1.1.1,⟨hk.1.1.1.2.1,⟨hk.1.1.1.2.2.1,⟨hk.1.1.1.2.2.2,⟨hk.1.1.2,hk.1.2⟩⟩⟩⟩⟩)))⟩;have n3_:Aside0 (Kd.N (Kd.slice 5 (Kd.int .u8)) 22 w79 w.heap.size (fun k_=>((P0_ k_ ∨ P1_ k_) ∨ w.heap.size ≤ k_) ∧ some k_ ≠ (.slice (some ad222) x10_1.length co72:Value).ownBlock ∧ some k_ ≠ (u15:Value).ownBlock ∧ some k_ ≠ (.slice Ao15 t166.length co15:Value).ownBlock ∧ some k_ ≠ (.slice Ao76 y223.length co76:Value).ownBlock ∧ k_ ≠ gb226) (.slice Ao17 t169.length co17) t169):=⟨(by rw [hw];exact (by (with_reducible repeat (first|apply aN|apply nN|apply dN));exact Kd.N_mono (Kd.N_far (p:=⟨gb226,4,none⟩) (Kd.N_far (p:=⟨gb226,3,none⟩) (Kd.N_far (p:=⟨gb226,2,none⟩) (Kd.N_far (p:=⟨gb226,1,none⟩) (Kd.N_far (p:=⟨gb226,0,none⟩) (Kd.N_mono HO_28.out (fun k_ hk=>(⟨hk,hk.2⟩:_ ∧ k_ ≠ gb226))) (fun _ hk=>hk.2) (.slice Ao76 y223.length co76)) (fun _ hk=>hk.2) (.int .i64 0)) (fun _ hk=>hk.2) (.int .i64 0)) (fun _ hk=>hk.2) (.int .i64 0)) (fun _ hk=>hk.2) (.int .i64 0)) (fun _ hk=>⟨hk.1.1.1.1,⟨hk.1.1.1.2.1,⟨hk.1.1.1.2.2.1,⟨hk.1.1.1.2.2.2,⟨hk.1.1.2,hk.1.2⟩⟩⟩⟩⟩)))⟩;have n4_:Aside0 (Kd.V (Kd.int .u8) 5 w79 w.heap.size (fun k_=>((P0_ k_ ∨ P1_ k_) ∨ w.heap.size ≤ k_) ∧ some k_ ≠ (.slice (some ad222) x10_1.length co72:Value).ownBlock ∧ some k_ ≠ (u15:Value).ownBlock ∧ some k_ ≠ (.slice Ao76 y223.length co76:Value).ownBlock ∧ k_ ≠ gb226) (.slice A222_0 (rd_L2 x10_1 x16_2).length c222_0) (rd_L2 x10_1 x16_2)):=⟨(by rw [hw];exact (by (with_reducible repeat (first|apply aV|apply nV|apply dV));exact Kd.V_mono (Kd.V_far (p:=⟨gb226,4,none⟩) (Kd.V_far (p:=⟨gb226,3,none⟩) (Kd.V_far (p:=⟨gb226,2,none⟩) (Kd.V_far (p:=⟨gb226,1,none⟩) (Kd.V_far (p:=⟨gb226,0,none⟩) (Kd.V_mono HL222_0.out (fun k_ hk=>(⟨hk,hk.2⟩:_ ∧ k_ ≠ gb226))) (fun _ hk=>hk.2) (.slice Ao76 y223.length co76)) (fun _ hk=>hk.2) (.int .i64 0)) (fun _ hk=>hk.2) (.int .i64 0)) (fun _ hk=>hk.2) (.int .i64 0)) (fun _ hk=>hk.2) (.int .i64 0)) (fun _ hk=>⟨hk.1.1.1.1,⟨hk.1.1.1.2.1,⟨hk.1.1.1.2.2,⟨hk.1.1.2,hk.1.2⟩⟩⟩⟩)))⟩;have n5_:Aside0 (Kd.R (Kd.int .u8) 5 w79 w.heap.size (fun k_=>(w.heap.size ≤ k_)) (.slice Ao76 y223.length co76) y223):=⟨(by rw [hw];exact (by (with_reducible repeat (first|apply aR|apply nR|apply dR));exact Kd.R_mono (Kd.R_far (p:=⟨gb226,4,none⟩) (Kd.R_far (p:=⟨gb226,3,none⟩) (Kd.R_far (p:=⟨gb226,2,none⟩) (Kd.R_far (p:=⟨gb226,1,none⟩) (Kd.R_far (p:=⟨gb226,0,none⟩) (Kd.R_types HO225.out BK226.out (by decide)) (fun _ hk=>hk.2) (.slice Ao76 y223.length co76)) (fun _ hk=>hk.2) (.int .i64 0)) (fun _ hk=>hk.2) (.int .i64 0)) (fun _ hk=>hk.2) (.int .i64 0)) (fun _ hk=>hk.2) (.int .i64 0)) (fun _ hk=>hk.1)))⟩;have n6_:Aside0 (w79.heap[gb226]? = some (.cells #[.slice Ao76 y223.length co76,.int .i64 0,.int .i64 0,.int .i64 0,.int .i64 0] 48 (0,0))):=⟨(by rw [hw];exact (by (with_reducible repeat (first|apply nB|apply dB|apply aB));refine blk_put (cs:=#[.slice Ao76 y223.length co76,.int .i64 0,.int .i64 0,.int .i64 0,.int .i64 0]) ?_ 4 _ rfl;(with_reducible repeat (first|apply nB|apply dB|apply aB));refine blk_put (cs:=#[.slice Ao76 y223.length co76,.int .i64 0,.int .i64 0,.int .i64 0,.int .i64 0]) ?_ 3 _ rfl;(with_reducible repeat (first|apply nB|apply dB|apply aB));refine blk_put (cs:=#[.slice Ao76 y223.length co76,.int .i64 0,.int .i64 0,.int .i64 0,.int .i64 0]) ?_ 2 _ rfl;(with_reducible repeat (first|apply nB|apply dB|apply aB));refine blk_put (cs:=#[.slice Ao76 y223.length co76,.int .i64 0,.int .i64 0,.int .i64 0,.int .i64 0]) ?_ 1 _ rfl;(with_reducible repeat (first|apply nB|apply dB|apply aB));refine blk_put (cs:=#[.slice none 0 0,.int .i64 0,.int .i64 0,.int .i64 0,.int .i64 0]) ?_ 0 _ rfl;(with_reducible repeat (first|apply nB|apply dB|apply aB));exact BK226.out))⟩;have n7_:Aside0 (Below w.heap.size w w79):=⟨(by rw [hw];exact (kB HB.out))⟩;clear hw HO_10 HO_15 HO_25 HO_28 HL222_0 HO225 BK226 HB;have HO_10:=n0_;have HO_15:=n1_;have HO_25:=n2_;have HO_28:=n3_;have HL222_0:=n4_;have HO225:=n5_;have BK226:=n6_;have HB:=n7_;clear n0_ n1_ n2_ n3_ n4_ n5_ n6_ n7_;have p227:0 ≤ (x16_2:Int):=of_decide_eq_true (by first|(with_reducible assumption)|assumption);have q227:x16_2 < (x10_1.length:Int):=of_decide_eq_true (by first|(with_reducible assumption)|assumption);obtain⟨ad227,A227_0,c227_0,e227,hx227_0,hl227_0,hi227_0⟩:=at_L2 (Kd.N_reads' HO_10.out).2.2 x16_2 p227 q227;obtain rfl:ad222 = ad227:=(by injection e227);obtain⟨ce227,hce227,hMe227,hcc227⟩:=Kd.N_get HO_10.out [] x16_2 p227 (by first|exact q227|exact of_decide_eq_true (by first|(with_reducible assumption)|assumption)|(have e_:=(Kd.N_reads' HO_10.out).1;omega));obtain⟨ua227_0,uc227_0,rfl,ul227_0,ge227_0⟩:=Kd.FK_slice_open hMe227;have hv227_0:=hcc227 0 _ rfl;rw [Nat.add_zero,show ((Kd.slice 5 (Kd.int .u8))).sz = 1 from rfl,Nat.mul_one] at hv227_0;replace hv227_0:=Option.some.inj (hv227_0.symm.trans hx227_0);injection hv227_0 with hva_ hvn_ hvc_;rw [hva_] at ge227_0;rw [hvc_] at ul227_0;have HL227_0:=mk0 (show Kd.V (Kd.int .u8) 5 _ w.heap.size _ _ (rd_L2 x10_1 x16_2) from Kd.V_mk ul227_0 ge227_0);clear hva_ hvn_ hvc_ ge227_0 ul227_0 hcc227 hce227;have HR227_0:=mk0 hi227_0;have HC227_0:=mk0 hl227_0;clear hi227_0 hl227_0;replace p227:=eq_true p227;replace q227:=eq_true q227)|((with_reducible refine gate_callee (f:=54) rfl ?_);refine goesL_ (some 110) rfl rfl Try.func54 (by kernel_rfl) rfl #[.slice Ao15 t166.length co15,.slice A227_0 (rd_L2 x10_1 x16_2).length c227_0] rfl (by (try simp only [mA,mC,mN]);first|done|rfl|(simp only [List.length_drop,List.length_take];done)|(simp only [List.length_drop,List.length_take];rfl)) ?_;(with_reducible refine (spec_l13Span.calls k2 _ _ t166 _ _ (rd_L2 x10_1 x16_2) t228 t229 _ ?side1 ?side2 ?side3 ?side4 A69.out).mono ?_);(case side1=>exact kC (Kd.N_reads' HO_25.out).2.2);(case side2=>exact (Kd.N_reads' HO_25.out).2.1);(case side3=>repeat (first|exact (by repeat (first|(with_reducible exact HR227_0.out)|(with_reducible first|apply aC|apply nC|apply dC)|exact HR227_0.out|exact (Kd.V_reads' HL227_0.out).2.2))|(with_reducible first|apply aC|apply nC|apply dC)));(case side4=>exact HC227_0.out);rintro e w' ⟨rfl,⟨nd,rfl⟩⟩;refine⟨_,rfl,?_⟩;(try (rw [drewN_self w79];generalize hq_:World.drewN w79 _ = w79;have n0_:Aside0 (Kd.V (Kd.int .u8) 5 w79 w.heap.size (fun k_=>((((P0_ k_ ∨ P1_ k_) ∨ w.heap.size ≤ k_)) ∧ (some k_ ≠ (.slice (some ad222) x10_1.length co72:Value).ownBlock ∧ (some k_ ≠ (u15:Value).ownBlock ∧ (some k_ ≠ (.slice Ao76 y223.length co76:Value).ownBlock ∧ k_ ≠ gb226))))) (.slice A222_0 (rd_L2 x10_1 x16_2).length c222_0) (rd_L2 x10_1 x16_2)):=⟨by rw [← hq_];exact (rV HL222_0.out)⟩;have n1_:Aside0 (Kd.V (Kd.int .u8) 5 w79 w.heap.size (fun k_=>(((((P0_ k_ ∨ P1_ k_) ∨ w.heap.size ≤ k_)) ∧ (some k_ ≠ (u15:Value).ownBlock ∧ (some k_ ≠ (.slice Ao76 y223.length co76:Value).ownBlock ∧ k_ ≠ gb226))) ∧ some k_ ≠ (.slice (some ad222) x10_1.length co72:Value).ownBlock)) (.slice A227_0 (rd_L2 x10_1 x16_2).length c227_0) (rd_L2 x10_1 x16_2)):=⟨by rw [← hq_];exact (rV HL227_0.out)⟩;have n2_:Aside0 (Kd.R (Kd.int .u8) 5 w79 w.heap.size (fun k_=>((w.heap.size ≤ k_))) (.slice Ao76 y223.length co76) y223):=⟨by rw [← hq_];exact (rR HO225.out)⟩;have n3_:Aside0 (Kd.N (Kd.slice 5 (Kd.int .u8)) 22 w79 w.heap.size (fun k_=>((((P0_ k_ ∨ P1_ k_) ∨ w.heap.size ≤ k_)) ∧ (some k_ ≠ (u15:Value).ownBlock ∧ (some k_ ≠ (.slice Ao76 y223.length co76:Value).ownBlock ∧ k_ ≠ gb226)))) (.slice (some ad222) x10_1.length co72) x10_1):=⟨by rw [← hq_];exact (rN HO_10.out)⟩;have n4_:Aside0 (Kd.N k48 48 w79 w.heap.size (fun k_=>((((P0_ k_ ∨ P1_ k_) ∨ w.heap.size ≤ k_)) ∧ (some k_ ≠ (.slice (some ad222) x10_1.length co72:Value).ownBlock ∧ (some k_ ≠ (.slice Ao15 t166.length co15:Value).ownBlock ∧ (some k_ ≠ (.slice Ao17 t169.length co17:Value).ownBlock ∧ (some k_ ≠ (.slice Ao76 y223.length co76:Value).ownBlock ∧ k_ ≠ gb226)))))) u15 x15_2):=⟨by rw [← hq_];exact (rN HO_15.out)⟩;have n5_:Aside0 (Kd.N (Kd.slice 5 (Kd.int .u8)) 22 w79 w.heap.size (fun k_=>((((P0_ k_ ∨ P1_ k_) ∨ w.heap.size ≤ k_)) ∧ (some k_ ≠ (.slice (some ad222) x10_1.length co72:Value).ownBlock ∧ (some k_ ≠ (u15:Value).ownBlock ∧ (some k_ ≠ (.slice Ao17 t169.length co17:Value).ownBlock ∧ (some k_ ≠ (.slice Ao76 y223.length co76:Value).ownBlock ∧ k_ ≠ gb226)))))) (.slice Ao15 t166.length co15) t166):=⟨by rw [← hq_];exact (rN HO_25.out)⟩;have n6_:Aside0 (Kd.N (Kd.slice 5 (Kd.int .u8)) 22 w79 w.heap.size (fun k_=>((((P0_ k_ ∨ P1_ k_) ∨ w.heap.size ≤ k_)) ∧ (some k_ ≠ (.slice (some ad222) x10_1.length co72:Value).ownBlock ∧ (some k_ ≠ (u15:Value).ownBlock ∧ (some k_ ≠ (.slice Ao15 t166.length co15:Value).ownBlock ∧ (some k_ ≠ (.slice Ao76 y223.length co76:Value).ownBlock ∧ k_ ≠ gb226)))))) (.slice Ao17 t169.length co17) t169):=⟨by rw [← hq_];exact (rN HO_28.out)⟩;have n7_:Aside0 (w79.heap[gb226]? = some (.cells #[.slice Ao76 y223.length co76,.int .i64 0,.int .i64 0,.int .i64 0,.int .i64 0] 48 (0,0))):=⟨by rw [← hq_];exact (kN BK226.out)⟩;have n8_:Aside0 (Below w.heap.size w w79):=⟨by rw [← hq_];exact (kB HB.out)⟩;have n9_:Aside0 (Kd.C (Kd.int .u8) w79 A227_0 (rd_L2 x10_1 x16_2).length (rd_L2 x10_1 x16_2)):=⟨by rw [← hq_];exact (by repeat (first|(with_reducible exact HR227_0.out)|(with_reducible first|apply aC|apply nC|apply dC)|exact HR227_0.out|exact (Kd.V_reads' HL227_0.out).2.2))⟩;clear HL222_0 HL227_0 HO225 HO_10 HO_15 HO_25 HO_28 BK226 HB HR227_0 hq_;have HL222_0:=n0_;have HL227_0:=n1_;have HO225:=n2_;have HO_10:=n3_;have HO_15:=n4_;have HO_25:=n5_;have HO_28:=n6_;have BK226:=n7_;have HB:=n8_;have HR227_0:=n9_;clear n0_ n1_ n2_ n3_ n4_ n5_ n6_ n7_ n8_ n9_));obtain⟨hcz80_0,hcz80_1,hcz80_2,hcz80_3,hcz80_4,hfz80_0,hfz80_1,hfz80_2,hfz80_3,hfz80_4⟩:=cz5 BK226.out)|((with_reducible refine gate_store (t:=3) (p:=113) rfl ?_);refine store_event (t:=3) (p:=113) (v:=?vo_w81) (w1:=(w79.setCell ⟨gb226,1,none⟩ (.int .i64 t228))) ?hg ?ho ?hn ?hr ?_;(case ho=>rfl);(case hg=>rfl);(case hn=>rfl);(case hr=>first|(go_simp;done)|(go_simp;rfl));intro w81 hw;have n0_:Aside0 (Kd.N (Kd.slice 5 (Kd.int .u8)) 22 w81 w.heap.size (fun k_=>((P0_ k_ ∨ P1_ k_) ∨ w.heap.size ≤ k_) ∧ some k_ ≠ (u15:Value).ownBlock ∧ some k_ ≠ (.slice Ao76 y223.length co76:Value).ownBlock ∧ k_ ≠ gb226) (.slice (some ad222) x10_1.length co72) x10_1):=⟨(by rw [hw];exact (by (with_reducible repeat (first|apply aN|apply nN|apply dN));exact Kd.N_mono (Kd.N_far (p:=⟨gb226,1,none⟩) (Kd.N_mono HO_10.out (fun k_ hk=>(⟨hk,hk.2.2.2⟩:_ ∧ k_ ≠ gb226))) (fun _ hk=>hk.2) (.int .i64 t228)) (fun _ hk=>⟨hk.1.1,⟨hk.1.2.1,⟨hk.1.2.2.1,hk.1.2.2.2⟩⟩⟩)))⟩;have n1_:Aside0 (Kd.N k48 48 w81 w.heap.size (fun k_=>((P0_ k_ ∨ P1_ k_) ∨ w.heap.size ≤ k_) ∧ some k_ ≠ (.slice (some ad222) x10_1.length co72:Value).ownBlock ∧ some k_ ≠ (.slice Ao15 t166.length co15:Value).ownBlock ∧ some k_ ≠ (.slice Ao17 t169.length co17:Value).ownBlock ∧ some k_ ≠ (.slice Ao76 y223.length co76:Value).ownBlock ∧ k_ ≠ gb226) u15 x15_2):=⟨(by rw [hw];exact (by (with_reducible repeat (first|apply aN|apply nN|apply dN));exact Kd.N_mono (Kd.N_far (p:=⟨gb226,1,none⟩) (Kd.N_mono HO_15.out (fun k_ hk=>(⟨hk,hk.2.2.2.2.2⟩:_ ∧ k_ ≠ gb226))) (fun _ hk=>hk.2) (.int .i64 t228)) (fun _ hk=>⟨hk.1.1,⟨hk.1.2.1,⟨hk.1.2.2.1,⟨hk.1.2.2.2.1,⟨hk.1.2.2.2.2.1,hk.1.2.2.2.2.2⟩⟩⟩⟩⟩)))⟩;have n2_:Aside0 (Kd.N (Kd.slice 5 (Kd.int .u8)) 22 w81 w.heap.size (fun k_=>((P0_ k_ ∨ P1_ k_) ∨ w.heap.size ≤ k_) ∧ some k_ ≠ (.slice (some ad222) x10_1.length co72:Value).ownBlock ∧ some k_ ≠ (u15:Value).ownBlock ∧ some k_ ≠ (.slice Ao17 t169.length co17:Value).ownBlock ∧ some k_ ≠ (.slice Ao76 y223.length co76:Value).ownBlock ∧ k_ ≠ gb226) (.slice Ao15 t166.length co15) t166):=⟨(by rw [hw];exact (by (with_reducible repeat (first|apply aN|apply nN|apply dN));exact Kd.N_mono (Kd.N_far (p:=⟨gb226,1,none⟩) (Kd.N_mono HO_25.out (fun k_ hk=>(⟨hk,hk.2.2.2.2.2⟩:_ ∧ k_ ≠ gb226))) (fun _ hk=>hk.2) (.int .i64 t228)) (fun _ hk=>⟨hk.1.1,⟨hk.1.2.1,⟨hk.1.2.2.1,⟨hk.1.2.2.2.1,⟨hk.1.2.2.2.2.1,hk.1.2.2.2.2.2⟩⟩⟩⟩⟩)))⟩;have n3_:Aside0 (Kd.N (Kd.slice 5 (Kd.int .u8)) 22 w81 w.heap.size (fun k_=>((P0_ k_ ∨ P1_ k_) ∨ w.heap.size ≤ k_) ∧ some k_ ≠ (.slice (some ad222) x10_1.length co72:Value).ownBlock ∧ some k_ ≠ (u15:Value).ownBlock ∧ some k_ ≠ (.slice Ao15 t166.length co15:Value).ownBlock ∧ some k_ ≠ (.slice Ao76 y223.length co76:Value).ownBlock ∧ k_ ≠ gb226) (.slice Ao17 t169.length co17) t169):=⟨(by rw [hw];exact (by (with_reducible repeat (first|apply aN|apply nN|apply dN));exact Kd.N_mono (Kd.N_far (p:=⟨gb226,1,none⟩) (Kd.N_mono HO_28.out (fun k_ hk=>(⟨hk,hk.2.2.2.2.2⟩:_ ∧ k_ ≠ gb226))) (fun _ hk=>hk.2) (.int .i64 t228)) (fun _ hk=>⟨hk.1.1,⟨hk.1.2.1,⟨hk.1.2.2.1,⟨hk.1.2.2.2.1,⟨hk.1.2.2.2.2.1,hk.1.2.2.2.2.2⟩⟩⟩⟩⟩)))⟩;have n4_:Aside0 (Kd.V (Kd.int .u8) 5 w81 w.heap.size (fun k_=>((P0_ k_ ∨ P1_ k_) ∨ w.heap.size ≤ k_) ∧ some k_ ≠ (.slice (some ad222) x10_1.length co72:Value).ownBlock ∧ some k_ ≠ (u15:Value).ownBlock ∧ some k_ ≠ (.slice Ao76 y223.length co76:Value).ownBlock ∧ k_ ≠ gb226) (.slice A222_0 (rd_L2 x10_1 x16_2).length c222_0) (rd_L2 x10_1 x16_2)):=⟨(by rw [hw];exact (by (with_reducible repeat (first|apply aV|apply nV|apply dV));exact Kd.V_mono (Kd.V_far (p:=⟨gb226,1,none⟩) (Kd.V_mono HL222_0.out (fun k_ hk=>(⟨hk,hk.2.2.2.2⟩:_ ∧ k_ ≠ gb226))) (fun _ hk=>hk.2) (.int .i64 t228)) (fun _ hk=>⟨hk.1.1,⟨hk.1.2.1,⟨hk.1.2.2.1,⟨hk.1.2.2.2.1,hk.1.2.2.2.2⟩⟩⟩⟩)))⟩;have n5_:Aside0 (Kd.R (Kd.int .u8) 5 w81 w.heap.size (fun k_=>(w.heap.size ≤ k_)) (.slice Ao76 y223.length co76) y223):=⟨(by rw [hw];exact (by (with_reducible repeat (first|apply aR|apply nR|apply dR));exact Kd.R_mono (Kd.R_far (p:=⟨gb226,1,none⟩) (Kd.R_types HO225.out BK226.out (by decide)) (fun _ hk=>hk.2) (.int .i64 t228)) (fun _ hk=>hk.1)))⟩;have n6_:Aside0 (Kd.V (Kd.int .u8) 5 w81 w.heap.size (fun k_=>((P0_ k_ ∨ P1_ k_) ∨ w.heap.size ≤ k_) ∧ some k_ ≠ (.slice (some ad222) x10_1.length co72:Value).ownBlock ∧ some k_ ≠ (u15:Value).ownBlock ∧ some k_ ≠ (.slice Ao76 y223.length co76:Value).ownBlock ∧ k_ ≠ gb226) (.slice A227_0 (rd_L2 x10_1 x16_2).length c227_0) (rd_L2 x10_1 x16_2)):=⟨(by rw [hw];exact (by (with_reducible repeat (first|apply aV|apply nV|apply dV));exact Kd.V_mono (Kd.V_far (p:=⟨gb226,1,none⟩) (Kd.V_mono HL227_0.out (fun k_ hk=>(⟨hk,hk.1.2.2.2⟩:_ ∧ k_ ≠ gb226))) (fun _ hk=>hk.2) (.int .i64 t228)) (fun _ hk=>⟨hk.1.1.1,⟨hk.1.2,⟨hk.1.1.2.1,⟨hk.1.1.2.2.1,hk.1.1.2.2.2⟩⟩⟩⟩)))⟩;have n7_:Aside0 (w81.heap[gb226]? = some (.cells #[.slice Ao76 y223.length co76,.int .i64 t228,.int .i64 0,.int .i64 0,.int .i64 0] 48 (0,0))):=⟨(by rw [hw];exact (by (with_reducible repeat (first|apply nB|apply dB|apply aB));refine blk_put (cs:=#[.slice Ao76 y223.length co76,.int .i64 0,.int .i64 0,.int .i64 0,.int .i64 0]) ?_ 1 _ rfl;(with_reducible repeat (first|apply nB|apply dB|apply aB));exact BK226.out))⟩;have n8_:Aside0 (Below w.heap.size w w81):=⟨(by rw [hw];exact (kB HB.out))⟩;clear hw HO_10 HO_15 HO_25 HO_28 HL222_0 HO225 HL227_0 BK226 HB;have HO_10:=n0_;have HO_15:=n1_;have HO_25:=n2_;have HO_28:=n3_;have HL222_0:=n4_;have HO225:=n5_;have HL227_0:=n6_;have BK226:=n7_;have HB:=n8_;clear n0_ n1_ n2_ n3_ n4_ n5_ n6_ n7_ n8_;obtain⟨hcz82_0,hcz82_1,hcz82_2,hcz82_3,hcz82_4,hfz82_0,hfz82_1,hfz82_2,hfz82_3,hfz82_4⟩:=cz5 BK226.out)|((with_reducible refine gate_store (t:=3) (p:=114) rfl ?_);refine store_event (t:=3) (p:=114) (v:=?vo_w83) (w1:=(w81.setCell ⟨gb226,2,none⟩ (.int .i64 t229))) ?hg ?ho ?hn ?hr ?_;(case ho=>rfl);(case hg=>rfl);(case hn=>rfl);(case hr=>first|(go_simp;done)|(go_simp;rfl));intro w83 hw;have n0_:Aside0 (Kd.N (Kd.slice 5 (Kd.int .u8)) 22 w83 w.heap.size (fun k_=>((P0_ k_ ∨ P1_ k_) ∨ w.heap.size ≤ k_) ∧ some k_ ≠ (u15:Value).ownBlock ∧ some k_ ≠ (.slice Ao76 y223.length co76:Value).ownBlock ∧ k_ ≠ gb226) (.slice (some ad222) x10_1.length co72) x10_1):=⟨(by rw [hw];exact (by (with_reducible repeat (first|apply aN|apply nN|apply dN));exact Kd.N_mono (Kd.N_far (p:=⟨gb226,2,none⟩) (Kd.N_mono HO_10.out (fun k_ hk=>(⟨hk,hk.2.2.2⟩:_ ∧ k_ ≠ gb226))) (fun _ hk=>hk.2) (.int .i64 t229)) (fun _ hk=>⟨hk.1.1,⟨hk.1.2.1,⟨hk.1.2.2.1,hk.1.2.2.2⟩⟩⟩)))⟩;have n1_:Aside0 (Kd.N k48 48 w83 w.heap.size (fun k_=>((P0_ k_ ∨ P1_ k_) ∨ w.heap.size ≤ k_) ∧ some k_ ≠ (.slice (some ad222) x10_1.length co72:Value).ownBlock ∧ some k_ ≠ (.slice Ao15 t166.length co15:Value).ownBlock ∧ some k_ ≠ (.slice Ao17 t169.length co17:Value).ownBlock ∧ some k_ ≠ (.slice Ao76 y223.length co76:Value).ownBlock ∧ k_ ≠ gb226) u15 x15_2):=⟨(by rw [hw];exact (by (with_reducible repeat (first|apply aN|apply nN|apply dN));exact Kd.N_mono (Kd.N_far (p:=⟨gb226,2,none⟩) (Kd.N_mono HO_15.out (fun k_ hk=>(⟨hk,hk.2.2.2.2.2⟩:_ ∧ k_ ≠ gb226))) (fun _ hk=>hk.2) (.int .i64 t229)) (fun _ hk=>⟨hk.1.1,⟨hk.1.2.1,⟨hk.1.2.2.1,⟨hk.1.2.2.2.1,⟨hk.1.2.2.2.2.1,hk.1.2.2.2.2.2⟩⟩⟩⟩⟩)))⟩;have n2_:Aside0 (Kd.N (Kd.slice 5 (Kd.int .u8)) 22 w83 w.heap.size (fun k_=>((P0_ k_ ∨ P1_ k_) ∨ w.heap.size ≤ k_) ∧ some k_ ≠ (.slice (some ad222) x10_1.length co72:Value).ownBlock ∧ some k_ ≠ (u15:Value).ownBlock ∧ some k_ ≠ (.slice Ao17 t169.length co17:Value).ownBlock ∧ some k_ ≠ (.slice Ao76 y223.length co76:Value).ownBlock ∧ k_ ≠ gb226) (.slice Ao15 t166.length co15) t166):=⟨(by rw [hw];exact (by (with_reducible repeat (first|apply aN|apply nN|apply dN));exact Kd.N_mono (Kd.N_far (p:=⟨gb226,2,none⟩) (Kd.N_mono HO_25.out (fun k_ hk=>(⟨hk,hk.2.2.2.2.2⟩:_ ∧ k_ ≠ gb226))) (fun _ hk=>hk.2) (.int .i64 t229)) (fun _ hk=>⟨hk.1.1,⟨hk.1.2.1,⟨hk.1.2.2.1,⟨hk.1.2.2.2.1,⟨hk.1.2.2.2.2.1,hk.1.2.2.2.2.2⟩⟩⟩⟩⟩)))⟩;have n3_:Aside0 (Kd.N (Kd.slice 5 (Kd.int .u8)) 22 w83 w.heap.size (fun k_=>((P0_ k_ ∨ P1_ k_) ∨ w.heap.size ≤ k_) ∧ some k_ ≠ (.slice (some ad222) x10_1.length co72:Value).ownBlock ∧ some k_ ≠ (u15:Value).ownBlock ∧ some k_ ≠ (.slice Ao15 t166.length co15:Value).ownBlock ∧ some k_ ≠ (.slice Ao76 y223.length co76:Value).ownBlock ∧ k_ ≠ gb226) (.slice Ao17 t169.length co17) t169):=⟨(by rw [hw];exact (by (with_reducible repeat (first|apply aN|apply nN|apply dN));exact Kd.N_mono (Kd.N_far (p:=⟨gb226,2,none⟩) (Kd.N_mono HO_28.out (fun k_ hk=>(⟨hk,hk.2.2.2.2.2⟩:_ ∧ k_ ≠ gb226))) (fun _ hk=>hk.2) (.int .i64 t229)) (fun _ hk=>⟨hk.1.1,⟨hk.1.2.1,⟨hk.1.2.2.1,⟨hk.1.2.2.2.1,⟨hk.1.2.2.2.2.1,hk.1.2.2.2.2.2⟩⟩⟩⟩⟩)))⟩;have n4_:Aside0 (Kd.V (Kd.int .u8) 5 w83 w.heap.size (fun k_=>((P0_ k_ ∨ P1_ k_) ∨ w.heap.size ≤ k_) ∧ some k_ ≠ (.slice (some ad222) x10_1.length co72:Value).ownBlock ∧ some k_ ≠ (u15:Value).ownBlock ∧ some k_ ≠ (.slice Ao76 y223.length co76:Value).ownBlock ∧ k_ ≠ gb226) (.slice A222_0 (rd_L2 x10_1 x16_2).length c222_0) (rd_L2 x10_1 x16_2)):=⟨(by rw [hw];exact (by (with_reducible repeat (first|apply aV|apply nV|apply dV));exact Kd.V_mono (Kd.V_far (p:=⟨gb226,2,none⟩) (Kd.V_mono HL222_0.out (fun k_ hk=>(⟨hk,hk.2.2.2.2⟩:_ ∧ k_ ≠ gb226))) (fun _ hk=>hk.2) (.int .i64 t229)) (fun _ hk=>⟨hk.1.1,⟨hk.1.2.1,⟨hk.1.2.2.1,⟨hk.1.2.2.2.1,hk.1.2.2.2.2⟩⟩⟩⟩)))⟩;have n5_:Aside0 (Kd.R (Kd.int .u8) 5 w83 w.heap.size (fun k_=>(w.heap.size ≤ k_)) (.slice Ao76 y223.length co76) y223):=⟨(by rw [hw];exact (by (with_reducible repeat (first|apply aR|apply nR|apply dR));exact Kd.R_mono (Kd.R_far (p:=⟨gb226,2,none⟩) (Kd.R_types HO225.out BK226.out (by decide)) (fun _ hk=>hk.2) (.int .i64 t229)) (fun _ hk=>hk.1)))⟩;have n6_:Aside0 (Kd.V (Kd.int .u8) 5 w83 w.heap.size (fun k_=>((P0_ k_ ∨ P1_ k_) ∨ w.heap.size ≤ k_) ∧ some k_ ≠ (.slice (some ad222) x10_1.length co72:Value).ownBlock ∧ some k_ ≠ (u15:Value).ownBlock ∧ some k_ ≠ (.slice Ao76 y223.length co76:Value).ownBlock ∧ k_ ≠ gb226) (.slice A227_0 (rd_L2 x10_1 x16_2).length c227_0) (rd_L2 x10_1 x16_2)):=⟨(by rw [hw];exact (by (with_reducible repeat (first|apply aV|apply nV|apply dV));exact Kd.V_mono (Kd.V_far (p:=⟨gb226,2,none⟩) (Kd.V_mono HL227_0.out (fun k_ hk=>(⟨hk,hk.2.2.2.2⟩:_ ∧ k_ ≠ gb226))) (fun _ hk=>hk.2) (.int .i64 t229)) (fun _ hk=>⟨hk.1.1,⟨hk.1.2.1,⟨hk.1.2.2.1,⟨hk.1.2.2.2.1,hk.1.2.2.2.2⟩⟩⟩⟩)))⟩;have n7_:Aside0 (w83.heap[gb226]? = some (.cells #[.slice Ao76 y223.length co76,.int .i64 t228,.int .i64 t229,.int .i64 0,.int .i64 0] 48 (0,0))):=⟨(by rw [hw];exact (by (with_reducible repeat (first|apply nB|apply dB|apply aB));refine blk_put (cs:=#[.slice Ao76 y223.length co76,.int .i64 t228,.int .i64 0,.int .i64 0,.int .i64 0]) ?_ 2 _ rfl;(with_reducible repeat (first|apply nB|apply dB|apply aB));exact BK226.out))⟩;have n8_:Aside0 (Below w.heap.size w w83):=⟨(by rw [hw];exact (kB HB.out))⟩;clear hw HO_10 HO_15 HO_25 HO_28 HL222_0 HO225 HL227_0 BK226 HB;have HO_10:=n0_;have HO_15:=n1_;have HO_25:=n2_;have HO_28:=n3_;have HL222_0:=n4_;have HO225:=n5_;have HL227_0:=n6_;have BK226:=n7_;have HB:=n8_;clear n0_ n1_ n2_ n3_ n4_ n5_ n6_ n7_ n8_;have p230:0 ≤ (x16_2:Int):=of_decide_eq_true (by first|(with_reducible assumption)|assumption);have q230:x16_2 < (x10_1.length:Int):=of_decide_eq_true (by first|(with_reducible assumption)|assumption);obtain⟨ad230,A230_0,c230_0,e230,hx230_0,hl230_0,hi230_0⟩:=at_L2 (Kd.N_reads' HO_10.out).2.2 x16_2 p230 q230;obtain rfl:ad222 = ad230:=(by injection e230);obtain⟨ce230,hce230,hMe230,hcc230⟩:=Kd.N_get HO_10.out [] x16_2 p230 (by first|exact q230|exact of_decide_eq_true (by first|(with_reducible assumption)|assumption)|(have e_:=(Kd.N_reads' HO_10.out).1;omega));obtain⟨ua230_0,uc230_0,rfl,ul230_0,ge230_0⟩:=Kd.FK_slice_open hMe230;have hv230_0:=hcc230 0 _ rfl;rw [Nat.add_zero,show ((Kd.slice 5 (Kd.int .u8))).sz = 1 from rfl,Nat.mul_one] at hv230_0;replace hv230_0:=Option.some.inj (hv230_0.symm.trans hx230_0);injection hv230_0 with hva_ hvn_ hvc_;rw [hva_] at ge230_0;rw [hvc_] at ul230_0;have HL230_0:=mk0 (show Kd.V (Kd.int .u8) 5 _ w.heap.size _ _ (rd_L2 x10_1 x16_2) from Kd.V_mk ul230_0 ge230_0);clear hva_ hvn_ hvc_ ge230_0 ul230_0 hcc230 hce230;have HR230_0:=mk0 hi230_0;have HC230_0:=mk0 hl230_0;clear hi230_0 hl230_0;replace p230:=eq_true p230;replace q230:=eq_true q230)|((with_reducible refine gate_callee (f:=54) rfl ?_);refine goesL_ (some 121) rfl rfl Try.func54 (by kernel_rfl) rfl #[.slice Ao17 t169.length co17,.slice A230_0 (rd_L2 x10_1 x16_2).length c230_0] rfl (by (try simp only [mA,mC,mN]);first|done|rfl|(simp only [List.length_drop,List.length_take];done)|(simp only [List.length_drop,List.length_take];rfl)) ?_;(with_reducible refine (spec_l13Span.calls k2 _ _ t169 _ _ (rd_L2 x10_1 x16_2) t231 t232 _ ?side1 ?side2 ?side3 ?side4 A70.out).mono ?_);(case side1=>exact kC (Kd.N_reads' HO_28.out).2.2);(case side2=>exact (Kd.N_reads' HO_28.out).2.1);(case side3=>repeat (first|exact (by repeat (first|(with_reducible exact HR230_0.out)|(with_reducible first|apply aC|apply nC|apply dC)|exact HR230_0.out|exact (Kd.V_reads' HL230_0.out).2.2))|(with_reducible first|apply aC|apply nC|apply dC)));(case side4=>exact HC230_0.out);rintro e w' ⟨rfl,⟨nd,rfl⟩⟩;refine⟨_,rfl,?_⟩;(try (rw [drewN_self w83];generalize hq_:World.drewN w83 _ = w83;have n0_:Aside0 (Kd.V (Kd.int .u8) 5 w83 w.heap.size (fun k_=>((((P0_ k_ ∨ P1_ k_) ∨ w.heap.size ≤ k_)) ∧ (some k_ ≠ (.slice (some ad222) x10_1.length co72:Value).ownBlock ∧ (some k_ ≠ (u15:Value).ownBlock ∧ (some k_ ≠ (.slice Ao76 y223.length co76:Value).ownBlock ∧ k_ ≠ gb226))))) (.slice A222_0 (rd_L2 x10_1 x16_2).length c222_0) (rd_L2 x10_1 x16_2)):=⟨by rw [← hq_];exact (rV HL222_0.out)⟩;have n1_:Aside0 (Kd.V (Kd.int .u8) 5 w83 w.heap.size (fun k_=>((((P0_ k_ ∨ P1_ k_) ∨ w.heap.size ≤ k_)) ∧ (some k_ ≠ (.slice (some ad222) x10_1.length co72:Value).ownBlock ∧ (some k_ ≠ (u15:Value).ownBlock ∧ (some k_ ≠ (.slice Ao76 y223.length co76:Value).ownBlock ∧ k_ ≠ gb226))))) (.slice A227_0 (rd_L2 x10_1 x16_2).length c227_0) (rd_L2 x10_1 x16_2)):=⟨by rw [← hq_];exact (rV HL227_0.out)⟩;have n2_:Aside0 (Kd.V (Kd.int .u8) 5 w83 w.heap.size (fun k_=>(((((P0_ k_ ∨ P1_ k_) ∨ w.heap.size ≤ k_)) ∧ (some k_ ≠ (u15:Value).ownBlock ∧ (some k_ ≠ (.slice Ao76 y223.length co76:Value).ownBlock ∧ k_ ≠ gb226))) ∧ some k_ ≠ (.slice (some ad222) x10_1.length co72:Value).ownBlock)) (.slice A230_0 (rd_L2 x10_1 x16_2).length c230_0) (rd_L2 x10_1 x16_2)):=⟨by rw [← hq_];exact (rV HL230_0.out)⟩;have n3_:Aside0 (Kd.R (Kd.int .u8) 5 w83 w.heap.size (fun k_=>((w.heap.size ≤ k_))) (.slice Ao76 y223.length co76) y223):=⟨by rw [← hq_];exact (rR HO225.out)⟩;have n4_:Aside0 (Kd.N (Kd.slice 5 (Kd.int .u8)) 22 w83 w.heap.size (fun k_=>((((P0_ k_ ∨ P1_ k_) ∨ w.heap.size ≤ k_)) ∧ (some k_ ≠ (u15:Value).ownBlock ∧ (some k_ ≠ (.slice Ao76 y223.length co76:Value).ownBlock ∧ k_ ≠ gb226)))) (.slice (some ad222) x10_1.length co72) x10_1):=⟨by rw [← hq_];exact (rN HO_10.out)⟩;have n5_:Aside0 (Kd.N k48 48 w83 w.heap.size (fun k_=>((((P0_ k_ ∨ P1_ k_) ∨ w.heap.size ≤ k_)) ∧ (some k_ ≠ (.slice (some ad222) x10_1.length co72:Value).ownBlock ∧ (some k_ ≠ (.slice Ao15 t166.length co15:Value).ownBlock ∧ (some k_ ≠ (.slice Ao17 t169.length co17:Value).ownBlock ∧ (some k_ ≠ (.slice Ao76 y223.length co76:Value).ownBlock ∧ k_ ≠ gb226)))))) u15 x15_2):=⟨by rw [← hq_];exact (rN HO_15.out)⟩;have n6_:Aside0 (Kd.N (Kd.slice 5 (Kd.int .u8)) 22 w83 w.heap.size (fun k_=>((((P0_ k_ ∨ P1_ k_) ∨ w.heap.size ≤ k_)) ∧ (some k_ ≠ (.slice (some ad222) x10_1.length co72:Value).ownBlock ∧ (some k_ ≠ (u15:Value).ownBlock ∧ (some k_ ≠ (.slice Ao17 t169.length co17:Value).ownBlock ∧ (some k_ ≠ (.slice Ao76 y223.length co76:Value).ownBlock ∧ k_ ≠ gb226)))))) (.slice Ao15 t166.length co15) t166):=⟨by rw [← hq_];exact (rN HO_25.out)⟩;have n7_:Aside0 (Kd.N (Kd.slice 5 (Kd.int .u8)) 22 w83 w.heap.size (fun k_=>((((P0_ k_ ∨ P1_ k_) ∨ w.heap.size ≤ k_)) ∧ (some k_ ≠ (.slice (some ad222) x10_1.length co72:Value).ownBlock ∧ (some k_ ≠ (u15:Value).ownBlock ∧ (some k_ ≠ (.slice Ao15 t166.length co15:Value).ownBlock ∧ (some k_ ≠ (.slice Ao76 y223.length co76:Value).ownBlock ∧ k_ ≠ gb226)))))) (.slice Ao17 t169.length co17) t169):=⟨by rw [← hq_];exact (rN HO_28.out)⟩;have n8_:Aside0 (w83.heap[gb226]? = some (.cells #[.slice Ao76 y223.length co76,.int .i64 t228,.int .i64 t229,.int .i64 0,.int .i64 0] 48 (0,0))):=⟨by rw [← hq_];exact (kN BK226.out)⟩;have n9_:Aside0 (Below w.heap.size w w83):=⟨by rw [← hq_];exact (kB HB.out)⟩;have n10_:Aside0 (Kd.C (Kd.int .u8) w83 A227_0 (rd_L2 x10_1 x16_2).length (rd_L2 x10_1 x16_2)):=⟨by rw [← hq_];exact (by repeat (first|(with_reducible exact HR227_0.out)|(with_reducible first|apply aC|apply nC|apply dC)|exact HR227_0.out|exact (Kd.V_reads' HL227_0.out).2.2))⟩;have n11_:Aside0 (Kd.C (Kd.int .u8) w83 A230_0 (rd_L2 x10_1 x16_2).length (rd_L2 x10_1 x16_2)):=⟨by rw [← hq_];exact (by repeat (first|(with_reducible exact HR230_0.out)|(with_reducible first|apply aC|apply nC|apply dC)|exact HR230_0.out|exact (Kd.V_reads' HL230_0.out).2.2))⟩;clear HL222_0 HL227_0 HL230_0 HO225 HO_10 HO_15 HO_25 HO_28 BK226 HB HR227_0 HR230_0 hq_;have HL222_0:=n0_;have HL227_0:=n1_;have HL230_0:=n2_;have HO225:=n3_;have HO_10:=n4_;have HO_15:=n5_;have HO_25:=n6_;have HO_28:=n7_;have BK226:=n8_;have HB:=n9_;have HR227_0:=n10_;have HR230_0:=n11_;clear n0_ n1_ n2_ n3_ n4_ n5_ n6_ n7_ n8_ n9_ n10_ n11_));obtain⟨hcz84_0,hcz84_1,hcz84_2,hcz84_3,hcz84_4,hfz84_0,hfz84_1,hfz84_2,hfz84_3,hfz84_4⟩:=cz5 BK226.out)|((with_reducible refine gate_store (t:=3) (p:=124) rfl ?_);refine store_event (t:=3) (p:=124) (v:=?vo_w85) (w1:=(w83.setCell ⟨gb226,3,none⟩ (.int .i64 t231))) ?hg ?ho ?hn ?hr ?_;(case ho=>rfl);(case hg=>rfl);(case hn=>rfl);(case hr=>first|(go_simp;done)|(go_simp;rfl));intro w85 hw;have n0_:Aside0 (Kd.N (Kd.slice 5 (Kd.int .u8)) 22 w85 w.heap.size (fun k_=>((P0_ k_ ∨ P1_ k_) ∨ w.heap.size ≤ k_) ∧ some k_ ≠ (u15:Value).ownBlock ∧ some k_ ≠ (.slice Ao76 y223.length co76:Value).ownBlock ∧ k_ ≠ gb226) (.slice (some ad222) x10_1.length co72) x10_1):=⟨(by rw [hw];exact (by (with_reducible repeat (first|apply aN|apply nN|apply dN));exact Kd.N_mono (Kd.N_far (p:=⟨gb226,3,none⟩) (Kd.N_mono HO_10.out (fun k_ hk=>(⟨hk,hk.2.2.2⟩:_ ∧ k_ ≠ gb226))) (fun _ hk=>hk.2) (.int .i64 t231)) (fun _ hk=>⟨hk.1.1,⟨hk.1.2.1,⟨hk.1.2.2.1,hk.1.2.2.2⟩⟩⟩)))⟩;have n1_:Aside0 (Kd.N k48 48 w85 w.heap.size (fun k_=>((P0_ k_ ∨ P1_ k_) ∨ w.heap.size ≤ k_) ∧ some k_ ≠ (.slice (some ad222) x10_1.length co72:Value).ownBlock ∧ some k_ ≠ (.slice Ao15 t166.length co15:Value).ownBlock ∧ some k_ ≠ (.slice Ao17 t169.length co17:Value).ownBlock ∧ some k_ ≠ (.slice Ao76 y223.length co76:Value).ownBlock ∧ k_ ≠ gb226) u15 x15_2):=⟨(by rw [hw];exact (by (with_reducible repeat (first|apply aN|apply nN|apply dN));exact Kd.N_mono (Kd.N_far (p:=⟨gb226,3,none⟩) (Kd.N_mono HO_15.out (fun k_ hk=>(⟨hk,hk.2.2.2.2.2⟩:_ ∧ k_ ≠ gb226))) (fun _ hk=>hk.2) (.int .i64 t231)) (fun _ hk=>⟨hk.1.1,⟨hk.1.2.1,⟨hk.1.2.2.1,⟨hk.1.2.2.2.1,⟨hk.1.2.2.2.2.1,hk.1.2.2.2.2.2⟩⟩⟩⟩⟩)))⟩;have n2_:Aside0 (Kd.N (Kd.slice 5 (Kd.int .u8)) 22 w85 w.heap.size (fun k_=>((P0_ k_ ∨ P1_ k_) ∨ w.heap.size ≤ k_) ∧ some k_ ≠ (.slice (some ad222) x10_1.length co72:Value).ownBlock ∧ some k_ ≠ (u15:Value).ownBlock ∧ some k_ ≠ (.slice Ao17 t169.length co17:Value).ownBlock ∧ some k_ ≠ (.slice Ao76 y223.length co76:Value).ownBlock ∧ k_ ≠ gb226) (.slice Ao15 t166.length co15) t166):=⟨(by rw [hw];exact (by (with_reducible repeat (first|apply aN|apply nN|apply dN));exact Kd.N_mono (Kd.N_far (p:=⟨gb226,3,none⟩) (Kd.N_mono HO_25.out (fun k_ hk=>(⟨hk,hk.2.2.2.2.2⟩:_ ∧ k_ ≠ gb226))) (fun _ hk=>hk.2) (.int .i64 t231)) (fun _ hk=>⟨hk.1.1,⟨hk.1.2.1,⟨hk.1.2.2.1,⟨hk.1.2.2.2.1,⟨hk.1.2.2.2.2.1,hk.1.2.2.2.2.2⟩⟩⟩⟩⟩)))⟩;have n3_:Aside0 (Kd.N (Kd.slice 5 (Kd.int .u8)) 22 w85 w.heap.size (fun k_=>((P0_ k_ ∨ P1_ k_) ∨ w.heap.size ≤ k_) ∧ some k_ ≠ (.slice (some ad222) x10_1.length co72:Value).ownBlock ∧ some k_ ≠ (u15:Value).ownBlock ∧ some k_ ≠ (.slice Ao15 t166.length co15:Value).ownBlock ∧ some k_ ≠ (.slice Ao76 y223.length co76:Value).ownBlock ∧ k_ ≠ gb226) (.slice Ao17 t169.length co17) t169):=⟨(by rw [hw];exact (by (with_reducible repeat (first|apply aN|apply nN|apply dN));exact Kd.N_mono (Kd.N_far (p:=⟨gb226,3,none⟩) (Kd.N_mono HO_28.out (fun k_ hk=>(⟨hk,hk.2.2.2.2.2⟩:_ ∧ k_ ≠ gb226))) (fun _ hk=>hk.2) (.int .i64 t231)) (fun _ hk=>⟨hk.1.1,⟨hk.1.2.1,⟨hk.1.2.2.1,⟨hk.1.2.2.2.1,⟨hk.1.2.2.2.2.1,hk.1.2.2.2.2.2⟩⟩⟩⟩⟩)))⟩;have n4_:Aside0 (Kd.V (Kd.int .u8) 5 w85 w.heap.size (fun k_=>((P0_ k_ ∨ P1_ k_) ∨ w.heap.size ≤ k_) ∧ some k_ ≠ (.slice (some ad222) x10_1.length co72:Value).ownBlock ∧ some k_ ≠ (u15:Value).ownBlock ∧ some k_ ≠ (.slice Ao76 y223.length co76:Value).ownBlock ∧ k_ ≠ gb226) (.slice A222_0 (rd_L2 x10_1 x16_2).length c222_0) (rd_L2 x10_1 x16_2)):=⟨(by rw [hw];exact (by (with_reducible repeat (first|apply aV|apply nV|apply dV));exact Kd.V_mono (Kd.V_far (p:=⟨gb226,3,none⟩) (Kd.V_mono HL222_0.out (fun k_ hk=>(⟨hk,hk.2.2.2.2⟩:_ ∧ k_ ≠ gb226))) (fun _ hk=>hk.2) (.int .i64 t231)) (fun _ hk=>⟨hk.1.1,⟨hk.1.2.1,⟨hk.1.2.2.1,⟨hk.1.2.2.2.1,hk.1.2.2.2.2⟩⟩⟩⟩)))⟩;have n5_:Aside0 (Kd.R (Kd.int .u8) 5 w85 w.heap.size (fun k_=>(w.heap.size ≤ k_)) (.slice Ao76 y223.length co76) y223):=⟨(by rw [hw];exact (by (with_reducible repeat (first|apply aR|apply nR|apply dR));exact Kd.R_mono (Kd.R_far (p:=⟨gb226,3,none⟩) (Kd.R_types HO225.out BK226.out (by decide)) (fun _ hk=>hk.2) (.int .i64 t231)) (fun _ hk=>hk.1)))⟩;have n6_:Aside0 (Kd.V (Kd.int .u8) 5 w85 w.heap.size (fun k_=>((P0_ k_ ∨ P1_ k_) ∨ w.heap.size ≤ k_) ∧ some k_ ≠ (.slice (some ad222) x10_1.length co72:Value).ownBlock ∧ some k_ ≠ (u15:Value).ownBlock ∧ some k_ ≠ (.slice Ao76 y223.length co76:Value).ownBlock ∧ k_ ≠ gb226) (.slice A227_0 (rd_L2 x10_1 x16_2).length c227_0) (rd_L2 x10_1 x16_2)):=⟨(by rw [hw];exact (by (with_reducible repeat (first|apply aV|apply nV|apply dV));exact Kd.V_mono (Kd.V_far (p:=⟨gb226,3,none⟩) (Kd.V_mono HL227_0.out (fun k_ hk=>(⟨hk,hk.2.2.2.2⟩:_ ∧ k_ ≠ gb226))) (fun _ hk=>hk.2) (.int .i64 t231)) (fun _ hk=>⟨hk.1.1,⟨hk.1.2.1,⟨hk.1.2.2.1,⟨hk.1.2.2.2.1,hk.1.2.2.2.2⟩⟩⟩⟩)))⟩;have n7_:Aside0 (Kd.V (Kd.int .u8) 5 w85 w.heap.size (fun k_=>((P0_ k_ ∨ P1_ k_) ∨ w.heap.size ≤ k_) ∧ some k_ ≠ (.slice (some ad222) x10_1.length co72:Value).ownBlock ∧ some k_ ≠ (u15:Value).ownBlock ∧ some k_ ≠ (.slice Ao76 y223.length co76:Value).ownBlock ∧ k_ ≠ gb226) (.slice A230_0 (rd_L2 x10_1 x16_2).length c230_0) (rd_L2 x10_1 x16_2)):=⟨(by rw [hw];exact (by (with_reducible repeat (first|apply aV|apply nV|apply dV));exact Kd.V_mono (Kd.V_far (p:=⟨gb226,3,none⟩) (Kd.V_mono HL230_0.out (fun k_ hk=>(⟨hk,hk.1.2.2.2⟩:_ ∧ k_ ≠ gb226))) (fun _ hk=>hk.2) (.int .i64 t231)) (fun _ hk=>⟨hk.1.1.1,⟨hk.1.2,⟨hk.1.1.2.1,⟨hk.1.1.2.2.1,hk.1.1.2.2.2⟩⟩⟩⟩)))⟩;have n8_:Aside0 (w85.heap[gb226]? = some (.cells #[.slice Ao76 y223.length co76,.int .i64 t228,.int .i64 t229,.int .i64 t231,.int .i64 0] 48 (0,0))):=⟨(by rw [hw];exact (by (with_reducible repeat (first|apply nB|apply dB|apply aB));refine blk_put (cs:=#[.slice Ao76 y223.length co76,.int .i64 t228,.int .i64 t229,.int .i64 0,.int .i64 0]) ?_ 3 _ rfl;(with_reducible repeat (first|apply nB|apply dB|apply aB));exact BK226.out))⟩;have n9_:Aside0 (Below w.heap.size w w85):=⟨(by rw [hw];exact (kB HB.out))⟩;clear hw HO_10 HO_15 HO_25 HO_28 HL222_0 HO225 HL227_0 HL230_0 BK226 HB;have HO_10:=n0_;have HO_15:=n1_;have HO_25:=n2_;have HO_28:=n3_;have HL222_0:=n4_;have HO225:=n5_;have HL227_0:=n6_;have HL230_0:=n7_;have BK226:=n8_;have HB:=n9_;clear n0_ n1_ n2_ n3_ n4_ n5_ n6_ n7_ n8_ n9_;obtain⟨hcz86_0,hcz86_1,hcz86_2,hcz86_3,hcz86_4,hfz86_0,hfz86_1,hfz86_2,hfz86_3,hfz86_4⟩:=cz5 BK226.out)|((with_reducible refine gate_store (t:=3) (p:=125) rfl ?_);refine store_event (t:=3) (p:=125) (v:=?vo_w87) (w1:=(w85.setCell ⟨gb226,4,none⟩ (.int .i64 t232))) ?hg ?ho ?hn ?hr ?_;(case ho=>rfl);(case hg=>rfl);(case hn=>rfl);(case hr=>first|(go_simp;done)|(go_simp;rfl));intro w87 hw;have n0_:Aside0 (Kd.N (Kd.slice 5 (Kd.int .u8)) 22 w87 w.heap.size (fun k_=>((P0_ k_ ∨ P1_ k_) ∨ w.heap.size ≤ k_) ∧ some k_ ≠ (u15:Value).ownBlock ∧ some k_ ≠ (.slice Ao76 y223.length co76:Value).ownBlock ∧ k_ ≠ gb226) (.slice (some ad222) x10_1.length co72) x10_1):=⟨(by rw [hw];exact (by (with_reducible repeat (first|apply aN|apply nN|apply dN));exact Kd.N_mono (Kd.N_far (p:=⟨gb226,4,none⟩) (Kd.N_mono HO_10.out (fun k_ hk=>(⟨hk,hk.2.2.2⟩:_ ∧ k_ ≠ gb226))) (fun _ hk=>hk.2) (.int .i64 t232)) (fun _ hk=>⟨hk.1.1,⟨hk.1.2.1,⟨hk.1.2.2.1,hk.1.2.2.2⟩⟩⟩)))⟩;have n1_:Aside0 (Kd.N k48 48 w87 w.heap.size (fun k_=>((P0_ k_ ∨ P1_ k_) ∨ w.heap.size ≤ k_) ∧ some k_ ≠ (.slice (some ad222) x10_1.length co72:Value).ownBlock ∧ some k_ ≠ (.slice Ao15 t166.length co15:Value).ownBlock ∧ some k_ ≠ (.slice Ao17 t169.length co17:Value).ownBlock ∧ some k_ ≠ (.slice Ao76 y223.length co76:Value).ownBlock ∧ k_ ≠ gb226) u15 x15_2):=⟨(by rw [hw];exact (by (with_reducible repeat (first|apply aN|apply nN|apply dN));exact Kd.N_mono (Kd.N_far (p:=⟨gb226,4,none⟩) (Kd.N_mono HO_15.out (fun k_ hk=>(⟨hk,hk.2.2.2.2.2⟩:_ ∧ k_ ≠ gb226))) (fun _ hk=>hk.2) (.int .i64 t232)) (fun _ hk=>⟨hk.1.1,⟨hk.1.2.1,⟨hk.1.2.2.1,⟨hk.1.2.2.2.1,⟨hk.1.2.2.2.2.1,hk.1.2.2.2.2.2⟩⟩⟩⟩⟩)))⟩;have n2_:Aside0 (Kd.N (Kd.slice 5 (Kd.int .u8)) 22 w87 w.heap.size (fun k_=>((P0_ k_ ∨ P1_ k_) ∨ w.heap.size ≤ k_) ∧ some k_ ≠ (.slice (some ad222) x10_1.length co72:Value).ownBlock ∧ some k_ ≠ (u15:Value).ownBlock ∧ some k_ ≠ (.slice Ao17 t169.length co17:Value).ownBlock ∧ some k_ ≠ (.slice Ao76 y223.length co76:Value).ownBlock ∧ k_ ≠ gb226) (.slice Ao15 t166.length co15) t166):=⟨(by rw [hw];exact (by (with_reducible repeat (first|apply aN|apply nN|apply dN));exact Kd.N_mono (Kd.N_far (p:=⟨gb226,4,none⟩) (Kd.N_mono HO_25.out (fun k_ hk=>(⟨hk,hk.2.2.2.2.2⟩:_ ∧ k_ ≠ gb226))) (fun _ hk=>hk.2) (.int .i64 t232)) (fun _ hk=>⟨hk.1.1,⟨hk.1.2.1,⟨hk.1.2.2.1,⟨hk.1.2.2.2.1,⟨hk.1.2.2.2.2.1,hk.1.2.2.2.2.2⟩⟩⟩⟩⟩)))⟩;have n3_:Aside0 (Kd.N (Kd.slice 5 (Kd.int .u8)) 22 w87 w.heap.size (fun k_=>((P0_ k_ ∨ P1_ k_) ∨ w.heap.size ≤ k_) ∧ some k_ ≠ (.slice (some ad222) x10_1.length co72:Value).ownBlock ∧ some k_ ≠ (u15:Value).ownBlock ∧ some k_ ≠ (.slice Ao15 t166.length co15:Value).ownBlock ∧ some k_ ≠ (.slice Ao76 y223.length co76:Value).ownBlock ∧ k_ ≠ gb226) (.slice Ao17 t169.length co17) t169):=⟨(by rw [hw];exact (by (with_reducible repeat (first|apply aN|apply nN|apply dN));exact Kd.N_mono (Kd.N_far (p:=⟨gb226,4,none⟩) (Kd.N_mono HO_28.out (fun k_ hk=>(⟨hk,hk.2.2.2.2.2⟩:_ ∧ k_ ≠ gb226))) (fun _ hk=>hk.2) (.int .i64 t232)) (fun _ hk=>⟨hk.1.1,⟨hk.1.2.1,⟨hk.1.2.2.1,⟨hk.1.2.2.2.1,⟨hk.1.2.2.2.2.1,hk.1.2.2.2.2.2⟩⟩⟩⟩⟩)))⟩;have n4_:Aside0 (Kd.V (Kd.int .u8) 5 w87 w.heap.size (fun k_=>((P0_ k_ ∨ P1_ k_) ∨ w.heap.size ≤ k_) ∧ some k_ ≠ (.slice (some ad222) x10_1.length co72:Value).ownBlock ∧ some k_ ≠ (u15:Value).ownBlock ∧ some k_ ≠ (.slice Ao76 y223.length co76:Value).ownBlock ∧ k_ ≠ gb226) (.slice A222_0 (rd_L2 x10_1 x16_2).length c222_0) (rd_L2 x10_1 x16_2)):=⟨(by rw [hw];exact (by (with_reducible repeat (first|apply aV|apply nV|apply dV));exact Kd.V_mono (Kd.V_far (p:=⟨gb226,4,none⟩) (Kd.V_mono HL222_0.out (fun k_ hk=>(⟨hk,hk.2.2.2.2⟩:_ ∧ k_ ≠ gb226))) (fun _ hk=>hk.2) (.int .i64 t232)) (fun _ hk=>⟨hk.1.1,⟨hk.1.2.1,⟨hk.1.2.2.1,⟨hk.1.2.2.2.1,hk.1.2.2.2.2⟩⟩⟩⟩)))⟩;have n5_:Aside0 (Kd.R (Kd.int .u8) 5 w87 w.heap.size (fun k_=>(w.heap.size ≤ k_)) (.slice Ao76 y223.length co76) y223):=⟨(by rw [hw];exact (by (with_reducible repeat (first|apply aR|apply nR|apply dR));exact Kd.R_mono (Kd.R_far (p:=⟨gb226,4,none⟩) (Kd.R_types HO225.out BK226.out (by decide)) (fun _ hk=>hk.2) (.int .i64 t232)) (fun _ hk=>hk.1)))⟩;have n6_:Aside0 (Kd.V (Kd.int .u8) 5 w87 w.heap.size (fun k_=>((P0_ k_ ∨ P1_ k_) ∨ w.heap.size ≤ k_) ∧ some k_ ≠ (.slice (some ad222) x10_1.length co72:Value).ownBlock ∧ some k_ ≠ (u15:Value).ownBlock ∧ some k_ ≠ (.slice Ao76 y223.length co76:Value).ownBlock ∧ k_ ≠ gb226) (.slice A227_0 (rd_L2 x10_1 x16_2).length c227_0) (rd_L2 x10_1 x16_2)):=⟨(by rw [hw];exact (by (with_reducible repeat (first|apply aV|apply nV|apply dV));exact Kd.V_mono (Kd.V_far (p:=⟨gb226,4,none⟩) (Kd.V_mono HL227_0.out (fun k_ hk=>(⟨hk,hk.2.2.2.2⟩:_ ∧ k_ ≠ gb226))) (fun _ hk=>hk.2) (.int .i64 t232)) (fun _ hk=>⟨hk.1.1,⟨hk.1.2.1,⟨hk.1.2.2.1,⟨hk.1.2.2.2.1,hk.1.2.2.2.2⟩⟩⟩⟩)))⟩;have n7_:Aside0 (Kd.V (Kd.int .u8) 5 w87 w.heap.size (fun k_=>((P0_ k_ ∨ P1_ k_) ∨ w.heap.size ≤ k_) ∧ some k_ ≠ (.slice (some ad222) x10_1.length co72:Value).ownBlock ∧ some k_ ≠ (u15:Value).ownBlock ∧ some k_ ≠ (.slice Ao76 y223.length co76:Value).ownBlock ∧ k_ ≠ gb226) (.slice A230_0 (rd_L2 x10_1 x16_2).length c230_0) (rd_L2 x10_1 x16_2)):=⟨(by rw [hw];exact (by (with_reducible repeat (first|apply aV|apply nV|apply dV));exact Kd.V_mono (Kd.V_far (p:=⟨gb226,4,none⟩) (Kd.V_mono HL230_0.out (fun k_ hk=>(⟨hk,hk.2.2.2.2⟩:_ ∧ k_ ≠ gb226))) (fun _ hk=>hk.2) (.int .i64 t232)) (fun _ hk=>⟨hk.1.1,⟨hk.1.2.1,⟨hk.1.2.2.1,⟨hk.1.2.2.2.1,hk.1.2.2.2.2⟩⟩⟩⟩)))⟩;have n8_:Aside0 (w87.heap[gb226]? = some (.cells #[.slice Ao76 y223.length co76,.int .i64 t228,.int .i64 t229,.int .i64 t231,.int .i64 t232] 48 (0,0))):=⟨(by rw [hw];exact (by (with_reducible repeat (first|apply nB|apply dB|apply aB));refine blk_put (cs:=#[.slice Ao76 y223.length co76,.int .i64 t228,.int .i64 t229,.int .i64 t231,.int .i64 0]) ?_ 4 _ rfl;(with_reducible repeat (first|apply nB|apply dB|apply aB));exact BK226.out))⟩;have n9_:Aside0 (Below w.heap.size w w87):=⟨(by rw [hw];exact (kB HB.out))⟩;clear hw HO_10 HO_15 HO_25 HO_28 HL222_0 HO225 HL227_0 HL230_0 BK226 HB;have HO_10:=n0_;have HO_15:=n1_;have HO_25:=n2_;have HO_28:=n3_;have HL222_0:=n4_;have HO225:=n5_;have HL227_0:=n6_;have HL230_0:=n7_;have BK226:=n8_;have HB:=n9_;clear n0_ n1_ n2_ n3_ n4_ n5_ n6_ n7_ n8_ n9_;obtain⟨hcz88_0,hcz88_1,hcz88_2,hcz88_3,hcz88_4,hfz88_0,hfz88_1,hfz88_2,hfz88_3,hfz88_4⟩:=cz5 BK226.out)|((with_reducible refine gate_builtin (b:=.append) (xs:=#[.tmp 126,.tmp 128]) rfl ?_);at_builtin;refine Kd.N_append k48 (w0:=w) w.heap.size rfl (.tmp 126) (.tmp 128) 43 48 (.agg #[(.slice none 0 0),(.int .i64 0),(.int .i64 0),(.int .i64 0),(.int .i64 0)]) 56 rfl Try.underlying43 info48 rfl (by decide) (by omega) u15 x15_2 (⟨y223,t228,t229,t231,t232⟩:S48) [.slice Ao76 y223.length co76,.int .i64 t228,.int .i64 t229,.int .i64 t231,.int .i64 t232] (fun k_=>((P0_ k_ ∨ P1_ k_) ∨ w.heap.size ≤ k_) ∧ some k_ ≠ (.slice (some ad222) x10_1.length co72:Value).ownBlock ∧ some k_ ≠ (.slice Ao15 t166.length co15:Value).ownBlock ∧ some k_ ≠ (.slice Ao17 t169.length co17:Value).ownBlock ∧ k_ ≠ gb226) (fun k_=>((fun k_=>((P0_ k_ ∨ P1_ k_) ∨ w.heap.size ≤ k_) ∧ some k_ ≠ (.slice (some ad222) x10_1.length co72:Value).ownBlock ∧ some k_ ≠ (.slice Ao15 t166.length co15:Value).ownBlock ∧ some k_ ≠ (.slice Ao17 t169.length co17:Value).ownBlock ∧ k_ ≠ gb226)) k_ ∧ some k_ ≠ (u15:Value).ownBlock) rfl rfl ?aP (fun _ hk=>hk) ?aF ?aO ?aB ?aS ?aL ?_;(case aP=>exact (k48_mkF _ _ (⟨y223,t228,t229,t231,t232⟩:S48) (Kd.R_reads' (Kd.R_mono (ok':=(fun k_=>((fun k_=>((P0_ k_ ∨ P1_ k_) ∨ w.heap.size ≤ k_) ∧ some k_ ≠ (.slice (some ad222) x10_1.length co72:Value).ownBlock ∧ some k_ ≠ (.slice Ao15 t166.length co15:Value).ownBlock ∧ some k_ ≠ (.slice Ao17 t169.length co17:Value).ownBlock ∧ k_ ≠ gb226)) k_ ∧ some k_ ≠ (u15:Value).ownBlock)) (Kd.R_types (Kd.R_apart' (Kd.R_apart' (Kd.R_apart' (Kd.R_apart' (HO225.out) (Kd.N_typed HO_10.out) (by decide)) (Kd.N_typed HO_25.out) (by decide)) (Kd.N_typed HO_28.out) (by decide)) (Kd.N_typed HO_15.out) (by decide)) BK226.out (by decide)) (fun k_ hk=>⟨⟨(.inr (hk.1.1.1.1.1)),⟨hk.1.1.1.1.2,⟨hk.1.1.1.2,⟨hk.1.1.2,hk.2⟩⟩⟩⟩,hk.1.2⟩))).2.1 (Kd.R_F (Kd.R_mono (ok':=(fun k_=>((fun k_=>((P0_ k_ ∨ P1_ k_) ∨ w.heap.size ≤ k_) ∧ some k_ ≠ (.slice (some ad222) x10_1.length co72:Value).ownBlock ∧ some k_ ≠ (.slice Ao15 t166.length co15:Value).ownBlock ∧ some k_ ≠ (.slice Ao17 t169.length co17:Value).ownBlock ∧ k_ ≠ gb226)) k_ ∧ some k_ ≠ (u15:Value).ownBlock)) (Kd.R_types (Kd.R_apart' (Kd.R_apart' (Kd.R_apart' (Kd.R_apart' (HO225.out) (Kd.N_typed HO_10.out) (by decide)) (Kd.N_typed HO_25.out) (by decide)) (Kd.N_typed HO_28.out) (by decide)) (Kd.N_typed HO_15.out) (by decide)) BK226.out (by decide)) (fun k_ hk=>⟨⟨(.inr (hk.1.1.1.1.1)),⟨hk.1.1.1.1.2,⟨hk.1.1.1.2,⟨hk.1.1.2,hk.2⟩⟩⟩⟩,hk.1.2⟩)))));(case aB=>exact (kB HB.out));(case aF=>exact (fun k_ hk=>⟨(.inr (Nat.le_trans (kZ HB.out) hk)),Kd.fresh' (Kd.N_lt (rN HO_10.out)) k_ hk,Kd.fresh' (Kd.N_lt (rN HO_25.out)) k_ hk,Kd.fresh' (Kd.N_lt (rN HO_28.out)) k_ hk,Kd.freshB (g:=gb226) (kN BK226.out) k_ hk⟩));(case aO=>exact (rN (Kd.N_mono HO_15.out (fun _ hk=>⟨hk.1,⟨hk.2.1,⟨hk.2.2.1,⟨hk.2.2.2.1,hk.2.2.2.2.2⟩⟩⟩⟩))));(case aS=>exact (kZ HB.out));(case aL=>have:=LMc71.out;omega);intro v234 w89 ho hb hg hat;rw [← Ny233.out] at ho;replace HO_10:=mk0 (Kd.N_afterv (ok:=(fun k_=>((P0_ k_ ∨ P1_ k_) ∨ w.heap.size ≤ k_) ∧ some k_ ≠ (.slice Ao76 y223.length co76:Value).ownBlock ∧ k_ ≠ gb226)) (rN (Kd.N_mono HO_10.out (fun _ hk=>⟨⟨hk.1,⟨hk.2.2.1,hk.2.2.2⟩⟩,hk.2.1⟩))) hg hat);replace HO_25:=mk0 (Kd.N_afterv (ok:=(fun k_=>((P0_ k_ ∨ P1_ k_) ∨ w.heap.size ≤ k_) ∧ some k_ ≠ (.slice (some ad222) x10_1.length co72:Value).ownBlock ∧ some k_ ≠ (.slice Ao17 t169.length co17:Value).ownBlock ∧ some k_ ≠ (.slice Ao76 y223.length co76:Value).ownBlock ∧ k_ ≠ gb226)) (rN (Kd.N_mono HO_25.out (fun _ hk=>⟨⟨hk.1,⟨hk.2.1,⟨hk.2.2.2.1,⟨hk.2.2.2.2.1,hk.2.2.2.2.2⟩⟩⟩⟩,hk.2.2.1⟩))) hg hat);replace HO_28:=mk0 (Kd.N_afterv (ok:=(fun k_=>((P0_ k_ ∨ P1_ k_) ∨ w.heap.size ≤ k_) ∧ some k_ ≠ (.slice (some ad222) x10_1.length co72:Value).ownBlock ∧ some k_ ≠ (.slice Ao15 t166.length co15:Value).ownBlock ∧ some k_ ≠ (.slice Ao76 y223.length co76:Value).ownBlock ∧ k_ ≠ gb226)) (rN (Kd.N_mono HO_28.out (fun _ hk=>⟨⟨hk.1,⟨hk.2.1,⟨hk.2.2.2.1,⟨hk.2.2.2.2.1,hk.2.2.2.2.2⟩⟩⟩⟩,hk.2.2.1⟩))) hg hat);replace HL222_0:=mk0 (Kd.V_afterv (ok:=(fun k_=>((P0_ k_ ∨ P1_ k_) ∨ w.heap.size ≤ k_) ∧ some k_ ≠ (.slice (some ad222) x10_1.length co72:Value).ownBlock ∧ some k_ ≠ (.slice Ao76 y223.length co76:Value).ownBlock ∧ k_ ≠ gb226)) (rV (Kd.V_mono HL222_0.out (fun _ hk=>⟨⟨hk.1,⟨hk.2.1,⟨hk.2.2.2.1,hk.2.2.2.2⟩⟩⟩,hk.2.2.1⟩))) hg hat);replace BK226:=mk0 (blk_grown (kN BK226.out) hg (Kd.N_away HO_15.out (fun _ hk=>hk.2.2.2.2.2)));replace HL227_0:=mk0 (Kd.V_afterv (ok:=(fun k_=>((P0_ k_ ∨ P1_ k_) ∨ w.heap.size ≤ k_) ∧ some k_ ≠ (.slice (some ad222) x10_1.length co72:Value).ownBlock ∧ some k_ ≠ (.slice Ao76 y223.length co76:Value).ownBlock ∧ k_ ≠ gb226)) (rV (Kd.V_mono HL227_0.out (fun _ hk=>⟨⟨hk.1,⟨hk.2.1,⟨hk.2.2.2.1,hk.2.2.2.2⟩⟩⟩,hk.2.2.1⟩))) hg hat);replace HL230_0:=mk0 (Kd.V_afterv (ok:=(fun k_=>((P0_ k_ ∨ P1_ k_) ∨ w.heap.size ≤ k_) ∧ some k_ ≠ (.slice (some ad222) x10_1.length co72:Value).ownBlock ∧ some k_ ≠ (.slice Ao76 y223.length co76:Value).ownBlock ∧ k_ ≠ gb226)) (rV (Kd.V_mono HL230_0.out (fun _ hk=>⟨⟨hk.1,⟨hk.2.1,⟨hk.2.2.2.1,hk.2.2.2.2⟩⟩⟩,hk.2.2.1⟩))) hg hat);replace HB:=mk0 (hb);have HO235:=mk0 (ho);clear HO_15 HO225 ho hb hg hat))
      go_roundg k2
      case measure=>have:=HK1.out;have:=HK2.out;omega
      case rel=>exact⟨(y233),(wrap64 (x16_2 + 1)),(by first|rfl|(simp;done)|(simp [*];done)),H',⟨by have:=HK1.out;have:=HK2.out;omega⟩,⟨rN (Kd.N_mono HO_10.out (fun _ hk=>⟨hk.1.1,hk.2⟩))⟩,⟨rN (Kd.N_mono HO235.out (fun _ hk=>⟨hk.1,⟨hk.2.1,⟨hk.2.2.1,hk.2.2.2.1⟩⟩⟩))⟩,⟨rN (Kd.N_mono HO_25.out (fun _ hk=>⟨hk.1.1,⟨hk.1.2.1,⟨hk.2,hk.1.2.2.1⟩⟩⟩))⟩,⟨rN (Kd.N_mono HO_28.out (fun _ hk=>⟨hk.1.1,⟨hk.1.2.1,⟨hk.2,hk.1.2.2.1⟩⟩⟩))⟩,⟨kB HB.out⟩⟩
   rw [if_pos c20] at H
   have c20b0:decide (x11_1 < (y178.length:Int)) = true:=decide_eq_true c20
   (try simp only [hl184_0] at c20b0)
   (try simp only [hl185_0] at c20b0)
   (try simp only [hl187_0] at c20b0)
   (try simp only [hl188_0] at c20b0)
   (try simp only [hl190_0] at c20b0)
   (try simp only [hl222_0] at c20b0)
   (try simp only [hl227_0] at c20b0)
   (try simp only [hl230_0] at c20b0)
   clear c20
   have HC21:=mk0 H
   clear H
   obtain⟨Ao22,co22,eo22⟩:=Kd.N_slice HO_33.out
   subst eo22
   go_upto_block 2 with (fail)
   go_cut [12,13] (fun v12 v13 wc=>∃ (kq:Nat) (x12_20:Int) (x13_20:Bool),v12 = .int .i64 x12_20 ∧ v13 = .bool x13_20 ∧ Aside0 (spec_Parts.j2 kq t166 t169 y178 x10_1 x11_1 x12_20 x13_20 = some r) ∧ Aside0 (kq ≤ k1) ∧ Aside0 (Kd.N (Kd.slice 5 (Kd.int .u8)) 22 wc w.heap.size (fun k_=>((P0_ k_ ∨ P1_ k_) ∨ w.heap.size ≤ k_) ∧ some k_ ≠ ((.slice Ao17 t169.length co17):Value).ownBlock ∧ some k_ ≠ ((.slice Ao22 y178.length co22):Value).ownBlock ∧ some k_ ≠ (u10:Value).ownBlock) (.slice Ao15 t166.length co15) t166) ∧ Aside0 (Kd.N (Kd.slice 5 (Kd.int .u8)) 22 wc w.heap.size (fun k_=>((P0_ k_ ∨ P1_ k_) ∨ w.heap.size ≤ k_) ∧ some k_ ≠ ((.slice Ao15 t166.length co15):Value).ownBlock ∧ some k_ ≠ ((.slice Ao22 y178.length co22):Value).ownBlock ∧ some k_ ≠ (u10:Value).ownBlock) (.slice Ao17 t169.length co17) t169) ∧ Aside0 (Kd.N (Kd.slice 5 (Kd.int .u8)) 22 wc w.heap.size (fun k_=>((P0_ k_ ∨ P1_ k_) ∨ w.heap.size ≤ k_) ∧ some k_ ≠ (u10:Value).ownBlock) (.slice Ao22 y178.length co22) y178) ∧ Aside0 (Kd.N (Kd.slice 5 (Kd.int .u8)) 22 wc w.heap.size (fun k_=>((P0_ k_ ∨ P1_ k_) ∨ w.heap.size ≤ k_) ∧ some k_ ≠ ((.slice Ao22 y178.length co22):Value).ownBlock) u10 x10_1) ∧ Aside0 (Below w.heap.size w wc))
   case first =>
    have H:=HC21.out
    clear HC21
    have H':=mk0 H
    clear H
    go_wp2
    go_loopg [12,13] k1 (fun kq v12 v13 w'=>∃ (x12_2:Int) (x13_2:Bool),v12 = .int .i64 x12_2 ∧ v13 = .bool x13_2 ∧ Aside0 (spec_Parts.l1 kq x10_1 x11_1 x12_2 x13_2 t166 t169 y178 = some r) ∧ Aside0 (kq ≤ k1) ∧ Aside0 (Kd.N (Kd.slice 5 (Kd.int .u8)) 22 w' w.heap.size (fun k_=>((P0_ k_ ∨ P1_ k_) ∨ w.heap.size ≤ k_) ∧ some k_ ≠ ((.slice Ao22 y178.length co22):Value).ownBlock) u10 x10_1) ∧ Aside0 (Kd.N (Kd.slice 5 (Kd.int .u8)) 22 w' w.heap.size (fun k_=>((P0_ k_ ∨ P1_ k_) ∨ w.heap.size ≤ k_) ∧ some k_ ≠ (u10:Value).ownBlock ∧ some k_ ≠ ((.slice Ao17 t169.length co17):Value).ownBlock ∧ some k_ ≠ ((.slice Ao22 y178.length co22):Value).ownBlock) (.slice Ao15 t166.length co15) t166) ∧ Aside0 (Kd.N (Kd.slice 5 (Kd.int .u8)) 22 w' w.heap.size (fun k_=>((P0_ k_ ∨ P1_ k_) ∨ w.heap.size ≤ k_) ∧ some k_ ≠ (u10:Value).ownBlock ∧ some k_ ≠ ((.slice Ao15 t166.length co15):Value).ownBlock ∧ some k_ ≠ ((.slice Ao22 y178.length co22):Value).ownBlock) (.slice Ao17 t169.length co17) t169) ∧ Aside0 (Kd.N (Kd.slice 5 (Kd.int .u8)) 22 w' w.heap.size (fun k_=>((P0_ k_ ∨ P1_ k_) ∨ w.heap.size ≤ k_) ∧ some k_ ≠ (u10:Value).ownBlock) (.slice Ao22 y178.length co22) y178) ∧ Aside0 (Below w.heap.size w w'))
    case atStart=>exact⟨(0),(false),(by first|rfl|(simp;done)|(simp [*];done)),(by first|rfl|(simp;done)|(simp [*];done)),H',⟨Nat.le_refl _⟩,⟨rN HO_10.out⟩,⟨rN HO_25.out⟩,⟨rN HO_28.out⟩,⟨rN HO_33.out⟩,⟨kB HB.out⟩⟩
    case round =>
     clear H'
     try clear c1
     try clear c2
     try clear p2
     try clear c3
     try clear c5
     try clear c8
     try clear c9
     try clear c20
     try clear c20b0
     try clear p2
     obtain⟨x12_2,x13_2,rfl,rfl,HA,HK2,HO_10,HO_25,HO_28,HO_33,HB⟩:=hrel
     cases gk with
     | zero=>exact absurd HA.out (by simp [spec_Parts.l1])
     | succ k2 =>
      have H:=HA.out
      clear HA
      simp only [spec_Parts.l1] at H
      by_cases c23:x12_2 < (x10_1.length:Int)
      rotate_left
      ·rw [if_neg c23] at H
       have c23b0:decide (x12_2 < (x10_1.length:Int)) = false:=decide_eq_false c23
       (try simp only [hl184_0] at c23b0)
       (try simp only [hl185_0] at c23b0)
       (try simp only [hl187_0] at c23b0)
       (try simp only [hl188_0] at c23b0)
       (try simp only [hl190_0] at c23b0)
       (try simp only [hl222_0] at c23b0)
       (try simp only [hl227_0] at c23b0)
       (try simp only [hl230_0] at c23b0)
       clear c23
       (first|rw [c23b0]|(simp only [i64_w,i32_w];rw [c23b0])|skip)
       have H':=mk0 H
       clear H
       try go_wp2
       replace HO_10:=mk0 (dN HO_10.out)
       replace HO_25:=mk0 (dN HO_25.out)
       replace HO_28:=mk0 (dN HO_28.out)
       replace HO_33:=mk0 (dN HO_33.out)
       replace HB:=mk0 (dZ HB.out)
       obtain⟨Ao40,co40,eo40⟩:=Kd.N_slice HO_10.out
       (first|subst eo40|(injection eo40 with f1_ f2_ f3_;have f4_:=f1_.symm;have f5_:=f3_.symm;clear f1_ f2_ f3_;subst f4_;subst f5_))
       refine start_ (n:=16) (S:=fun w'=>True) (ds:=[]) spec_Parts.m0 (by kernel_rfl) rfl rfl trivial (fun hHeld=>?_);refine with_tabW spec_Parts.tab12 spec_Parts.bits12 (fun HT_ HW_=>?_)
       generalize wr.drew = w39 at HO_10 HO_25 HO_28 HO_33 HB hHeld ⊢
       refine pure_ (i:=0) (N:=some 41) (v:=?_) (a':=?_) spec_Parts.m1 rfl rfl (any_of HT_.out (by kernel_rfl)) (fun _ _ _ h=>h) (Or.inl ⟨by rfl,?_⟩) ?_ ?_
       rotate_left
       ·intro w'
        go_simp
        with_reducible rfl
       rotate_left
       ·simp only [Act.put,sA,sO,sS,i64_w,i32_w]
        rfl
       refine pure_ (i:=1) (N:=some 42) (v:=?_) (a':=?_) spec_Parts.m2 rfl rfl (any_of HT_.out (by kernel_rfl)) (fun _ _ _ h=>h) (Or.inl ⟨by rfl,?_⟩) ?_ ?_
       rotate_left
       ·intro w'
        go_simp
        with_reducible rfl
       rotate_left
       ·simp only [Act.put,sA,sO,sS,i64_w,i32_w]
        rfl
       refine pure_ (i:=2) (N:=some 43) (v:=?_) (a':=?_) spec_Parts.m3 rfl rfl (any_of HT_.out (by kernel_rfl)) (fun _ _ _ h=>h) (Or.inl ⟨by rfl,?_⟩) ?_ ?_
       rotate_left
       ·intro w'
        go_simp
        with_reducible rfl
       rotate_left
       ·simp only [Act.put,sA,sO,sS,i64_w,i32_w]
        rfl
       refine pure_ (i:=3) (N:=some 44) (v:=?_) (a':=?_) spec_Parts.m4 rfl rfl (any_of HT_.out (by kernel_rfl)) (fun _ _ _ h=>h) (Or.inl ⟨by rfl,?_⟩) ?_ ?_
       rotate_left
       ·intro w'
        go_simp
        with_reducible rfl
       rotate_left
       ·simp only [Act.put,sA,sO,sS,i64_w,i32_w]
        rfl
       refine pure_ (i:=4) (N:=some 45) (v:=?_) (a':=?_) spec_Parts.m5 rfl rfl (any_of HT_.out (by kernel_rfl)) (fun _ _ _ h=>h) (Or.inl ⟨by rfl,?_⟩) ?_ ?_
       rotate_left
       ·intro w'
        go_simp
        with_reducible rfl
       rotate_left
       ·simp only [Act.put,sA,sO,sS,i64_w,i32_w]
        rfl
       refine pure_ (i:=5) (N:=some 46) (v:=undef) (a':=?_) spec_Parts.m6 rfl rfl (any_of HT_.out (by kernel_rfl)) (fun _ _ _ h=>h) (Or.inr ⟨by rfl,rfl⟩) ?_ ?_
       rotate_left
       ·simp only [Act.put,sA,sO,sS,i64_w,i32_w]
        rfl
       refine pure_ (i:=6) (N:=some 47) (v:=undef) (a':=?_) spec_Parts.m7 rfl rfl (any_of HT_.out (by kernel_rfl)) (fun _ _ _ h=>h) (Or.inr ⟨by rfl,rfl⟩) ?_ ?_
       rotate_left
       ·simp only [Act.put,sA,sO,sS,i64_w,i32_w]
        rfl
       refine pure_ (i:=7) (N:=some 48) (v:=undef) (a':=?_) spec_Parts.m8 rfl rfl (any_of HT_.out (by kernel_rfl)) (fun _ _ _ h=>h) (Or.inr ⟨by rfl,rfl⟩) ?_ ?_
       rotate_left
       ·simp only [Act.put,sA,sO,sS,i64_w,i32_w]
        rfl
       refine pure_ (i:=8) (N:=some 49) (v:=undef) (a':=?_) spec_Parts.m9 rfl rfl (any_of HT_.out (by kernel_rfl)) (fun _ _ _ h=>h) (Or.inr ⟨by rfl,rfl⟩) ?_ ?_
       rotate_left
       ·simp only [Act.put,sA,sO,sS,i64_w,i32_w]
        rfl
       refine pure_ (i:=9) (N:=some 50) (v:=undef) (a':=?_) spec_Parts.m10 rfl rfl (any_of HT_.out (by kernel_rfl)) (fun _ _ _ h=>h) (Or.inr ⟨by rfl,rfl⟩) ?_ ?_
       rotate_left
       ·simp only [Act.put,sA,sO,sS,i64_w,i32_w]
        rfl
       refine pure_ (i:=10) (N:=some 51) (v:=undef) (a':=?_) spec_Parts.m11 rfl rfl (any_of HT_.out (by kernel_rfl)) (fun _ _ _ h=>h) (Or.inr ⟨by rfl,rfl⟩) ?_ ?_
       rotate_left
       ·simp only [Act.put,sA,sO,sS,i64_w,i32_w]
        rfl
       refine pure_ (i:=11) (N:=some 52) (v:=undef) (a':=?_) spec_Parts.m12 rfl rfl (any_of HT_.out (by kernel_rfl)) (fun _ _ _ h=>h) (Or.inr ⟨by rfl,rfl⟩) ?_ ?_
       rotate_left
       ·simp only [Act.put,sA,sO,sS,i64_w,i32_w]
        rfl
       refine pure_ (i:=12) (N:=some 53) (v:=undef) (a':=?_) spec_Parts.m13 rfl rfl (any_of HT_.out (by kernel_rfl)) (fun _ _ _ h=>h) (Or.inr ⟨by rfl,rfl⟩) ?_ ?_
       rotate_left
       ·simp only [Act.put,sA,sO,sS,i64_w,i32_w]
        rfl
       refine pure_ (i:=13) (N:=some 54) (v:=undef) (a':=?_) spec_Parts.m14 rfl rfl (any_of HT_.out (by kernel_rfl)) (fun _ _ _ h=>h) (Or.inr ⟨by rfl,rfl⟩) ?_ ?_
       rotate_left
       ·simp only [Act.put,sA,sO,sS,i64_w,i32_w]
        rfl
       refine pure_ (i:=14) (N:=some 55) (v:=undef) (a':=?_) spec_Parts.m15 rfl rfl (any_of HT_.out (by kernel_rfl)) (fun _ _ _ h=>h) (Or.inr ⟨by rfl,rfl⟩) ?_ ?_
       rotate_left
       ·simp only [Act.put,sA,sO,sS,i64_w,i32_w]
        rfl
       refine pure_ (i:=15) (N:=some 56) (v:=?_) (a':=?_) spec_Parts.m16 rfl rfl (any_of HT_.out (by kernel_rfl)) (fun _ _ _ h=>h) (Or.inl ⟨by rfl,?_⟩) ?_ ?_
       rotate_left
       ·intro w'
        go_simp
        with_reducible rfl
       rotate_left
       ·simp only [Act.put,sA,sO,sS,i64_w,i32_w]
        rfl
       refine done_ (done_of HT_.out (by kernel_rfl)) ?_
       try go_wp2
       go_meet
       case rel=>exact⟨_,(x12_2),(x13_2),(by first|rfl|(simp;done)|(simp [*];done)),(by first|rfl|(simp;done)|(simp [*];done)),H',⟨by have:=HK1.out;have:=HK2.out;first|omega|exact Nat.le_refl _⟩,⟨rN (Kd.N_mono HO_25.out (fun _ hk=>⟨hk.1,⟨hk.2.2.1,⟨hk.2.2.2,hk.2.1⟩⟩⟩))⟩,⟨rN (Kd.N_mono HO_28.out (fun _ hk=>⟨hk.1,⟨hk.2.2.1,⟨hk.2.2.2,hk.2.1⟩⟩⟩))⟩,⟨rN HO_33.out⟩,⟨rN HO_10.out⟩,⟨kB HB.out⟩⟩
      rw [if_pos c23] at H
      have c23b0:decide (x12_2 < (x10_1.length:Int)) = true:=decide_eq_true c23
      (try simp only [hl184_0] at c23b0)
      (try simp only [hl185_0] at c23b0)
      (try simp only [hl187_0] at c23b0)
      (try simp only [hl188_0] at c23b0)
      (try simp only [hl190_0] at c23b0)
      (try simp only [hl222_0] at c23b0)
      (try simp only [hl227_0] at c23b0)
      (try simp only [hl230_0] at c23b0)
      clear c23
      (first|rw [c23b0]|(simp only [i64_w,i32_w];rw [c23b0])|skip)
      by_cases c24:0 ≤ x12_2
      rotate_left
      ·rw [if_neg c24] at H
       exact absurd H (by simp)
      rw [if_pos c24] at H
      have c24b0:decide (0 ≤ x12_2) = true:=decide_eq_true c24
      clear c24
      by_cases c25:0 ≤ x11_1
      rotate_left
      ·rw [if_neg c25] at H
       exact absurd H (by simp)
      rw [if_pos c25] at H
      have c25b0:decide (0 ≤ x11_1) = true:=decide_eq_true c25
      clear c25
      by_cases c26:x11_1 < (y178.length:Int)
      rotate_left
      ·rw [if_neg c26] at H
       exact absurd H (by simp)
      rw [if_pos c26] at H
      have c26b0:decide (x11_1 < (y178.length:Int)) = true:=decide_eq_true c26
      (try simp only [hl184_0] at c26b0)
      (try simp only [hl185_0] at c26b0)
      (try simp only [hl187_0] at c26b0)
      (try simp only [hl188_0] at c26b0)
      (try simp only [hl190_0] at c26b0)
      (try simp only [hl222_0] at c26b0)
      (try simp only [hl227_0] at c26b0)
      (try simp only [hl230_0] at c26b0)
      clear c26
      replace H:=Option.bind_eq_some_iff.mp H
      obtain⟨t186,A270,H⟩:=H
      replace H:(if t186 ≤ 0 then (if x13_2 = true then (spec_Parts.l1 k2 x10_1 x11_1 (wrap64 (x12_2 + 1)) true t166 t169 y178) else ((spec_l05Cmp.f k2 (rd_L2 x10_1 x12_2) (rd_L2 y178 x11_1)).bind fun t189=>(spec_Parts.l1 k2 x10_1 x11_1 (wrap64 (x12_2 + 1)) (t189 == 0) t166 t169 y178))) else (spec_Parts.j2 k2 t166 t169 y178 x10_1 x11_1 x12_2 x13_2)) = some r:=H
      have A27:=mk0 A270
      clear A270
      by_cases c28:t186 ≤ 0
      rotate_left
      ·rw [if_neg c28] at H
       have c28b0:decide (t186 ≤ 0) = false:=decide_eq_false c28
       clear c28
       have H':=mk0 H
       clear H
       try go_wp2
       replace HO_10:=mk0 (dN HO_10.out)
       replace HO_25:=mk0 (dN HO_25.out)
       replace HO_28:=mk0 (dN HO_28.out)
       replace HO_33:=mk0 (dN HO_33.out)
       replace HB:=mk0 (dZ HB.out)
       obtain⟨Ao38,co38,eo38⟩:=Kd.N_slice HO_10.out
       (first|subst eo38|(injection eo38 with f1_ f2_ f3_;have f4_:=f1_.symm;have f5_:=f3_.symm;clear f1_ f2_ f3_;subst f4_;subst f5_))
       have p184:0 ≤ (x12_2:Int):=of_decide_eq_true (by first|(with_reducible assumption)|assumption)
       have q184:x12_2 < (x10_1.length:Int):=of_decide_eq_true (by first|(with_reducible assumption)|assumption)
       obtain⟨ad184,A184_0,c184_0,e184,hx184_0,hl184_0,hi184_0⟩:=at_L2 (Kd.N_reads' HO_10.out).2.2 x12_2 p184 q184
       cases e184
       obtain⟨ce184,hce184,hMe184,hcc184⟩:=Kd.N_get HO_10.out [] x12_2 p184 (by first|exact q184|exact of_decide_eq_true (by first|(with_reducible assumption)|assumption)|(have e_:=(Kd.N_reads' HO_10.out).1;omega))
       obtain⟨ua184_0,uc184_0,rfl,ul184_0,ge184_0⟩:=Kd.FK_slice_open hMe184
       have hv184_0:=hcc184 0 _ rfl
       rw [Nat.add_zero,show ((Kd.slice 5 (Kd.int .u8))).sz = 1 from rfl,Nat.mul_one] at hv184_0
       replace hv184_0:=Option.some.inj (hv184_0.symm.trans hx184_0)
       injection hv184_0 with hva_ hvn_ hvc_
       rw [hva_] at ge184_0
       rw [hvc_] at ul184_0
       have HL184_0:=mk0 (show Kd.V (Kd.int .u8) 5 _ w.heap.size _ _ (rd_L2 x10_1 x12_2) from Kd.V_mk ul184_0 ge184_0)
       clear hva_ hvn_ hvc_ ge184_0 ul184_0
       clear hcc184 hce184
       have HR184_0:=mk0 hi184_0
       have HC184_0:=mk0 hl184_0
       clear hi184_0 hl184_0
       replace p184:=eq_true p184
       replace q184:=eq_true q184
       have p185:0 ≤ (x11_1:Int):=of_decide_eq_true (by first|(with_reducible assumption)|assumption)
       have q185:x11_1 < (y178.length:Int):=of_decide_eq_true (by first|(with_reducible assumption)|assumption)
       obtain⟨ad185,A185_0,c185_0,e185,hx185_0,hl185_0,hi185_0⟩:=at_L2 (Kd.N_reads' HO_33.out).2.2 x11_1 p185 q185
       cases e185
       obtain⟨ce185,hce185,hMe185,hcc185⟩:=Kd.N_get HO_33.out [] x11_1 p185 (by first|exact q185|exact of_decide_eq_true (by first|(with_reducible assumption)|assumption)|(have e_:=(Kd.N_reads' HO_33.out).1;omega))
       obtain⟨ua185_0,uc185_0,rfl,ul185_0,ge185_0⟩:=Kd.FK_slice_open hMe185
       have hv185_0:=hcc185 0 _ rfl
       rw [Nat.add_zero,show ((Kd.slice 5 (Kd.int .u8))).sz = 1 from rfl,Nat.mul_one] at hv185_0
       replace hv185_0:=Option.some.inj (hv185_0.symm.trans hx185_0)
       injection hv185_0 with hva_ hvn_ hvc_
       rw [hva_] at ge185_0
       rw [hvc_] at ul185_0
       have HL185_0:=mk0 (show Kd.V (Kd.int .u8) 5 _ w.heap.size _ _ (rd_L2 y178 x11_1) from Kd.V_mk ul185_0 ge185_0)
       clear hva_ hvn_ hvc_ ge185_0 ul185_0
       clear hcc185 hce185
       have HR185_0:=mk0 hi185_0
       have HC185_0:=mk0 hl185_0
       clear hi185_0 hl185_0
       replace p185:=eq_true p185
       replace q185:=eq_true q185
       refine start_ (n:=16) (S:=fun w'=>w'.cell? (ad184.add (x12_2).toNat) = some (.slice A184_0 (rd_L2 x10_1 x12_2).length c184_0) ∧ w'.cell? (ad185.add (x11_1).toNat) = some (.slice A185_0 (rd_L2 y178 x11_1).length c185_0)) (ds:=[]) spec_Parts.m0 (by kernel_rfl) rfl rfl ⟨hx184_0,hx185_0⟩ (fun hHeld=>?_);refine with_tabW spec_Parts.tab12 spec_Parts.bits12 (fun HT_ HW_=>?_)
       generalize wr.drew = w37 at HO_10 HO_25 HO_28 HO_33 HB HL184_0 HL185_0 HR184_0 HR185_0 hx184_0 hx185_0 hHeld ⊢
       refine pure_ (i:=0) (N:=some 41) (v:=?_) (a':=?_) spec_Parts.m1 rfl rfl (any_of HT_.out (by kernel_rfl)) (fun _ _ _ h=>h) (Or.inl ⟨by rfl,?_⟩) ?_ ?_
       rotate_left
       ·intro w'
        go_simp
        with_reducible rfl
       rotate_left
       ·simp only [Act.put,sA,sO,sS,i64_w,i32_w]
        rfl
       refine pure_ (i:=1) (N:=some 42) (v:=?_) (a':=?_) spec_Parts.m2 rfl rfl (any_of HT_.out (by kernel_rfl)) (fun _ _ _ h=>h) (Or.inl ⟨by rfl,?_⟩) ?_ ?_
       rotate_left
       ·intro w'
        go_simp
        with_reducible rfl
       rotate_left
       ·simp only [Act.put,sA,sO,sS,i64_w,i32_w]
        rfl
       refine pure_ (i:=2) (N:=some 43) (v:=?_) (a':=?_) spec_Parts.m3 rfl rfl (any_of HT_.out (by kernel_rfl)) (fun _ _ _ h=>h) (Or.inl ⟨by rfl,?_⟩) ?_ ?_
       rotate_left
       ·intro w'
        go_simp
        with_reducible rfl
       rotate_left
       ·simp only [Act.put,sA,sO,sS,i64_w,i32_w]
        rfl
       refine pure_ (i:=3) (N:=some 44) (v:=?_) (a':=?_) spec_Parts.m4 rfl rfl (any_of HT_.out (by kernel_rfl)) (fun _ _ _ h=>h) (Or.inl ⟨by rfl,?_⟩) ?_ ?_
       rotate_left
       ·intro w'
        go_simp
        with_reducible rfl
       rotate_left
       ·simp only [Act.put,sA,sO,sS,i64_w,i32_w]
        rfl
       refine pure_ (i:=4) (N:=some 45) (v:=?_) (a':=?_) spec_Parts.m5 rfl rfl (any_of HT_.out (by kernel_rfl)) (fun _ _ _ h=>h) (Or.inl ⟨by rfl,?_⟩) ?_ ?_
       rotate_left
       ·intro w'
        go_simp
        with_reducible rfl
       rotate_left
       ·simp only [Act.put,sA,sO,sS,i64_w,i32_w]
        rfl
       refine pure_ (i:=5) (N:=some 46) (v:=?_) (a':=?_) spec_Parts.m6 rfl rfl (any_of HT_.out (by kernel_rfl)) (fun _ _ _ h=>h) (Or.inl ⟨by rfl,?_⟩) ?_ ?_
       rotate_left
       ·intro w'
        go_simp
        with_reducible rfl
       rotate_left
       ·simp only [Act.put,sA,sO,sS,i64_w,i32_w]
        rfl
       refine pure_ (i:=6) (N:=some 47) (v:=?_) (a':=?_) spec_Parts.m7 rfl rfl (any_of HT_.out (by kernel_rfl)) (fun _ _ _ h=>h) (Or.inl ⟨by rfl,?_⟩) ?_ ?_
       rotate_left
       ·intro w'
        go_simp
        with_reducible rfl
       rotate_left
       ·simp only [Act.put,sA,sO,sS,i64_w,i32_w]
        rfl
       refine pure_ (i:=7) (N:=some 48) (v:=?_) (a':=?_) spec_Parts.m8 rfl rfl (any_of HT_.out (by kernel_rfl)) (fun _ _ _ h=>h) (Or.inl ⟨by rfl,?_⟩) ?_ ?_
       rotate_left
       ·intro w'
        go_simp
        with_reducible rfl
       rotate_left
       ·simp only [Act.put,sA,sO,sS,i64_w,i32_w]
        rfl
       refine pure_ (i:=9) (N:=some 50) (v:=?_) (a':=?_) spec_Parts.m17 rfl rfl (any_of HT_.out (by kernel_rfl)) (fun _ _ _ h=>h) (Or.inl ⟨by rfl,?_⟩) ?_ ?_
       rotate_left
       ·intro w'
        go_simp
        with_reducible rfl
       rotate_left
       ·simp only [Act.put,sA,sO,sS,i64_w,i32_w]
        rfl
       refine pure_ (i:=10) (N:=some 51) (v:=?_) (a':=?_) spec_Parts.m18 rfl rfl (any_of HT_.out (by kernel_rfl)) (fun _ _ _ h=>h) (Or.inl ⟨by rfl,?_⟩) ?_ ?_
       rotate_left
       ·intro w'
        go_simp
        with_reducible rfl
       rotate_left
       ·simp only [Act.put,sA,sO,sS,i64_w,i32_w]
        rfl
       refine pure_ (i:=11) (N:=some 52) (v:=?_) (a':=?_) spec_Parts.m19 rfl rfl (any_of HT_.out (by kernel_rfl)) (fun _ _ _ h=>h) (Or.inl ⟨by rfl,?_⟩) ?_ ?_
       rotate_left
       ·intro w'
        go_simp
        with_reducible rfl
       rotate_left
       ·simp only [Act.put,sA,sO,sS,i64_w,i32_w]
        rfl
       refine take_ (i:=8) (N:=some 49) (v:=?_) (a':=?_) spec_Parts.m12 rfl rfl (take_ofW HT_.out HW_.out (by kernel_rfl)) (fun _ _ _ h=>h) (Or.inl ⟨by rfl,?_⟩) hHeld ?_ ?_
       rotate_left
       ·rintro w' ⟨s0,s1⟩
        go_simp
        with_reducible rfl
       rotate_left
       ·simp only [Act.put,sA,sO,sS,i64_w,i32_w]
        rfl
       refine take_ (i:=12) (N:=some 53) (v:=?_) (a':=?_) spec_Parts.m13 rfl rfl (take_ofW HT_.out HW_.out (by kernel_rfl)) (fun _ _ _ h=>h) (Or.inl ⟨by rfl,?_⟩) hHeld ?_ ?_
       rotate_left
       ·rintro w' ⟨s0,s1⟩
        go_simp
        with_reducible rfl
       rotate_left
       ·simp only [Act.put,sA,sO,sS,i64_w,i32_w]
        rfl
       refine one_ (i:=13) (N:=some 54) spec_Parts.m14 rfl rfl (one_of HT_.out (by kernel_rfl)) (by decide) (fun K hK=>?_)
       refine goes_ Try.func53 (by kernel_rfl) rfl #[.slice A184_0 (rd_L2 x10_1 x12_2).length c184_0,.slice A185_0 (rd_L2 y178 x11_1).length c185_0] (by rfl) rfl rfl (by (try simp only [mA,mC,mN]);first|done|rfl|(simp only [List.length_drop,List.length_take];done)|(simp only [List.length_drop,List.length_take];rfl)) ?_
       with_reducible refine (spec_l05Cmp.calls k2 _ _ (rd_L2 x10_1 x12_2) _ _ (rd_L2 y178 x11_1) t186 _ ?side1 ?side2 ?side3 ?side4 A27.out).mono ?_
       (case side1=>repeat (first|exact (by repeat (first|(with_reducible exact HR184_0.out)|(with_reducible first|apply aC|apply nC|apply dC)|exact HR184_0.out|exact (Kd.V_reads' HL184_0.out).2.2))|(with_reducible first|apply aC|apply nC|apply dC)))
       (case side2=>exact HC184_0.out)
       (case side3=>repeat (first|exact (by repeat (first|(with_reducible exact HR185_0.out)|(with_reducible first|apply aC|apply nC|apply dC)|exact HR185_0.out|exact (Kd.V_reads' HL185_0.out).2.2))|(with_reducible first|apply aC|apply nC|apply dC)))
       (case side4=>exact HC185_0.out)
       rintro e w' ⟨rfl,⟨nd,rfl⟩⟩
       refine⟨_,rfl,?_⟩
       refine hK.out _ _ ⟨hHeld.1,hHeld.2⟩ (fun hHeld=>?_)
       clear hK K
       refine norm_ (a':=?_) ?_ ?_
       rotate_left
       ·show Act.put _ (some 54) _ = _
        simp only [Act.put,sA,sO,sS,i64_w,i32_w]
        rfl
       refine pure_ (i:=14) (N:=some 55) (v:=?_) (a':=?_) spec_Parts.m15 rfl rfl (any_of HT_.out (by kernel_rfl)) (fun _ _ _ h=>h) (Or.inl ⟨by rfl,?_⟩) ?_ ?_
       rotate_left
       ·intro w'
        go_simp
        with_reducible rfl
       rotate_left
       ·simp only [Act.put,sA,sO,sS,i64_w,i32_w]
        rfl
       refine pure_ (i:=15) (N:=some 56) (v:=?_) (a':=?_) spec_Parts.m16 rfl rfl (any_of HT_.out (by kernel_rfl)) (fun _ _ _ h=>h) (Or.inl ⟨by rfl,?_⟩) ?_ ?_
       rotate_left
       ·intro w'
        go_simp
        with_reducible rfl
       rotate_left
       ·simp only [Act.put,sA,sO,sS,i64_w,i32_w]
        rfl
       refine done_ (done_of HT_.out (by kernel_rfl)) ?_
       try go_wp2
       go_meet
       case rel=>exact⟨_,(x12_2),(x13_2),(by first|rfl|(simp;done)|(simp [*];done)),(by first|rfl|(simp;done)|(simp [*];done)),H',⟨by have:=HK1.out;have:=HK2.out;first|omega|exact Nat.le_refl _⟩,⟨rN (Kd.N_mono HO_25.out (fun _ hk=>⟨hk.1,⟨hk.2.2.1,⟨hk.2.2.2,hk.2.1⟩⟩⟩))⟩,⟨rN (Kd.N_mono HO_28.out (fun _ hk=>⟨hk.1,⟨hk.2.2.1,⟨hk.2.2.2,hk.2.1⟩⟩⟩))⟩,⟨rN HO_33.out⟩,⟨rN HO_10.out⟩,⟨kB HB.out⟩⟩
      rw [if_pos c28] at H
      have c28b0:decide (t186 ≤ 0) = true:=decide_eq_true c28
      clear c28
      by_cases c29:x13_2 = true
      ·subst c29
       have H1:(spec_Parts.l1 k2 x10_1 x11_1 (wrap64 (x12_2 + 1)) true t166 t169 y178) = some r:=by rw [if_pos rfl] at H;exact H
       clear H
       have H:=H1
       clear H1
       have H':=mk0 H
       clear H
       try go_wp2
       replace HO_10:=mk0 (dN HO_10.out)
       replace HO_25:=mk0 (dN HO_25.out)
       replace HO_28:=mk0 (dN HO_28.out)
       replace HO_33:=mk0 (dN HO_33.out)
       replace HB:=mk0 (dZ HB.out)
       obtain⟨Ao31,co31,eo31⟩:=Kd.N_slice HO_10.out
       (first|subst eo31|(injection eo31 with f1_ f2_ f3_;have f4_:=f1_.symm;have f5_:=f3_.symm;clear f1_ f2_ f3_;subst f4_;subst f5_))
       have p184:0 ≤ (x12_2:Int):=of_decide_eq_true (by first|(with_reducible assumption)|assumption)
       have q184:x12_2 < (x10_1.length:Int):=of_decide_eq_true (by first|(with_reducible assumption)|assumption)
       obtain⟨ad184,A184_0,c184_0,e184,hx184_0,hl184_0,hi184_0⟩:=at_L2 (Kd.N_reads' HO_10.out).2.2 x12_2 p184 q184
       cases e184
       obtain⟨ce184,hce184,hMe184,hcc184⟩:=Kd.N_get HO_10.out [] x12_2 p184 (by first|exact q184|exact of_decide_eq_true (by first|(with_reducible assumption)|assumption)|(have e_:=(Kd.N_reads' HO_10.out).1;omega))
       obtain⟨ua184_0,uc184_0,rfl,ul184_0,ge184_0⟩:=Kd.FK_slice_open hMe184
       have hv184_0:=hcc184 0 _ rfl
       rw [Nat.add_zero,show ((Kd.slice 5 (Kd.int .u8))).sz = 1 from rfl,Nat.mul_one] at hv184_0
       replace hv184_0:=Option.some.inj (hv184_0.symm.trans hx184_0)
       injection hv184_0 with hva_ hvn_ hvc_
       rw [hva_] at ge184_0
       rw [hvc_] at ul184_0
       have HL184_0:=mk0 (show Kd.V (Kd.int .u8) 5 _ w.heap.size _ _ (rd_L2 x10_1 x12_2) from Kd.V_mk ul184_0 ge184_0)
       clear hva_ hvn_ hvc_ ge184_0 ul184_0
       clear hcc184 hce184
       have HR184_0:=mk0 hi184_0
       have HC184_0:=mk0 hl184_0
       clear hi184_0 hl184_0
       replace p184:=eq_true p184
       replace q184:=eq_true q184
       have p185:0 ≤ (x11_1:Int):=of_decide_eq_true (by first|(with_reducible assumption)|assumption)
       have q185:x11_1 < (y178.length:Int):=of_decide_eq_true (by first|(with_reducible assumption)|assumption)
       obtain⟨ad185,A185_0,c185_0,e185,hx185_0,hl185_0,hi185_0⟩:=at_L2 (Kd.N_reads' HO_33.out).2.2 x11_1 p185 q185
       cases e185
       obtain⟨ce185,hce185,hMe185,hcc185⟩:=Kd.N_get HO_33.out [] x11_1 p185 (by first|exact q185|exact of_decide_eq_true (by first|(with_reducible assumption)|assumption)|(have e_:=(Kd.N_reads' HO_33.out).1;omega))
       obtain⟨ua185_0,uc185_0,rfl,ul185_0,ge185_0⟩:=Kd.FK_slice_open hMe185
       have hv185_0:=hcc185 0 _ rfl
       rw [Nat.add_zero,show ((Kd.slice 5 (Kd.int .u8))).sz = 1 from rfl,Nat.mul_one] at hv185_0
       replace hv185_0:=Option.some.inj (hv185_0.symm.trans hx185_0)
       injection hv185_0 with hva_ hvn_ hvc_
       rw [hva_] at ge185_0
       rw [hvc_] at ul185_0
       have HL185_0:=mk0 (show Kd.V (Kd.int .u8) 5 _ w.heap.size _ _ (rd_L2 y178 x11_1) from Kd.V_mk ul185_0 ge185_0)
       clear hva_ hvn_ hvc_ ge185_0 ul185_0
       clear hcc185 hce185
       have HR185_0:=mk0 hi185_0
       have HC185_0:=mk0 hl185_0
       clear hi185_0 hl185_0
       replace p185:=eq_true p185
       replace q185:=eq_true q185
       refine start_ (n:=16) (S:=fun w'=>w'.cell? (ad184.add (x12_2).toNat) = some (.slice A184_0 (rd_L2 x10_1 x12_2).length c184_0) ∧ w'.cell? (ad185.add (x11_1).toNat) = some (.slice A185_0 (rd_L2 y178 x11_1).length c185_0)) (ds:=[]) spec_Parts.m0 (by kernel_rfl) rfl rfl ⟨hx184_0,hx185_0⟩ (fun hHeld=>?_);refine with_tabW spec_Parts.tab12 spec_Parts.bits12 (fun HT_ HW_=>?_)
       generalize wr.drew = w30 at HO_10 HO_25 HO_28 HO_33 HB HL184_0 HL185_0 HR184_0 HR185_0 hx184_0 hx185_0 hHeld ⊢
       refine pure_ (i:=0) (N:=some 41) (v:=?_) (a':=?_) spec_Parts.m1 rfl rfl (any_of HT_.out (by kernel_rfl)) (fun _ _ _ h=>h) (Or.inl ⟨by rfl,?_⟩) ?_ ?_
       rotate_left
       ·intro w'
        go_simp
        with_reducible rfl
       rotate_left
       ·simp only [Act.put,sA,sO,sS,i64_w,i32_w]
        rfl
       refine pure_ (i:=1) (N:=some 42) (v:=?_) (a':=?_) spec_Parts.m2 rfl rfl (any_of HT_.out (by kernel_rfl)) (fun _ _ _ h=>h) (Or.inl ⟨by rfl,?_⟩) ?_ ?_
       rotate_left
       ·intro w'
        go_simp
        with_reducible rfl
       rotate_left
       ·simp only [Act.put,sA,sO,sS,i64_w,i32_w]
        rfl
       refine pure_ (i:=2) (N:=some 43) (v:=?_) (a':=?_) spec_Parts.m3 rfl rfl (any_of HT_.out (by kernel_rfl)) (fun _ _ _ h=>h) (Or.inl ⟨by rfl,?_⟩) ?_ ?_
       rotate_left
       ·intro w'
        go_simp
        with_reducible rfl
       rotate_left
       ·simp only [Act.put,sA,sO,sS,i64_w,i32_w]
        rfl
       refine pure_ (i:=3) (N:=some 44) (v:=?_) (a':=?_) spec_Parts.m4 rfl rfl (any_of HT_.out (by kernel_rfl)) (fun _ _ _ h=>h) (Or.inl ⟨by rfl,?_⟩) ?_ ?_
       rotate_left
       ·intro w'
        go_simp
        with_reducible rfl
       rotate_left
       ·simp only [Act.put,sA,sO,sS,i64_w,i32_w]
        rfl
       refine pure_ (i:=4) (N:=some 45) (v:=?_) (a':=?_) spec_Parts.m5 rfl rfl (any_of HT_.out (by kernel_rfl)) (fun _ _ _ h=>h) (Or.inl ⟨by rfl,?_⟩) ?_ ?_
       rotate_left
       ·intro w'
        go_simp
        with_reducible rfl
       rotate_left
       ·simp only [Act.put,sA,sO,sS,i64_w,i32_w]
        rfl
       refine pure_ (i:=5) (N:=some 46) (v:=?_) (a':=?_) spec_Parts.m6 rfl rfl (any_of HT_.out (by kernel_rfl)) (fun _ _ _ h=>h) (Or.inl ⟨by rfl,?_⟩) ?_ ?_
       rotate_left
       ·intro w'
        go_simp
        with_reducible rfl
       rotate_left
       ·simp only [Act.put,sA,sO,sS,i64_w,i32_w]
        rfl
       refine pure_ (i:=6) (N:=some 47) (v:=?_) (a':=?_) spec_Parts.m7 rfl rfl (any_of HT_.out (by kernel_rfl)) (fun _ _ _ h=>h) (Or.inl ⟨by rfl,?_⟩) ?_ ?_
       rotate_left
       ·intro w'
        go_simp
        with_reducible rfl
       rotate_left
       ·simp only [Act.put,sA,sO,sS,i64_w,i32_w]
        rfl
       refine pure_ (i:=7) (N:=some 48) (v:=?_) (a':=?_) spec_Parts.m8 rfl rfl (any_of HT_.out (by kernel_rfl)) (fun _ _ _ h=>h) (Or.inl ⟨by rfl,?_⟩) ?_ ?_
       rotate_left
       ·intro w'
        go_simp
        with_reducible rfl
       rotate_left
       ·simp only [Act.put,sA,sO,sS,i64_w,i32_w]
        rfl
       refine pure_ (i:=9) (N:=some 50) (v:=?_) (a':=?_) spec_Parts.m17 rfl rfl (any_of HT_.out (by kernel_rfl)) (fun _ _ _ h=>h) (Or.inl ⟨by rfl,?_⟩) ?_ ?_
       rotate_left
       ·intro w'
        go_simp
        with_reducible rfl
       rotate_left
       ·simp only [Act.put,sA,sO,sS,i64_w,i32_w]
        rfl
       refine pure_ (i:=10) (N:=some 51) (v:=?_) (a':=?_) spec_Parts.m18 rfl rfl (any_of HT_.out (by kernel_rfl)) (fun _ _ _ h=>h) (Or.inl ⟨by rfl,?_⟩) ?_ ?_
       rotate_left
       ·intro w'
        go_simp
        with_reducible rfl
       rotate_left
       ·simp only [Act.put,sA,sO,sS,i64_w,i32_w]
        rfl
       refine pure_ (i:=11) (N:=some 52) (v:=?_) (a':=?_) spec_Parts.m19 rfl rfl (any_of HT_.out (by kernel_rfl)) (fun _ _ _ h=>h) (Or.inl ⟨by rfl,?_⟩) ?_ ?_
       rotate_left
       ·intro w'
        go_simp
        with_reducible rfl
       rotate_left
       ·simp only [Act.put,sA,sO,sS,i64_w,i32_w]
        rfl
       refine take_ (i:=8) (N:=some 49) (v:=?_) (a':=?_) spec_Parts.m12 rfl rfl (take_ofW HT_.out HW_.out (by kernel_rfl)) (fun _ _ _ h=>h) (Or.inl ⟨by rfl,?_⟩) hHeld ?_ ?_
       rotate_left
       ·rintro w' ⟨s0,s1⟩
        go_simp
        with_reducible rfl
       rotate_left
       ·simp only [Act.put,sA,sO,sS,i64_w,i32_w]
        rfl
       refine take_ (i:=12) (N:=some 53) (v:=?_) (a':=?_) spec_Parts.m13 rfl rfl (take_ofW HT_.out HW_.out (by kernel_rfl)) (fun _ _ _ h=>h) (Or.inl ⟨by rfl,?_⟩) hHeld ?_ ?_
       rotate_left
       ·rintro w' ⟨s0,s1⟩
        go_simp
        with_reducible rfl
       rotate_left
       ·simp only [Act.put,sA,sO,sS,i64_w,i32_w]
        rfl
       refine one_ (i:=13) (N:=some 54) spec_Parts.m14 rfl rfl (one_of HT_.out (by kernel_rfl)) (by decide) (fun K hK=>?_)
       refine goes_ Try.func53 (by kernel_rfl) rfl #[.slice A184_0 (rd_L2 x10_1 x12_2).length c184_0,.slice A185_0 (rd_L2 y178 x11_1).length c185_0] (by rfl) rfl rfl (by (try simp only [mA,mC,mN]);first|done|rfl|(simp only [List.length_drop,List.length_take];done)|(simp only [List.length_drop,List.length_take];rfl)) ?_
       with_reducible refine (spec_l05Cmp.calls k2 _ _ (rd_L2 x10_1 x12_2) _ _ (rd_L2 y178 x11_1) t186 _ ?side1 ?side2 ?side3 ?side4 A27.out).mono ?_
       (case side1=>repeat (first|exact (by repeat (first|(with_reducible exact HR184_0.out)|(with_reducible first|apply aC|apply nC|apply dC)|exact HR184_0.out|exact (Kd.V_reads' HL184_0.out).2.2))|(with_reducible first|apply aC|apply nC|apply dC)))
       (case side2=>exact HC184_0.out)
       (case side3=>repeat (first|exact (by repeat (first|(with_reducible exact HR185_0.out)|(with_reducible first|apply aC|apply nC|apply dC)|exact HR185_0.out|exact (Kd.V_reads' HL185_0.out).2.2))|(with_reducible first|apply aC|apply nC|apply dC)))
       (case side4=>exact HC185_0.out)
       rintro e w' ⟨rfl,⟨nd,rfl⟩⟩
       refine⟨_,rfl,?_⟩
       refine hK.out _ _ ⟨hHeld.1,hHeld.2⟩ (fun hHeld=>?_)
       clear hK K
       refine norm_ (a':=?_) ?_ ?_
       rotate_left
       ·show Act.put _ (some 54) _ = _
        simp only [Act.put,sA,sO,sS,i64_w,i32_w]
        rfl
       refine pure_ (i:=14) (N:=some 55) (v:=?_) (a':=?_) spec_Parts.m15 rfl rfl (any_of HT_.out (by kernel_rfl)) (fun _ _ _ h=>h) (Or.inl ⟨by rfl,?_⟩) ?_ ?_
       rotate_left
       ·intro w'
        go_simp
        with_reducible rfl
       rotate_left
       ·simp only [Act.put,sA,sO,sS,i64_w,i32_w]
        rfl
       refine pure_ (i:=15) (N:=some 56) (v:=?_) (a':=?_) spec_Parts.m16 rfl rfl (any_of HT_.out (by kernel_rfl)) (fun _ _ _ h=>h) (Or.inl ⟨by rfl,?_⟩) ?_ ?_
       rotate_left
       ·intro w'
        go_simp
        with_reducible rfl
       rotate_left
       ·simp only [Act.put,sA,sO,sS,i64_w,i32_w]
        rfl
       refine done_ (done_of HT_.out (by kernel_rfl)) ?_
       try go_wp2
       (try (rw [drewN_self w30];generalize hq_:World.drewN w30 _ = w30;have n0_:Aside0 (Kd.V (Kd.int .u8) 5 w30 w.heap.size (fun k_=>(((((P0_ k_ ∨ P1_ k_) ∨ w.heap.size ≤ k_)) ∧ some k_ ≠ (.slice (some ad185) y178.length co22:Value).ownBlock) ∧ some k_ ≠ (.slice (some ad184) x10_1.length co31:Value).ownBlock)) (.slice A184_0 (rd_L2 x10_1 x12_2).length c184_0) (rd_L2 x10_1 x12_2)):=⟨by rw [← hq_];exact (rV HL184_0.out)⟩;have n1_:Aside0 (Kd.V (Kd.int .u8) 5 w30 w.heap.size (fun k_=>(((((P0_ k_ ∨ P1_ k_) ∨ w.heap.size ≤ k_)) ∧ some k_ ≠ (.slice (some ad184) x10_1.length co31:Value).ownBlock) ∧ some k_ ≠ (.slice (some ad185) y178.length co22:Value).ownBlock)) (.slice A185_0 (rd_L2 y178 x11_1).length c185_0) (rd_L2 y178 x11_1)):=⟨by rw [← hq_];exact (rV HL185_0.out)⟩;have n2_:Aside0 (Kd.N (Kd.slice 5 (Kd.int .u8)) 22 w30 w.heap.size (fun k_=>((((P0_ k_ ∨ P1_ k_) ∨ w.heap.size ≤ k_)) ∧ some k_ ≠ (.slice (some ad185) y178.length co22:Value).ownBlock)) (.slice (some ad184) x10_1.length co31) x10_1):=⟨by rw [← hq_];exact (rN HO_10.out)⟩;have n3_:Aside0 (Kd.N (Kd.slice 5 (Kd.int .u8)) 22 w30 w.heap.size (fun k_=>((((P0_ k_ ∨ P1_ k_) ∨ w.heap.size ≤ k_)) ∧ (some k_ ≠ (.slice (some ad184) x10_1.length co31:Value).ownBlock ∧ (some k_ ≠ (.slice Ao17 t169.length co17:Value).ownBlock ∧ some k_ ≠ (.slice (some ad185) y178.length co22:Value).ownBlock)))) (.slice Ao15 t166.length co15) t166):=⟨by rw [← hq_];exact (rN HO_25.out)⟩;have n4_:Aside0 (Kd.N (Kd.slice 5 (Kd.int .u8)) 22 w30 w.heap.size (fun k_=>((((P0_ k_ ∨ P1_ k_) ∨ w.heap.size ≤ k_)) ∧ (some k_ ≠ (.slice (some ad184) x10_1.length co31:Value).ownBlock ∧ (some k_ ≠ (.slice Ao15 t166.length co15:Value).ownBlock ∧ some k_ ≠ (.slice (some ad185) y178.length co22:Value).ownBlock)))) (.slice Ao17 t169.length co17) t169):=⟨by rw [← hq_];exact (rN HO_28.out)⟩;have n5_:Aside0 (Kd.N (Kd.slice 5 (Kd.int .u8)) 22 w30 w.heap.size (fun k_=>((((P0_ k_ ∨ P1_ k_) ∨ w.heap.size ≤ k_)) ∧ some k_ ≠ (.slice (some ad184) x10_1.length co31:Value).ownBlock)) (.slice (some ad185) y178.length co22) y178):=⟨by rw [← hq_];exact (rN HO_33.out)⟩;have n6_:Aside0 (Below w.heap.size w w30):=⟨by rw [← hq_];exact (kB HB.out)⟩;have n7_:Aside0 (Kd.C (Kd.int .u8) w30 A184_0 (rd_L2 x10_1 x12_2).length (rd_L2 x10_1 x12_2)):=⟨by rw [← hq_];exact (by repeat (first|(with_reducible exact HR184_0.out)|(with_reducible first|apply aC|apply nC|apply dC)|exact HR184_0.out|exact (Kd.V_reads' HL184_0.out).2.2))⟩;have n8_:Aside0 (Kd.C (Kd.int .u8) w30 A185_0 (rd_L2 y178 x11_1).length (rd_L2 y178 x11_1)):=⟨by rw [← hq_];exact (by repeat (first|(with_reducible exact HR185_0.out)|(with_reducible first|apply aC|apply nC|apply dC)|exact HR185_0.out|exact (Kd.V_reads' HL185_0.out).2.2))⟩;clear HL184_0 HL185_0 HO_10 HO_25 HO_28 HO_33 HB HR184_0 HR185_0 hq_;have HL184_0:=n0_;have HL185_0:=n1_;have HO_10:=n2_;have HO_25:=n3_;have HO_28:=n4_;have HO_33:=n5_;have HB:=n6_;have HR184_0:=n7_;have HR185_0:=n8_;clear n0_ n1_ n2_ n3_ n4_ n5_ n6_ n7_ n8_))
       replace HO_10:=mk0 (dN HO_10.out)
       replace HO_25:=mk0 (dN HO_25.out)
       replace HO_28:=mk0 (dN HO_28.out)
       replace HO_33:=mk0 (dN HO_33.out)
       replace HL184_0:=mk0 (dV HL184_0.out)
       replace HL185_0:=mk0 (dV HL185_0.out)
       replace HR184_0:=mk0 (dC HR184_0.out)
       replace HR185_0:=mk0 (dC HR185_0.out)
       replace HB:=mk0 (dZ HB.out)
       refine start_ (n:=14) (S:=fun w'=>True) (ds:=[]) spec_Parts.m20 (by kernel_rfl) rfl rfl trivial (fun hHeld=>?_);refine with_tabW spec_Parts.tab13 spec_Parts.bits13 (fun HT_ HW_=>?_)
       generalize w30.drew = w32 at HO_10 HO_25 HO_28 HO_33 HL184_0 HL185_0 HR184_0 HR185_0 HB hHeld ⊢
       refine pure_ (i:=0) (N:=some 57) (v:=?_) (a':=?_) spec_Parts.m21 rfl rfl (any_of HT_.out (by kernel_rfl)) (fun _ _ _ h=>h) (Or.inl ⟨by rfl,?_⟩) ?_ ?_
       rotate_left
       ·intro w'
        go_simp
        with_reducible rfl
       rotate_left
       ·simp only [Act.put,sA,sO,sS,i64_w,i32_w]
        rfl
       refine pure_ (i:=1) (N:=some 58) (v:=?_) (a':=?_) spec_Parts.m22 rfl rfl (any_of HT_.out (by kernel_rfl)) (fun _ _ _ h=>h) (Or.inl ⟨by rfl,?_⟩) ?_ ?_
       rotate_left
       ·intro w'
        go_simp
        with_reducible rfl
       rotate_left
       ·simp only [Act.put,sA,sO,sS,i64_w,i32_w]
        rfl
       refine pure_ (i:=2) (N:=some 59) (v:=undef) (a':=?_) spec_Parts.m23 rfl rfl (any_of HT_.out (by kernel_rfl)) (fun _ _ _ h=>h) (Or.inr ⟨by rfl,rfl⟩) ?_ ?_
       rotate_left
       ·simp only [Act.put,sA,sO,sS,i64_w,i32_w]
        rfl
       refine pure_ (i:=3) (N:=some 60) (v:=undef) (a':=?_) spec_Parts.m24 rfl rfl (any_of HT_.out (by kernel_rfl)) (fun _ _ _ h=>h) (Or.inr ⟨by rfl,rfl⟩) ?_ ?_
       rotate_left
       ·simp only [Act.put,sA,sO,sS,i64_w,i32_w]
        rfl
       refine pure_ (i:=4) (N:=some 61) (v:=undef) (a':=?_) spec_Parts.m25 rfl rfl (any_of HT_.out (by kernel_rfl)) (fun _ _ _ h=>h) (Or.inr ⟨by rfl,rfl⟩) ?_ ?_
       rotate_left
       ·simp only [Act.put,sA,sO,sS,i64_w,i32_w]
        rfl
       refine pure_ (i:=5) (N:=some 62) (v:=undef) (a':=?_) spec_Parts.m26 rfl rfl (any_of HT_.out (by kernel_rfl)) (fun _ _ _ h=>h) (Or.inr ⟨by rfl,rfl⟩) ?_ ?_
       rotate_left
       ·simp only [Act.put,sA,sO,sS,i64_w,i32_w]
        rfl
       refine pure_ (i:=6) (N:=some 63) (v:=undef) (a':=?_) spec_Parts.m27 rfl rfl (any_of HT_.out (by kernel_rfl)) (fun _ _ _ h=>h) (Or.inr ⟨by rfl,rfl⟩) ?_ ?_
       rotate_left
       ·simp only [Act.put,sA,sO,sS,i64_w,i32_w]
        rfl
       refine pure_ (i:=7) (N:=some 64) (v:=undef) (a':=?_) spec_Parts.m28 rfl rfl (any_of HT_.out (by kernel_rfl)) (fun _ _ _ h=>h) (Or.inr ⟨by rfl,rfl⟩) ?_ ?_
       rotate_left
       ·simp only [Act.put,sA,sO,sS,i64_w,i32_w]
        rfl
       refine pure_ (i:=8) (N:=some 65) (v:=undef) (a':=?_) spec_Parts.m29 rfl rfl (any_of HT_.out (by kernel_rfl)) (fun _ _ _ h=>h) (Or.inr ⟨by rfl,rfl⟩) ?_ ?_
       rotate_left
       ·simp only [Act.put,sA,sO,sS,i64_w,i32_w]
        rfl
       refine pure_ (i:=9) (N:=some 66) (v:=undef) (a':=?_) spec_Parts.m30 rfl rfl (any_of HT_.out (by kernel_rfl)) (fun _ _ _ h=>h) (Or.inr ⟨by rfl,rfl⟩) ?_ ?_
       rotate_left
       ·simp only [Act.put,sA,sO,sS,i64_w,i32_w]
        rfl
       refine pure_ (i:=10) (N:=some 67) (v:=undef) (a':=?_) spec_Parts.m31 rfl rfl (any_of HT_.out (by kernel_rfl)) (fun _ _ _ h=>h) (Or.inr ⟨by rfl,rfl⟩) ?_ ?_
       rotate_left
       ·simp only [Act.put,sA,sO,sS,i64_w,i32_w]
        rfl
       refine pure_ (i:=11) (N:=some 68) (v:=undef) (a':=?_) spec_Parts.m32 rfl rfl (any_of HT_.out (by kernel_rfl)) (fun _ _ _ h=>h) (Or.inr ⟨by rfl,rfl⟩) ?_ ?_
       rotate_left
       ·simp only [Act.put,sA,sO,sS,i64_w,i32_w]
        rfl
       refine pure_ (i:=12) (N:=some 69) (v:=?_) (a':=?_) spec_Parts.m33 rfl rfl (any_of HT_.out (by kernel_rfl)) (fun _ _ _ h=>h) (Or.inl ⟨by rfl,?_⟩) ?_ ?_
       rotate_left
       ·intro w'
        go_simp
        with_reducible rfl
       rotate_left
       ·simp only [Act.put,sA,sO,sS,i64_w,i32_w]
        rfl
       refine pure_ (i:=13) (N:=some 13) (v:=?_) (a':=?_) spec_Parts.m34 rfl rfl (any_of HT_.out (by kernel_rfl)) (fun _ _ _ h=>h) (Or.inl ⟨by rfl,?_⟩) ?_ ?_
       rotate_left
       ·intro w'
        go_simp
        with_reducible rfl
       rotate_left
       ·simp only [Act.put,sA,sO,sS,i64_w,i32_w]
        rfl
       refine done_ (done_of HT_.out (by kernel_rfl)) ?_
       try go_wp2
       go_roundg k2
       case measure=>have:=HK1.out;have:=HK2.out;omega
       case rel=>exact⟨(wrap64 (x12_2 + 1)),(true),(by first|rfl|(simp;done)|(simp [*];done)),(by first|rfl|(simp;done)|(simp [*];done)),H',⟨by have:=HK1.out;have:=HK2.out;omega⟩,⟨rN HO_10.out⟩,⟨rN HO_25.out⟩,⟨rN HO_28.out⟩,⟨rN HO_33.out⟩,⟨kB HB.out⟩⟩
      replace c29:=Bool.eq_false_iff.mpr c29
      subst c29
      have H1:((spec_l05Cmp.f k2 (rd_L2 x10_1 x12_2) (rd_L2 y178 x11_1)).bind fun t189=>(spec_Parts.l1 k2 x10_1 x11_1 (wrap64 (x12_2 + 1)) (t189 == 0) t166 t169 y178)) = some r:=by rw [if_neg (show ¬ (false = true) by decide)] at H;exact H
      clear H
      have H:=H1
      clear H1
      replace H:=Option.bind_eq_some_iff.mp H
      obtain⟨t189,A330,H⟩:=H
      replace H:(spec_Parts.l1 k2 x10_1 x11_1 (wrap64 (x12_2 + 1)) (t189 == 0) t166 t169 y178) = some r:=H
      have A33:=mk0 A330
      clear A330
      have H':=mk0 H
      clear H
      try go_wp2
      replace HO_10:=mk0 (dN HO_10.out)
      replace HO_25:=mk0 (dN HO_25.out)
      replace HO_28:=mk0 (dN HO_28.out)
      replace HO_33:=mk0 (dN HO_33.out)
      replace HB:=mk0 (dZ HB.out)
      obtain⟨Ao35,co35,eo35⟩:=Kd.N_slice HO_10.out
      (first|subst eo35|(injection eo35 with f1_ f2_ f3_;have f4_:=f1_.symm;have f5_:=f3_.symm;clear f1_ f2_ f3_;subst f4_;subst f5_))
      have p184:0 ≤ (x12_2:Int):=of_decide_eq_true (by first|(with_reducible assumption)|assumption)
      have q184:x12_2 < (x10_1.length:Int):=of_decide_eq_true (by first|(with_reducible assumption)|assumption)
      obtain⟨ad184,A184_0,c184_0,e184,hx184_0,hl184_0,hi184_0⟩:=at_L2 (Kd.N_reads' HO_10.out).2.2 x12_2 p184 q184
      cases e184
      obtain⟨ce184,hce184,hMe184,hcc184⟩:=Kd.N_get HO_10.out [] x12_2 p184 (by first|exact q184|exact of_decide_eq_true (by first|(with_reducible assumption)|assumption)|(have e_:=(Kd.N_reads' HO_10.out).1;omega))
      obtain⟨ua184_0,uc184_0,rfl,ul184_0,ge184_0⟩:=Kd.FK_slice_open hMe184
      have hv184_0:=hcc184 0 _ rfl
      rw [Nat.add_zero,show ((Kd.slice 5 (Kd.int .u8))).sz = 1 from rfl,Nat.mul_one] at hv184_0
      replace hv184_0:=Option.some.inj (hv184_0.symm.trans hx184_0)
      injection hv184_0 with hva_ hvn_ hvc_
      rw [hva_] at ge184_0
      rw [hvc_] at ul184_0
      have HL184_0:=mk0 (show Kd.V (Kd.int .u8) 5 _ w.heap.size _ _ (rd_L2 x10_1 x12_2) from Kd.V_mk ul184_0 ge184_0)
      clear hva_ hvn_ hvc_ ge184_0 ul184_0
      clear hcc184 hce184
      have HR184_0:=mk0 hi184_0
      have HC184_0:=mk0 hl184_0
      clear hi184_0 hl184_0
      replace p184:=eq_true p184
      replace q184:=eq_true q184
      have p185:0 ≤ (x11_1:Int):=of_decide_eq_true (by first|(with_reducible assumption)|assumption)
      have q185:x11_1 < (y178.length:Int):=of_decide_eq_true (by first|(with_reducible assumption)|assumption)
      obtain⟨ad185,A185_0,c185_0,e185,hx185_0,hl185_0,hi185_0⟩:=at_L2 (Kd.N_reads' HO_33.out).2.2 x11_1 p185 q185
      cases e185
      obtain⟨ce185,hce185,hMe185,hcc185⟩:=Kd.N_get HO_33.out [] x11_1 p185 (by first|exact q185|exact of_decide_eq_true (by first|(with_reducible assumption)|assumption)|(have e_:=(Kd.N_reads' HO_33.out).1;omega))
      obtain⟨ua185_0,uc185_0,rfl,ul185_0,ge185_0⟩:=Kd.FK_slice_open hMe185
      have hv185_0:=hcc185 0 _ rfl
      rw [Nat.add_zero,show ((Kd.slice 5 (Kd.int .u8))).sz = 1 from rfl,Nat.mul_one] at hv185_0
      replace hv185_0:=Option.some.inj (hv185_0.symm.trans hx185_0)
      injection hv185_0 with hva_ hvn_ hvc_
      rw [hva_] at ge185_0
      rw [hvc_] at ul185_0
      have HL185_0:=mk0 (show Kd.V (Kd.int .u8) 5 _ w.heap.size _ _ (rd_L2 y178 x11_1) from Kd.V_mk ul185_0 ge185_0)
      clear hva_ hvn_ hvc_ ge185_0 ul185_0
      clear hcc185 hce185
      have HR185_0:=mk0 hi185_0
      have HC185_0:=mk0 hl185_0
      clear hi185_0 hl185_0
      replace p185:=eq_true p185
      replace q185:=eq_true q185
      refine start_ (n:=16) (S:=fun w'=>w'.cell? (ad184.add (x12_2).toNat) = some (.slice A184_0 (rd_L2 x10_1 x12_2).length c184_0) ∧ w'.cell? (ad185.add (x11_1).toNat) = some (.slice A185_0 (rd_L2 y178 x11_1).length c185_0)) (ds:=[]) spec_Parts.m0 (by kernel_rfl) rfl rfl ⟨hx184_0,hx185_0⟩ (fun hHeld=>?_);refine with_tabW spec_Parts.tab12 spec_Parts.bits12 (fun HT_ HW_=>?_)
      generalize wr.drew = w34 at HO_10 HO_25 HO_28 HO_33 HB HL184_0 HL185_0 HR184_0 HR185_0 hx184_0 hx185_0 hHeld ⊢
      refine pure_ (i:=0) (N:=some 41) (v:=?_) (a':=?_) spec_Parts.m1 rfl rfl (any_of HT_.out (by kernel_rfl)) (fun _ _ _ h=>h) (Or.inl ⟨by rfl,?_⟩) ?_ ?_
      rotate_left
      ·intro w'
       go_simp
       with_reducible rfl
      rotate_left
      ·simp only [Act.put,sA,sO,sS,i64_w,i32_w]
       rfl
      refine pure_ (i:=1) (N:=some 42) (v:=?_) (a':=?_) spec_Parts.m2 rfl rfl (any_of HT_.out (by kernel_rfl)) (fun _ _ _ h=>h) (Or.inl ⟨by rfl,?_⟩) ?_ ?_
      rotate_left
      ·intro w'
       go_simp
       with_reducible rfl
      rotate_left
      ·simp only [Act.put,sA,sO,sS,i64_w,i32_w]
       rfl
      refine pure_ (i:=2) (N:=some 43) (v:=?_) (a':=?_) spec_Parts.m3 rfl rfl (any_of HT_.out (by kernel_rfl)) (fun _ _ _ h=>h) (Or.inl ⟨by rfl,?_⟩) ?_ ?_
      rotate_left
      ·intro w'
       go_simp
       with_reducible rfl
      rotate_left
      ·simp only [Act.put,sA,sO,sS,i64_w,i32_w]
       rfl
      refine pure_ (i:=3) (N:=some 44) (v:=?_) (a':=?_) spec_Parts.m4 rfl rfl (any_of HT_.out (by kernel_rfl)) (fun _ _ _ h=>h) (Or.inl ⟨by rfl,?_⟩) ?_ ?_
      rotate_left
      ·intro w'
       go_simp
       with_reducible rfl
      rotate_left
      ·simp only [Act.put,sA,sO,sS,i64_w,i32_w]
       rfl
      refine pure_ (i:=4) (N:=some 45) (v:=?_) (a':=?_) spec_Parts.m5 rfl rfl (any_of HT_.out (by kernel_rfl)) (fun _ _ _ h=>h) (Or.inl ⟨by rfl,?_⟩) ?_ ?_
      rotate_left
      ·intro w'
       go_simp
       with_reducible rfl
      rotate_left
      ·simp only [Act.put,sA,sO,sS,i64_w,i32_w]
       rfl
      refine pure_ (i:=5) (N:=some 46) (v:=?_) (a':=?_) spec_Parts.m6 rfl rfl (any_of HT_.out (by kernel_rfl)) (fun _ _ _ h=>h) (Or.inl ⟨by rfl,?_⟩) ?_ ?_
      rotate_left
      ·intro w'
       go_simp
       with_reducible rfl
      rotate_left
      ·simp only [Act.put,sA,sO,sS,i64_w,i32_w]
       rfl
      refine pure_ (i:=6) (N:=some 47) (v:=?_) (a':=?_) spec_Parts.m7 rfl rfl (any_of HT_.out (by kernel_rfl)) (fun _ _ _ h=>h) (Or.inl ⟨by rfl,?_⟩) ?_ ?_
      rotate_left
      ·intro w'
       go_simp
       with_reducible rfl
      rotate_left
      ·simp only [Act.put,sA,sO,sS,i64_w,i32_w]
       rfl
      refine pure_ (i:=7) (N:=some 48) (v:=?_) (a':=?_) spec_Parts.m8 rfl rfl (any_of HT_.out (by kernel_rfl)) (fun _ _ _ h=>h) (Or.inl ⟨by rfl,?_⟩) ?_ ?_
      rotate_left
      ·intro w'
       go_simp
       with_reducible rfl
      rotate_left
      ·simp only [Act.put,sA,sO,sS,i64_w,i32_w]
       rfl
      refine pure_ (i:=9) (N:=some 50) (v:=?_) (a':=?_) spec_Parts.m17 rfl rfl (any_of HT_.out (by kernel_rfl)) (fun _ _ _ h=>h) (Or.inl ⟨by rfl,?_⟩) ?_ ?_
      rotate_left
      ·intro w'
       go_simp
       with_reducible rfl
      rotate_left
      ·simp only [Act.put,sA,sO,sS,i64_w,i32_w]
       rfl
      refine pure_ (i:=10) (N:=some 51) (v:=?_) (a':=?_) spec_Parts.m18 rfl rfl (any_of HT_.out (by kernel_rfl)) (fun _ _ _ h=>h) (Or.inl ⟨by rfl,?_⟩) ?_ ?_
      rotate_left
      ·intro w'
       go_simp
       with_reducible rfl
      rotate_left
      ·simp only [Act.put,sA,sO,sS,i64_w,i32_w]
       rfl
      refine pure_ (i:=11) (N:=some 52) (v:=?_) (a':=?_) spec_Parts.m19 rfl rfl (any_of HT_.out (by kernel_rfl)) (fun _ _ _ h=>h) (Or.inl ⟨by rfl,?_⟩) ?_ ?_
      rotate_left
      ·intro w'
       go_simp
       with_reducible rfl
      rotate_left
      ·simp only [Act.put,sA,sO,sS,i64_w,i32_w]
       rfl
      refine take_ (i:=8) (N:=some 49) (v:=?_) (a':=?_) spec_Parts.m12 rfl rfl (take_ofW HT_.out HW_.out (by kernel_rfl)) (fun _ _ _ h=>h) (Or.inl ⟨by rfl,?_⟩) hHeld ?_ ?_
      rotate_left
      ·rintro w' ⟨s0,s1⟩
       go_simp
       with_reducible rfl
      rotate_left
      ·simp only [Act.put,sA,sO,sS,i64_w,i32_w]
       rfl
      refine take_ (i:=12) (N:=some 53) (v:=?_) (a':=?_) spec_Parts.m13 rfl rfl (take_ofW HT_.out HW_.out (by kernel_rfl)) (fun _ _ _ h=>h) (Or.inl ⟨by rfl,?_⟩) hHeld ?_ ?_
      rotate_left
      ·rintro w' ⟨s0,s1⟩
       go_simp
       with_reducible rfl
      rotate_left
      ·simp only [Act.put,sA,sO,sS,i64_w,i32_w]
       rfl
      refine one_ (i:=13) (N:=some 54) spec_Parts.m14 rfl rfl (one_of HT_.out (by kernel_rfl)) (by decide) (fun K hK=>?_)
      refine goes_ Try.func53 (by kernel_rfl) rfl #[.slice A184_0 (rd_L2 x10_1 x12_2).length c184_0,.slice A185_0 (rd_L2 y178 x11_1).length c185_0] (by rfl) rfl rfl (by (try simp only [mA,mC,mN]);first|done|rfl|(simp only [List.length_drop,List.length_take];done)|(simp only [List.length_drop,List.length_take];rfl)) ?_
      with_reducible refine (spec_l05Cmp.calls k2 _ _ (rd_L2 x10_1 x12_2) _ _ (rd_L2 y178 x11_1) t186 _ ?side1 ?side2 ?side3 ?side4 A27.out).mono ?_
      (case side1=>repeat (first|exact (by repeat (first|(with_reducible exact HR184_0.out)|(with_reducible first|apply aC|apply nC|apply dC)|exact HR184_0.out|exact (Kd.V_reads' HL184_0.out).2.2))|(with_reducible first|apply aC|apply nC|apply dC)))
      (case side2=>exact HC184_0.out)
      (case side3=>repeat (first|exact (by repeat (first|(with_reducible exact HR185_0.out)|(with_reducible first|apply aC|apply nC|apply dC)|exact HR185_0.out|exact (Kd.V_reads' HL185_0.out).2.2))|(with_reducible first|apply aC|apply nC|apply dC)))
      (case side4=>exact HC185_0.out)
      rintro e w' ⟨rfl,⟨nd,rfl⟩⟩
      refine⟨_,rfl,?_⟩
      refine hK.out _ _ ⟨hHeld.1,hHeld.2⟩ (fun hHeld=>?_)
      clear hK K
      refine norm_ (a':=?_) ?_ ?_
      rotate_left
      ·show Act.put _ (some 54) _ = _
       simp only [Act.put,sA,sO,sS,i64_w,i32_w]
       rfl
      refine pure_ (i:=14) (N:=some 55) (v:=?_) (a':=?_) spec_Parts.m15 rfl rfl (any_of HT_.out (by kernel_rfl)) (fun _ _ _ h=>h) (Or.inl ⟨by rfl,?_⟩) ?_ ?_
      rotate_left
      ·intro w'
       go_simp
       with_reducible rfl
      rotate_left
      ·simp only [Act.put,sA,sO,sS,i64_w,i32_w]
       rfl
      refine pure_ (i:=15) (N:=some 56) (v:=?_) (a':=?_) spec_Parts.m16 rfl rfl (any_of HT_.out (by kernel_rfl)) (fun _ _ _ h=>h) (Or.inl ⟨by rfl,?_⟩) ?_ ?_
      rotate_left
      ·intro w'
       go_simp
       with_reducible rfl
      rotate_left
      ·simp only [Act.put,sA,sO,sS,i64_w,i32_w]
       rfl
      refine done_ (done_of HT_.out (by kernel_rfl)) ?_
      try go_wp2
      (try (rw [drewN_self w34];generalize hq_:World.drewN w34 _ = w34;have n0_:Aside0 (Kd.V (Kd.int .u8) 5 w34 w.heap.size (fun k_=>(((((P0_ k_ ∨ P1_ k_) ∨ w.heap.size ≤ k_)) ∧ some k_ ≠ (.slice (some ad185) y178.length co22:Value).ownBlock) ∧ some k_ ≠ (.slice (some ad184) x10_1.length co35:Value).ownBlock)) (.slice A184_0 (rd_L2 x10_1 x12_2).length c184_0) (rd_L2 x10_1 x12_2)):=⟨by rw [← hq_];exact (rV HL184_0.out)⟩;have n1_:Aside0 (Kd.V (Kd.int .u8) 5 w34 w.heap.size (fun k_=>(((((P0_ k_ ∨ P1_ k_) ∨ w.heap.size ≤ k_)) ∧ some k_ ≠ (.slice (some ad184) x10_1.length co35:Value).ownBlock) ∧ some k_ ≠ (.slice (some ad185) y178.length co22:Value).ownBlock)) (.slice A185_0 (rd_L2 y178 x11_1).length c185_0) (rd_L2 y178 x11_1)):=⟨by rw [← hq_];exact (rV HL185_0.out)⟩;have n2_:Aside0 (Kd.N (Kd.slice 5 (Kd.int .u8)) 22 w34 w.heap.size (fun k_=>((((P0_ k_ ∨ P1_ k_) ∨ w.heap.size ≤ k_)) ∧ some k_ ≠ (.slice (some ad185) y178.length co22:Value).ownBlock)) (.slice (some ad184) x10_1.length co35) x10_1):=⟨by rw [← hq_];exact (rN HO_10.out)⟩;have n3_:Aside0 (Kd.N (Kd.slice 5 (Kd.int .u8)) 22 w34 w.heap.size (fun k_=>((((P0_ k_ ∨ P1_ k_) ∨ w.heap.size ≤ k_)) ∧ (some k_ ≠ (.slice (some ad184) x10_1.length co35:Value).ownBlock ∧ (some k_ ≠ (.slice Ao17 t169.length co17:Value).ownBlock ∧ some k_ ≠ (.slice (some ad185) y178.length co22:Value).ownBlock)))) (.slice Ao15 t166.length co15) t166):=⟨by rw [← hq_];exact (rN HO_25.out)⟩;have n4_:Aside0 (Kd.N (Kd.slice 5 (Kd.int .u8)) 22 w34 w.heap.size (fun k_=>((((P0_ k_ ∨ P1_ k_) ∨ w.heap.size ≤ k_)) ∧ (some k_ ≠ (.slice (some ad184) x10_1.length co35:Value).ownBlock ∧ (some k_ ≠ (.slice Ao15 t166.length co15:Value).ownBlock ∧ some k_ ≠ (.slice (some ad185) y178.length co22:Value).ownBlock)))) (.slice Ao17 t169.length co17) t169):=⟨by rw [← hq_];exact (rN HO_28.out)⟩;have n5_:Aside0 (Kd.N (Kd.slice 5 (Kd.int .u8)) 22 w34 w.heap.size (fun k_=>((((P0_ k_ ∨ P1_ k_) ∨ w.heap.size ≤ k_)) ∧ some k_ ≠ (.slice (some ad184) x10_1.length co35:Value).ownBlock)) (.slice (some ad185) y178.length co22) y178):=⟨by rw [← hq_];exact (rN HO_33.out)⟩;have n6_:Aside0 (Below w.heap.size w w34):=⟨by rw [← hq_];exact (kB HB.out)⟩;have n7_:Aside0 (Kd.C (Kd.int .u8) w34 A184_0 (rd_L2 x10_1 x12_2).length (rd_L2 x10_1 x12_2)):=⟨by rw [← hq_];exact (by repeat (first|(with_reducible exact HR184_0.out)|(with_reducible first|apply aC|apply nC|apply dC)|exact HR184_0.out|exact (Kd.V_reads' HL184_0.out).2.2))⟩;have n8_:Aside0 (Kd.C (Kd.int .u8) w34 A185_0 (rd_L2 y178 x11_1).length (rd_L2 y178 x11_1)):=⟨by rw [← hq_];exact (by repeat (first|(with_reducible exact HR185_0.out)|(with_reducible first|apply aC|apply nC|apply dC)|exact HR185_0.out|exact (Kd.V_reads' HL185_0.out).2.2))⟩;clear HL184_0 HL185_0 HO_10 HO_25 HO_28 HO_33 HB HR184_0 HR185_0 hq_;have HL184_0:=n0_;have HL185_0:=n1_;have HO_10:=n2_;have HO_25:=n3_;have HO_28:=n4_;have HO_33:=n5_;have HB:=n6_;have HR184_0:=n7_;have HR185_0:=n8_;clear n0_ n1_ n2_ n3_ n4_ n5_ n6_ n7_ n8_))
      replace HO_10:=mk0 (dN HO_10.out)
      replace HO_25:=mk0 (dN HO_25.out)
      replace HO_28:=mk0 (dN HO_28.out)
      replace HO_33:=mk0 (dN HO_33.out)
      replace HL184_0:=mk0 (dV HL184_0.out)
      replace HL185_0:=mk0 (dV HL185_0.out)
      replace HR184_0:=mk0 (dC HR184_0.out)
      replace HR185_0:=mk0 (dC HR185_0.out)
      replace HB:=mk0 (dZ HB.out)
      have p187:0 ≤ (x12_2:Int):=of_decide_eq_true (by first|(with_reducible assumption)|assumption)
      have q187:x12_2 < (x10_1.length:Int):=of_decide_eq_true (by first|(with_reducible assumption)|assumption)
      obtain⟨ad187,A187_0,c187_0,e187,hx187_0,hl187_0,hi187_0⟩:=at_L2 (Kd.N_reads' HO_10.out).2.2 x12_2 p187 q187
      obtain rfl:ad184 = ad187:=(by injection e187)
      obtain⟨ce187,hce187,hMe187,hcc187⟩:=Kd.N_get HO_10.out [] x12_2 p187 (by first|exact q187|exact of_decide_eq_true (by first|(with_reducible assumption)|assumption)|(have e_:=(Kd.N_reads' HO_10.out).1;omega))
      obtain⟨ua187_0,uc187_0,rfl,ul187_0,ge187_0⟩:=Kd.FK_slice_open hMe187
      have hv187_0:=hcc187 0 _ rfl
      rw [Nat.add_zero,show ((Kd.slice 5 (Kd.int .u8))).sz = 1 from rfl,Nat.mul_one] at hv187_0
      replace hv187_0:=Option.some.inj (hv187_0.symm.trans hx187_0)
      injection hv187_0 with hva_ hvn_ hvc_
      rw [hva_] at ge187_0
      rw [hvc_] at ul187_0
      have HL187_0:=mk0 (show Kd.V (Kd.int .u8) 5 _ w.heap.size _ _ (rd_L2 x10_1 x12_2) from Kd.V_mk ul187_0 ge187_0)
      clear hva_ hvn_ hvc_ ge187_0 ul187_0
      clear hcc187 hce187
      have HR187_0:=mk0 hi187_0
      have HC187_0:=mk0 hl187_0
      clear hi187_0 hl187_0
      replace p187:=eq_true p187
      replace q187:=eq_true q187
      have p188:0 ≤ (x11_1:Int):=of_decide_eq_true (by first|(with_reducible assumption)|assumption)
      have q188:x11_1 < (y178.length:Int):=of_decide_eq_true (by first|(with_reducible assumption)|assumption)
      obtain⟨ad188,A188_0,c188_0,e188,hx188_0,hl188_0,hi188_0⟩:=at_L2 (Kd.N_reads' HO_33.out).2.2 x11_1 p188 q188
      obtain rfl:ad185 = ad188:=(by injection e188)
      obtain⟨ce188,hce188,hMe188,hcc188⟩:=Kd.N_get HO_33.out [] x11_1 p188 (by first|exact q188|exact of_decide_eq_true (by first|(with_reducible assumption)|assumption)|(have e_:=(Kd.N_reads' HO_33.out).1;omega))
      obtain⟨ua188_0,uc188_0,rfl,ul188_0,ge188_0⟩:=Kd.FK_slice_open hMe188
      have hv188_0:=hcc188 0 _ rfl
      rw [Nat.add_zero,show ((Kd.slice 5 (Kd.int .u8))).sz = 1 from rfl,Nat.mul_one] at hv188_0
      replace hv188_0:=Option.some.inj (hv188_0.symm.trans hx188_0)
      injection hv188_0 with hva_ hvn_ hvc_
      rw [hva_] at ge188_0
      rw [hvc_] at ul188_0
      have HL188_0:=mk0 (show Kd.V (Kd.int .u8) 5 _ w.heap.size _ _ (rd_L2 y178 x11_1) from Kd.V_mk ul188_0 ge188_0)
      clear hva_ hvn_ hvc_ ge188_0 ul188_0
      clear hcc188 hce188
      have HR188_0:=mk0 hi188_0
      have HC188_0:=mk0 hl188_0
      clear hi188_0 hl188_0
      replace p188:=eq_true p188
      replace q188:=eq_true q188
      refine start_ (n:=14) (S:=fun w'=>w'.cell? (ad184.add (x12_2).toNat) = some (.slice A187_0 (rd_L2 x10_1 x12_2).length c187_0) ∧ w'.cell? (ad185.add (x11_1).toNat) = some (.slice A188_0 (rd_L2 y178 x11_1).length c188_0)) (ds:=[]) spec_Parts.m20 (by kernel_rfl) rfl rfl ⟨hx187_0,hx188_0⟩ (fun hHeld=>?_);refine with_tabW spec_Parts.tab13 spec_Parts.bits13 (fun HT_ HW_=>?_)
      generalize w34.drew = w36 at HO_10 HO_25 HO_28 HO_33 HL184_0 HL185_0 HR184_0 HR185_0 HB HL187_0 HL188_0 HR187_0 HR188_0 hx187_0 hx188_0 hHeld ⊢
      refine pure_ (i:=0) (N:=some 57) (v:=?_) (a':=?_) spec_Parts.m21 rfl rfl (any_of HT_.out (by kernel_rfl)) (fun _ _ _ h=>h) (Or.inl ⟨by rfl,?_⟩) ?_ ?_
      rotate_left
      ·intro w'
       go_simp
       with_reducible rfl
      rotate_left
      ·simp only [Act.put,sA,sO,sS,i64_w,i32_w]
       rfl
      refine pure_ (i:=1) (N:=some 58) (v:=?_) (a':=?_) spec_Parts.m22 rfl rfl (any_of HT_.out (by kernel_rfl)) (fun _ _ _ h=>h) (Or.inl ⟨by rfl,?_⟩) ?_ ?_
      rotate_left
      ·intro w'
       go_simp
       with_reducible rfl
      rotate_left
      ·simp only [Act.put,sA,sO,sS,i64_w,i32_w]
       rfl
      refine pure_ (i:=2) (N:=some 59) (v:=?_) (a':=?_) spec_Parts.m23 rfl rfl (any_of HT_.out (by kernel_rfl)) (fun _ _ _ h=>h) (Or.inl ⟨by rfl,?_⟩) ?_ ?_
      rotate_left
      ·intro w'
       go_simp
       with_reducible rfl
      rotate_left
      ·simp only [Act.put,sA,sO,sS,i64_w,i32_w]
       rfl
      refine pure_ (i:=3) (N:=some 60) (v:=?_) (a':=?_) spec_Parts.m24 rfl rfl (any_of HT_.out (by kernel_rfl)) (fun _ _ _ h=>h) (Or.inl ⟨by rfl,?_⟩) ?_ ?_
      rotate_left
      ·intro w'
       go_simp
       with_reducible rfl
      rotate_left
      ·simp only [Act.put,sA,sO,sS,i64_w,i32_w]
       rfl
      refine pure_ (i:=4) (N:=some 61) (v:=?_) (a':=?_) spec_Parts.m25 rfl rfl (any_of HT_.out (by kernel_rfl)) (fun _ _ _ h=>h) (Or.inl ⟨by rfl,?_⟩) ?_ ?_
      rotate_left
      ·intro w'
       go_simp
       with_reducible rfl
      rotate_left
      ·simp only [Act.put,sA,sO,sS,i64_w,i32_w]
       rfl
      refine pure_ (i:=6) (N:=some 63) (v:=?_) (a':=?_) spec_Parts.m35 rfl rfl (any_of HT_.out (by kernel_rfl)) (fun _ _ _ h=>h) (Or.inl ⟨by rfl,?_⟩) ?_ ?_
      rotate_left
      ·intro w'
       go_simp
       with_reducible rfl
      rotate_left
      ·simp only [Act.put,sA,sO,sS,i64_w,i32_w]
       rfl
      refine pure_ (i:=7) (N:=some 64) (v:=?_) (a':=?_) spec_Parts.m36 rfl rfl (any_of HT_.out (by kernel_rfl)) (fun _ _ _ h=>h) (Or.inl ⟨by rfl,?_⟩) ?_ ?_
      rotate_left
      ·intro w'
       go_simp
       with_reducible rfl
      rotate_left
      ·simp only [Act.put,sA,sO,sS,i64_w,i32_w]
       rfl
      refine pure_ (i:=8) (N:=some 65) (v:=?_) (a':=?_) spec_Parts.m37 rfl rfl (any_of HT_.out (by kernel_rfl)) (fun _ _ _ h=>h) (Or.inl ⟨by rfl,?_⟩) ?_ ?_
      rotate_left
      ·intro w'
       go_simp
       with_reducible rfl
      rotate_left
      ·simp only [Act.put,sA,sO,sS,i64_w,i32_w]
       rfl
      refine take_ (i:=5) (N:=some 62) (v:=?_) (a':=?_) spec_Parts.m29 rfl rfl (take_ofW HT_.out HW_.out (by kernel_rfl)) (fun _ _ _ h=>h) (Or.inl ⟨by rfl,?_⟩) hHeld ?_ ?_
      rotate_left
      ·rintro w' ⟨s0,s1⟩
       go_simp
       with_reducible rfl
      rotate_left
      ·simp only [Act.put,sA,sO,sS,i64_w,i32_w]
       rfl
      refine take_ (i:=9) (N:=some 66) (v:=?_) (a':=?_) spec_Parts.m30 rfl rfl (take_ofW HT_.out HW_.out (by kernel_rfl)) (fun _ _ _ h=>h) (Or.inl ⟨by rfl,?_⟩) hHeld ?_ ?_
      rotate_left
      ·rintro w' ⟨s0,s1⟩
       go_simp
       with_reducible rfl
      rotate_left
      ·simp only [Act.put,sA,sO,sS,i64_w,i32_w]
       rfl
      refine one_ (i:=10) (N:=some 67) spec_Parts.m31 rfl rfl (one_of HT_.out (by kernel_rfl)) (by decide) (fun K hK=>?_)
      refine goes_ Try.func53 (by kernel_rfl) rfl #[.slice A187_0 (rd_L2 x10_1 x12_2).length c187_0,.slice A188_0 (rd_L2 y178 x11_1).length c188_0] (by rfl) rfl rfl (by (try simp only [mA,mC,mN]);first|done|rfl|(simp only [List.length_drop,List.length_take];done)|(simp only [List.length_drop,List.length_take];rfl)) ?_
      with_reducible refine (spec_l05Cmp.calls k2 _ _ (rd_L2 x10_1 x12_2) _ _ (rd_L2 y178 x11_1) t189 _ ?side1 ?side2 ?side3 ?side4 A33.out).mono ?_
      (case side1=>repeat (first|exact (by repeat (first|(with_reducible exact HR187_0.out)|(with_reducible first|apply aC|apply nC|apply dC)|exact HR187_0.out|exact (Kd.V_reads' HL187_0.out).2.2))|(with_reducible first|apply aC|apply nC|apply dC)))
      (case side2=>exact HC187_0.out)
      (case side3=>repeat (first|exact (by repeat (first|(with_reducible exact HR188_0.out)|(with_reducible first|apply aC|apply nC|apply dC)|exact HR188_0.out|exact (Kd.V_reads' HL188_0.out).2.2))|(with_reducible first|apply aC|apply nC|apply dC)))
      (case side4=>exact HC188_0.out)
      rintro e w' ⟨rfl,⟨nd,rfl⟩⟩
      refine⟨_,rfl,?_⟩
      refine hK.out _ _ ⟨hHeld.1,hHeld.2⟩ (fun hHeld=>?_)
      clear hK K
      refine norm_ (a':=?_) ?_ ?_
      rotate_left
      ·show Act.put _ (some 67) _ = _
       simp only [Act.put,sA,sO,sS,i64_w,i32_w]
       rfl
      refine pure_ (i:=11) (N:=some 68) (v:=?_) (a':=?_) spec_Parts.m32 rfl rfl (any_of HT_.out (by kernel_rfl)) (fun _ _ _ h=>h) (Or.inl ⟨by rfl,?_⟩) ?_ ?_
      rotate_left
      ·intro w'
       go_simp
       with_reducible rfl
      rotate_left
      ·simp only [Act.put,sA,sO,sS,i64_w,i32_w]
       rfl
      refine pure_ (i:=12) (N:=some 69) (v:=?_) (a':=?_) spec_Parts.m33 rfl rfl (any_of HT_.out (by kernel_rfl)) (fun _ _ _ h=>h) (Or.inl ⟨by rfl,?_⟩) ?_ ?_
      rotate_left
      ·intro w'
       go_simp
       with_reducible rfl
      rotate_left
      ·simp only [Act.put,sA,sO,sS,i64_w,i32_w]
       rfl
      refine pure_ (i:=13) (N:=some 13) (v:=?_) (a':=?_) spec_Parts.m34 rfl rfl (any_of HT_.out (by kernel_rfl)) (fun _ _ _ h=>h) (Or.inl ⟨by rfl,?_⟩) ?_ ?_
      rotate_left
      ·intro w'
       go_simp
       with_reducible rfl
      rotate_left
      ·simp only [Act.put,sA,sO,sS,i64_w,i32_w]
       rfl
      refine done_ (done_of HT_.out (by kernel_rfl)) ?_
      try go_wp2
      go_roundg k2
      case measure=>have:=HK1.out;have:=HK2.out;omega
      case rel=>exact⟨(wrap64 (x12_2 + 1)),((t189 == 0)),(by first|rfl|(simp;done)|(simp [*];done)),(by first|rfl|(simp;done)|(simp [*];done)),H',⟨by have:=HK1.out;have:=HK2.out;omega⟩,⟨rN HO_10.out⟩,⟨rN HO_25.out⟩,⟨rN HO_28.out⟩,⟨rN HO_33.out⟩,⟨kB HB.out⟩⟩
   case rest =>
    clear HC21
    try clear c1
    try clear p1
    try clear q1
    try clear hx1
    try clear c2
    try clear p2
    try clear c5
    try clear p6
    try clear c18
    try clear p18
    try clear q18
    try clear hx18
    try clear c23
    try clear c23b0
    try clear c24
    try clear c25
    try clear c26
    try clear c28
    try clear c28b0
    try clear hx184_0
    try clear hx185_0
    try clear hx187_0
    try clear hx188_0
    try clear p184
    try clear p185
    try clear p187
    try clear p188
    try clear q184
    try clear q185
    try clear q187
    try clear q188
    obtain⟨kq,x12_20,x13_20,rfl,rfl,HA,HJ20,HO_7,HO_8,HO_9,HO_10,HB⟩:=hcut
    cases kq with
    | zero=>exact absurd HA.out (by simp [spec_Parts.j2])
    | succ kj20 =>
     have H:=HA.out
     clear HA
     simp only [spec_Parts.j2] at H
     by_cases c41:x13_20 = true
     ·subst c41
      have H1:(spec_Parts.l0 kj20 x10_1 (wrap64 (x11_1 + 1)) t166 t169 y178) = some r:=by rw [if_pos rfl] at H;exact H
      clear H
      have H:=H1
      clear H1
      have H':=mk0 H
      clear H
      go_wp2
      go_roundg kj20
      case measure=>have:=HK1.out;have:=HJ20.out;omega
      case rel=>exact⟨(x10_1),(wrap64 (x11_1 + 1)),(by first|rfl|(simp;done)|(simp [*];done)),H',⟨by have:=HK1.out;have:=HJ20.out;omega⟩,⟨rN HO_10.out⟩,⟨rN (Kd.N_mono HO_7.out (fun _ hk=>⟨hk.1,⟨hk.2.2.2,⟨hk.2.1,hk.2.2.1⟩⟩⟩))⟩,⟨rN (Kd.N_mono HO_8.out (fun _ hk=>⟨hk.1,⟨hk.2.2.2,⟨hk.2.1,hk.2.2.1⟩⟩⟩))⟩,⟨rN HO_9.out⟩,⟨kB HB.out⟩⟩
     replace c41:=Bool.eq_false_iff.mpr c41
     subst c41
     have H1:(if 0 ≤ x11_1 then (if x11_1 < (y178.length:Int) then ((some (([rd_L2 y178 x11_1]:List (List Int)):List (List Int))).bind fun y191=>(if 0 ≤ x12_20 then (if x12_20 ≤ (x10_1.length:Int) then ((some (x10_1.drop (x12_20:Int).toNat:List (List Int))).bind fun y194=>(if y191.length + y194.length < 5864062014805 then ((some (y191 ++ y194:List (List Int))).bind fun y199=>((some (([]:List (List Int)):List (List Int))).bind fun y202=>((some (x10_1.take (x12_20:Int).toNat:List (List Int))).bind fun y205=>(if y202.length + y205.length < 5864062014805 then ((some (y202 ++ y205:List (List Int))).bind fun y210=>(if y210.length + y199.length < 5864062014805 then (spec_Parts.l0 kj20 (y210 ++ y199) (wrap64 (x11_1 + 1)) t166 t169 y178) else (none))) else (none))))) else (none))) else (none)) else (none))) else (none)) else (none)) = some r:=by rw [if_neg (show ¬ (false = true) by decide)] at H;exact H
     clear H
     have H:=H1
     clear H1
     by_cases c42:0 ≤ x11_1
     rotate_left
     ·rw [if_neg c42] at H
      exact absurd H (by simp)
     rw [if_pos c42] at H
     have c42b0:decide (0 ≤ x11_1) = true:=decide_eq_true c42
     clear c42
     by_cases c43:x11_1 < (y178.length:Int)
     rotate_left
     ·rw [if_neg c43] at H
      exact absurd H (by simp)
     rw [if_pos c43] at H
     have c43b0:decide (x11_1 < (y178.length:Int)) = true:=decide_eq_true c43
     (try simp only [hl184_0] at c43b0)
     (try simp only [hl185_0] at c43b0)
     (try simp only [hl187_0] at c43b0)
     (try simp only [hl188_0] at c43b0)
     (try simp only [hl190_0] at c43b0)
     (try simp only [hl222_0] at c43b0)
     (try simp only [hl227_0] at c43b0)
     (try simp only [hl230_0] at c43b0)
     clear c43
     obtain⟨y191,hy191⟩:∃ y_:List (List Int),y_ = (([rd_L2 y178 x11_1]:List (List Int))):=⟨_,rfl⟩
     replace H:(if 0 ≤ x12_20 then (if x12_20 ≤ (x10_1.length:Int) then ((some (x10_1.drop (x12_20:Int).toNat:List (List Int))).bind fun y194=>(if y191.length + y194.length < 5864062014805 then ((some (y191 ++ y194:List (List Int))).bind fun y199=>((some (([]:List (List Int)):List (List Int))).bind fun y202=>((some (x10_1.take (x12_20:Int).toNat:List (List Int))).bind fun y205=>(if y202.length + y205.length < 5864062014805 then ((some (y202 ++ y205:List (List Int))).bind fun y210=>(if y210.length + y199.length < 5864062014805 then (spec_Parts.l0 kj20 (y210 ++ y199) (wrap64 (x11_1 + 1)) t166 t169 y178) else (none))) else (none))))) else (none))) else (none)) else (none)) = some r:=by first|(rw [hy191];with_reducible exact H)|(have H2_:=(Option.bind_some _ _).symm.trans H;rw [hy191];with_reducible exact H2_)|(have H2_:=(Option.bind_some _ _).symm.trans H;with_reducible exact H2_)|with_reducible exact H|(rw [hy191];exact H)|exact H
     have Ny191:=mk0 hy191
     clear hy191
     by_cases c44:0 ≤ x12_20
     rotate_left
     ·rw [if_neg c44] at H
      exact absurd H (by simp)
     rw [if_pos c44] at H
     have c44b0:=eq_true c44
     have c44b1:decide (0 ≤ x12_20) = true:=decide_eq_true c44
     clear c44
     by_cases c45:x12_20 ≤ (x10_1.length:Int)
     rotate_left
     ·rw [if_neg c45] at H
      exact absurd H (by simp)
     rw [if_pos c45] at H
     have c45b0:=eq_true c45
     have c45b1:decide (x12_20 ≤ (x10_1.length:Int)) = true:=decide_eq_true c45
     (try simp only [hl184_0] at c45b1)
     (try simp only [hl185_0] at c45b1)
     (try simp only [hl187_0] at c45b1)
     (try simp only [hl188_0] at c45b1)
     (try simp only [hl190_0] at c45b1)
     (try simp only [hl222_0] at c45b1)
     (try simp only [hl227_0] at c45b1)
     (try simp only [hl230_0] at c45b1)
     clear c45
     obtain⟨y194,hy194⟩:∃ y_:List (List Int),y_ = (x10_1.drop (x12_20:Int).toNat):=⟨_,rfl⟩
     replace H:(if y191.length + y194.length < 5864062014805 then ((some (y191 ++ y194:List (List Int))).bind fun y199=>((some (([]:List (List Int)):List (List Int))).bind fun y202=>((some (x10_1.take (x12_20:Int).toNat:List (List Int))).bind fun y205=>(if y202.length + y205.length < 5864062014805 then ((some (y202 ++ y205:List (List Int))).bind fun y210=>(if y210.length + y199.length < 5864062014805 then (spec_Parts.l0 kj20 (y210 ++ y199) (wrap64 (x11_1 + 1)) t166 t169 y178) else (none))) else (none))))) else (none)) = some r:=by first|(rw [hy194];with_reducible exact H)|(have H2_:=(Option.bind_some _ _).symm.trans H;rw [hy194];with_reducible exact H2_)|(have H2_:=(Option.bind_some _ _).symm.trans H;with_reducible exact H2_)|with_reducible exact H|(rw [hy194];exact H)|exact H
     have Ny194:=mk0 hy194
     clear hy194
     by_cases c46:y191.length + y194.length < 5864062014805
     rotate_left
     ·rw [if_neg c46] at H
      exact absurd H (by simp)
     rw [if_pos c46] at H
     have LMc46:=mk0 c46
     clear c46
     obtain⟨y199,hy199⟩:∃ y_:List (List Int),y_ = (y191 ++ y194):=⟨_,rfl⟩
     replace H:((some (([]:List (List Int)):List (List Int))).bind fun y202=>((some (x10_1.take (x12_20:Int).toNat:List (List Int))).bind fun y205=>(if y202.length + y205.length < 5864062014805 then ((some (y202 ++ y205:List (List Int))).bind fun y210=>(if y210.length + y199.length < 5864062014805 then (spec_Parts.l0 kj20 (y210 ++ y199) (wrap64 (x11_1 + 1)) t166 t169 y178) else (none))) else (none)))) = some r:=by first|(rw [hy199];with_reducible exact H)|(have H2_:=(Option.bind_some _ _).symm.trans H;rw [hy199];with_reducible exact H2_)|(have H2_:=(Option.bind_some _ _).symm.trans H;with_reducible exact H2_)|with_reducible exact H|(rw [hy199];exact H)|exact H
     have Ny199:=mk0 hy199
     clear hy199
     obtain⟨y202,hy202⟩:∃ y_:List (List Int),y_ = (([]:List (List Int))):=⟨_,rfl⟩
     replace H:((some (x10_1.take (x12_20:Int).toNat:List (List Int))).bind fun y205=>(if y202.length + y205.length < 5864062014805 then ((some (y202 ++ y205:List (List Int))).bind fun y210=>(if y210.length + y199.length < 5864062014805 then (spec_Parts.l0 kj20 (y210 ++ y199) (wrap64 (x11_1 + 1)) t166 t169 y178) else (none))) else (none))) = some r:=by first|(rw [hy202];with_reducible exact H)|(have H2_:=(Option.bind_some _ _).symm.trans H;rw [hy202];with_reducible exact H2_)|(have H2_:=(Option.bind_some _ _).symm.trans H;with_reducible exact H2_)|with_reducible exact H|(rw [hy202];exact H)|exact H
     have Ny202:=mk0 hy202
     clear hy202
     have c47b0:=eq_true (of_decide_eq_true (by first|(with_reducible assumption)|assumption):0 ≤ x12_20)
     have c48b0:=eq_true (of_decide_eq_true (by first|(with_reducible assumption)|assumption):x12_20 ≤ (x10_1.length:Int))
     obtain⟨y205,hy205⟩:∃ y_:List (List Int),y_ = (x10_1.take (x12_20:Int).toNat):=⟨_,rfl⟩
     replace H:(if y202.length + y205.length < 5864062014805 then ((some (y202 ++ y205:List (List Int))).bind fun y210=>(if y210.length + y199.length < 5864062014805 then (spec_Parts.l0 kj20 (y210 ++ y199) (wrap64 (x11_1 + 1)) t166 t169 y178) else (none))) else (none)) = some r:=by first|(rw [hy205];with_reducible exact H)|(have H2_:=(Option.bind_some _ _).symm.trans H;rw [hy205];with_reducible exact H2_)|(have H2_:=(Option.bind_some _ _).symm.trans H;with_reducible exact H2_)|with_reducible exact H|(rw [hy205];exact H)|exact H
     have Ny205:=mk0 hy205
     clear hy205
     by_cases c49:y202.length + y205.length < 5864062014805
     rotate_left
     ·rw [if_neg c49] at H
      exact absurd H (by simp)
     rw [if_pos c49] at H
     have LMc49:=mk0 c49
     clear c49
     obtain⟨y210,hy210⟩:∃ y_:List (List Int),y_ = (y202 ++ y205):=⟨_,rfl⟩
     replace H:(if y210.length + y199.length < 5864062014805 then (spec_Parts.l0 kj20 (y210 ++ y199) (wrap64 (x11_1 + 1)) t166 t169 y178) else (none)) = some r:=by first|(rw [hy210];with_reducible exact H)|(have H2_:=(Option.bind_some _ _).symm.trans H;rw [hy210];with_reducible exact H2_)|(have H2_:=(Option.bind_some _ _).symm.trans H;with_reducible exact H2_)|with_reducible exact H|(rw [hy210];exact H)|exact H
     have Ny210:=mk0 hy210
     clear hy210
     by_cases c50:y210.length + y199.length < 5864062014805
     rotate_left
     ·rw [if_neg c50] at H
      exact absurd H (by simp)
     rw [if_pos c50] at H
     have LMc50:=mk0 c50
     clear c50
     obtain⟨y213,hy213⟩:∃ y_:List (List Int),y_ = (y210 ++ y199):=⟨_,rfl⟩
     replace H:(spec_Parts.l0 kj20 y213 (wrap64 (x11_1 + 1)) t166 t169 y178) = some r:=by first|(rw [hy213];with_reducible exact H)|(have H2_:=(Option.bind_some _ _).symm.trans H;rw [hy213];with_reducible exact H2_)|(have H2_:=(Option.bind_some _ _).symm.trans H;with_reducible exact H2_)|with_reducible exact H|(rw [hy213];exact H)|exact H
     have Ny213:=mk0 hy213
     clear hy213
     have H':=mk0 H
     clear H
     try go_wp2
     replace HO_7:=mk0 (dN HO_7.out)
     replace HO_8:=mk0 (dN HO_8.out)
     replace HO_9:=mk0 (dN HO_9.out)
     replace HO_10:=mk0 (dN HO_10.out)
     replace HB:=mk0 (dZ HB.out)
     have p190:0 ≤ (x11_1:Int):=of_decide_eq_true (by first|(with_reducible assumption)|assumption)
     have q190:x11_1 < (y178.length:Int):=of_decide_eq_true (by first|(with_reducible assumption)|assumption)
     obtain⟨ad190,A190_0,c190_0,e190,hx190_0,hl190_0,hi190_0⟩:=at_L2 (Kd.N_reads' HO_9.out).2.2 x11_1 p190 q190
     cases e190
     obtain⟨ce190,hce190,hMe190,hcc190⟩:=Kd.N_get HO_9.out [] x11_1 p190 (by first|exact q190|exact of_decide_eq_true (by first|(with_reducible assumption)|assumption)|(have e_:=(Kd.N_reads' HO_9.out).1;omega))
     obtain⟨ua190_0,uc190_0,rfl,ul190_0,ge190_0⟩:=Kd.FK_slice_open hMe190
     have hv190_0:=hcc190 0 _ rfl
     rw [Nat.add_zero,show ((Kd.slice 5 (Kd.int .u8))).sz = 1 from rfl,Nat.mul_one] at hv190_0
     replace hv190_0:=Option.some.inj (hv190_0.symm.trans hx190_0)
     injection hv190_0 with hva_ hvn_ hvc_
     rw [hva_] at ge190_0
     rw [hvc_] at ul190_0
     have HL190_0:=mk0 (show Kd.V (Kd.int .u8) 5 _ w.heap.size _ _ (rd_L2 y178 x11_1) from Kd.V_mk ul190_0 ge190_0)
     clear hva_ hvn_ hvc_ ge190_0 ul190_0
     clear hcc190 hce190
     have HR190_0:=mk0 hi190_0
     have HC190_0:=mk0 hl190_0
     clear hi190_0 hl190_0
     replace p190:=eq_true p190
     replace q190:=eq_true q190
     obtain⟨Ao53,co53,eo53⟩:=Kd.N_slice HO_10.out
     (first|subst eo53|(injection eo53 with f1_ f2_ f3_;have f4_:=f1_.symm;have f5_:=f3_.symm;clear f1_ f2_ f3_;subst f4_;subst f5_))
     have q52:(x12_20:Int) ≤ ((x10_1.length:Int):Int):=of_decide_eq_true (by first|(with_reducible assumption)|assumption)
     obtain⟨i052,hi052,_,hsz52,_⟩:=info_parts info22
     have hroom52:x10_1.length ≤ co53:=(Kd.N_reads' HO_10.out).2.1
     have hC52:Kd.F (Kd.slice 5 (Kd.int .u8)) _ _ Ao53 x10_1.length x10_1:=(Kd.V_at (base:=w.heap.size) (Kd.N_V HO_10.out)).2.2
     have q052:(0:Int) ≤ (x12_20:Int):=of_decide_eq_true (by first|(with_reducible assumption)|assumption)
     have hcut52:=cut_from (P:=Try.prog) 66 22 .i64 Try.underlying66 hi052 1 hsz52 Ao53 x10_1.length co53 x12_20 q052 q52
     have hr52:=Kd.F_cut (m:=(x12_20:Int).toNat) (c:=co53) hC52 (by omega) hroom52
     obtain⟨A52,hA52⟩:∃ A1,A1 = (if co53 = (x12_20:Int).toNat then Ao53 else (Ao53:Option Addr).map (·.add ((x12_20:Int).toNat * 1))):=⟨_,rfl⟩
     obtain⟨c52,hc52⟩:∃ c1,c1 = co53 - (x12_20:Int).toNat:=⟨_,rfl⟩
     have hy52:y194.length = x10_1.length - (x12_20:Int).toNat:=(by rw [Ny194.out,List.length_drop] <;> omega)
     rw [show (x10_1).drop (x12_20:Int).toNat = y194 from Ny194.out.symm] at hr52
     replace hr52:Kd.F (Kd.slice 5 (Kd.int .u8)) _ _ A52 y194.length y194:=(by rw [hA52];exact hr52)
     rw [← hy52, ← hA52, ← hc52] at hcut52
     have HO198:=mk0 (show Kd.V (Kd.slice 5 (Kd.int .u8)) 22 _ w.heap.size _ (.slice A52 y194.length c52) y194 from Kd.V_mk (by rw [hy52,hc52];exact Nat.sub_le_sub_right hroom52 _) hr52)
     have HC198:=mk0 (show y194.length ≤ c52 from by rw [hy52,hc52];exact Nat.sub_le_sub_right hroom52 _)
     clear hr52 hC52 hroom52 hi052 hsz52 hc52
     have KY52:=mk0 hy52
     have KA52:=mk0 hA52
     clear hy52 hA52
     replace q52:=eq_true q52
     refine start_ (n:=10) (S:=fun w'=>w'.cell? (ad190.add (x11_1).toNat) = some (.slice A190_0 (rd_L2 y178 x11_1).length c190_0)) (ds:=[8]) spec_Parts.m38 (by kernel_rfl) rfl rfl (hx190_0) (fun hHeld=>?_);refine with_tabW spec_Parts.tab16 spec_Parts.bits16 (fun HT_ HW_=>?_)
     generalize wc.drew = w51 at HO_7 HO_8 HO_9 HO_10 HB HL190_0 HO198 HR190_0 hx190_0 hHeld ⊢
     refine pure_ (i:=0) (N:=some 74) (v:=?_) (a':=?_) spec_Parts.m39 rfl rfl (any_of HT_.out (by kernel_rfl)) (fun _ _ _ h=>h) (Or.inl ⟨by rfl,?_⟩) ?_ ?_
     rotate_left
     ·intro w'
      go_simp
      with_reducible rfl
     rotate_left
     ·simp only [Act.put,sA,sO,sS,i64_w,i32_w]
      rfl
     refine pure_ (i:=1) (N:=some 75) (v:=?_) (a':=?_) spec_Parts.m40 rfl rfl (any_of HT_.out (by kernel_rfl)) (fun _ _ _ h=>h) (Or.inl ⟨by rfl,?_⟩) ?_ ?_
     rotate_left
     ·intro w'
      go_simp
      with_reducible rfl
     rotate_left
     ·simp only [Act.put,sA,sO,sS,i64_w,i32_w]
      rfl
     refine pure_ (i:=2) (N:=some 76) (v:=?_) (a':=?_) spec_Parts.m41 rfl rfl (any_of HT_.out (by kernel_rfl)) (fun _ _ _ h=>h) (Or.inl ⟨by rfl,?_⟩) ?_ ?_
     rotate_left
     ·intro w'
      go_simp
      with_reducible rfl
     rotate_left
     ·simp only [Act.put,sA,sO,sS,i64_w,i32_w]
      rfl
     refine pure_ (i:=5) (N:=some 79) (v:=?_) (a':=?_) spec_Parts.m42 rfl rfl (any_of HT_.out (by kernel_rfl)) (fun _ _ _ h=>h) (Or.inl ⟨by rfl,?_⟩) ?_ ?_
     rotate_left
     ·intro w'
      go_simp
      with_reducible rfl
     rotate_left
     ·simp only [Act.put,sA,sO,sS,i64_w,i32_w]
      rfl
     refine pure_ (i:=6) (N:=some 80) (v:=?_) (a':=?_) spec_Parts.m43 rfl rfl (any_of HT_.out (by kernel_rfl)) (fun _ _ _ h=>h) (Or.inl ⟨by rfl,?_⟩) ?_ ?_
     rotate_left
     ·intro w'
      go_simp
      with_reducible rfl
     rotate_left
     ·simp only [Act.put,sA,sO,sS,i64_w,i32_w]
      rfl
     refine pure_ (i:=7) (N:=some 81) (v:=?_) (a':=?_) spec_Parts.m44 rfl rfl (any_of HT_.out (by kernel_rfl)) (fun _ _ _ h=>h) (Or.inl ⟨by rfl,?_⟩) ?_ ?_
     rotate_left
     ·intro w'
      go_simp
      with_reducible rfl
     rotate_left
     ·simp only [Act.put,sA,sO,sS,i64_w,i32_w]
      rfl
     refine take_ (i:=3) (N:=some 77) (v:=?_) (a':=?_) spec_Parts.m45 rfl rfl (take_ofW HT_.out HW_.out (by kernel_rfl)) (fun _ _ _ h=>h) (Or.inl ⟨by rfl,?_⟩) hHeld ?_ ?_
     rotate_left
     ·intro w' s0
      go_simp
      with_reducible rfl
     rotate_left
     ·simp only [Act.put,sA,sO,sS,i64_w,i32_w]
      rfl
     refine one_ (i:=4) (N:=some 78) spec_Parts.m46 rfl rfl (one_of HT_.out (by kernel_rfl)) (by decide) (fun K hK=>?_)
     refine Kd.N_lit_step (Kd.slice 5 (Kd.int .u8)) _ 22 ?hg (N':=78) ?hd (xs:=([rd_L2 y178 x11_1]:List (List Int))) (inner:=[.slice A190_0 (rd_L2 y178 x11_1).length c190_0]) (ok:=(fun k_=>((P0_ k_ ∨ P1_ k_) ∨ w.heap.size ≤ k_) ∧ some k_ ≠ (.slice (some ad190) y178.length co22:Value).ownBlock ∧ some k_ ≠ (.slice Ao53 x10_1.length co53:Value).ownBlock)) (okp:=(fun k_=>((P0_ k_ ∨ P1_ k_) ∨ w.heap.size ≤ k_) ∧ some k_ ≠ (.slice (some ad190) y178.length co22:Value).ownBlock ∧ some k_ ≠ (.slice Ao53 x10_1.length co53:Value).ownBlock)) ?hr ?hp (fun _ hk=>hk) ((show ∀ k_,w51.heap.size ≤ k_ → (fun k_=>((P0_ k_ ∨ P1_ k_) ∨ w.heap.size ≤ k_) ∧ some k_ ≠ (.slice (some ad190) y178.length co22:Value).ownBlock ∧ some k_ ≠ (.slice Ao53 x10_1.length co53:Value).ownBlock) k_ from fun k_ hk=>⟨(.inr (Nat.le_trans (kZ HB.out) hk)),Kd.fresh' (Kd.N_lt (rN HO_9.out)) k_ hk,Kd.fresh' (Kd.N_lt (rN HO_10.out)) k_ hk⟩) _ (Nat.le_refl _)) (Below.refl _ _) (Nat.le_refl _) (by simp) ?_;(case hd=>rfl);(case hg=>rfl);(case hr=>first|(go_simp;done)|(go_simp;rfl));(case hp=>exact (Reps.one (show Kd.FK (Kd.slice 5 (Kd.int .u8)) _ _ (rd_L2 y178 x11_1) [.slice A190_0 (rd_L2 y178 x11_1).length c190_0] from (Kd.FK_slice_mk (Kd.V_reads' (Kd.V_mono (ok':=(fun k_=>((P0_ k_ ∨ P1_ k_) ∨ w.heap.size ≤ k_) ∧ some k_ ≠ (.slice (some ad190) y178.length co22:Value).ownBlock ∧ some k_ ≠ (.slice Ao53 x10_1.length co53:Value).ownBlock)) (HL190_0.out) (fun k_ hk=>⟨hk.1.1,⟨hk.2,hk.1.2⟩⟩))).2.1 (Kd.V_F (Kd.V_mono (ok':=(fun k_=>((P0_ k_ ∨ P1_ k_) ∨ w.heap.size ≤ k_) ∧ some k_ ≠ (.slice (some ad190) y178.length co22:Value).ownBlock ∧ some k_ ≠ (.slice Ao53 x10_1.length co53:Value).ownBlock)) (HL190_0.out) (fun k_ hk=>⟨hk.1.1,⟨hk.2,hk.1.2⟩⟩))))) (Reps.none _ _)))
     intro v192 w54 ho55 hb hg_ hnew_
     have HS0_:=(hb.cell (World.block_lt_of_cell? _ _ (hHeld))).trans (hHeld)
     clear hg_ hnew_
     (first|rw [← Ny191.out] at ho55|(simp only [Int.reduceToNat] at ho55;rw [← Ny191.out] at ho55))
     replace HO_7:=mk0 (Kd.N_elder' (rN HO_7.out) (Kd.N_base ho55) hb)
     replace HO_8:=mk0 (Kd.N_elder' (rN HO_8.out) (Kd.N_base ho55) hb)
     replace HO_9:=mk0 (Kd.N_elder' (rN HO_9.out) (Kd.N_base ho55) hb)
     replace HO_10:=mk0 (Kd.N_elder' (rN HO_10.out) (Kd.N_base ho55) hb)
     replace HO198:=mk0 (Kd.V_elder' (rV HO198.out) (Kd.N_base ho55) hb)
     have HO193:=mk0 (Kd.N_lower ho55 (kZ HB.out))
     replace HR190_0:=mk0 (Kd.C_below (by repeat (first|(with_reducible exact HR190_0.out)|(with_reducible first|apply aC|apply nC|apply dC)|exact HR190_0.out|exact (Kd.V_reads' HL190_0.out).2.2)) hb)
     replace HL190_0:=mk0 (Kd.V_elder' (rV HL190_0.out) (Kd.N_base ho55) hb)
     replace HB:=mk0 (kS HB.out hb)
     clear hb ho55
     refine hK.out _ _ (HS0_) (fun hHeld=>?_)
     clear hK K
     refine norm_ (a':=?_) ?_ ?_
     rotate_left
     ·show Act.put _ (some 78) _ = _
      simp only [Act.put,sA,sO,sS,i64_w,i32_w]
      rfl
     refine last_ (i:=8) (N:=some 82) spec_Parts.m47 rfl rfl (one_of HT_.out (by kernel_rfl)) (by decide) (fun K hK=>?_)
     refine Kd.N_append_rows_step (Kd.slice 5 (Kd.int .u8)) (w0:=w) w.heap.size (by rfl) (.tmp 78) (.tmp 81) 66 22 (.slice none 0 0) 24 rfl Try.underlying66 info22 rfl (by decide) (by omega) v192 y191 y194 _ _ _ (fun k_=>((P0_ k_ ∨ P1_ k_) ∨ w.heap.size ≤ k_) ∧ some k_ ≠ (.slice (some ad190) y178.length co22:Value).ownBlock) (fun k_=>((fun k_=>((P0_ k_ ∨ P1_ k_) ∨ w.heap.size ≤ k_) ∧ some k_ ≠ (.slice (some ad190) y178.length co22:Value).ownBlock)) k_ ∧ some k_ ≠ (v192:Value).ownBlock) rfl rfl ?aO ?aR (fun _ hk=>hk) ?aF ?aB ?aS ?aL ?_
     (case aR=>exact (by skip;exact Kd.V_F (Kd.V_mono (ok':=(fun k_=>((fun k_=>((P0_ k_ ∨ P1_ k_) ∨ w.heap.size ≤ k_) ∧ some k_ ≠ (.slice (some ad190) y178.length co22:Value).ownBlock)) k_ ∧ some k_ ≠ (v192:Value).ownBlock)) (HO198.out) (fun k_ hk=>⟨⟨hk.1.1,hk.1.2⟩,hk.2⟩))))
     (case aB=>exact (kB HB.out))
     (case aF=>exact (fun k_ hk=>⟨(.inr (Nat.le_trans (kZ HB.out) hk)),Kd.fresh' (Kd.N_lt (rN HO_9.out)) k_ hk⟩))
     (case aO=>exact (rN (Kd.N_mono HO193.out (fun _ hk=>⟨hk.1,hk.2.1⟩))))
     (case aS=>exact (kZ HB.out))
     (case aL=>have:=LMc46.out;omega)
     intro v200 w56 ho hb hg hat
     rw [← Ny199.out] at ho
     replace HO_7:=mk0 (Kd.N_afterv (ok:=(fun k_=>((P0_ k_ ∨ P1_ k_) ∨ w.heap.size ≤ k_) ∧ some k_ ≠ (.slice Ao17 t169.length co17:Value).ownBlock ∧ some k_ ≠ (.slice (some ad190) y178.length co22:Value).ownBlock ∧ some k_ ≠ (.slice Ao53 x10_1.length co53:Value).ownBlock)) (rN HO_7.out) hg hat)
     replace HO_8:=mk0 (Kd.N_afterv (ok:=(fun k_=>((P0_ k_ ∨ P1_ k_) ∨ w.heap.size ≤ k_) ∧ some k_ ≠ (.slice Ao15 t166.length co15:Value).ownBlock ∧ some k_ ≠ (.slice (some ad190) y178.length co22:Value).ownBlock ∧ some k_ ≠ (.slice Ao53 x10_1.length co53:Value).ownBlock)) (rN HO_8.out) hg hat)
     replace HO_9:=mk0 (Kd.N_afterv (ok:=(fun k_=>((P0_ k_ ∨ P1_ k_) ∨ w.heap.size ≤ k_) ∧ some k_ ≠ (.slice Ao53 x10_1.length co53:Value).ownBlock)) (rN HO_9.out) hg hat)
     replace HO_10:=mk0 (Kd.N_afterv (ok:=(fun k_=>((P0_ k_ ∨ P1_ k_) ∨ w.heap.size ≤ k_) ∧ some k_ ≠ (.slice (some ad190) y178.length co22:Value).ownBlock)) (rN HO_10.out) hg hat)
     replace HL190_0:=mk0 (Kd.V_afterv (ok:=(fun k_=>((P0_ k_ ∨ P1_ k_) ∨ w.heap.size ≤ k_) ∧ some k_ ≠ (.slice (some ad190) y178.length co22:Value).ownBlock ∧ some k_ ≠ (.slice Ao53 x10_1.length co53:Value).ownBlock)) (rV (Kd.V_mono HL190_0.out (fun _ hk=>⟨⟨hk.1.1.1,⟨hk.1.2,hk.1.1.2⟩⟩,hk.2⟩))) hg hat)
     replace HO198:=mk0 (Kd.V_afterv (ok:=(fun k_=>((P0_ k_ ∨ P1_ k_) ∨ w.heap.size ≤ k_) ∧ some k_ ≠ (.slice (some ad190) y178.length co22:Value).ownBlock)) (rV HO198.out) hg hat)
     replace HB:=mk0 (hb)
     have HO201:=mk0 (ho)
     clear HO193
     clear ho hb hg hat
     refine hK.out _ _ ?_
     clear hK K
     refine norm_ (a':=?_) ?_ ?_
     rotate_left
     ·show Act.put _ (some 82) _ = _
      simp only [Act.put,sA,sO,sS,i64_w,i32_w]
      rfl
     refine pure_ (i:=9) (N:=some 14) (v:=?_) (a':=?_) spec_Parts.m48 rfl rfl (any_of HT_.out (by kernel_rfl)) (fun _ _ _ h=>h) (Or.inl ⟨by rfl,?_⟩) ?_ ?_
     rotate_left
     ·intro w'
      go_simp
      with_reducible rfl
     rotate_left
     ·simp only [Act.put,sA,sO,sS,i64_w,i32_w]
      rfl
     refine done_ (done_of HT_.out (by kernel_rfl)) ?_
     try go_wp2_with (first|((with_reducible refine gate_dst (N:=83) rfl ?_);refine Kd.N_lit (Kd.slice 5 (Kd.int .u8)) _ 22 ?hg (N':=83) ?hd (xs:=([]:List (List Int))) (inner:=[]) (ok:=(fun k_=>((P0_ k_ ∨ P1_ k_) ∨ w.heap.size ≤ k_) ∧ some k_ ≠ (.slice Ao15 t166.length co15:Value).ownBlock ∧ some k_ ≠ (.slice Ao17 t169.length co17:Value).ownBlock ∧ some k_ ≠ (.slice (some ad190) y178.length co22:Value).ownBlock ∧ some k_ ≠ (.slice Ao53 x10_1.length co53:Value).ownBlock ∧ some k_ ≠ (v200:Value).ownBlock)) (okp:=(fun k_=>((P0_ k_ ∨ P1_ k_) ∨ w.heap.size ≤ k_) ∧ some k_ ≠ (.slice Ao15 t166.length co15:Value).ownBlock ∧ some k_ ≠ (.slice Ao17 t169.length co17:Value).ownBlock ∧ some k_ ≠ (.slice (some ad190) y178.length co22:Value).ownBlock ∧ some k_ ≠ (.slice Ao53 x10_1.length co53:Value).ownBlock ∧ some k_ ≠ (v200:Value).ownBlock)) ?hr ?hp (fun _ hk=>hk) ((show ∀ k_,w56.heap.size ≤ k_ → (fun k_=>((P0_ k_ ∨ P1_ k_) ∨ w.heap.size ≤ k_) ∧ some k_ ≠ (.slice Ao15 t166.length co15:Value).ownBlock ∧ some k_ ≠ (.slice Ao17 t169.length co17:Value).ownBlock ∧ some k_ ≠ (.slice (some ad190) y178.length co22:Value).ownBlock ∧ some k_ ≠ (.slice Ao53 x10_1.length co53:Value).ownBlock ∧ some k_ ≠ (v200:Value).ownBlock) k_ from fun k_ hk=>⟨(.inr (Nat.le_trans (kZ HB.out) hk)),Kd.fresh' (Kd.N_lt (rN HO_7.out)) k_ hk,Kd.fresh' (Kd.N_lt (rN HO_8.out)) k_ hk,Kd.fresh' (Kd.N_lt (rN HO_9.out)) k_ hk,Kd.fresh' (Kd.N_lt (rN HO_10.out)) k_ hk,Kd.fresh' (Kd.N_lt (rN HO201.out)) k_ hk⟩) _ (Nat.le_refl _)) (Below.refl _ _) (Nat.le_refl _) (by simp) ?_;(case hd=>rfl);(case hg=>rfl);(case hr=>first|(go_simp;done)|(go_simp;rfl));(case hp=>exact (Reps.none _ _));intro v203 w57 ho58 hb hg_ hnew_;clear hg_ hnew_;(first|rw [← Ny202.out] at ho58|(simp only [Int.reduceToNat] at ho58;rw [← Ny202.out] at ho58));replace HO_7:=mk0 (Kd.N_elder' (rN HO_7.out) (Kd.N_base ho58) hb);replace HO_8:=mk0 (Kd.N_elder' (rN HO_8.out) (Kd.N_base ho58) hb);replace HO_9:=mk0 (Kd.N_elder' (rN HO_9.out) (Kd.N_base ho58) hb);replace HO_10:=mk0 (Kd.N_elder' (rN HO_10.out) (Kd.N_base ho58) hb);replace HL190_0:=mk0 (Kd.V_elder' (rV HL190_0.out) (Kd.N_base ho58) hb);replace HO198:=mk0 (Kd.V_elder' (rV HO198.out) (Kd.N_base ho58) hb);replace HO201:=mk0 (Kd.N_elder' (rN HO201.out) (Kd.N_base ho58) hb);have HO204:=mk0 (Kd.N_lower ho58 (kZ HB.out));replace HB:=mk0 (kS HB.out hb);clear hb ho58;have q59:(x12_20:Int) ≤ ((x10_1.length:Int):Int):=of_decide_eq_true (by first|(with_reducible assumption)|assumption);obtain⟨i059,hi059,_,hsz59,_⟩:=info_parts info22;have hroom59:x10_1.length ≤ co53:=(Kd.N_reads' HO_10.out).2.1;have hC59:Kd.F (Kd.slice 5 (Kd.int .u8)) _ _ Ao53 x10_1.length x10_1:=(Kd.V_at (base:=w.heap.size) (Kd.N_V HO_10.out)).2.2;have hcut59:=cut_to (P:=Try.prog) 66 22 .i64 Try.underlying66 hi059 Ao53 x10_1.length co53 x12_20 (of_decide_eq_true (by first|(with_reducible assumption)|assumption)) q59 hroom59;have hr59:=Kd.F_take (m:=(x12_20:Int).toNat) hC59 (by omega);have hy59:y205.length = (x12_20:Int).toNat:=(by rw [Ny205.out,List.length_take];omega);rw [← Ny205.out] at hr59;rw [← hy59] at hcut59;have HO209:=mk0 (show Kd.V (Kd.slice 5 (Kd.int .u8)) 22 _ w.heap.size _ (.slice Ao53 y205.length co53) y205 from Kd.V_mk (by omega) hr59);have HC209:=mk0 (show y205.length ≤ co53 from by omega);clear hr59 hC59 hroom59 hi059 hsz59;have KY59:=mk0 hy59;clear hy59;replace q59:=eq_true q59)|((with_reducible refine gate_builtin (b:=.append) (xs:=#[.tmp 83,.tmp 86]) rfl ?_);at_builtin;refine Kd.N_append_rows (Kd.slice 5 (Kd.int .u8)) (w0:=w) w.heap.size rfl (.tmp 83) (.tmp 86) 66 22 (.slice none 0 0) 24 rfl Try.underlying66 info22 rfl (by decide) (by omega) v203 y202 y205 _ _ _ (fun k_=>((P0_ k_ ∨ P1_ k_) ∨ w.heap.size ≤ k_) ∧ some k_ ≠ (.slice (some ad190) y178.length co22:Value).ownBlock ∧ some k_ ≠ (v200:Value).ownBlock) (fun k_=>((fun k_=>((P0_ k_ ∨ P1_ k_) ∨ w.heap.size ≤ k_) ∧ some k_ ≠ (.slice (some ad190) y178.length co22:Value).ownBlock ∧ some k_ ≠ (v200:Value).ownBlock)) k_ ∧ some k_ ≠ (v203:Value).ownBlock) rfl rfl ?aO ?aR (fun _ hk=>hk) ?aF ?aB ?aS ?aL ?_;(case aR=>exact (by skip;exact Kd.V_F (Kd.V_mono (ok':=(fun k_=>((fun k_=>((P0_ k_ ∨ P1_ k_) ∨ w.heap.size ≤ k_) ∧ some k_ ≠ (.slice (some ad190) y178.length co22:Value).ownBlock ∧ some k_ ≠ (v200:Value).ownBlock)) k_ ∧ some k_ ≠ (v203:Value).ownBlock)) (HO209.out) (fun k_ hk=>⟨⟨hk.1.1.1,⟨hk.1.1.2,hk.1.2⟩⟩,hk.2⟩))));(case aB=>exact (kB HB.out));(case aF=>exact (fun k_ hk=>⟨(.inr (Nat.le_trans (kZ HB.out) hk)),Kd.fresh' (Kd.N_lt (rN HO_9.out)) k_ hk,Kd.fresh' (Kd.N_lt (rN HO201.out)) k_ hk⟩));(case aO=>exact (rN (Kd.N_mono HO204.out (fun _ hk=>⟨hk.1,⟨hk.2.2.2.1,hk.2.2.2.2.2⟩⟩))));(case aS=>exact (kZ HB.out));(case aL=>have:=LMc49.out;omega);intro v211 w60 ho hb hg hat;rw [← Ny210.out] at ho;replace HO_7:=mk0 (Kd.N_afterv (ok:=(fun k_=>((P0_ k_ ∨ P1_ k_) ∨ w.heap.size ≤ k_) ∧ some k_ ≠ (.slice Ao17 t169.length co17:Value).ownBlock ∧ some k_ ≠ (.slice (some ad190) y178.length co22:Value).ownBlock ∧ some k_ ≠ (.slice Ao53 x10_1.length co53:Value).ownBlock ∧ some k_ ≠ (v200:Value).ownBlock)) (rN (Kd.N_mono HO_7.out (fun _ hk=>⟨⟨hk.1.1.1,⟨hk.1.1.2.1,⟨hk.1.1.2.2.1,⟨hk.1.1.2.2.2,hk.1.2⟩⟩⟩⟩,hk.2⟩))) hg hat);replace HO_8:=mk0 (Kd.N_afterv (ok:=(fun k_=>((P0_ k_ ∨ P1_ k_) ∨ w.heap.size ≤ k_) ∧ some k_ ≠ (.slice Ao15 t166.length co15:Value).ownBlock ∧ some k_ ≠ (.slice (some ad190) y178.length co22:Value).ownBlock ∧ some k_ ≠ (.slice Ao53 x10_1.length co53:Value).ownBlock ∧ some k_ ≠ (v200:Value).ownBlock)) (rN (Kd.N_mono HO_8.out (fun _ hk=>⟨⟨hk.1.1.1,⟨hk.1.1.2.1,⟨hk.1.1.2.2.1,⟨hk.1.1.2.2.2,hk.1.2⟩⟩⟩⟩,hk.2⟩))) hg hat);replace HO_9:=mk0 (Kd.N_afterv (ok:=(fun k_=>((P0_ k_ ∨ P1_ k_) ∨ w.heap.size ≤ k_) ∧ some k_ ≠ (.slice Ao53 x10_1.length co53:Value).ownBlock ∧ some k_ ≠ (v200:Value).ownBlock)) (rN (Kd.N_mono HO_9.out (fun _ hk=>⟨⟨hk.1.1.1,⟨hk.1.1.2,hk.1.2⟩⟩,hk.2⟩))) hg hat);replace HO_10:=mk0 (Kd.N_afterv (ok:=(fun k_=>((P0_ k_ ∨ P1_ k_) ∨ w.heap.size ≤ k_) ∧ some k_ ≠ (.slice (some ad190) y178.length co22:Value).ownBlock ∧ some k_ ≠ (v200:Value).ownBlock)) (rN (Kd.N_mono HO_10.out (fun _ hk=>⟨⟨hk.1.1.1,⟨hk.1.1.2,hk.1.2⟩⟩,hk.2⟩))) hg hat);replace HL190_0:=mk0 (Kd.V_afterv (ok:=(fun k_=>((P0_ k_ ∨ P1_ k_) ∨ w.heap.size ≤ k_) ∧ some k_ ≠ (.slice (some ad190) y178.length co22:Value).ownBlock ∧ some k_ ≠ (.slice Ao53 x10_1.length co53:Value).ownBlock ∧ some k_ ≠ (v200:Value).ownBlock)) (rV (Kd.V_mono HL190_0.out (fun _ hk=>⟨⟨hk.1.1.1,⟨hk.1.1.2.1,⟨hk.1.1.2.2,hk.1.2⟩⟩⟩,hk.2⟩))) hg hat);replace HO198:=mk0 (Kd.V_afterv (ok:=(fun k_=>((P0_ k_ ∨ P1_ k_) ∨ w.heap.size ≤ k_) ∧ some k_ ≠ (.slice (some ad190) y178.length co22:Value).ownBlock ∧ some k_ ≠ (v200:Value).ownBlock)) (rV (Kd.V_mono HO198.out (fun _ hk=>⟨⟨hk.1.1.1,⟨hk.1.1.2,hk.1.2⟩⟩,hk.2⟩))) hg hat);replace HO201:=mk0 (Kd.N_afterv (ok:=(fun k_=>((P0_ k_ ∨ P1_ k_) ∨ w.heap.size ≤ k_) ∧ some k_ ≠ (.slice (some ad190) y178.length co22:Value).ownBlock)) (rN HO201.out) hg hat);replace HO209:=mk0 (Kd.V_afterv (ok:=(fun k_=>((P0_ k_ ∨ P1_ k_) ∨ w.heap.size ≤ k_) ∧ some k_ ≠ (.slice (some ad190) y178.length co22:Value).ownBlock ∧ some k_ ≠ (v200:Value).ownBlock)) (rV (Kd.V_mono HO209.out (fun _ hk=>⟨⟨hk.1.1.1,⟨hk.1.1.2,hk.1.2⟩⟩,hk.2⟩))) hg hat);replace HB:=mk0 (hb);have HO212:=mk0 (ho);clear HO204 ho hb hg hat;obtain⟨Ao62,co62,eo62⟩:=Kd.N_slice HO201.out;subst eo62)|((with_reducible refine gate_builtin (b:=.append) (xs:=#[.tmp 87,.tmp 88]) rfl ?_);at_builtin;refine Kd.N_append_rows (Kd.slice 5 (Kd.int .u8)) (w0:=w) w.heap.size rfl (.tmp 87) (.tmp 88) 66 22 (.slice none 0 0) 24 rfl Try.underlying66 info22 rfl (by decide) (by omega) v211 y210 y199 _ _ _ (fun k_=>((P0_ k_ ∨ P1_ k_) ∨ w.heap.size ≤ k_) ∧ some k_ ≠ (.slice (some ad190) y178.length co22:Value).ownBlock) (fun k_=>((fun k_=>((P0_ k_ ∨ P1_ k_) ∨ w.heap.size ≤ k_) ∧ some k_ ≠ (.slice (some ad190) y178.length co22:Value).ownBlock)) k_ ∧ some k_ ≠ (v211:Value).ownBlock) rfl rfl ?aO ?aR (fun _ hk=>hk) ?aF ?aB ?aS ?aL ?_;(case aR=>exact (by skip;exact Kd.N_F (Kd.N_mono (ok':=(fun k_=>((fun k_=>((P0_ k_ ∨ P1_ k_) ∨ w.heap.size ≤ k_) ∧ some k_ ≠ (.slice (some ad190) y178.length co22:Value).ownBlock)) k_ ∧ some k_ ≠ (v211:Value).ownBlock)) (HO201.out) (fun k_ hk=>⟨⟨hk.1.1,hk.1.2⟩,hk.2⟩))));(case aB=>exact (kB HB.out));(case aF=>exact (fun k_ hk=>⟨(.inr (Nat.le_trans (kZ HB.out) hk)),Kd.fresh' (Kd.N_lt (rN HO_9.out)) k_ hk⟩));(case aO=>exact (rN (Kd.N_mono HO212.out (fun _ hk=>⟨hk.1,hk.2.1⟩))));(case aS=>exact (kZ HB.out));(case aL=>have:=LMc50.out;omega);intro v214 w61 ho hb hg hat;rw [← Ny213.out] at ho;replace HO_7:=mk0 (Kd.N_afterv (ok:=(fun k_=>((P0_ k_ ∨ P1_ k_) ∨ w.heap.size ≤ k_) ∧ some k_ ≠ (.slice Ao17 t169.length co17:Value).ownBlock ∧ some k_ ≠ (.slice (some ad190) y178.length co22:Value).ownBlock ∧ some k_ ≠ (.slice Ao53 x10_1.length co53:Value).ownBlock ∧ some k_ ≠ (.slice Ao62 y199.length co62:Value).ownBlock)) (rN HO_7.out) hg hat);replace HO_8:=mk0 (Kd.N_afterv (ok:=(fun k_=>((P0_ k_ ∨ P1_ k_) ∨ w.heap.size ≤ k_) ∧ some k_ ≠ (.slice Ao15 t166.length co15:Value).ownBlock ∧ some k_ ≠ (.slice (some ad190) y178.length co22:Value).ownBlock ∧ some k_ ≠ (.slice Ao53 x10_1.length co53:Value).ownBlock ∧ some k_ ≠ (.slice Ao62 y199.length co62:Value).ownBlock)) (rN HO_8.out) hg hat);replace HO_9:=mk0 (Kd.N_afterv (ok:=(fun k_=>((P0_ k_ ∨ P1_ k_) ∨ w.heap.size ≤ k_) ∧ some k_ ≠ (.slice Ao53 x10_1.length co53:Value).ownBlock ∧ some k_ ≠ (.slice Ao62 y199.length co62:Value).ownBlock)) (rN HO_9.out) hg hat);replace HO_10:=mk0 (Kd.N_afterv (ok:=(fun k_=>((P0_ k_ ∨ P1_ k_) ∨ w.heap.size ≤ k_) ∧ some k_ ≠ (.slice (some ad190) y178.length co22:Value).ownBlock ∧ some k_ ≠ (.slice Ao62 y199.length co62:Value).ownBlock)) (rN HO_10.out) hg hat);replace HL190_0:=mk0 (Kd.V_afterv (ok:=(fun k_=>((P0_ k_ ∨ P1_ k_) ∨ w.heap.size ≤ k_) ∧ some k_ ≠ (.slice (some ad190) y178.length co22:Value).ownBlock ∧ some k_ ≠ (.slice Ao53 x10_1.length co53:Value).ownBlock ∧ some k_ ≠ (.slice Ao62 y199.length co62:Value).ownBlock)) (rV HL190_0.out) hg hat);replace HO198:=mk0 (Kd.V_afterv (ok:=(fun k_=>((P0_ k_ ∨ P1_ k_) ∨ w.heap.size ≤ k_) ∧ some k_ ≠ (.slice (some ad190) y178.length co22:Value).ownBlock ∧ some k_ ≠ (.slice Ao62 y199.length co62:Value).ownBlock)) (rV HO198.out) hg hat);replace HO201:=mk0 (Kd.N_afterv (ok:=(fun k_=>((P0_ k_ ∨ P1_ k_) ∨ w.heap.size ≤ k_) ∧ some k_ ≠ (.slice (some ad190) y178.length co22:Value).ownBlock)) (rN HO201.out) hg hat);replace HO209:=mk0 (Kd.V_afterv (ok:=(fun k_=>((P0_ k_ ∨ P1_ k_) ∨ w.heap.size ≤ k_) ∧ some k_ ≠ (.slice (some ad190) y178.length co22:Value).ownBlock ∧ some k_ ≠ (.slice Ao62 y199.length co62:Value).ownBlock)) (rV HO209.out) hg hat);replace HB:=mk0 (hb);have HO215:=mk0 (ho);clear HO212 ho hb hg hat))
     go_roundg kj20
     case measure=>have:=HK1.out;have:=HJ20.out;omega
     case rel=>exact⟨(y213),(wrap64 (x11_1 + 1)),(by first|rfl|(simp;done)|(simp [*];done)),H',⟨by have:=HK1.out;have:=HJ20.out;omega⟩,⟨rN HO215.out⟩,⟨rN (Kd.N_mono HO_7.out (fun _ hk=>⟨hk.1.1,⟨hk.2,⟨hk.1.2.1,hk.1.2.2.1⟩⟩⟩))⟩,⟨rN (Kd.N_mono HO_8.out (fun _ hk=>⟨hk.1.1,⟨hk.2,⟨hk.1.2.1,hk.1.2.2.1⟩⟩⟩))⟩,⟨rN (Kd.N_mono HO_9.out (fun _ hk=>⟨hk.1.1,hk.2⟩))⟩,⟨kB HB.out⟩⟩
end Go.Proofs.Ytadhngelhognaaa.QFnExactShareOf
