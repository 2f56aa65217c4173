-- A walk, made by walk.py, a program of this session's.
import Derived.Test.YtadhngelhognaaaQFnExactPartsx0
import Derived.Test.YtadhngelhognaaaQFnExactPartsx1
import Derived.Test.YtadhngelhognaaaQFnExactPartsx2
namespace Go.Proofs.Ytadhngelhognaaa.QFnExactParts
open Go.RowKit Go.Proofs.YtadhngelhognaaaW.PrintWords Go.Proofs.YtadhngelhognaaaW.PrintLast Go.Proofs.YtadhngelhognaaaW.PrintMore
attribute [local go_sem] max2_int min2_int max_two min_two max_three min_three max_four min_four   -- for this text's walks alone
set_option linter.unusedVariables false
set_option linter.unusedSimpArgs false

/-! ### spec_Parts: function 27 -/
mutual
def spec_Parts.l0 : Nat → List (List Int) → Int → List (List Int) → List (List Int) → List (List Int) → Option ((List (S48)))
 | 0, _, _, _, _, _ => none
 | k + 1, x10, x11, x25, x28, x33 => if x11 < (x33.length : Int) then (spec_Parts.l1 k x10 x11 0 false x25 x28 x33) else (spec_Parts.l2 k x10 (([] : List (S48))) 0 x25 x28)
def spec_Parts.j2 : Nat → List (List Int) → List (List Int) → List (List Int) → List (List Int) → Int → Int → Bool → Option ((List (S48)))
 | 0, _, _, _, _, _, _, _ => none
 | k + 1, x7, x8, x9, x10, x11, x12, x13 => if x13 = true then (spec_Parts.l0 k x10 (wrap64 (x11 + 1)) x7 x8 x9) else (if 0 ≤ x11 then (if x11 < (x9.length : Int) then ((some (([rd_L2 x9 x11] : List (List Int)) : List (List Int))).bind fun y192 => (if 0 ≤ x12 then (if x12 ≤ (x10.length : Int) then ((some (x10.drop (x12 : Int).toNat : List (List Int))).bind fun y195 => (if y192.length + y195.length < 5864062014805 then ((some (y192 ++ y195 : List (List Int))).bind fun y200 => ((some (([] : List (List Int)) : List (List Int))).bind fun y203 => ((some (x10.take (x12 : Int).toNat : List (List Int))).bind fun y206 => (if y203.length + y206.length < 5864062014805 then ((some (y203 ++ y206 : List (List Int))).bind fun y211 => (if y211.length + y200.length < 5864062014805 then (spec_Parts.l0 k (y211 ++ y200) (wrap64 (x11 + 1)) x7 x8 x9) else (none))) else (none))))) else (none))) else (none)) else (none))) else (none)) else (none))
def spec_Parts.l1 : Nat → List (List Int) → Int → Int → Bool → List (List Int) → List (List Int) → List (List Int) → Option ((List (S48)))
 | 0, _, _, _, _, _, _, _ => none
 | k + 1, x10, x11, x12, x13, x25, x28, x33 => if x12 < (x10.length : Int) then (if 0 ≤ x12 then (if 0 ≤ x11 then (if x11 < (x33.length : Int) then ((spec_l05Cmp.f k (rd_L2 x10 x12) (rd_L2 x33 x11)).bind fun t187 => (if t187 ≤ 0 then (if x13 = true then (spec_Parts.l1 k x10 x11 (wrap64 (x12 + 1)) true x25 x28 x33) else ((spec_l05Cmp.f k (rd_L2 x10 x12) (rd_L2 x33 x11)).bind fun t190 => (spec_Parts.l1 k x10 x11 (wrap64 (x12 + 1)) (t190 == 0) x25 x28 x33))) else (spec_Parts.j2 k x25 x28 x33 x10 x11 x12 x13))) else (none)) else (none)) else (none)) else (spec_Parts.j2 k x25 x28 x33 x10 x11 x12 x13)
def spec_Parts.l2 : Nat → List (List Int) → List (S48) → Int → List (List Int) → List (List Int) → Option ((List (S48)))
 | 0, _, _, _, _, _ => none
 | k + 1, x10, x15, x16, x25, x28 => if x16 < (x10.length : Int) then ((some (([] : List Int) : List Int)).bind fun y220 => (if 0 ≤ x16 then (if y220.length + (rd_L2 x10 x16).length < 140737488355328 then ((spec_l13Span.f k x25 (rd_L2 x10 x16)).bind fun bt229 => ((spec_l13Span.f k x28 (rd_L2 x10 x16)).bind fun bt232 => (if x15.length < 2513169434916 then (spec_Parts.l2 k x10 (x15 ++ [(⟨(y220 ++ (rd_L2 x10 x16)), bt229.1, bt229.2, bt232.1, bt232.2⟩ : S48)]) (wrap64 (x16 + 1)) x25 x28) else (none)))) else (none)) else (none))) else (some x15)
end
def spec_Parts.f (k : Nat) (l0 : List Int) (l1 : List Int) (a2 : Int) : Option ((List (S48))) := (spec_l13Fit.f l0 l1 a2).bind fun t166 => (if t166 = true then ((spec_l13Heads.f k l0 a2).bind fun t167 => ((spec_l13Heads.f k l1 a2).bind fun t170 => ((some (([] : List (List Int)) : List (List Int))).bind fun y173 => (if y173.length + t167.length < 5864062014805 then ((some (y173 ++ t167 : List (List Int))).bind fun y176 => (if y176.length + t170.length < 5864062014805 then (spec_Parts.l0 k (([] : List (List Int))) 0 t167 t170 (y176 ++ t170)) else (none))) else (none))))) else (some ([] : List (S48))))
theorem spec_Parts.mono_l : ∀ k, (∀ y0 y1 y2 y3 y4, LeO (spec_Parts.l0 k y0 y1 y2 y3 y4) (spec_Parts.l0 (k + 1) y0 y1 y2 y3 y4)) ∧ (∀ y0 y1 y2 y3 y4 y5 y6, LeO (spec_Parts.j2 k y0 y1 y2 y3 y4 y5 y6) (spec_Parts.j2 (k + 1) y0 y1 y2 y3 y4 y5 y6)) ∧ (∀ y0 y1 y2 y3 y4 y5 y6, LeO (spec_Parts.l1 k y0 y1 y2 y3 y4 y5 y6) (spec_Parts.l1 (k + 1) y0 y1 y2 y3 y4 y5 y6)) ∧ (∀ y0 y1 y2 y3 y4, LeO (spec_Parts.l2 k y0 y1 y2 y3 y4) (spec_Parts.l2 (k + 1) y0 y1 y2 y3 y4))
 | 0 => ⟨fun _ _ _ _ _ r h => by simp [spec_Parts.l0] at h, fun _ _ _ _ _ _ _ r h => by simp [spec_Parts.j2] at h, fun _ _ _ _ _ _ _ r h => by simp [spec_Parts.l1] at h, fun _ _ _ _ _ r h => by simp [spec_Parts.l2] at h⟩
 | k + 1 => by
  obtain ⟨ih0, ih1, ih2, ih3⟩ := spec_Parts.mono_l k
  refine ⟨?_, ?_, ?_, ?_⟩
  ·intro y0 y1 y2 y3 y4
   unfold spec_Parts.l0
   repeat' first|(with_reducible first|exact ih0 _ _ _ _ _|exact ih1 _ _ _ _ _ _ _|exact ih2 _ _ _ _ _ _ _|exact ih3 _ _ _ _ _|exact spec_l05Cmp.mono _ _ _|exact spec_l13Heads.mono _ _ _|exact spec_l13Span.mono _ _ _|exact LeO.refl _|exact LeO.none _|refine LeO.ite ?_ ?_|refine LeO.bind ?_ (fun _ => ?_))|exact LeO.none _|refine LeO.ite ?_ ?_|refine LeO.bind ?_ (fun _ => ?_)
  ·intro y0 y1 y2 y3 y4 y5 y6
   unfold spec_Parts.j2
   repeat' first|(with_reducible first|exact ih0 _ _ _ _ _|exact ih1 _ _ _ _ _ _ _|exact ih2 _ _ _ _ _ _ _|exact ih3 _ _ _ _ _|exact spec_l05Cmp.mono _ _ _|exact spec_l13Heads.mono _ _ _|exact spec_l13Span.mono _ _ _|exact LeO.refl _|exact LeO.none _|refine LeO.ite ?_ ?_|refine LeO.bind ?_ (fun _ => ?_))|exact LeO.none _|refine LeO.ite ?_ ?_|refine LeO.bind ?_ (fun _ => ?_)
  ·intro y0 y1 y2 y3 y4 y5 y6
   unfold spec_Parts.l1
   repeat' first|(with_reducible first|exact ih0 _ _ _ _ _|exact ih1 _ _ _ _ _ _ _|exact ih2 _ _ _ _ _ _ _|exact ih3 _ _ _ _ _|exact spec_l05Cmp.mono _ _ _|exact spec_l13Heads.mono _ _ _|exact spec_l13Span.mono _ _ _|exact LeO.refl _|exact LeO.none _|refine LeO.ite ?_ ?_|refine LeO.bind ?_ (fun _ => ?_))|exact LeO.none _|refine LeO.ite ?_ ?_|refine LeO.bind ?_ (fun _ => ?_)
  ·intro y0 y1 y2 y3 y4
   unfold spec_Parts.l2
   repeat' first|(with_reducible first|exact ih0 _ _ _ _ _|exact ih1 _ _ _ _ _ _ _|exact ih2 _ _ _ _ _ _ _|exact ih3 _ _ _ _ _|exact spec_l05Cmp.mono _ _ _|exact spec_l13Heads.mono _ _ _|exact spec_l13Span.mono _ _ _|exact LeO.refl _|exact LeO.none _|refine LeO.ite ?_ ?_|refine LeO.bind ?_ (fun _ => ?_))|exact LeO.none _|refine LeO.ite ?_ ?_|refine LeO.bind ?_ (fun _ => ?_)
theorem spec_Parts.mono : ∀ a0 a1 a2 k, LeO (spec_Parts.f k a0 a1 a2) (spec_Parts.f (k + 1) a0 a1 a2) := by
 intro a0 a1 a2 k
 obtain ⟨ih0, ih1, ih2, ih3⟩ := spec_Parts.mono_l k
 unfold spec_Parts.f
 repeat' first|(with_reducible first|exact ih0 _ _ _ _ _|exact ih1 _ _ _ _ _ _ _|exact ih2 _ _ _ _ _ _ _|exact ih3 _ _ _ _ _|exact spec_l05Cmp.mono _ _ _|exact spec_l13Heads.mono _ _ _|exact spec_l13Span.mono _ _ _|exact LeO.refl _|exact LeO.none _|refine LeO.ite ?_ ?_|refine LeO.bind ?_ (fun _ => ?_))|exact LeO.none _|refine LeO.ite ?_ ?_|refine LeO.bind ?_ (fun _ => ?_)
def spec_Parts.T12 : Bool × List (List Nat × List Nat) := (true, [([], []), ([], []), ([1], [1]), ([0, 2], [0, 2]), ([3], [3]), ([4], [4]), ([4], [4]), ([5, 6, 4], [4, 5, 6]), ([7, 4], [4, 7]), ([4], [4]), ([4], [4]), ([9, 10, 4], [4, 9, 10]), ([11, 4], [4, 11]), ([8, 12, 4, 4], [4, 8, 12]), ([13, 4], [4, 13]), ([4, 14], [4, 14])])
def spec_Parts.B12 : List Nat := [0, 0, 2, 7, 15, 31, 31, 127, 255, 31, 31, 1567, 3615, 8191, 16383, 32767]
theorem spec_Parts.tab12 : rtab .any (opsOf Try.f27 12) = spec_Parts.T12 := by kernel_rfl
theorem spec_Parts.bits12 : waitsOk spec_Parts.T12.2 spec_Parts.B12 = true := by kernel_rfl
def spec_Parts.T13 : Bool × List (List Nat × List Nat) := (true, [([], []), ([0], [0]), ([1], [1]), ([1], [1]), ([2, 3, 1], [1, 2, 3]), ([4, 1], [1, 4]), ([1], [1]), ([1], [1]), ([6, 7, 1], [1, 6, 7]), ([8, 1], [1, 8]), ([5, 9, 1, 1], [1, 5, 9]), ([10, 1], [1, 10]), ([1, 11], [1, 11]), ([12, 10, 0, 1, 2, 3, 4, 5, 6, 7, 8, 9, 10, 11, 12], [0, 12])])
def spec_Parts.B13 : List Nat := [0, 1, 3, 3, 15, 31, 3, 3, 195, 451, 1023, 2047, 4095, 8191]
theorem spec_Parts.tab13 : rtab .any (opsOf Try.f27 13) = spec_Parts.T13 := by kernel_rfl
theorem spec_Parts.bits13 : waitsOk spec_Parts.T13.2 spec_Parts.B13 = true := by kernel_rfl
def spec_Parts.T16 : Bool × List (List Nat × List Nat) := (true, [([], []), ([], []), ([0, 1], [0, 1]), ([2], [2]), ([3], [3]), ([], []), ([], []), ([5, 6], [5, 6]), ([4, 7], [4, 7]), ([8, 8, 0, 1, 2, 3, 4, 5, 6, 7, 8], [8])])
def spec_Parts.B16 : List Nat := [0, 0, 3, 7, 15, 0, 0, 96, 255, 511]
theorem spec_Parts.tab16 : rtab .any (opsOf Try.f27 16) = spec_Parts.T16 := by kernel_rfl
theorem spec_Parts.bits16 : waitsOk spec_Parts.T16.2 spec_Parts.B16 = true := by kernel_rfl
set_option maxHeartbeats 8000000 in
set_option maxRecDepth 100000 in
theorem spec_Parts.calls (k : Nat) (P0_ : Nat → Prop) (A0 : Option Addr) (c0 : Nat) (l0 : List Int) (P1_ : Nat → Prop) (A1 : Option Addr) (c1 : Nat) (l1 : List Int) (a2 : Int) (r : List (S48)) (w : World) (hs0 : Kd.V (Kd.int .u8) 5 w w.heap.size (fun k_ => P0_ k_) (.slice A0 l0.length c0) l0) (hs1 : Kd.V (Kd.int .u8) 5 w w.heap.size (fun k_ => P1_ k_) (.slice A1 l1.length c1) l1) (h : spec_Parts.f k l0 l1 a2 = some r) :
  Calls Try.prog 27 #[.slice A0 l0.length c0, .slice A1 l1.length c1, .int .i64 a2] w fun e w' => ∃ v0_ : Value, e = .returned (v0_) ∧ Kd.N k48 48 w' w.heap.size (fun k_ => ((P0_ k_ ∨ P1_ k_) ∨ w.heap.size ≤ k_)) v0_ r ∧ Below w.heap.size w w' := by
 have hu48:=Try.underlying48
 have HO0:=mk0 (show Kd.V (Kd.int .u8) 5 w w.heap.size (fun k_=>((P0_ k_ ∨ P1_ k_) ∨ w.heap.size ≤ k_)) (.slice A0 l0.length c0) l0 from Kd.V_mono hs0 (fun k_ hk=>.inl (.inl hk)))
 have HO1:=mk0 (show Kd.V (Kd.int .u8) 5 w w.heap.size (fun k_=>((P0_ k_ ∨ P1_ k_) ∨ w.heap.size ≤ k_)) (.slice A1 l1.length c1) l1 from Kd.V_mono hs1 (fun k_ hk=>.inl (.inr hk)))
 have HB:=mk0 (Below.refl w.heap.size w)
 have H:((spec_l13Fit.f l0 l1 a2).bind fun t166=>(if t166 = true then ((spec_l13Heads.f k l0 a2).bind fun t167=>((spec_l13Heads.f k l1 a2).bind fun t170=>((some (([]:List (List Int)):List (List Int))).bind fun y173=>(if y173.length + t167.length < 5864062014805 then ((some (y173 ++ t167:List (List Int))).bind fun y176=>(if y176.length + t170.length < 5864062014805 then (spec_Parts.l0 k (([]:List (List Int))) 0 t167 t170 (y176 ++ t170)) else (none))) else (none))))) else (some ([]:List (S48))))) = some r:=h
 clear h
 replace H:=Option.bind_eq_some_iff.mp H
 obtain⟨t166,A40,H⟩:=H
 replace H:(if t166 = true then ((spec_l13Heads.f k l0 a2).bind fun t167=>((spec_l13Heads.f k l1 a2).bind fun t170=>((some (([]:List (List Int)):List (List Int))).bind fun y173=>(if y173.length + t167.length < 5864062014805 then ((some (y173 ++ t167:List (List Int))).bind fun y176=>(if y176.length + t170.length < 5864062014805 then (spec_Parts.l0 k (([]:List (List Int))) 0 t167 t170 (y176 ++ t170)) else (none))) else (none))))) else (some ([]:List (S48)))) = some r:=H
 have A4:=mk0 A40
 clear A40
 by_cases c5:t166 = true
 rotate_left
 ·replace c5:=Bool.eq_false_iff.mpr c5
  subst c5
  have H1:(some ([]:List (S48))) = some r:=by rw [if_neg (show ¬ (false = true) by decide)] at H;exact H
  clear H
  have H:=H1
  clear H1
  obtain rfl:=Option.some.inj H
  go_enter Try.func27,Try.ntmps27
  go_wp2_with (first|((with_reducible refine gate_callee (f:=35) rfl ?_);refine gL (some 21) Try.func35 #[.slice A0 l0.length c0,.slice A1 l1.length c1,.int .i64 a2] ?_;(with_reducible refine (spec_l13Fit.calls _ _ l0 _ _ l1 a2 false _ ?side1 ?side2 ?side3 ?side4 A4.out).mono ?_);(case side1=>exact kC (Kd.V_reads' HO0.out).2.2);(case side2=>exact (Kd.V_reads' HO0.out).2.1);(case side3=>exact kC (Kd.V_reads' HO1.out).2.2);(case side4=>exact (Kd.V_reads' HO1.out).2.1);rintro e w' ⟨rfl,⟨nd,rfl⟩⟩;refine⟨_,rfl,?_⟩))
  go_ret
  exact⟨_,by first|rfl|(simp [errW_none,errW_some] <;> rfl)|(simp [*,errW_none,errW_some] <;> rfl),by first|exact Kd.S_nil _ _ _ _ _|exact Kd.N_nil _ _ _ _ _|exact Kd.V_nil _ _ _ _ _|exact Kd.Q_nil _ _ _ _ _|exact Kd.R_nil _ _ _ _ _,kB HB.out⟩

 subst c5
 have H1:((spec_l13Heads.f k l0 a2).bind fun t167=>((spec_l13Heads.f k l1 a2).bind fun t170=>((some (([]:List (List Int)):List (List Int))).bind fun y173=>(if y173.length + t167.length < 5864062014805 then ((some (y173 ++ t167:List (List Int))).bind fun y176=>(if y176.length + t170.length < 5864062014805 then (spec_Parts.l0 k (([]:List (List Int))) 0 t167 t170 (y176 ++ t170)) else (none))) else (none))))) = some r:=by rw [if_pos rfl] at H;exact H
 clear H
 have H:=H1
 clear H1
 replace H:=Option.bind_eq_some_iff.mp H
 obtain⟨t167,A60,H⟩:=H
 replace H:((spec_l13Heads.f k l1 a2).bind fun t170=>((some (([]:List (List Int)):List (List Int))).bind fun y173=>(if y173.length + t167.length < 5864062014805 then ((some (y173 ++ t167:List (List Int))).bind fun y176=>(if y176.length + t170.length < 5864062014805 then (spec_Parts.l0 k (([]:List (List Int))) 0 t167 t170 (y176 ++ t170)) else (none))) else (none)))) = some r:=H
 have A6:=mk0 A60
 clear A60
 replace H:=Option.bind_eq_some_iff.mp H
 obtain⟨t170,A70,H⟩:=H
 replace H:((some (([]:List (List Int)):List (List Int))).bind fun y173=>(if y173.length + t167.length < 5864062014805 then ((some (y173 ++ t167:List (List Int))).bind fun y176=>(if y176.length + t170.length < 5864062014805 then (spec_Parts.l0 k (([]:List (List Int))) 0 t167 t170 (y176 ++ t170)) else (none))) else (none))) = some r:=H
 have A7:=mk0 A70
 clear A70
 obtain⟨y173,hy173⟩:∃ y_:List (List Int),y_ = (([]:List (List Int))):=⟨_,rfl⟩
 replace H:(if y173.length + t167.length < 5864062014805 then ((some (y173 ++ t167:List (List Int))).bind fun y176=>(if y176.length + t170.length < 5864062014805 then (spec_Parts.l0 k (([]:List (List Int))) 0 t167 t170 (y176 ++ t170)) else (none))) else (none)) = some r:=by first|(rw [hy173];with_reducible exact H)|(have H2_:=(Option.bind_some _ _).symm.trans H;rw [hy173];with_reducible exact H2_)|(have H2_:=(Option.bind_some _ _).symm.trans H;with_reducible exact H2_)|with_reducible exact H|(rw [hy173];exact H)|exact H
 have Ny173:=mk0 hy173
 clear hy173
 by_cases c8:y173.length + t167.length < 5864062014805
 rotate_left
 ·rw [if_neg c8] at H
  exact absurd H (by simp)
 rw [if_pos c8] at H
 have LMc8:=mk0 c8
 clear c8
 obtain⟨y176,hy176⟩:∃ y_:List (List Int),y_ = (y173 ++ t167):=⟨_,rfl⟩
 replace H:(if y176.length + t170.length < 5864062014805 then (spec_Parts.l0 k (([]:List (List Int))) 0 t167 t170 (y176 ++ t170)) else (none)) = some r:=by first|(rw [hy176];with_reducible exact H)|(have H2_:=(Option.bind_some _ _).symm.trans H;rw [hy176];with_reducible exact H2_)|(have H2_:=(Option.bind_some _ _).symm.trans H;with_reducible exact H2_)|with_reducible exact H|(rw [hy176];exact H)|exact H
 have Ny176:=mk0 hy176
 clear hy176
 by_cases c9:y176.length + t170.length < 5864062014805
 rotate_left
 ·rw [if_neg c9] at H
  exact absurd H (by simp)
 rw [if_pos c9] at H
 have LMc9:=mk0 c9
 clear c9
 obtain⟨y179,hy179⟩:∃ y_:List (List Int),y_ = (y176 ++ t170):=⟨_,rfl⟩
 replace H:(spec_Parts.l0 k (([]:List (List Int))) 0 t167 t170 y179) = some r:=by first|(rw [hy179];with_reducible exact H)|(have H2_:=(Option.bind_some _ _).symm.trans H;rw [hy179];with_reducible exact H2_)|(have H2_:=(Option.bind_some _ _).symm.trans H;with_reducible exact H2_)|with_reducible exact H|(rw [hy179];exact H)|exact H
 have Ny179:=mk0 hy179
 clear hy179
 obtain⟨y182,hy182⟩:∃ y_:List (List Int),y_ = (([]:List (List Int))):=⟨_,rfl⟩
 replace H:(spec_Parts.l0 k y182 0 t167 t170 y179) = some r:=by first|(rw [hy182];with_reducible exact H)|(have H2_:=(Option.bind_some _ _).symm.trans H;rw [hy182];with_reducible exact H2_)|(have H2_:=(Option.bind_some _ _).symm.trans H;with_reducible exact H2_)|with_reducible exact H|(rw [hy182];exact H)|exact H
 have Ny182:=mk0 hy182
 clear hy182
 have H':=mk0 H
 clear H
 go_enter Try.func27,Try.ntmps27
 go_wp2_with (first|((with_reducible refine gate_callee (f:=35) rfl ?_);refine gL (some 21) Try.func35 #[.slice A0 l0.length c0,.slice A1 l1.length c1,.int .i64 a2] ?_;(with_reducible refine (spec_l13Fit.calls _ _ l0 _ _ l1 a2 true _ ?side1 ?side2 ?side3 ?side4 A4.out).mono ?_);(case side1=>exact kC (Kd.V_reads' HO0.out).2.2);(case side2=>exact (Kd.V_reads' HO0.out).2.1);(case side3=>exact kC (Kd.V_reads' HO1.out).2.2);(case side4=>exact (Kd.V_reads' HO1.out).2.1);rintro e w' ⟨rfl,⟨nd,rfl⟩⟩;refine⟨_,rfl,?_⟩)|((with_reducible refine gate_callee (f:=52) rfl ?_);refine gL (some 25) Try.func52 #[.slice A0 l0.length c0,.int .i64 a2] ?_;(with_reducible refine (spec_l13Heads.calls k (fun k_=>((P0_ k_ ∨ P1_ k_) ∨ w.heap.size ≤ k_)) _ _ l0 a2 t167 _ ?side1 A6.out).mono ?_);(case side1=>exact HO0.out);rintro e w10 ⟨v168,rfl,ho0,hb⟩;refine⟨_,rfl,?_⟩;replace HO0:=mk0 (Kd.V_elder' (rV HO0.out) (Kd.N_base ho0) hb);replace HO1:=mk0 (Kd.V_elder' (rV HO1.out) (Kd.N_base ho0) hb);have HO169:=mk0 (Kd.N_lower (Kd.N_mono (ok':=fun k_=>((P0_ k_ ∨ P1_ k_) ∨ w.heap.size ≤ k_)) ho0 (fun k_ hk_=>Or.elim hk_ (fun hs_=>hs_) (fun hn_=>(.inr (Nat.le_trans (kZ HB.out) hn_))))) (kZ HB.out));replace HB:=mk0 (kS HB.out hb);(try clear hb);(try clear ho0))|((with_reducible refine gate_callee (f:=52) rfl ?_);refine gL (some 28) Try.func52 #[.slice A1 l1.length c1,.int .i64 a2] ?_;(with_reducible refine (spec_l13Heads.calls k (fun k_=>(((P0_ k_ ∨ P1_ k_) ∨ w.heap.size ≤ k_) ∧ some k_ ≠ (v168:Value).ownBlock)) _ _ l1 a2 t170 _ ?side1 A7.out).mono ?_);(case side1=>exact HO1.out);rintro e w11 ⟨v171,rfl,ho0,hb⟩;refine⟨_,rfl,?_⟩;replace HO0:=mk0 (Kd.V_elder' (rV HO0.out) (Kd.N_base ho0) hb);replace HO1:=mk0 (Kd.V_elder' (rV HO1.out) (Kd.N_base ho0) hb);have HO172:=mk0 (Kd.N_lower (Kd.N_mono (ok':=fun k_=>((P0_ k_ ∨ P1_ k_) ∨ w.heap.size ≤ k_) ∧ some k_ ≠ (v168:Value).ownBlock) ho0 (fun k_ hk_=>⟨Or.elim hk_ (fun hs_=>hs_.1) (fun hn_=>(.inr (Nat.le_trans (kZ HB.out) hn_))),Or.elim hk_ (fun hs_=>hs_.2) (fun hn_=>(Kd.fresh' (Kd.N_lt (rN HO169.out)) k_ hn_))⟩)) (kZ HB.out));replace HO169:=mk0 (Kd.N_elder' (rN HO169.out) (Kd.N_base ho0) hb);replace HB:=mk0 (kS HB.out hb);(try clear hb);(try clear ho0))|((with_reducible refine gate_dst (N:=29) rfl ?_);refine Kd.N_lit (Kd.slice 5 (Kd.int .u8)) _ 22 ?hg (N':=29) ?hd (xs:=([]:List (List Int))) (inner:=[]) (ok:=(fun k_=>((P0_ k_ ∨ P1_ k_) ∨ w.heap.size ≤ k_) ∧ some k_ ≠ (v168:Value).ownBlock ∧ some k_ ≠ (v171:Value).ownBlock)) (okp:=(fun k_=>((P0_ k_ ∨ P1_ k_) ∨ w.heap.size ≤ k_) ∧ some k_ ≠ (v168:Value).ownBlock ∧ some k_ ≠ (v171:Value).ownBlock)) ?hr ?hp (fun _ hk=>hk) ((show ∀ k_,w11.heap.size ≤ k_ → (fun k_=>((P0_ k_ ∨ P1_ k_) ∨ w.heap.size ≤ k_) ∧ some k_ ≠ (v168:Value).ownBlock ∧ some k_ ≠ (v171:Value).ownBlock) k_ from fun k_ hk=>⟨(.inr (Nat.le_trans (kZ HB.out) hk)),Kd.fresh' (Kd.N_lt (rN HO169.out)) k_ hk,Kd.fresh' (Kd.N_lt (rN HO172.out)) k_ hk⟩) _ (Nat.le_refl _)) (Below.refl _ _) (Nat.le_refl _) (by simp) ?_;(case hd=>rfl);(case hg=>rfl);(case hr=>first|(go_simp;done)|(go_simp;rfl));(case hp=>exact (Reps.none _ _));intro v174 w12 ho13 hb hg_ hnew_;clear hg_ hnew_;(first|rw [← Ny173.out] at ho13|(simp only [Int.reduceToNat] at ho13;rw [← Ny173.out] at ho13));replace HO0:=mk0 (Kd.V_elder' (rV HO0.out) (Kd.N_base ho13) hb);replace HO1:=mk0 (Kd.V_elder' (rV HO1.out) (Kd.N_base ho13) hb);replace HO169:=mk0 (Kd.N_elder' (rN HO169.out) (Kd.N_base ho13) hb);replace HO172:=mk0 (Kd.N_elder' (rN HO172.out) (Kd.N_base ho13) hb);have HO175:=mk0 (Kd.N_lower ho13 (kZ HB.out));replace HB:=mk0 (kS HB.out hb);clear hb ho13;obtain⟨Ao15,co15,eo15⟩:=Kd.N_slice HO169.out;subst eo15)|((with_reducible refine gate_builtin (b:=.append) (xs:=#[.tmp 29,.tmp 30]) rfl ?_);at_builtin;refine Kd.N_append_rows (Kd.slice 5 (Kd.int .u8)) (w0:=w) w.heap.size rfl (.tmp 29) (.tmp 30) 66 22 (.slice none 0 0) 24 rfl Try.underlying66 info22 rfl (by decide) (by omega) v174 y173 t167 _ _ _ (fun k_=>((P0_ k_ ∨ P1_ k_) ∨ w.heap.size ≤ k_) ∧ some k_ ≠ (v171:Value).ownBlock) (fun k_=>((fun k_=>((P0_ k_ ∨ P1_ k_) ∨ w.heap.size ≤ k_) ∧ some k_ ≠ (v171:Value).ownBlock)) k_ ∧ some k_ ≠ (v174:Value).ownBlock) rfl rfl ?aO ?aR (fun _ hk=>hk) ?aF ?aB ?aS ?aL ?_;(case aR=>exact (by skip;exact Kd.N_F (Kd.N_mono (ok':=(fun k_=>((fun k_=>((P0_ k_ ∨ P1_ k_) ∨ w.heap.size ≤ k_) ∧ some k_ ≠ (v171:Value).ownBlock)) k_ ∧ some k_ ≠ (v174:Value).ownBlock)) (HO169.out) (fun k_ hk=>⟨⟨hk.1.1,hk.1.2⟩,hk.2⟩))));(case aB=>exact (kB HB.out));(case aF=>exact (fun k_ hk=>⟨(.inr (Nat.le_trans (kZ HB.out) hk)),Kd.fresh' (Kd.N_lt (rN HO172.out)) k_ hk⟩));(case aO=>exact (rN (Kd.N_mono HO175.out (fun _ hk=>⟨hk.1,hk.2.2⟩))));(case aS=>exact (kZ HB.out));(case aL=>have:=LMc8.out;omega);intro v177 w14 ho hb hg hat;rw [← Ny176.out] at ho;replace HO0:=mk0 (Kd.V_afterv (ok:=(fun k_=>((P0_ k_ ∨ P1_ k_) ∨ w.heap.size ≤ k_) ∧ some k_ ≠ (.slice Ao15 t167.length co15:Value).ownBlock ∧ some k_ ≠ (v171:Value).ownBlock)) (rV (Kd.V_mono HO0.out (fun _ hk=>⟨⟨hk.1.1.1,⟨hk.1.1.2,hk.1.2⟩⟩,hk.2⟩))) hg hat);replace HO1:=mk0 (Kd.V_afterv (ok:=(fun k_=>((P0_ k_ ∨ P1_ k_) ∨ w.heap.size ≤ k_) ∧ some k_ ≠ (.slice Ao15 t167.length co15:Value).ownBlock ∧ some k_ ≠ (v171:Value).ownBlock)) (rV (Kd.V_mono HO1.out (fun _ hk=>⟨⟨hk.1.1.1,⟨hk.1.1.2,hk.1.2⟩⟩,hk.2⟩))) hg hat);replace HO169:=mk0 (Kd.N_afterv (ok:=(fun k_=>((P0_ k_ ∨ P1_ k_) ∨ w.heap.size ≤ k_) ∧ some k_ ≠ (v171:Value).ownBlock)) (rN HO169.out) hg hat);replace HO172:=mk0 (Kd.N_afterv (ok:=(fun k_=>((P0_ k_ ∨ P1_ k_) ∨ w.heap.size ≤ k_) ∧ some k_ ≠ (.slice Ao15 t167.length co15:Value).ownBlock)) (rN HO172.out) hg hat);replace HB:=mk0 (hb);have HO178:=mk0 (ho);clear HO175 ho hb hg hat;obtain⟨Ao17,co17,eo17⟩:=Kd.N_slice HO172.out;subst eo17)|((with_reducible refine gate_builtin (b:=.append) (xs:=#[.tmp 31,.tmp 32]) rfl ?_);at_builtin;refine Kd.N_append_rows (Kd.slice 5 (Kd.int .u8)) (w0:=w) w.heap.size rfl (.tmp 31) (.tmp 32) 66 22 (.slice none 0 0) 24 rfl Try.underlying66 info22 rfl (by decide) (by omega) v177 y176 t170 _ _ _ (fun k_=>((P0_ k_ ∨ P1_ k_) ∨ w.heap.size ≤ k_)) (fun k_=>((fun k_=>((P0_ k_ ∨ P1_ k_) ∨ w.heap.size ≤ k_))) k_ ∧ some k_ ≠ (v177:Value).ownBlock) rfl rfl ?aO ?aR (fun _ hk=>hk) ?aF ?aB ?aS ?aL ?_;(case aR=>exact (by skip;exact Kd.N_F (Kd.N_mono (ok':=(fun k_=>((fun k_=>((P0_ k_ ∨ P1_ k_) ∨ w.heap.size ≤ k_))) k_ ∧ some k_ ≠ (v177:Value).ownBlock)) (HO172.out) (fun k_ hk=>⟨hk.1.1,hk.2⟩))));(case aB=>exact (kB HB.out));(case aF=>exact (fun k_ hk=>(.inr (Nat.le_trans (kZ HB.out) hk))));(case aO=>exact (rN (Kd.N_mono HO178.out (fun _ hk=>hk.1))));(case aS=>exact (kZ HB.out));(case aL=>have:=LMc9.out;omega);intro v180 w16 ho hb hg hat;rw [← Ny179.out] at ho;replace HO0:=mk0 (Kd.V_afterv (ok:=(fun k_=>((P0_ k_ ∨ P1_ k_) ∨ w.heap.size ≤ k_) ∧ some k_ ≠ (.slice Ao15 t167.length co15:Value).ownBlock ∧ some k_ ≠ (.slice Ao17 t170.length co17:Value).ownBlock)) (rV HO0.out) hg hat);replace HO1:=mk0 (Kd.V_afterv (ok:=(fun k_=>((P0_ k_ ∨ P1_ k_) ∨ w.heap.size ≤ k_) ∧ some k_ ≠ (.slice Ao15 t167.length co15:Value).ownBlock ∧ some k_ ≠ (.slice Ao17 t170.length co17:Value).ownBlock)) (rV HO1.out) hg hat);replace HO169:=mk0 (Kd.N_afterv (ok:=(fun k_=>((P0_ k_ ∨ P1_ k_) ∨ w.heap.size ≤ k_) ∧ some k_ ≠ (.slice Ao17 t170.length co17:Value).ownBlock)) (rN HO169.out) hg hat);replace HO172:=mk0 (Kd.N_afterv (ok:=(fun k_=>((P0_ k_ ∨ P1_ k_) ∨ w.heap.size ≤ k_) ∧ some k_ ≠ (.slice Ao15 t167.length co15:Value).ownBlock)) (rN HO172.out) hg hat);replace HB:=mk0 (hb);have HO181:=mk0 (ho);clear HO178 ho hb hg hat)|((with_reducible refine gate_dst (N:=34) rfl ?_);refine Kd.N_lit (Kd.slice 5 (Kd.int .u8)) _ 22 ?hg (N':=34) ?hd (xs:=([]:List (List Int))) (inner:=[]) (ok:=(fun k_=>((P0_ k_ ∨ P1_ k_) ∨ w.heap.size ≤ k_) ∧ some k_ ≠ (.slice Ao15 t167.length co15:Value).ownBlock ∧ some k_ ≠ (.slice Ao17 t170.length co17:Value).ownBlock ∧ some k_ ≠ (v180:Value).ownBlock)) (okp:=(fun k_=>((P0_ k_ ∨ P1_ k_) ∨ w.heap.size ≤ k_) ∧ some k_ ≠ (.slice Ao15 t167.length co15:Value).ownBlock ∧ some k_ ≠ (.slice Ao17 t170.length co17:Value).ownBlock ∧ some k_ ≠ (v180:Value).ownBlock)) ?hr ?hp (fun _ hk=>hk) ((show ∀ k_,w16.heap.size ≤ k_ → (fun k_=>((P0_ k_ ∨ P1_ k_) ∨ w.heap.size ≤ k_) ∧ some k_ ≠ (.slice Ao15 t167.length co15:Value).ownBlock ∧ some k_ ≠ (.slice Ao17 t170.length co17:Value).ownBlock ∧ some k_ ≠ (v180:Value).ownBlock) k_ from fun k_ hk=>⟨(.inr (Nat.le_trans (kZ HB.out) hk)),Kd.fresh' (Kd.N_lt (rN HO169.out)) k_ hk,Kd.fresh' (Kd.N_lt (rN HO172.out)) k_ hk,Kd.fresh' (Kd.N_lt (rN HO181.out)) k_ hk⟩) _ (Nat.le_refl _)) (Below.refl _ _) (Nat.le_refl _) (by simp) ?_;(case hd=>rfl);(case hg=>rfl);(case hr=>first|(go_simp;done)|(go_simp;rfl));(case hp=>exact (Reps.none _ _));intro v183 w18 ho19 hb hg_ hnew_;clear hg_ hnew_;(first|rw [← Ny182.out] at ho19|(simp only [Int.reduceToNat] at ho19;rw [← Ny182.out] at ho19));replace HO0:=mk0 (Kd.V_elder' (rV HO0.out) (Kd.N_base ho19) hb);replace HO1:=mk0 (Kd.V_elder' (rV HO1.out) (Kd.N_base ho19) hb);replace HO169:=mk0 (Kd.N_elder' (rN HO169.out) (Kd.N_base ho19) hb);replace HO172:=mk0 (Kd.N_elder' (rN HO172.out) (Kd.N_base ho19) hb);replace HO181:=mk0 (Kd.N_elder' (rN HO181.out) (Kd.N_base ho19) hb);have HO184:=mk0 (Kd.N_lower ho19 (kZ HB.out));replace HB:=mk0 (kS HB.out hb);clear hb ho19))
 go_loopg [10,11] k (fun kq v10 v11 w'=>∃ (x10_1:List (List Int)) (x11_1:Int),v11 = .int .i64 x11_1 ∧ Aside0 (spec_Parts.l0 kq x10_1 x11_1 t167 t170 y179 = some r) ∧ Aside0 (kq ≤ k) ∧ Aside0 (Kd.N (Kd.slice 5 (Kd.int .u8)) 22 w' w.heap.size (fun k_=>((P0_ k_ ∨ P1_ k_) ∨ w.heap.size ≤ k_) ∧ some k_ ≠ (v180:Value).ownBlock) v10 x10_1) ∧ Aside0 (Kd.N (Kd.slice 5 (Kd.int .u8)) 22 w' w.heap.size (fun k_=>((P0_ k_ ∨ P1_ k_) ∨ w.heap.size ≤ k_) ∧ some k_ ≠ (v10:Value).ownBlock ∧ some k_ ≠ ((.slice Ao17 t170.length co17):Value).ownBlock ∧ some k_ ≠ (v180:Value).ownBlock) (.slice Ao15 t167.length co15) t167) ∧ Aside0 (Kd.N (Kd.slice 5 (Kd.int .u8)) 22 w' w.heap.size (fun k_=>((P0_ k_ ∨ P1_ k_) ∨ w.heap.size ≤ k_) ∧ some k_ ≠ (v10:Value).ownBlock ∧ some k_ ≠ ((.slice Ao15 t167.length co15):Value).ownBlock ∧ some k_ ≠ (v180:Value).ownBlock) (.slice Ao17 t170.length co17) t170) ∧ Aside0 (Kd.N (Kd.slice 5 (Kd.int .u8)) 22 w' w.heap.size (fun k_=>((P0_ k_ ∨ P1_ k_) ∨ w.heap.size ≤ k_) ∧ some k_ ≠ (v10:Value).ownBlock) v180 y179) ∧ Aside0 (Below w.heap.size w w'))
 case atStart=>exact⟨(y182),(0),(by first|rfl|(simp;done)|(simp [*];done)),H',⟨Nat.le_refl _⟩,⟨rN (Kd.N_mono HO184.out (fun _ hk=>⟨hk.1,hk.2.2.2⟩))⟩,⟨rN (Kd.N_mono HO169.out (fun _ hk=>⟨hk.1.1.1,⟨hk.2,⟨hk.1.1.2,hk.1.2⟩⟩⟩))⟩,⟨rN (Kd.N_mono HO172.out (fun _ hk=>⟨hk.1.1.1,⟨hk.2,⟨hk.1.1.2,hk.1.2⟩⟩⟩))⟩,⟨rN HO181.out⟩,⟨kB HB.out⟩⟩
 case round =>
  clear H'
  try clear c1
  try clear c2
  try clear p2
  try clear c3
  try clear c5
  try clear c8
  try clear c9
  obtain⟨x10_1,x11_1,rfl,HA,HK1,HO_10,HO_25,HO_28,HO_33,HB⟩:=hrel
  cases gk with
  | zero=>exact absurd HA.out (by simp [spec_Parts.l0])
  | succ k1 =>
   have H:=HA.out
   clear HA
   simp only [spec_Parts.l0] at H
   by_cases c20:x11_1 < (y179.length:Int)
   rotate_left
   ·rw [if_neg c20] at H
    have c20b0:decide (x11_1 < (y179.length:Int)) = false:=decide_eq_false c20
    (try simp only [hl185_0] at c20b0)
    (try simp only [hl186_0] at c20b0)
    (try simp only [hl188_0] at c20b0)
    (try simp only [hl189_0] at c20b0)
    (try simp only [hl191_0] at c20b0)
    (try simp only [hl223_0] at c20b0)
    (try simp only [hl228_0] at c20b0)
    (try simp only [hl231_0] at c20b0)
    clear c20
    obtain⟨y217,hy217⟩:∃ y_:List (S48),y_ = (([]:List (S48))):=⟨_,rfl⟩
    replace H:(spec_Parts.l2 k1 x10_1 y217 0 t167 t170) = some r:=by first|(rw [hy217];with_reducible exact H)|(have H2_:=(Option.bind_some _ _).symm.trans H;rw [hy217];with_reducible exact H2_)|(have H2_:=(Option.bind_some _ _).symm.trans H;with_reducible exact H2_)|with_reducible exact H|(rw [hy217];exact H)|exact H
    have Ny217:=mk0 hy217
    clear hy217
    have H':=mk0 H
    clear H
    obtain⟨Ao63,co63,eo63⟩:=Kd.N_slice HO_33.out
    subst eo63
    go_wp2_with (first|((with_reducible refine gate_dst (N:=90) rfl ?_);refine Kd.N_lit k48 _ 48 ?hg (N':=90) ?hd (xs:=([]:List (S48))) (inner:=[]) (ok:=(fun k_=>((P0_ k_ ∨ P1_ k_) ∨ w.heap.size ≤ k_) ∧ some k_ ≠ (u10:Value).ownBlock ∧ some k_ ≠ (.slice Ao15 t167.length co15:Value).ownBlock ∧ some k_ ≠ (.slice Ao17 t170.length co17:Value).ownBlock ∧ some k_ ≠ (.slice Ao63 y179.length co63:Value).ownBlock)) (okp:=(fun k_=>((P0_ k_ ∨ P1_ k_) ∨ w.heap.size ≤ k_) ∧ some k_ ≠ (u10:Value).ownBlock ∧ some k_ ≠ (.slice Ao15 t167.length co15:Value).ownBlock ∧ some k_ ≠ (.slice Ao17 t170.length co17:Value).ownBlock ∧ some k_ ≠ (.slice Ao63 y179.length co63:Value).ownBlock)) ?hr ?hp (fun _ hk=>hk) ((show ∀ k_,wr.heap.size ≤ k_ → (fun k_=>((P0_ k_ ∨ P1_ k_) ∨ w.heap.size ≤ k_) ∧ some k_ ≠ (u10:Value).ownBlock ∧ some k_ ≠ (.slice Ao15 t167.length co15:Value).ownBlock ∧ some k_ ≠ (.slice Ao17 t170.length co17:Value).ownBlock ∧ some k_ ≠ (.slice Ao63 y179.length co63:Value).ownBlock) k_ from fun k_ hk=>⟨(.inr (Nat.le_trans (kZ HB.out) hk)),Kd.fresh' (Kd.N_lt (rN HO_10.out)) k_ hk,Kd.fresh' (Kd.N_lt (rN HO_25.out)) k_ hk,Kd.fresh' (Kd.N_lt (rN HO_28.out)) k_ hk,Kd.fresh' (Kd.N_lt (rN HO_33.out)) k_ hk⟩) _ (Nat.le_refl _)) (Below.refl _ _) (Nat.le_refl _) (by simp) ?_;(case hd=>rfl);(case hg=>rfl);(case hr=>first|(go_simp;done)|(go_simp;rfl));(case hp=>exact (Reps.none _ _));intro v218 w64 ho65 hb hg_ hnew_;clear hg_ hnew_;(first|rw [← Ny217.out] at ho65|(simp only [Int.reduceToNat] at ho65;rw [← Ny217.out] at ho65));replace HO_10:=mk0 (Kd.N_elder' (rN HO_10.out) (Kd.N_base ho65) hb);replace HO_25:=mk0 (Kd.N_elder' (rN HO_25.out) (Kd.N_base ho65) hb);replace HO_28:=mk0 (Kd.N_elder' (rN HO_28.out) (Kd.N_base ho65) hb);replace HO_33:=mk0 (Kd.N_elder' (rN HO_33.out) (Kd.N_base ho65) hb);have HO219:=mk0 (Kd.N_lower ho65 (kZ HB.out));replace HB:=mk0 (kS HB.out hb);clear hb ho65))
    go_loopg [15,16] k1 (fun kq v15 v16 w'=>∃ (x15_2:List (S48)) (x16_2:Int),v16 = .int .i64 x16_2 ∧ Aside0 (spec_Parts.l2 kq x10_1 x15_2 x16_2 t167 t170 = some r) ∧ Aside0 (kq ≤ k1) ∧ Aside0 (Kd.N (Kd.slice 5 (Kd.int .u8)) 22 w' w.heap.size (fun k_=>((P0_ k_ ∨ P1_ k_) ∨ w.heap.size ≤ k_) ∧ some k_ ≠ (v15:Value).ownBlock) u10 x10_1) ∧ Aside0 (Kd.N k48 48 w' w.heap.size (fun k_=>((P0_ k_ ∨ P1_ k_) ∨ w.heap.size ≤ k_) ∧ some k_ ≠ (u10:Value).ownBlock ∧ some k_ ≠ ((.slice Ao15 t167.length co15):Value).ownBlock ∧ some k_ ≠ ((.slice Ao17 t170.length co17):Value).ownBlock) v15 x15_2) ∧ Aside0 (Kd.N (Kd.slice 5 (Kd.int .u8)) 22 w' w.heap.size (fun k_=>((P0_ k_ ∨ P1_ k_) ∨ w.heap.size ≤ k_) ∧ some k_ ≠ (u10:Value).ownBlock ∧ some k_ ≠ (v15:Value).ownBlock ∧ some k_ ≠ ((.slice Ao17 t170.length co17):Value).ownBlock) (.slice Ao15 t167.length co15) t167) ∧ Aside0 (Kd.N (Kd.slice 5 (Kd.int .u8)) 22 w' w.heap.size (fun k_=>((P0_ k_ ∨ P1_ k_) ∨ w.heap.size ≤ k_) ∧ some k_ ≠ (u10:Value).ownBlock ∧ some k_ ≠ (v15:Value).ownBlock ∧ some k_ ≠ ((.slice Ao15 t167.length co15):Value).ownBlock) (.slice Ao17 t170.length co17) t170) ∧ Aside0 (Below w.heap.size w w'))
    case atStart=>exact⟨(y217),(0),(by first|rfl|(simp;done)|(simp [*];done)),H',⟨Nat.le_refl _⟩,⟨rN (Kd.N_mono HO_10.out (fun _ hk=>⟨hk.1.1,hk.2⟩))⟩,⟨rN (Kd.N_mono HO219.out (fun _ hk=>⟨hk.1,⟨hk.2.1,⟨hk.2.2.1,hk.2.2.2.1⟩⟩⟩))⟩,⟨rN (Kd.N_mono HO_25.out (fun _ hk=>⟨hk.1.1,⟨hk.1.2.1,⟨hk.2,hk.1.2.2.1⟩⟩⟩))⟩,⟨rN (Kd.N_mono HO_28.out (fun _ hk=>⟨hk.1.1,⟨hk.1.2.1,⟨hk.2,hk.1.2.2.1⟩⟩⟩))⟩,⟨kB HB.out⟩⟩
    case round =>
     clear H'
     try clear c1
     try clear p1
     try clear q1
     try clear hx1
     try clear c2
     try clear p2
     try clear c4
     try clear c5
     try clear q5
     try clear p6
     try clear c18
     try clear p18
     try clear q18
     try clear hx18
     try clear c19
     try clear p19
     try clear q19
     try clear hx19
     try clear c20
     try clear c20b0
     try clear c23
     try clear c23b0
     try clear c24
     try clear c25
     try clear c26
     try clear c28
     try clear c28b0
     try clear c41
     try clear c42
     try clear c42b0
     try clear c43
     try clear c43b0
     try clear c44
     try clear c44b0
     try clear c44b1
     try clear c45
     try clear c45b0
     try clear c45b1
     try clear c46
     try clear c47
     try clear c47b0
     try clear c48
     try clear c48b0
     try clear c49
     try clear c50
     try clear c52
     try clear q52
     try clear c53
     try clear q59
     try clear p64
     try clear hx185_0
     try clear hx186_0
     try clear hx188_0
     try clear hx189_0
     try clear hx191_0
     try clear p1
     try clear p18
     try clear p185
     try clear p186
     try clear p188
     try clear p189
     try clear p191
     try clear p2
     try clear p6
     try clear q052
     try clear q1
     try clear q18
     try clear q185
     try clear q186
     try clear q188
     try clear q189
     try clear q191
     try clear q52
     try clear q59
     obtain⟨x15_2,x16_2,rfl,HA,HK2,HO_10,HO_15,HO_25,HO_28,HB⟩:=hrel
     cases gk with
     | zero=>exact absurd HA.out (by simp [spec_Parts.l2])
     | succ k2 =>
      have H:=HA.out
      clear HA
      simp only [spec_Parts.l2] at H
      by_cases c66:x16_2 < (x10_1.length:Int)
      rotate_left
      ·rw [if_neg c66] at H
       have c66b0:decide (x16_2 < (x10_1.length:Int)) = false:=decide_eq_false c66
       (try simp only [hl185_0] at c66b0)
       (try simp only [hl186_0] at c66b0)
       (try simp only [hl188_0] at c66b0)
       (try simp only [hl189_0] at c66b0)
       (try simp only [hl191_0] at c66b0)
       (try simp only [hl223_0] at c66b0)
       (try simp only [hl228_0] at c66b0)
       (try simp only [hl231_0] at c66b0)
       clear c66
       obtain rfl:=Option.some.inj H
       obtain⟨Ao90,co90,eo90⟩:=Kd.N_slice HO_10.out
       subst eo90
       go_wp2
       go_ret
       exact⟨_,by first|rfl|(simp [errW_none,errW_some] <;> rfl)|(simp [*,errW_none,errW_some] <;> rfl),rN (Kd.N_mono HO_15.out (fun _ hk=>hk.1)),kB HB.out⟩
      rw [if_pos c66] at H
      have c66b0:decide (x16_2 < (x10_1.length:Int)) = true:=decide_eq_true c66
      (try simp only [hl185_0] at c66b0)
      (try simp only [hl186_0] at c66b0)
      (try simp only [hl188_0] at c66b0)
      (try simp only [hl189_0] at c66b0)
      (try simp only [hl191_0] at c66b0)
      (try simp only [hl223_0] at c66b0)
      (try simp only [hl228_0] at c66b0)
      (try simp only [hl231_0] at c66b0)
      clear c66
      obtain⟨y220,hy220⟩:∃ y_:List Int,y_ = (([]:List Int)):=⟨_,rfl⟩
      replace H:(if 0 ≤ x16_2 then (if y220.length + (rd_L2 x10_1 x16_2).length < 140737488355328 then ((spec_l13Span.f k2 t167 (rd_L2 x10_1 x16_2)).bind fun bt229=>((spec_l13Span.f k2 t170 (rd_L2 x10_1 x16_2)).bind fun bt232=>(if x15_2.length < 2513169434916 then (spec_Parts.l2 k2 x10_1 (x15_2 ++ [(⟨(y220 ++ (rd_L2 x10_1 x16_2)),bt229.1,bt229.2,bt232.1,bt232.2⟩:S48)]) (wrap64 (x16_2 + 1)) t167 t170) else (none)))) else (none)) else (none)) = some r:=by first|(rw [hy220];with_reducible exact H)|(have H2_:=(Option.bind_some _ _).symm.trans H;rw [hy220];with_reducible exact H2_)|(have H2_:=(Option.bind_some _ _).symm.trans H;with_reducible exact H2_)|with_reducible exact H|(rw [hy220];exact H)|exact H
      have Ny220:=mk0 hy220
      clear hy220
      by_cases c67:0 ≤ x16_2
      rotate_left
      ·rw [if_neg c67] at H
       exact absurd H (by simp)
      rw [if_pos c67] at H
      have c67b0:decide (0 ≤ x16_2) = true:=decide_eq_true c67
      clear c67
      by_cases c68:y220.length + (rd_L2 x10_1 x16_2).length < 140737488355328
      rotate_left
      ·rw [if_neg c68] at H
       exact absurd H (by simp)
      rw [if_pos c68] at H
      have LMc68:=mk0 c68
      clear c68
      obtain⟨y224,hy224⟩:∃ y_:List Int,y_ = (y220 ++ (rd_L2 x10_1 x16_2)):=⟨_,rfl⟩
      replace H:((spec_l13Span.f k2 t167 (rd_L2 x10_1 x16_2)).bind fun bt229=>((spec_l13Span.f k2 t170 (rd_L2 x10_1 x16_2)).bind fun bt232=>(if x15_2.length < 2513169434916 then (spec_Parts.l2 k2 x10_1 (x15_2 ++ [(⟨y224,bt229.1,bt229.2,bt232.1,bt232.2⟩:S48)]) (wrap64 (x16_2 + 1)) t167 t170) else (none)))) = some r:=by first|(rw [hy224];with_reducible exact H)|(have H2_:=(Option.bind_some _ _).symm.trans H;rw [hy224];with_reducible exact H2_)|(have H2_:=(Option.bind_some _ _).symm.trans H;with_reducible exact H2_)|with_reducible exact H|(rw [hy224];exact H)|exact H
      have Ny224:=mk0 hy224
      clear hy224
      replace H:=Option.bind_eq_some_iff.mp H
      obtain⟨⟨t229,t230⟩,A690,H⟩:=H
      replace H:((spec_l13Span.f k2 t170 (rd_L2 x10_1 x16_2)).bind fun bt232=>(if x15_2.length < 2513169434916 then (spec_Parts.l2 k2 x10_1 (x15_2 ++ [(⟨y224,t229,t230,bt232.1,bt232.2⟩:S48)]) (wrap64 (x16_2 + 1)) t167 t170) else (none))) = some r:=H
      have A69:=mk0 A690
      clear A690
      replace H:=Option.bind_eq_some_iff.mp H
      obtain⟨⟨t232,t233⟩,A700,H⟩:=H
      replace H:(if x15_2.length < 2513169434916 then (spec_Parts.l2 k2 x10_1 (x15_2 ++ [(⟨y224,t229,t230,t232,t233⟩:S48)]) (wrap64 (x16_2 + 1)) t167 t170) else (none)) = some r:=H
      have A70:=mk0 A700
      clear A700
      by_cases c71:x15_2.length < 2513169434916
      rotate_left
      ·rw [if_neg c71] at H
       exact absurd H (by simp)
      rw [if_pos c71] at H
      have LMc71:=mk0 c71
      clear c71
      obtain⟨y234,hy234⟩:∃ y_:List (S48),y_ = (x15_2 ++ [(⟨y224,t229,t230,t232,t233⟩:S48)]):=⟨_,rfl⟩
      replace H:(spec_Parts.l2 k2 x10_1 y234 (wrap64 (x16_2 + 1)) t167 t170) = some r:=by first|(rw [hy234];with_reducible exact H)|(have H2_:=(Option.bind_some _ _).symm.trans H;rw [hy234];with_reducible exact H2_)|(have H2_:=(Option.bind_some _ _).symm.trans H;with_reducible exact H2_)|with_reducible exact H|(rw [hy234];exact H)|exact H
      have Ny234:=mk0 hy234
      clear hy234
      have H':=mk0 H
      clear H
      obtain⟨Ao72,co72,eo72⟩:=Kd.N_slice HO_10.out
      subst eo72
      go_wp2_with (first|((with_reducible refine gate_dst (N:=97) rfl ?_);refine Kd.R_lit (Kd.int .u8) _ 5 ?hg (N:=97) ?hd (xs:=([]:List Int)) (inner:=[]) (ok:=fun _=>True) (okp:=fun _=>True) ?hr ?hp (fun _ hk=>hk) trivial (Below.refl _ _) (Nat.le_refl _) (by simp) ?_;(case hd=>rfl);(case hg=>rfl);(case hr=>first|(go_simp;done)|(go_simp;rfl));(case hp=>exact (Reps.none _ _));intro v221 w73 ho74 hb hg_ hnew_;clear hg_ hnew_;(first|rw [← Ny220.out] at ho74|(simp only [Int.reduceToNat] at ho74;rw [← Ny220.out] at ho74));replace HO_10:=mk0 (Kd.N_elder' (rN HO_10.out) (Kd.R_base ho74) hb);replace HO_15:=mk0 (Kd.N_elder' (rN HO_15.out) (Kd.R_base ho74) hb);replace HO_25:=mk0 (Kd.N_elder' (rN HO_25.out) (Kd.R_base ho74) hb);replace HO_28:=mk0 (Kd.N_elder' (rN HO_28.out) (Kd.R_base ho74) hb);have HO222:=mk0 (Kd.R_lower (Kd.R_newM (M:=fun k_=>(w.heap.size ≤ k_)) ho74 (kZ HB.out) (fun k_ h_=>h_)) (kZ HB.out));replace HB:=mk0 (kS HB.out hb);clear hb ho74;have p223:0 ≤ (x16_2:Int):=of_decide_eq_true (by first|(with_reducible assumption)|assumption);have q223:x16_2 < (x10_1.length:Int):=of_decide_eq_true (by first|(with_reducible assumption)|assumption);obtain⟨ad223,A223_0,c223_0,e223,hx223_0,hl223_0,hi223_0⟩:=at_L2 (Kd.N_reads' HO_10.out).2.2 x16_2 p223 q223;cases e223;obtain⟨ce223,hce223,hMe223,hcc223⟩:=Kd.N_get HO_10.out [] x16_2 p223 (by first|exact q223|exact of_decide_eq_true (by first|(with_reducible assumption)|assumption)|(have e_:=(Kd.N_reads' HO_10.out).1;omega));obtain⟨ua223_0,uc223_0,rfl,ul223_0,ge223_0⟩:=Kd.FK_slice_open hMe223;have hv223_0:=hcc223 0 _ rfl;rw [Nat.add_zero,show ((Kd.slice 5 (Kd.int .u8))).sz = 1 from rfl,Nat.mul_one] at hv223_0;replace hv223_0:=Option.some.inj (hv223_0.symm.trans hx223_0);injection hv223_0 with hva_ hvn_ hvc_;rw [hva_] at ge223_0;rw [hvc_] at ul223_0;have HL223_0:=mk0 (show Kd.V (Kd.int .u8) 5 _ w.heap.size _ _ (rd_L2 x10_1 x16_2) from Kd.V_mk ul223_0 ge223_0);clear hva_ hvn_ hvc_ ge223_0 ul223_0 hcc223 hce223;have HR223_0:=mk0 hi223_0;have HC223_0:=mk0 hl223_0;clear hi223_0 hl223_0;replace p223:=eq_true p223;replace q223:=eq_true q223)|((with_reducible refine gate_builtin (b:=.append) (xs:=#[.tmp 97,.tmp 101]) rfl ?_);at_builtin;refine Kd.R_append_rows (Kd.int .u8) (w0:=w) w.heap.size rfl (.tmp 97) (.tmp 101) 22 5 (.int .u8 0) 1 rfl Try.underlying22 info5 rfl (by decide) (by omega) v221 y220 (rd_L2 x10_1 x16_2) _ _ _ (fun k_=>(w.heap.size ≤ k_)) (fun _=>False) rfl rfl ?aO ?aR (fun _ _ h=>h) (fun _ h=>h.elim) ?aF ?aB ?aS ?aL ?_;(case aR=>repeat (first|exact (by repeat (first|(with_reducible exact HR223_0.out)|(with_reducible first|apply aC|apply nC|apply dC)|exact HR223_0.out|exact (Kd.V_reads' HL223_0.out).2.2))|(with_reducible first|apply aC|apply nC|apply dC)));(case aB=>exact (kB HB.out));(case aF=>exact (fun k_ hk=>(Nat.le_trans (kZ HB.out) hk)));(case aO=>exact (rR (Kd.R_mono HO222.out (fun _ hk=>hk.1))));(case aS=>exact (kZ HB.out));(case aL=>have:=LMc68.out;omega);intro v225 w75 ho hb hg hat;rw [← Ny224.out] at ho;replace HO_10:=mk0 (Kd.N_afterv (ok:=(fun k_=>((P0_ k_ ∨ P1_ k_) ∨ w.heap.size ≤ k_) ∧ some k_ ≠ (u15:Value).ownBlock)) (rN HO_10.out) hg hat);replace HO_15:=mk0 (Kd.N_afterv (ok:=(fun k_=>((P0_ k_ ∨ P1_ k_) ∨ w.heap.size ≤ k_) ∧ some k_ ≠ (.slice (some ad223) x10_1.length co72:Value).ownBlock ∧ some k_ ≠ (.slice Ao15 t167.length co15:Value).ownBlock ∧ some k_ ≠ (.slice Ao17 t170.length co17:Value).ownBlock)) (rN HO_15.out) hg hat);replace HO_25:=mk0 (Kd.N_afterv (ok:=(fun k_=>((P0_ k_ ∨ P1_ k_) ∨ w.heap.size ≤ k_) ∧ some k_ ≠ (.slice (some ad223) x10_1.length co72:Value).ownBlock ∧ some k_ ≠ (u15:Value).ownBlock ∧ some k_ ≠ (.slice Ao17 t170.length co17:Value).ownBlock)) (rN HO_25.out) hg hat);replace HO_28:=mk0 (Kd.N_afterv (ok:=(fun k_=>((P0_ k_ ∨ P1_ k_) ∨ w.heap.size ≤ k_) ∧ some k_ ≠ (.slice (some ad223) x10_1.length co72:Value).ownBlock ∧ some k_ ≠ (u15:Value).ownBlock ∧ some k_ ≠ (.slice Ao15 t167.length co15:Value).ownBlock)) (rN HO_28.out) hg hat);replace HL223_0:=mk0 (Kd.V_afterv (ok:=(fun k_=>((P0_ k_ ∨ P1_ k_) ∨ w.heap.size ≤ k_) ∧ some k_ ≠ (.slice (some ad223) x10_1.length co72:Value).ownBlock ∧ some k_ ≠ (u15:Value).ownBlock)) (rV (Kd.V_mono HL223_0.out (fun _ hk=>⟨⟨hk.1.1.1,⟨hk.2,hk.1.1.2⟩⟩,hk.1.2⟩))) hg hat);replace HB:=mk0 (hb);have HO226:=mk0 (ho);clear HO222 ho hb hg hat;obtain⟨Ao76,co76,eo76⟩:=Kd.R_slice HO226.out;subst eo76)|((with_reducible refine gate_dst (N:=17) rfl ?_);refine box_event ?hg (N:=17) ?hd (cs:=#[.slice none 0 0,.int .i64 0,.int .i64 0,.int .i64 0,.int .i64 0]) (t:=48) ?hr ?_;(case hd=>rfl);(case hg=>rfl);(case hr=>first|(go_simp;done)|(go_simp;rfl));intro gb227 hg w77 hbox hb;replace HO_10:=mk0 (Kd.N_below (Kd.N_elderB (rN HO_10.out) gb227 (Nat.le_of_eq hg.symm)) hb);replace HO_15:=mk0 (Kd.N_below (Kd.N_elderB (rN HO_15.out) gb227 (Nat.le_of_eq hg.symm)) hb);replace HO_25:=mk0 (Kd.N_below (Kd.N_elderB (rN HO_25.out) gb227 (Nat.le_of_eq hg.symm)) hb);replace HO_28:=mk0 (Kd.N_below (Kd.N_elderB (rN HO_28.out) gb227 (Nat.le_of_eq hg.symm)) hb);replace HL223_0:=mk0 (Kd.V_below (Kd.V_elderB (rV HL223_0.out) gb227 (Nat.le_of_eq hg.symm)) hb);replace HO226:=mk0 (bR HO226.out hb);have BK227:=mk0 (hbox);have GW227:=mk0 ((by rw [hg];exact (kZ HB.out):w.heap.size ≤ gb227));have GE227:=mk0 ((by rw [hg];exact (kZ HB.out):w.heap.size ≤ gb227));replace HB:=mk0 (kS HB.out hb);clear hb hbox hg;obtain⟨hcz78_0,hcz78_1,hcz78_2,hcz78_3,hcz78_4,hfz78_0,hfz78_1,hfz78_2,hfz78_3,hfz78_4⟩:=cz5 BK227.out)|((with_reducible refine gate_store (t:=48) (p:=17) rfl ?_);refine store_event (t:=48) (p:=17) (v:=?vo_w79) (w1:=(((((w77.setCell ⟨gb227,0,none⟩ (.slice Ao76 y224.length co76)).setCell ⟨gb227,1,none⟩ (.int .i64 0)).setCell ⟨gb227,2,none⟩ (.int .i64 0)).setCell ⟨gb227,3,none⟩ (.int .i64 0)).setCell ⟨gb227,4,none⟩ (.int .i64 0))) ?hg ?ho ?hn ?hr ?_;(case ho=>rfl);(case hg=>rfl);(case hn=>rfl);(case hr=>first|(go_simp;done)|(go_simp;rfl));intro w79 hw;have n0_:Aside0 (Kd.N (Kd.slice 5 (Kd.int .u8)) 22 w79 w.heap.size (fun k_=>((P0_ k_ ∨ P1_ k_) ∨ w.heap.size ≤ k_) ∧ some k_ ≠ (u15:Value).ownBlock ∧ some k_ ≠ (.slice Ao76 y224.length co76:Value).ownBlock ∧ k_ ≠ gb227) (.slice (some ad223) x10_1.length co72) x10_1):=⟨(by rw [hw];exact (by (with_reducible repeat (first|apply aN|apply nN|apply dN));exact Kd.N_mono (Kd.N_far (p:=⟨gb227,4,none⟩) (Kd.N_far (p:=⟨gb227,3,none⟩) (Kd.N_far (p:=⟨gb227,2,none⟩) (Kd.N_far (p:=⟨gb227,1,none⟩) (Kd.N_far (p:=⟨gb227,0,none⟩) (Kd.N_mono HO_10.out (fun k_ hk=>(⟨hk,hk.2⟩:_ ∧ k_ ≠ gb227))) (fun _ hk=>hk.2) (.slice Ao76 y224.length co76)) (fun _ hk=>hk.2) (.int .i64 0)) (fun _ hk=>hk.2) (.int .i64 0)) (fun _ hk=>hk.2) (.int .i64 0)) (fun _ hk=>hk.2) (.int .i64 0)) (fun _ hk=>⟨hk.1.1.1.1,⟨hk.1.1.1.2,⟨hk.1.1.2,hk.1.2⟩⟩⟩)))⟩;have n1_:Aside0 (Kd.N k48 48 w79 w.heap.size (fun k_=>((P0_ k_ ∨ P1_ k_) ∨ w.heap.size ≤ k_) ∧ some k_ ≠ (.slice (some ad223) x10_1.length co72:Value).ownBlock ∧ some k_ ≠ (.slice Ao15 t167.length co15:Value).ownBlock ∧ some k_ ≠ (.slice Ao17 t170.length co17:Value).ownBlock ∧ some k_ ≠ (.slice Ao76 y224.length co76:Value).ownBlock ∧ k_ ≠ gb227) u15 x15_2):=⟨(by rw [hw];exact (by (with_reducible repeat (first|apply aN|apply nN|apply dN));exact Kd.N_mono (Kd.N_far (p:=⟨gb227,4,none⟩) (Kd.N_far (p:=⟨gb227,3,none⟩) (Kd.N_far (p:=⟨gb227,2,none⟩) (Kd.N_far (p:=⟨gb227,1,none⟩) (Kd.N_far (p:=⟨gb227,0,none⟩) (Kd.N_mono HO_15.out (fun k_ hk=>(⟨hk,hk.2⟩:_ ∧ k_ ≠ gb227))) (fun _ hk=>hk.2) (.slice Ao76 y224.length co76)) (fun _ hk=>hk.2) (.int .i64 0)) (fun _ hk=>hk.2) (.int .i64 0)) (fun _ hk=>hk.2) (.int .i64 0)) (fun _ hk=>hk.2) (.int .i64 0)) (fun _ hk=>⟨hk.1.1.1.1,⟨hk.1.1.1.2.1,⟨hk.1.1.1.2.2.1,⟨hk.1.1.1.2.2.2,⟨hk.1.1.2,hk.1.2⟩⟩⟩⟩⟩)))⟩;have n2_:Aside0 (Kd.N (Kd.slice 5 (Kd.int .u8)) 22 w79 w.heap.size (fun k_=>((P0_ k_ ∨ P1_ k_) ∨ w.heap.size ≤ k_) ∧ some k_ ≠ (.slice (some ad223) x10_1.length co72:Value).ownBlock ∧ some k_ ≠ (u15:Value).ownBlock ∧ some k_ ≠ (.slice Ao17 t170.length co17:Value).ownBlock ∧ some k_ ≠ (.slice Ao76 y224.length co76:Value).ownBlock ∧ k_ ≠ gb227) (.slice Ao15 t167.length co15) t167):=⟨(by rw [hw];exact (by (with_reducible repeat (first|apply aN|apply nN|apply dN));exact Kd.N_mono (Kd.N_far (p:=⟨gb227,4,none⟩) (Kd.N_far (p:=⟨gb227,3,none⟩) (Kd.N_far (p:=⟨gb227,2,none⟩) (Kd.N_far (p:=⟨gb227,1,none⟩) (Kd.N_far (p:=⟨gb227,0,none⟩) (Kd.N_mono HO_25.out (fun k_ hk=>(⟨hk,hk.2⟩:_ ∧ k_ ≠ gb227))) (fun _ hk=>hk.2) (.slice Ao76 y224.length co76)) (fun _ hk=>hk.2) (.int .i64 0)) (fun _ hk=>hk.2) (.int .i64 0)) (fun _ hk=>hk.2) (.int .i64 0)) (fun _ hk=>hk.2) (.int .i64 0)) (fun _ hk=>⟨hk.1.1.1.1,⟨hk.1.1.1.2.1,⟨hk.1.1.1.2.2.1,⟨hk.1.1.1.2.2.2,⟨hk.1.1.2,hk.1.2⟩⟩⟩⟩⟩)))⟩;have n3_:Aside0 (Kd.N (Kd.slice 5 (Kd.int .u8)) 22 w79 w.heap.size (fun k_=>((P0_ k_ ∨ P1_ k_) ∨ w.heap.size ≤ k_) ∧ some k_ ≠ (.slice (some ad223) x10_1.length co72:Value).ownBlock ∧ some k_ ≠ (u15:Value).ownBlock ∧ some k_ ≠ (.slice Ao15 t167.length co15:Value).ownBlock ∧ some k_ ≠ (.slice Ao76 y224.length co76:Value).ownBlock ∧ k_ ≠ gb227) (.slice Ao17 t170.length co17) t170):=⟨(by rw [hw];exact (by (with_reducible repeat (first|apply aN|apply nN|apply dN));exact Kd.N_mono (Kd.N_far (p:=⟨gb227,4,none⟩) (Kd.N_far (p:=⟨gb227,3,none⟩) (Kd.N_far (p:=⟨gb227,2,none⟩) (Kd.N_far (p:=⟨gb227,1,none⟩) (Kd.N_far (p:=⟨gb227,0,none⟩) (Kd.N_mono HO_28.out (fun k_ hk=>(⟨hk,hk.2⟩:_ ∧ k_ ≠ gb227))) (fun _ hk=>hk.2) (.slice Ao76 y224.length co76)) (fun _ hk=>hk.2) (.int .i64 0)) (fun _ hk=>hk.2) (.int .i64 0)) (fun _ hk=>hk.2) (.int .i64 0)) (fun _ hk=>hk.2) (.int .i64 0)) (fun _ hk=>⟨hk.1.1.1.1,⟨hk.1.1.1.2.1,⟨hk.1.1.1.2.2.1,⟨hk.1.1.1.2.2.2,⟨hk.1.1.2,hk.1.2⟩⟩⟩⟩⟩)))⟩;have n4_:Aside0 (Kd.V (Kd.int .u8) 5 w79 w.heap.size (fun k_=>((P0_ k_ ∨ P1_ k_) ∨ w.heap.size ≤ k_) ∧ some k_ ≠ (.slice (some ad223) x10_1.length co72:Value).ownBlock ∧ some k_ ≠ (u15:Value).ownBlock ∧ some k_ ≠ (.slice Ao76 y224.length co76:Value).ownBlock ∧ k_ ≠ gb227) (.slice A223_0 (rd_L2 x10_1 x16_2).length c223_0) (rd_L2 x10_1 x16_2)):=⟨(by rw [hw];exact (by (with_reducible repeat (first|apply aV|apply nV|apply dV));exact Kd.V_mono (Kd.V_far (p:=⟨gb227,4,none⟩) (Kd.V_far (p:=⟨gb227,3,none⟩) (Kd.V_far (p:=⟨gb227,2,none⟩) (Kd.V_far (p:=⟨gb227,1,none⟩) (Kd.V_far (p:=⟨gb227,0,none⟩) (Kd.V_mono HL223_0.out (fun k_ hk=>(⟨hk,hk.2⟩:_ ∧ k_ ≠ gb227))) (fun _ hk=>hk.2) (.slice Ao76 y224.length co76)) (fun _ hk=>hk.2) (.int .i64 0)) (fun _ hk=>hk.2) (.int .i64 0)) (fun _ hk=>hk.2) (.int .i64 0)) (fun _ hk=>hk.2) (.int .i64 0)) (fun _ hk=>⟨hk.1.1.1.1,⟨hk.1.1.1.2.1,⟨hk.1.1.1.2.2,⟨hk.1.1.2,hk.1.2⟩⟩⟩⟩)))⟩;have n5_:Aside0 (Kd.R (Kd.int .u8) 5 w79 w.heap.size (fun k_=>(w.heap.size ≤ k_)) (.slice Ao76 y224.length co76) y224):=⟨(by rw [hw];exact (by (with_reducible repeat (first|apply aR|apply nR|apply dR));exact Kd.R_mono (Kd.R_far (p:=⟨gb227,4,none⟩) (Kd.R_far (p:=⟨gb227,3,none⟩) (Kd.R_far (p:=⟨gb227,2,none⟩) (Kd.R_far (p:=⟨gb227,1,none⟩) (Kd.R_far (p:=⟨gb227,0,none⟩) (Kd.R_types HO226.out BK227.out (by decide)) (fun _ hk=>hk.2) (.slice Ao76 y224.length co76)) (fun _ hk=>hk.2) (.int .i64 0)) (fun _ hk=>hk.2) (.int .i64 0)) (fun _ hk=>hk.2) (.int .i64 0)) (fun _ hk=>hk.2) (.int .i64 0)) (fun _ hk=>hk.1)))⟩;have n6_:Aside0 (w79.heap[gb227]? = some (.cells #[.slice Ao76 y224.length co76,.int .i64 0,.int .i64 0,.int .i64 0,.int .i64 0] 48 (0,0))):=⟨(by rw [hw];exact (by (with_reducible repeat (first|apply nB|apply dB|apply aB));refine blk_put (cs:=#[.slice Ao76 y224.length co76,.int .i64 0,.int .i64 0,.int .i64 0,.int .i64 0]) ?_ 4 _ rfl;(with_reducible repeat (first|apply nB|apply dB|apply aB));refine blk_put (cs:=#[.slice Ao76 y224.length co76,.int .i64 0,.int .i64 0,.int .i64 0,.int .i64 0]) ?_ 3 _ rfl;(with_reducible repeat (first|apply nB|apply dB|apply aB));refine blk_put (cs:=#[.slice Ao76 y224.length co76,.int .i64 0,.int .i64 0,.int .i64 0,.int .i64 0]) ?_ 2 _ rfl;(with_reducible repeat (first|apply nB|apply dB|apply aB));refine blk_put (cs:=#[.slice Ao76 y224.length co76,.int .i64 0,.int .i64 0,.int .i64 0,.int .i64 0]) ?_ 1 _ rfl;(with_reducible repeat (first|apply nB|apply dB|apply aB));refine blk_put (cs:=#[.slice none 0 0,.int .i64 0,.int .i64 0,.int .i64 0,.int .i64 0]) ?_ 0 _ rfl;(with_reducible repeat (first|apply nB|apply dB|apply aB));exact BK227.out))⟩;have n7_:Aside0 (Below w.heap.size w w79):=⟨(by rw [hw];exact (kB HB.out))⟩;clear hw HO_10 HO_15 HO_25 HO_28 HL223_0 HO226 BK227 HB;have HO_10:=n0_;have HO_15:=n1_;have HO_25:=n2_;have HO_28:=n3_;have HL223_0:=n4_;have HO226:=n5_;have BK227:=n6_;have HB:=n7_;clear n0_ n1_ n2_ n3_ n4_ n5_ n6_ n7_;have p228:0 ≤ (x16_2:Int):=of_decide_eq_true (by first|(with_reducible assumption)|assumption);have q228:x16_2 < (x10_1.length:Int):=of_decide_eq_true (by first|(with_reducible assumption)|assumption);obtain⟨ad228,A228_0,c228_0,e228,hx228_0,hl228_0,hi228_0⟩:=at_L2 (Kd.N_reads' HO_10.out).2.2 x16_2 p228 q228;obtain rfl:ad223 = ad228:=(by injection e228);obtain⟨ce228,hce228,hMe228,hcc228⟩:=Kd.N_get HO_10.out [] x16_2 p228 (by first|exact q228|exact of_decide_eq_true (by first|(with_reducible assumption)|assumption)|(have e_:=(Kd.N_reads' HO_10.out).1;omega));obtain⟨ua228_0,uc228_0,rfl,ul228_0,ge228_0⟩:=Kd.FK_slice_open hMe228;have hv228_0:=hcc228 0 _ rfl;rw [Nat.add_zero,show ((Kd.slice 5 (Kd.int .u8))).sz = 1 from rfl,Nat.mul_one] at hv228_0;replace hv228_0:=Option.some.inj (hv228_0.symm.trans hx228_0);injection hv228_0 with hva_ hvn_ hvc_;rw [hva_] at ge228_0;rw [hvc_] at ul228_0;have HL228_0:=mk0 (show Kd.V (Kd.int .u8) 5 _ w.heap.size _ _ (rd_L2 x10_1 x16_2) from Kd.V_mk ul228_0 ge228_0);clear hva_ hvn_ hvc_ ge228_0 ul228_0 hcc228 hce228;have HR228_0:=mk0 hi228_0;have HC228_0:=mk0 hl228_0;clear hi228_0 hl228_0;replace p228:=eq_true p228;replace q228:=eq_true q228)|((with_reducible refine gate_callee (f:=54) rfl ?_);refine gL (some 110) Try.func54 #[.slice Ao15 t167.length co15,.slice A228_0 (rd_L2 x10_1 x16_2).length c228_0] ?_;(with_reducible refine (spec_l13Span.calls k2 _ _ t167 _ _ (rd_L2 x10_1 x16_2) t229 t230 _ ?side1 ?side2 ?side3 ?side4 A69.out).mono ?_);(case side1=>exact kC (Kd.N_reads' HO_25.out).2.2);(case side2=>exact (Kd.N_reads' HO_25.out).2.1);(case side3=>repeat (first|exact (by repeat (first|(with_reducible exact HR228_0.out)|(with_reducible first|apply aC|apply nC|apply dC)|exact HR228_0.out|exact (Kd.V_reads' HL228_0.out).2.2))|(with_reducible first|apply aC|apply nC|apply dC)));(case side4=>exact HC228_0.out);rintro e w' ⟨rfl,⟨nd,rfl⟩⟩;refine⟨_,rfl,?_⟩;(try (rw [drewN_self w79];generalize hq_:World.drewN w79 _ = w79;have n0_:Aside0 (Kd.V (Kd.int .u8) 5 w79 w.heap.size (fun k_=>((((P0_ k_ ∨ P1_ k_) ∨ w.heap.size ≤ k_)) ∧ (some k_ ≠ (.slice (some ad223) x10_1.length co72:Value).ownBlock ∧ (some k_ ≠ (u15:Value).ownBlock ∧ (some k_ ≠ (.slice Ao76 y224.length co76:Value).ownBlock ∧ k_ ≠ gb227))))) (.slice A223_0 (rd_L2 x10_1 x16_2).length c223_0) (rd_L2 x10_1 x16_2)):=⟨by rw [← hq_];exact (rV HL223_0.out)⟩;have n1_:Aside0 (Kd.V (Kd.int .u8) 5 w79 w.heap.size (fun k_=>(((((P0_ k_ ∨ P1_ k_) ∨ w.heap.size ≤ k_)) ∧ (some k_ ≠ (u15:Value).ownBlock ∧ (some k_ ≠ (.slice Ao76 y224.length co76:Value).ownBlock ∧ k_ ≠ gb227))) ∧ some k_ ≠ (.slice (some ad223) x10_1.length co72:Value).ownBlock)) (.slice A228_0 (rd_L2 x10_1 x16_2).length c228_0) (rd_L2 x10_1 x16_2)):=⟨by rw [← hq_];exact (rV HL228_0.out)⟩;have n2_:Aside0 (Kd.R (Kd.int .u8) 5 w79 w.heap.size (fun k_=>((w.heap.size ≤ k_))) (.slice Ao76 y224.length co76) y224):=⟨by rw [← hq_];exact (rR HO226.out)⟩;have n3_:Aside0 (Kd.N (Kd.slice 5 (Kd.int .u8)) 22 w79 w.heap.size (fun k_=>((((P0_ k_ ∨ P1_ k_) ∨ w.heap.size ≤ k_)) ∧ (some k_ ≠ (u15:Value).ownBlock ∧ (some k_ ≠ (.slice Ao76 y224.length co76:Value).ownBlock ∧ k_ ≠ gb227)))) (.slice (some ad223) x10_1.length co72) x10_1):=⟨by rw [← hq_];exact (rN HO_10.out)⟩;have n4_:Aside0 (Kd.N k48 48 w79 w.heap.size (fun k_=>((((P0_ k_ ∨ P1_ k_) ∨ w.heap.size ≤ k_)) ∧ (some k_ ≠ (.slice (some ad223) x10_1.length co72:Value).ownBlock ∧ (some k_ ≠ (.slice Ao15 t167.length co15:Value).ownBlock ∧ (some k_ ≠ (.slice Ao17 t170.length co17:Value).ownBlock ∧ (some k_ ≠ (.slice Ao76 y224.length co76:Value).ownBlock ∧ k_ ≠ gb227)))))) u15 x15_2):=⟨by rw [← hq_];exact (rN HO_15.out)⟩;have n5_:Aside0 (Kd.N (Kd.slice 5 (Kd.int .u8)) 22 w79 w.heap.size (fun k_=>((((P0_ k_ ∨ P1_ k_) ∨ w.heap.size ≤ k_)) ∧ (some k_ ≠ (.slice (some ad223) x10_1.length co72:Value).ownBlock ∧ (some k_ ≠ (u15:Value).ownBlock ∧ (some k_ ≠ (.slice Ao17 t170.length co17:Value).ownBlock ∧ (some k_ ≠ (.slice Ao76 y224.length co76:Value).ownBlock ∧ k_ ≠ gb227)))))) (.slice Ao15 t167.length co15) t167):=⟨by rw [← hq_];exact (rN HO_25.out)⟩;have n6_:Aside0 (Kd.N (Kd.slice 5 (Kd.int .u8)) 22 w79 w.heap.size (fun k_=>((((P0_ k_ ∨ P1_ k_) ∨ w.heap.size ≤ k_)) ∧ (some k_ ≠ (.slice (some ad223) x10_1.length co72:Value).ownBlock ∧ (some k_ ≠ (u15:Value).ownBlock ∧ (some k_ ≠ (.slice Ao15 t167.length co15:Value).ownBlock ∧ (some k_ ≠ (.slice Ao76 y224.length co76:Value).ownBlock ∧ k_ ≠ gb227)))))) (.slice Ao17 t170.length co17) t170):=⟨by rw [← hq_];exact (rN HO_28.out)⟩;have n7_:Aside0 (w79.heap[gb227]? = some (.cells #[.slice Ao76 y224.length co76,.int .i64 0,.int .i64 0,.int .i64 0,.int .i64 0] 48 (0,0))):=⟨by rw [← hq_];exact (kN BK227.out)⟩;have n8_:Aside0 (Below w.heap.size w w79):=⟨by rw [← hq_];exact (kB HB.out)⟩;have n9_:Aside0 (Kd.C (Kd.int .u8) w79 A228_0 (rd_L2 x10_1 x16_2).length (rd_L2 x10_1 x16_2)):=⟨by rw [← hq_];exact (by repeat (first|(with_reducible exact HR228_0.out)|(with_reducible first|apply aC|apply nC|apply dC)|exact HR228_0.out|exact (Kd.V_reads' HL228_0.out).2.2))⟩;clear HL223_0 HL228_0 HO226 HO_10 HO_15 HO_25 HO_28 BK227 HB HR228_0 hq_;have HL223_0:=n0_;have HL228_0:=n1_;have HO226:=n2_;have HO_10:=n3_;have HO_15:=n4_;have HO_25:=n5_;have HO_28:=n6_;have BK227:=n7_;have HB:=n8_;have HR228_0:=n9_;clear n0_ n1_ n2_ n3_ n4_ n5_ n6_ n7_ n8_ n9_));obtain⟨hcz80_0,hcz80_1,hcz80_2,hcz80_3,hcz80_4,hfz80_0,hfz80_1,hfz80_2,hfz80_3,hfz80_4⟩:=cz5 BK227.out)|((with_reducible refine gate_store (t:=3) (p:=113) rfl ?_);refine store_event (t:=3) (p:=113) (v:=?vo_w81) (w1:=(w79.setCell ⟨gb227,1,none⟩ (.int .i64 t229))) ?hg ?ho ?hn ?hr ?_;(case ho=>rfl);(case hg=>rfl);(case hn=>rfl);(case hr=>first|(go_simp;done)|(go_simp;rfl));intro w81 hw;have n0_:Aside0 (Kd.N (Kd.slice 5 (Kd.int .u8)) 22 w81 w.heap.size (fun k_=>((P0_ k_ ∨ P1_ k_) ∨ w.heap.size ≤ k_) ∧ some k_ ≠ (u15:Value).ownBlock ∧ some k_ ≠ (.slice Ao76 y224.length co76:Value).ownBlock ∧ k_ ≠ gb227) (.slice (some ad223) x10_1.length co72) x10_1):=⟨(by rw [hw];exact (by (with_reducible repeat (first|apply aN|apply nN|apply dN));exact Kd.N_mono (Kd.N_far (p:=⟨gb227,1,none⟩) (Kd.N_mono HO_10.out (fun k_ hk=>(⟨hk,hk.2.2.2⟩:_ ∧ k_ ≠ gb227))) (fun _ hk=>hk.2) (.int .i64 t229)) (fun _ hk=>⟨hk.1.1,⟨hk.1.2.1,⟨hk.1.2.2.1,hk.1.2.2.2⟩⟩⟩)))⟩;have n1_:Aside0 (Kd.N k48 48 w81 w.heap.size (fun k_=>((P0_ k_ ∨ P1_ k_) ∨ w.heap.size ≤ k_) ∧ some k_ ≠ (.slice (some ad223) x10_1.length co72:Value).ownBlock ∧ some k_ ≠ (.slice Ao15 t167.length co15:Value).ownBlock ∧ some k_ ≠ (.slice Ao17 t170.length co17:Value).ownBlock ∧ some k_ ≠ (.slice Ao76 y224.length co76:Value).ownBlock ∧ k_ ≠ gb227) u15 x15_2):=⟨(by rw [hw];exact (by (with_reducible repeat (first|apply aN|apply nN|apply dN));exact Kd.N_mono (Kd.N_far (p:=⟨gb227,1,none⟩) (Kd.N_mono HO_15.out (fun k_ hk=>(⟨hk,hk.2.2.2.2.2⟩:_ ∧ k_ ≠ gb227))) (fun _ hk=>hk.2) (.int .i64 t229)) (fun _ hk=>⟨hk.1.1,⟨hk.1.2.1,⟨hk.1.2.2.1,⟨hk.1.2.2.2.1,⟨hk.1.2.2.2.2.1,hk.1.2.2.2.2.2⟩⟩⟩⟩⟩)))⟩;have n2_:Aside0 (Kd.N (Kd.slice 5 (Kd.int .u8)) 22 w81 w.heap.size (fun k_=>((P0_ k_ ∨ P1_ k_) ∨ w.heap.size ≤ k_) ∧ some k_ ≠ (.slice (some ad223) x10_1.length co72:Value).ownBlock ∧ some k_ ≠ (u15:Value).ownBlock ∧ some k_ ≠ (.slice Ao17 t170.length co17:Value).ownBlock ∧ some k_ ≠ (.slice Ao76 y224.length co76:Value).ownBlock ∧ k_ ≠ gb227) (.slice Ao15 t167.length co15) t167):=⟨(by rw [hw];exact (by (with_reducible repeat (first|apply aN|apply nN|apply dN));exact Kd.N_mono (Kd.N_far (p:=⟨gb227,1,none⟩) (Kd.N_mono HO_25.out (fun k_ hk=>(⟨hk,hk.2.2.2.2.2⟩:_ ∧ k_ ≠ gb227))) (fun _ hk=>hk.2) (.int .i64 t229)) (fun _ hk=>⟨hk.1.1,⟨hk.1.2.1,⟨hk.1.2.2.1,⟨hk.1.2.2.2.1,⟨hk.1.2.2.2.2.1,hk.1.2.2.2.2.2⟩⟩⟩⟩⟩)))⟩;have n3_:Aside0 (Kd.N (Kd.slice 5 (Kd.int .u8)) 22 w81 w.heap.size (fun k_=>((P0_ k_ ∨ P1_ k_) ∨ w.heap.size ≤ k_) ∧ some k_ ≠ (.slice (some ad223) x10_1.length co72:Value).ownBlock ∧ some k_ ≠ (u15:Value).ownBlock ∧ some k_ ≠ (.slice Ao15 t167.length co15:Value).ownBlock ∧ some k_ ≠ (.slice Ao76 y224.length co76:Value).ownBlock ∧ k_ ≠ gb227) (.slice Ao17 t170.length co17) t170):=⟨(by rw [hw];exact (by (with_reducible repeat (first|apply aN|apply nN|apply dN));exact Kd.N_mono (Kd.N_far (p:=⟨gb227,1,none⟩) (Kd.N_mono HO_28.out (fun k_ hk=>(⟨hk,hk.2.2.2.2.2⟩:_ ∧ k_ ≠ gb227))) (fun _ hk=>hk.2) (.int .i64 t229)) (fun _ hk=>⟨hk.1.1,⟨hk.1.2.1,⟨hk.1.2.2.1,⟨hk.1.2.2.2.1,⟨hk.1.2.2.2.2.1,hk.1.2.2.2.2.2⟩⟩⟩⟩⟩)))⟩;have n4_:Aside0 (Kd.V (Kd.int .u8) 5 w81 w.heap.size (fun k_=>((P0_ k_ ∨ P1_ k_) ∨ w.heap.size ≤ k_) ∧ some k_ ≠ (.slice (some ad223) x10_1.length co72:Value).ownBlock ∧ some k_ ≠ (u15:Value).ownBlock ∧ some k_ ≠ (.slice Ao76 y224.length co76:Value).ownBlock ∧ k_ ≠ gb227) (.slice A223_0 (rd_L2 x10_1 x16_2).length c223_0) (rd_L2 x10_1 x16_2)):=⟨(by rw [hw];exact (by (with_reducible repeat (first|apply aV|apply nV|apply dV));exact Kd.V_mono (Kd.V_far (p:=⟨gb227,1,none⟩) (Kd.V_mono HL223_0.out (fun k_ hk=>(⟨hk,hk.2.2.2.2⟩:_ ∧ k_ ≠ gb227))) (fun _ hk=>hk.2) (.int .i64 t229)) (fun _ hk=>⟨hk.1.1,⟨hk.1.2.1,⟨hk.1.2.2.1,⟨hk.1.2.2.2.1,hk.1.2.2.2.2⟩⟩⟩⟩)))⟩;have n5_:Aside0 (Kd.R (Kd.int .u8) 5 w81 w.heap.size (fun k_=>(w.heap.size ≤ k_)) (.slice Ao76 y224.length co76) y224):=⟨(by rw [hw];exact (by (with_reducible repeat (first|apply aR|apply nR|apply dR));exact Kd.R_mono (Kd.R_far (p:=⟨gb227,1,none⟩) (Kd.R_types HO226.out BK227.out (by decide)) (fun _ hk=>hk.2) (.int .i64 t229)) (fun _ hk=>hk.1)))⟩;have n6_:Aside0 (Kd.V (Kd.int .u8) 5 w81 w.heap.size (fun k_=>((P0_ k_ ∨ P1_ k_) ∨ w.heap.size ≤ k_) ∧ some k_ ≠ (.slice (some ad223) x10_1.length co72:Value).ownBlock ∧ some k_ ≠ (u15:Value).ownBlock ∧ some k_ ≠ (.slice Ao76 y224.length co76:Value).ownBlock ∧ k_ ≠ gb227) (.slice A228_0 (rd_L2 x10_1 x16_2).length c228_0) (rd_L2 x10_1 x16_2)):=⟨(by rw [hw];exact (by (with_reducible repeat (first|apply aV|apply nV|apply dV));exact Kd.V_mono (Kd.V_far (p:=⟨gb227,1,none⟩) (Kd.V_mono HL228_0.out (fun k_ hk=>(⟨hk,hk.1.2.2.2⟩:_ ∧ k_ ≠ gb227))) (fun _ hk=>hk.2) (.int .i64 t229)) (fun _ hk=>⟨hk.1.1.1,⟨hk.1.2,⟨hk.1.1.2.1,⟨hk.1.1.2.2.1,hk.1.1.2.2.2⟩⟩⟩⟩)))⟩;have n7_:Aside0 (w81.heap[gb227]? = some (.cells #[.slice Ao76 y224.length co76,.int .i64 t229,.int .i64 0,.int .i64 0,.int .i64 0] 48 (0,0))):=⟨(by rw [hw];exact (by (with_reducible repeat (first|apply nB|apply dB|apply aB));refine blk_put (cs:=#[.slice Ao76 y224.length co76,.int .i64 0,.int .i64 0,.int .i64 0,.int .i64 0]) ?_ 1 _ rfl;(with_reducible repeat (first|apply nB|apply dB|apply aB));exact BK227.out))⟩;have n8_:Aside0 (Below w.heap.size w w81):=⟨(by rw [hw];exact (kB HB.out))⟩;clear hw HO_10 HO_15 HO_25 HO_28 HL223_0 HO226 HL228_0 BK227 HB;have HO_10:=n0_;have HO_15:=n1_;have HO_25:=n2_;have HO_28:=n3_;have HL223_0:=n4_;have HO226:=n5_;have HL228_0:=n6_;have BK227:=n7_;have HB:=n8_;clear n0_ n1_ n2_ n3_ n4_ n5_ n6_ n7_ n8_;obtain⟨hcz82_0,hcz82_1,hcz82_2,hcz82_3,hcz82_4,hfz82_0,hfz82_1,hfz82_2,hfz82_3,hfz82_4⟩:=cz5 BK227.out)|((with_reducible refine gate_store (t:=3) (p:=114) rfl ?_);refine store_event (t:=3) (p:=114) (v:=?vo_w83) (w1:=(w81.setCell ⟨gb227,2,none⟩ (.int .i64 t230))) ?hg ?ho ?hn ?hr ?_;(case ho=>rfl);(case hg=>rfl);(case hn=>rfl);(case hr=>first|(go_simp;done)|(go_simp;rfl));intro w83 hw;have n0_:Aside0 (Kd.N (Kd.slice 5 (Kd.int .u8)) 22 w83 w.heap.size (fun k_=>((P0_ k_ ∨ P1_ k_) ∨ w.heap.size ≤ k_) ∧ some k_ ≠ (u15:Value).ownBlock ∧ some k_ ≠ (.slice Ao76 y224.length co76:Value).ownBlock ∧ k_ ≠ gb227) (.slice (some ad223) x10_1.length co72) x10_1):=⟨(by rw [hw];exact (by (with_reducible repeat (first|apply aN|apply nN|apply dN));exact Kd.N_mono (Kd.N_far (p:=⟨gb227,2,none⟩) (Kd.N_mono HO_10.out (fun k_ hk=>(⟨hk,hk.2.2.2⟩:_ ∧ k_ ≠ gb227))) (fun _ hk=>hk.2) (.int .i64 t230)) (fun _ hk=>⟨hk.1.1,⟨hk.1.2.1,⟨hk.1.2.2.1,hk.1.2.2.2⟩⟩⟩)))⟩;have n1_:Aside0 (Kd.N k48 48 w83 w.heap.size (fun k_=>((P0_ k_ ∨ P1_ k_) ∨ w.heap.size ≤ k_) ∧ some k_ ≠ (.slice (some ad223) x10_1.length co72:Value).ownBlock ∧ some k_ ≠ (.slice Ao15 t167.length co15:Value).ownBlock ∧ some k_ ≠ (.slice Ao17 t170.length co17:Value).ownBlock ∧ some k_ ≠ (.slice Ao76 y224.length co76:Value).ownBlock ∧ k_ ≠ gb227) u15 x15_2):=⟨(by rw [hw];exact (by (with_reducible repeat (first|apply aN|apply nN|apply dN));exact Kd.N_mono (Kd.N_far (p:=⟨gb227,2,none⟩) (Kd.N_mono HO_15.out (fun k_ hk=>(⟨hk,hk.2.2.2.2.2⟩:_ ∧ k_ ≠ gb227))) (fun _ hk=>hk.2) (.int .i64 t230)) (fun _ hk=>⟨hk.1.1,⟨hk.1.2.1,⟨hk.1.2.2.1,⟨hk.1.2.2.2.1,⟨hk.1.2.2.2.2.1,hk.1.2.2.2.2.2⟩⟩⟩⟩⟩)))⟩;have n2_:Aside0 (Kd.N (Kd.slice 5 (Kd.int .u8)) 22 w83 w.heap.size (fun k_=>((P0_ k_ ∨ P1_ k_) ∨ w.heap.size ≤ k_) ∧ some k_ ≠ (.slice (some ad223) x10_1.length co72:Value).ownBlock ∧ some k_ ≠ (u15:Value).ownBlock ∧ some k_ ≠ (.slice Ao17 t170.length co17:Value).ownBlock ∧ some k_ ≠ (.slice Ao76 y224.length co76:Value).ownBlock ∧ k_ ≠ gb227) (.slice Ao15 t167.length co15) t167):=⟨(by rw [hw];exact (by (with_reducible repeat (first|apply aN|apply nN|apply dN));exact Kd.N_mono (Kd.N_far (p:=⟨gb227,2,none⟩) (Kd.N_mono HO_25.out (fun k_ hk=>(⟨hk,hk.2.2.2.2.2⟩:_ ∧ k_ ≠ gb227))) (fun _ hk=>hk.2) (.int .i64 t230)) (fun _ hk=>⟨hk.1.1,⟨hk.1.2.1,⟨hk.1.2.2.1,⟨hk.1.2.2.2.1,⟨hk.1.2.2.2.2.1,hk.1.2.2.2.2.2⟩⟩⟩⟩⟩)))⟩;have n3_:Aside0 (Kd.N (Kd.slice 5 (Kd.int .u8)) 22 w83 w.heap.size (fun k_=>((P0_ k_ ∨ P1_ k_) ∨ w.heap.size ≤ k_) ∧ some k_ ≠ (.slice (some ad223) x10_1.length co72:Value).ownBlock ∧ some k_ ≠ (u15:Value).ownBlock ∧ some k_ ≠ (.slice Ao15 t167.length co15:Value).ownBlock ∧ some k_ ≠ (.slice Ao76 y224.length co76:Value).ownBlock ∧ k_ ≠ gb227) (.slice Ao17 t170.length co17) t170):=⟨(by rw [hw];exact (by (with_reducible repeat (first|apply aN|apply nN|apply dN));exact Kd.N_mono (Kd.N_far (p:=⟨gb227,2,none⟩) (Kd.N_mono HO_28.out (fun k_ hk=>(⟨hk,hk.2.2.2.2.2⟩:_ ∧ k_ ≠ gb227))) (fun _ hk=>hk.2) (.int .i64 t230)) (fun _ hk=>⟨hk.1.1,⟨hk.1.2.1,⟨hk.1.2.2.1,⟨hk.1.2.2.2.1,⟨hk.1.2.2.2.2.1,hk.1.2.2.2.2.2⟩⟩⟩⟩⟩)))⟩;have n4_:Aside0 (Kd.V (Kd.int .u8) 5 w83 w.heap.size (fun k_=>((P0_ k_ ∨ P1_ k_) ∨ w.heap.size ≤ k_) ∧ some k_ ≠ (.slice (some ad223) x10_1.length co72:Value).ownBlock ∧ some k_ ≠ (u15:Value).ownBlock ∧ some k_ ≠ (.slice Ao76 y224.length co76:Value).ownBlock ∧ k_ ≠ gb227) (.slice A223_0 (rd_L2 x10_1 x16_2).length c223_0) (rd_L2 x10_1 x16_2)):=⟨(by rw [hw];exact (by (with_reducible repeat (first|apply aV|apply nV|apply dV));exact Kd.V_mono (Kd.V_far (p:=⟨gb227,2,none⟩) (Kd.V_mono HL223_0.out (fun k_ hk=>(⟨hk,hk.2.2.2.2⟩:_ ∧ k_ ≠ gb227))) (fun _ hk=>hk.2) (.int .i64 t230)) (fun _ hk=>⟨hk.1.1,⟨hk.1.2.1,⟨hk.1.2.2.1,⟨hk.1.2.2.2.1,hk.1.2.2.2.2⟩⟩⟩⟩)))⟩;have n5_:Aside0 (Kd.R (Kd.int .u8) 5 w83 w.heap.size (fun k_=>(w.heap.size ≤ k_)) (.slice Ao76 y224.length co76) y224):=⟨(by rw [hw];exact (by (with_reducible repeat (first|apply aR|apply nR|apply dR));exact Kd.R_mono (Kd.R_far (p:=⟨gb227,2,none⟩) (Kd.R_types HO226.out BK227.out (by decide)) (fun _ hk=>hk.2) (.int .i64 t230)) (fun _ hk=>hk.1)))⟩;have n6_:Aside0 (Kd.V (Kd.int .u8) 5 w83 w.heap.size (fun k_=>((P0_ k_ ∨ P1_ k_) ∨ w.heap.size ≤ k_) ∧ some k_ ≠ (.slice (some ad223) x10_1.length co72:Value).ownBlock ∧ some k_ ≠ (u15:Value).ownBlock ∧ some k_ ≠ (.slice Ao76 y224.length co76:Value).ownBlock ∧ k_ ≠ gb227) (.slice A228_0 (rd_L2 x10_1 x16_2).length c228_0) (rd_L2 x10_1 x16_2)):=⟨(by rw [hw];exact (by (with_reducible repeat (first|apply aV|apply nV|apply dV));exact Kd.V_mono (Kd.V_far (p:=⟨gb227,2,none⟩) (Kd.V_mono HL228_0.out (fun k_ hk=>(⟨hk,hk.2.2.2.2⟩:_ ∧ k_ ≠ gb227))) (fun _ hk=>hk.2) (.int .i64 t230)) (fun _ hk=>⟨hk.1.1,⟨hk.1.2.1,⟨hk.1.2.2.1,⟨hk.1.2.2.2.1,hk.1.2.2.2.2⟩⟩⟩⟩)))⟩;have n7_:Aside0 (w83.heap[gb227]? = some (.cells #[.slice Ao76 y224.length co76,.int .i64 t229,.int .i64 t230,.int .i64 0,.int .i64 0] 48 (0,0))):=⟨(by rw [hw];exact (by (with_reducible repeat (first|apply nB|apply dB|apply aB));refine blk_put (cs:=#[.slice Ao76 y224.length co76,.int .i64 t229,.int .i64 0,.int .i64 0,.int .i64 0]) ?_ 2 _ rfl;(with_reducible repeat (first|apply nB|apply dB|apply aB));exact BK227.out))⟩;have n8_:Aside0 (Below w.heap.size w w83):=⟨(by rw [hw];exact (kB HB.out))⟩;clear hw HO_10 HO_15 HO_25 HO_28 HL223_0 HO226 HL228_0 BK227 HB;have HO_10:=n0_;have HO_15:=n1_;have HO_25:=n2_;have HO_28:=n3_;have HL223_0:=n4_;have HO226:=n5_;have HL228_0:=n6_;have BK227:=n7_;have HB:=n8_;clear n0_ n1_ n2_ n3_ n4_ n5_ n6_ n7_ n8_;have p231:0 ≤ (x16_2:Int):=of_decide_eq_true (by first|(with_reducible assumption)|assumption);have q231:x16_2 < (x10_1.length:Int):=of_decide_eq_true (by first|(with_reducible assumption)|assumption);obtain⟨ad231,A231_0,c231_0,e231,hx231_0,hl231_0,hi231_0⟩:=at_L2 (Kd.N_reads' HO_10.out).2.2 x16_2 p231 q231;obtain rfl:ad223 = ad231:=(by injection e231);obtain⟨ce231,hce231,hMe231,hcc231⟩:=Kd.N_get HO_10.out [] x16_2 p231 (by first|exact q231|exact of_decide_eq_true (by first|(with_reducible assumption)|assumption)|(have e_:=(Kd.N_reads' HO_10.out).1;omega));obtain⟨ua231_0,uc231_0,rfl,ul231_0,ge231_0⟩:=Kd.FK_slice_open hMe231;have hv231_0:=hcc231 0 _ rfl;rw [Nat.add_zero,show ((Kd.slice 5 (Kd.int .u8))).sz = 1 from rfl,Nat.mul_one] at hv231_0;replace hv231_0:=Option.some.inj (hv231_0.symm.trans hx231_0);injection hv231_0 with hva_ hvn_ hvc_;rw [hva_] at ge231_0;rw [hvc_] at ul231_0;have HL231_0:=mk0 (show Kd.V (Kd.int .u8) 5 _ w.heap.size _ _ (rd_L2 x10_1 x16_2) from Kd.V_mk ul231_0 ge231_0);clear hva_ hvn_ hvc_ ge231_0 ul231_0 hcc231 hce231;have HR231_0:=mk0 hi231_0;have HC231_0:=mk0 hl231_0;clear hi231_0 hl231_0;replace p231:=eq_true p231;replace q231:=eq_true q231)|((with_reducible refine gate_callee (f:=54) rfl ?_);refine gL (some 121) Try.func54 #[.slice Ao17 t170.length co17,.slice A231_0 (rd_L2 x10_1 x16_2).length c231_0] ?_;(with_reducible refine (spec_l13Span.calls k2 _ _ t170 _ _ (rd_L2 x10_1 x16_2) t232 t233 _ ?side1 ?side2 ?side3 ?side4 A70.out).mono ?_);(case side1=>exact kC (Kd.N_reads' HO_28.out).2.2);(case side2=>exact (Kd.N_reads' HO_28.out).2.1);(case side3=>repeat (first|exact (by repeat (first|(with_reducible exact HR231_0.out)|(with_reducible first|apply aC|apply nC|apply dC)|exact HR231_0.out|exact (Kd.V_reads' HL231_0.out).2.2))|(with_reducible first|apply aC|apply nC|apply dC)));(case side4=>exact HC231_0.out);rintro e w' ⟨rfl,⟨nd,rfl⟩⟩;refine⟨_,rfl,?_⟩;(try (rw [drewN_self w83];generalize hq_:World.drewN w83 _ = w83;have n0_:Aside0 (Kd.V (Kd.int .u8) 5 w83 w.heap.size (fun k_=>((((P0_ k_ ∨ P1_ k_) ∨ w.heap.size ≤ k_)) ∧ (some k_ ≠ (.slice (some ad223) x10_1.length co72:Value).ownBlock ∧ (some k_ ≠ (u15:Value).ownBlock ∧ (some k_ ≠ (.slice Ao76 y224.length co76:Value).ownBlock ∧ k_ ≠ gb227))))) (.slice A223_0 (rd_L2 x10_1 x16_2).length c223_0) (rd_L2 x10_1 x16_2)):=⟨by rw [← hq_];exact (rV HL223_0.out)⟩;have n1_:Aside0 (Kd.V (Kd.int .u8) 5 w83 w.heap.size (fun k_=>((((P0_ k_ ∨ P1_ k_) ∨ w.heap.size ≤ k_)) ∧ (some k_ ≠ (.slice (some ad223) x10_1.length co72:Value).ownBlock ∧ (some k_ ≠ (u15:Value).ownBlock ∧ (some k_ ≠ (.slice Ao76 y224.length co76:Value).ownBlock ∧ k_ ≠ gb227))))) (.slice A228_0 (rd_L2 x10_1 x16_2).length c228_0) (rd_L2 x10_1 x16_2)):=⟨by rw [← hq_];exact (rV HL228_0.out)⟩;have n2_:Aside0 (Kd.V (Kd.int .u8) 5 w83 w.heap.size (fun k_=>(((((P0_ k_ ∨ P1_ k_) ∨ w.heap.size ≤ k_)) ∧ (some k_ ≠ (u15:Value).ownBlock ∧ (some k_ ≠ (.slice Ao76 y224.length co76:Value).ownBlock ∧ k_ ≠ gb227))) ∧ some k_ ≠ (.slice (some ad223) x10_1.length co72:Value).ownBlock)) (.slice A231_0 (rd_L2 x10_1 x16_2).length c231_0) (rd_L2 x10_1 x16_2)):=⟨by rw [← hq_];exact (rV HL231_0.out)⟩;have n3_:Aside0 (Kd.R (Kd.int .u8) 5 w83 w.heap.size (fun k_=>((w.heap.size ≤ k_))) (.slice Ao76 y224.length co76) y224):=⟨by rw [← hq_];exact (rR HO226.out)⟩;have n4_:Aside0 (Kd.N (Kd.slice 5 (Kd.int .u8)) 22 w83 w.heap.size (fun k_=>((((P0_ k_ ∨ P1_ k_) ∨ w.heap.size ≤ k_)) ∧ (some k_ ≠ (u15:Value).ownBlock ∧ (some k_ ≠ (.slice Ao76 y224.length co76:Value).ownBlock ∧ k_ ≠ gb227)))) (.slice (some ad223) x10_1.length co72) x10_1):=⟨by rw [← hq_];exact (rN HO_10.out)⟩;have n5_:Aside0 (Kd.N k48 48 w83 w.heap.size (fun k_=>((((P0_ k_ ∨ P1_ k_) ∨ w.heap.size ≤ k_)) ∧ (some k_ ≠ (.slice (some ad223) x10_1.length co72:Value).ownBlock ∧ (some k_ ≠ (.slice Ao15 t167.length co15:Value).ownBlock ∧ (some k_ ≠ (.slice Ao17 t170.length co17:Value).ownBlock ∧ (some k_ ≠ (.slice Ao76 y224.length co76:Value).ownBlock ∧ k_ ≠ gb227)))))) u15 x15_2):=⟨by rw [← hq_];exact (rN HO_15.out)⟩;have n6_:Aside0 (Kd.N (Kd.slice 5 (Kd.int .u8)) 22 w83 w.heap.size (fun k_=>((((P0_ k_ ∨ P1_ k_) ∨ w.heap.size ≤ k_)) ∧ (some k_ ≠ (.slice (some ad223) x10_1.length co72:Value).ownBlock ∧ (some k_ ≠ (u15:Value).ownBlock ∧ (some k_ ≠ (.slice Ao17 t170.length co17:Value).ownBlock ∧ (some k_ ≠ (.slice Ao76 y224.length co76:Value).ownBlock ∧ k_ ≠ gb227)))))) (.slice Ao15 t167.length co15) t167):=⟨by rw [← hq_];exact (rN HO_25.out)⟩;have n7_:Aside0 (Kd.N (Kd.slice 5 (Kd.int .u8)) 22 w83 w.heap.size (fun k_=>((((P0_ k_ ∨ P1_ k_) ∨ w.heap.size ≤ k_)) ∧ (some k_ ≠ (.slice (some ad223) x10_1.length co72:Value).ownBlock ∧ (some k_ ≠ (u15:Value).ownBlock ∧ (some k_ ≠ (.slice Ao15 t167.length co15:Value).ownBlock ∧ (some k_ ≠ (.slice Ao76 y224.length co76:Value).ownBlock ∧ k_ ≠ gb227)))))) (.slice Ao17 t170.length co17) t170):=⟨by rw [← hq_];exact (rN HO_28.out)⟩;have n8_:Aside0 (w83.heap[gb227]? = some (.cells #[.slice Ao76 y224.length co76,.int .i64 t229,.int .i64 t230,.int .i64 0,.int .i64 0] 48 (0,0))):=⟨by rw [← hq_];exact (kN BK227.out)⟩;have n9_:Aside0 (Below w.heap.size w w83):=⟨by rw [← hq_];exact (kB HB.out)⟩;have n10_:Aside0 (Kd.C (Kd.int .u8) w83 A228_0 (rd_L2 x10_1 x16_2).length (rd_L2 x10_1 x16_2)):=⟨by rw [← hq_];exact (by repeat (first|(with_reducible exact HR228_0.out)|(with_reducible first|apply aC|apply nC|apply dC)|exact HR228_0.out|exact (Kd.V_reads' HL228_0.out).2.2))⟩;have n11_:Aside0 (Kd.C (Kd.int .u8) w83 A231_0 (rd_L2 x10_1 x16_2).length (rd_L2 x10_1 x16_2)):=⟨by rw [← hq_];exact (by repeat (first|(with_reducible exact HR231_0.out)|(with_reducible first|apply aC|apply nC|apply dC)|exact HR231_0.out|exact (Kd.V_reads' HL231_0.out).2.2))⟩;clear HL223_0 HL228_0 HL231_0 HO226 HO_10 HO_15 HO_25 HO_28 BK227 HB HR228_0 HR231_0 hq_;have HL223_0:=n0_;have HL228_0:=n1_;have HL231_0:=n2_;have HO226:=n3_;have HO_10:=n4_;have HO_15:=n5_;have HO_25:=n6_;have HO_28:=n7_;have BK227:=n8_;have HB:=n9_;have HR228_0:=n10_;have HR231_0:=n11_;clear n0_ n1_ n2_ n3_ n4_ n5_ n6_ n7_ n8_ n9_ n10_ n11_));obtain⟨hcz84_0,hcz84_1,hcz84_2,hcz84_3,hcz84_4,hfz84_0,hfz84_1,hfz84_2,hfz84_3,hfz84_4⟩:=cz5 BK227.out)|((with_reducible refine gate_store (t:=3) (p:=124) rfl ?_);refine store_event (t:=3) (p:=124) (v:=?vo_w85) (w1:=(w83.setCell ⟨gb227,3,none⟩ (.int .i64 t232))) ?hg ?ho ?hn ?hr ?_;(case ho=>rfl);(case hg=>rfl);(case hn=>rfl);(case hr=>first|(go_simp;done)|(go_simp;rfl));intro w85 hw;have n0_:Aside0 (Kd.N (Kd.slice 5 (Kd.int .u8)) 22 w85 w.heap.size (fun k_=>((P0_ k_ ∨ P1_ k_) ∨ w.heap.size ≤ k_) ∧ some k_ ≠ (u15:Value).ownBlock ∧ some k_ ≠ (.slice Ao76 y224.length co76:Value).ownBlock ∧ k_ ≠ gb227) (.slice (some ad223) x10_1.length co72) x10_1):=⟨(by rw [hw];exact (by (with_reducible repeat (first|apply aN|apply nN|apply dN));exact Kd.N_mono (Kd.N_far (p:=⟨gb227,3,none⟩) (Kd.N_mono HO_10.out (fun k_ hk=>(⟨hk,hk.2.2.2⟩:_ ∧ k_ ≠ gb227))) (fun _ hk=>hk.2) (.int .i64 t232)) (fun _ hk=>⟨hk.1.1,⟨hk.1.2.1,⟨hk.1.2.2.1,hk.1.2.2.2⟩⟩⟩)))⟩;have n1_:Aside0 (Kd.N k48 48 w85 w.heap.size (fun k_=>((P0_ k_ ∨ P1_ k_) ∨ w.heap.size ≤ k_) ∧ some k_ ≠ (.slice (some ad223) x10_1.length co72:Value).ownBlock ∧ some k_ ≠ (.slice Ao15 t167.length co15:Value).ownBlock ∧ some k_ ≠ (.slice Ao17 t170.length co17:Value).ownBlock ∧ some k_ ≠ (.slice Ao76 y224.length co76:Value).ownBlock ∧ k_ ≠ gb227) u15 x15_2):=⟨(by rw [hw];exact (by (with_reducible repeat (first|apply aN|apply nN|apply dN));exact Kd.N_mono (Kd.N_far (p:=⟨gb227,3,none⟩) (Kd.N_mono HO_15.out (fun k_ hk=>(⟨hk,hk.2.2.2.2.2⟩:_ ∧ k_ ≠ gb227))) (fun _ hk=>hk.2) (.int .i64 t232)) (fun _ hk=>⟨hk.1.1,⟨hk.1.2.1,⟨hk.1.2.2.1,⟨hk.1.2.2.2.1,⟨hk.1.2.2.2.2.1,hk.1.2.2.2.2.2⟩⟩⟩⟩⟩)))⟩;have n2_:Aside0 (Kd.N (Kd.slice 5 (Kd.int .u8)) 22 w85 w.heap.size (fun k_=>((P0_ k_ ∨ P1_ k_) ∨ w.heap.size ≤ k_) ∧ some k_ ≠ (.slice (some ad223) x10_1.length co72:Value).ownBlock ∧ some k_ ≠ (u15:Value).ownBlock ∧ some k_ ≠ (.slice Ao17 t170.length co17:Value).ownBlock ∧ some k_ ≠ (.slice Ao76 y224.length co76:Value).ownBlock ∧ k_ ≠ gb227) (.slice Ao15 t167.length co15) t167):=⟨(by rw [hw];exact (by (with_reducible repeat (first|apply aN|apply nN|apply dN));exact Kd.N_mono (Kd.N_far (p:=⟨gb227,3,none⟩) (Kd.N_mono HO_25.out (fun k_ hk=>(⟨hk,hk.2.2.2.2.2⟩:_ ∧ k_ ≠ gb227))) (fun _ hk=>hk.2) (.int .i64 t232)) (fun _ hk=>⟨hk.1.1,⟨hk.1.2.1,⟨hk.1.2.2.1,⟨hk.1.2.2.2.1,⟨hk.1.2.2.2.2.1,hk.1.2.2.2.2.2⟩⟩⟩⟩⟩)))⟩;have n3_:Aside0 (Kd.N (Kd.slice 5 (Kd.int .u8)) 22 w85 w.heap.size (fun k_=>((P0_ k_ ∨ P1_ k_) ∨ w.heap.size ≤ k_) ∧ some k_ ≠ (.slice (some ad223) x10_1.length co72:Value).ownBlock ∧ some k_ ≠ (u15:Value).ownBlock ∧ some k_ ≠ (.slice Ao15 t167.length co15:Value).ownBlock ∧ some k_ ≠ (.slice Ao76 y224.length co76:Value).ownBlock ∧ k_ ≠ gb227) (.slice Ao17 t170.length co17) t170):=⟨(by rw [hw];exact (by (with_reducible repeat (first|apply aN|apply nN|apply dN));exact Kd.N_mono (Kd.N_far (p:=⟨gb227,3,none⟩) (Kd.N_mono HO_28.out (fun k_ hk=>(⟨hk,hk.2.2.2.2.2⟩:_ ∧ k_ ≠ gb227))) (fun _ hk=>hk.2) (.int .i64 t232)) (fun _ hk=>⟨hk.1.1,⟨hk.1.2.1,⟨hk.1.2.2.1,⟨hk.1.2.2.2.1,⟨hk.1.2.2.2.2.1,hk.1.2.2.2.2.2⟩⟩⟩⟩⟩)))⟩;have n4_:Aside0 (Kd.V (Kd.int .u8) 5 w85 w.heap.size (fun k_=>((P0_ k_ ∨ P1_ k_) ∨ w.heap.size ≤ k_) ∧ some k_ ≠ (.slice (some ad223) x10_1.length co72:Value).ownBlock ∧ some k_ ≠ (u15:Value).ownBlock ∧ some k_ ≠ (.slice Ao76 y224.length co76:Value).ownBlock ∧ k_ ≠ gb227) (.slice A223_0 (rd_L2 x10_1 x16_2).length c223_0) (rd_L2 x10_1 x16_2)):=⟨(by rw [hw];exact (by (with_reducible repeat (first|apply aV|apply nV|apply dV));exact Kd.V_mono (Kd.V_far (p:=⟨gb227,3,none⟩) (Kd.V_mono HL223_0.out (fun k_ hk=>(⟨hk,hk.2.2.2.2⟩:_ ∧ k_ ≠ gb227))) (fun _ hk=>hk.2) (.int .i64 t232)) (fun _ hk=>⟨hk.1.1,⟨hk.1.2.1,⟨hk.1.2.2.1,⟨hk.1.2.2.2.1,hk.1.2.2.2.2⟩⟩⟩⟩)))⟩;have n5_:Aside0 (Kd.R (Kd.int .u8) 5 w85 w.heap.size (fun k_=>(w.heap.size ≤ k_)) (.slice Ao76 y224.length co76) y224):=⟨(by rw [hw];exact (by (with_reducible repeat (first|apply aR|apply nR|apply dR));exact Kd.R_mono (Kd.R_far (p:=⟨gb227,3,none⟩) (Kd.R_types HO226.out BK227.out (by decide)) (fun _ hk=>hk.2) (.int .i64 t232)) (fun _ hk=>hk.1)))⟩;have n6_:Aside0 (Kd.V (Kd.int .u8) 5 w85 w.heap.size (fun k_=>((P0_ k_ ∨ P1_ k_) ∨ w.heap.size ≤ k_) ∧ some k_ ≠ (.slice (some ad223) x10_1.length co72:Value).ownBlock ∧ some k_ ≠ (u15:Value).ownBlock ∧ some k_ ≠ (.slice Ao76 y224.length co76:Value).ownBlock ∧ k_ ≠ gb227) (.slice A228_0 (rd_L2 x10_1 x16_2).length c228_0) (rd_L2 x10_1 x16_2)):=⟨(by rw [hw];exact (by (with_reducible repeat (first|apply aV|apply nV|apply dV));exact Kd.V_mono (Kd.V_far (p:=⟨gb227,3,none⟩) (Kd.V_mono HL228_0.out (fun k_ hk=>(⟨hk,hk.2.2.2.2⟩:_ ∧ k_ ≠ gb227))) (fun _ hk=>hk.2) (.int .i64 t232)) (fun _ hk=>⟨hk.1.1,⟨hk.1.2.1,⟨hk.1.2.2.1,⟨hk.1.2.2.2.1,hk.1.2.2.2.2⟩⟩⟩⟩)))⟩;have n7_:Aside0 (Kd.V (Kd.int .u8) 5 w85 w.heap.size (fun k_=>((P0_ k_ ∨ P1_ k_) ∨ w.heap.size ≤ k_) ∧ some k_ ≠ (.slice (some ad223) x10_1.length co72:Value).ownBlock ∧ some k_ ≠ (u15:Value).ownBlock ∧ some k_ ≠ (.slice Ao76 y224.length co76:Value).ownBlock ∧ k_ ≠ gb227) (.slice A231_0 (rd_L2 x10_1 x16_2).length c231_0) (rd_L2 x10_1 x16_2)):=⟨(by rw [hw];exact (by (with_reducible repeat (first|apply aV|apply nV|apply dV));exact Kd.V_mono (Kd.V_far (p:=⟨gb227,3,none⟩) (Kd.V_mono HL231_0.out (fun k_ hk=>(⟨hk,hk.1.2.2.2⟩:_ ∧ k_ ≠ gb227))) (fun _ hk=>hk.2) (.int .i64 t232)) (fun _ hk=>⟨hk.1.1.1,⟨hk.1.2,⟨hk.1.1.2.1,⟨hk.1.1.2.2.1,hk.1.1.2.2.2⟩⟩⟩⟩)))⟩;have n8_:Aside0 (w85.heap[gb227]? = some (.cells #[.slice Ao76 y224.length co76,.int .i64 t229,.int .i64 t230,.int .i64 t232,.int .i64 0] 48 (0,0))):=⟨(by rw [hw];exact (by (with_reducible repeat (first|apply nB|apply dB|apply aB));refine blk_put (cs:=#[.slice Ao76 y224.length co76,.int .i64 t229,.int .i64 t230,.int .i64 0,.int .i64 0]) ?_ 3 _ rfl;(with_reducible repeat (first|apply nB|apply dB|apply aB));exact BK227.out))⟩;have n9_:Aside0 (Below w.heap.size w w85):=⟨(by rw [hw];exact (kB HB.out))⟩;clear hw HO_10 HO_15 HO_25 HO_28 HL223_0 HO226 HL228_0 HL231_0 BK227 HB;have HO_10:=n0_;have HO_15:=n1_;have HO_25:=n2_;have HO_28:=n3_;have HL223_0:=n4_;have HO226:=n5_;have HL228_0:=n6_;have HL231_0:=n7_;have BK227:=n8_;have HB:=n9_;clear n0_ n1_ n2_ n3_ n4_ n5_ n6_ n7_ n8_ n9_;obtain⟨hcz86_0,hcz86_1,hcz86_2,hcz86_3,hcz86_4,hfz86_0,hfz86_1,hfz86_2,hfz86_3,hfz86_4⟩:=cz5 BK227.out)|((with_reducible refine gate_store (t:=3) (p:=125) rfl ?_);refine store_event (t:=3) (p:=125) (v:=?vo_w87) (w1:=(w85.setCell ⟨gb227,4,none⟩ (.int .i64 t233))) ?hg ?ho ?hn ?hr ?_;(case ho=>rfl);(case hg=>rfl);(case hn=>rfl);(case hr=>first|(go_simp;done)|(go_simp;rfl));intro w87 hw;have n0_:Aside0 (Kd.N (Kd.slice 5 (Kd.int .u8)) 22 w87 w.heap.size (fun k_=>((P0_ k_ ∨ P1_ k_) ∨ w.heap.size ≤ k_) ∧ some k_ ≠ (u15:Value).ownBlock ∧ some k_ ≠ (.slice Ao76 y224.length co76:Value).ownBlock ∧ k_ ≠ gb227) (.slice (some ad223) x10_1.length co72) x10_1):=⟨(by rw [hw];exact (by (with_reducible repeat (first|apply aN|apply nN|apply dN));exact Kd.N_mono (Kd.N_far (p:=⟨gb227,4,none⟩) (Kd.N_mono HO_10.out (fun k_ hk=>(⟨hk,hk.2.2.2⟩:_ ∧ k_ ≠ gb227))) (fun _ hk=>hk.2) (.int .i64 t233)) (fun _ hk=>⟨hk.1.1,⟨hk.1.2.1,⟨hk.1.2.2.1,hk.1.2.2.2⟩⟩⟩)))⟩;have n1_:Aside0 (Kd.N k48 48 w87 w.heap.size (fun k_=>((P0_ k_ ∨ P1_ k_) ∨ w.heap.size ≤ k_) ∧ some k_ ≠ (.slice (some ad223) x10_1.length co72:Value).ownBlock ∧ some k_ ≠ (.slice Ao15 t167.length co15:Value).ownBlock ∧ some k_ ≠ (.slice Ao17 t170.length co17:Value).ownBlock ∧ some k_ ≠ (.slice Ao76 y224.length co76:Value).ownBlock ∧ k_ ≠ gb227) u15 x15_2):=⟨(by rw [hw];exact (by (with_reducible repeat (first|apply aN|apply nN|apply dN));exact Kd.N_mono (Kd.N_far (p:=⟨gb227,4,none⟩) (Kd.N_mono HO_15.out (fun k_ hk=>(⟨hk,hk.2.2.2.2.2⟩:_ ∧ k_ ≠ gb227))) (fun _ hk=>hk.2) (.int .i64 t233)) (fun _ hk=>⟨hk.1.1,⟨hk.1.2.1,⟨hk.1.2.2.1,⟨hk.1.2.2.2.1,⟨hk.1.2.2.2.2.1,hk.1.2.2.2.2.2⟩⟩⟩⟩⟩)))⟩;have n2_:Aside0 (Kd.N (Kd.slice 5 (Kd.int .u8)) 22 w87 w.heap.size (fun k_=>((P0_ k_ ∨ P1_ k_) ∨ w.heap.size ≤ k_) ∧ some k_ ≠ (.slice (some ad223) x10_1.length co72:Value).ownBlock ∧ some k_ ≠ (u15:Value).ownBlock ∧ some k_ ≠ (.slice Ao17 t170.length co17:Value).ownBlock ∧ some k_ ≠ (.slice Ao76 y224.length co76:Value).ownBlock ∧ k_ ≠ gb227) (.slice Ao15 t167.length co15) t167):=⟨(by rw [hw];exact (by (with_reducible repeat (first|apply aN|apply nN|apply dN));exact Kd.N_mono (Kd.N_far (p:=⟨gb227,4,none⟩) (Kd.N_mono HO_25.out (fun k_ hk=>(⟨hk,hk.2.2.2.2.2⟩:_ ∧ k_ ≠ gb227))) (fun _ hk=>hk.2) (.int .i64 t233)) (fun _ hk=>⟨hk.1.1,⟨hk.1.2.1,⟨hk.1.2.2.1,⟨hk.1.2.2.2.1,⟨hk.1.2.2.2.2.1,hk.1.2.2.2.2.2⟩⟩⟩⟩⟩)))⟩;have n3_:Aside0 (Kd.N (Kd.slice 5 (Kd.int .u8)) 22 w87 w.heap.size (fun k_=>((P0_ k_ ∨ P1_ k_) ∨ w.heap.size ≤ k_) ∧ some k_ ≠ (.slice (some ad223) x10_1.length co72:Value).ownBlock ∧ some k_ ≠ (u15:Value).ownBlock ∧ some k_ ≠ (.slice Ao15 t167.length co15:Value).ownBlock ∧ some k_ ≠ (.slice Ao76 y224.length co76:Value).ownBlock ∧ k_ ≠ gb227) (.slice Ao17 t170.length co17) t170):=⟨(by rw [hw];exact (by (with_reducible repeat (first|apply aN|apply nN|apply dN));exact Kd.N_mono (Kd.N_far (p:=⟨gb227,4,none⟩) (Kd.N_mono HO_28.out (fun k_ hk=>(⟨hk,hk.2.2.2.2.2⟩:_ ∧ k_ ≠ gb227))) (fun _ hk=>hk.2) (.int .i64 t233)) (fun _ hk=>⟨hk.1.1,⟨hk.1.2.1,⟨hk.1.2.2.1,⟨hk.1.2.2.2.1,⟨hk.1.2.2.2.2.1,hk.1.2.2.2.2.2⟩⟩⟩⟩⟩)))⟩;have n4_:Aside0 (Kd.V (Kd.int .u8) 5 w87 w.heap.size (fun k_=>((P0_ k_ ∨ P1_ k_) ∨ w.heap.size ≤ k_) ∧ some k_ ≠ (.slice (some ad223) x10_1.length co72:Value).ownBlock ∧ some k_ ≠ (u15:Value).ownBlock ∧ some k_ ≠ (.slice Ao76 y224.length co76:Value).ownBlock ∧ k_ ≠ gb227) (.slice A223_0 (rd_L2 x10_1 x16_2).length c223_0) (rd_L2 x10_1 x16_2)):=⟨(by rw [hw];exact (by (with_reducible repeat (first|apply aV|apply nV|apply dV));exact Kd.V_mono (Kd.V_far (p:=⟨gb227,4,none⟩) (Kd.V_mono HL223_0.out (fun k_ hk=>(⟨hk,hk.2.2.2.2⟩:_ ∧ k_ ≠ gb227))) (fun _ hk=>hk.2) (.int .i64 t233)) (fun _ hk=>⟨hk.1.1,⟨hk.1.2.1,⟨hk.1.2.2.1,⟨hk.1.2.2.2.1,hk.1.2.2.2.2⟩⟩⟩⟩)))⟩;have n5_:Aside0 (Kd.R (Kd.int .u8) 5 w87 w.heap.size (fun k_=>(w.heap.size ≤ k_)) (.slice Ao76 y224.length co76) y224):=⟨(by rw [hw];exact (by (with_reducible repeat (first|apply aR|apply nR|apply dR));exact Kd.R_mono (Kd.R_far (p:=⟨gb227,4,none⟩) (Kd.R_types HO226.out BK227.out (by decide)) (fun _ hk=>hk.2) (.int .i64 t233)) (fun _ hk=>hk.1)))⟩;have n6_:Aside0 (Kd.V (Kd.int .u8) 5 w87 w.heap.size (fun k_=>((P0_ k_ ∨ P1_ k_) ∨ w.heap.size ≤ k_) ∧ some k_ ≠ (.slice (some ad223) x10_1.length co72:Value).ownBlock ∧ some k_ ≠ (u15:Value).ownBlock ∧ some k_ ≠ (.slice Ao76 y224.length co76:Value).ownBlock ∧ k_ ≠ gb227) (.slice A228_0 (rd_L2 x10_1 x16_2).length c228_0) (rd_L2 x10_1 x16_2)):=⟨(by rw [hw];exact (by (with_reducible repeat (first|apply aV|apply nV|apply dV));exact Kd.V_mono (Kd.V_far (p:=⟨gb227,4,none⟩) (Kd.V_mono HL228_0.out (fun k_ hk=>(⟨hk,hk.2.2.2.2⟩:_ ∧ k_ ≠ gb227))) (fun _ hk=>hk.2) (.int .i64 t233)) (fun _ hk=>⟨hk.1.1,⟨hk.1.2.1,⟨hk.1.2.2.1,⟨hk.1.2.2.2.1,hk.1.2.2.2.2⟩⟩⟩⟩)))⟩;have n7_:Aside0 (Kd.V (Kd.int .u8) 5 w87 w.heap.size (fun k_=>((P0_ k_ ∨ P1_ k_) ∨ w.heap.size ≤ k_) ∧ some k_ ≠ (.slice (some ad223) x10_1.length co72:Value).ownBlock ∧ some k_ ≠ (u15:Value).ownBlock ∧ some k_ ≠ (.slice Ao76 y224.length co76:Value).ownBlock ∧ k_ ≠ gb227) (.slice A231_0 (rd_L2 x10_1 x16_2).length c231_0) (rd_L2 x10_1 x16_2)):=⟨(by rw [hw];exact (by (with_reducible repeat (first|apply aV|apply nV|apply dV));exact Kd.V_mono (Kd.V_far (p:=⟨gb227,4,none⟩) (Kd.V_mono HL231_0.out (fun k_ hk=>(⟨hk,hk.2.2.2.2⟩:_ ∧ k_ ≠ gb227))) (fun _ hk=>hk.2) (.int .i64 t233)) (fun _ hk=>⟨hk.1.1,⟨hk.1.2.1,⟨hk.1.2.2.1,⟨hk.1.2.2.2.1,hk.1.2.2.2.2⟩⟩⟩⟩)))⟩;have n8_:Aside0 (w87.heap[gb227]? = some (.cells #[.slice Ao76 y224.length co76,.int .i64 t229,.int .i64 t230,.int .i64 t232,.int .i64 t233] 48 (0,0))):=⟨(by rw [hw];exact (by (with_reducible repeat (first|apply nB|apply dB|apply aB));refine blk_put (cs:=#[.slice Ao76 y224.length co76,.int .i64 t229,.int .i64 t230,.int .i64 t232,.int .i64 0]) ?_ 4 _ rfl;(with_reducible repeat (first|apply nB|apply dB|apply aB));exact BK227.out))⟩;have n9_:Aside0 (Below w.heap.size w w87):=⟨(by rw [hw];exact (kB HB.out))⟩;clear hw HO_10 HO_15 HO_25 HO_28 HL223_0 HO226 HL228_0 HL231_0 BK227 HB;have HO_10:=n0_;have HO_15:=n1_;have HO_25:=n2_;have HO_28:=n3_;have HL223_0:=n4_;have HO226:=n5_;have HL228_0:=n6_;have HL231_0:=n7_;have BK227:=n8_;have HB:=n9_;clear n0_ n1_ n2_ n3_ n4_ n5_ n6_ n7_ n8_ n9_;obtain⟨hcz88_0,hcz88_1,hcz88_2,hcz88_3,hcz88_4,hfz88_0,hfz88_1,hfz88_2,hfz88_3,hfz88_4⟩:=cz5 BK227.out)|((with_reducible refine gate_builtin (b:=.append) (xs:=#[.tmp 126,.tmp 128]) rfl ?_);at_builtin;refine Kd.N_append k48 (w0:=w) w.heap.size rfl (.tmp 126) (.tmp 128) 43 48 (.agg #[(.slice none 0 0),(.int .i64 0),(.int .i64 0),(.int .i64 0),(.int .i64 0)]) 56 rfl Try.underlying43 info48 rfl (by decide) (by omega) u15 x15_2 (⟨y224,t229,t230,t232,t233⟩:S48) [.slice Ao76 y224.length co76,.int .i64 t229,.int .i64 t230,.int .i64 t232,.int .i64 t233] (fun k_=>((P0_ k_ ∨ P1_ k_) ∨ w.heap.size ≤ k_) ∧ some k_ ≠ (.slice (some ad223) x10_1.length co72:Value).ownBlock ∧ some k_ ≠ (.slice Ao15 t167.length co15:Value).ownBlock ∧ some k_ ≠ (.slice Ao17 t170.length co17:Value).ownBlock ∧ k_ ≠ gb227) (fun k_=>((fun k_=>((P0_ k_ ∨ P1_ k_) ∨ w.heap.size ≤ k_) ∧ some k_ ≠ (.slice (some ad223) x10_1.length co72:Value).ownBlock ∧ some k_ ≠ (.slice Ao15 t167.length co15:Value).ownBlock ∧ some k_ ≠ (.slice Ao17 t170.length co17:Value).ownBlock ∧ k_ ≠ gb227)) k_ ∧ some k_ ≠ (u15:Value).ownBlock) rfl rfl ?aP (fun _ hk=>hk) ?aF ?aO ?aB ?aS ?aL ?_;(case aP=>exact (k48_mkF _ _ (⟨y224,t229,t230,t232,t233⟩:S48) (Kd.R_reads' (Kd.R_mono (ok':=(fun k_=>((fun k_=>((P0_ k_ ∨ P1_ k_) ∨ w.heap.size ≤ k_) ∧ some k_ ≠ (.slice (some ad223) x10_1.length co72:Value).ownBlock ∧ some k_ ≠ (.slice Ao15 t167.length co15:Value).ownBlock ∧ some k_ ≠ (.slice Ao17 t170.length co17:Value).ownBlock ∧ k_ ≠ gb227)) k_ ∧ some k_ ≠ (u15:Value).ownBlock)) (Kd.R_types (Kd.R_apart' (Kd.R_apart' (Kd.R_apart' (Kd.R_apart' (HO226.out) (Kd.N_typed HO_10.out) (by decide)) (Kd.N_typed HO_25.out) (by decide)) (Kd.N_typed HO_28.out) (by decide)) (Kd.N_typed HO_15.out) (by decide)) BK227.out (by decide)) (fun k_ hk=>⟨⟨(.inr (hk.1.1.1.1.1)),⟨hk.1.1.1.1.2,⟨hk.1.1.1.2,⟨hk.1.1.2,hk.2⟩⟩⟩⟩,hk.1.2⟩))).2.1 (Kd.R_F (Kd.R_mono (ok':=(fun k_=>((fun k_=>((P0_ k_ ∨ P1_ k_) ∨ w.heap.size ≤ k_) ∧ some k_ ≠ (.slice (some ad223) x10_1.length co72:Value).ownBlock ∧ some k_ ≠ (.slice Ao15 t167.length co15:Value).ownBlock ∧ some k_ ≠ (.slice Ao17 t170.length co17:Value).ownBlock ∧ k_ ≠ gb227)) k_ ∧ some k_ ≠ (u15:Value).ownBlock)) (Kd.R_types (Kd.R_apart' (Kd.R_apart' (Kd.R_apart' (Kd.R_apart' (HO226.out) (Kd.N_typed HO_10.out) (by decide)) (Kd.N_typed HO_25.out) (by decide)) (Kd.N_typed HO_28.out) (by decide)) (Kd.N_typed HO_15.out) (by decide)) BK227.out (by decide)) (fun k_ hk=>⟨⟨(.inr (hk.1.1.1.1.1)),⟨hk.1.1.1.1.2,⟨hk.1.1.1.2,⟨hk.1.1.2,hk.2⟩⟩⟩⟩,hk.1.2⟩)))));(case aB=>exact (kB HB.out));(case aF=>exact (fun k_ hk=>⟨(.inr (Nat.le_trans (kZ HB.out) hk)),Kd.fresh' (Kd.N_lt (rN HO_10.out)) k_ hk,Kd.fresh' (Kd.N_lt (rN HO_25.out)) k_ hk,Kd.fresh' (Kd.N_lt (rN HO_28.out)) k_ hk,Kd.freshB (g:=gb227) (kN BK227.out) k_ hk⟩));(case aO=>exact (rN (Kd.N_mono HO_15.out (fun _ hk=>⟨hk.1,⟨hk.2.1,⟨hk.2.2.1,⟨hk.2.2.2.1,hk.2.2.2.2.2⟩⟩⟩⟩))));(case aS=>exact (kZ HB.out));(case aL=>have:=LMc71.out;omega);intro v235 w89 ho hb hg hat;rw [← Ny234.out] at ho;replace HO_10:=mk0 (Kd.N_afterv (ok:=(fun k_=>((P0_ k_ ∨ P1_ k_) ∨ w.heap.size ≤ k_) ∧ some k_ ≠ (.slice Ao76 y224.length co76:Value).ownBlock ∧ k_ ≠ gb227)) (rN (Kd.N_mono HO_10.out (fun _ hk=>⟨⟨hk.1,⟨hk.2.2.1,hk.2.2.2⟩⟩,hk.2.1⟩))) hg hat);replace HO_25:=mk0 (Kd.N_afterv (ok:=(fun k_=>((P0_ k_ ∨ P1_ k_) ∨ w.heap.size ≤ k_) ∧ some k_ ≠ (.slice (some ad223) x10_1.length co72:Value).ownBlock ∧ some k_ ≠ (.slice Ao17 t170.length co17:Value).ownBlock ∧ some k_ ≠ (.slice Ao76 y224.length co76:Value).ownBlock ∧ k_ ≠ gb227)) (rN (Kd.N_mono HO_25.out (fun _ hk=>⟨⟨hk.1,⟨hk.2.1,⟨hk.2.2.2.1,⟨hk.2.2.2.2.1,hk.2.2.2.2.2⟩⟩⟩⟩,hk.2.2.1⟩))) hg hat);replace HO_28:=mk0 (Kd.N_afterv (ok:=(fun k_=>((P0_ k_ ∨ P1_ k_) ∨ w.heap.size ≤ k_) ∧ some k_ ≠ (.slice (some ad223) x10_1.length co72:Value).ownBlock ∧ some k_ ≠ (.slice Ao15 t167.length co15:Value).ownBlock ∧ some k_ ≠ (.slice Ao76 y224.length co76:Value).ownBlock ∧ k_ ≠ gb227)) (rN (Kd.N_mono HO_28.out (fun _ hk=>⟨⟨hk.1,⟨hk.2.1,⟨hk.2.2.2.1,⟨hk.2.2.2.2.1,hk.2.2.2.2.2⟩⟩⟩⟩,hk.2.2.1⟩))) hg hat);replace HL223_0:=mk0 (Kd.V_afterv (ok:=(fun k_=>((P0_ k_ ∨ P1_ k_) ∨ w.heap.size ≤ k_) ∧ some k_ ≠ (.slice (some ad223) x10_1.length co72:Value).ownBlock ∧ some k_ ≠ (.slice Ao76 y224.length co76:Value).ownBlock ∧ k_ ≠ gb227)) (rV (Kd.V_mono HL223_0.out (fun _ hk=>⟨⟨hk.1,⟨hk.2.1,⟨hk.2.2.2.1,hk.2.2.2.2⟩⟩⟩,hk.2.2.1⟩))) hg hat);replace BK227:=mk0 (blk_grown (kN BK227.out) hg (Kd.N_away HO_15.out (fun _ hk=>hk.2.2.2.2.2)));replace HL228_0:=mk0 (Kd.V_afterv (ok:=(fun k_=>((P0_ k_ ∨ P1_ k_) ∨ w.heap.size ≤ k_) ∧ some k_ ≠ (.slice (some ad223) x10_1.length co72:Value).ownBlock ∧ some k_ ≠ (.slice Ao76 y224.length co76:Value).ownBlock ∧ k_ ≠ gb227)) (rV (Kd.V_mono HL228_0.out (fun _ hk=>⟨⟨hk.1,⟨hk.2.1,⟨hk.2.2.2.1,hk.2.2.2.2⟩⟩⟩,hk.2.2.1⟩))) hg hat);replace HL231_0:=mk0 (Kd.V_afterv (ok:=(fun k_=>((P0_ k_ ∨ P1_ k_) ∨ w.heap.size ≤ k_) ∧ some k_ ≠ (.slice (some ad223) x10_1.length co72:Value).ownBlock ∧ some k_ ≠ (.slice Ao76 y224.length co76:Value).ownBlock ∧ k_ ≠ gb227)) (rV (Kd.V_mono HL231_0.out (fun _ hk=>⟨⟨hk.1,⟨hk.2.1,⟨hk.2.2.2.1,hk.2.2.2.2⟩⟩⟩,hk.2.2.1⟩))) hg hat);replace HB:=mk0 (hb);have HO236:=mk0 (ho);clear HO_15 HO226 ho hb hg hat))
      go_roundg k2
      case measure=>have:=HK1.out;have:=HK2.out;omega
      case rel=>exact⟨(y234),(wrap64 (x16_2 + 1)),(by first|rfl|(simp;done)|(simp [*];done)),H',⟨by have:=HK1.out;have:=HK2.out;omega⟩,⟨rN (Kd.N_mono HO_10.out (fun _ hk=>⟨hk.1.1,hk.2⟩))⟩,⟨rN (Kd.N_mono HO236.out (fun _ hk=>⟨hk.1,⟨hk.2.1,⟨hk.2.2.1,hk.2.2.2.1⟩⟩⟩))⟩,⟨rN (Kd.N_mono HO_25.out (fun _ hk=>⟨hk.1.1,⟨hk.1.2.1,⟨hk.2,hk.1.2.2.1⟩⟩⟩))⟩,⟨rN (Kd.N_mono HO_28.out (fun _ hk=>⟨hk.1.1,⟨hk.1.2.1,⟨hk.2,hk.1.2.2.1⟩⟩⟩))⟩,⟨kB HB.out⟩⟩
   rw [if_pos c20] at H
   have c20b0:decide (x11_1 < (y179.length:Int)) = true:=decide_eq_true c20
   (try simp only [hl185_0] at c20b0)
   (try simp only [hl186_0] at c20b0)
   (try simp only [hl188_0] at c20b0)
   (try simp only [hl189_0] at c20b0)
   (try simp only [hl191_0] at c20b0)
   (try simp only [hl223_0] at c20b0)
   (try simp only [hl228_0] at c20b0)
   (try simp only [hl231_0] at c20b0)
   clear c20
   have HC21:=mk0 H
   clear H
   obtain⟨Ao22,co22,eo22⟩:=Kd.N_slice HO_33.out
   subst eo22
   go_upto_block 2 with (fail)
   go_cut [12,13] (fun v12 v13 wc=>∃ (kq:Nat) (x12_20:Int) (x13_20:Bool),v12 = .int .i64 x12_20 ∧ v13 = .bool x13_20 ∧ Aside0 (spec_Parts.j2 kq t167 t170 y179 x10_1 x11_1 x12_20 x13_20 = some r) ∧ Aside0 (kq ≤ k1) ∧ Aside0 (Kd.N (Kd.slice 5 (Kd.int .u8)) 22 wc w.heap.size (fun k_=>((P0_ k_ ∨ P1_ k_) ∨ w.heap.size ≤ k_) ∧ some k_ ≠ ((.slice Ao17 t170.length co17):Value).ownBlock ∧ some k_ ≠ ((.slice Ao22 y179.length co22):Value).ownBlock ∧ some k_ ≠ (u10:Value).ownBlock) (.slice Ao15 t167.length co15) t167) ∧ Aside0 (Kd.N (Kd.slice 5 (Kd.int .u8)) 22 wc w.heap.size (fun k_=>((P0_ k_ ∨ P1_ k_) ∨ w.heap.size ≤ k_) ∧ some k_ ≠ ((.slice Ao15 t167.length co15):Value).ownBlock ∧ some k_ ≠ ((.slice Ao22 y179.length co22):Value).ownBlock ∧ some k_ ≠ (u10:Value).ownBlock) (.slice Ao17 t170.length co17) t170) ∧ Aside0 (Kd.N (Kd.slice 5 (Kd.int .u8)) 22 wc w.heap.size (fun k_=>((P0_ k_ ∨ P1_ k_) ∨ w.heap.size ≤ k_) ∧ some k_ ≠ (u10:Value).ownBlock) (.slice Ao22 y179.length co22) y179) ∧ Aside0 (Kd.N (Kd.slice 5 (Kd.int .u8)) 22 wc w.heap.size (fun k_=>((P0_ k_ ∨ P1_ k_) ∨ w.heap.size ≤ k_) ∧ some k_ ≠ ((.slice Ao22 y179.length co22):Value).ownBlock) u10 x10_1) ∧ Aside0 (Below w.heap.size w wc))
   case first =>
    have H:=HC21.out
    clear HC21
    have H':=mk0 H
    clear H
    go_wp2
    go_loopg [12,13] k1 (fun kq v12 v13 w'=>∃ (x12_2:Int) (x13_2:Bool),v12 = .int .i64 x12_2 ∧ v13 = .bool x13_2 ∧ Aside0 (spec_Parts.l1 kq x10_1 x11_1 x12_2 x13_2 t167 t170 y179 = some r) ∧ Aside0 (kq ≤ k1) ∧ Aside0 (Kd.N (Kd.slice 5 (Kd.int .u8)) 22 w' w.heap.size (fun k_=>((P0_ k_ ∨ P1_ k_) ∨ w.heap.size ≤ k_) ∧ some k_ ≠ ((.slice Ao22 y179.length co22):Value).ownBlock) u10 x10_1) ∧ Aside0 (Kd.N (Kd.slice 5 (Kd.int .u8)) 22 w' w.heap.size (fun k_=>((P0_ k_ ∨ P1_ k_) ∨ w.heap.size ≤ k_) ∧ some k_ ≠ (u10:Value).ownBlock ∧ some k_ ≠ ((.slice Ao17 t170.length co17):Value).ownBlock ∧ some k_ ≠ ((.slice Ao22 y179.length co22):Value).ownBlock) (.slice Ao15 t167.length co15) t167) ∧ Aside0 (Kd.N (Kd.slice 5 (Kd.int .u8)) 22 w' w.heap.size (fun k_=>((P0_ k_ ∨ P1_ k_) ∨ w.heap.size ≤ k_) ∧ some k_ ≠ (u10:Value).ownBlock ∧ some k_ ≠ ((.slice Ao15 t167.length co15):Value).ownBlock ∧ some k_ ≠ ((.slice Ao22 y179.length co22):Value).ownBlock) (.slice Ao17 t170.length co17) t170) ∧ Aside0 (Kd.N (Kd.slice 5 (Kd.int .u8)) 22 w' w.heap.size (fun k_=>((P0_ k_ ∨ P1_ k_) ∨ w.heap.size ≤ k_) ∧ some k_ ≠ (u10:Value).ownBlock) (.slice Ao22 y179.length co22) y179) ∧ Aside0 (Below w.heap.size w w'))
    case atStart=>exact⟨(0),(false),(by first|rfl|(simp;done)|(simp [*];done)),(by first|rfl|(simp;done)|(simp [*];done)),H',⟨Nat.le_refl _⟩,⟨rN HO_10.out⟩,⟨rN HO_25.out⟩,⟨rN HO_28.out⟩,⟨rN HO_33.out⟩,⟨kB HB.out⟩⟩
    case round =>
     clear H'
     try clear c1
     try clear c2
     try clear p2
     try clear c3
     try clear c5
     try clear c8
     try clear c9
     try clear c20
     try clear c20b0
     try clear p2
     obtain⟨x12_2,x13_2,rfl,rfl,HA,HK2,HO_10,HO_25,HO_28,HO_33,HB⟩:=hrel
     cases gk with
     | zero=>exact absurd HA.out (by simp [spec_Parts.l1])
     | succ k2 =>
      have H:=HA.out
      clear HA
      simp only [spec_Parts.l1] at H
      by_cases c23:x12_2 < (x10_1.length:Int)
      rotate_left
      ·rw [if_neg c23] at H
       have c23b0:decide (x12_2 < (x10_1.length:Int)) = false:=decide_eq_false c23
       (try simp only [hl185_0] at c23b0)
       (try simp only [hl186_0] at c23b0)
       (try simp only [hl188_0] at c23b0)
       (try simp only [hl189_0] at c23b0)
       (try simp only [hl191_0] at c23b0)
       (try simp only [hl223_0] at c23b0)
       (try simp only [hl228_0] at c23b0)
       (try simp only [hl231_0] at c23b0)
       clear c23
       (first|rw [c23b0]|(simp only [i64_w,i32_w];rw [c23b0])|skip)
       have H':=mk0 H
       clear H
       try go_wp2
       replace HO_10:=mk0 (dN HO_10.out)
       replace HO_25:=mk0 (dN HO_25.out)
       replace HO_28:=mk0 (dN HO_28.out)
       replace HO_33:=mk0 (dN HO_33.out)
       replace HB:=mk0 (dZ HB.out)
       obtain⟨Ao40,co40,eo40⟩:=Kd.N_slice HO_10.out
       (first|subst eo40|(injection eo40 with f1_ f2_ f3_;have f4_:=f1_.symm;have f5_:=f3_.symm;clear f1_ f2_ f3_;subst f4_;subst f5_))
       refine start_ (n:=16) (S:=fun w'=>True) (ds:=[]) (bm 16 0) (by kernel_rfl) rfl (by kernel_rfl) trivial (fun hHeld=>?_);refine with_tabW spec_Parts.tab12 spec_Parts.bits12 (fun HT_ HW_=>?_)
       generalize wr.drew = w39 at HO_10 HO_25 HO_28 HO_33 HB hHeld ⊢
       refine pU 0 (some 41) (bm 16 1) HT_ ?_
       refine pU 1 (some 42) (bm 16 3) HT_ ?_
       refine pU 2 (some 43) (bm 16 7) HT_ ?_
       refine pU 3 (some 44) (bm 16 15) HT_ ?_
       refine pU 4 (some 45) (bm 16 31) HT_ ?_
       refine pX 5 (some 46) (bm 16 63) HT_ ?_
       refine pX 6 (some 47) (bm 16 127) HT_ ?_
       refine pX 7 (some 48) (bm 16 255) HT_ ?_
       refine pX 8 (some 49) (bm 16 511) HT_ ?_
       refine pX 9 (some 50) (bm 16 1023) HT_ ?_
       refine pX 10 (some 51) (bm 16 2047) HT_ ?_
       refine pX 11 (some 52) (bm 16 4095) HT_ ?_
       refine pX 12 (some 53) (bm 16 8191) HT_ ?_
       refine pX 13 (some 54) (bm 16 16383) HT_ ?_
       refine pX 14 (some 55) (bm 16 32767) HT_ ?_
       refine pU 15 (some 56) (bm 16 65535) HT_ ?_
       refine pD HT_ ?_
       try go_wp2
       go_meet
       case rel=>exact⟨_,(x12_2),(x13_2),(by first|rfl|(simp;done)|(simp [*];done)),(by first|rfl|(simp;done)|(simp [*];done)),H',⟨by have:=HK1.out;have:=HK2.out;first|omega|exact Nat.le_refl _⟩,⟨rN (Kd.N_mono HO_25.out (fun _ hk=>⟨hk.1,⟨hk.2.2.1,⟨hk.2.2.2,hk.2.1⟩⟩⟩))⟩,⟨rN (Kd.N_mono HO_28.out (fun _ hk=>⟨hk.1,⟨hk.2.2.1,⟨hk.2.2.2,hk.2.1⟩⟩⟩))⟩,⟨rN HO_33.out⟩,⟨rN HO_10.out⟩,⟨kB HB.out⟩⟩
      rw [if_pos c23] at H
      have c23b0:decide (x12_2 < (x10_1.length:Int)) = true:=decide_eq_true c23
      (try simp only [hl185_0] at c23b0)
      (try simp only [hl186_0] at c23b0)
      (try simp only [hl188_0] at c23b0)
      (try simp only [hl189_0] at c23b0)
      (try simp only [hl191_0] at c23b0)
      (try simp only [hl223_0] at c23b0)
      (try simp only [hl228_0] at c23b0)
      (try simp only [hl231_0] at c23b0)
      clear c23
      (first|rw [c23b0]|(simp only [i64_w,i32_w];rw [c23b0])|skip)
      by_cases c24:0 ≤ x12_2
      rotate_left
      ·rw [if_neg c24] at H
       exact absurd H (by simp)
      rw [if_pos c24] at H
      have c24b0:decide (0 ≤ x12_2) = true:=decide_eq_true c24
      clear c24
      by_cases c25:0 ≤ x11_1
      rotate_left
      ·rw [if_neg c25] at H
       exact absurd H (by simp)
      rw [if_pos c25] at H
      have c25b0:decide (0 ≤ x11_1) = true:=decide_eq_true c25
      clear c25
      by_cases c26:x11_1 < (y179.length:Int)
      rotate_left
      ·rw [if_neg c26] at H
       exact absurd H (by simp)
      rw [if_pos c26] at H
      have c26b0:decide (x11_1 < (y179.length:Int)) = true:=decide_eq_true c26
      (try simp only [hl185_0] at c26b0)
      (try simp only [hl186_0] at c26b0)
      (try simp only [hl188_0] at c26b0)
      (try simp only [hl189_0] at c26b0)
      (try simp only [hl191_0] at c26b0)
      (try simp only [hl223_0] at c26b0)
      (try simp only [hl228_0] at c26b0)
      (try simp only [hl231_0] at c26b0)
      clear c26
      replace H:=Option.bind_eq_some_iff.mp H
      obtain⟨t187,A270,H⟩:=H
      replace H:(if t187 ≤ 0 then (if x13_2 = true then (spec_Parts.l1 k2 x10_1 x11_1 (wrap64 (x12_2 + 1)) true t167 t170 y179) else ((spec_l05Cmp.f k2 (rd_L2 x10_1 x12_2) (rd_L2 y179 x11_1)).bind fun t190=>(spec_Parts.l1 k2 x10_1 x11_1 (wrap64 (x12_2 + 1)) (t190 == 0) t167 t170 y179))) else (spec_Parts.j2 k2 t167 t170 y179 x10_1 x11_1 x12_2 x13_2)) = some r:=H
      have A27:=mk0 A270
      clear A270
      by_cases c28:t187 ≤ 0
      rotate_left
      ·rw [if_neg c28] at H
       have c28b0:decide (t187 ≤ 0) = false:=decide_eq_false c28
       clear c28
       have H':=mk0 H
       clear H
       try go_wp2
       replace HO_10:=mk0 (dN HO_10.out)
       replace HO_25:=mk0 (dN HO_25.out)
       replace HO_28:=mk0 (dN HO_28.out)
       replace HO_33:=mk0 (dN HO_33.out)
       replace HB:=mk0 (dZ HB.out)
       obtain⟨Ao38,co38,eo38⟩:=Kd.N_slice HO_10.out
       (first|subst eo38|(injection eo38 with f1_ f2_ f3_;have f4_:=f1_.symm;have f5_:=f3_.symm;clear f1_ f2_ f3_;subst f4_;subst f5_))
       have p185:0 ≤ (x12_2:Int):=of_decide_eq_true (by first|(with_reducible assumption)|assumption)
       have q185:x12_2 < (x10_1.length:Int):=of_decide_eq_true (by first|(with_reducible assumption)|assumption)
       obtain⟨ad185,A185_0,c185_0,e185,hx185_0,hl185_0,hi185_0⟩:=at_L2 (Kd.N_reads' HO_10.out).2.2 x12_2 p185 q185
       cases e185
       obtain⟨ce185,hce185,hMe185,hcc185⟩:=Kd.N_get HO_10.out [] x12_2 p185 (by first|exact q185|exact of_decide_eq_true (by first|(with_reducible assumption)|assumption)|(have e_:=(Kd.N_reads' HO_10.out).1;omega))
       obtain⟨ua185_0,uc185_0,rfl,ul185_0,ge185_0⟩:=Kd.FK_slice_open hMe185
       have hv185_0:=hcc185 0 _ rfl
       rw [Nat.add_zero,show ((Kd.slice 5 (Kd.int .u8))).sz = 1 from rfl,Nat.mul_one] at hv185_0
       replace hv185_0:=Option.some.inj (hv185_0.symm.trans hx185_0)
       injection hv185_0 with hva_ hvn_ hvc_
       rw [hva_] at ge185_0
       rw [hvc_] at ul185_0
       have HL185_0:=mk0 (show Kd.V (Kd.int .u8) 5 _ w.heap.size _ _ (rd_L2 x10_1 x12_2) from Kd.V_mk ul185_0 ge185_0)
       clear hva_ hvn_ hvc_ ge185_0 ul185_0
       clear hcc185 hce185
       have HR185_0:=mk0 hi185_0
       have HC185_0:=mk0 hl185_0
       clear hi185_0 hl185_0
       replace p185:=eq_true p185
       replace q185:=eq_true q185
       have p186:0 ≤ (x11_1:Int):=of_decide_eq_true (by first|(with_reducible assumption)|assumption)
       have q186:x11_1 < (y179.length:Int):=of_decide_eq_true (by first|(with_reducible assumption)|assumption)
       obtain⟨ad186,A186_0,c186_0,e186,hx186_0,hl186_0,hi186_0⟩:=at_L2 (Kd.N_reads' HO_33.out).2.2 x11_1 p186 q186
       cases e186
       obtain⟨ce186,hce186,hMe186,hcc186⟩:=Kd.N_get HO_33.out [] x11_1 p186 (by first|exact q186|exact of_decide_eq_true (by first|(with_reducible assumption)|assumption)|(have e_:=(Kd.N_reads' HO_33.out).1;omega))
       obtain⟨ua186_0,uc186_0,rfl,ul186_0,ge186_0⟩:=Kd.FK_slice_open hMe186
       have hv186_0:=hcc186 0 _ rfl
       rw [Nat.add_zero,show ((Kd.slice 5 (Kd.int .u8))).sz = 1 from rfl,Nat.mul_one] at hv186_0
       replace hv186_0:=Option.some.inj (hv186_0.symm.trans hx186_0)
       injection hv186_0 with hva_ hvn_ hvc_
       rw [hva_] at ge186_0
       rw [hvc_] at ul186_0
       have HL186_0:=mk0 (show Kd.V (Kd.int .u8) 5 _ w.heap.size _ _ (rd_L2 y179 x11_1) from Kd.V_mk ul186_0 ge186_0)
       clear hva_ hvn_ hvc_ ge186_0 ul186_0
       clear hcc186 hce186
       have HR186_0:=mk0 hi186_0
       have HC186_0:=mk0 hl186_0
       clear hi186_0 hl186_0
       replace p186:=eq_true p186
       replace q186:=eq_true q186
       refine start_ (n:=16) (S:=fun w'=>w'.cell? (ad185.add (x12_2).toNat) = some (.slice A185_0 (rd_L2 x10_1 x12_2).length c185_0) ∧ w'.cell? (ad186.add (x11_1).toNat) = some (.slice A186_0 (rd_L2 y179 x11_1).length c186_0)) (ds:=[]) (bm 16 0) (by kernel_rfl) rfl (by kernel_rfl) ⟨hx185_0,hx186_0⟩ (fun hHeld=>?_);refine with_tabW spec_Parts.tab12 spec_Parts.bits12 (fun HT_ HW_=>?_)
       generalize wr.drew = w37 at HO_10 HO_25 HO_28 HO_33 HB HL185_0 HL186_0 HR185_0 HR186_0 hx185_0 hx186_0 hHeld ⊢
       refine pU 0 (some 41) (bm 16 1) HT_ ?_
       refine pU 1 (some 42) (bm 16 3) HT_ ?_
       refine pU 2 (some 43) (bm 16 7) HT_ ?_
       refine pU 3 (some 44) (bm 16 15) HT_ ?_
       refine pU 4 (some 45) (bm 16 31) HT_ ?_
       refine pU 5 (some 46) (bm 16 63) HT_ ?_
       refine pU 6 (some 47) (bm 16 127) HT_ ?_
       refine pU 7 (some 48) (bm 16 255) HT_ ?_
       refine pU 9 (some 50) (bm 16 767) HT_ ?_
       refine pU 10 (some 51) (bm 16 1791) HT_ ?_
       refine pU 11 (some 52) (bm 16 3839) HT_ ?_
       refine pT 8 (some 49) (bm 16 4095) HT_ HW_ hHeld ?_
       refine pT 12 (some 53) (bm 16 8191) HT_ HW_ hHeld ?_
       refine pO 13 (some 54) (bm 16 16383) HT_ (fun K hK=>?_)
       refine gO Try.func53 #[.slice A185_0 (rd_L2 x10_1 x12_2).length c185_0,.slice A186_0 (rd_L2 y179 x11_1).length c186_0] ?_
       with_reducible refine (spec_l05Cmp.calls k2 _ _ (rd_L2 x10_1 x12_2) _ _ (rd_L2 y179 x11_1) t187 _ ?side1 ?side2 ?side3 ?side4 A27.out).mono ?_
       (case side1=>repeat (first|exact (by repeat (first|(with_reducible exact HR185_0.out)|(with_reducible first|apply aC|apply nC|apply dC)|exact HR185_0.out|exact (Kd.V_reads' HL185_0.out).2.2))|(with_reducible first|apply aC|apply nC|apply dC)))
       (case side2=>exact HC185_0.out)
       (case side3=>repeat (first|exact (by repeat (first|(with_reducible exact HR186_0.out)|(with_reducible first|apply aC|apply nC|apply dC)|exact HR186_0.out|exact (Kd.V_reads' HL186_0.out).2.2))|(with_reducible first|apply aC|apply nC|apply dC)))
       (case side4=>exact HC186_0.out)
       rintro e w' ⟨rfl,⟨nd,rfl⟩⟩
       refine⟨_,rfl,?_⟩
       refine hK.out _ _ ⟨hHeld.1,hHeld.2⟩ (fun hHeld=>?_)
       clear hK K
       refine pN (some 54) ?_
       refine pU 14 (some 55) (bm 16 32767) HT_ ?_
       refine pU 15 (some 56) (bm 16 65535) HT_ ?_
       refine pD HT_ ?_
       try go_wp2
       go_meet
       case rel=>exact⟨_,(x12_2),(x13_2),(by first|rfl|(simp;done)|(simp [*];done)),(by first|rfl|(simp;done)|(simp [*];done)),H',⟨by have:=HK1.out;have:=HK2.out;first|omega|exact Nat.le_refl _⟩,⟨rN (Kd.N_mono HO_25.out (fun _ hk=>⟨hk.1,⟨hk.2.2.1,⟨hk.2.2.2,hk.2.1⟩⟩⟩))⟩,⟨rN (Kd.N_mono HO_28.out (fun _ hk=>⟨hk.1,⟨hk.2.2.1,⟨hk.2.2.2,hk.2.1⟩⟩⟩))⟩,⟨rN HO_33.out⟩,⟨rN HO_10.out⟩,⟨kB HB.out⟩⟩
      rw [if_pos c28] at H
      have c28b0:decide (t187 ≤ 0) = true:=decide_eq_true c28
      clear c28
      by_cases c29:x13_2 = true
      ·subst c29
       have H1:(spec_Parts.l1 k2 x10_1 x11_1 (wrap64 (x12_2 + 1)) true t167 t170 y179) = some r:=by rw [if_pos rfl] at H;exact H
       clear H
       have H:=H1
       clear H1
       have H':=mk0 H
       clear H
       try go_wp2
       replace HO_10:=mk0 (dN HO_10.out)
       replace HO_25:=mk0 (dN HO_25.out)
       replace HO_28:=mk0 (dN HO_28.out)
       replace HO_33:=mk0 (dN HO_33.out)
       replace HB:=mk0 (dZ HB.out)
       obtain⟨Ao31,co31,eo31⟩:=Kd.N_slice HO_10.out
       (first|subst eo31|(injection eo31 with f1_ f2_ f3_;have f4_:=f1_.symm;have f5_:=f3_.symm;clear f1_ f2_ f3_;subst f4_;subst f5_))
       have p185:0 ≤ (x12_2:Int):=of_decide_eq_true (by first|(with_reducible assumption)|assumption)
       have q185:x12_2 < (x10_1.length:Int):=of_decide_eq_true (by first|(with_reducible assumption)|assumption)
       obtain⟨ad185,A185_0,c185_0,e185,hx185_0,hl185_0,hi185_0⟩:=at_L2 (Kd.N_reads' HO_10.out).2.2 x12_2 p185 q185
       cases e185
       obtain⟨ce185,hce185,hMe185,hcc185⟩:=Kd.N_get HO_10.out [] x12_2 p185 (by first|exact q185|exact of_decide_eq_true (by first|(with_reducible assumption)|assumption)|(have e_:=(Kd.N_reads' HO_10.out).1;omega))
       obtain⟨ua185_0,uc185_0,rfl,ul185_0,ge185_0⟩:=Kd.FK_slice_open hMe185
       have hv185_0:=hcc185 0 _ rfl
       rw [Nat.add_zero,show ((Kd.slice 5 (Kd.int .u8))).sz = 1 from rfl,Nat.mul_one] at hv185_0
       replace hv185_0:=Option.some.inj (hv185_0.symm.trans hx185_0)
       injection hv185_0 with hva_ hvn_ hvc_
       rw [hva_] at ge185_0
       rw [hvc_] at ul185_0
       have HL185_0:=mk0 (show Kd.V (Kd.int .u8) 5 _ w.heap.size _ _ (rd_L2 x10_1 x12_2) from Kd.V_mk ul185_0 ge185_0)
       clear hva_ hvn_ hvc_ ge185_0 ul185_0
       clear hcc185 hce185
       have HR185_0:=mk0 hi185_0
       have HC185_0:=mk0 hl185_0
       clear hi185_0 hl185_0
       replace p185:=eq_true p185
       replace q185:=eq_true q185
       have p186:0 ≤ (x11_1:Int):=of_decide_eq_true (by first|(with_reducible assumption)|assumption)
       have q186:x11_1 < (y179.length:Int):=of_decide_eq_true (by first|(with_reducible assumption)|assumption)
       obtain⟨ad186,A186_0,c186_0,e186,hx186_0,hl186_0,hi186_0⟩:=at_L2 (Kd.N_reads' HO_33.out).2.2 x11_1 p186 q186
       cases e186
       obtain⟨ce186,hce186,hMe186,hcc186⟩:=Kd.N_get HO_33.out [] x11_1 p186 (by first|exact q186|exact of_decide_eq_true (by first|(with_reducible assumption)|assumption)|(have e_:=(Kd.N_reads' HO_33.out).1;omega))
       obtain⟨ua186_0,uc186_0,rfl,ul186_0,ge186_0⟩:=Kd.FK_slice_open hMe186
       have hv186_0:=hcc186 0 _ rfl
       rw [Nat.add_zero,show ((Kd.slice 5 (Kd.int .u8))).sz = 1 from rfl,Nat.mul_one] at hv186_0
       replace hv186_0:=Option.some.inj (hv186_0.symm.trans hx186_0)
       injection hv186_0 with hva_ hvn_ hvc_
       rw [hva_] at ge186_0
       rw [hvc_] at ul186_0
       have HL186_0:=mk0 (show Kd.V (Kd.int .u8) 5 _ w.heap.size _ _ (rd_L2 y179 x11_1) from Kd.V_mk ul186_0 ge186_0)
       clear hva_ hvn_ hvc_ ge186_0 ul186_0
       clear hcc186 hce186
       have HR186_0:=mk0 hi186_0
       have HC186_0:=mk0 hl186_0
       clear hi186_0 hl186_0
       replace p186:=eq_true p186
       replace q186:=eq_true q186
       refine start_ (n:=16) (S:=fun w'=>w'.cell? (ad185.add (x12_2).toNat) = some (.slice A185_0 (rd_L2 x10_1 x12_2).length c185_0) ∧ w'.cell? (ad186.add (x11_1).toNat) = some (.slice A186_0 (rd_L2 y179 x11_1).length c186_0)) (ds:=[]) (bm 16 0) (by kernel_rfl) rfl (by kernel_rfl) ⟨hx185_0,hx186_0⟩ (fun hHeld=>?_);refine with_tabW spec_Parts.tab12 spec_Parts.bits12 (fun HT_ HW_=>?_)
       generalize wr.drew = w30 at HO_10 HO_25 HO_28 HO_33 HB HL185_0 HL186_0 HR185_0 HR186_0 hx185_0 hx186_0 hHeld ⊢
       refine pU 0 (some 41) (bm 16 1) HT_ ?_
       refine pU 1 (some 42) (bm 16 3) HT_ ?_
       refine pU 2 (some 43) (bm 16 7) HT_ ?_
       refine pU 3 (some 44) (bm 16 15) HT_ ?_
       refine pU 4 (some 45) (bm 16 31) HT_ ?_
       refine pU 5 (some 46) (bm 16 63) HT_ ?_
       refine pU 6 (some 47) (bm 16 127) HT_ ?_
       refine pU 7 (some 48) (bm 16 255) HT_ ?_
       refine pU 9 (some 50) (bm 16 767) HT_ ?_
       refine pU 10 (some 51) (bm 16 1791) HT_ ?_
       refine pU 11 (some 52) (bm 16 3839) HT_ ?_
       refine pT 8 (some 49) (bm 16 4095) HT_ HW_ hHeld ?_
       refine pT 12 (some 53) (bm 16 8191) HT_ HW_ hHeld ?_
       refine pO 13 (some 54) (bm 16 16383) HT_ (fun K hK=>?_)
       refine gO Try.func53 #[.slice A185_0 (rd_L2 x10_1 x12_2).length c185_0,.slice A186_0 (rd_L2 y179 x11_1).length c186_0] ?_
       with_reducible refine (spec_l05Cmp.calls k2 _ _ (rd_L2 x10_1 x12_2) _ _ (rd_L2 y179 x11_1) t187 _ ?side1 ?side2 ?side3 ?side4 A27.out).mono ?_
       (case side1=>repeat (first|exact (by repeat (first|(with_reducible exact HR185_0.out)|(with_reducible first|apply aC|apply nC|apply dC)|exact HR185_0.out|exact (Kd.V_reads' HL185_0.out).2.2))|(with_reducible first|apply aC|apply nC|apply dC)))
       (case side2=>exact HC185_0.out)
       (case side3=>repeat (first|exact (by repeat (first|(with_reducible exact HR186_0.out)|(with_reducible first|apply aC|apply nC|apply dC)|exact HR186_0.out|exact (Kd.V_reads' HL186_0.out).2.2))|(with_reducible first|apply aC|apply nC|apply dC)))
       (case side4=>exact HC186_0.out)
       rintro e w' ⟨rfl,⟨nd,rfl⟩⟩
       refine⟨_,rfl,?_⟩
       refine hK.out _ _ ⟨hHeld.1,hHeld.2⟩ (fun hHeld=>?_)
       clear hK K
       refine pN (some 54) ?_
       refine pU 14 (some 55) (bm 16 32767) HT_ ?_
       refine pU 15 (some 56) (bm 16 65535) HT_ ?_
       refine pD HT_ ?_
       try go_wp2
       (try (rw [drewN_self w30];generalize hq_:World.drewN w30 _ = w30;have n0_:Aside0 (Kd.V (Kd.int .u8) 5 w30 w.heap.size (fun k_=>(((((P0_ k_ ∨ P1_ k_) ∨ w.heap.size ≤ k_)) ∧ some k_ ≠ (.slice (some ad186) y179.length co22:Value).ownBlock) ∧ some k_ ≠ (.slice (some ad185) x10_1.length co31:Value).ownBlock)) (.slice A185_0 (rd_L2 x10_1 x12_2).length c185_0) (rd_L2 x10_1 x12_2)):=⟨by rw [← hq_];exact (rV HL185_0.out)⟩;have n1_:Aside0 (Kd.V (Kd.int .u8) 5 w30 w.heap.size (fun k_=>(((((P0_ k_ ∨ P1_ k_) ∨ w.heap.size ≤ k_)) ∧ some k_ ≠ (.slice (some ad185) x10_1.length co31:Value).ownBlock) ∧ some k_ ≠ (.slice (some ad186) y179.length co22:Value).ownBlock)) (.slice A186_0 (rd_L2 y179 x11_1).length c186_0) (rd_L2 y179 x11_1)):=⟨by rw [← hq_];exact (rV HL186_0.out)⟩;have n2_:Aside0 (Kd.N (Kd.slice 5 (Kd.int .u8)) 22 w30 w.heap.size (fun k_=>((((P0_ k_ ∨ P1_ k_) ∨ w.heap.size ≤ k_)) ∧ some k_ ≠ (.slice (some ad186) y179.length co22:Value).ownBlock)) (.slice (some ad185) x10_1.length co31) x10_1):=⟨by rw [← hq_];exact (rN HO_10.out)⟩;have n3_:Aside0 (Kd.N (Kd.slice 5 (Kd.int .u8)) 22 w30 w.heap.size (fun k_=>((((P0_ k_ ∨ P1_ k_) ∨ w.heap.size ≤ k_)) ∧ (some k_ ≠ (.slice (some ad185) x10_1.length co31:Value).ownBlock ∧ (some k_ ≠ (.slice Ao17 t170.length co17:Value).ownBlock ∧ some k_ ≠ (.slice (some ad186) y179.length co22:Value).ownBlock)))) (.slice Ao15 t167.length co15) t167):=⟨by rw [← hq_];exact (rN HO_25.out)⟩;have n4_:Aside0 (Kd.N (Kd.slice 5 (Kd.int .u8)) 22 w30 w.heap.size (fun k_=>((((P0_ k_ ∨ P1_ k_) ∨ w.heap.size ≤ k_)) ∧ (some k_ ≠ (.slice (some ad185) x10_1.length co31:Value).ownBlock ∧ (some k_ ≠ (.slice Ao15 t167.length co15:Value).ownBlock ∧ some k_ ≠ (.slice (some ad186) y179.length co22:Value).ownBlock)))) (.slice Ao17 t170.length co17) t170):=⟨by rw [← hq_];exact (rN HO_28.out)⟩;have n5_:Aside0 (Kd.N (Kd.slice 5 (Kd.int .u8)) 22 w30 w.heap.size (fun k_=>((((P0_ k_ ∨ P1_ k_) ∨ w.heap.size ≤ k_)) ∧ some k_ ≠ (.slice (some ad185) x10_1.length co31:Value).ownBlock)) (.slice (some ad186) y179.length co22) y179):=⟨by rw [← hq_];exact (rN HO_33.out)⟩;have n6_:Aside0 (Below w.heap.size w w30):=⟨by rw [← hq_];exact (kB HB.out)⟩;have n7_:Aside0 (Kd.C (Kd.int .u8) w30 A185_0 (rd_L2 x10_1 x12_2).length (rd_L2 x10_1 x12_2)):=⟨by rw [← hq_];exact (by repeat (first|(with_reducible exact HR185_0.out)|(with_reducible first|apply aC|apply nC|apply dC)|exact HR185_0.out|exact (Kd.V_reads' HL185_0.out).2.2))⟩;have n8_:Aside0 (Kd.C (Kd.int .u8) w30 A186_0 (rd_L2 y179 x11_1).length (rd_L2 y179 x11_1)):=⟨by rw [← hq_];exact (by repeat (first|(with_reducible exact HR186_0.out)|(with_reducible first|apply aC|apply nC|apply dC)|exact HR186_0.out|exact (Kd.V_reads' HL186_0.out).2.2))⟩;clear HL185_0 HL186_0 HO_10 HO_25 HO_28 HO_33 HB HR185_0 HR186_0 hq_;have HL185_0:=n0_;have HL186_0:=n1_;have HO_10:=n2_;have HO_25:=n3_;have HO_28:=n4_;have HO_33:=n5_;have HB:=n6_;have HR185_0:=n7_;have HR186_0:=n8_;clear n0_ n1_ n2_ n3_ n4_ n5_ n6_ n7_ n8_))
       replace HO_10:=mk0 (dN HO_10.out)
       replace HO_25:=mk0 (dN HO_25.out)
       replace HO_28:=mk0 (dN HO_28.out)
       replace HO_33:=mk0 (dN HO_33.out)
       replace HL185_0:=mk0 (dV HL185_0.out)
       replace HL186_0:=mk0 (dV HL186_0.out)
       replace HR185_0:=mk0 (dC HR185_0.out)
       replace HR186_0:=mk0 (dC HR186_0.out)
       replace HB:=mk0 (dZ HB.out)
       refine start_ (n:=14) (S:=fun w'=>True) (ds:=[]) (bm 14 0) (by kernel_rfl) rfl (by kernel_rfl) trivial (fun hHeld=>?_);refine with_tabW spec_Parts.tab13 spec_Parts.bits13 (fun HT_ HW_=>?_)
       generalize w30.drew = w32 at HO_10 HO_25 HO_28 HO_33 HL185_0 HL186_0 HR185_0 HR186_0 HB hHeld ⊢
       refine pU 0 (some 57) (bm 14 1) HT_ ?_
       refine pU 1 (some 58) (bm 14 3) HT_ ?_
       refine pX 2 (some 59) (bm 14 7) HT_ ?_
       refine pX 3 (some 60) (bm 14 15) HT_ ?_
       refine pX 4 (some 61) (bm 14 31) HT_ ?_
       refine pX 5 (some 62) (bm 14 63) HT_ ?_
       refine pX 6 (some 63) (bm 14 127) HT_ ?_
       refine pX 7 (some 64) (bm 14 255) HT_ ?_
       refine pX 8 (some 65) (bm 14 511) HT_ ?_
       refine pX 9 (some 66) (bm 14 1023) HT_ ?_
       refine pX 10 (some 67) (bm 14 2047) HT_ ?_
       refine pX 11 (some 68) (bm 14 4095) HT_ ?_
       refine pU 12 (some 69) (bm 14 8191) HT_ ?_
       refine pU 13 (some 13) (bm 14 16383) HT_ ?_
       refine pD HT_ ?_
       try go_wp2
       go_roundg k2
       case measure=>have:=HK1.out;have:=HK2.out;omega
       case rel=>exact⟨(wrap64 (x12_2 + 1)),(true),(by first|rfl|(simp;done)|(simp [*];done)),(by first|rfl|(simp;done)|(simp [*];done)),H',⟨by have:=HK1.out;have:=HK2.out;omega⟩,⟨rN HO_10.out⟩,⟨rN HO_25.out⟩,⟨rN HO_28.out⟩,⟨rN HO_33.out⟩,⟨kB HB.out⟩⟩
      replace c29:=Bool.eq_false_iff.mpr c29
      subst c29
      have H1:((spec_l05Cmp.f k2 (rd_L2 x10_1 x12_2) (rd_L2 y179 x11_1)).bind fun t190=>(spec_Parts.l1 k2 x10_1 x11_1 (wrap64 (x12_2 + 1)) (t190 == 0) t167 t170 y179)) = some r:=by rw [if_neg (show ¬ (false = true) by decide)] at H;exact H
      clear H
      have H:=H1
      clear H1
      replace H:=Option.bind_eq_some_iff.mp H
      obtain⟨t190,A330,H⟩:=H
      replace H:(spec_Parts.l1 k2 x10_1 x11_1 (wrap64 (x12_2 + 1)) (t190 == 0) t167 t170 y179) = some r:=H
      have A33:=mk0 A330
      clear A330
      have H':=mk0 H
      clear H
      try go_wp2
      replace HO_10:=mk0 (dN HO_10.out)
      replace HO_25:=mk0 (dN HO_25.out)
      replace HO_28:=mk0 (dN HO_28.out)
      replace HO_33:=mk0 (dN HO_33.out)
      replace HB:=mk0 (dZ HB.out)
      obtain⟨Ao35,co35,eo35⟩:=Kd.N_slice HO_10.out
      (first|subst eo35|(injection eo35 with f1_ f2_ f3_;have f4_:=f1_.symm;have f5_:=f3_.symm;clear f1_ f2_ f3_;subst f4_;subst f5_))
      have p185:0 ≤ (x12_2:Int):=of_decide_eq_true (by first|(with_reducible assumption)|assumption)
      have q185:x12_2 < (x10_1.length:Int):=of_decide_eq_true (by first|(with_reducible assumption)|assumption)
      obtain⟨ad185,A185_0,c185_0,e185,hx185_0,hl185_0,hi185_0⟩:=at_L2 (Kd.N_reads' HO_10.out).2.2 x12_2 p185 q185
      cases e185
      obtain⟨ce185,hce185,hMe185,hcc185⟩:=Kd.N_get HO_10.out [] x12_2 p185 (by first|exact q185|exact of_decide_eq_true (by first|(with_reducible assumption)|assumption)|(have e_:=(Kd.N_reads' HO_10.out).1;omega))
      obtain⟨ua185_0,uc185_0,rfl,ul185_0,ge185_0⟩:=Kd.FK_slice_open hMe185
      have hv185_0:=hcc185 0 _ rfl
      rw [Nat.add_zero,show ((Kd.slice 5 (Kd.int .u8))).sz = 1 from rfl,Nat.mul_one] at hv185_0
      replace hv185_0:=Option.some.inj (hv185_0.symm.trans hx185_0)
      injection hv185_0 with hva_ hvn_ hvc_
      rw [hva_] at ge185_0
      rw [hvc_] at ul185_0
      have HL185_0:=mk0 (show Kd.V (Kd.int .u8) 5 _ w.heap.size _ _ (rd_L2 x10_1 x12_2) from Kd.V_mk ul185_0 ge185_0)
      clear hva_ hvn_ hvc_ ge185_0 ul185_0
      clear hcc185 hce185
      have HR185_0:=mk0 hi185_0
      have HC185_0:=mk0 hl185_0
      clear hi185_0 hl185_0
      replace p185:=eq_true p185
      replace q185:=eq_true q185
      have p186:0 ≤ (x11_1:Int):=of_decide_eq_true (by first|(with_reducible assumption)|assumption)
      have q186:x11_1 < (y179.length:Int):=of_decide_eq_true (by first|(with_reducible assumption)|assumption)
      obtain⟨ad186,A186_0,c186_0,e186,hx186_0,hl186_0,hi186_0⟩:=at_L2 (Kd.N_reads' HO_33.out).2.2 x11_1 p186 q186
      cases e186
      obtain⟨ce186,hce186,hMe186,hcc186⟩:=Kd.N_get HO_33.out [] x11_1 p186 (by first|exact q186|exact of_decide_eq_true (by first|(with_reducible assumption)|assumption)|(have e_:=(Kd.N_reads' HO_33.out).1;omega))
      obtain⟨ua186_0,uc186_0,rfl,ul186_0,ge186_0⟩:=Kd.FK_slice_open hMe186
      have hv186_0:=hcc186 0 _ rfl
      rw [Nat.add_zero,show ((Kd.slice 5 (Kd.int .u8))).sz = 1 from rfl,Nat.mul_one] at hv186_0
      replace hv186_0:=Option.some.inj (hv186_0.symm.trans hx186_0)
      injection hv186_0 with hva_ hvn_ hvc_
      rw [hva_] at ge186_0
      rw [hvc_] at ul186_0
      have HL186_0:=mk0 (show Kd.V (Kd.int .u8) 5 _ w.heap.size _ _ (rd_L2 y179 x11_1) from Kd.V_mk ul186_0 ge186_0)
      clear hva_ hvn_ hvc_ ge186_0 ul186_0
      clear hcc186 hce186
      have HR186_0:=mk0 hi186_0
      have HC186_0:=mk0 hl186_0
      clear hi186_0 hl186_0
      replace p186:=eq_true p186
      replace q186:=eq_true q186
      refine start_ (n:=16) (S:=fun w'=>w'.cell? (ad185.add (x12_2).toNat) = some (.slice A185_0 (rd_L2 x10_1 x12_2).length c185_0) ∧ w'.cell? (ad186.add (x11_1).toNat) = some (.slice A186_0 (rd_L2 y179 x11_1).length c186_0)) (ds:=[]) (bm 16 0) (by kernel_rfl) rfl (by kernel_rfl) ⟨hx185_0,hx186_0⟩ (fun hHeld=>?_);refine with_tabW spec_Parts.tab12 spec_Parts.bits12 (fun HT_ HW_=>?_)
      generalize wr.drew = w34 at HO_10 HO_25 HO_28 HO_33 HB HL185_0 HL186_0 HR185_0 HR186_0 hx185_0 hx186_0 hHeld ⊢
      refine pU 0 (some 41) (bm 16 1) HT_ ?_
      refine pU 1 (some 42) (bm 16 3) HT_ ?_
      refine pU 2 (some 43) (bm 16 7) HT_ ?_
      refine pU 3 (some 44) (bm 16 15) HT_ ?_
      refine pU 4 (some 45) (bm 16 31) HT_ ?_
      refine pU 5 (some 46) (bm 16 63) HT_ ?_
      refine pU 6 (some 47) (bm 16 127) HT_ ?_
      refine pU 7 (some 48) (bm 16 255) HT_ ?_
      refine pU 9 (some 50) (bm 16 767) HT_ ?_
      refine pU 10 (some 51) (bm 16 1791) HT_ ?_
      refine pU 11 (some 52) (bm 16 3839) HT_ ?_
      refine pT 8 (some 49) (bm 16 4095) HT_ HW_ hHeld ?_
      refine pT 12 (some 53) (bm 16 8191) HT_ HW_ hHeld ?_
      refine pO 13 (some 54) (bm 16 16383) HT_ (fun K hK=>?_)
      refine gO Try.func53 #[.slice A185_0 (rd_L2 x10_1 x12_2).length c185_0,.slice A186_0 (rd_L2 y179 x11_1).length c186_0] ?_
      with_reducible refine (spec_l05Cmp.calls k2 _ _ (rd_L2 x10_1 x12_2) _ _ (rd_L2 y179 x11_1) t187 _ ?side1 ?side2 ?side3 ?side4 A27.out).mono ?_
      (case side1=>repeat (first|exact (by repeat (first|(with_reducible exact HR185_0.out)|(with_reducible first|apply aC|apply nC|apply dC)|exact HR185_0.out|exact (Kd.V_reads' HL185_0.out).2.2))|(with_reducible first|apply aC|apply nC|apply dC)))
      (case side2=>exact HC185_0.out)
      (case side3=>repeat (first|exact (by repeat (first|(with_reducible exact HR186_0.out)|(with_reducible first|apply aC|apply nC|apply dC)|exact HR186_0.out|exact (Kd.V_reads' HL186_0.out).2.2))|(with_reducible first|apply aC|apply nC|apply dC)))
      (case side4=>exact HC186_0.out)
      rintro e w' ⟨rfl,⟨nd,rfl⟩⟩
      refine⟨_,rfl,?_⟩
      refine hK.out _ _ ⟨hHeld.1,hHeld.2⟩ (fun hHeld=>?_)
      clear hK K
      refine pN (some 54) ?_
      refine pU 14 (some 55) (bm 16 32767) HT_ ?_
      refine pU 15 (some 56) (bm 16 65535) HT_ ?_
      refine pD HT_ ?_
      try go_wp2
      (try (rw [drewN_self w34];generalize hq_:World.drewN w34 _ = w34;have n0_:Aside0 (Kd.V (Kd.int .u8) 5 w34 w.heap.size (fun k_=>(((((P0_ k_ ∨ P1_ k_) ∨ w.heap.size ≤ k_)) ∧ some k_ ≠ (.slice (some ad186) y179.length co22:Value).ownBlock) ∧ some k_ ≠ (.slice (some ad185) x10_1.length co35:Value).ownBlock)) (.slice A185_0 (rd_L2 x10_1 x12_2).length c185_0) (rd_L2 x10_1 x12_2)):=⟨by rw [← hq_];exact (rV HL185_0.out)⟩;have n1_:Aside0 (Kd.V (Kd.int .u8) 5 w34 w.heap.size (fun k_=>(((((P0_ k_ ∨ P1_ k_) ∨ w.heap.size ≤ k_)) ∧ some k_ ≠ (.slice (some ad185) x10_1.length co35:Value).ownBlock) ∧ some k_ ≠ (.slice (some ad186) y179.length co22:Value).ownBlock)) (.slice A186_0 (rd_L2 y179 x11_1).length c186_0) (rd_L2 y179 x11_1)):=⟨by rw [← hq_];exact (rV HL186_0.out)⟩;have n2_:Aside0 (Kd.N (Kd.slice 5 (Kd.int .u8)) 22 w34 w.heap.size (fun k_=>((((P0_ k_ ∨ P1_ k_) ∨ w.heap.size ≤ k_)) ∧ some k_ ≠ (.slice (some ad186) y179.length co22:Value).ownBlock)) (.slice (some ad185) x10_1.length co35) x10_1):=⟨by rw [← hq_];exact (rN HO_10.out)⟩;have n3_:Aside0 (Kd.N (Kd.slice 5 (Kd.int .u8)) 22 w34 w.heap.size (fun k_=>((((P0_ k_ ∨ P1_ k_) ∨ w.heap.size ≤ k_)) ∧ (some k_ ≠ (.slice (some ad185) x10_1.length co35:Value).ownBlock ∧ (some k_ ≠ (.slice Ao17 t170.length co17:Value).ownBlock ∧ some k_ ≠ (.slice (some ad186) y179.length co22:Value).ownBlock)))) (.slice Ao15 t167.length co15) t167):=⟨by rw [← hq_];exact (rN HO_25.out)⟩;have n4_:Aside0 (Kd.N (Kd.slice 5 (Kd.int .u8)) 22 w34 w.heap.size (fun k_=>((((P0_ k_ ∨ P1_ k_) ∨ w.heap.size ≤ k_)) ∧ (some k_ ≠ (.slice (some ad185) x10_1.length co35:Value).ownBlock ∧ (some k_ ≠ (.slice Ao15 t167.length co15:Value).ownBlock ∧ some k_ ≠ (.slice (some ad186) y179.length co22:Value).ownBlock)))) (.slice Ao17 t170.length co17) t170):=⟨by rw [← hq_];exact (rN HO_28.out)⟩;have n5_:Aside0 (Kd.N (Kd.slice 5 (Kd.int .u8)) 22 w34 w.heap.size (fun k_=>((((P0_ k_ ∨ P1_ k_) ∨ w.heap.size ≤ k_)) ∧ some k_ ≠ (.slice (some ad185) x10_1.length co35:Value).ownBlock)) (.slice (some ad186) y179.length co22) y179):=⟨by rw [← hq_];exact (rN HO_33.out)⟩;have n6_:Aside0 (Below w.heap.size w w34):=⟨by rw [← hq_];exact (kB HB.out)⟩;have n7_:Aside0 (Kd.C (Kd.int .u8) w34 A185_0 (rd_L2 x10_1 x12_2).length (rd_L2 x10_1 x12_2)):=⟨by rw [← hq_];exact (by repeat (first|(with_reducible exact HR185_0.out)|(with_reducible first|apply aC|apply nC|apply dC)|exact HR185_0.out|exact (Kd.V_reads' HL185_0.out).2.2))⟩;have n8_:Aside0 (Kd.C (Kd.int .u8) w34 A186_0 (rd_L2 y179 x11_1).length (rd_L2 y179 x11_1)):=⟨by rw [← hq_];exact (by repeat (first|(with_reducible exact HR186_0.out)|(with_reducible first|apply aC|apply nC|apply dC)|exact HR186_0.out|exact (Kd.V_reads' HL186_0.out).2.2))⟩;clear HL185_0 HL186_0 HO_10 HO_25 HO_28 HO_33 HB HR185_0 HR186_0 hq_;have HL185_0:=n0_;have HL186_0:=n1_;have HO_10:=n2_;have HO_25:=n3_;have HO_28:=n4_;have HO_33:=n5_;have HB:=n6_;have HR185_0:=n7_;have HR186_0:=n8_;clear n0_ n1_ n2_ n3_ n4_ n5_ n6_ n7_ n8_))
      replace HO_10:=mk0 (dN HO_10.out)
      replace HO_25:=mk0 (dN HO_25.out)
      replace HO_28:=mk0 (dN HO_28.out)
      replace HO_33:=mk0 (dN HO_33.out)
      replace HL185_0:=mk0 (dV HL185_0.out)
      replace HL186_0:=mk0 (dV HL186_0.out)
      replace HR185_0:=mk0 (dC HR185_0.out)
      replace HR186_0:=mk0 (dC HR186_0.out)
      replace HB:=mk0 (dZ HB.out)
      have p188:0 ≤ (x12_2:Int):=of_decide_eq_true (by first|(with_reducible assumption)|assumption)
      have q188:x12_2 < (x10_1.length:Int):=of_decide_eq_true (by first|(with_reducible assumption)|assumption)
      obtain⟨ad188,A188_0,c188_0,e188,hx188_0,hl188_0,hi188_0⟩:=at_L2 (Kd.N_reads' HO_10.out).2.2 x12_2 p188 q188
      obtain rfl:ad185 = ad188:=(by injection e188)
      obtain⟨ce188,hce188,hMe188,hcc188⟩:=Kd.N_get HO_10.out [] x12_2 p188 (by first|exact q188|exact of_decide_eq_true (by first|(with_reducible assumption)|assumption)|(have e_:=(Kd.N_reads' HO_10.out).1;omega))
      obtain⟨ua188_0,uc188_0,rfl,ul188_0,ge188_0⟩:=Kd.FK_slice_open hMe188
      have hv188_0:=hcc188 0 _ rfl
      rw [Nat.add_zero,show ((Kd.slice 5 (Kd.int .u8))).sz = 1 from rfl,Nat.mul_one] at hv188_0
      replace hv188_0:=Option.some.inj (hv188_0.symm.trans hx188_0)
      injection hv188_0 with hva_ hvn_ hvc_
      rw [hva_] at ge188_0
      rw [hvc_] at ul188_0
      have HL188_0:=mk0 (show Kd.V (Kd.int .u8) 5 _ w.heap.size _ _ (rd_L2 x10_1 x12_2) from Kd.V_mk ul188_0 ge188_0)
      clear hva_ hvn_ hvc_ ge188_0 ul188_0
      clear hcc188 hce188
      have HR188_0:=mk0 hi188_0
      have HC188_0:=mk0 hl188_0
      clear hi188_0 hl188_0
      replace p188:=eq_true p188
      replace q188:=eq_true q188
      have p189:0 ≤ (x11_1:Int):=of_decide_eq_true (by first|(with_reducible assumption)|assumption)
      have q189:x11_1 < (y179.length:Int):=of_decide_eq_true (by first|(with_reducible assumption)|assumption)
      obtain⟨ad189,A189_0,c189_0,e189,hx189_0,hl189_0,hi189_0⟩:=at_L2 (Kd.N_reads' HO_33.out).2.2 x11_1 p189 q189
      obtain rfl:ad186 = ad189:=(by injection e189)
      obtain⟨ce189,hce189,hMe189,hcc189⟩:=Kd.N_get HO_33.out [] x11_1 p189 (by first|exact q189|exact of_decide_eq_true (by first|(with_reducible assumption)|assumption)|(have e_:=(Kd.N_reads' HO_33.out).1;omega))
      obtain⟨ua189_0,uc189_0,rfl,ul189_0,ge189_0⟩:=Kd.FK_slice_open hMe189
      have hv189_0:=hcc189 0 _ rfl
      rw [Nat.add_zero,show ((Kd.slice 5 (Kd.int .u8))).sz = 1 from rfl,Nat.mul_one] at hv189_0
      replace hv189_0:=Option.some.inj (hv189_0.symm.trans hx189_0)
      injection hv189_0 with hva_ hvn_ hvc_
      rw [hva_] at ge189_0
      rw [hvc_] at ul189_0
      have HL189_0:=mk0 (show Kd.V (Kd.int .u8) 5 _ w.heap.size _ _ (rd_L2 y179 x11_1) from Kd.V_mk ul189_0 ge189_0)
      clear hva_ hvn_ hvc_ ge189_0 ul189_0
      clear hcc189 hce189
      have HR189_0:=mk0 hi189_0
      have HC189_0:=mk0 hl189_0
      clear hi189_0 hl189_0
      replace p189:=eq_true p189
      replace q189:=eq_true q189
      refine start_ (n:=14) (S:=fun w'=>w'.cell? (ad185.add (x12_2).toNat) = some (.slice A188_0 (rd_L2 x10_1 x12_2).length c188_0) ∧ w'.cell? (ad186.add (x11_1).toNat) = some (.slice A189_0 (rd_L2 y179 x11_1).length c189_0)) (ds:=[]) (bm 14 0) (by kernel_rfl) rfl (by kernel_rfl) ⟨hx188_0,hx189_0⟩ (fun hHeld=>?_);refine with_tabW spec_Parts.tab13 spec_Parts.bits13 (fun HT_ HW_=>?_)
      generalize w34.drew = w36 at HO_10 HO_25 HO_28 HO_33 HL185_0 HL186_0 HR185_0 HR186_0 HB HL188_0 HL189_0 HR188_0 HR189_0 hx188_0 hx189_0 hHeld ⊢
      refine pU 0 (some 57) (bm 14 1) HT_ ?_
      refine pU 1 (some 58) (bm 14 3) HT_ ?_
      refine pU 2 (some 59) (bm 14 7) HT_ ?_
      refine pU 3 (some 60) (bm 14 15) HT_ ?_
      refine pU 4 (some 61) (bm 14 31) HT_ ?_
      refine pU 6 (some 63) (bm 14 95) HT_ ?_
      refine pU 7 (some 64) (bm 14 223) HT_ ?_
      refine pU 8 (some 65) (bm 14 479) HT_ ?_
      refine pT 5 (some 62) (bm 14 511) HT_ HW_ hHeld ?_
      refine pT 9 (some 66) (bm 14 1023) HT_ HW_ hHeld ?_
      refine pO 10 (some 67) (bm 14 2047) HT_ (fun K hK=>?_)
      refine gO Try.func53 #[.slice A188_0 (rd_L2 x10_1 x12_2).length c188_0,.slice A189_0 (rd_L2 y179 x11_1).length c189_0] ?_
      with_reducible refine (spec_l05Cmp.calls k2 _ _ (rd_L2 x10_1 x12_2) _ _ (rd_L2 y179 x11_1) t190 _ ?side1 ?side2 ?side3 ?side4 A33.out).mono ?_
      (case side1=>repeat (first|exact (by repeat (first|(with_reducible exact HR188_0.out)|(with_reducible first|apply aC|apply nC|apply dC)|exact HR188_0.out|exact (Kd.V_reads' HL188_0.out).2.2))|(with_reducible first|apply aC|apply nC|apply dC)))
      (case side2=>exact HC188_0.out)
      (case side3=>repeat (first|exact (by repeat (first|(with_reducible exact HR189_0.out)|(with_reducible first|apply aC|apply nC|apply dC)|exact HR189_0.out|exact (Kd.V_reads' HL189_0.out).2.2))|(with_reducible first|apply aC|apply nC|apply dC)))
      (case side4=>exact HC189_0.out)
      rintro e w' ⟨rfl,⟨nd,rfl⟩⟩
      refine⟨_,rfl,?_⟩
      refine hK.out _ _ ⟨hHeld.1,hHeld.2⟩ (fun hHeld=>?_)
      clear hK K
      refine pN (some 67) ?_
      refine pU 11 (some 68) (bm 14 4095) HT_ ?_
      refine pU 12 (some 69) (bm 14 8191) HT_ ?_
      refine pU 13 (some 13) (bm 14 16383) HT_ ?_
      refine pD HT_ ?_
      try go_wp2
      go_roundg k2
      case measure=>have:=HK1.out;have:=HK2.out;omega
      case rel=>exact⟨(wrap64 (x12_2 + 1)),((t190 == 0)),(by first|rfl|(simp;done)|(simp [*];done)),(by first|rfl|(simp;done)|(simp [*];done)),H',⟨by have:=HK1.out;have:=HK2.out;omega⟩,⟨rN HO_10.out⟩,⟨rN HO_25.out⟩,⟨rN HO_28.out⟩,⟨rN HO_33.out⟩,⟨kB HB.out⟩⟩
   case rest =>
    clear HC21
    try clear c1
    try clear p1
    try clear q1
    try clear hx1
    try clear c2
    try clear p2
    try clear c5
    try clear p6
    try clear c18
    try clear p18
    try clear q18
    try clear hx18
    try clear c23
    try clear c23b0
    try clear c24
    try clear c25
    try clear c26
    try clear c28
    try clear c28b0
    try clear hx185_0
    try clear hx186_0
    try clear hx188_0
    try clear hx189_0
    try clear p185
    try clear p186
    try clear p188
    try clear p189
    try clear q185
    try clear q186
    try clear q188
    try clear q189
    obtain⟨kq,x12_20,x13_20,rfl,rfl,HA,HJ20,HO_7,HO_8,HO_9,HO_10,HB⟩:=hcut
    cases kq with
    | zero=>exact absurd HA.out (by simp [spec_Parts.j2])
    | succ kj20 =>
     have H:=HA.out
     clear HA
     simp only [spec_Parts.j2] at H
     by_cases c41:x13_20 = true
     ·subst c41
      have H1:(spec_Parts.l0 kj20 x10_1 (wrap64 (x11_1 + 1)) t167 t170 y179) = some r:=by rw [if_pos rfl] at H;exact H
      clear H
      have H:=H1
      clear H1
      have H':=mk0 H
      clear H
      go_wp2
      go_roundg kj20
      case measure=>have:=HK1.out;have:=HJ20.out;omega
      case rel=>exact⟨(x10_1),(wrap64 (x11_1 + 1)),(by first|rfl|(simp;done)|(simp [*];done)),H',⟨by have:=HK1.out;have:=HJ20.out;omega⟩,⟨rN HO_10.out⟩,⟨rN (Kd.N_mono HO_7.out (fun _ hk=>⟨hk.1,⟨hk.2.2.2,⟨hk.2.1,hk.2.2.1⟩⟩⟩))⟩,⟨rN (Kd.N_mono HO_8.out (fun _ hk=>⟨hk.1,⟨hk.2.2.2,⟨hk.2.1,hk.2.2.1⟩⟩⟩))⟩,⟨rN HO_9.out⟩,⟨kB HB.out⟩⟩
     replace c41:=Bool.eq_false_iff.mpr c41
     subst c41
     have H1:(if 0 ≤ x11_1 then (if x11_1 < (y179.length:Int) then ((some (([rd_L2 y179 x11_1]:List (List Int)):List (List Int))).bind fun y192=>(if 0 ≤ x12_20 then (if x12_20 ≤ (x10_1.length:Int) then ((some (x10_1.drop (x12_20:Int).toNat:List (List Int))).bind fun y195=>(if y192.length + y195.length < 5864062014805 then ((some (y192 ++ y195:List (List Int))).bind fun y200=>((some (([]:List (List Int)):List (List Int))).bind fun y203=>((some (x10_1.take (x12_20:Int).toNat:List (List Int))).bind fun y206=>(if y203.length + y206.length < 5864062014805 then ((some (y203 ++ y206:List (List Int))).bind fun y211=>(if y211.length + y200.length < 5864062014805 then (spec_Parts.l0 kj20 (y211 ++ y200) (wrap64 (x11_1 + 1)) t167 t170 y179) else (none))) else (none))))) else (none))) else (none)) else (none))) else (none)) else (none)) = some r:=by rw [if_neg (show ¬ (false = true) by decide)] at H;exact H
     clear H
     have H:=H1
     clear H1
     by_cases c42:0 ≤ x11_1
     rotate_left
     ·rw [if_neg c42] at H
      exact absurd H (by simp)
     rw [if_pos c42] at H
     have c42b0:decide (0 ≤ x11_1) = true:=decide_eq_true c42
     clear c42
     by_cases c43:x11_1 < (y179.length:Int)
     rotate_left
     ·rw [if_neg c43] at H
      exact absurd H (by simp)
     rw [if_pos c43] at H
     have c43b0:decide (x11_1 < (y179.length:Int)) = true:=decide_eq_true c43
     (try simp only [hl185_0] at c43b0)
     (try simp only [hl186_0] at c43b0)
     (try simp only [hl188_0] at c43b0)
     (try simp only [hl189_0] at c43b0)
     (try simp only [hl191_0] at c43b0)
     (try simp only [hl223_0] at c43b0)
     (try simp only [hl228_0] at c43b0)
     (try simp only [hl231_0] at c43b0)
     clear c43
     obtain⟨y192,hy192⟩:∃ y_:List (List Int),y_ = (([rd_L2 y179 x11_1]:List (List Int))):=⟨_,rfl⟩
     replace H:(if 0 ≤ x12_20 then (if x12_20 ≤ (x10_1.length:Int) then ((some (x10_1.drop (x12_20:Int).toNat:List (List Int))).bind fun y195=>(if y192.length + y195.length < 5864062014805 then ((some (y192 ++ y195:List (List Int))).bind fun y200=>((some (([]:List (List Int)):List (List Int))).bind fun y203=>((some (x10_1.take (x12_20:Int).toNat:List (List Int))).bind fun y206=>(if y203.length + y206.length < 5864062014805 then ((some (y203 ++ y206:List (List Int))).bind fun y211=>(if y211.length + y200.length < 5864062014805 then (spec_Parts.l0 kj20 (y211 ++ y200) (wrap64 (x11_1 + 1)) t167 t170 y179) else (none))) else (none))))) else (none))) else (none)) else (none)) = some r:=by first|(rw [hy192];with_reducible exact H)|(have H2_:=(Option.bind_some _ _).symm.trans H;rw [hy192];with_reducible exact H2_)|(have H2_:=(Option.bind_some _ _).symm.trans H;with_reducible exact H2_)|with_reducible exact H|(rw [hy192];exact H)|exact H
     have Ny192:=mk0 hy192
     clear hy192
     by_cases c44:0 ≤ x12_20
     rotate_left
     ·rw [if_neg c44] at H
      exact absurd H (by simp)
     rw [if_pos c44] at H
     have c44b0:=eq_true c44
     have c44b1:decide (0 ≤ x12_20) = true:=decide_eq_true c44
     clear c44
     by_cases c45:x12_20 ≤ (x10_1.length:Int)
     rotate_left
     ·rw [if_neg c45] at H
      exact absurd H (by simp)
     rw [if_pos c45] at H
     have c45b0:=eq_true c45
     have c45b1:decide (x12_20 ≤ (x10_1.length:Int)) = true:=decide_eq_true c45
     (try simp only [hl185_0] at c45b1)
     (try simp only [hl186_0] at c45b1)
     (try simp only [hl188_0] at c45b1)
     (try simp only [hl189_0] at c45b1)
     (try simp only [hl191_0] at c45b1)
     (try simp only [hl223_0] at c45b1)
     (try simp only [hl228_0] at c45b1)
     (try simp only [hl231_0] at c45b1)
     clear c45
     obtain⟨y195,hy195⟩:∃ y_:List (List Int),y_ = (x10_1.drop (x12_20:Int).toNat):=⟨_,rfl⟩
     replace H:(if y192.length + y195.length < 5864062014805 then ((some (y192 ++ y195:List (List Int))).bind fun y200=>((some (([]:List (List Int)):List (List Int))).bind fun y203=>((some (x10_1.take (x12_20:Int).toNat:List (List Int))).bind fun y206=>(if y203.length + y206.length < 5864062014805 then ((some (y203 ++ y206:List (List Int))).bind fun y211=>(if y211.length + y200.length < 5864062014805 then (spec_Parts.l0 kj20 (y211 ++ y200) (wrap64 (x11_1 + 1)) t167 t170 y179) else (none))) else (none))))) else (none)) = some r:=by first|(rw [hy195];with_reducible exact H)|(have H2_:=(Option.bind_some _ _).symm.trans H;rw [hy195];with_reducible exact H2_)|(have H2_:=(Option.bind_some _ _).symm.trans H;with_reducible exact H2_)|with_reducible exact H|(rw [hy195];exact H)|exact H
     have Ny195:=mk0 hy195
     clear hy195
     by_cases c46:y192.length + y195.length < 5864062014805
     rotate_left
     ·rw [if_neg c46] at H
      exact absurd H (by simp)
     rw [if_pos c46] at H
     have LMc46:=mk0 c46
     clear c46
     obtain⟨y200,hy200⟩:∃ y_:List (List Int),y_ = (y192 ++ y195):=⟨_,rfl⟩
     replace H:((some (([]:List (List Int)):List (List Int))).bind fun y203=>((some (x10_1.take (x12_20:Int).toNat:List (List Int))).bind fun y206=>(if y203.length + y206.length < 5864062014805 then ((some (y203 ++ y206:List (List Int))).bind fun y211=>(if y211.length + y200.length < 5864062014805 then (spec_Parts.l0 kj20 (y211 ++ y200) (wrap64 (x11_1 + 1)) t167 t170 y179) else (none))) else (none)))) = some r:=by first|(rw [hy200];with_reducible exact H)|(have H2_:=(Option.bind_some _ _).symm.trans H;rw [hy200];with_reducible exact H2_)|(have H2_:=(Option.bind_some _ _).symm.trans H;with_reducible exact H2_)|with_reducible exact H|(rw [hy200];exact H)|exact H
     have Ny200:=mk0 hy200
     clear hy200
     obtain⟨y203,hy203⟩:∃ y_:List (List Int),y_ = (([]:List (List Int))):=⟨_,rfl⟩
     replace H:((some (x10_1.take (x12_20:Int).toNat:List (List Int))).bind fun y206=>(if y203.length + y206.length < 5864062014805 then ((some (y203 ++ y206:List (List Int))).bind fun y211=>(if y211.length + y200.length < 5864062014805 then (spec_Parts.l0 kj20 (y211 ++ y200) (wrap64 (x11_1 + 1)) t167 t170 y179) else (none))) else (none))) = some r:=by first|(rw [hy203];with_reducible exact H)|(have H2_:=(Option.bind_some _ _).symm.trans H;rw [hy203];with_reducible exact H2_)|(have H2_:=(Option.bind_some _ _).symm.trans H;with_reducible exact H2_)|with_reducible exact H|(rw [hy203];exact H)|exact H
     have Ny203:=mk0 hy203
     clear hy203
     have c47b0:=eq_true (of_decide_eq_true (by first|(with_reducible assumption)|assumption):0 ≤ x12_20)
     have c48b0:=eq_true (of_decide_eq_true (by first|(with_reducible assumption)|assumption):x12_20 ≤ (x10_1.length:Int))
     obtain⟨y206,hy206⟩:∃ y_:List (List Int),y_ = (x10_1.take (x12_20:Int).toNat):=⟨_,rfl⟩
     replace H:(if y203.length + y206.length < 5864062014805 then ((some (y203 ++ y206:List (List Int))).bind fun y211=>(if y211.length + y200.length < 5864062014805 then (spec_Parts.l0 kj20 (y211 ++ y200) (wrap64 (x11_1 + 1)) t167 t170 y179) else (none))) else (none)) = some r:=by first|(rw [hy206];with_reducible exact H)|(have H2_:=(Option.bind_some _ _).symm.trans H;rw [hy206];with_reducible exact H2_)|(have H2_:=(Option.bind_some _ _).symm.trans H;with_reducible exact H2_)|with_reducible exact H|(rw [hy206];exact H)|exact H
     have Ny206:=mk0 hy206
     clear hy206
     by_cases c49:y203.length + y206.length < 5864062014805
     rotate_left
     ·rw [if_neg c49] at H
      exact absurd H (by simp)
     rw [if_pos c49] at H
     have LMc49:=mk0 c49
     clear c49
     obtain⟨y211,hy211⟩:∃ y_:List (List Int),y_ = (y203 ++ y206):=⟨_,rfl⟩
     replace H:(if y211.length + y200.length < 5864062014805 then (spec_Parts.l0 kj20 (y211 ++ y200) (wrap64 (x11_1 + 1)) t167 t170 y179) else (none)) = some r:=by first|(rw [hy211];with_reducible exact H)|(have H2_:=(Option.bind_some _ _).symm.trans H;rw [hy211];with_reducible exact H2_)|(have H2_:=(Option.bind_some _ _).symm.trans H;with_reducible exact H2_)|with_reducible exact H|(rw [hy211];exact H)|exact H
     have Ny211:=mk0 hy211
     clear hy211
     by_cases c50:y211.length + y200.length < 5864062014805
     rotate_left
     ·rw [if_neg c50] at H
      exact absurd H (by simp)
     rw [if_pos c50] at H
     have LMc50:=mk0 c50
     clear c50
     obtain⟨y214,hy214⟩:∃ y_:List (List Int),y_ = (y211 ++ y200):=⟨_,rfl⟩
     replace H:(spec_Parts.l0 kj20 y214 (wrap64 (x11_1 + 1)) t167 t170 y179) = some r:=by first|(rw [hy214];with_reducible exact H)|(have H2_:=(Option.bind_some _ _).symm.trans H;rw [hy214];with_reducible exact H2_)|(have H2_:=(Option.bind_some _ _).symm.trans H;with_reducible exact H2_)|with_reducible exact H|(rw [hy214];exact H)|exact H
     have Ny214:=mk0 hy214
     clear hy214
     have H':=mk0 H
     clear H
     try go_wp2
     replace HO_7:=mk0 (dN HO_7.out)
     replace HO_8:=mk0 (dN HO_8.out)
     replace HO_9:=mk0 (dN HO_9.out)
     replace HO_10:=mk0 (dN HO_10.out)
     replace HB:=mk0 (dZ HB.out)
     have p191:0 ≤ (x11_1:Int):=of_decide_eq_true (by first|(with_reducible assumption)|assumption)
     have q191:x11_1 < (y179.length:Int):=of_decide_eq_true (by first|(with_reducible assumption)|assumption)
     obtain⟨ad191,A191_0,c191_0,e191,hx191_0,hl191_0,hi191_0⟩:=at_L2 (Kd.N_reads' HO_9.out).2.2 x11_1 p191 q191
     cases e191
     obtain⟨ce191,hce191,hMe191,hcc191⟩:=Kd.N_get HO_9.out [] x11_1 p191 (by first|exact q191|exact of_decide_eq_true (by first|(with_reducible assumption)|assumption)|(have e_:=(Kd.N_reads' HO_9.out).1;omega))
     obtain⟨ua191_0,uc191_0,rfl,ul191_0,ge191_0⟩:=Kd.FK_slice_open hMe191
     have hv191_0:=hcc191 0 _ rfl
     rw [Nat.add_zero,show ((Kd.slice 5 (Kd.int .u8))).sz = 1 from rfl,Nat.mul_one] at hv191_0
     replace hv191_0:=Option.some.inj (hv191_0.symm.trans hx191_0)
     injection hv191_0 with hva_ hvn_ hvc_
     rw [hva_] at ge191_0
     rw [hvc_] at ul191_0
     have HL191_0:=mk0 (show Kd.V (Kd.int .u8) 5 _ w.heap.size _ _ (rd_L2 y179 x11_1) from Kd.V_mk ul191_0 ge191_0)
     clear hva_ hvn_ hvc_ ge191_0 ul191_0
     clear hcc191 hce191
     have HR191_0:=mk0 hi191_0
     have HC191_0:=mk0 hl191_0
     clear hi191_0 hl191_0
     replace p191:=eq_true p191
     replace q191:=eq_true q191
     obtain⟨Ao53,co53,eo53⟩:=Kd.N_slice HO_10.out
     (first|subst eo53|(injection eo53 with f1_ f2_ f3_;have f4_:=f1_.symm;have f5_:=f3_.symm;clear f1_ f2_ f3_;subst f4_;subst f5_))
     have q52:(x12_20:Int) ≤ ((x10_1.length:Int):Int):=of_decide_eq_true (by first|(with_reducible assumption)|assumption)
     obtain⟨i052,hi052,_,hsz52,_⟩:=info_parts info22
     have hroom52:x10_1.length ≤ co53:=(Kd.N_reads' HO_10.out).2.1
     have hC52:Kd.F (Kd.slice 5 (Kd.int .u8)) _ _ Ao53 x10_1.length x10_1:=(Kd.V_at (base:=w.heap.size) (Kd.N_V HO_10.out)).2.2
     have q052:(0:Int) ≤ (x12_20:Int):=of_decide_eq_true (by first|(with_reducible assumption)|assumption)
     have hcut52:=cut_from (P:=Try.prog) 66 22 .i64 Try.underlying66 hi052 1 hsz52 Ao53 x10_1.length co53 x12_20 q052 q52
     have hr52:=Kd.F_cut (m:=(x12_20:Int).toNat) (c:=co53) hC52 (by omega) hroom52
     obtain⟨A52,hA52⟩:∃ A1,A1 = (if co53 = (x12_20:Int).toNat then Ao53 else (Ao53:Option Addr).map (·.add ((x12_20:Int).toNat * 1))):=⟨_,rfl⟩
     obtain⟨c52,hc52⟩:∃ c1,c1 = co53 - (x12_20:Int).toNat:=⟨_,rfl⟩
     have hy52:y195.length = x10_1.length - (x12_20:Int).toNat:=(by rw [Ny195.out,List.length_drop] <;> omega)
     rw [show (x10_1).drop (x12_20:Int).toNat = y195 from Ny195.out.symm] at hr52
     replace hr52:Kd.F (Kd.slice 5 (Kd.int .u8)) _ _ A52 y195.length y195:=(by rw [hA52];exact hr52)
     rw [← hy52, ← hA52, ← hc52] at hcut52
     have HO199:=mk0 (show Kd.V (Kd.slice 5 (Kd.int .u8)) 22 _ w.heap.size _ (.slice A52 y195.length c52) y195 from Kd.V_mk (by rw [hy52,hc52];exact Nat.sub_le_sub_right hroom52 _) hr52)
     have HC199:=mk0 (show y195.length ≤ c52 from by rw [hy52,hc52];exact Nat.sub_le_sub_right hroom52 _)
     clear hr52 hC52 hroom52 hi052 hsz52 hc52
     have KY52:=mk0 hy52
     have KA52:=mk0 hA52
     clear hy52 hA52
     replace q52:=eq_true q52
     refine start_ (n:=10) (S:=fun w'=>w'.cell? (ad191.add (x11_1).toNat) = some (.slice A191_0 (rd_L2 y179 x11_1).length c191_0)) (ds:=[8]) (bm 10 0) (by kernel_rfl) rfl (by kernel_rfl) (hx191_0) (fun hHeld=>?_);refine with_tabW spec_Parts.tab16 spec_Parts.bits16 (fun HT_ HW_=>?_)
     generalize wc.drew = w51 at HO_7 HO_8 HO_9 HO_10 HB HL191_0 HO199 HR191_0 hx191_0 hHeld ⊢
     refine pU 0 (some 74) (bm 10 1) HT_ ?_
     refine pU 1 (some 75) (bm 10 3) HT_ ?_
     refine pU 2 (some 76) (bm 10 7) HT_ ?_
     refine pU 5 (some 79) (bm 10 39) HT_ ?_
     refine pU 6 (some 80) (bm 10 103) HT_ ?_
     refine pU 7 (some 81) (bm 10 231) HT_ ?_
     refine take_ (i:=3) (N:=some 77) (v:=?_) (a':=?_) (bm 10 239) rfl rfl (take_ofW HT_.out HW_.out (by kernel_rfl)) (fun _ _ _ h=>h) (Or.inl ⟨by rfl,?_⟩) hHeld ?_ ?_
     rotate_left
     ·intro w' s0
      go_simp
      with_reducible rfl
     rotate_left
     ·simp only [Act.put,sA,sO,sS,i64_w,i32_w]
      rfl
     refine pO 4 (some 78) (bm 10 255) HT_ (fun K hK=>?_)
     refine Kd.N_lit_step (Kd.slice 5 (Kd.int .u8)) _ 22 ?hg (N':=78) ?hd (xs:=([rd_L2 y179 x11_1]:List (List Int))) (inner:=[.slice A191_0 (rd_L2 y179 x11_1).length c191_0]) (ok:=(fun k_=>((P0_ k_ ∨ P1_ k_) ∨ w.heap.size ≤ k_) ∧ some k_ ≠ (.slice (some ad191) y179.length co22:Value).ownBlock ∧ some k_ ≠ (.slice Ao53 x10_1.length co53:Value).ownBlock)) (okp:=(fun k_=>((P0_ k_ ∨ P1_ k_) ∨ w.heap.size ≤ k_) ∧ some k_ ≠ (.slice (some ad191) y179.length co22:Value).ownBlock ∧ some k_ ≠ (.slice Ao53 x10_1.length co53:Value).ownBlock)) ?hr ?hp (fun _ hk=>hk) ((show ∀ k_,w51.heap.size ≤ k_ → (fun k_=>((P0_ k_ ∨ P1_ k_) ∨ w.heap.size ≤ k_) ∧ some k_ ≠ (.slice (some ad191) y179.length co22:Value).ownBlock ∧ some k_ ≠ (.slice Ao53 x10_1.length co53:Value).ownBlock) k_ from fun k_ hk=>⟨(.inr (Nat.le_trans (kZ HB.out) hk)),Kd.fresh' (Kd.N_lt (rN HO_9.out)) k_ hk,Kd.fresh' (Kd.N_lt (rN HO_10.out)) k_ hk⟩) _ (Nat.le_refl _)) (Below.refl _ _) (Nat.le_refl _) (by simp) ?_;(case hd=>rfl);(case hg=>rfl);(case hr=>first|(go_simp;done)|(go_simp;rfl));(case hp=>exact (Reps.one (show Kd.FK (Kd.slice 5 (Kd.int .u8)) _ _ (rd_L2 y179 x11_1) [.slice A191_0 (rd_L2 y179 x11_1).length c191_0] from (Kd.FK_slice_mk (Kd.V_reads' (Kd.V_mono (ok':=(fun k_=>((P0_ k_ ∨ P1_ k_) ∨ w.heap.size ≤ k_) ∧ some k_ ≠ (.slice (some ad191) y179.length co22:Value).ownBlock ∧ some k_ ≠ (.slice Ao53 x10_1.length co53:Value).ownBlock)) (HL191_0.out) (fun k_ hk=>⟨hk.1.1,⟨hk.2,hk.1.2⟩⟩))).2.1 (Kd.V_F (Kd.V_mono (ok':=(fun k_=>((P0_ k_ ∨ P1_ k_) ∨ w.heap.size ≤ k_) ∧ some k_ ≠ (.slice (some ad191) y179.length co22:Value).ownBlock ∧ some k_ ≠ (.slice Ao53 x10_1.length co53:Value).ownBlock)) (HL191_0.out) (fun k_ hk=>⟨hk.1.1,⟨hk.2,hk.1.2⟩⟩))))) (Reps.none _ _)))
     intro v193 w54 ho55 hb hg_ hnew_
     have HS0_:=(hb.cell (World.block_lt_of_cell? _ _ (hHeld))).trans (hHeld)
     clear hg_ hnew_
     (first|rw [← Ny192.out] at ho55|(simp only [Int.reduceToNat] at ho55;rw [← Ny192.out] at ho55))
     replace HO_7:=mk0 (Kd.N_elder' (rN HO_7.out) (Kd.N_base ho55) hb)
     replace HO_8:=mk0 (Kd.N_elder' (rN HO_8.out) (Kd.N_base ho55) hb)
     replace HO_9:=mk0 (Kd.N_elder' (rN HO_9.out) (Kd.N_base ho55) hb)
     replace HO_10:=mk0 (Kd.N_elder' (rN HO_10.out) (Kd.N_base ho55) hb)
     replace HO199:=mk0 (Kd.V_elder' (rV HO199.out) (Kd.N_base ho55) hb)
     have HO194:=mk0 (Kd.N_lower ho55 (kZ HB.out))
     replace HR191_0:=mk0 (Kd.C_below (by repeat (first|(with_reducible exact HR191_0.out)|(with_reducible first|apply aC|apply nC|apply dC)|exact HR191_0.out|exact (Kd.V_reads' HL191_0.out).2.2)) hb)
     replace HL191_0:=mk0 (Kd.V_elder' (rV HL191_0.out) (Kd.N_base ho55) hb)
     replace HB:=mk0 (kS HB.out hb)
     clear hb ho55
     refine hK.out _ _ (HS0_) (fun hHeld=>?_)
     clear hK K
     refine pN (some 78) ?_
     refine pL 8 (some 82) (bm 10 511) HT_ (fun K hK=>?_)
     refine Kd.N_append_rows_step (Kd.slice 5 (Kd.int .u8)) (w0:=w) w.heap.size (by rfl) (.tmp 78) (.tmp 81) 66 22 (.slice none 0 0) 24 rfl Try.underlying66 info22 rfl (by decide) (by omega) v193 y192 y195 _ _ _ (fun k_=>((P0_ k_ ∨ P1_ k_) ∨ w.heap.size ≤ k_) ∧ some k_ ≠ (.slice (some ad191) y179.length co22:Value).ownBlock) (fun k_=>((fun k_=>((P0_ k_ ∨ P1_ k_) ∨ w.heap.size ≤ k_) ∧ some k_ ≠ (.slice (some ad191) y179.length co22:Value).ownBlock)) k_ ∧ some k_ ≠ (v193:Value).ownBlock) rfl rfl ?aO ?aR (fun _ hk=>hk) ?aF ?aB ?aS ?aL ?_
     (case aR=>exact (by skip;exact Kd.V_F (Kd.V_mono (ok':=(fun k_=>((fun k_=>((P0_ k_ ∨ P1_ k_) ∨ w.heap.size ≤ k_) ∧ some k_ ≠ (.slice (some ad191) y179.length co22:Value).ownBlock)) k_ ∧ some k_ ≠ (v193:Value).ownBlock)) (HO199.out) (fun k_ hk=>⟨⟨hk.1.1,hk.1.2⟩,hk.2⟩))))
     (case aB=>exact (kB HB.out))
     (case aF=>exact (fun k_ hk=>⟨(.inr (Nat.le_trans (kZ HB.out) hk)),Kd.fresh' (Kd.N_lt (rN HO_9.out)) k_ hk⟩))
     (case aO=>exact (rN (Kd.N_mono HO194.out (fun _ hk=>⟨hk.1,hk.2.1⟩))))
     (case aS=>exact (kZ HB.out))
     (case aL=>have:=LMc46.out;omega)
     intro v201 w56 ho hb hg hat
     rw [← Ny200.out] at ho
     replace HO_7:=mk0 (Kd.N_afterv (ok:=(fun k_=>((P0_ k_ ∨ P1_ k_) ∨ w.heap.size ≤ k_) ∧ some k_ ≠ (.slice Ao17 t170.length co17:Value).ownBlock ∧ some k_ ≠ (.slice (some ad191) y179.length co22:Value).ownBlock ∧ some k_ ≠ (.slice Ao53 x10_1.length co53:Value).ownBlock)) (rN HO_7.out) hg hat)
     replace HO_8:=mk0 (Kd.N_afterv (ok:=(fun k_=>((P0_ k_ ∨ P1_ k_) ∨ w.heap.size ≤ k_) ∧ some k_ ≠ (.slice Ao15 t167.length co15:Value).ownBlock ∧ some k_ ≠ (.slice (some ad191) y179.length co22:Value).ownBlock ∧ some k_ ≠ (.slice Ao53 x10_1.length co53:Value).ownBlock)) (rN HO_8.out) hg hat)
     replace HO_9:=mk0 (Kd.N_afterv (ok:=(fun k_=>((P0_ k_ ∨ P1_ k_) ∨ w.heap.size ≤ k_) ∧ some k_ ≠ (.slice Ao53 x10_1.length co53:Value).ownBlock)) (rN HO_9.out) hg hat)
     replace HO_10:=mk0 (Kd.N_afterv (ok:=(fun k_=>((P0_ k_ ∨ P1_ k_) ∨ w.heap.size ≤ k_) ∧ some k_ ≠ (.slice (some ad191) y179.length co22:Value).ownBlock)) (rN HO_10.out) hg hat)
     replace HL191_0:=mk0 (Kd.V_afterv (ok:=(fun k_=>((P0_ k_ ∨ P1_ k_) ∨ w.heap.size ≤ k_) ∧ some k_ ≠ (.slice (some ad191) y179.length co22:Value).ownBlock ∧ some k_ ≠ (.slice Ao53 x10_1.length co53:Value).ownBlock)) (rV (Kd.V_mono HL191_0.out (fun _ hk=>⟨⟨hk.1.1.1,⟨hk.1.2,hk.1.1.2⟩⟩,hk.2⟩))) hg hat)
     replace HO199:=mk0 (Kd.V_afterv (ok:=(fun k_=>((P0_ k_ ∨ P1_ k_) ∨ w.heap.size ≤ k_) ∧ some k_ ≠ (.slice (some ad191) y179.length co22:Value).ownBlock)) (rV HO199.out) hg hat)
     replace HB:=mk0 (hb)
     have HO202:=mk0 (ho)
     clear HO194
     clear ho hb hg hat
     refine hK.out _ _ ?_
     clear hK K
     refine pN (some 82) ?_
     refine pU 9 (some 14) (bm 10 1023) HT_ ?_
     refine pD HT_ ?_
     try go_wp2_with (first|((with_reducible refine gate_dst (N:=83) rfl ?_);refine Kd.N_lit (Kd.slice 5 (Kd.int .u8)) _ 22 ?hg (N':=83) ?hd (xs:=([]:List (List Int))) (inner:=[]) (ok:=(fun k_=>((P0_ k_ ∨ P1_ k_) ∨ w.heap.size ≤ k_) ∧ some k_ ≠ (.slice Ao15 t167.length co15:Value).ownBlock ∧ some k_ ≠ (.slice Ao17 t170.length co17:Value).ownBlock ∧ some k_ ≠ (.slice (some ad191) y179.length co22:Value).ownBlock ∧ some k_ ≠ (.slice Ao53 x10_1.length co53:Value).ownBlock ∧ some k_ ≠ (v201:Value).ownBlock)) (okp:=(fun k_=>((P0_ k_ ∨ P1_ k_) ∨ w.heap.size ≤ k_) ∧ some k_ ≠ (.slice Ao15 t167.length co15:Value).ownBlock ∧ some k_ ≠ (.slice Ao17 t170.length co17:Value).ownBlock ∧ some k_ ≠ (.slice (some ad191) y179.length co22:Value).ownBlock ∧ some k_ ≠ (.slice Ao53 x10_1.length co53:Value).ownBlock ∧ some k_ ≠ (v201:Value).ownBlock)) ?hr ?hp (fun _ hk=>hk) ((show ∀ k_,w56.heap.size ≤ k_ → (fun k_=>((P0_ k_ ∨ P1_ k_) ∨ w.heap.size ≤ k_) ∧ some k_ ≠ (.slice Ao15 t167.length co15:Value).ownBlock ∧ some k_ ≠ (.slice Ao17 t170.length co17:Value).ownBlock ∧ some k_ ≠ (.slice (some ad191) y179.length co22:Value).ownBlock ∧ some k_ ≠ (.slice Ao53 x10_1.length co53:Value).ownBlock ∧ some k_ ≠ (v201:Value).ownBlock) k_ from fun k_ hk=>⟨(.inr (Nat.le_trans (kZ HB.out) hk)),Kd.fresh' (Kd.N_lt (rN HO_7.out)) k_ hk,Kd.fresh' (Kd.N_lt (rN HO_8.out)) k_ hk,Kd.fresh' (Kd.N_lt (rN HO_9.out)) k_ hk,Kd.fresh' (Kd.N_lt (rN HO_10.out)) k_ hk,Kd.fresh' (Kd.N_lt (rN HO202.out)) k_ hk⟩) _ (Nat.le_refl _)) (Below.refl _ _) (Nat.le_refl _) (by simp) ?_;(case hd=>rfl);(case hg=>rfl);(case hr=>first|(go_simp;done)|(go_simp;rfl));(case hp=>exact (Reps.none _ _));intro v204 w57 ho58 hb hg_ hnew_;clear hg_ hnew_;(first|rw [← Ny203.out] at ho58|(simp only [Int.reduceToNat] at ho58;rw [← Ny203.out] at ho58));replace HO_7:=mk0 (Kd.N_elder' (rN HO_7.out) (Kd.N_base ho58) hb);replace HO_8:=mk0 (Kd.N_elder' (rN HO_8.out) (Kd.N_base ho58) hb);replace HO_9:=mk0 (Kd.N_elder' (rN HO_9.out) (Kd.N_base ho58) hb);replace HO_10:=mk0 (Kd.N_elder' (rN HO_10.out) (Kd.N_base ho58) hb);replace HL191_0:=mk0 (Kd.V_elder' (rV HL191_0.out) (Kd.N_base ho58) hb);replace HO199:=mk0 (Kd.V_elder' (rV HO199.out) (Kd.N_base ho58) hb);replace HO202:=mk0 (Kd.N_elder' (rN HO202.out) (Kd.N_base ho58) hb);have HO205:=mk0 (Kd.N_lower ho58 (kZ HB.out));replace HB:=mk0 (kS HB.out hb);clear hb ho58;have q59:(x12_20:Int) ≤ ((x10_1.length:Int):Int):=of_decide_eq_true (by first|(with_reducible assumption)|assumption);obtain⟨i059,hi059,_,hsz59,_⟩:=info_parts info22;have hroom59:x10_1.length ≤ co53:=(Kd.N_reads' HO_10.out).2.1;have hC59:Kd.F (Kd.slice 5 (Kd.int .u8)) _ _ Ao53 x10_1.length x10_1:=(Kd.V_at (base:=w.heap.size) (Kd.N_V HO_10.out)).2.2;have hcut59:=cut_to (P:=Try.prog) 66 22 .i64 Try.underlying66 hi059 Ao53 x10_1.length co53 x12_20 (of_decide_eq_true (by first|(with_reducible assumption)|assumption)) q59 hroom59;have hr59:=Kd.F_take (m:=(x12_20:Int).toNat) hC59 (by omega);have hy59:y206.length = (x12_20:Int).toNat:=(by rw [Ny206.out,List.length_take];omega);rw [← Ny206.out] at hr59;rw [← hy59] at hcut59;have HO210:=mk0 (show Kd.V (Kd.slice 5 (Kd.int .u8)) 22 _ w.heap.size _ (.slice Ao53 y206.length co53) y206 from Kd.V_mk (by omega) hr59);have HC210:=mk0 (show y206.length ≤ co53 from by omega);clear hr59 hC59 hroom59 hi059 hsz59;have KY59:=mk0 hy59;clear hy59;replace q59:=eq_true q59)|((with_reducible refine gate_builtin (b:=.append) (xs:=#[.tmp 83,.tmp 86]) rfl ?_);at_builtin;refine Kd.N_append_rows (Kd.slice 5 (Kd.int .u8)) (w0:=w) w.heap.size rfl (.tmp 83) (.tmp 86) 66 22 (.slice none 0 0) 24 rfl Try.underlying66 info22 rfl (by decide) (by omega) v204 y203 y206 _ _ _ (fun k_=>((P0_ k_ ∨ P1_ k_) ∨ w.heap.size ≤ k_) ∧ some k_ ≠ (.slice (some ad191) y179.length co22:Value).ownBlock ∧ some k_ ≠ (v201:Value).ownBlock) (fun k_=>((fun k_=>((P0_ k_ ∨ P1_ k_) ∨ w.heap.size ≤ k_) ∧ some k_ ≠ (.slice (some ad191) y179.length co22:Value).ownBlock ∧ some k_ ≠ (v201:Value).ownBlock)) k_ ∧ some k_ ≠ (v204:Value).ownBlock) rfl rfl ?aO ?aR (fun _ hk=>hk) ?aF ?aB ?aS ?aL ?_;(case aR=>exact (by skip;exact Kd.V_F (Kd.V_mono (ok':=(fun k_=>((fun k_=>((P0_ k_ ∨ P1_ k_) ∨ w.heap.size ≤ k_) ∧ some k_ ≠ (.slice (some ad191) y179.length co22:Value).ownBlock ∧ some k_ ≠ (v201:Value).ownBlock)) k_ ∧ some k_ ≠ (v204:Value).ownBlock)) (HO210.out) (fun k_ hk=>⟨⟨hk.1.1.1,⟨hk.1.1.2,hk.1.2⟩⟩,hk.2⟩))));(case aB=>exact (kB HB.out));(case aF=>exact (fun k_ hk=>⟨(.inr (Nat.le_trans (kZ HB.out) hk)),Kd.fresh' (Kd.N_lt (rN HO_9.out)) k_ hk,Kd.fresh' (Kd.N_lt (rN HO202.out)) k_ hk⟩));(case aO=>exact (rN (Kd.N_mono HO205.out (fun _ hk=>⟨hk.1,⟨hk.2.2.2.1,hk.2.2.2.2.2⟩⟩))));(case aS=>exact (kZ HB.out));(case aL=>have:=LMc49.out;omega);intro v212 w60 ho hb hg hat;rw [← Ny211.out] at ho;replace HO_7:=mk0 (Kd.N_afterv (ok:=(fun k_=>((P0_ k_ ∨ P1_ k_) ∨ w.heap.size ≤ k_) ∧ some k_ ≠ (.slice Ao17 t170.length co17:Value).ownBlock ∧ some k_ ≠ (.slice (some ad191) y179.length co22:Value).ownBlock ∧ some k_ ≠ (.slice Ao53 x10_1.length co53:Value).ownBlock ∧ some k_ ≠ (v201:Value).ownBlock)) (rN (Kd.N_mono HO_7.out (fun _ hk=>⟨⟨hk.1.1.1,⟨hk.1.1.2.1,⟨hk.1.1.2.2.1,⟨hk.1.1.2.2.2,hk.1.2⟩⟩⟩⟩,hk.2⟩))) hg hat);replace HO_8:=mk0 (Kd.N_afterv (ok:=(fun k_=>((P0_ k_ ∨ P1_ k_) ∨ w.heap.size ≤ k_) ∧ some k_ ≠ (.slice Ao15 t167.length co15:Value).ownBlock ∧ some k_ ≠ (.slice (some ad191) y179.length co22:Value).ownBlock ∧ some k_ ≠ (.slice Ao53 x10_1.length co53:Value).ownBlock ∧ some k_ ≠ (v201:Value).ownBlock)) (rN (Kd.N_mono HO_8.out (fun _ hk=>⟨⟨hk.1.1.1,⟨hk.1.1.2.1,⟨hk.1.1.2.2.1,⟨hk.1.1.2.2.2,hk.1.2⟩⟩⟩⟩,hk.2⟩))) hg hat);replace HO_9:=mk0 (Kd.N_afterv (ok:=(fun k_=>((P0_ k_ ∨ P1_ k_) ∨ w.heap.size ≤ k_) ∧ some k_ ≠ (.slice Ao53 x10_1.length co53:Value).ownBlock ∧ some k_ ≠ (v201:Value).ownBlock)) (rN (Kd.N_mono HO_9.out (fun _ hk=>⟨⟨hk.1.1.1,⟨hk.1.1.2,hk.1.2⟩⟩,hk.2⟩))) hg hat);replace HO_10:=mk0 (Kd.N_afterv (ok:=(fun k_=>((P0_ k_ ∨ P1_ k_) ∨ w.heap.size ≤ k_) ∧ some k_ ≠ (.slice (some ad191) y179.length co22:Value).ownBlock ∧ some k_ ≠ (v201:Value).ownBlock)) (rN (Kd.N_mono HO_10.out (fun _ hk=>⟨⟨hk.1.1.1,⟨hk.1.1.2,hk.1.2⟩⟩,hk.2⟩))) hg hat);replace HL191_0:=mk0 (Kd.V_afterv (ok:=(fun k_=>((P0_ k_ ∨ P1_ k_) ∨ w.heap.size ≤ k_) ∧ some k_ ≠ (.slice (some ad191) y179.length co22:Value).ownBlock ∧ some k_ ≠ (.slice Ao53 x10_1.length co53:Value).ownBlock ∧ some k_ ≠ (v201:Value).ownBlock)) (rV (Kd.V_mono HL191_0.out (fun _ hk=>⟨⟨hk.1.1.1,⟨hk.1.1.2.1,⟨hk.1.1.2.2,hk.1.2⟩⟩⟩,hk.2⟩))) hg hat);replace HO199:=mk0 (Kd.V_afterv (ok:=(fun k_=>((P0_ k_ ∨ P1_ k_) ∨ w.heap.size ≤ k_) ∧ some k_ ≠ (.slice (some ad191) y179.length co22:Value).ownBlock ∧ some k_ ≠ (v201:Value).ownBlock)) (rV (Kd.V_mono HO199.out (fun _ hk=>⟨⟨hk.1.1.1,⟨hk.1.1.2,hk.1.2⟩⟩,hk.2⟩))) hg hat);replace HO202:=mk0 (Kd.N_afterv (ok:=(fun k_=>((P0_ k_ ∨ P1_ k_) ∨ w.heap.size ≤ k_) ∧ some k_ ≠ (.slice (some ad191) y179.length co22:Value).ownBlock)) (rN HO202.out) hg hat);replace HO210:=mk0 (Kd.V_afterv (ok:=(fun k_=>((P0_ k_ ∨ P1_ k_) ∨ w.heap.size ≤ k_) ∧ some k_ ≠ (.slice (some ad191) y179.length co22:Value).ownBlock ∧ some k_ ≠ (v201:Value).ownBlock)) (rV (Kd.V_mono HO210.out (fun _ hk=>⟨⟨hk.1.1.1,⟨hk.1.1.2,hk.1.2⟩⟩,hk.2⟩))) hg hat);replace HB:=mk0 (hb);have HO213:=mk0 (ho);clear HO205 ho hb hg hat;obtain⟨Ao62,co62,eo62⟩:=Kd.N_slice HO202.out;subst eo62)|((with_reducible refine gate_builtin (b:=.append) (xs:=#[.tmp 87,.tmp 88]) rfl ?_);at_builtin;refine Kd.N_append_rows (Kd.slice 5 (Kd.int .u8)) (w0:=w) w.heap.size rfl (.tmp 87) (.tmp 88) 66 22 (.slice none 0 0) 24 rfl Try.underlying66 info22 rfl (by decide) (by omega) v212 y211 y200 _ _ _ (fun k_=>((P0_ k_ ∨ P1_ k_) ∨ w.heap.size ≤ k_) ∧ some k_ ≠ (.slice (some ad191) y179.length co22:Value).ownBlock) (fun k_=>((fun k_=>((P0_ k_ ∨ P1_ k_) ∨ w.heap.size ≤ k_) ∧ some k_ ≠ (.slice (some ad191) y179.length co22:Value).ownBlock)) k_ ∧ some k_ ≠ (v212:Value).ownBlock) rfl rfl ?aO ?aR (fun _ hk=>hk) ?aF ?aB ?aS ?aL ?_;(case aR=>exact (by skip;exact Kd.N_F (Kd.N_mono (ok':=(fun k_=>((fun k_=>((P0_ k_ ∨ P1_ k_) ∨ w.heap.size ≤ k_) ∧ some k_ ≠ (.slice (some ad191) y179.length co22:Value).ownBlock)) k_ ∧ some k_ ≠ (v212:Value).ownBlock)) (HO202.out) (fun k_ hk=>⟨⟨hk.1.1,hk.1.2⟩,hk.2⟩))));(case aB=>exact (kB HB.out));(case aF=>exact (fun k_ hk=>⟨(.inr (Nat.le_trans (kZ HB.out) hk)),Kd.fresh' (Kd.N_lt (rN HO_9.out)) k_ hk⟩));(case aO=>exact (rN (Kd.N_mono HO213.out (fun _ hk=>⟨hk.1,hk.2.1⟩))));(case aS=>exact (kZ HB.out));(case aL=>have:=LMc50.out;omega);intro v215 w61 ho hb hg hat;rw [← Ny214.out] at ho;replace HO_7:=mk0 (Kd.N_afterv (ok:=(fun k_=>((P0_ k_ ∨ P1_ k_) ∨ w.heap.size ≤ k_) ∧ some k_ ≠ (.slice Ao17 t170.length co17:Value).ownBlock ∧ some k_ ≠ (.slice (some ad191) y179.length co22:Value).ownBlock ∧ some k_ ≠ (.slice Ao53 x10_1.length co53:Value).ownBlock ∧ some k_ ≠ (.slice Ao62 y200.length co62:Value).ownBlock)) (rN HO_7.out) hg hat);replace HO_8:=mk0 (Kd.N_afterv (ok:=(fun k_=>((P0_ k_ ∨ P1_ k_) ∨ w.heap.size ≤ k_) ∧ some k_ ≠ (.slice Ao15 t167.length co15:Value).ownBlock ∧ some k_ ≠ (.slice (some ad191) y179.length co22:Value).ownBlock ∧ some k_ ≠ (.slice Ao53 x10_1.length co53:Value).ownBlock ∧ some k_ ≠ (.slice Ao62 y200.length co62:Value).ownBlock)) (rN HO_8.out) hg hat);replace HO_9:=mk0 (Kd.N_afterv (ok:=(fun k_=>((P0_ k_ ∨ P1_ k_) ∨ w.heap.size ≤ k_) ∧ some k_ ≠ (.slice Ao53 x10_1.length co53:Value).ownBlock ∧ some k_ ≠ (.slice Ao62 y200.length co62:Value).ownBlock)) (rN HO_9.out) hg hat);replace HO_10:=mk0 (Kd.N_afterv (ok:=(fun k_=>((P0_ k_ ∨ P1_ k_) ∨ w.heap.size ≤ k_) ∧ some k_ ≠ (.slice (some ad191) y179.length co22:Value).ownBlock ∧ some k_ ≠ (.slice Ao62 y200.length co62:Value).ownBlock)) (rN HO_10.out) hg hat);replace HL191_0:=mk0 (Kd.V_afterv (ok:=(fun k_=>((P0_ k_ ∨ P1_ k_) ∨ w.heap.size ≤ k_) ∧ some k_ ≠ (.slice (some ad191) y179.length co22:Value).ownBlock ∧ some k_ ≠ (.slice Ao53 x10_1.length co53:Value).ownBlock ∧ some k_ ≠ (.slice Ao62 y200.length co62:Value).ownBlock)) (rV HL191_0.out) hg hat);replace HO199:=mk0 (Kd.V_afterv (ok:=(fun k_=>((P0_ k_ ∨ P1_ k_) ∨ w.heap.size ≤ k_) ∧ some k_ ≠ (.slice (some ad191) y179.length co22:Value).ownBlock ∧ some k_ ≠ (.slice Ao62 y200.length co62:Value).ownBlock)) (rV HO199.out) hg hat);replace HO202:=mk0 (Kd.N_afterv (ok:=(fun k_=>((P0_ k_ ∨ P1_ k_) ∨ w.heap.size ≤ k_) ∧ some k_ ≠ (.slice (some ad191) y179.length co22:Value).ownBlock)) (rN HO202.out) hg hat);replace HO210:=mk0 (Kd.V_afterv (ok:=(fun k_=>((P0_ k_ ∨ P1_ k_) ∨ w.heap.size ≤ k_) ∧ some k_ ≠ (.slice (some ad191) y179.length co22:Value).ownBlock ∧ some k_ ≠ (.slice Ao62 y200.length co62:Value).ownBlock)) (rV HO210.out) hg hat);replace HB:=mk0 (hb);have HO216:=mk0 (ho);clear HO213 ho hb hg hat))
     go_roundg kj20
     case measure=>have:=HK1.out;have:=HJ20.out;omega
     case rel=>exact⟨(y214),(wrap64 (x11_1 + 1)),(by first|rfl|(simp;done)|(simp [*];done)),H',⟨by have:=HK1.out;have:=HJ20.out;omega⟩,⟨rN HO216.out⟩,⟨rN (Kd.N_mono HO_7.out (fun _ hk=>⟨hk.1.1,⟨hk.2,⟨hk.1.2.1,hk.1.2.2.1⟩⟩⟩))⟩,⟨rN (Kd.N_mono HO_8.out (fun _ hk=>⟨hk.1.1,⟨hk.2,⟨hk.1.2.1,hk.1.2.2.1⟩⟩⟩))⟩,⟨rN (Kd.N_mono HO_9.out (fun _ hk=>⟨hk.1.1,hk.2⟩))⟩,⟨kB HB.out⟩⟩
end Go.Proofs.Ytadhngelhognaaa.QFnExactParts
