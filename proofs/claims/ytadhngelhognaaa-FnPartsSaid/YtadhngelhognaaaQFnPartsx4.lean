-- A walk, made by walk.py, a program of this session's.
import Derived.Test.YtadhngelhognaaaQFnPartsx0
import Derived.Test.YtadhngelhognaaaQFnPartsx2
import Derived.Test.YtadhngelhognaaaQFnPartsx3
namespace Go.Proofs.Ytadhngelhognaaa.QFnParts
open Go.RowKit Go.Proofs.YtadhngelhognaaaW.PrintWords Go.Proofs.YtadhngelhognaaaW.PrintLast Go.Proofs.YtadhngelhognaaaW.PrintMore
attribute [local go_sem] max2_int min2_int max_two min_two max_three min_three max_four min_four   -- for this text's walks alone
set_option linter.unusedVariables false
set_option linter.unusedSimpArgs false

/-! ### spec_Parts: function 27 -/
mutual
def spec_Parts.l0 : Nat → List (List Int) → Int → List (List Int) → List (List Int) → List (List Int) → Option ((List (S48)))
 | 0, _, _, _, _, _ => none
 | k + 1, x10, x11, x25, x28, x33 => if x11 < (x33.length : Int) then (spec_Parts.l1 k x10 x11 0 false x25 x28 x33) else (spec_Parts.l2 k x10 (([] : List (S48))) 0 x25 x28)
def spec_Parts.j2 : Nat → List (List Int) → List (List Int) → List (List Int) → List (List Int) → Int → Int → Bool → Option ((List (S48)))
 | 0, _, _, _, _, _, _, _ => none
 | k + 1, x7, x8, x9, x10, x11, x12, x13 => if x13 = true then (spec_Parts.l0 k x10 (wrap64 (x11 + 1)) x7 x8 x9) else (if 0 ≤ x11 then (if x11 < (x9.length : Int) then ((some (([rd_L3 x9 x11] : List (List Int)) : List (List Int))).bind fun y330 => (if 0 ≤ x12 then (if x12 ≤ (x10.length : Int) then ((some (x10.drop (x12 : Int).toNat : List (List Int))).bind fun y333 => (if y330.length + y333.length < 5864062014805 then ((some (y330 ++ y333 : List (List Int))).bind fun y338 => ((some (([] : List (List Int)) : List (List Int))).bind fun y341 => ((some (x10.take (x12 : Int).toNat : List (List Int))).bind fun y344 => (if y341.length + y344.length < 5864062014805 then ((some (y341 ++ y344 : List (List Int))).bind fun y349 => (if y349.length + y338.length < 5864062014805 then (spec_Parts.l0 k (y349 ++ y338) (wrap64 (x11 + 1)) x7 x8 x9) else (none))) else (none))))) else (none))) else (none)) else (none))) else (none)) else (none))
def spec_Parts.l1 : Nat → List (List Int) → Int → Int → Bool → List (List Int) → List (List Int) → List (List Int) → Option ((List (S48)))
 | 0, _, _, _, _, _, _, _ => none
 | k + 1, x10, x11, x12, x13, x25, x28, x33 => if x12 < (x10.length : Int) then (if 0 ≤ x12 then (if 0 ≤ x11 then (if x11 < (x33.length : Int) then ((spec_l05Cmp.f k (rd_L3 x10 x12) (rd_L3 x33 x11)).bind fun t325 => (if t325 ≤ 0 then (if x13 = true then (spec_Parts.l1 k x10 x11 (wrap64 (x12 + 1)) true x25 x28 x33) else ((spec_l05Cmp.f k (rd_L3 x10 x12) (rd_L3 x33 x11)).bind fun t328 => (spec_Parts.l1 k x10 x11 (wrap64 (x12 + 1)) (t328 == 0) x25 x28 x33))) else (spec_Parts.j2 k x25 x28 x33 x10 x11 x12 x13))) else (none)) else (none)) else (none)) else (spec_Parts.j2 k x25 x28 x33 x10 x11 x12 x13)
def spec_Parts.l2 : Nat → List (List Int) → List (S48) → Int → List (List Int) → List (List Int) → Option ((List (S48)))
 | 0, _, _, _, _, _ => none
 | k + 1, x10, x15, x16, x25, x28 => if x16 < (x10.length : Int) then ((some (([] : List Int) : List Int)).bind fun y358 => (if 0 ≤ x16 then (if y358.length + (rd_L3 x10 x16).length < 140737488355328 then ((spec_l13Span.f k x25 (rd_L3 x10 x16)).bind fun bt367 => ((spec_l13Span.f k x28 (rd_L3 x10 x16)).bind fun bt370 => (if x15.length < 2513169434916 then (spec_Parts.l2 k x10 (x15 ++ [(⟨(y358 ++ (rd_L3 x10 x16)), bt367.1, bt367.2, bt370.1, bt370.2⟩ : S48)]) (wrap64 (x16 + 1)) x25 x28) else (none)))) else (none)) else (none))) else (some x15)
end
def spec_Parts.f (k : Nat) (l0 : List Int) (l1 : List Int) (a2 : Int) : Option ((List (S48))) := (spec_l13Fit.f l0 l1 a2).bind fun t304 => (if t304 = true then ((spec_l13Heads.f k l0 a2).bind fun t305 => ((spec_l13Heads.f k l1 a2).bind fun t308 => ((some (([] : List (List Int)) : List (List Int))).bind fun y311 => (if y311.length + t305.length < 5864062014805 then ((some (y311 ++ t305 : List (List Int))).bind fun y314 => (if y314.length + t308.length < 5864062014805 then (spec_Parts.l0 k (([] : List (List Int))) 0 t305 t308 (y314 ++ t308)) else (none))) else (none))))) else (some ([] : List (S48))))
theorem spec_Parts.mono_l : ∀ k, (∀ y0 y1 y2 y3 y4, LeO (spec_Parts.l0 k y0 y1 y2 y3 y4) (spec_Parts.l0 (k + 1) y0 y1 y2 y3 y4)) ∧ (∀ y0 y1 y2 y3 y4 y5 y6, LeO (spec_Parts.j2 k y0 y1 y2 y3 y4 y5 y6) (spec_Parts.j2 (k + 1) y0 y1 y2 y3 y4 y5 y6)) ∧ (∀ y0 y1 y2 y3 y4 y5 y6, LeO (spec_Parts.l1 k y0 y1 y2 y3 y4 y5 y6) (spec_Parts.l1 (k + 1) y0 y1 y2 y3 y4 y5 y6)) ∧ (∀ y0 y1 y2 y3 y4, LeO (spec_Parts.l2 k y0 y1 y2 y3 y4) (spec_Parts.l2 (k + 1) y0 y1 y2 y3 y4))
 | 0 => ⟨fun _ _ _ _ _ r h => by simp [spec_Parts.l0] at h, fun _ _ _ _ _ _ _ r h => by simp [spec_Parts.j2] at h, fun _ _ _ _ _ _ _ r h => by simp [spec_Parts.l1] at h, fun _ _ _ _ _ r h => by simp [spec_Parts.l2] at h⟩
 | k + 1 => by
  obtain ⟨ih0, ih1, ih2, ih3⟩ := spec_Parts.mono_l k
  refine ⟨?_, ?_, ?_, ?_⟩
  ·intro y0 y1 y2 y3 y4
   unfold spec_Parts.l0
   repeat' first|(with_reducible first|exact ih0 _ _ _ _ _|exact ih1 _ _ _ _ _ _ _|exact ih2 _ _ _ _ _ _ _|exact ih3 _ _ _ _ _|exact spec_l05Cmp.mono _ _ _|exact spec_l13Heads.mono _ _ _|exact spec_l13Span.mono _ _ _|exact LeO.refl _|exact LeO.none _|refine LeO.ite ?_ ?_|refine LeO.bind ?_ (fun _ => ?_))|exact LeO.none _|refine LeO.ite ?_ ?_|refine LeO.bind ?_ (fun _ => ?_)
  ·intro y0 y1 y2 y3 y4 y5 y6
   unfold spec_Parts.j2
   repeat' first|(with_reducible first|exact ih0 _ _ _ _ _|exact ih1 _ _ _ _ _ _ _|exact ih2 _ _ _ _ _ _ _|exact ih3 _ _ _ _ _|exact spec_l05Cmp.mono _ _ _|exact spec_l13Heads.mono _ _ _|exact spec_l13Span.mono _ _ _|exact LeO.refl _|exact LeO.none _|refine LeO.ite ?_ ?_|refine LeO.bind ?_ (fun _ => ?_))|exact LeO.none _|refine LeO.ite ?_ ?_|refine LeO.bind ?_ (fun _ => ?_)
  ·intro y0 y1 y2 y3 y4 y5 y6
   unfold spec_Parts.l1
   repeat' first|(with_reducible first|exact ih0 _ _ _ _ _|exact ih1 _ _ _ _ _ _ _|exact ih2 _ _ _ _ _ _ _|exact ih3 _ _ _ _ _|exact spec_l05Cmp.mono _ _ _|exact spec_l13Heads.mono _ _ _|exact spec_l13Span.mono _ _ _|exact LeO.refl _|exact LeO.none _|refine LeO.ite ?_ ?_|refine LeO.bind ?_ (fun _ => ?_))|exact LeO.none _|refine LeO.ite ?_ ?_|refine LeO.bind ?_ (fun _ => ?_)
  ·intro y0 y1 y2 y3 y4
   unfold spec_Parts.l2
   repeat' first|(with_reducible first|exact ih0 _ _ _ _ _|exact ih1 _ _ _ _ _ _ _|exact ih2 _ _ _ _ _ _ _|exact ih3 _ _ _ _ _|exact spec_l05Cmp.mono _ _ _|exact spec_l13Heads.mono _ _ _|exact spec_l13Span.mono _ _ _|exact LeO.refl _|exact LeO.none _|refine LeO.ite ?_ ?_|refine LeO.bind ?_ (fun _ => ?_))|exact LeO.none _|refine LeO.ite ?_ ?_|refine LeO.bind ?_ (fun _ => ?_)
theorem spec_Parts.mono : ∀ a0 a1 a2 k, LeO (spec_Parts.f k a0 a1 a2) (spec_Parts.f (k + 1) a0 a1 a2) := by
 intro a0 a1 a2 k
 obtain ⟨ih0, ih1, ih2, ih3⟩ := spec_Parts.mono_l k
 unfold spec_Parts.f
 repeat' first|(with_reducible first|exact ih0 _ _ _ _ _|exact ih1 _ _ _ _ _ _ _|exact ih2 _ _ _ _ _ _ _|exact ih3 _ _ _ _ _|exact spec_l05Cmp.mono _ _ _|exact spec_l13Heads.mono _ _ _|exact spec_l13Span.mono _ _ _|exact LeO.refl _|exact LeO.none _|refine LeO.ite ?_ ?_|refine LeO.bind ?_ (fun _ => ?_))|exact LeO.none _|refine LeO.ite ?_ ?_|refine LeO.bind ?_ (fun _ => ?_)
def spec_Parts.T12 : Bool × List (List Nat × List Nat) := (true, [([], []), ([], []), ([1], [1]), ([0, 2], [0, 2]), ([3], [3]), ([4], [4]), ([4], [4]), ([5, 6, 4], [4, 5, 6]), ([7, 4], [4, 7]), ([4], [4]), ([4], [4]), ([9, 10, 4], [4, 9, 10]), ([11, 4], [4, 11]), ([8, 12, 4, 4], [4, 8, 12]), ([13, 4], [4, 13]), ([4, 14], [4, 14])])
def spec_Parts.B12 : List Nat := [0, 0, 2, 7, 15, 31, 31, 127, 255, 31, 31, 1567, 3615, 8191, 16383, 32767]
theorem spec_Parts.tab12 : rtab .any (opsOf Try.f27 12) = spec_Parts.T12 := by kernel_rfl
theorem spec_Parts.bits12 : waitsOk spec_Parts.T12.2 spec_Parts.B12 = true := by kernel_rfl
def spec_Parts.T13 : Bool × List (List Nat × List Nat) := (true, [([], []), ([0], [0]), ([1], [1]), ([1], [1]), ([2, 3, 1], [1, 2, 3]), ([4, 1], [1, 4]), ([1], [1]), ([1], [1]), ([6, 7, 1], [1, 6, 7]), ([8, 1], [1, 8]), ([5, 9, 1, 1], [1, 5, 9]), ([10, 1], [1, 10]), ([1, 11], [1, 11]), ([12, 10, 0, 1, 2, 3, 4, 5, 6, 7, 8, 9, 10, 11, 12], [0, 12])])
def spec_Parts.B13 : List Nat := [0, 1, 3, 3, 15, 31, 3, 3, 195, 451, 1023, 2047, 4095, 8191]
theorem spec_Parts.tab13 : rtab .any (opsOf Try.f27 13) = spec_Parts.T13 := by kernel_rfl
theorem spec_Parts.bits13 : waitsOk spec_Parts.T13.2 spec_Parts.B13 = true := by kernel_rfl
def spec_Parts.T16 : Bool × List (List Nat × List Nat) := (true, [([], []), ([], []), ([0, 1], [0, 1]), ([2], [2]), ([3], [3]), ([], []), ([], []), ([5, 6], [5, 6]), ([4, 7], [4, 7]), ([8, 8, 0, 1, 2, 3, 4, 5, 6, 7, 8], [8])])
def spec_Parts.B16 : List Nat := [0, 0, 3, 7, 15, 0, 0, 96, 255, 511]
theorem spec_Parts.tab16 : rtab .any (opsOf Try.f27 16) = spec_Parts.T16 := by kernel_rfl
theorem spec_Parts.bits16 : waitsOk spec_Parts.T16.2 spec_Parts.B16 = true := by kernel_rfl
set_option maxHeartbeats 8000000 in
set_option maxRecDepth 100000 in
theorem spec_Parts.calls (k : Nat) (P0_ : Nat → Prop) (A0 : Option Addr) (c0 : Nat) (l0 : List Int) (P1_ : Nat → Prop) (A1 : Option Addr) (c1 : Nat) (l1 : List Int) (a2 : Int) (r : List (S48)) (w : World) (hs0 : Kd.V (Kd.int .u8) 5 w w.heap.size (fun k_ => P0_ k_) (.slice A0 l0.length c0) l0) (hs1 : Kd.V (Kd.int .u8) 5 w w.heap.size (fun k_ => P1_ k_) (.slice A1 l1.length c1) l1) (h : spec_Parts.f k l0 l1 a2 = some r) :
  Calls Try.prog 27 #[.slice A0 l0.length c0, .slice A1 l1.length c1, .int .i64 a2] w fun e w' => ∃ v0_ : Value, e = .returned (v0_) ∧ Kd.N k48 48 w' w.heap.size (fun k_ => ((P0_ k_ ∨ P1_ k_) ∨ w.heap.size ≤ k_)) v0_ r ∧ Below w.heap.size w w' := by
 have hu48:=Try.underlying48
 have HO0:=mk0 (show Kd.V (Kd.int .u8) 5 w w.heap.size (fun k_=>((P0_ k_ ∨ P1_ k_) ∨ w.heap.size ≤ k_)) (.slice A0 l0.length c0) l0 from Kd.V_mono hs0 (fun k_ hk=>.inl (.inl hk)))
 have HO1:=mk0 (show Kd.V (Kd.int .u8) 5 w w.heap.size (fun k_=>((P0_ k_ ∨ P1_ k_) ∨ w.heap.size ≤ k_)) (.slice A1 l1.length c1) l1 from Kd.V_mono hs1 (fun k_ hk=>.inl (.inr hk)))
 have HB:=mk0 (Below.refl w.heap.size w)
 have H:((spec_l13Fit.f l0 l1 a2).bind fun t304=>(if t304 = true then ((spec_l13Heads.f k l0 a2).bind fun t305=>((spec_l13Heads.f k l1 a2).bind fun t308=>((some (([]:List (List Int)):List (List Int))).bind fun y311=>(if y311.length + t305.length < 5864062014805 then ((some (y311 ++ t305:List (List Int))).bind fun y314=>(if y314.length + t308.length < 5864062014805 then (spec_Parts.l0 k (([]:List (List Int))) 0 t305 t308 (y314 ++ t308)) else (none))) else (none))))) else (some ([]:List (S48))))) = some r:=h
 clear h
 replace H:=Option.bind_eq_some_iff.mp H
 obtain⟨t304,A40,H⟩:=H
 replace H:(if t304 = true then ((spec_l13Heads.f k l0 a2).bind fun t305=>((spec_l13Heads.f k l1 a2).bind fun t308=>((some (([]:List (List Int)):List (List Int))).bind fun y311=>(if y311.length + t305.length < 5864062014805 then ((some (y311 ++ t305:List (List Int))).bind fun y314=>(if y314.length + t308.length < 5864062014805 then (spec_Parts.l0 k (([]:List (List Int))) 0 t305 t308 (y314 ++ t308)) else (none))) else (none))))) else (some ([]:List (S48)))) = some r:=H
 have A4:=mk0 A40
 clear A40
 by_cases c5:t304 = true
 rotate_left
 ·replace c5:=Bool.eq_false_iff.mpr c5
  subst c5
  have H1:(some ([]:List (S48))) = some r:=by rw [if_neg (show ¬ (false = true) by decide)] at H;exact H
  clear H
  have H:=H1
  clear H1
  obtain rfl:=Option.some.inj H
  go_enter Try.func27,Try.ntmps27
  go_wp2_with (first|((with_reducible refine gate_callee (f:=35) rfl ?_);refine gL (some 21) Try.func35 #[.slice A0 l0.length c0,.slice A1 l1.length c1,.int .i64 a2] ?_;(with_reducible refine (spec_l13Fit.calls _ _ l0 _ _ l1 a2 false _ ?side1 ?side2 ?side3 ?side4 A4.out).mono ?_);(case side1=>exact kC (Kd.V_reads' HO0.out).2.2);(case side2=>exact (Kd.V_reads' HO0.out).2.1);(case side3=>exact kC (Kd.V_reads' HO1.out).2.2);(case side4=>exact (Kd.V_reads' HO1.out).2.1);rintro e w' ⟨rfl,⟨nd,rfl⟩⟩;refine⟨_,rfl,?_⟩))
  go_ret
  exact⟨_,by first|rfl|(simp [errW_none,errW_some] <;> rfl)|(simp [*,errW_none,errW_some] <;> rfl),by first|exact Kd.S_nil _ _ _ _ _|exact Kd.N_nil _ _ _ _ _|exact Kd.V_nil _ _ _ _ _|exact Kd.Q_nil _ _ _ _ _|exact Kd.R_nil _ _ _ _ _,kB HB.out⟩

 subst c5
 have H1:((spec_l13Heads.f k l0 a2).bind fun t305=>((spec_l13Heads.f k l1 a2).bind fun t308=>((some (([]:List (List Int)):List (List Int))).bind fun y311=>(if y311.length + t305.length < 5864062014805 then ((some (y311 ++ t305:List (List Int))).bind fun y314=>(if y314.length + t308.length < 5864062014805 then (spec_Parts.l0 k (([]:List (List Int))) 0 t305 t308 (y314 ++ t308)) else (none))) else (none))))) = some r:=by rw [if_pos rfl] at H;exact H
 clear H
 have H:=H1
 clear H1
 replace H:=Option.bind_eq_some_iff.mp H
 obtain⟨t305,A60,H⟩:=H
 replace H:((spec_l13Heads.f k l1 a2).bind fun t308=>((some (([]:List (List Int)):List (List Int))).bind fun y311=>(if y311.length + t305.length < 5864062014805 then ((some (y311 ++ t305:List (List Int))).bind fun y314=>(if y314.length + t308.length < 5864062014805 then (spec_Parts.l0 k (([]:List (List Int))) 0 t305 t308 (y314 ++ t308)) else (none))) else (none)))) = some r:=H
 have A6:=mk0 A60
 clear A60
 replace H:=Option.bind_eq_some_iff.mp H
 obtain⟨t308,A70,H⟩:=H
 replace H:((some (([]:List (List Int)):List (List Int))).bind fun y311=>(if y311.length + t305.length < 5864062014805 then ((some (y311 ++ t305:List (List Int))).bind fun y314=>(if y314.length + t308.length < 5864062014805 then (spec_Parts.l0 k (([]:List (List Int))) 0 t305 t308 (y314 ++ t308)) else (none))) else (none))) = some r:=H
 have A7:=mk0 A70
 clear A70
 obtain⟨y311,hy311⟩:∃ y_:List (List Int),y_ = (([]:List (List Int))):=⟨_,rfl⟩
 replace H:(if y311.length + t305.length < 5864062014805 then ((some (y311 ++ t305:List (List Int))).bind fun y314=>(if y314.length + t308.length < 5864062014805 then (spec_Parts.l0 k (([]:List (List Int))) 0 t305 t308 (y314 ++ t308)) else (none))) else (none)) = some r:=by first|(rw [hy311];with_reducible exact H)|(have H2_:=(Option.bind_some _ _).symm.trans H;rw [hy311];with_reducible exact H2_)|(have H2_:=(Option.bind_some _ _).symm.trans H;with_reducible exact H2_)|with_reducible exact H|(rw [hy311];exact H)|exact H
 have Ny311:=mk0 hy311
 clear hy311
 by_cases c8:y311.length + t305.length < 5864062014805
 rotate_left
 ·rw [if_neg c8] at H
  exact absurd H (by simp)
 rw [if_pos c8] at H
 have LMc8:=mk0 c8
 clear c8
 obtain⟨y314,hy314⟩:∃ y_:List (List Int),y_ = (y311 ++ t305):=⟨_,rfl⟩
 replace H:(if y314.length + t308.length < 5864062014805 then (spec_Parts.l0 k (([]:List (List Int))) 0 t305 t308 (y314 ++ t308)) else (none)) = some r:=by first|(rw [hy314];with_reducible exact H)|(have H2_:=(Option.bind_some _ _).symm.trans H;rw [hy314];with_reducible exact H2_)|(have H2_:=(Option.bind_some _ _).symm.trans H;with_reducible exact H2_)|with_reducible exact H|(rw [hy314];exact H)|exact H
 have Ny314:=mk0 hy314
 clear hy314
 by_cases c9:y314.length + t308.length < 5864062014805
 rotate_left
 ·rw [if_neg c9] at H
  exact absurd H (by simp)
 rw [if_pos c9] at H
 have LMc9:=mk0 c9
 clear c9
 obtain⟨y317,hy317⟩:∃ y_:List (List Int),y_ = (y314 ++ t308):=⟨_,rfl⟩
 replace H:(spec_Parts.l0 k (([]:List (List Int))) 0 t305 t308 y317) = some r:=by first|(rw [hy317];with_reducible exact H)|(have H2_:=(Option.bind_some _ _).symm.trans H;rw [hy317];with_reducible exact H2_)|(have H2_:=(Option.bind_some _ _).symm.trans H;with_reducible exact H2_)|with_reducible exact H|(rw [hy317];exact H)|exact H
 have Ny317:=mk0 hy317
 clear hy317
 obtain⟨y320,hy320⟩:∃ y_:List (List Int),y_ = (([]:List (List Int))):=⟨_,rfl⟩
 replace H:(spec_Parts.l0 k y320 0 t305 t308 y317) = some r:=by first|(rw [hy320];with_reducible exact H)|(have H2_:=(Option.bind_some _ _).symm.trans H;rw [hy320];with_reducible exact H2_)|(have H2_:=(Option.bind_some _ _).symm.trans H;with_reducible exact H2_)|with_reducible exact H|(rw [hy320];exact H)|exact H
 have Ny320:=mk0 hy320
 clear hy320
 have H':=mk0 H
 clear H
 go_enter Try.func27,Try.ntmps27
 go_wp2_with (first|((with_reducible refine gate_callee (f:=35) rfl ?_);refine gL (some 21) Try.func35 #[.slice A0 l0.length c0,.slice A1 l1.length c1,.int .i64 a2] ?_;(with_reducible refine (spec_l13Fit.calls _ _ l0 _ _ l1 a2 true _ ?side1 ?side2 ?side3 ?side4 A4.out).mono ?_);(case side1=>exact kC (Kd.V_reads' HO0.out).2.2);(case side2=>exact (Kd.V_reads' HO0.out).2.1);(case side3=>exact kC (Kd.V_reads' HO1.out).2.2);(case side4=>exact (Kd.V_reads' HO1.out).2.1);rintro e w' ⟨rfl,⟨nd,rfl⟩⟩;refine⟨_,rfl,?_⟩)|((with_reducible refine gate_callee (f:=52) rfl ?_);refine gL (some 25) Try.func52 #[.slice A0 l0.length c0,.int .i64 a2] ?_;(with_reducible refine (spec_l13Heads.calls k (fun k_=>((P0_ k_ ∨ P1_ k_) ∨ w.heap.size ≤ k_)) _ _ l0 a2 t305 _ ?side1 A6.out).mono ?_);(case side1=>exact HO0.out);rintro e w10 ⟨v306,rfl,ho0,hb⟩;refine⟨_,rfl,?_⟩;replace HO0:=mk0 (Kd.V_elder' (rV HO0.out) (Kd.N_base ho0) hb);replace HO1:=mk0 (Kd.V_elder' (rV HO1.out) (Kd.N_base ho0) hb);have HO307:=mk0 (Kd.N_lower (Kd.N_mono (ok':=fun k_=>((P0_ k_ ∨ P1_ k_) ∨ w.heap.size ≤ k_)) ho0 (fun k_ hk_=>Or.elim hk_ (fun hs_=>hs_) (fun hn_=>(.inr (Nat.le_trans (kZ HB.out) hn_))))) (kZ HB.out));replace HB:=mk0 (kS HB.out hb);(try clear hb);(try clear ho0))|((with_reducible refine gate_callee (f:=52) rfl ?_);refine gL (some 28) Try.func52 #[.slice A1 l1.length c1,.int .i64 a2] ?_;(with_reducible refine (spec_l13Heads.calls k (fun k_=>(((P0_ k_ ∨ P1_ k_) ∨ w.heap.size ≤ k_) ∧ some k_ ≠ (v306:Value).ownBlock)) _ _ l1 a2 t308 _ ?side1 A7.out).mono ?_);(case side1=>exact HO1.out);rintro e w11 ⟨v309,rfl,ho0,hb⟩;refine⟨_,rfl,?_⟩;replace HO0:=mk0 (Kd.V_elder' (rV HO0.out) (Kd.N_base ho0) hb);replace HO1:=mk0 (Kd.V_elder' (rV HO1.out) (Kd.N_base ho0) hb);have HO310:=mk0 (Kd.N_lower (Kd.N_mono (ok':=fun k_=>((P0_ k_ ∨ P1_ k_) ∨ w.heap.size ≤ k_) ∧ some k_ ≠ (v306:Value).ownBlock) ho0 (fun k_ hk_=>⟨Or.elim hk_ (fun hs_=>hs_.1) (fun hn_=>(.inr (Nat.le_trans (kZ HB.out) hn_))),Or.elim hk_ (fun hs_=>hs_.2) (fun hn_=>(Kd.fresh' (Kd.N_lt (rN HO307.out)) k_ hn_))⟩)) (kZ HB.out));replace HO307:=mk0 (Kd.N_elder' (rN HO307.out) (Kd.N_base ho0) hb);replace HB:=mk0 (kS HB.out hb);(try clear hb);(try clear ho0))|((with_reducible refine gate_dst (N:=29) rfl ?_);refine Kd.N_lit (Kd.slice 5 (Kd.int .u8)) _ 22 ?hg (N':=29) ?hd (xs:=([]:List (List Int))) (inner:=[]) (ok:=(fun k_=>((P0_ k_ ∨ P1_ k_) ∨ w.heap.size ≤ k_) ∧ some k_ ≠ (v306:Value).ownBlock ∧ some k_ ≠ (v309:Value).ownBlock)) (okp:=(fun k_=>((P0_ k_ ∨ P1_ k_) ∨ w.heap.size ≤ k_) ∧ some k_ ≠ (v306:Value).ownBlock ∧ some k_ ≠ (v309:Value).ownBlock)) ?hr ?hp (fun _ hk=>hk) ((show ∀ k_,w11.heap.size ≤ k_ → (fun k_=>((P0_ k_ ∨ P1_ k_) ∨ w.heap.size ≤ k_) ∧ some k_ ≠ (v306:Value).ownBlock ∧ some k_ ≠ (v309:Value).ownBlock) k_ from fun k_ hk=>⟨(.inr (Nat.le_trans (kZ HB.out) hk)),Kd.fresh' (Kd.N_lt (rN HO307.out)) k_ hk,Kd.fresh' (Kd.N_lt (rN HO310.out)) k_ hk⟩) _ (Nat.le_refl _)) (Below.refl _ _) (Nat.le_refl _) (by simp) ?_;(case hd=>rfl);(case hg=>rfl);(case hr=>first|(go_simp;done)|(go_simp;rfl));(case hp=>exact (Reps.none _ _));intro v312 w12 ho13 hb hg_ hnew_;clear hg_ hnew_;(first|rw [← Ny311.out] at ho13|(simp only [Int.reduceToNat] at ho13;rw [← Ny311.out] at ho13));replace HO0:=mk0 (Kd.V_elder' (rV HO0.out) (Kd.N_base ho13) hb);replace HO1:=mk0 (Kd.V_elder' (rV HO1.out) (Kd.N_base ho13) hb);replace HO307:=mk0 (Kd.N_elder' (rN HO307.out) (Kd.N_base ho13) hb);replace HO310:=mk0 (Kd.N_elder' (rN HO310.out) (Kd.N_base ho13) hb);have HO313:=mk0 (Kd.N_lower ho13 (kZ HB.out));replace HB:=mk0 (kS HB.out hb);clear hb ho13;obtain⟨Ao15,co15,eo15⟩:=Kd.N_slice HO307.out;subst eo15)|((with_reducible refine gate_builtin (b:=.append) (xs:=#[.tmp 29,.tmp 30]) rfl ?_);at_builtin;refine Kd.N_append_rows (Kd.slice 5 (Kd.int .u8)) (w0:=w) w.heap.size rfl (.tmp 29) (.tmp 30) 66 22 (.slice none 0 0) 24 rfl Try.underlying66 info22 rfl (by decide) (by omega) v312 y311 t305 _ _ _ (fun k_=>((P0_ k_ ∨ P1_ k_) ∨ w.heap.size ≤ k_) ∧ some k_ ≠ (v309:Value).ownBlock) (fun k_=>((fun k_=>((P0_ k_ ∨ P1_ k_) ∨ w.heap.size ≤ k_) ∧ some k_ ≠ (v309:Value).ownBlock)) k_ ∧ some k_ ≠ (v312:Value).ownBlock) rfl rfl ?aO ?aR (fun _ hk=>hk) ?aF ?aB ?aS ?aL ?_;(case aR=>exact (by skip;exact Kd.N_F (Kd.N_mono (ok':=(fun k_=>((fun k_=>((P0_ k_ ∨ P1_ k_) ∨ w.heap.size ≤ k_) ∧ some k_ ≠ (v309:Value).ownBlock)) k_ ∧ some k_ ≠ (v312:Value).ownBlock)) (HO307.out) (fun k_ hk=>⟨⟨hk.1.1,hk.1.2⟩,hk.2⟩))));(case aB=>exact (kB HB.out));(case aF=>exact (fun k_ hk=>⟨(.inr (Nat.le_trans (kZ HB.out) hk)),Kd.fresh' (Kd.N_lt (rN HO310.out)) k_ hk⟩));(case aO=>exact (rN (Kd.N_mono HO313.out (fun _ hk=>⟨hk.1,hk.2.2⟩))));(case aS=>exact (kZ HB.out));(case aL=>have:=LMc8.out;omega);intro v315 w14 ho hb hg hat;rw [← Ny314.out] at ho;replace HO0:=mk0 (Kd.V_afterv (ok:=(fun k_=>((P0_ k_ ∨ P1_ k_) ∨ w.heap.size ≤ k_) ∧ some k_ ≠ (.slice Ao15 t305.length co15:Value).ownBlock ∧ some k_ ≠ (v309:Value).ownBlock)) (rV (Kd.V_mono HO0.out (fun _ hk=>⟨⟨hk.1.1.1,⟨hk.1.1.2,hk.1.2⟩⟩,hk.2⟩))) hg hat);replace HO1:=mk0 (Kd.V_afterv (ok:=(fun k_=>((P0_ k_ ∨ P1_ k_) ∨ w.heap.size ≤ k_) ∧ some k_ ≠ (.slice Ao15 t305.length co15:Value).ownBlock ∧ some k_ ≠ (v309:Value).ownBlock)) (rV (Kd.V_mono HO1.out (fun _ hk=>⟨⟨hk.1.1.1,⟨hk.1.1.2,hk.1.2⟩⟩,hk.2⟩))) hg hat);replace HO307:=mk0 (Kd.N_afterv (ok:=(fun k_=>((P0_ k_ ∨ P1_ k_) ∨ w.heap.size ≤ k_) ∧ some k_ ≠ (v309:Value).ownBlock)) (rN HO307.out) hg hat);replace HO310:=mk0 (Kd.N_afterv (ok:=(fun k_=>((P0_ k_ ∨ P1_ k_) ∨ w.heap.size ≤ k_) ∧ some k_ ≠ (.slice Ao15 t305.length co15:Value).ownBlock)) (rN HO310.out) hg hat);replace HB:=mk0 (hb);have HO316:=mk0 (ho);clear HO313 ho hb hg hat;obtain⟨Ao17,co17,eo17⟩:=Kd.N_slice HO310.out;subst eo17)|((with_reducible refine gate_builtin (b:=.append) (xs:=#[.tmp 31,.tmp 32]) rfl ?_);at_builtin;refine Kd.N_append_rows (Kd.slice 5 (Kd.int .u8)) (w0:=w) w.heap.size rfl (.tmp 31) (.tmp 32) 66 22 (.slice none 0 0) 24 rfl Try.underlying66 info22 rfl (by decide) (by omega) v315 y314 t308 _ _ _ (fun k_=>((P0_ k_ ∨ P1_ k_) ∨ w.heap.size ≤ k_)) (fun k_=>((fun k_=>((P0_ k_ ∨ P1_ k_) ∨ w.heap.size ≤ k_))) k_ ∧ some k_ ≠ (v315:Value).ownBlock) rfl rfl ?aO ?aR (fun _ hk=>hk) ?aF ?aB ?aS ?aL ?_;(case aR=>exact (by skip;exact Kd.N_F (Kd.N_mono (ok':=(fun k_=>((fun k_=>((P0_ k_ ∨ P1_ k_) ∨ w.heap.size ≤ k_))) k_ ∧ some k_ ≠ (v315:Value).ownBlock)) (HO310.out) (fun k_ hk=>⟨hk.1.1,hk.2⟩))));(case aB=>exact (kB HB.out));(case aF=>exact (fun k_ hk=>(.inr (Nat.le_trans (kZ HB.out) hk))));(case aO=>exact (rN (Kd.N_mono HO316.out (fun _ hk=>hk.1))));(case aS=>exact (kZ HB.out));(case aL=>have:=LMc9.out;omega);intro v318 w16 ho hb hg hat;rw [← Ny317.out] at ho;replace HO0:=mk0 (Kd.V_afterv (ok:=(fun k_=>((P0_ k_ ∨ P1_ k_) ∨ w.heap.size ≤ k_) ∧ some k_ ≠ (.slice Ao15 t305.length co15:Value).ownBlock ∧ some k_ ≠ (.slice Ao17 t308.length co17:Value).ownBlock)) (rV HO0.out) hg hat);replace HO1:=mk0 (Kd.V_afterv (ok:=(fun k_=>((P0_ k_ ∨ P1_ k_) ∨ w.heap.size ≤ k_) ∧ some k_ ≠ (.slice Ao15 t305.length co15:Value).ownBlock ∧ some k_ ≠ (.slice Ao17 t308.length co17:Value).ownBlock)) (rV HO1.out) hg hat);replace HO307:=mk0 (Kd.N_afterv (ok:=(fun k_=>((P0_ k_ ∨ P1_ k_) ∨ w.heap.size ≤ k_) ∧ some k_ ≠ (.slice Ao17 t308.length co17:Value).ownBlock)) (rN HO307.out) hg hat);replace HO310:=mk0 (Kd.N_afterv (ok:=(fun k_=>((P0_ k_ ∨ P1_ k_) ∨ w.heap.size ≤ k_) ∧ some k_ ≠ (.slice Ao15 t305.length co15:Value).ownBlock)) (rN HO310.out) hg hat);replace HB:=mk0 (hb);have HO319:=mk0 (ho);clear HO316 ho hb hg hat)|((with_reducible refine gate_dst (N:=34) rfl ?_);refine Kd.N_lit (Kd.slice 5 (Kd.int .u8)) _ 22 ?hg (N':=34) ?hd (xs:=([]:List (List Int))) (inner:=[]) (ok:=(fun k_=>((P0_ k_ ∨ P1_ k_) ∨ w.heap.size ≤ k_) ∧ some k_ ≠ (.slice Ao15 t305.length co15:Value).ownBlock ∧ some k_ ≠ (.slice Ao17 t308.length co17:Value).ownBlock ∧ some k_ ≠ (v318:Value).ownBlock)) (okp:=(fun k_=>((P0_ k_ ∨ P1_ k_) ∨ w.heap.size ≤ k_) ∧ some k_ ≠ (.slice Ao15 t305.length co15:Value).ownBlock ∧ some k_ ≠ (.slice Ao17 t308.length co17:Value).ownBlock ∧ some k_ ≠ (v318:Value).ownBlock)) ?hr ?hp (fun _ hk=>hk) ((show ∀ k_,w16.heap.size ≤ k_ → (fun k_=>((P0_ k_ ∨ P1_ k_) ∨ w.heap.size ≤ k_) ∧ some k_ ≠ (.slice Ao15 t305.length co15:Value).ownBlock ∧ some k_ ≠ (.slice Ao17 t308.length co17:Value).ownBlock ∧ some k_ ≠ (v318:Value).ownBlock) k_ from fun k_ hk=>⟨(.inr (Nat.le_trans (kZ HB.out) hk)),Kd.fresh' (Kd.N_lt (rN HO307.out)) k_ hk,Kd.fresh' (Kd.N_lt (rN HO310.out)) k_ hk,Kd.fresh' (Kd.N_lt (rN HO319.out)) k_ hk⟩) _ (Nat.le_refl _)) (Below.refl _ _) (Nat.le_refl _) (by simp) ?_;(case hd=>rfl);(case hg=>rfl);(case hr=>first|(go_simp;done)|(go_simp;rfl));(case hp=>exact (Reps.none _ _));intro v321 w18 ho19 hb hg_ hnew_;clear hg_ hnew_;(first|rw [← Ny320.out] at ho19|(simp only [Int.reduceToNat] at ho19;rw [← Ny320.out] at ho19));replace HO0:=mk0 (Kd.V_elder' (rV HO0.out) (Kd.N_base ho19) hb);replace HO1:=mk0 (Kd.V_elder' (rV HO1.out) (Kd.N_base ho19) hb);replace HO307:=mk0 (Kd.N_elder' (rN HO307.out) (Kd.N_base ho19) hb);replace HO310:=mk0 (Kd.N_elder' (rN HO310.out) (Kd.N_base ho19) hb);replace HO319:=mk0 (Kd.N_elder' (rN HO319.out) (Kd.N_base ho19) hb);have HO322:=mk0 (Kd.N_lower ho19 (kZ HB.out));replace HB:=mk0 (kS HB.out hb);clear hb ho19))
 go_loopg [10,11] k (fun kq v10 v11 w'=>∃ (x10_1:List (List Int)) (x11_1:Int),v11 = .int .i64 x11_1 ∧ Aside0 (spec_Parts.l0 kq x10_1 x11_1 t305 t308 y317 = some r) ∧ Aside0 (kq ≤ k) ∧ Aside0 (Kd.N (Kd.slice 5 (Kd.int .u8)) 22 w' w.heap.size (fun k_=>((P0_ k_ ∨ P1_ k_) ∨ w.heap.size ≤ k_) ∧ some k_ ≠ (v318:Value).ownBlock) v10 x10_1) ∧ Aside0 (Kd.N (Kd.slice 5 (Kd.int .u8)) 22 w' w.heap.size (fun k_=>((P0_ k_ ∨ P1_ k_) ∨ w.heap.size ≤ k_) ∧ some k_ ≠ (v10:Value).ownBlock ∧ some k_ ≠ ((.slice Ao17 t308.length co17):Value).ownBlock ∧ some k_ ≠ (v318:Value).ownBlock) (.slice Ao15 t305.length co15) t305) ∧ Aside0 (Kd.N (Kd.slice 5 (Kd.int .u8)) 22 w' w.heap.size (fun k_=>((P0_ k_ ∨ P1_ k_) ∨ w.heap.size ≤ k_) ∧ some k_ ≠ (v10:Value).ownBlock ∧ some k_ ≠ ((.slice Ao15 t305.length co15):Value).ownBlock ∧ some k_ ≠ (v318:Value).ownBlock) (.slice Ao17 t308.length co17) t308) ∧ Aside0 (Kd.N (Kd.slice 5 (Kd.int .u8)) 22 w' w.heap.size (fun k_=>((P0_ k_ ∨ P1_ k_) ∨ w.heap.size ≤ k_) ∧ some k_ ≠ (v10:Value).ownBlock) v318 y317) ∧ Aside0 (Below w.heap.size w w'))
 case atStart=>exact⟨(y320),(0),(by first|rfl|(simp;done)|(simp [*];done)),H',⟨Nat.le_refl _⟩,⟨rN (Kd.N_mono HO322.out (fun _ hk=>⟨hk.1,hk.2.2.2⟩))⟩,⟨rN (Kd.N_mono HO307.out (fun _ hk=>⟨hk.1.1.1,⟨hk.2,⟨hk.1.1.2,hk.1.2⟩⟩⟩))⟩,⟨rN (Kd.N_mono HO310.out (fun _ hk=>⟨hk.1.1.1,⟨hk.2,⟨hk.1.1.2,hk.1.2⟩⟩⟩))⟩,⟨rN HO319.out⟩,⟨kB HB.out⟩⟩
 case round =>
  clear H'
  try clear c1
  try clear c2
  try clear p2
  try clear c3
  try clear c5
  try clear c8
  try clear c9
  obtain⟨x10_1,x11_1,rfl,HA,HK1,HO_10,HO_25,HO_28,HO_33,HB⟩:=hrel
  cases gk with
  | zero=>exact absurd HA.out (by simp [spec_Parts.l0])
  | succ k1 =>
   have H:=HA.out
   clear HA
   simp only [spec_Parts.l0] at H
   by_cases c20:x11_1 < (y317.length:Int)
   rotate_left
   ·rw [if_neg c20] at H
    have c20b0:decide (x11_1 < (y317.length:Int)) = false:=decide_eq_false c20
    (try simp only [hl323_0] at c20b0)
    (try simp only [hl324_0] at c20b0)
    (try simp only [hl326_0] at c20b0)
    (try simp only [hl327_0] at c20b0)
    (try simp only [hl329_0] at c20b0)
    (try simp only [hl361_0] at c20b0)
    (try simp only [hl366_0] at c20b0)
    (try simp only [hl369_0] at c20b0)
    clear c20
    obtain⟨y355,hy355⟩:∃ y_:List (S48),y_ = (([]:List (S48))):=⟨_,rfl⟩
    replace H:(spec_Parts.l2 k1 x10_1 y355 0 t305 t308) = some r:=by first|(rw [hy355];with_reducible exact H)|(have H2_:=(Option.bind_some _ _).symm.trans H;rw [hy355];with_reducible exact H2_)|(have H2_:=(Option.bind_some _ _).symm.trans H;with_reducible exact H2_)|with_reducible exact H|(rw [hy355];exact H)|exact H
    have Ny355:=mk0 hy355
    clear hy355
    have H':=mk0 H
    clear H
    obtain⟨Ao63,co63,eo63⟩:=Kd.N_slice HO_33.out
    subst eo63
    go_wp2_with (first|((with_reducible refine gate_dst (N:=90) rfl ?_);refine Kd.N_lit k48 _ 48 ?hg (N':=90) ?hd (xs:=([]:List (S48))) (inner:=[]) (ok:=(fun k_=>((P0_ k_ ∨ P1_ k_) ∨ w.heap.size ≤ k_) ∧ some k_ ≠ (u10:Value).ownBlock ∧ some k_ ≠ (.slice Ao15 t305.length co15:Value).ownBlock ∧ some k_ ≠ (.slice Ao17 t308.length co17:Value).ownBlock ∧ some k_ ≠ (.slice Ao63 y317.length co63:Value).ownBlock)) (okp:=(fun k_=>((P0_ k_ ∨ P1_ k_) ∨ w.heap.size ≤ k_) ∧ some k_ ≠ (u10:Value).ownBlock ∧ some k_ ≠ (.slice Ao15 t305.length co15:Value).ownBlock ∧ some k_ ≠ (.slice Ao17 t308.length co17:Value).ownBlock ∧ some k_ ≠ (.slice Ao63 y317.length co63:Value).ownBlock)) ?hr ?hp (fun _ hk=>hk) ((show ∀ k_,wr.heap.size ≤ k_ → (fun k_=>((P0_ k_ ∨ P1_ k_) ∨ w.heap.size ≤ k_) ∧ some k_ ≠ (u10:Value).ownBlock ∧ some k_ ≠ (.slice Ao15 t305.length co15:Value).ownBlock ∧ some k_ ≠ (.slice Ao17 t308.length co17:Value).ownBlock ∧ some k_ ≠ (.slice Ao63 y317.length co63:Value).ownBlock) k_ from fun k_ hk=>⟨(.inr (Nat.le_trans (kZ HB.out) hk)),Kd.fresh' (Kd.N_lt (rN HO_10.out)) k_ hk,Kd.fresh' (Kd.N_lt (rN HO_25.out)) k_ hk,Kd.fresh' (Kd.N_lt (rN HO_28.out)) k_ hk,Kd.fresh' (Kd.N_lt (rN HO_33.out)) k_ hk⟩) _ (Nat.le_refl _)) (Below.refl _ _) (Nat.le_refl _) (by simp) ?_;(case hd=>rfl);(case hg=>rfl);(case hr=>first|(go_simp;done)|(go_simp;rfl));(case hp=>exact (Reps.none _ _));intro v356 w64 ho65 hb hg_ hnew_;clear hg_ hnew_;(first|rw [← Ny355.out] at ho65|(simp only [Int.reduceToNat] at ho65;rw [← Ny355.out] at ho65));replace HO_10:=mk0 (Kd.N_elder' (rN HO_10.out) (Kd.N_base ho65) hb);replace HO_25:=mk0 (Kd.N_elder' (rN HO_25.out) (Kd.N_base ho65) hb);replace HO_28:=mk0 (Kd.N_elder' (rN HO_28.out) (Kd.N_base ho65) hb);replace HO_33:=mk0 (Kd.N_elder' (rN HO_33.out) (Kd.N_base ho65) hb);have HO357:=mk0 (Kd.N_lower ho65 (kZ HB.out));replace HB:=mk0 (kS HB.out hb);clear hb ho65))
    go_loopg [15,16] k1 (fun kq v15 v16 w'=>∃ (x15_2:List (S48)) (x16_2:Int),v16 = .int .i64 x16_2 ∧ Aside0 (spec_Parts.l2 kq x10_1 x15_2 x16_2 t305 t308 = some r) ∧ Aside0 (kq ≤ k1) ∧ Aside0 (Kd.N (Kd.slice 5 (Kd.int .u8)) 22 w' w.heap.size (fun k_=>((P0_ k_ ∨ P1_ k_) ∨ w.heap.size ≤ k_) ∧ some k_ ≠ (v15:Value).ownBlock) u10 x10_1) ∧ Aside0 (Kd.N k48 48 w' w.heap.size (fun k_=>((P0_ k_ ∨ P1_ k_) ∨ w.heap.size ≤ k_) ∧ some k_ ≠ (u10:Value).ownBlock ∧ some k_ ≠ ((.slice Ao15 t305.length co15):Value).ownBlock ∧ some k_ ≠ ((.slice Ao17 t308.length co17):Value).ownBlock) v15 x15_2) ∧ Aside0 (Kd.N (Kd.slice 5 (Kd.int .u8)) 22 w' w.heap.size (fun k_=>((P0_ k_ ∨ P1_ k_) ∨ w.heap.size ≤ k_) ∧ some k_ ≠ (u10:Value).ownBlock ∧ some k_ ≠ (v15:Value).ownBlock ∧ some k_ ≠ ((.slice Ao17 t308.length co17):Value).ownBlock) (.slice Ao15 t305.length co15) t305) ∧ Aside0 (Kd.N (Kd.slice 5 (Kd.int .u8)) 22 w' w.heap.size (fun k_=>((P0_ k_ ∨ P1_ k_) ∨ w.heap.size ≤ k_) ∧ some k_ ≠ (u10:Value).ownBlock ∧ some k_ ≠ (v15:Value).ownBlock ∧ some k_ ≠ ((.slice Ao15 t305.length co15):Value).ownBlock) (.slice Ao17 t308.length co17) t308) ∧ Aside0 (Below w.heap.size w w'))
    case atStart=>exact⟨(y355),(0),(by first|rfl|(simp;done)|(simp [*];done)),H',⟨Nat.le_refl _⟩,⟨rN (Kd.N_mono HO_10.out (fun _ hk=>⟨hk.1.1,hk.2⟩))⟩,⟨rN (Kd.N_mono HO357.out (fun _ hk=>⟨hk.1,⟨hk.2.1,⟨hk.2.2.1,hk.2.2.2.1⟩⟩⟩))⟩,⟨rN (Kd.N_mono HO_25.out (fun _ hk=>⟨hk.1.1,⟨hk.1.2.1,⟨hk.2,hk.1.2.2.1⟩⟩⟩))⟩,⟨rN (Kd.N_mono HO_28.out (fun _ hk=>⟨hk.1.1,⟨hk.1.2.1,⟨hk.2,hk.1.2.2.1⟩⟩⟩))⟩,⟨kB HB.out⟩⟩
    case round =>
     clear H'
     try clear c1
     try clear c2
     try clear p2
     try clear c3
     try clear p3
     try clear q3
     try clear hx3
     try clear c4
     try clear c5
     try clear q5
     try clear p6
     try clear c20
     try clear c20b0
     try clear c23
     try clear c23b0
     try clear c24
     try clear c25
     try clear c26
     try clear c28
     try clear c28b0
     try clear c32
     try clear p32
     try clear q32
     try clear hx32
     try clear c41
     try clear c42
     try clear c42b0
     try clear c43
     try clear c43b0
     try clear c44
     try clear c44b0
     try clear c44b1
     try clear c45
     try clear c45b0
     try clear c45b1
     try clear c46
     try clear c47
     try clear c47b0
     try clear c48
     try clear c48b0
     try clear c49
     try clear c50
     try clear c52
     try clear q52
     try clear c53
     try clear q59
     try clear p64
     try clear hx323_0
     try clear hx324_0
     try clear hx326_0
     try clear hx327_0
     try clear hx329_0
     try clear p2
     try clear p3
     try clear p32
     try clear p323
     try clear p324
     try clear p326
     try clear p327
     try clear p329
     try clear p6
     try clear q052
     try clear q3
     try clear q32
     try clear q323
     try clear q324
     try clear q326
     try clear q327
     try clear q329
     try clear q52
     try clear q59
     obtain⟨x15_2,x16_2,rfl,HA,HK2,HO_10,HO_15,HO_25,HO_28,HB⟩:=hrel
     cases gk with
     | zero=>exact absurd HA.out (by simp [spec_Parts.l2])
     | succ k2 =>
      have H:=HA.out
      clear HA
      simp only [spec_Parts.l2] at H
      by_cases c66:x16_2 < (x10_1.length:Int)
      rotate_left
      ·rw [if_neg c66] at H
       have c66b0:decide (x16_2 < (x10_1.length:Int)) = false:=decide_eq_false c66
       (try simp only [hl323_0] at c66b0)
       (try simp only [hl324_0] at c66b0)
       (try simp only [hl326_0] at c66b0)
       (try simp only [hl327_0] at c66b0)
       (try simp only [hl329_0] at c66b0)
       (try simp only [hl361_0] at c66b0)
       (try simp only [hl366_0] at c66b0)
       (try simp only [hl369_0] at c66b0)
       clear c66
       obtain rfl:=Option.some.inj H
       obtain⟨Ao90,co90,eo90⟩:=Kd.N_slice HO_10.out
       subst eo90
       go_wp2
       go_ret
       exact⟨_,by first|rfl|(simp [errW_none,errW_some] <;> rfl)|(simp [*,errW_none,errW_some] <;> rfl),rN (Kd.N_mono HO_15.out (fun _ hk=>hk.1)),kB HB.out⟩
      rw [if_pos c66] at H
      have c66b0:decide (x16_2 < (x10_1.length:Int)) = true:=decide_eq_true c66
      (try simp only [hl323_0] at c66b0)
      (try simp only [hl324_0] at c66b0)
      (try simp only [hl326_0] at c66b0)
      (try simp only [hl327_0] at c66b0)
      (try simp only [hl329_0] at c66b0)
      (try simp only [hl361_0] at c66b0)
      (try simp only [hl366_0] at c66b0)
      (try simp only [hl369_0] at c66b0)
      clear c66
      obtain⟨y358,hy358⟩:∃ y_:List Int,y_ = (([]:List Int)):=⟨_,rfl⟩
      replace H:(if 0 ≤ x16_2 then (if y358.length + (rd_L3 x10_1 x16_2).length < 140737488355328 then ((spec_l13Span.f k2 t305 (rd_L3 x10_1 x16_2)).bind fun bt367=>((spec_l13Span.f k2 t308 (rd_L3 x10_1 x16_2)).bind fun bt370=>(if x15_2.length < 2513169434916 then (spec_Parts.l2 k2 x10_1 (x15_2 ++ [(⟨(y358 ++ (rd_L3 x10_1 x16_2)),bt367.1,bt367.2,bt370.1,bt370.2⟩:S48)]) (wrap64 (x16_2 + 1)) t305 t308) else (none)))) else (none)) else (none)) = some r:=by first|(rw [hy358];with_reducible exact H)|(have H2_:=(Option.bind_some _ _).symm.trans H;rw [hy358];with_reducible exact H2_)|(have H2_:=(Option.bind_some _ _).symm.trans H;with_reducible exact H2_)|with_reducible exact H|(rw [hy358];exact H)|exact H
      have Ny358:=mk0 hy358
      clear hy358
      by_cases c67:0 ≤ x16_2
      rotate_left
      ·rw [if_neg c67] at H
       exact absurd H (by simp)
      rw [if_pos c67] at H
      have c67b0:decide (0 ≤ x16_2) = true:=decide_eq_true c67
      clear c67
      by_cases c68:y358.length + (rd_L3 x10_1 x16_2).length < 140737488355328
      rotate_left
      ·rw [if_neg c68] at H
       exact absurd H (by simp)
      rw [if_pos c68] at H
      have LMc68:=mk0 c68
      clear c68
      obtain⟨y362,hy362⟩:∃ y_:List Int,y_ = (y358 ++ (rd_L3 x10_1 x16_2)):=⟨_,rfl⟩
      replace H:((spec_l13Span.f k2 t305 (rd_L3 x10_1 x16_2)).bind fun bt367=>((spec_l13Span.f k2 t308 (rd_L3 x10_1 x16_2)).bind fun bt370=>(if x15_2.length < 2513169434916 then (spec_Parts.l2 k2 x10_1 (x15_2 ++ [(⟨y362,bt367.1,bt367.2,bt370.1,bt370.2⟩:S48)]) (wrap64 (x16_2 + 1)) t305 t308) else (none)))) = some r:=by first|(rw [hy362];with_reducible exact H)|(have H2_:=(Option.bind_some _ _).symm.trans H;rw [hy362];with_reducible exact H2_)|(have H2_:=(Option.bind_some _ _).symm.trans H;with_reducible exact H2_)|with_reducible exact H|(rw [hy362];exact H)|exact H
      have Ny362:=mk0 hy362
      clear hy362
      replace H:=Option.bind_eq_some_iff.mp H
      obtain⟨⟨t367,t368⟩,A690,H⟩:=H
      replace H:((spec_l13Span.f k2 t308 (rd_L3 x10_1 x16_2)).bind fun bt370=>(if x15_2.length < 2513169434916 then (spec_Parts.l2 k2 x10_1 (x15_2 ++ [(⟨y362,t367,t368,bt370.1,bt370.2⟩:S48)]) (wrap64 (x16_2 + 1)) t305 t308) else (none))) = some r:=H
      have A69:=mk0 A690
      clear A690
      replace H:=Option.bind_eq_some_iff.mp H
      obtain⟨⟨t370,t371⟩,A700,H⟩:=H
      replace H:(if x15_2.length < 2513169434916 then (spec_Parts.l2 k2 x10_1 (x15_2 ++ [(⟨y362,t367,t368,t370,t371⟩:S48)]) (wrap64 (x16_2 + 1)) t305 t308) else (none)) = some r:=H
      have A70:=mk0 A700
      clear A700
      by_cases c71:x15_2.length < 2513169434916
      rotate_left
      ·rw [if_neg c71] at H
       exact absurd H (by simp)
      rw [if_pos c71] at H
      have LMc71:=mk0 c71
      clear c71
      obtain⟨y372,hy372⟩:∃ y_:List (S48),y_ = (x15_2 ++ [(⟨y362,t367,t368,t370,t371⟩:S48)]):=⟨_,rfl⟩
      replace H:(spec_Parts.l2 k2 x10_1 y372 (wrap64 (x16_2 + 1)) t305 t308) = some r:=by first|(rw [hy372];with_reducible exact H)|(have H2_:=(Option.bind_some _ _).symm.trans H;rw [hy372];with_reducible exact H2_)|(have H2_:=(Option.bind_some _ _).symm.trans H;with_reducible exact H2_)|with_reducible exact H|(rw [hy372];exact H)|exact H
      have Ny372:=mk0 hy372
      clear hy372
      have H':=mk0 H
      clear H
      obtain⟨Ao72,co72,eo72⟩:=Kd.N_slice HO_10.out
      subst eo72
      go_wp2_with (first|((with_reducible refine gate_dst (N:=97) rfl ?_);refine Kd.R_lit (Kd.int .u8) _ 5 ?hg (N:=97) ?hd (xs:=([]:List Int)) (inner:=[]) (ok:=fun _=>True) (okp:=fun _=>True) ?hr ?hp (fun _ hk=>hk) trivial (Below.refl _ _) (Nat.le_refl _) (by simp) ?_;(case hd=>rfl);(case hg=>rfl);(case hr=>first|(go_simp;done)|(go_simp;rfl));(case hp=>exact (Reps.none _ _));intro v359 w73 ho74 hb hg_ hnew_;clear hg_ hnew_;(first|rw [← Ny358.out] at ho74|(simp only [Int.reduceToNat] at ho74;rw [← Ny358.out] at ho74));replace HO_10:=mk0 (Kd.N_elder' (rN HO_10.out) (Kd.R_base ho74) hb);replace HO_15:=mk0 (Kd.N_elder' (rN HO_15.out) (Kd.R_base ho74) hb);replace HO_25:=mk0 (Kd.N_elder' (rN HO_25.out) (Kd.R_base ho74) hb);replace HO_28:=mk0 (Kd.N_elder' (rN HO_28.out) (Kd.R_base ho74) hb);have HO360:=mk0 (Kd.R_lower (Kd.R_newM (M:=fun k_=>(w.heap.size ≤ k_)) ho74 (kZ HB.out) (fun k_ h_=>h_)) (kZ HB.out));replace HB:=mk0 (kS HB.out hb);clear hb ho74;have p361:0 ≤ (x16_2:Int):=of_decide_eq_true (by first|(with_reducible assumption)|assumption);have q361:x16_2 < (x10_1.length:Int):=of_decide_eq_true (by first|(with_reducible assumption)|assumption);obtain⟨ad361,A361_0,c361_0,e361,hx361_0,hl361_0,hi361_0⟩:=at_L3 (Kd.N_reads' HO_10.out).2.2 x16_2 p361 q361;cases e361;obtain⟨ce361,hce361,hMe361,hcc361⟩:=Kd.N_get HO_10.out [] x16_2 p361 (by first|exact q361|exact of_decide_eq_true (by first|(with_reducible assumption)|assumption)|(have e_:=(Kd.N_reads' HO_10.out).1;omega));obtain⟨ua361_0,uc361_0,rfl,ul361_0,ge361_0⟩:=Kd.FK_slice_open hMe361;have hv361_0:=hcc361 0 _ rfl;rw [Nat.add_zero,show ((Kd.slice 5 (Kd.int .u8))).sz = 1 from rfl,Nat.mul_one] at hv361_0;replace hv361_0:=Option.some.inj (hv361_0.symm.trans hx361_0);injection hv361_0 with hva_ hvn_ hvc_;rw [hva_] at ge361_0;rw [hvc_] at ul361_0;have HL361_0:=mk0 (show Kd.V (Kd.int .u8) 5 _ w.heap.size _ _ (rd_L3 x10_1 x16_2) from Kd.V_mk ul361_0 ge361_0);clear hva_ hvn_ hvc_ ge361_0 ul361_0 hcc361 hce361;have HR361_0:=mk0 hi361_0;have HC361_0:=mk0 hl361_0;clear hi361_0 hl361_0;replace p361:=eq_true p361;replace q361:=eq_true q361)|((with_reducible refine gate_builtin (b:=.append) (xs:=#[.tmp 97,.tmp 101]) rfl ?_);at_builtin;refine Kd.R_append_rows (Kd.int .u8) (w0:=w) w.heap.size rfl (.tmp 97) (.tmp 101) 22 5 (.int .u8 0) 1 rfl Try.underlying22 info5 rfl (by decide) (by omega) v359 y358 (rd_L3 x10_1 x16_2) _ _ _ (fun k_=>(w.heap.size ≤ k_)) (fun _=>False) rfl rfl ?aO ?aR (fun _ _ h=>h) (fun _ h=>h.elim) ?aF ?aB ?aS ?aL ?_;(case aR=>repeat (first|exact (by repeat (first|(with_reducible exact HR361_0.out)|(with_reducible first|apply aC|apply nC|apply dC)|exact HR361_0.out|exact (Kd.V_reads' HL361_0.out).2.2))|(with_reducible first|apply aC|apply nC|apply dC)));(case aB=>exact (kB HB.out));(case aF=>exact (fun k_ hk=>(Nat.le_trans (kZ HB.out) hk)));(case aO=>exact (rR (Kd.R_mono HO360.out (fun _ hk=>hk.1))));(case aS=>exact (kZ HB.out));(case aL=>have:=LMc68.out;omega);intro v363 w75 ho hb hg hat;rw [← Ny362.out] at ho;replace HO_10:=mk0 (Kd.N_afterv (ok:=(fun k_=>((P0_ k_ ∨ P1_ k_) ∨ w.heap.size ≤ k_) ∧ some k_ ≠ (u15:Value).ownBlock)) (rN HO_10.out) hg hat);replace HO_15:=mk0 (Kd.N_afterv (ok:=(fun k_=>((P0_ k_ ∨ P1_ k_) ∨ w.heap.size ≤ k_) ∧ some k_ ≠ (.slice (some ad361) x10_1.length co72:Value).ownBlock ∧ some k_ ≠ (.slice Ao15 t305.length co15:Value).ownBlock ∧ some k_ ≠ (.slice Ao17 t308.length co17:Value).ownBlock)) (rN HO_15.out) hg hat);replace HO_25:=mk0 (Kd.N_afterv (ok:=(fun k_=>((P0_ k_ ∨ P1_ k_) ∨ w.heap.size ≤ k_) ∧ some k_ ≠ (.slice (some ad361) x10_1.length co72:Value).ownBlock ∧ some k_ ≠ (u15:Value).ownBlock ∧ some k_ ≠ (.slice Ao17 t308.length co17:Value).ownBlock)) (rN HO_25.out) hg hat);replace HO_28:=mk0 (Kd.N_afterv (ok:=(fun k_=>((P0_ k_ ∨ P1_ k_) ∨ w.heap.size ≤ k_) ∧ some k_ ≠ (.slice (some ad361) x10_1.length co72:Value).ownBlock ∧ some k_ ≠ (u15:Value).ownBlock ∧ some k_ ≠ (.slice Ao15 t305.length co15:Value).ownBlock)) (rN HO_28.out) hg hat);replace HL361_0:=mk0 (Kd.V_afterv (ok:=(fun k_=>((P0_ k_ ∨ P1_ k_) ∨ w.heap.size ≤ k_) ∧ some k_ ≠ (.slice (some ad361) x10_1.length co72:Value).ownBlock ∧ some k_ ≠ (u15:Value).ownBlock)) (rV (Kd.V_mono HL361_0.out (fun _ hk=>⟨⟨hk.1.1.1,⟨hk.2,hk.1.1.2⟩⟩,hk.1.2⟩))) hg hat);replace HB:=mk0 (hb);have HO364:=mk0 (ho);clear HO360 ho hb hg hat;obtain⟨Ao76,co76,eo76⟩:=Kd.R_slice HO364.out;subst eo76)|((with_reducible refine gate_dst (N:=17) rfl ?_);refine box_event ?hg (N:=17) ?hd (cs:=#[.slice none 0 0,.int .i64 0,.int .i64 0,.int .i64 0,.int .i64 0]) (t:=48) ?hr ?_;(case hd=>rfl);(case hg=>rfl);(case hr=>first|(go_simp;done)|(go_simp;rfl));intro gb365 hg w77 hbox hb;replace HO_10:=mk0 (Kd.N_below (Kd.N_elderB (rN HO_10.out) gb365 (Nat.le_of_eq hg.symm)) hb);replace HO_15:=mk0 (Kd.N_below (Kd.N_elderB (rN HO_15.out) gb365 (Nat.le_of_eq hg.symm)) hb);replace HO_25:=mk0 (Kd.N_below (Kd.N_elderB (rN HO_25.out) gb365 (Nat.le_of_eq hg.symm)) hb);replace HO_28:=mk0 (Kd.N_below (Kd.N_elderB (rN HO_28.out) gb365 (Nat.le_of_eq hg.symm)) hb);replace HL361_0:=mk0 (Kd.V_below (Kd.V_elderB (rV HL361_0.out) gb365 (Nat.le_of_eq hg.symm)) hb);replace HO364:=mk0 (bR HO364.out hb);have BK365:=mk0 (hbox);have GW365:=mk0 ((by rw [hg];exact (kZ HB.out):w.heap.size ≤ gb365));have GE365:=mk0 ((by rw [hg];exact (kZ HB.out):w.heap.size ≤ gb365));replace HB:=mk0 (kS HB.out hb);clear hb hbox hg;obtain⟨hcz78_0,hcz78_1,hcz78_2,hcz78_3,hcz78_4,hfz78_0,hfz78_1,hfz78_2,hfz78_3,hfz78_4⟩:=cz5 BK365.out)|((with_reducible refine gate_store (t:=48) (p:=17) rfl ?_);refine store_event (t:=48) (p:=17) (v:=?vo_w79) (w1:=(((((w77.setCell ⟨gb365,0,none⟩ (.slice Ao76 y362.length co76)).setCell ⟨gb365,1,none⟩ (.int .i64 0)).setCell ⟨gb365,2,none⟩ (.int .i64 0)).setCell ⟨gb365,3,none⟩ (.int .i64 0)).setCell ⟨gb365,4,none⟩ (.int .i64 0))) ?hg ?ho ?hn ?hr ?_;(case ho=>rfl);(case hg=>rfl);(case hn=>rfl);(case hr=>first|(go_simp;done)|(go_simp;rfl));intro w79 hw;have n0_:Aside0 (Kd.N (Kd.slice 5 (Kd.int .u8)) 22 w79 w.heap.size (fun k_=>((P0_ k_ ∨ P1_ k_) ∨ w.heap.size ≤ k_) ∧ some k_ ≠ (u15:Value).ownBlock ∧ some k_ ≠ (.slice Ao76 y362.length co76:Value).ownBlock ∧ k_ ≠ gb365) (.slice (some ad361) x10_1.length co72) x10_1):=⟨(by rw [hw];exact (by (with_reducible repeat (first|apply aN|apply nN|apply dN));exact Kd.N_mono (Kd.N_far (p:=⟨gb365,4,none⟩) (Kd.N_far (p:=⟨gb365,3,none⟩) (Kd.N_far (p:=⟨gb365,2,none⟩) (Kd.N_far (p:=⟨gb365,1,none⟩) (Kd.N_far (p:=⟨gb365,0,none⟩) (Kd.N_mono HO_10.out (fun k_ hk=>(⟨hk,hk.2⟩:_ ∧ k_ ≠ gb365))) (fun _ hk=>hk.2) (.slice Ao76 y362.length co76)) (fun _ hk=>hk.2) (.int .i64 0)) (fun _ hk=>hk.2) (.int .i64 0)) (fun _ hk=>hk.2) (.int .i64 0)) (fun _ hk=>hk.2) (.int .i64 0)) (fun _ hk=>⟨hk.1.1.1.1,⟨hk.1.1.1.2,⟨hk.1.1.2,hk.1.2⟩⟩⟩)))⟩;have n1_:Aside0 (Kd.N k48 48 w79 w.heap.size (fun k_=>((P0_ k_ ∨ P1_ k_) ∨ w.heap.size ≤ k_) ∧ some k_ ≠ (.slice (some ad361) x10_1.length co72:Value).ownBlock ∧ some k_ ≠ (.slice Ao15 t305.length co15:Value).ownBlock ∧ some k_ ≠ (.slice Ao17 t308.length co17:Value).ownBlock ∧ some k_ ≠ (.slice Ao76 y362.length co76:Value).ownBlock ∧ k_ ≠ gb365) u15 x15_2):=⟨(by rw [hw];exact (by (with_reducible repeat (first|apply aN|apply nN|apply dN));exact Kd.N_mono (Kd.N_far (p:=⟨gb365,4,none⟩) (Kd.N_far (p:=⟨gb365,3,none⟩) (Kd.N_far (p:=⟨gb365,2,none⟩) (Kd.N_far (p:=⟨gb365,1,none⟩) (Kd.N_far (p:=⟨gb365,0,none⟩) (Kd.N_mono HO_15.out (fun k_ hk=>(⟨hk,hk.2⟩:_ ∧ k_ ≠ gb365))) (fun _ hk=>hk.2) (.slice Ao76 y362.length co76)) (fun _ hk=>hk.2) (.int .i64 0)) (fun _ hk=>hk.2) (.int .i64 0)) (fun _ hk=>hk.2) (.int .i64 0)) (fun _ hk=>hk.2) (.int .i64 0)) (fun _ hk=>⟨hk.1.1.1.1,⟨hk.1.1.1.2.1,⟨hk.1.1.1.2.2.1,⟨hk.1.1.1.2.2.2,⟨hk.1.1.2,hk.1.2⟩⟩⟩⟩⟩)))⟩;have n2_:Aside0 (Kd.N (Kd.slice 5 (Kd.int .u8)) 22 w79 w.heap.size (fun k_=>((P0_ k_ ∨ P1_ k_) ∨ w.heap.size ≤ k_) ∧ some k_ ≠ (.slice (some ad361) x10_1.length co72:Value).ownBlock ∧ some k_ ≠ (u15:Value).ownBlock ∧ some k_ ≠ (.slice Ao17 t308.length co17:Value).ownBlock ∧ some k_ ≠ (.slice Ao76 y362.length co76:Value).ownBlock ∧ k_ ≠ gb365) (.slice Ao15 t305.length co15) t305):=⟨(by rw [hw];exact (by (with_reducible repeat (first|apply aN|apply nN|apply dN));exact Kd.N_mono (Kd.N_far (p:=⟨gb365,4,none⟩) (Kd.N_far (p:=⟨gb365,3,none⟩) (Kd.N_far (p:=⟨gb365,2,none⟩) (Kd.N_far (p:=⟨gb365,1,none⟩) (Kd.N_far (p:=⟨gb365,0,none⟩) (Kd.N_mono HO_25.out (fun k_ hk=>(⟨hk,hk.2⟩:_ ∧ k_ ≠ gb365))) (fun _ hk=>hk.2) (.slice Ao76 y362.length co76)) (fun _ hk=>hk.2) (.int .i64 0)) (fun _ hk=>hk.2) (.int .i64 0)) (fun _ hk=>hk.2) (.int .i64 0)) (fun _ hk=>hk.2) (.int .i64 0)) (fun _ hk=>⟨hk.1.1.1.1,⟨hk.1.1.1.2.1,⟨hk.1.1.1.2.2.1,⟨hk.1.1.1.2.2.2,⟨hk.1.1.2,hk.1.2⟩⟩⟩⟩⟩)))⟩;have n3_:Aside0 (Kd.N (Kd.slice 5 (Kd.int .u8)) 22 w79 w.heap.size (fun k_=>((P0_ k_ ∨ P1_ k_) ∨ w.heap.size ≤ k_) ∧ some k_ ≠ (.slice (some ad361) x10_1.length co72:Value).ownBlock ∧ some k_ ≠ (u15:Value).ownBlock ∧ some k_ ≠ (.slice Ao15 t305.length co15:Value).ownBlock ∧ some k_ ≠ (.slice Ao76 y362.length co76:Value).ownBlock ∧ k_ ≠ gb365) (.slice Ao17 t308.length co17) t308):=⟨(by rw [hw];exact (by (with_reducible repeat (first|apply aN|apply nN|apply dN));exact Kd.N_mono (Kd.N_far (p:=⟨gb365,4,none⟩) (Kd.N_far (p:=⟨gb365,3,none⟩) (Kd.N_far (p:=⟨gb365,2,none⟩) (Kd.N_far (p:=⟨gb365,1,none⟩) (Kd.N_far (p:=⟨gb365,0,none⟩) (Kd.N_mono HO_28.out (fun k_ hk=>(⟨hk,hk.2⟩:_ ∧ k_ ≠ gb365))) (fun _ hk=>hk.2) (.slice Ao76 y362.length co76)) (fun _ hk=>hk.2) (.int .i64 0)) (fun _ hk=>hk.2) (.int .i64 0)) (fun _ hk=>hk.2) (.int .i64 0)) (fun _ hk=>hk.2) (.int .i64 0)) (fun _ hk=>⟨hk.1.1.1.1,⟨hk.1.1.1.2.1,⟨hk.1.1.1.2.2.1,⟨hk.1.1.1.2.2.2,⟨hk.1.1.2,hk.1.2⟩⟩⟩⟩⟩)))⟩;have n4_:Aside0 (Kd.V (Kd.int .u8) 5 w79 w.heap.size (fun k_=>((P0_ k_ ∨ P1_ k_) ∨ w.heap.size ≤ k_) ∧ some k_ ≠ (.slice (some ad361) x10_1.length co72:Value).ownBlock ∧ some k_ ≠ (u15:Value).ownBlock ∧ some k_ ≠ (.slice Ao76 y362.length co76:Value).ownBlock ∧ k_ ≠ gb365) (.slice A361_0 (rd_L3 x10_1 x16_2).length c361_0) (rd_L3 x10_1 x16_2)):=⟨(by rw [hw];exact (by (with_reducible repeat (first|apply aV|apply nV|apply dV));exact Kd.V_mono (Kd.V_far (p:=⟨gb365,4,none⟩) (Kd.V_far (p:=⟨gb365,3,none⟩) (Kd.V_far (p:=⟨gb365,2,none⟩) (Kd.V_far (p:=⟨gb365,1,none⟩) (Kd.V_far (p:=⟨gb365,0,none⟩) (Kd.V_mono HL361_0.out (fun k_ hk=>(⟨hk,hk.2⟩:_ ∧ k_ ≠ gb365))) (fun _ hk=>hk.2) (.slice Ao76 y362.length co76)) (fun _ hk=>hk.2) (.int .i64 0)) (fun _ hk=>hk.2) (.int .i64 0)) (fun _ hk=>hk.2) (.int .i64 0)) (fun _ hk=>hk.2) (.int .i64 0)) (fun _ hk=>⟨hk.1.1.1.1,⟨hk.1.1.1.2.1,⟨hk.1.1.1.2.2,⟨hk.1.1.2,hk.1.2⟩⟩⟩⟩)))⟩;have n5_:Aside0 (Kd.R (Kd.int .u8) 5 w79 w.heap.size (fun k_=>(w.heap.size ≤ k_)) (.slice Ao76 y362.length co76) y362):=⟨(by rw [hw];exact (by (with_reducible repeat (first|apply aR|apply nR|apply dR));exact Kd.R_mono (Kd.R_far (p:=⟨gb365,4,none⟩) (Kd.R_far (p:=⟨gb365,3,none⟩) (Kd.R_far (p:=⟨gb365,2,none⟩) (Kd.R_far (p:=⟨gb365,1,none⟩) (Kd.R_far (p:=⟨gb365,0,none⟩) (Kd.R_types HO364.out BK365.out (by decide)) (fun _ hk=>hk.2) (.slice Ao76 y362.length co76)) (fun _ hk=>hk.2) (.int .i64 0)) (fun _ hk=>hk.2) (.int .i64 0)) (fun _ hk=>hk.2) (.int .i64 0)) (fun _ hk=>hk.2) (.int .i64 0)) (fun _ hk=>hk.1)))⟩;have n6_:Aside0 (w79.heap[gb365]? = some (.cells #[.slice Ao76 y362.length co76,.int .i64 0,.int .i64 0,.int .i64 0,.int .i64 0] 48 (0,0))):=⟨(by rw [hw];exact (by (with_reducible repeat (first|apply nB|apply dB|apply aB));refine blk_put (cs:=#[.slice Ao76 y362.length co76,.int .i64 0,.int .i64 0,.int .i64 0,.int .i64 0]) ?_ 4 _ rfl;(with_reducible repeat (first|apply nB|apply dB|apply aB));refine blk_put (cs:=#[.slice Ao76 y362.length co76,.int .i64 0,.int .i64 0,.int .i64 0,.int .i64 0]) ?_ 3 _ rfl;(with_reducible repeat (first|apply nB|apply dB|apply aB));refine blk_put (cs:=#[.slice Ao76 y362.length co76,.int .i64 0,.int .i64 0,.int .i64 0,.int .i64 0]) ?_ 2 _ rfl;(with_reducible repeat (first|apply nB|apply dB|apply aB));refine blk_put (cs:=#[.slice Ao76 y362.length co76,.int .i64 0,.int .i64 0,.int .i64 0,.int .i64 0]) ?_ 1 _ rfl;(with_reducible repeat (first|apply nB|apply dB|apply aB));refine blk_put (cs:=#[.slice none 0 0,.int .i64 0,.int .i64 0,.int .i64 0,.int .i64 0]) ?_ 0 _ rfl;(with_reducible repeat (first|apply nB|apply dB|apply aB));exact BK365.out))⟩;have n7_:Aside0 (Below w.heap.size w w79):=⟨(by rw [hw];exact (kB HB.out))⟩;clear hw HO_10 HO_15 HO_25 HO_28 HL361_0 HO364 BK365 HB;have HO_10:=n0_;have HO_15:=n1_;have HO_25:=n2_;have HO_28:=n3_;have HL361_0:=n4_;have HO364:=n5_;have BK365:=n6_;have HB:=n7_;clear n0_ n1_ n2_ n3_ n4_ n5_ n6_ n7_;have p366:0 ≤ (x16_2:Int):=of_decide_eq_true (by first|(with_reducible assumption)|assumption);have q366:x16_2 < (x10_1.length:Int):=of_decide_eq_true (by first|(with_reducible assumption)|assumption);obtain⟨ad366,A366_0,c366_0,e366,hx366_0,hl366_0,hi366_0⟩:=at_L3 (Kd.N_reads' HO_10.out).2.2 x16_2 p366 q366;obtain rfl:ad361 = ad366:=(by injection e366);obtain⟨ce366,hce366,hMe366,hcc366⟩:=Kd.N_get HO_10.out [] x16_2 p366 (by first|exact q366|exact of_decide_eq_true (by first|(with_reducible assumption)|assumption)|(have e_:=(Kd.N_reads' HO_10.out).1;omega));obtain⟨ua366_0,uc366_0,rfl,ul366_0,ge366_0⟩:=Kd.FK_slice_open hMe366;have hv366_0:=hcc366 0 _ rfl;rw [Nat.add_zero,show ((Kd.slice 5 (Kd.int .u8))).sz = 1 from rfl,Nat.mul_one] at hv366_0;replace hv366_0:=Option.some.inj (hv366_0.symm.trans hx366_0);injection hv366_0 with hva_ hvn_ hvc_;rw [hva_] at ge366_0;rw [hvc_] at ul366_0;have HL366_0:=mk0 (show Kd.V (Kd.int .u8) 5 _ w.heap.size _ _ (rd_L3 x10_1 x16_2) from Kd.V_mk ul366_0 ge366_0);clear hva_ hvn_ hvc_ ge366_0 ul366_0 hcc366 hce366;have HR366_0:=mk0 hi366_0;have HC366_0:=mk0 hl366_0;clear hi366_0 hl366_0;replace p366:=eq_true p366;replace q366:=eq_true q366)|((with_reducible refine gate_callee (f:=54) rfl ?_);refine gL (some 110) Try.func54 #[.slice Ao15 t305.length co15,.slice A366_0 (rd_L3 x10_1 x16_2).length c366_0] ?_;(with_reducible refine (spec_l13Span.calls k2 _ _ t305 _ _ (rd_L3 x10_1 x16_2) t367 t368 _ ?side1 ?side2 ?side3 ?side4 A69.out).mono ?_);(case side1=>exact kC (Kd.N_reads' HO_25.out).2.2);(case side2=>exact (Kd.N_reads' HO_25.out).2.1);(case side3=>repeat (first|exact (by repeat (first|(with_reducible exact HR366_0.out)|(with_reducible first|apply aC|apply nC|apply dC)|exact HR366_0.out|exact (Kd.V_reads' HL366_0.out).2.2))|(with_reducible first|apply aC|apply nC|apply dC)));(case side4=>exact HC366_0.out);rintro e w' ⟨rfl,⟨nd,rfl⟩⟩;refine⟨_,rfl,?_⟩;(try (rw [drewN_self w79];generalize hq_:World.drewN w79 _ = w79;have n0_:Aside0 (Kd.V (Kd.int .u8) 5 w79 w.heap.size (fun k_=>((((P0_ k_ ∨ P1_ k_) ∨ w.heap.size ≤ k_)) ∧ (some k_ ≠ (.slice (some ad361) x10_1.length co72:Value).ownBlock ∧ (some k_ ≠ (u15:Value).ownBlock ∧ (some k_ ≠ (.slice Ao76 y362.length co76:Value).ownBlock ∧ k_ ≠ gb365))))) (.slice A361_0 (rd_L3 x10_1 x16_2).length c361_0) (rd_L3 x10_1 x16_2)):=⟨by rw [← hq_];exact (rV HL361_0.out)⟩;have n1_:Aside0 (Kd.V (Kd.int .u8) 5 w79 w.heap.size (fun k_=>(((((P0_ k_ ∨ P1_ k_) ∨ w.heap.size ≤ k_)) ∧ (some k_ ≠ (u15:Value).ownBlock ∧ (some k_ ≠ (.slice Ao76 y362.length co76:Value).ownBlock ∧ k_ ≠ gb365))) ∧ some k_ ≠ (.slice (some ad361) x10_1.length co72:Value).ownBlock)) (.slice A366_0 (rd_L3 x10_1 x16_2).length c366_0) (rd_L3 x10_1 x16_2)):=⟨by rw [← hq_];exact (rV HL366_0.out)⟩;have n2_:Aside0 (Kd.R (Kd.int .u8) 5 w79 w.heap.size (fun k_=>((w.heap.size ≤ k_))) (.slice Ao76 y362.length co76) y362):=⟨by rw [← hq_];exact (rR HO364.out)⟩;have n3_:Aside0 (Kd.N (Kd.slice 5 (Kd.int .u8)) 22 w79 w.heap.size (fun k_=>((((P0_ k_ ∨ P1_ k_) ∨ w.heap.size ≤ k_)) ∧ (some k_ ≠ (u15:Value).ownBlock ∧ (some k_ ≠ (.slice Ao76 y362.length co76:Value).ownBlock ∧ k_ ≠ gb365)))) (.slice (some ad361) x10_1.length co72) x10_1):=⟨by rw [← hq_];exact (rN HO_10.out)⟩;have n4_:Aside0 (Kd.N k48 48 w79 w.heap.size (fun k_=>((((P0_ k_ ∨ P1_ k_) ∨ w.heap.size ≤ k_)) ∧ (some k_ ≠ (.slice (some ad361) x10_1.length co72:Value).ownBlock ∧ (some k_ ≠ (.slice Ao15 t305.length co15:Value).ownBlock ∧ (some k_ ≠ (.slice Ao17 t308.length co17:Value).ownBlock ∧ (some k_ ≠ (.slice Ao76 y362.length co76:Value).ownBlock ∧ k_ ≠ gb365)))))) u15 x15_2):=⟨by rw [← hq_];exact (rN HO_15.out)⟩;have n5_:Aside0 (Kd.N (Kd.slice 5 (Kd.int .u8)) 22 w79 w.heap.size (fun k_=>((((P0_ k_ ∨ P1_ k_) ∨ w.heap.size ≤ k_)) ∧ (some k_ ≠ (.slice (some ad361) x10_1.length co72:Value).ownBlock ∧ (some k_ ≠ (u15:Value).ownBlock ∧ (some k_ ≠ (.slice Ao17 t308.length co17:Value).ownBlock ∧ (some k_ ≠ (.slice Ao76 y362.length co76:Value).ownBlock ∧ k_ ≠ gb365)))))) (.slice Ao15 t305.length co15) t305):=⟨by rw [← hq_];exact (rN HO_25.out)⟩;have n6_:Aside0 (Kd.N (Kd.slice 5 (Kd.int .u8)) 22 w79 w.heap.size (fun k_=>((((P0_ k_ ∨ P1_ k_) ∨ w.heap.size ≤ k_)) ∧ (some k_ ≠ (.slice (some ad361) x10_1.length co72:Value).ownBlock ∧ (some k_ ≠ (u15:Value).ownBlock ∧ (some k_ ≠ (.slice Ao15 t305.length co15:Value).ownBlock ∧ (some k_ ≠ (.slice Ao76 y362.length co76:Value).ownBlock ∧ k_ ≠ gb365)))))) (.slice Ao17 t308.length co17) t308):=⟨by rw [← hq_];exact (rN HO_28.out)⟩;have n7_:Aside0 (w79.heap[gb365]? = some (.cells #[.slice Ao76 y362.length co76,.int .i64 0,.int .i64 0,.int .i64 0,.int .i64 0] 48 (0,0))):=⟨by rw [← hq_];exact (kN BK365.out)⟩;have n8_:Aside0 (Below w.heap.size w w79):=⟨by rw [← hq_];exact (kB HB.out)⟩;have n9_:Aside0 (Kd.C (Kd.int .u8) w79 A366_0 (rd_L3 x10_1 x16_2).length (rd_L3 x10_1 x16_2)):=⟨by rw [← hq_];exact (by repeat (first|(with_reducible exact HR366_0.out)|(with_reducible first|apply aC|apply nC|apply dC)|exact HR366_0.out|exact (Kd.V_reads' HL366_0.out).2.2))⟩;clear HL361_0 HL366_0 HO364 HO_10 HO_15 HO_25 HO_28 BK365 HB HR366_0 hq_;have HL361_0:=n0_;have HL366_0:=n1_;have HO364:=n2_;have HO_10:=n3_;have HO_15:=n4_;have HO_25:=n5_;have HO_28:=n6_;have BK365:=n7_;have HB:=n8_;have HR366_0:=n9_;clear n0_ n1_ n2_ n3_ n4_ n5_ n6_ n7_ n8_ n9_));obtain⟨hcz80_0,hcz80_1,hcz80_2,hcz80_3,hcz80_4,hfz80_0,hfz80_1,hfz80_2,hfz80_3,hfz80_4⟩:=cz5 BK365.out)|((with_reducible refine gate_store (t:=3) (p:=113) rfl ?_);refine store_event (t:=3) (p:=113) (v:=?vo_w81) (w1:=(w79.setCell ⟨gb365,1,none⟩ (.int .i64 t367))) ?hg ?ho ?hn ?hr ?_;(case ho=>rfl);(case hg=>rfl);(case hn=>rfl);(case hr=>first|(go_simp;done)|(go_simp;rfl));intro w81 hw;have n0_:Aside0 (Kd.N (Kd.slice 5 (Kd.int .u8)) 22 w81 w.heap.size (fun k_=>((P0_ k_ ∨ P1_ k_) ∨ w.heap.size ≤ k_) ∧ some k_ ≠ (u15:Value).ownBlock ∧ some k_ ≠ (.slice Ao76 y362.length co76:Value).ownBlock ∧ k_ ≠ gb365) (.slice (some ad361) x10_1.length co72) x10_1):=⟨(by rw [hw];exact (by (with_reducible repeat (first|apply aN|apply nN|apply dN));exact Kd.N_mono (Kd.N_far (p:=⟨gb365,1,none⟩) (Kd.N_mono HO_10.out (fun k_ hk=>(⟨hk,hk.2.2.2⟩:_ ∧ k_ ≠ gb365))) (fun _ hk=>hk.2) (.int .i64 t367)) (fun _ hk=>⟨hk.1.1,⟨hk.1.2.1,⟨hk.1.2.2.1,hk.1.2.2.2⟩⟩⟩)))⟩;have n1_:Aside0 (Kd.N k48 48 w81 w.heap.size (fun k_=>((P0_ k_ ∨ P1_ k_) ∨ w.heap.size ≤ k_) ∧ some k_ ≠ (.slice (some ad361) x10_1.length co72:Value).ownBlock ∧ some k_ ≠ (.slice Ao15 t305.length co15:Value).ownBlock ∧ some k_ ≠ (.slice Ao17 t308.length co17:Value).ownBlock ∧ some k_ ≠ (.slice Ao76 y362.length co76:Value).ownBlock ∧ k_ ≠ gb365) u15 x15_2):=⟨(by rw [hw];exact (by (with_reducible repeat (first|apply aN|apply nN|apply dN));exact Kd.N_mono (Kd.N_far (p:=⟨gb365,1,none⟩) (Kd.N_mono HO_15.out (fun k_ hk=>(⟨hk,hk.2.2.2.2.2⟩:_ ∧ k_ ≠ gb365))) (fun _ hk=>hk.2) (.int .i64 t367)) (fun _ hk=>⟨hk.1.1,⟨hk.1.2.1,⟨hk.1.2.2.1,⟨hk.1.2.2.2.1,⟨hk.1.2.2.2.2.1,hk.1.2.2.2.2.2⟩⟩⟩⟩⟩)))⟩;have n2_:Aside0 (Kd.N (Kd.slice 5 (Kd.int .u8)) 22 w81 w.heap.size (fun k_=>((P0_ k_ ∨ P1_ k_) ∨ w.heap.size ≤ k_) ∧ some k_ ≠ (.slice (some ad361) x10_1.length co72:Value).ownBlock ∧ some k_ ≠ (u15:Value).ownBlock ∧ some k_ ≠ (.slice Ao17 t308.length co17:Value).ownBlock ∧ some k_ ≠ (.slice Ao76 y362.length co76:Value).ownBlock ∧ k_ ≠ gb365) (.slice Ao15 t305.length co15) t305):=⟨(by rw [hw];exact (by (with_reducible repeat (first|apply aN|apply nN|apply dN));exact Kd.N_mono (Kd.N_far (p:=⟨gb365,1,none⟩) (Kd.N_mono HO_25.out (fun k_ hk=>(⟨hk,hk.2.2.2.2.2⟩:_ ∧ k_ ≠ gb365))) (fun _ hk=>hk.2) (.int .i64 t367)) (fun _ hk=>⟨hk.1.1,⟨hk.1.2.1,⟨hk.1.2.2.1,⟨hk.1.2.2.2.1,⟨hk.1.2.2.2.2.1,hk.1.2.2.2.2.2⟩⟩⟩⟩⟩)))⟩;have n3_:Aside0 (Kd.N (Kd.slice 5 (Kd.int .u8)) 22 w81 w.heap.size (fun k_=>((P0_ k_ ∨ P1_ k_) ∨ w.heap.size ≤ k_) ∧ some k_ ≠ (.slice (some ad361) x10_1.length co72:Value).ownBlock ∧ some k_ ≠ (u15:Value).ownBlock ∧ some k_ ≠ (.slice Ao15 t305.length co15:Value).ownBlock ∧ some k_ ≠ (.slice Ao76 y362.length co76:Value).ownBlock ∧ k_ ≠ gb365) (.slice Ao17 t308.length co17) t308):=⟨(by rw [hw];exact (by (with_reducible repeat (first|apply aN|apply nN|apply dN));exact Kd.N_mono (Kd.N_far (p:=⟨gb365,1,none⟩) (Kd.N_mono HO_28.out (fun k_ hk=>(⟨hk,hk.2.2.2.2.2⟩:_ ∧ k_ ≠ gb365))) (fun _ hk=>hk.2) (.int .i64 t367)) (fun _ hk=>⟨hk.1.1,⟨hk.1.2.1,⟨hk.1.2.2.1,⟨hk.1.2.2.2.1,⟨hk.1.2.2.2.2.1,hk.1.2.2.2.2.2⟩⟩⟩⟩⟩)))⟩;have n4_:Aside0 (Kd.V (Kd.int .u8) 5 w81 w.heap.size (fun k_=>((P0_ k_ ∨ P1_ k_) ∨ w.heap.size ≤ k_) ∧ some k_ ≠ (.slice (some ad361) x10_1.length co72:Value).ownBlock ∧ some k_ ≠ (u15:Value).ownBlock ∧ some k_ ≠ (.slice Ao76 y362.length co76:Value).ownBlock ∧ k_ ≠ gb365) (.slice A361_0 (rd_L3 x10_1 x16_2).length c361_0) (rd_L3 x10_1 x16_2)):=⟨(by rw [hw];exact (by (with_reducible repeat (first|apply aV|apply nV|apply dV));exact Kd.V_mono (Kd.V_far (p:=⟨gb365,1,none⟩) (Kd.V_mono HL361_0.out (fun k_ hk=>(⟨hk,hk.2.2.2.2⟩:_ ∧ k_ ≠ gb365))) (fun _ hk=>hk.2) (.int .i64 t367)) (fun _ hk=>⟨hk.1.1,⟨hk.1.2.1,⟨hk.1.2.2.1,⟨hk.1.2.2.2.1,hk.1.2.2.2.2⟩⟩⟩⟩)))⟩;have n5_:Aside0 (Kd.R (Kd.int .u8) 5 w81 w.heap.size (fun k_=>(w.heap.size ≤ k_)) (.slice Ao76 y362.length co76) y362):=⟨(by rw [hw];exact (by (with_reducible repeat (first|apply aR|apply nR|apply dR));exact Kd.R_mono (Kd.R_far (p:=⟨gb365,1,none⟩) (Kd.R_types HO364.out BK365.out (by decide)) (fun _ hk=>hk.2) (.int .i64 t367)) (fun _ hk=>hk.1)))⟩;have n6_:Aside0 (Kd.V (Kd.int .u8) 5 w81 w.heap.size (fun k_=>((P0_ k_ ∨ P1_ k_) ∨ w.heap.size ≤ k_) ∧ some k_ ≠ (.slice (some ad361) x10_1.length co72:Value).ownBlock ∧ some k_ ≠ (u15:Value).ownBlock ∧ some k_ ≠ (.slice Ao76 y362.length co76:Value).ownBlock ∧ k_ ≠ gb365) (.slice A366_0 (rd_L3 x10_1 x16_2).length c366_0) (rd_L3 x10_1 x16_2)):=⟨(by rw [hw];exact (by (with_reducible repeat (first|apply aV|apply nV|apply dV));exact Kd.V_mono (Kd.V_far (p:=⟨gb365,1,none⟩) (Kd.V_mono HL366_0.out (fun k_ hk=>(⟨hk,hk.1.2.2.2⟩:_ ∧ k_ ≠ gb365))) (fun _ hk=>hk.2) (.int .i64 t367)) (fun _ hk=>⟨hk.1.1.1,⟨hk.1.2,⟨hk.1.1.2.1,⟨hk.1.1.2.2.1,hk.1.1.2.2.2⟩⟩⟩⟩)))⟩;have n7_:Aside0 (w81.heap[gb365]? = some (.cells #[.slice Ao76 y362.length co76,.int .i64 t367,.int .i64 0,.int .i64 0,.int .i64 0] 48 (0,0))):=⟨(by rw [hw];exact (by (with_reducible repeat (first|apply nB|apply dB|apply aB));refine blk_put (cs:=#[.slice Ao76 y362.length co76,.int .i64 0,.int .i64 0,.int .i64 0,.int .i64 0]) ?_ 1 _ rfl;(with_reducible repeat (first|apply nB|apply dB|apply aB));exact BK365.out))⟩;have n8_:Aside0 (Below w.heap.size w w81):=⟨(by rw [hw];exact (kB HB.out))⟩;clear hw HO_10 HO_15 HO_25 HO_28 HL361_0 HO364 HL366_0 BK365 HB;have HO_10:=n0_;have HO_15:=n1_;have HO_25:=n2_;have HO_28:=n3_;have HL361_0:=n4_;have HO364:=n5_;have HL366_0:=n6_;have BK365:=n7_;have HB:=n8_;clear n0_ n1_ n2_ n3_ n4_ n5_ n6_ n7_ n8_;obtain⟨hcz82_0,hcz82_1,hcz82_2,hcz82_3,hcz82_4,hfz82_0,hfz82_1,hfz82_2,hfz82_3,hfz82_4⟩:=cz5 BK365.out)|((with_reducible refine gate_store (t:=3) (p:=114) rfl ?_);refine store_event (t:=3) (p:=114) (v:=?vo_w83) (w1:=(w81.setCell ⟨gb365,2,none⟩ (.int .i64 t368))) ?hg ?ho ?hn ?hr ?_;(case ho=>rfl);(case hg=>rfl);(case hn=>rfl);(case hr=>first|(go_simp;done)|(go_simp;rfl));intro w83 hw;have n0_:Aside0 (Kd.N (Kd.slice 5 (Kd.int .u8)) 22 w83 w.heap.size (fun k_=>((P0_ k_ ∨ P1_ k_) ∨ w.heap.size ≤ k_) ∧ some k_ ≠ (u15:Value).ownBlock ∧ some k_ ≠ (.slice Ao76 y362.length co76:Value).ownBlock ∧ k_ ≠ gb365) (.slice (some ad361) x10_1.length co72) x10_1):=⟨(by rw [hw];exact (by (with_reducible repeat (first|apply aN|apply nN|apply dN));exact Kd.N_mono (Kd.N_far (p:=⟨gb365,2,none⟩) (Kd.N_mono HO_10.out (fun k_ hk=>(⟨hk,hk.2.2.2⟩:_ ∧ k_ ≠ gb365))) (fun _ hk=>hk.2) (.int .i64 t368)) (fun _ hk=>⟨hk.1.1,⟨hk.1.2.1,⟨hk.1.2.2.1,hk.1.2.2.2⟩⟩⟩)))⟩;have n1_:Aside0 (Kd.N k48 48 w83 w.heap.size (fun k_=>((P0_ k_ ∨ P1_ k_) ∨ w.heap.size ≤ k_) ∧ some k_ ≠ (.slice (some ad361) x10_1.length co72:Value).ownBlock ∧ some k_ ≠ (.slice Ao15 t305.length co15:Value).ownBlock ∧ some k_ ≠ (.slice Ao17 t308.length co17:Value).ownBlock ∧ some k_ ≠ (.slice Ao76 y362.length co76:Value).ownBlock ∧ k_ ≠ gb365) u15 x15_2):=⟨(by rw [hw];exact (by (with_reducible repeat (first|apply aN|apply nN|apply dN));exact Kd.N_mono (Kd.N_far (p:=⟨gb365,2,none⟩) (Kd.N_mono HO_15.out (fun k_ hk=>(⟨hk,hk.2.2.2.2.2⟩:_ ∧ k_ ≠ gb365))) (fun _ hk=>hk.2) (.int .i64 t368)) (fun _ hk=>⟨hk.1.1,⟨hk.1.2.1,⟨hk.1.2.2.1,⟨hk.1.2.2.2.1,⟨hk.1.2.2.2.2.1,hk.1.2.2.2.2.2⟩⟩⟩⟩⟩)))⟩;have n2_:Aside0 (Kd.N (Kd.slice 5 (Kd.int .u8)) 22 w83 w.heap.size (fun k_=>((P0_ k_ ∨ P1_ k_) ∨ w.heap.size ≤ k_) ∧ some k_ ≠ (.slice (some ad361) x10_1.length co72:Value).ownBlock ∧ some k_ ≠ (u15:Value).ownBlock ∧ some k_ ≠ (.slice Ao17 t308.length co17:Value).ownBlock ∧ some k_ ≠ (.slice Ao76 y362.length co76:Value).ownBlock ∧ k_ ≠ gb365) (.slice Ao15 t305.length co15) t305):=⟨(by rw [hw];exact (by (with_reducible repeat (first|apply aN|apply nN|apply dN));exact Kd.N_mono (Kd.N_far (p:=⟨gb365,2,none⟩) (Kd.N_mono HO_25.out (fun k_ hk=>(⟨hk,hk.2.2.2.2.2⟩:_ ∧ k_ ≠ gb365))) (fun _ hk=>hk.2) (.int .i64 t368)) (fun _ hk=>⟨hk.1.1,⟨hk.1.2.1,⟨hk.1.2.2.1,⟨hk.1.2.2.2.1,⟨hk.1.2.2.2.2.1,hk.1.2.2.2.2.2⟩⟩⟩⟩⟩)))⟩;have n3_:Aside0 (Kd.N (Kd.slice 5 (Kd.int .u8)) 22 w83 w.heap.size (fun k_=>((P0_ k_ ∨ P1_ k_) ∨ w.heap.size ≤ k_) ∧ some k_ ≠ (.slice (some ad361) x10_1.length co72:Value).ownBlock ∧ some k_ ≠ (u15:Value).ownBlock ∧ some k_ ≠ (.slice Ao15 t305.length co15:Value).ownBlock ∧ some k_ ≠ (.slice Ao76 y362.length co76:Value).ownBlock ∧ k_ ≠ gb365) (.slice Ao17 t308.length co17) t308):=⟨(by rw [hw];exact (by (with_reducible repeat (first|apply aN|apply nN|apply dN));exact Kd.N_mono (Kd.N_far (p:=⟨gb365,2,none⟩) (Kd.N_mono HO_28.out (fun k_ hk=>(⟨hk,hk.2.2.2.2.2⟩:_ ∧ k_ ≠ gb365))) (fun _ hk=>hk.2) (.int .i64 t368)) (fun _ hk=>⟨hk.1.1,⟨hk.1.2.1,⟨hk.1.2.2.1,⟨hk.1.2.2.2.1,⟨hk.1.2.2.2.2.1,hk.1.2.2.2.2.2⟩⟩⟩⟩⟩)))⟩;have n4_:Aside0 (Kd.V (Kd.int .u8) 5 w83 w.heap.size (fun k_=>((P0_ k_ ∨ P1_ k_) ∨ w.heap.size ≤ k_) ∧ some k_ ≠ (.slice (some ad361) x10_1.length co72:Value).ownBlock ∧ some k_ ≠ (u15:Value).ownBlock ∧ some k_ ≠ (.slice Ao76 y362.length co76:Value).ownBlock ∧ k_ ≠ gb365) (.slice A361_0 (rd_L3 x10_1 x16_2).length c361_0) (rd_L3 x10_1 x16_2)):=⟨(by rw [hw];exact (by (with_reducible repeat (first|apply aV|apply nV|apply dV));exact Kd.V_mono (Kd.V_far (p:=⟨gb365,2,none⟩) (Kd.V_mono HL361_0.out (fun k_ hk=>(⟨hk,hk.2.2.2.2⟩:_ ∧ k_ ≠ gb365))) (fun _ hk=>hk.2) (.int .i64 t368)) (fun _ hk=>⟨hk.1.1,⟨hk.1.2.1,⟨hk.1.2.2.1,⟨hk.1.2.2.2.1,hk.1.2.2.2.2⟩⟩⟩⟩)))⟩;have n5_:Aside0 (Kd.R (Kd.int .u8) 5 w83 w.heap.size (fun k_=>(w.heap.size ≤ k_)) (.slice Ao76 y362.length co76) y362):=⟨(by rw [hw];exact (by (with_reducible repeat (first|apply aR|apply nR|apply dR));exact Kd.R_mono (Kd.R_far (p:=⟨gb365,2,none⟩) (Kd.R_types HO364.out BK365.out (by decide)) (fun _ hk=>hk.2) (.int .i64 t368)) (fun _ hk=>hk.1)))⟩;have n6_:Aside0 (Kd.V (Kd.int .u8) 5 w83 w.heap.size (fun k_=>((P0_ k_ ∨ P1_ k_) ∨ w.heap.size ≤ k_) ∧ some k_ ≠ (.slice (some ad361) x10_1.length co72:Value).ownBlock ∧ some k_ ≠ (u15:Value).ownBlock ∧ some k_ ≠ (.slice Ao76 y362.length co76:Value).ownBlock ∧ k_ ≠ gb365) (.slice A366_0 (rd_L3 x10_1 x16_2).length c366_0) (rd_L3 x10_1 x16_2)):=⟨(by rw [hw];exact (by (with_reducible repeat (first|apply aV|apply nV|apply dV));exact Kd.V_mono (Kd.V_far (p:=⟨gb365,2,none⟩) (Kd.V_mono HL366_0.out (fun k_ hk=>(⟨hk,hk.2.2.2.2⟩:_ ∧ k_ ≠ gb365))) (fun _ hk=>hk.2) (.int .i64 t368)) (fun _ hk=>⟨hk.1.1,⟨hk.1.2.1,⟨hk.1.2.2.1,⟨hk.1.2.2.2.1,hk.1.2.2.2.2⟩⟩⟩⟩)))⟩;have n7_:Aside0 (w83.heap[gb365]? = some (.cells #[.slice Ao76 y362.length co76,.int .i64 t367,.int .i64 t368,.int .i64 0,.int .i64 0] 48 (0,0))):=⟨(by rw [hw];exact (by (with_reducible repeat (first|apply nB|apply dB|apply aB));refine blk_put (cs:=#[.slice Ao76 y362.length co76,.int .i64 t367,.int .i64 0,.int .i64 0,.int .i64 0]) ?_ 2 _ rfl;(with_reducible repeat (first|apply nB|apply dB|apply aB));exact BK365.out))⟩;have n8_:Aside0 (Below w.heap.size w w83):=⟨(by rw [hw];exact (kB HB.out))⟩;clear hw HO_10 HO_15 HO_25 HO_28 HL361_0 HO364 HL366_0 BK365 HB;have HO_10:=n0_;have HO_15:=n1_;have HO_25:=n2_;have HO_28:=n3_;have HL361_0:=n4_;have HO364:=n5_;have HL366_0:=n6_;have BK365:=n7_;have HB:=n8_;clear n0_ n1_ n2_ n3_ n4_ n5_ n6_ n7_ n8_;have p369:0 ≤ (x16_2:Int):=of_decide_eq_true (by first|(with_reducible assumption)|assumption);have q369:x16_2 < (x10_1.length:Int):=of_decide_eq_true (by first|(with_reducible assumption)|assumption);obtain⟨ad369,A369_0,c369_0,e369,hx369_0,hl369_0,hi369_0⟩:=at_L3 (Kd.N_reads' HO_10.out).2.2 x16_2 p369 q369;obtain rfl:ad361 = ad369:=(by injection e369);obtain⟨ce369,hce369,hMe369,hcc369⟩:=Kd.N_get HO_10.out [] x16_2 p369 (by first|exact q369|exact of_decide_eq_true (by first|(with_reducible assumption)|assumption)|(have e_:=(Kd.N_reads' HO_10.out).1;omega));obtain⟨ua369_0,uc369_0,rfl,ul369_0,ge369_0⟩:=Kd.FK_slice_open hMe369;have hv369_0:=hcc369 0 _ rfl;rw [Nat.add_zero,show ((Kd.slice 5 (Kd.int .u8))).sz = 1 from rfl,Nat.mul_one] at hv369_0;replace hv369_0:=Option.some.inj (hv369_0.symm.trans hx369_0);injection hv369_0 with hva_ hvn_ hvc_;rw [hva_] at ge369_0;rw [hvc_] at ul369_0;have HL369_0:=mk0 (show Kd.V (Kd.int .u8) 5 _ w.heap.size _ _ (rd_L3 x10_1 x16_2) from Kd.V_mk ul369_0 ge369_0);clear hva_ hvn_ hvc_ ge369_0 ul369_0 hcc369 hce369;have HR369_0:=mk0 hi369_0;have HC369_0:=mk0 hl369_0;clear hi369_0 hl369_0;replace p369:=eq_true p369;replace q369:=eq_true q369)|((with_reducible refine gate_callee (f:=54) rfl ?_);refine gL (some 121) Try.func54 #[.slice Ao17 t308.length co17,.slice A369_0 (rd_L3 x10_1 x16_2).length c369_0] ?_;(with_reducible refine (spec_l13Span.calls k2 _ _ t308 _ _ (rd_L3 x10_1 x16_2) t370 t371 _ ?side1 ?side2 ?side3 ?side4 A70.out).mono ?_);(case side1=>exact kC (Kd.N_reads' HO_28.out).2.2);(case side2=>exact (Kd.N_reads' HO_28.out).2.1);(case side3=>repeat (first|exact (by repeat (first|(with_reducible exact HR369_0.out)|(with_reducible first|apply aC|apply nC|apply dC)|exact HR369_0.out|exact (Kd.V_reads' HL369_0.out).2.2))|(with_reducible first|apply aC|apply nC|apply dC)));(case side4=>exact HC369_0.out);rintro e w' ⟨rfl,⟨nd,rfl⟩⟩;refine⟨_,rfl,?_⟩;(try (rw [drewN_self w83];generalize hq_:World.drewN w83 _ = w83;have n0_:Aside0 (Kd.V (Kd.int .u8) 5 w83 w.heap.size (fun k_=>((((P0_ k_ ∨ P1_ k_) ∨ w.heap.size ≤ k_)) ∧ (some k_ ≠ (.slice (some ad361) x10_1.length co72:Value).ownBlock ∧ (some k_ ≠ (u15:Value).ownBlock ∧ (some k_ ≠ (.slice Ao76 y362.length co76:Value).ownBlock ∧ k_ ≠ gb365))))) (.slice A361_0 (rd_L3 x10_1 x16_2).length c361_0) (rd_L3 x10_1 x16_2)):=⟨by rw [← hq_];exact (rV HL361_0.out)⟩;have n1_:Aside0 (Kd.V (Kd.int .u8) 5 w83 w.heap.size (fun k_=>((((P0_ k_ ∨ P1_ k_) ∨ w.heap.size ≤ k_)) ∧ (some k_ ≠ (.slice (some ad361) x10_1.length co72:Value).ownBlock ∧ (some k_ ≠ (u15:Value).ownBlock ∧ (some k_ ≠ (.slice Ao76 y362.length co76:Value).ownBlock ∧ k_ ≠ gb365))))) (.slice A366_0 (rd_L3 x10_1 x16_2).length c366_0) (rd_L3 x10_1 x16_2)):=⟨by rw [← hq_];exact (rV HL366_0.out)⟩;have n2_:Aside0 (Kd.V (Kd.int .u8) 5 w83 w.heap.size (fun k_=>(((((P0_ k_ ∨ P1_ k_) ∨ w.heap.size ≤ k_)) ∧ (some k_ ≠ (u15:Value).ownBlock ∧ (some k_ ≠ (.slice Ao76 y362.length co76:Value).ownBlock ∧ k_ ≠ gb365))) ∧ some k_ ≠ (.slice (some ad361) x10_1.length co72:Value).ownBlock)) (.slice A369_0 (rd_L3 x10_1 x16_2).length c369_0) (rd_L3 x10_1 x16_2)):=⟨by rw [← hq_];exact (rV HL369_0.out)⟩;have n3_:Aside0 (Kd.R (Kd.int .u8) 5 w83 w.heap.size (fun k_=>((w.heap.size ≤ k_))) (.slice Ao76 y362.length co76) y362):=⟨by rw [← hq_];exact (rR HO364.out)⟩;have n4_:Aside0 (Kd.N (Kd.slice 5 (Kd.int .u8)) 22 w83 w.heap.size (fun k_=>((((P0_ k_ ∨ P1_ k_) ∨ w.heap.size ≤ k_)) ∧ (some k_ ≠ (u15:Value).ownBlock ∧ (some k_ ≠ (.slice Ao76 y362.length co76:Value).ownBlock ∧ k_ ≠ gb365)))) (.slice (some ad361) x10_1.length co72) x10_1):=⟨by rw [← hq_];exact (rN HO_10.out)⟩;have n5_:Aside0 (Kd.N k48 48 w83 w.heap.size (fun k_=>((((P0_ k_ ∨ P1_ k_) ∨ w.heap.size ≤ k_)) ∧ (some k_ ≠ (.slice (some ad361) x10_1.length co72:Value).ownBlock ∧ (some k_ ≠ (.slice Ao15 t305.length co15:Value).ownBlock ∧ (some k_ ≠ (.slice Ao17 t308.length co17:Value).ownBlock ∧ (some k_ ≠ (.slice Ao76 y362.length co76:Value).ownBlock ∧ k_ ≠ gb365)))))) u15 x15_2):=⟨by rw [← hq_];exact (rN HO_15.out)⟩;have n6_:Aside0 (Kd.N (Kd.slice 5 (Kd.int .u8)) 22 w83 w.heap.size (fun k_=>((((P0_ k_ ∨ P1_ k_) ∨ w.heap.size ≤ k_)) ∧ (some k_ ≠ (.slice (some ad361) x10_1.length co72:Value).ownBlock ∧ (some k_ ≠ (u15:Value).ownBlock ∧ (some k_ ≠ (.slice Ao17 t308.length co17:Value).ownBlock ∧ (some k_ ≠ (.slice Ao76 y362.length co76:Value).ownBlock ∧ k_ ≠ gb365)))))) (.slice Ao15 t305.length co15) t305):=⟨by rw [← hq_];exact (rN HO_25.out)⟩;have n7_:Aside0 (Kd.N (Kd.slice 5 (Kd.int .u8)) 22 w83 w.heap.size (fun k_=>((((P0_ k_ ∨ P1_ k_) ∨ w.heap.size ≤ k_)) ∧ (some k_ ≠ (.slice (some ad361) x10_1.length co72:Value).ownBlock ∧ (some k_ ≠ (u15:Value).ownBlock ∧ (some k_ ≠ (.slice Ao15 t305.length co15:Value).ownBlock ∧ (some k_ ≠ (.slice Ao76 y362.length co76:Value).ownBlock ∧ k_ ≠ gb365)))))) (.slice Ao17 t308.length co17) t308):=⟨by rw [← hq_];exact (rN HO_28.out)⟩;have n8_:Aside0 (w83.heap[gb365]? = some (.cells #[.slice Ao76 y362.length co76,.int .i64 t367,.int .i64 t368,.int .i64 0,.int .i64 0] 48 (0,0))):=⟨by rw [← hq_];exact (kN BK365.out)⟩;have n9_:Aside0 (Below w.heap.size w w83):=⟨by rw [← hq_];exact (kB HB.out)⟩;have n10_:Aside0 (Kd.C (Kd.int .u8) w83 A366_0 (rd_L3 x10_1 x16_2).length (rd_L3 x10_1 x16_2)):=⟨by rw [← hq_];exact (by repeat (first|(with_reducible exact HR366_0.out)|(with_reducible first|apply aC|apply nC|apply dC)|exact HR366_0.out|exact (Kd.V_reads' HL366_0.out).2.2))⟩;have n11_:Aside0 (Kd.C (Kd.int .u8) w83 A369_0 (rd_L3 x10_1 x16_2).length (rd_L3 x10_1 x16_2)):=⟨by rw [← hq_];exact (by repeat (first|(with_reducible exact HR369_0.out)|(with_reducible first|apply aC|apply nC|apply dC)|exact HR369_0.out|exact (Kd.V_reads' HL369_0.out).2.2))⟩;clear HL361_0 HL366_0 HL369_0 HO364 HO_10 HO_15 HO_25 HO_28 BK365 HB HR366_0 HR369_0 hq_;have HL361_0:=n0_;have HL366_0:=n1_;have HL369_0:=n2_;have HO364:=n3_;have HO_10:=n4_;have HO_15:=n5_;have HO_25:=n6_;have HO_28:=n7_;have BK365:=n8_;have HB:=n9_;have HR366_0:=n10_;have HR369_0:=n11_;clear n0_ n1_ n2_ n3_ n4_ n5_ n6_ n7_ n8_ n9_ n10_ n11_));obtain⟨hcz84_0,hcz84_1,hcz84_2,hcz84_3,hcz84_4,hfz84_0,hfz84_1,hfz84_2,hfz84_3,hfz84_4⟩:=cz5 BK365.out)|((with_reducible refine gate_store (t:=3) (p:=124) rfl ?_);refine store_event (t:=3) (p:=124) (v:=?vo_w85) (w1:=(w83.setCell ⟨gb365,3,none⟩ (.int .i64 t370))) ?hg ?ho ?hn ?hr ?_;(case ho=>rfl);(case hg=>rfl);(case hn=>rfl);(case hr=>first|(go_simp;done)|(go_simp;rfl));intro w85 hw;have n0_:Aside0 (Kd.N (Kd.slice 5 (Kd.int .u8)) 22 w85 w.heap.size (fun k_=>((P0_ k_ ∨ P1_ k_) ∨ w.heap.size ≤ k_) ∧ some k_ ≠ (u15:Value).ownBlock ∧ some k_ ≠ (.slice Ao76 y362.length co76:Value).ownBlock ∧ k_ ≠ gb365) (.slice (some ad361) x10_1.length co72) x10_1):=⟨(by rw [hw];exact (by (with_reducible repeat (first|apply aN|apply nN|apply dN));exact Kd.N_mono (Kd.N_far (p:=⟨gb365,3,none⟩) (Kd.N_mono HO_10.out (fun k_ hk=>(⟨hk,hk.2.2.2⟩:_ ∧ k_ ≠ gb365))) (fun _ hk=>hk.2) (.int .i64 t370)) (fun _ hk=>⟨hk.1.1,⟨hk.1.2.1,⟨hk.1.2.2.1,hk.1.2.2.2⟩⟩⟩)))⟩;have n1_:Aside0 (Kd.N k48 48 w85 w.heap.size (fun k_=>((P0_ k_ ∨ P1_ k_) ∨ w.heap.size ≤ k_) ∧ some k_ ≠ (.slice (some ad361) x10_1.length co72:Value).ownBlock ∧ some k_ ≠ (.slice Ao15 t305.length co15:Value).ownBlock ∧ some k_ ≠ (.slice Ao17 t308.length co17:Value).ownBlock ∧ some k_ ≠ (.slice Ao76 y362.length co76:Value).ownBlock ∧ k_ ≠ gb365) u15 x15_2):=⟨(by rw [hw];exact (by (with_reducible repeat (first|apply aN|apply nN|apply dN));exact Kd.N_mono (Kd.N_far (p:=⟨gb365,3,none⟩) (Kd.N_mono HO_15.out (fun k_ hk=>(⟨hk,hk.2.2.2.2.2⟩:_ ∧ k_ ≠ gb365))) (fun _ hk=>hk.2) (.int .i64 t370)) (fun _ hk=>⟨hk.1.1,⟨hk.1.2.1,⟨hk.1.2.2.1,⟨hk.1.2.2.2.1,⟨hk.1.2.2.2.2.1,hk.1.2.2.2.2.2⟩⟩⟩⟩⟩)))⟩;have n2_:Aside0 (Kd.N (Kd.slice 5 (Kd.int .u8)) 22 w85 w.heap.size (fun k_=>((P0_ k_ ∨ P1_ k_) ∨ w.heap.size ≤ k_) ∧ some k_ ≠ (.slice (some ad361) x10_1.length co72:Value).ownBlock ∧ some k_ ≠ (u15:Value).ownBlock ∧ some k_ ≠ (.slice Ao17 t308.length co17:Value).ownBlock ∧ some k_ ≠ (.slice Ao76 y362.length co76:Value).ownBlock ∧ k_ ≠ gb365) (.slice Ao15 t305.length co15) t305):=⟨(by rw [hw];exact (by (with_reducible repeat (first|apply aN|apply nN|apply dN));exact Kd.N_mono (Kd.N_far (p:=⟨gb365,3,none⟩) (Kd.N_mono HO_25.out (fun k_ hk=>(⟨hk,hk.2.2.2.2.2⟩:_ ∧ k_ ≠ gb365))) (fun _ hk=>hk.2) (.int .i64 t370)) (fun _ hk=>⟨hk.1.1,⟨hk.1.2.1,⟨hk.1.2.2.1,⟨hk.1.2.2.2.1,⟨hk.1.2.2.2.2.1,hk.1.2.2.2.2.2⟩⟩⟩⟩⟩)))⟩;have n3_:Aside0 (Kd.N (Kd.slice 5 (Kd.int .u8)) 22 w85 w.heap.size (fun k_=>((P0_ k_ ∨ P1_ k_) ∨ w.heap.size ≤ k_) ∧ some k_ ≠ (.slice (some ad361) x10_1.length co72:Value).ownBlock ∧ some k_ ≠ (u15:Value).ownBlock ∧ some k_ ≠ (.slice Ao15 t305.length co15:Value).ownBlock ∧ some k_ ≠ (.slice Ao76 y362.length co76:Value).ownBlock ∧ k_ ≠ gb365) (.slice Ao17 t308.length co17) t308):=⟨(by rw [hw];exact (by (with_reducible repeat (first|apply aN|apply nN|apply dN));exact Kd.N_mono (Kd.N_far (p:=⟨gb365,3,none⟩) (Kd.N_mono HO_28.out (fun k_ hk=>(⟨hk,hk.2.2.2.2.2⟩:_ ∧ k_ ≠ gb365))) (fun _ hk=>hk.2) (.int .i64 t370)) (fun _ hk=>⟨hk.1.1,⟨hk.1.2.1,⟨hk.1.2.2.1,⟨hk.1.2.2.2.1,⟨hk.1.2.2.2.2.1,hk.1.2.2.2.2.2⟩⟩⟩⟩⟩)))⟩;have n4_:Aside0 (Kd.V (Kd.int .u8) 5 w85 w.heap.size (fun k_=>((P0_ k_ ∨ P1_ k_) ∨ w.heap.size ≤ k_) ∧ some k_ ≠ (.slice (some ad361) x10_1.length co72:Value).ownBlock ∧ some k_ ≠ (u15:Value).ownBlock ∧ some k_ ≠ (.slice Ao76 y362.length co76:Value).ownBlock ∧ k_ ≠ gb365) (.slice A361_0 (rd_L3 x10_1 x16_2).length c361_0) (rd_L3 x10_1 x16_2)):=⟨(by rw [hw];exact (by (with_reducible repeat (first|apply aV|apply nV|apply dV));exact Kd.V_mono (Kd.V_far (p:=⟨gb365,3,none⟩) (Kd.V_mono HL361_0.out (fun k_ hk=>(⟨hk,hk.2.2.2.2⟩:_ ∧ k_ ≠ gb365))) (fun _ hk=>hk.2) (.int .i64 t370)) (fun _ hk=>⟨hk.1.1,⟨hk.1.2.1,⟨hk.1.2.2.1,⟨hk.1.2.2.2.1,hk.1.2.2.2.2⟩⟩⟩⟩)))⟩;have n5_:Aside0 (Kd.R (Kd.int .u8) 5 w85 w.heap.size (fun k_=>(w.heap.size ≤ k_)) (.slice Ao76 y362.length co76) y362):=⟨(by rw [hw];exact (by (with_reducible repeat (first|apply aR|apply nR|apply dR));exact Kd.R_mono (Kd.R_far (p:=⟨gb365,3,none⟩) (Kd.R_types HO364.out BK365.out (by decide)) (fun _ hk=>hk.2) (.int .i64 t370)) (fun _ hk=>hk.1)))⟩;have n6_:Aside0 (Kd.V (Kd.int .u8) 5 w85 w.heap.size (fun k_=>((P0_ k_ ∨ P1_ k_) ∨ w.heap.size ≤ k_) ∧ some k_ ≠ (.slice (some ad361) x10_1.length co72:Value).ownBlock ∧ some k_ ≠ (u15:Value).ownBlock ∧ some k_ ≠ (.slice Ao76 y362.length co76:Value).ownBlock ∧ k_ ≠ gb365) (.slice A366_0 (rd_L3 x10_1 x16_2).length c366_0) (rd_L3 x10_1 x16_2)):=⟨(by rw [hw];exact (by (with_reducible repeat (first|apply aV|apply nV|apply dV));exact Kd.V_mono (Kd.V_far (p:=⟨gb365,3,none⟩) (Kd.V_mono HL366_0.out (fun k_ hk=>(⟨hk,hk.2.2.2.2⟩:_ ∧ k_ ≠ gb365))) (fun _ hk=>hk.2) (.int .i64 t370)) (fun _ hk=>⟨hk.1.1,⟨hk.1.2.1,⟨hk.1.2.2.1,⟨hk.1.2.2.2.1,hk.1.2.2.2.2⟩⟩⟩⟩)))⟩;have n7_:Aside0 (Kd.V (Kd.int .u8) 5 w85 w.heap.size (fun k_=>((P0_ k_ ∨ P1_ k_) ∨ w.heap.size ≤ k_) ∧ some k_ ≠ (.slice (some ad361) x10_1.length co72:Value).ownBlock ∧ some k_ ≠ (u15:Value).ownBlock ∧ some k_ ≠ (.slice Ao76 y362.length co76:Value).ownBlock ∧ k_ ≠ gb365) (.slice A369_0 (rd_L3 x10_1 x16_2).length c369_0) (rd_L3 x10_1 x16_2)):=⟨(by rw [hw];exact (by (with_reducible repeat (first|apply aV|apply nV|apply dV));exact Kd.V_mono (Kd.V_far (p:=⟨gb365,3,none⟩) (Kd.V_mono HL369_0.out (fun k_ hk=>(⟨hk,hk.1.2.2.2⟩:_ ∧ k_ ≠ gb365))) (fun _ hk=>hk.2) (.int .i64 t370)) (fun _ hk=>⟨hk.1.1.1,⟨hk.1.2,⟨hk.1.1.2.1,⟨hk.1.1.2.2.1,hk.1.1.2.2.2⟩⟩⟩⟩)))⟩;have n8_:Aside0 (w85.heap[gb365]? = some (.cells #[.slice Ao76 y362.length co76,.int .i64 t367,.int .i64 t368,.int .i64 t370,.int .i64 0] 48 (0,0))):=⟨(by rw [hw];exact (by (with_reducible repeat (first|apply nB|apply dB|apply aB));refine blk_put (cs:=#[.slice Ao76 y362.length co76,.int .i64 t367,.int .i64 t368,.int .i64 0,.int .i64 0]) ?_ 3 _ rfl;(with_reducible repeat (first|apply nB|apply dB|apply aB));exact BK365.out))⟩;have n9_:Aside0 (Below w.heap.size w w85):=⟨(by rw [hw];exact (kB HB.out))⟩;clear hw HO_10 HO_15 HO_25 HO_28 HL361_0 HO364 HL366_0 HL369_0 BK365 HB;have HO_10:=n0_;have HO_15:=n1_;have HO_25:=n2_;have HO_28:=n3_;have HL361_0:=n4_;have HO364:=n5_;have HL366_0:=n6_;have HL369_0:=n7_;have BK365:=n8_;have HB:=n9_;clear n0_ n1_ n2_ n3_ n4_ n5_ n6_ n7_ n8_ n9_;obtain⟨hcz86_0,hcz86_1,hcz86_2,hcz86_3,hcz86_4,hfz86_0,hfz86_1,hfz86_2,hfz86_3,hfz86_4⟩:=cz5 BK365.out)|((with_reducible refine gate_store (t:=3) (p:=125) rfl ?_);refine store_event (t:=3) (p:=125) (v:=?vo_w87) (w1:=(w85.setCell ⟨gb365,4,none⟩ (.int .i64 t371))) ?hg ?ho ?hn ?hr ?_;(case ho=>rfl);(case hg=>rfl);(case hn=>rfl);(case hr=>first|(go_simp;done)|(go_simp;rfl));intro w87 hw;have n0_:Aside0 (Kd.N (Kd.slice 5 (Kd.int .u8)) 22 w87 w.heap.size (fun k_=>((P0_ k_ ∨ P1_ k_) ∨ w.heap.size ≤ k_) ∧ some k_ ≠ (u15:Value).ownBlock ∧ some k_ ≠ (.slice Ao76 y362.length co76:Value).ownBlock ∧ k_ ≠ gb365) (.slice (some ad361) x10_1.length co72) x10_1):=⟨(by rw [hw];exact (by (with_reducible repeat (first|apply aN|apply nN|apply dN));exact Kd.N_mono (Kd.N_far (p:=⟨gb365,4,none⟩) (Kd.N_mono HO_10.out (fun k_ hk=>(⟨hk,hk.2.2.2⟩:_ ∧ k_ ≠ gb365))) (fun _ hk=>hk.2) (.int .i64 t371)) (fun _ hk=>⟨hk.1.1,⟨hk.1.2.1,⟨hk.1.2.2.1,hk.1.2.2.2⟩⟩⟩)))⟩;have n1_:Aside0 (Kd.N k48 48 w87 w.heap.size (fun k_=>((P0_ k_ ∨ P1_ k_) ∨ w.heap.size ≤ k_) ∧ some k_ ≠ (.slice (some ad361) x10_1.length co72:Value).ownBlock ∧ some k_ ≠ (.slice Ao15 t305.length co15:Value).ownBlock ∧ some k_ ≠ (.slice Ao17 t308.length co17:Value).ownBlock ∧ some k_ ≠ (.slice Ao76 y362.length co76:Value).ownBlock ∧ k_ ≠ gb365) u15 x15_2):=⟨(by rw [hw];exact (by (with_reducible repeat (first|apply aN|apply nN|apply dN));exact Kd.N_mono (Kd.N_far (p:=⟨gb365,4,none⟩) (Kd.N_mono HO_15.out (fun k_ hk=>(⟨hk,hk.2.2.2.2.2⟩:_ ∧ k_ ≠ gb365))) (fun _ hk=>hk.2) (.int .i64 t371)) (fun _ hk=>⟨hk.1.1,⟨hk.1.2.1,⟨hk.1.2.2.1,⟨hk.1.2.2.2.1,⟨hk.1.2.2.2.2.1,hk.1.2.2.2.2.2⟩⟩⟩⟩⟩)))⟩;have n2_:Aside0 (Kd.N (Kd.slice 5 (Kd.int .u8)) 22 w87 w.heap.size (fun k_=>((P0_ k_ ∨ P1_ k_) ∨ w.heap.size ≤ k_) ∧ some k_ ≠ (.slice (some ad361) x10_1.length co72:Value).ownBlock ∧ some k_ ≠ (u15:Value).ownBlock ∧ some k_ ≠ (.slice Ao17 t308.length co17:Value).ownBlock ∧ some k_ ≠ (.slice Ao76 y362.length co76:Value).ownBlock ∧ k_ ≠ gb365) (.slice Ao15 t305.length co15) t305):=⟨(by rw [hw];exact (by (with_reducible repeat (first|apply aN|apply nN|apply dN));exact Kd.N_mono (Kd.N_far (p:=⟨gb365,4,none⟩) (Kd.N_mono HO_25.out (fun k_ hk=>(⟨hk,hk.2.2.2.2.2⟩:_ ∧ k_ ≠ gb365))) (fun _ hk=>hk.2) (.int .i64 t371)) (fun _ hk=>⟨hk.1.1,⟨hk.1.2.1,⟨hk.1.2.2.1,⟨hk.1.2.2.2.1,⟨hk.1.2.2.2.2.1,hk.1.2.2.2.2.2⟩⟩⟩⟩⟩)))⟩;have n3_:Aside0 (Kd.N (Kd.slice 5 (Kd.int .u8)) 22 w87 w.heap.size (fun k_=>((P0_ k_ ∨ P1_ k_) ∨ w.heap.size ≤ k_) ∧ some k_ ≠ (.slice (some ad361) x10_1.length co72:Value).ownBlock ∧ some k_ ≠ (u15:Value).ownBlock ∧ some k_ ≠ (.slice Ao15 t305.length co15:Value).ownBlock ∧ some k_ ≠ (.slice Ao76 y362.length co76:Value).ownBlock ∧ k_ ≠ gb365) (.slice Ao17 t308.length co17) t308):=⟨(by rw [hw];exact (by (with_reducible repeat (first|apply aN|apply nN|apply dN));exact Kd.N_mono (Kd.N_far (p:=⟨gb365,4,none⟩) (Kd.N_mono HO_28.out (fun k_ hk=>(⟨hk,hk.2.2.2.2.2⟩:_ ∧ k_ ≠ gb365))) (fun _ hk=>hk.2) (.int .i64 t371)) (fun _ hk=>⟨hk.1.1,⟨hk.1.2.1,⟨hk.1.2.2.1,⟨hk.1.2.2.2.1,⟨hk.1.2.2.2.2.1,hk.1.2.2.2.2.2⟩⟩⟩⟩⟩)))⟩;have n4_:Aside0 (Kd.V (Kd.int .u8) 5 w87 w.heap.size (fun k_=>((P0_ k_ ∨ P1_ k_) ∨ w.heap.size ≤ k_) ∧ some k_ ≠ (.slice (some ad361) x10_1.length co72:Value).ownBlock ∧ some k_ ≠ (u15:Value).ownBlock ∧ some k_ ≠ (.slice Ao76 y362.length co76:Value).ownBlock ∧ k_ ≠ gb365) (.slice A361_0 (rd_L3 x10_1 x16_2).length c361_0) (rd_L3 x10_1 x16_2)):=⟨(by rw [hw];exact (by (with_reducible repeat (first|apply aV|apply nV|apply dV));exact Kd.V_mono (Kd.V_far (p:=⟨gb365,4,none⟩) (Kd.V_mono HL361_0.out (fun k_ hk=>(⟨hk,hk.2.2.2.2⟩:_ ∧ k_ ≠ gb365))) (fun _ hk=>hk.2) (.int .i64 t371)) (fun _ hk=>⟨hk.1.1,⟨hk.1.2.1,⟨hk.1.2.2.1,⟨hk.1.2.2.2.1,hk.1.2.2.2.2⟩⟩⟩⟩)))⟩;have n5_:Aside0 (Kd.R (Kd.int .u8) 5 w87 w.heap.size (fun k_=>(w.heap.size ≤ k_)) (.slice Ao76 y362.length co76) y362):=⟨(by rw [hw];exact (by (with_reducible repeat (first|apply aR|apply nR|apply dR));exact Kd.R_mono (Kd.R_far (p:=⟨gb365,4,none⟩) (Kd.R_types HO364.out BK365.out (by decide)) (fun _ hk=>hk.2) (.int .i64 t371)) (fun _ hk=>hk.1)))⟩;have n6_:Aside0 (Kd.V (Kd.int .u8) 5 w87 w.heap.size (fun k_=>((P0_ k_ ∨ P1_ k_) ∨ w.heap.size ≤ k_) ∧ some k_ ≠ (.slice (some ad361) x10_1.length co72:Value).ownBlock ∧ some k_ ≠ (u15:Value).ownBlock ∧ some k_ ≠ (.slice Ao76 y362.length co76:Value).ownBlock ∧ k_ ≠ gb365) (.slice A366_0 (rd_L3 x10_1 x16_2).length c366_0) (rd_L3 x10_1 x16_2)):=⟨(by rw [hw];exact (by (with_reducible repeat (first|apply aV|apply nV|apply dV));exact Kd.V_mono (Kd.V_far (p:=⟨gb365,4,none⟩) (Kd.V_mono HL366_0.out (fun k_ hk=>(⟨hk,hk.2.2.2.2⟩:_ ∧ k_ ≠ gb365))) (fun _ hk=>hk.2) (.int .i64 t371)) (fun _ hk=>⟨hk.1.1,⟨hk.1.2.1,⟨hk.1.2.2.1,⟨hk.1.2.2.2.1,hk.1.2.2.2.2⟩⟩⟩⟩)))⟩;have n7_:Aside0 (Kd.V (Kd.int .u8) 5 w87 w.heap.size (fun k_=>((P0_ k_ ∨ P1_ k_) ∨ w.heap.size ≤ k_) ∧ some k_ ≠ (.slice (some ad361) x10_1.length co72:Value).ownBlock ∧ some k_ ≠ (u15:Value).ownBlock ∧ some k_ ≠ (.slice Ao76 y362.length co76:Value).ownBlock ∧ k_ ≠ gb365) (.slice A369_0 (rd_L3 x10_1 x16_2).length c369_0) (rd_L3 x10_1 x16_2)):=⟨(by rw [hw];exact (by (with_reducible repeat (first|apply aV|apply nV|apply dV));exact Kd.V_mono (Kd.V_far (p:=⟨gb365,4,none⟩) (Kd.V_mono HL369_0.out (fun k_ hk=>(⟨hk,hk.2.2.2.2⟩:_ ∧ k_ ≠ gb365))) (fun _ hk=>hk.2) (.int .i64 t371)) (fun _ hk=>⟨hk.1.1,⟨hk.1.2.1,⟨hk.1.2.2.1,⟨hk.1.2.2.2.1,hk.1.2.2.2.2⟩⟩⟩⟩)))⟩;have n8_:Aside0 (w87.heap[gb365]? = some (.cells #[.slice Ao76 y362.length co76,.int .i64 t367,.int .i64 t368,.int .i64 t370,.int .i64 t371] 48 (0,0))):=⟨(by rw [hw];exact (by (with_reducible repeat (first|apply nB|apply dB|apply aB));refine blk_put (cs:=#[.slice Ao76 y362.length co76,.int .i64 t367,.int .i64 t368,.int .i64 t370,.int .i64 0]) ?_ 4 _ rfl;(with_reducible repeat (first|apply nB|apply dB|apply aB));exact BK365.out))⟩;have n9_:Aside0 (Below w.heap.size w w87):=⟨(by rw [hw];exact (kB HB.out))⟩;clear hw HO_10 HO_15 HO_25 HO_28 HL361_0 HO364 HL366_0 HL369_0 BK365 HB;have HO_10:=n0_;have HO_15:=n1_;have HO_25:=n2_;have HO_28:=n3_;have HL361_0:=n4_;have HO364:=n5_;have HL366_0:=n6_;have HL369_0:=n7_;have BK365:=n8_;have HB:=n9_;clear n0_ n1_ n2_ n3_ n4_ n5_ n6_ n7_ n8_ n9_;obtain⟨hcz88_0,hcz88_1,hcz88_2,hcz88_3,hcz88_4,hfz88_0,hfz88_1,hfz88_2,hfz88_3,hfz88_4⟩:=cz5 BK365.out)|((with_reducible refine gate_builtin (b:=.append) (xs:=#[.tmp 126,.tmp 128]) rfl ?_);at_builtin;refine Kd.N_append k48 (w0:=w) w.heap.size rfl (.tmp 126) (.tmp 128) 43 48 (.agg #[(.slice none 0 0),(.int .i64 0),(.int .i64 0),(.int .i64 0),(.int .i64 0)]) 56 rfl Try.underlying43 info48 rfl (by decide) (by omega) u15 x15_2 (⟨y362,t367,t368,t370,t371⟩:S48) [.slice Ao76 y362.length co76,.int .i64 t367,.int .i64 t368,.int .i64 t370,.int .i64 t371] (fun k_=>((P0_ k_ ∨ P1_ k_) ∨ w.heap.size ≤ k_) ∧ some k_ ≠ (.slice (some ad361) x10_1.length co72:Value).ownBlock ∧ some k_ ≠ (.slice Ao15 t305.length co15:Value).ownBlock ∧ some k_ ≠ (.slice Ao17 t308.length co17:Value).ownBlock ∧ k_ ≠ gb365) (fun k_=>((fun k_=>((P0_ k_ ∨ P1_ k_) ∨ w.heap.size ≤ k_) ∧ some k_ ≠ (.slice (some ad361) x10_1.length co72:Value).ownBlock ∧ some k_ ≠ (.slice Ao15 t305.length co15:Value).ownBlock ∧ some k_ ≠ (.slice Ao17 t308.length co17:Value).ownBlock ∧ k_ ≠ gb365)) k_ ∧ some k_ ≠ (u15:Value).ownBlock) rfl rfl ?aP (fun _ hk=>hk) ?aF ?aO ?aB ?aS ?aL ?_;(case aP=>exact (k48_mkF _ _ (⟨y362,t367,t368,t370,t371⟩:S48) (Kd.R_reads' (Kd.R_mono (ok':=(fun k_=>((fun k_=>((P0_ k_ ∨ P1_ k_) ∨ w.heap.size ≤ k_) ∧ some k_ ≠ (.slice (some ad361) x10_1.length co72:Value).ownBlock ∧ some k_ ≠ (.slice Ao15 t305.length co15:Value).ownBlock ∧ some k_ ≠ (.slice Ao17 t308.length co17:Value).ownBlock ∧ k_ ≠ gb365)) k_ ∧ some k_ ≠ (u15:Value).ownBlock)) (Kd.R_types (Kd.R_apart' (Kd.R_apart' (Kd.R_apart' (Kd.R_apart' (HO364.out) (Kd.N_typed HO_10.out) (by decide)) (Kd.N_typed HO_25.out) (by decide)) (Kd.N_typed HO_28.out) (by decide)) (Kd.N_typed HO_15.out) (by decide)) BK365.out (by decide)) (fun k_ hk=>⟨⟨(.inr (hk.1.1.1.1.1)),⟨hk.1.1.1.1.2,⟨hk.1.1.1.2,⟨hk.1.1.2,hk.2⟩⟩⟩⟩,hk.1.2⟩))).2.1 (Kd.R_F (Kd.R_mono (ok':=(fun k_=>((fun k_=>((P0_ k_ ∨ P1_ k_) ∨ w.heap.size ≤ k_) ∧ some k_ ≠ (.slice (some ad361) x10_1.length co72:Value).ownBlock ∧ some k_ ≠ (.slice Ao15 t305.length co15:Value).ownBlock ∧ some k_ ≠ (.slice Ao17 t308.length co17:Value).ownBlock ∧ k_ ≠ gb365)) k_ ∧ some k_ ≠ (u15:Value).ownBlock)) (Kd.R_types (Kd.R_apart' (Kd.R_apart' (Kd.R_apart' (Kd.R_apart' (HO364.out) (Kd.N_typed HO_10.out) (by decide)) (Kd.N_typed HO_25.out) (by decide)) (Kd.N_typed HO_28.out) (by decide)) (Kd.N_typed HO_15.out) (by decide)) BK365.out (by decide)) (fun k_ hk=>⟨⟨(.inr (hk.1.1.1.1.1)),⟨hk.1.1.1.1.2,⟨hk.1.1.1.2,⟨hk.1.1.2,hk.2⟩⟩⟩⟩,hk.1.2⟩)))));(case aB=>exact (kB HB.out));(case aF=>exact (fun k_ hk=>⟨(.inr (Nat.le_trans (kZ HB.out) hk)),Kd.fresh' (Kd.N_lt (rN HO_10.out)) k_ hk,Kd.fresh' (Kd.N_lt (rN HO_25.out)) k_ hk,Kd.fresh' (Kd.N_lt (rN HO_28.out)) k_ hk,Kd.freshB (g:=gb365) (kN BK365.out) k_ hk⟩));(case aO=>exact (rN (Kd.N_mono HO_15.out (fun _ hk=>⟨hk.1,⟨hk.2.1,⟨hk.2.2.1,⟨hk.2.2.2.1,hk.2.2.2.2.2⟩⟩⟩⟩))));(case aS=>exact (kZ HB.out));(case aL=>have:=LMc71.out;omega);intro v373 w89 ho hb hg hat;rw [← Ny372.out] at ho;replace HO_10:=mk0 (Kd.N_afterv (ok:=(fun k_=>((P0_ k_ ∨ P1_ k_) ∨ w.heap.size ≤ k_) ∧ some k_ ≠ (.slice Ao76 y362.length co76:Value).ownBlock ∧ k_ ≠ gb365)) (rN (Kd.N_mono HO_10.out (fun _ hk=>⟨⟨hk.1,⟨hk.2.2.1,hk.2.2.2⟩⟩,hk.2.1⟩))) hg hat);replace HO_25:=mk0 (Kd.N_afterv (ok:=(fun k_=>((P0_ k_ ∨ P1_ k_) ∨ w.heap.size ≤ k_) ∧ some k_ ≠ (.slice (some ad361) x10_1.length co72:Value).ownBlock ∧ some k_ ≠ (.slice Ao17 t308.length co17:Value).ownBlock ∧ some k_ ≠ (.slice Ao76 y362.length co76:Value).ownBlock ∧ k_ ≠ gb365)) (rN (Kd.N_mono HO_25.out (fun _ hk=>⟨⟨hk.1,⟨hk.2.1,⟨hk.2.2.2.1,⟨hk.2.2.2.2.1,hk.2.2.2.2.2⟩⟩⟩⟩,hk.2.2.1⟩))) hg hat);replace HO_28:=mk0 (Kd.N_afterv (ok:=(fun k_=>((P0_ k_ ∨ P1_ k_) ∨ w.heap.size ≤ k_) ∧ some k_ ≠ (.slice (some ad361) x10_1.length co72:Value).ownBlock ∧ some k_ ≠ (.slice Ao15 t305.length co15:Value).ownBlock ∧ some k_ ≠ (.slice Ao76 y362.length co76:Value).ownBlock ∧ k_ ≠ gb365)) (rN (Kd.N_mono HO_28.out (fun _ hk=>⟨⟨hk.1,⟨hk.2.1,⟨hk.2.2.2.1,⟨hk.2.2.2.2.1,hk.2.2.2.2.2⟩⟩⟩⟩,hk.2.2.1⟩))) hg hat);replace HL361_0:=mk0 (Kd.V_afterv (ok:=(fun k_=>((P0_ k_ ∨ P1_ k_) ∨ w.heap.size ≤ k_) ∧ some k_ ≠ (.slice (some ad361) x10_1.length co72:Value).ownBlock ∧ some k_ ≠ (.slice Ao76 y362.length co76:Value).ownBlock ∧ k_ ≠ gb365)) (rV (Kd.V_mono HL361_0.out (fun _ hk=>⟨⟨hk.1,⟨hk.2.1,⟨hk.2.2.2.1,hk.2.2.2.2⟩⟩⟩,hk.2.2.1⟩))) hg hat);replace BK365:=mk0 (blk_grown (kN BK365.out) hg (Kd.N_away HO_15.out (fun _ hk=>hk.2.2.2.2.2)));replace HL366_0:=mk0 (Kd.V_afterv (ok:=(fun k_=>((P0_ k_ ∨ P1_ k_) ∨ w.heap.size ≤ k_) ∧ some k_ ≠ (.slice (some ad361) x10_1.length co72:Value).ownBlock ∧ some k_ ≠ (.slice Ao76 y362.length co76:Value).ownBlock ∧ k_ ≠ gb365)) (rV (Kd.V_mono HL366_0.out (fun _ hk=>⟨⟨hk.1,⟨hk.2.1,⟨hk.2.2.2.1,hk.2.2.2.2⟩⟩⟩,hk.2.2.1⟩))) hg hat);replace HL369_0:=mk0 (Kd.V_afterv (ok:=(fun k_=>((P0_ k_ ∨ P1_ k_) ∨ w.heap.size ≤ k_) ∧ some k_ ≠ (.slice (some ad361) x10_1.length co72:Value).ownBlock ∧ some k_ ≠ (.slice Ao76 y362.length co76:Value).ownBlock ∧ k_ ≠ gb365)) (rV (Kd.V_mono HL369_0.out (fun _ hk=>⟨⟨hk.1,⟨hk.2.1,⟨hk.2.2.2.1,hk.2.2.2.2⟩⟩⟩,hk.2.2.1⟩))) hg hat);replace HB:=mk0 (hb);have HO374:=mk0 (ho);clear HO_15 HO364 ho hb hg hat))
      go_roundg k2
      case measure=>have:=HK1.out;have:=HK2.out;omega
      case rel=>exact⟨(y372),(wrap64 (x16_2 + 1)),(by first|rfl|(simp;done)|(simp [*];done)),H',⟨by have:=HK1.out;have:=HK2.out;omega⟩,⟨rN (Kd.N_mono HO_10.out (fun _ hk=>⟨hk.1.1,hk.2⟩))⟩,⟨rN (Kd.N_mono HO374.out (fun _ hk=>⟨hk.1,⟨hk.2.1,⟨hk.2.2.1,hk.2.2.2.1⟩⟩⟩))⟩,⟨rN (Kd.N_mono HO_25.out (fun _ hk=>⟨hk.1.1,⟨hk.1.2.1,⟨hk.2,hk.1.2.2.1⟩⟩⟩))⟩,⟨rN (Kd.N_mono HO_28.out (fun _ hk=>⟨hk.1.1,⟨hk.1.2.1,⟨hk.2,hk.1.2.2.1⟩⟩⟩))⟩,⟨kB HB.out⟩⟩
   rw [if_pos c20] at H
   have c20b0:decide (x11_1 < (y317.length:Int)) = true:=decide_eq_true c20
   (try simp only [hl323_0] at c20b0)
   (try simp only [hl324_0] at c20b0)
   (try simp only [hl326_0] at c20b0)
   (try simp only [hl327_0] at c20b0)
   (try simp only [hl329_0] at c20b0)
   (try simp only [hl361_0] at c20b0)
   (try simp only [hl366_0] at c20b0)
   (try simp only [hl369_0] at c20b0)
   clear c20
   have HC21:=mk0 H
   clear H
   obtain⟨Ao22,co22,eo22⟩:=Kd.N_slice HO_33.out
   subst eo22
   go_upto_block 2 with (fail)
   go_cut [12,13] (fun v12 v13 wc=>∃ (kq:Nat) (x12_20:Int) (x13_20:Bool),v12 = .int .i64 x12_20 ∧ v13 = .bool x13_20 ∧ Aside0 (spec_Parts.j2 kq t305 t308 y317 x10_1 x11_1 x12_20 x13_20 = some r) ∧ Aside0 (kq ≤ k1) ∧ Aside0 (Kd.N (Kd.slice 5 (Kd.int .u8)) 22 wc w.heap.size (fun k_=>((P0_ k_ ∨ P1_ k_) ∨ w.heap.size ≤ k_) ∧ some k_ ≠ ((.slice Ao17 t308.length co17):Value).ownBlock ∧ some k_ ≠ ((.slice Ao22 y317.length co22):Value).ownBlock ∧ some k_ ≠ (u10:Value).ownBlock) (.slice Ao15 t305.length co15) t305) ∧ Aside0 (Kd.N (Kd.slice 5 (Kd.int .u8)) 22 wc w.heap.size (fun k_=>((P0_ k_ ∨ P1_ k_) ∨ w.heap.size ≤ k_) ∧ some k_ ≠ ((.slice Ao15 t305.length co15):Value).ownBlock ∧ some k_ ≠ ((.slice Ao22 y317.length co22):Value).ownBlock ∧ some k_ ≠ (u10:Value).ownBlock) (.slice Ao17 t308.length co17) t308) ∧ Aside0 (Kd.N (Kd.slice 5 (Kd.int .u8)) 22 wc w.heap.size (fun k_=>((P0_ k_ ∨ P1_ k_) ∨ w.heap.size ≤ k_) ∧ some k_ ≠ (u10:Value).ownBlock) (.slice Ao22 y317.length co22) y317) ∧ Aside0 (Kd.N (Kd.slice 5 (Kd.int .u8)) 22 wc w.heap.size (fun k_=>((P0_ k_ ∨ P1_ k_) ∨ w.heap.size ≤ k_) ∧ some k_ ≠ ((.slice Ao22 y317.length co22):Value).ownBlock) u10 x10_1) ∧ Aside0 (Below w.heap.size w wc))
   case first =>
    have H:=HC21.out
    clear HC21
    have H':=mk0 H
    clear H
    go_wp2
    go_loopg [12,13] k1 (fun kq v12 v13 w'=>∃ (x12_2:Int) (x13_2:Bool),v12 = .int .i64 x12_2 ∧ v13 = .bool x13_2 ∧ Aside0 (spec_Parts.l1 kq x10_1 x11_1 x12_2 x13_2 t305 t308 y317 = some r) ∧ Aside0 (kq ≤ k1) ∧ Aside0 (Kd.N (Kd.slice 5 (Kd.int .u8)) 22 w' w.heap.size (fun k_=>((P0_ k_ ∨ P1_ k_) ∨ w.heap.size ≤ k_) ∧ some k_ ≠ ((.slice Ao22 y317.length co22):Value).ownBlock) u10 x10_1) ∧ Aside0 (Kd.N (Kd.slice 5 (Kd.int .u8)) 22 w' w.heap.size (fun k_=>((P0_ k_ ∨ P1_ k_) ∨ w.heap.size ≤ k_) ∧ some k_ ≠ (u10:Value).ownBlock ∧ some k_ ≠ ((.slice Ao17 t308.length co17):Value).ownBlock ∧ some k_ ≠ ((.slice Ao22 y317.length co22):Value).ownBlock) (.slice Ao15 t305.length co15) t305) ∧ Aside0 (Kd.N (Kd.slice 5 (Kd.int .u8)) 22 w' w.heap.size (fun k_=>((P0_ k_ ∨ P1_ k_) ∨ w.heap.size ≤ k_) ∧ some k_ ≠ (u10:Value).ownBlock ∧ some k_ ≠ ((.slice Ao15 t305.length co15):Value).ownBlock ∧ some k_ ≠ ((.slice Ao22 y317.length co22):Value).ownBlock) (.slice Ao17 t308.length co17) t308) ∧ Aside0 (Kd.N (Kd.slice 5 (Kd.int .u8)) 22 w' w.heap.size (fun k_=>((P0_ k_ ∨ P1_ k_) ∨ w.heap.size ≤ k_) ∧ some k_ ≠ (u10:Value).ownBlock) (.slice Ao22 y317.length co22) y317) ∧ Aside0 (Below w.heap.size w w'))
    case atStart=>exact⟨(0),(false),(by first|rfl|(simp;done)|(simp [*];done)),(by first|rfl|(simp;done)|(simp [*];done)),H',⟨Nat.le_refl _⟩,⟨rN HO_10.out⟩,⟨rN HO_25.out⟩,⟨rN HO_28.out⟩,⟨rN HO_33.out⟩,⟨kB HB.out⟩⟩
    case round =>
     clear H'
     try clear c1
     try clear c2
     try clear p2
     try clear c3
     try clear c5
     try clear c8
     try clear c9
     try clear c20
     try clear c20b0
     try clear p2
     obtain⟨x12_2,x13_2,rfl,rfl,HA,HK2,HO_10,HO_25,HO_28,HO_33,HB⟩:=hrel
     cases gk with
     | zero=>exact absurd HA.out (by simp [spec_Parts.l1])
     | succ k2 =>
      have H:=HA.out
      clear HA
      simp only [spec_Parts.l1] at H
      by_cases c23:x12_2 < (x10_1.length:Int)
      rotate_left
      ·rw [if_neg c23] at H
       have c23b0:decide (x12_2 < (x10_1.length:Int)) = false:=decide_eq_false c23
       (try simp only [hl323_0] at c23b0)
       (try simp only [hl324_0] at c23b0)
       (try simp only [hl326_0] at c23b0)
       (try simp only [hl327_0] at c23b0)
       (try simp only [hl329_0] at c23b0)
       (try simp only [hl361_0] at c23b0)
       (try simp only [hl366_0] at c23b0)
       (try simp only [hl369_0] at c23b0)
       clear c23
       (first|rw [c23b0]|(simp only [i64_w,i32_w];rw [c23b0])|skip)
       have H':=mk0 H
       clear H
       try go_wp2
       replace HO_10:=mk0 (dN HO_10.out)
       replace HO_25:=mk0 (dN HO_25.out)
       replace HO_28:=mk0 (dN HO_28.out)
       replace HO_33:=mk0 (dN HO_33.out)
       replace HB:=mk0 (dZ HB.out)
       obtain⟨Ao40,co40,eo40⟩:=Kd.N_slice HO_10.out
       (first|subst eo40|(injection eo40 with f1_ f2_ f3_;have f4_:=f1_.symm;have f5_:=f3_.symm;clear f1_ f2_ f3_;subst f4_;subst f5_))
       refine start_ (n:=16) (S:=fun w'=>True) (ds:=[]) (bm 16 0) (by kernel_rfl) rfl (by kernel_rfl) trivial (fun hHeld=>?_);refine with_tabW spec_Parts.tab12 spec_Parts.bits12 (fun HT_ HW_=>?_)
       generalize wr.drew = w39 at HO_10 HO_25 HO_28 HO_33 HB hHeld ⊢
       refine pU 0 (some 41) (bm 16 1) HT_ ?_
       refine pU 1 (some 42) (bm 16 3) HT_ ?_
       refine pU 2 (some 43) (bm 16 7) HT_ ?_
       refine pU 3 (some 44) (bm 16 15) HT_ ?_
       refine pU 4 (some 45) (bm 16 31) HT_ ?_
       refine pX 5 (some 46) (bm 16 63) HT_ ?_
       refine pX 6 (some 47) (bm 16 127) HT_ ?_
       refine pX 7 (some 48) (bm 16 255) HT_ ?_
       refine pX 8 (some 49) (bm 16 511) HT_ ?_
       refine pX 9 (some 50) (bm 16 1023) HT_ ?_
       refine pX 10 (some 51) (bm 16 2047) HT_ ?_
       refine pX 11 (some 52) (bm 16 4095) HT_ ?_
       refine pX 12 (some 53) (bm 16 8191) HT_ ?_
       refine pX 13 (some 54) (bm 16 16383) HT_ ?_
       refine pX 14 (some 55) (bm 16 32767) HT_ ?_
       refine pU 15 (some 56) (bm 16 65535) HT_ ?_
       refine pD HT_ ?_
       try go_wp2
       go_meet
       case rel=>exact⟨_,(x12_2),(x13_2),(by first|rfl|(simp;done)|(simp [*];done)),(by first|rfl|(simp;done)|(simp [*];done)),H',⟨by have:=HK1.out;have:=HK2.out;first|omega|exact Nat.le_refl _⟩,⟨rN (Kd.N_mono HO_25.out (fun _ hk=>⟨hk.1,⟨hk.2.2.1,⟨hk.2.2.2,hk.2.1⟩⟩⟩))⟩,⟨rN (Kd.N_mono HO_28.out (fun _ hk=>⟨hk.1,⟨hk.2.2.1,⟨hk.2.2.2,hk.2.1⟩⟩⟩))⟩,⟨rN HO_33.out⟩,⟨rN HO_10.out⟩,⟨kB HB.out⟩⟩
      rw [if_pos c23] at H
      have c23b0:decide (x12_2 < (x10_1.length:Int)) = true:=decide_eq_true c23
      (try simp only [hl323_0] at c23b0)
      (try simp only [hl324_0] at c23b0)
      (try simp only [hl326_0] at c23b0)
      (try simp only [hl327_0] at c23b0)
      (try simp only [hl329_0] at c23b0)
      (try simp only [hl361_0] at c23b0)
      (try simp only [hl366_0] at c23b0)
      (try simp only [hl369_0] at c23b0)
      clear c23
      (first|rw [c23b0]|(simp only [i64_w,i32_w];rw [c23b0])|skip)
      by_cases c24:0 ≤ x12_2
      rotate_left
      ·rw [if_neg c24] at H
       exact absurd H (by simp)
      rw [if_pos c24] at H
      have c24b0:decide (0 ≤ x12_2) = true:=decide_eq_true c24
      clear c24
      by_cases c25:0 ≤ x11_1
      rotate_left
      ·rw [if_neg c25] at H
       exact absurd H (by simp)
      rw [if_pos c25] at H
      have c25b0:decide (0 ≤ x11_1) = true:=decide_eq_true c25
      clear c25
      by_cases c26:x11_1 < (y317.length:Int)
      rotate_left
      ·rw [if_neg c26] at H
       exact absurd H (by simp)
      rw [if_pos c26] at H
      have c26b0:decide (x11_1 < (y317.length:Int)) = true:=decide_eq_true c26
      (try simp only [hl323_0] at c26b0)
      (try simp only [hl324_0] at c26b0)
      (try simp only [hl326_0] at c26b0)
      (try simp only [hl327_0] at c26b0)
      (try simp only [hl329_0] at c26b0)
      (try simp only [hl361_0] at c26b0)
      (try simp only [hl366_0] at c26b0)
      (try simp only [hl369_0] at c26b0)
      clear c26
      replace H:=Option.bind_eq_some_iff.mp H
      obtain⟨t325,A270,H⟩:=H
      replace H:(if t325 ≤ 0 then (if x13_2 = true then (spec_Parts.l1 k2 x10_1 x11_1 (wrap64 (x12_2 + 1)) true t305 t308 y317) else ((spec_l05Cmp.f k2 (rd_L3 x10_1 x12_2) (rd_L3 y317 x11_1)).bind fun t328=>(spec_Parts.l1 k2 x10_1 x11_1 (wrap64 (x12_2 + 1)) (t328 == 0) t305 t308 y317))) else (spec_Parts.j2 k2 t305 t308 y317 x10_1 x11_1 x12_2 x13_2)) = some r:=H
      have A27:=mk0 A270
      clear A270
      by_cases c28:t325 ≤ 0
      rotate_left
      ·rw [if_neg c28] at H
       have c28b0:decide (t325 ≤ 0) = false:=decide_eq_false c28
       clear c28
       have H':=mk0 H
       clear H
       try go_wp2
       replace HO_10:=mk0 (dN HO_10.out)
       replace HO_25:=mk0 (dN HO_25.out)
       replace HO_28:=mk0 (dN HO_28.out)
       replace HO_33:=mk0 (dN HO_33.out)
       replace HB:=mk0 (dZ HB.out)
       obtain⟨Ao38,co38,eo38⟩:=Kd.N_slice HO_10.out
       (first|subst eo38|(injection eo38 with f1_ f2_ f3_;have f4_:=f1_.symm;have f5_:=f3_.symm;clear f1_ f2_ f3_;subst f4_;subst f5_))
       have p323:0 ≤ (x12_2:Int):=of_decide_eq_true (by first|(with_reducible assumption)|assumption)
       have q323:x12_2 < (x10_1.length:Int):=of_decide_eq_true (by first|(with_reducible assumption)|assumption)
       obtain⟨ad323,A323_0,c323_0,e323,hx323_0,hl323_0,hi323_0⟩:=at_L3 (Kd.N_reads' HO_10.out).2.2 x12_2 p323 q323
       cases e323
       obtain⟨ce323,hce323,hMe323,hcc323⟩:=Kd.N_get HO_10.out [] x12_2 p323 (by first|exact q323|exact of_decide_eq_true (by first|(with_reducible assumption)|assumption)|(have e_:=(Kd.N_reads' HO_10.out).1;omega))
       obtain⟨ua323_0,uc323_0,rfl,ul323_0,ge323_0⟩:=Kd.FK_slice_open hMe323
       have hv323_0:=hcc323 0 _ rfl
       rw [Nat.add_zero,show ((Kd.slice 5 (Kd.int .u8))).sz = 1 from rfl,Nat.mul_one] at hv323_0
       replace hv323_0:=Option.some.inj (hv323_0.symm.trans hx323_0)
       injection hv323_0 with hva_ hvn_ hvc_
       rw [hva_] at ge323_0
       rw [hvc_] at ul323_0
       have HL323_0:=mk0 (show Kd.V (Kd.int .u8) 5 _ w.heap.size _ _ (rd_L3 x10_1 x12_2) from Kd.V_mk ul323_0 ge323_0)
       clear hva_ hvn_ hvc_ ge323_0 ul323_0
       clear hcc323 hce323
       have HR323_0:=mk0 hi323_0
       have HC323_0:=mk0 hl323_0
       clear hi323_0 hl323_0
       replace p323:=eq_true p323
       replace q323:=eq_true q323
       have p324:0 ≤ (x11_1:Int):=of_decide_eq_true (by first|(with_reducible assumption)|assumption)
       have q324:x11_1 < (y317.length:Int):=of_decide_eq_true (by first|(with_reducible assumption)|assumption)
       obtain⟨ad324,A324_0,c324_0,e324,hx324_0,hl324_0,hi324_0⟩:=at_L3 (Kd.N_reads' HO_33.out).2.2 x11_1 p324 q324
       cases e324
       obtain⟨ce324,hce324,hMe324,hcc324⟩:=Kd.N_get HO_33.out [] x11_1 p324 (by first|exact q324|exact of_decide_eq_true (by first|(with_reducible assumption)|assumption)|(have e_:=(Kd.N_reads' HO_33.out).1;omega))
       obtain⟨ua324_0,uc324_0,rfl,ul324_0,ge324_0⟩:=Kd.FK_slice_open hMe324
       have hv324_0:=hcc324 0 _ rfl
       rw [Nat.add_zero,show ((Kd.slice 5 (Kd.int .u8))).sz = 1 from rfl,Nat.mul_one] at hv324_0
       replace hv324_0:=Option.some.inj (hv324_0.symm.trans hx324_0)
       injection hv324_0 with hva_ hvn_ hvc_
       rw [hva_] at ge324_0
       rw [hvc_] at ul324_0
       have HL324_0:=mk0 (show Kd.V (Kd.int .u8) 5 _ w.heap.size _ _ (rd_L3 y317 x11_1) from Kd.V_mk ul324_0 ge324_0)
       clear hva_ hvn_ hvc_ ge324_0 ul324_0
       clear hcc324 hce324
       have HR324_0:=mk0 hi324_0
       have HC324_0:=mk0 hl324_0
       clear hi324_0 hl324_0
       replace p324:=eq_true p324
       replace q324:=eq_true q324
       refine start_ (n:=16) (S:=fun w'=>w'.cell? (ad323.add (x12_2).toNat) = some (.slice A323_0 (rd_L3 x10_1 x12_2).length c323_0) ∧ w'.cell? (ad324.add (x11_1).toNat) = some (.slice A324_0 (rd_L3 y317 x11_1).length c324_0)) (ds:=[]) (bm 16 0) (by kernel_rfl) rfl (by kernel_rfl) ⟨hx323_0,hx324_0⟩ (fun hHeld=>?_);refine with_tabW spec_Parts.tab12 spec_Parts.bits12 (fun HT_ HW_=>?_)
       generalize wr.drew = w37 at HO_10 HO_25 HO_28 HO_33 HB HL323_0 HL324_0 HR323_0 HR324_0 hx323_0 hx324_0 hHeld ⊢
       refine pU 0 (some 41) (bm 16 1) HT_ ?_
       refine pU 1 (some 42) (bm 16 3) HT_ ?_
       refine pU 2 (some 43) (bm 16 7) HT_ ?_
       refine pU 3 (some 44) (bm 16 15) HT_ ?_
       refine pU 4 (some 45) (bm 16 31) HT_ ?_
       refine pU 5 (some 46) (bm 16 63) HT_ ?_
       refine pU 6 (some 47) (bm 16 127) HT_ ?_
       refine pU 7 (some 48) (bm 16 255) HT_ ?_
       refine pU 9 (some 50) (bm 16 767) HT_ ?_
       refine pU 10 (some 51) (bm 16 1791) HT_ ?_
       refine pU 11 (some 52) (bm 16 3839) HT_ ?_
       refine pT 8 (some 49) (bm 16 4095) HT_ HW_ hHeld ?_
       refine pT 12 (some 53) (bm 16 8191) HT_ HW_ hHeld ?_
       refine pO 13 (some 54) (bm 16 16383) HT_ (fun K hK=>?_)
       refine gO Try.func53 #[.slice A323_0 (rd_L3 x10_1 x12_2).length c323_0,.slice A324_0 (rd_L3 y317 x11_1).length c324_0] ?_
       with_reducible refine (spec_l05Cmp.calls k2 _ _ (rd_L3 x10_1 x12_2) _ _ (rd_L3 y317 x11_1) t325 _ ?side1 ?side2 ?side3 ?side4 A27.out).mono ?_
       (case side1=>repeat (first|exact (by repeat (first|(with_reducible exact HR323_0.out)|(with_reducible first|apply aC|apply nC|apply dC)|exact HR323_0.out|exact (Kd.V_reads' HL323_0.out).2.2))|(with_reducible first|apply aC|apply nC|apply dC)))
       (case side2=>exact HC323_0.out)
       (case side3=>repeat (first|exact (by repeat (first|(with_reducible exact HR324_0.out)|(with_reducible first|apply aC|apply nC|apply dC)|exact HR324_0.out|exact (Kd.V_reads' HL324_0.out).2.2))|(with_reducible first|apply aC|apply nC|apply dC)))
       (case side4=>exact HC324_0.out)
       rintro e w' ⟨rfl,⟨nd,rfl⟩⟩
       refine⟨_,rfl,?_⟩
       refine hK.out _ _ ⟨hHeld.1,hHeld.2⟩ (fun hHeld=>?_)
       clear hK K
       refine pN (some 54) ?_
       refine pU 14 (some 55) (bm 16 32767) HT_ ?_
       refine pU 15 (some 56) (bm 16 65535) HT_ ?_
       refine pD HT_ ?_
       try go_wp2
       go_meet
       case rel=>exact⟨_,(x12_2),(x13_2),(by first|rfl|(simp;done)|(simp [*];done)),(by first|rfl|(simp;done)|(simp [*];done)),H',⟨by have:=HK1.out;have:=HK2.out;first|omega|exact Nat.le_refl _⟩,⟨rN (Kd.N_mono HO_25.out (fun _ hk=>⟨hk.1,⟨hk.2.2.1,⟨hk.2.2.2,hk.2.1⟩⟩⟩))⟩,⟨rN (Kd.N_mono HO_28.out (fun _ hk=>⟨hk.1,⟨hk.2.2.1,⟨hk.2.2.2,hk.2.1⟩⟩⟩))⟩,⟨rN HO_33.out⟩,⟨rN HO_10.out⟩,⟨kB HB.out⟩⟩
      rw [if_pos c28] at H
      have c28b0:decide (t325 ≤ 0) = true:=decide_eq_true c28
      clear c28
      by_cases c29:x13_2 = true
      ·subst c29
       have H1:(spec_Parts.l1 k2 x10_1 x11_1 (wrap64 (x12_2 + 1)) true t305 t308 y317) = some r:=by rw [if_pos rfl] at H;exact H
       clear H
       have H:=H1
       clear H1
       have H':=mk0 H
       clear H
       try go_wp2
       replace HO_10:=mk0 (dN HO_10.out)
       replace HO_25:=mk0 (dN HO_25.out)
       replace HO_28:=mk0 (dN HO_28.out)
       replace HO_33:=mk0 (dN HO_33.out)
       replace HB:=mk0 (dZ HB.out)
       obtain⟨Ao31,co31,eo31⟩:=Kd.N_slice HO_10.out
       (first|subst eo31|(injection eo31 with f1_ f2_ f3_;have f4_:=f1_.symm;have f5_:=f3_.symm;clear f1_ f2_ f3_;subst f4_;subst f5_))
       have p323:0 ≤ (x12_2:Int):=of_decide_eq_true (by first|(with_reducible assumption)|assumption)
       have q323:x12_2 < (x10_1.length:Int):=of_decide_eq_true (by first|(with_reducible assumption)|assumption)
       obtain⟨ad323,A323_0,c323_0,e323,hx323_0,hl323_0,hi323_0⟩:=at_L3 (Kd.N_reads' HO_10.out).2.2 x12_2 p323 q323
       cases e323
       obtain⟨ce323,hce323,hMe323,hcc323⟩:=Kd.N_get HO_10.out [] x12_2 p323 (by first|exact q323|exact of_decide_eq_true (by first|(with_reducible assumption)|assumption)|(have e_:=(Kd.N_reads' HO_10.out).1;omega))
       obtain⟨ua323_0,uc323_0,rfl,ul323_0,ge323_0⟩:=Kd.FK_slice_open hMe323
       have hv323_0:=hcc323 0 _ rfl
       rw [Nat.add_zero,show ((Kd.slice 5 (Kd.int .u8))).sz = 1 from rfl,Nat.mul_one] at hv323_0
       replace hv323_0:=Option.some.inj (hv323_0.symm.trans hx323_0)
       injection hv323_0 with hva_ hvn_ hvc_
       rw [hva_] at ge323_0
       rw [hvc_] at ul323_0
       have HL323_0:=mk0 (show Kd.V (Kd.int .u8) 5 _ w.heap.size _ _ (rd_L3 x10_1 x12_2) from Kd.V_mk ul323_0 ge323_0)
       clear hva_ hvn_ hvc_ ge323_0 ul323_0
       clear hcc323 hce323
       have HR323_0:=mk0 hi323_0
       have HC323_0:=mk0 hl323_0
       clear hi323_0 hl323_0
       replace p323:=eq_true p323
       replace q323:=eq_true q323
       have p324:0 ≤ (x11_1:Int):=of_decide_eq_true (by first|(with_reducible assumption)|assumption)
       have q324:x11_1 < (y317.length:Int):=of_decide_eq_true (by first|(with_reducible assumption)|assumption)
       obtain⟨ad324,A324_0,c324_0,e324,hx324_0,hl324_0,hi324_0⟩:=at_L3 (Kd.N_reads' HO_33.out).2.2 x11_1 p324 q324
       cases e324
       obtain⟨ce324,hce324,hMe324,hcc324⟩:=Kd.N_get HO_33.out [] x11_1 p324 (by first|exact q324|exact of_decide_eq_true (by first|(with_reducible assumption)|assumption)|(have e_:=(Kd.N_reads' HO_33.out).1;omega))
       obtain⟨ua324_0,uc324_0,rfl,ul324_0,ge324_0⟩:=Kd.FK_slice_open hMe324
       have hv324_0:=hcc324 0 _ rfl
       rw [Nat.add_zero,show ((Kd.slice 5 (Kd.int .u8))).sz = 1 from rfl,Nat.mul_one] at hv324_0
       replace hv324_0:=Option.some.inj (hv324_0.symm.trans hx324_0)
       injection hv324_0 with hva_ hvn_ hvc_
       rw [hva_] at ge324_0
       rw [hvc_] at ul324_0
       have HL324_0:=mk0 (show Kd.V (Kd.int .u8) 5 _ w.heap.size _ _ (rd_L3 y317 x11_1) from Kd.V_mk ul324_0 ge324_0)
       clear hva_ hvn_ hvc_ ge324_0 ul324_0
       clear hcc324 hce324
       have HR324_0:=mk0 hi324_0
       have HC324_0:=mk0 hl324_0
       clear hi324_0 hl324_0
       replace p324:=eq_true p324
       replace q324:=eq_true q324
       refine start_ (n:=16) (S:=fun w'=>w'.cell? (ad323.add (x12_2).toNat) = some (.slice A323_0 (rd_L3 x10_1 x12_2).length c323_0) ∧ w'.cell? (ad324.add (x11_1).toNat) = some (.slice A324_0 (rd_L3 y317 x11_1).length c324_0)) (ds:=[]) (bm 16 0) (by kernel_rfl) rfl (by kernel_rfl) ⟨hx323_0,hx324_0⟩ (fun hHeld=>?_);refine with_tabW spec_Parts.tab12 spec_Parts.bits12 (fun HT_ HW_=>?_)
       generalize wr.drew = w30 at HO_10 HO_25 HO_28 HO_33 HB HL323_0 HL324_0 HR323_0 HR324_0 hx323_0 hx324_0 hHeld ⊢
       refine pU 0 (some 41) (bm 16 1) HT_ ?_
       refine pU 1 (some 42) (bm 16 3) HT_ ?_
       refine pU 2 (some 43) (bm 16 7) HT_ ?_
       refine pU 3 (some 44) (bm 16 15) HT_ ?_
       refine pU 4 (some 45) (bm 16 31) HT_ ?_
       refine pU 5 (some 46) (bm 16 63) HT_ ?_
       refine pU 6 (some 47) (bm 16 127) HT_ ?_
       refine pU 7 (some 48) (bm 16 255) HT_ ?_
       refine pU 9 (some 50) (bm 16 767) HT_ ?_
       refine pU 10 (some 51) (bm 16 1791) HT_ ?_
       refine pU 11 (some 52) (bm 16 3839) HT_ ?_
       refine pT 8 (some 49) (bm 16 4095) HT_ HW_ hHeld ?_
       refine pT 12 (some 53) (bm 16 8191) HT_ HW_ hHeld ?_
       refine pO 13 (some 54) (bm 16 16383) HT_ (fun K hK=>?_)
       refine gO Try.func53 #[.slice A323_0 (rd_L3 x10_1 x12_2).length c323_0,.slice A324_0 (rd_L3 y317 x11_1).length c324_0] ?_
       with_reducible refine (spec_l05Cmp.calls k2 _ _ (rd_L3 x10_1 x12_2) _ _ (rd_L3 y317 x11_1) t325 _ ?side1 ?side2 ?side3 ?side4 A27.out).mono ?_
       (case side1=>repeat (first|exact (by repeat (first|(with_reducible exact HR323_0.out)|(with_reducible first|apply aC|apply nC|apply dC)|exact HR323_0.out|exact (Kd.V_reads' HL323_0.out).2.2))|(with_reducible first|apply aC|apply nC|apply dC)))
       (case side2=>exact HC323_0.out)
       (case side3=>repeat (first|exact (by repeat (first|(with_reducible exact HR324_0.out)|(with_reducible first|apply aC|apply nC|apply dC)|exact HR324_0.out|exact (Kd.V_reads' HL324_0.out).2.2))|(with_reducible first|apply aC|apply nC|apply dC)))
       (case side4=>exact HC324_0.out)
       rintro e w' ⟨rfl,⟨nd,rfl⟩⟩
       refine⟨_,rfl,?_⟩
       refine hK.out _ _ ⟨hHeld.1,hHeld.2⟩ (fun hHeld=>?_)
       clear hK K
       refine pN (some 54) ?_
       refine pU 14 (some 55) (bm 16 32767) HT_ ?_
       refine pU 15 (some 56) (bm 16 65535) HT_ ?_
       refine pD HT_ ?_
       try go_wp2
       (try (rw [drewN_self w30];generalize hq_:World.drewN w30 _ = w30;have n0_:Aside0 (Kd.V (Kd.int .u8) 5 w30 w.heap.size (fun k_=>(((((P0_ k_ ∨ P1_ k_) ∨ w.heap.size ≤ k_)) ∧ some k_ ≠ (.slice (some ad324) y317.length co22:Value).ownBlock) ∧ some k_ ≠ (.slice (some ad323) x10_1.length co31:Value).ownBlock)) (.slice A323_0 (rd_L3 x10_1 x12_2).length c323_0) (rd_L3 x10_1 x12_2)):=⟨by rw [← hq_];exact (rV HL323_0.out)⟩;have n1_:Aside0 (Kd.V (Kd.int .u8) 5 w30 w.heap.size (fun k_=>(((((P0_ k_ ∨ P1_ k_) ∨ w.heap.size ≤ k_)) ∧ some k_ ≠ (.slice (some ad323) x10_1.length co31:Value).ownBlock) ∧ some k_ ≠ (.slice (some ad324) y317.length co22:Value).ownBlock)) (.slice A324_0 (rd_L3 y317 x11_1).length c324_0) (rd_L3 y317 x11_1)):=⟨by rw [← hq_];exact (rV HL324_0.out)⟩;have n2_:Aside0 (Kd.N (Kd.slice 5 (Kd.int .u8)) 22 w30 w.heap.size (fun k_=>((((P0_ k_ ∨ P1_ k_) ∨ w.heap.size ≤ k_)) ∧ some k_ ≠ (.slice (some ad324) y317.length co22:Value).ownBlock)) (.slice (some ad323) x10_1.length co31) x10_1):=⟨by rw [← hq_];exact (rN HO_10.out)⟩;have n3_:Aside0 (Kd.N (Kd.slice 5 (Kd.int .u8)) 22 w30 w.heap.size (fun k_=>((((P0_ k_ ∨ P1_ k_) ∨ w.heap.size ≤ k_)) ∧ (some k_ ≠ (.slice (some ad323) x10_1.length co31:Value).ownBlock ∧ (some k_ ≠ (.slice Ao17 t308.length co17:Value).ownBlock ∧ some k_ ≠ (.slice (some ad324) y317.length co22:Value).ownBlock)))) (.slice Ao15 t305.length co15) t305):=⟨by rw [← hq_];exact (rN HO_25.out)⟩;have n4_:Aside0 (Kd.N (Kd.slice 5 (Kd.int .u8)) 22 w30 w.heap.size (fun k_=>((((P0_ k_ ∨ P1_ k_) ∨ w.heap.size ≤ k_)) ∧ (some k_ ≠ (.slice (some ad323) x10_1.length co31:Value).ownBlock ∧ (some k_ ≠ (.slice Ao15 t305.length co15:Value).ownBlock ∧ some k_ ≠ (.slice (some ad324) y317.length co22:Value).ownBlock)))) (.slice Ao17 t308.length co17) t308):=⟨by rw [← hq_];exact (rN HO_28.out)⟩;have n5_:Aside0 (Kd.N (Kd.slice 5 (Kd.int .u8)) 22 w30 w.heap.size (fun k_=>((((P0_ k_ ∨ P1_ k_) ∨ w.heap.size ≤ k_)) ∧ some k_ ≠ (.slice (some ad323) x10_1.length co31:Value).ownBlock)) (.slice (some ad324) y317.length co22) y317):=⟨by rw [← hq_];exact (rN HO_33.out)⟩;have n6_:Aside0 (Below w.heap.size w w30):=⟨by rw [← hq_];exact (kB HB.out)⟩;have n7_:Aside0 (Kd.C (Kd.int .u8) w30 A323_0 (rd_L3 x10_1 x12_2).length (rd_L3 x10_1 x12_2)):=⟨by rw [← hq_];exact (by repeat (first|(with_reducible exact HR323_0.out)|(with_reducible first|apply aC|apply nC|apply dC)|exact HR323_0.out|exact (Kd.V_reads' HL323_0.out).2.2))⟩;have n8_:Aside0 (Kd.C (Kd.int .u8) w30 A324_0 (rd_L3 y317 x11_1).length (rd_L3 y317 x11_1)):=⟨by rw [← hq_];exact (by repeat (first|(with_reducible exact HR324_0.out)|(with_reducible first|apply aC|apply nC|apply dC)|exact HR324_0.out|exact (Kd.V_reads' HL324_0.out).2.2))⟩;clear HL323_0 HL324_0 HO_10 HO_25 HO_28 HO_33 HB HR323_0 HR324_0 hq_;have HL323_0:=n0_;have HL324_0:=n1_;have HO_10:=n2_;have HO_25:=n3_;have HO_28:=n4_;have HO_33:=n5_;have HB:=n6_;have HR323_0:=n7_;have HR324_0:=n8_;clear n0_ n1_ n2_ n3_ n4_ n5_ n6_ n7_ n8_))
       replace HO_10:=mk0 (dN HO_10.out)
       replace HO_25:=mk0 (dN HO_25.out)
       replace HO_28:=mk0 (dN HO_28.out)
       replace HO_33:=mk0 (dN HO_33.out)
       replace HL323_0:=mk0 (dV HL323_0.out)
       replace HL324_0:=mk0 (dV HL324_0.out)
       replace HR323_0:=mk0 (dC HR323_0.out)
       replace HR324_0:=mk0 (dC HR324_0.out)
       replace HB:=mk0 (dZ HB.out)
       refine start_ (n:=14) (S:=fun w'=>True) (ds:=[]) (bm 14 0) (by kernel_rfl) rfl (by kernel_rfl) trivial (fun hHeld=>?_);refine with_tabW spec_Parts.tab13 spec_Parts.bits13 (fun HT_ HW_=>?_)
       generalize w30.drew = w32 at HO_10 HO_25 HO_28 HO_33 HL323_0 HL324_0 HR323_0 HR324_0 HB hHeld ⊢
       refine pU 0 (some 57) (bm 14 1) HT_ ?_
       refine pU 1 (some 58) (bm 14 3) HT_ ?_
       refine pX 2 (some 59) (bm 14 7) HT_ ?_
       refine pX 3 (some 60) (bm 14 15) HT_ ?_
       refine pX 4 (some 61) (bm 14 31) HT_ ?_
       refine pX 5 (some 62) (bm 14 63) HT_ ?_
       refine pX 6 (some 63) (bm 14 127) HT_ ?_
       refine pX 7 (some 64) (bm 14 255) HT_ ?_
       refine pX 8 (some 65) (bm 14 511) HT_ ?_
       refine pX 9 (some 66) (bm 14 1023) HT_ ?_
       refine pX 10 (some 67) (bm 14 2047) HT_ ?_
       refine pX 11 (some 68) (bm 14 4095) HT_ ?_
       refine pU 12 (some 69) (bm 14 8191) HT_ ?_
       refine pU 13 (some 13) (bm 14 16383) HT_ ?_
       refine pD HT_ ?_
       try go_wp2
       go_roundg k2
       case measure=>have:=HK1.out;have:=HK2.out;omega
       case rel=>exact⟨(wrap64 (x12_2 + 1)),(true),(by first|rfl|(simp;done)|(simp [*];done)),(by first|rfl|(simp;done)|(simp [*];done)),H',⟨by have:=HK1.out;have:=HK2.out;omega⟩,⟨rN HO_10.out⟩,⟨rN HO_25.out⟩,⟨rN HO_28.out⟩,⟨rN HO_33.out⟩,⟨kB HB.out⟩⟩
      replace c29:=Bool.eq_false_iff.mpr c29
      subst c29
      have H1:((spec_l05Cmp.f k2 (rd_L3 x10_1 x12_2) (rd_L3 y317 x11_1)).bind fun t328=>(spec_Parts.l1 k2 x10_1 x11_1 (wrap64 (x12_2 + 1)) (t328 == 0) t305 t308 y317)) = some r:=by rw [if_neg (show ¬ (false = true) by decide)] at H;exact H
      clear H
      have H:=H1
      clear H1
      replace H:=Option.bind_eq_some_iff.mp H
      obtain⟨t328,A330,H⟩:=H
      replace H:(spec_Parts.l1 k2 x10_1 x11_1 (wrap64 (x12_2 + 1)) (t328 == 0) t305 t308 y317) = some r:=H
      have A33:=mk0 A330
      clear A330
      have H':=mk0 H
      clear H
      try go_wp2
      replace HO_10:=mk0 (dN HO_10.out)
      replace HO_25:=mk0 (dN HO_25.out)
      replace HO_28:=mk0 (dN HO_28.out)
      replace HO_33:=mk0 (dN HO_33.out)
      replace HB:=mk0 (dZ HB.out)
      obtain⟨Ao35,co35,eo35⟩:=Kd.N_slice HO_10.out
      (first|subst eo35|(injection eo35 with f1_ f2_ f3_;have f4_:=f1_.symm;have f5_:=f3_.symm;clear f1_ f2_ f3_;subst f4_;subst f5_))
      have p323:0 ≤ (x12_2:Int):=of_decide_eq_true (by first|(with_reducible assumption)|assumption)
      have q323:x12_2 < (x10_1.length:Int):=of_decide_eq_true (by first|(with_reducible assumption)|assumption)
      obtain⟨ad323,A323_0,c323_0,e323,hx323_0,hl323_0,hi323_0⟩:=at_L3 (Kd.N_reads' HO_10.out).2.2 x12_2 p323 q323
      cases e323
      obtain⟨ce323,hce323,hMe323,hcc323⟩:=Kd.N_get HO_10.out [] x12_2 p323 (by first|exact q323|exact of_decide_eq_true (by first|(with_reducible assumption)|assumption)|(have e_:=(Kd.N_reads' HO_10.out).1;omega))
      obtain⟨ua323_0,uc323_0,rfl,ul323_0,ge323_0⟩:=Kd.FK_slice_open hMe323
      have hv323_0:=hcc323 0 _ rfl
      rw [Nat.add_zero,show ((Kd.slice 5 (Kd.int .u8))).sz = 1 from rfl,Nat.mul_one] at hv323_0
      replace hv323_0:=Option.some.inj (hv323_0.symm.trans hx323_0)
      injection hv323_0 with hva_ hvn_ hvc_
      rw [hva_] at ge323_0
      rw [hvc_] at ul323_0
      have HL323_0:=mk0 (show Kd.V (Kd.int .u8) 5 _ w.heap.size _ _ (rd_L3 x10_1 x12_2) from Kd.V_mk ul323_0 ge323_0)
      clear hva_ hvn_ hvc_ ge323_0 ul323_0
      clear hcc323 hce323
      have HR323_0:=mk0 hi323_0
      have HC323_0:=mk0 hl323_0
      clear hi323_0 hl323_0
      replace p323:=eq_true p323
      replace q323:=eq_true q323
      have p324:0 ≤ (x11_1:Int):=of_decide_eq_true (by first|(with_reducible assumption)|assumption)
      have q324:x11_1 < (y317.length:Int):=of_decide_eq_true (by first|(with_reducible assumption)|assumption)
      obtain⟨ad324,A324_0,c324_0,e324,hx324_0,hl324_0,hi324_0⟩:=at_L3 (Kd.N_reads' HO_33.out).2.2 x11_1 p324 q324
      cases e324
      obtain⟨ce324,hce324,hMe324,hcc324⟩:=Kd.N_get HO_33.out [] x11_1 p324 (by first|exact q324|exact of_decide_eq_true (by first|(with_reducible assumption)|assumption)|(have e_:=(Kd.N_reads' HO_33.out).1;omega))
      obtain⟨ua324_0,uc324_0,rfl,ul324_0,ge324_0⟩:=Kd.FK_slice_open hMe324
      have hv324_0:=hcc324 0 _ rfl
      rw [Nat.add_zero,show ((Kd.slice 5 (Kd.int .u8))).sz = 1 from rfl,Nat.mul_one] at hv324_0
      replace hv324_0:=Option.some.inj (hv324_0.symm.trans hx324_0)
      injection hv324_0 with hva_ hvn_ hvc_
      rw [hva_] at ge324_0
      rw [hvc_] at ul324_0
      have HL324_0:=mk0 (show Kd.V (Kd.int .u8) 5 _ w.heap.size _ _ (rd_L3 y317 x11_1) from Kd.V_mk ul324_0 ge324_0)
      clear hva_ hvn_ hvc_ ge324_0 ul324_0
      clear hcc324 hce324
      have HR324_0:=mk0 hi324_0
      have HC324_0:=mk0 hl324_0
      clear hi324_0 hl324_0
      replace p324:=eq_true p324
      replace q324:=eq_true q324
      refine start_ (n:=16) (S:=fun w'=>w'.cell? (ad323.add (x12_2).toNat) = some (.slice A323_0 (rd_L3 x10_1 x12_2).length c323_0) ∧ w'.cell? (ad324.add (x11_1).toNat) = some (.slice A324_0 (rd_L3 y317 x11_1).length c324_0)) (ds:=[]) (bm 16 0) (by kernel_rfl) rfl (by kernel_rfl) ⟨hx323_0,hx324_0⟩ (fun hHeld=>?_);refine with_tabW spec_Parts.tab12 spec_Parts.bits12 (fun HT_ HW_=>?_)
      generalize wr.drew = w34 at HO_10 HO_25 HO_28 HO_33 HB HL323_0 HL324_0 HR323_0 HR324_0 hx323_0 hx324_0 hHeld ⊢
      refine pU 0 (some 41) (bm 16 1) HT_ ?_
      refine pU 1 (some 42) (bm 16 3) HT_ ?_
      refine pU 2 (some 43) (bm 16 7) HT_ ?_
      refine pU 3 (some 44) (bm 16 15) HT_ ?_
      refine pU 4 (some 45) (bm 16 31) HT_ ?_
      refine pU 5 (some 46) (bm 16 63) HT_ ?_
      refine pU 6 (some 47) (bm 16 127) HT_ ?_
      refine pU 7 (some 48) (bm 16 255) HT_ ?_
      refine pU 9 (some 50) (bm 16 767) HT_ ?_
      refine pU 10 (some 51) (bm 16 1791) HT_ ?_
      refine pU 11 (some 52) (bm 16 3839) HT_ ?_
      refine pT 8 (some 49) (bm 16 4095) HT_ HW_ hHeld ?_
      refine pT 12 (some 53) (bm 16 8191) HT_ HW_ hHeld ?_
      refine pO 13 (some 54) (bm 16 16383) HT_ (fun K hK=>?_)
      refine gO Try.func53 #[.slice A323_0 (rd_L3 x10_1 x12_2).length c323_0,.slice A324_0 (rd_L3 y317 x11_1).length c324_0] ?_
      with_reducible refine (spec_l05Cmp.calls k2 _ _ (rd_L3 x10_1 x12_2) _ _ (rd_L3 y317 x11_1) t325 _ ?side1 ?side2 ?side3 ?side4 A27.out).mono ?_
      (case side1=>repeat (first|exact (by repeat (first|(with_reducible exact HR323_0.out)|(with_reducible first|apply aC|apply nC|apply dC)|exact HR323_0.out|exact (Kd.V_reads' HL323_0.out).2.2))|(with_reducible first|apply aC|apply nC|apply dC)))
      (case side2=>exact HC323_0.out)
      (case side3=>repeat (first|exact (by repeat (first|(with_reducible exact HR324_0.out)|(with_reducible first|apply aC|apply nC|apply dC)|exact HR324_0.out|exact (Kd.V_reads' HL324_0.out).2.2))|(with_reducible first|apply aC|apply nC|apply dC)))
      (case side4=>exact HC324_0.out)
      rintro e w' ⟨rfl,⟨nd,rfl⟩⟩
      refine⟨_,rfl,?_⟩
      refine hK.out _ _ ⟨hHeld.1,hHeld.2⟩ (fun hHeld=>?_)
      clear hK K
      refine pN (some 54) ?_
      refine pU 14 (some 55) (bm 16 32767) HT_ ?_
      refine pU 15 (some 56) (bm 16 65535) HT_ ?_
      refine pD HT_ ?_
      try go_wp2
      (try (rw [drewN_self w34];generalize hq_:World.drewN w34 _ = w34;have n0_:Aside0 (Kd.V (Kd.int .u8) 5 w34 w.heap.size (fun k_=>(((((P0_ k_ ∨ P1_ k_) ∨ w.heap.size ≤ k_)) ∧ some k_ ≠ (.slice (some ad324) y317.length co22:Value).ownBlock) ∧ some k_ ≠ (.slice (some ad323) x10_1.length co35:Value).ownBlock)) (.slice A323_0 (rd_L3 x10_1 x12_2).length c323_0) (rd_L3 x10_1 x12_2)):=⟨by rw [← hq_];exact (rV HL323_0.out)⟩;have n1_:Aside0 (Kd.V (Kd.int .u8) 5 w34 w.heap.size (fun k_=>(((((P0_ k_ ∨ P1_ k_) ∨ w.heap.size ≤ k_)) ∧ some k_ ≠ (.slice (some ad323) x10_1.length co35:Value).ownBlock) ∧ some k_ ≠ (.slice (some ad324) y317.length co22:Value).ownBlock)) (.slice A324_0 (rd_L3 y317 x11_1).length c324_0) (rd_L3 y317 x11_1)):=⟨by rw [← hq_];exact (rV HL324_0.out)⟩;have n2_:Aside0 (Kd.N (Kd.slice 5 (Kd.int .u8)) 22 w34 w.heap.size (fun k_=>((((P0_ k_ ∨ P1_ k_) ∨ w.heap.size ≤ k_)) ∧ some k_ ≠ (.slice (some ad324) y317.length co22:Value).ownBlock)) (.slice (some ad323) x10_1.length co35) x10_1):=⟨by rw [← hq_];exact (rN HO_10.out)⟩;have n3_:Aside0 (Kd.N (Kd.slice 5 (Kd.int .u8)) 22 w34 w.heap.size (fun k_=>((((P0_ k_ ∨ P1_ k_) ∨ w.heap.size ≤ k_)) ∧ (some k_ ≠ (.slice (some ad323) x10_1.length co35:Value).ownBlock ∧ (some k_ ≠ (.slice Ao17 t308.length co17:Value).ownBlock ∧ some k_ ≠ (.slice (some ad324) y317.length co22:Value).ownBlock)))) (.slice Ao15 t305.length co15) t305):=⟨by rw [← hq_];exact (rN HO_25.out)⟩;have n4_:Aside0 (Kd.N (Kd.slice 5 (Kd.int .u8)) 22 w34 w.heap.size (fun k_=>((((P0_ k_ ∨ P1_ k_) ∨ w.heap.size ≤ k_)) ∧ (some k_ ≠ (.slice (some ad323) x10_1.length co35:Value).ownBlock ∧ (some k_ ≠ (.slice Ao15 t305.length co15:Value).ownBlock ∧ some k_ ≠ (.slice (some ad324) y317.length co22:Value).ownBlock)))) (.slice Ao17 t308.length co17) t308):=⟨by rw [← hq_];exact (rN HO_28.out)⟩;have n5_:Aside0 (Kd.N (Kd.slice 5 (Kd.int .u8)) 22 w34 w.heap.size (fun k_=>((((P0_ k_ ∨ P1_ k_) ∨ w.heap.size ≤ k_)) ∧ some k_ ≠ (.slice (some ad323) x10_1.length co35:Value).ownBlock)) (.slice (some ad324) y317.length co22) y317):=⟨by rw [← hq_];exact (rN HO_33.out)⟩;have n6_:Aside0 (Below w.heap.size w w34):=⟨by rw [← hq_];exact (kB HB.out)⟩;have n7_:Aside0 (Kd.C (Kd.int .u8) w34 A323_0 (rd_L3 x10_1 x12_2).length (rd_L3 x10_1 x12_2)):=⟨by rw [← hq_];exact (by repeat (first|(with_reducible exact HR323_0.out)|(with_reducible first|apply aC|apply nC|apply dC)|exact HR323_0.out|exact (Kd.V_reads' HL323_0.out).2.2))⟩;have n8_:Aside0 (Kd.C (Kd.int .u8) w34 A324_0 (rd_L3 y317 x11_1).length (rd_L3 y317 x11_1)):=⟨by rw [← hq_];exact (by repeat (first|(with_reducible exact HR324_0.out)|(with_reducible first|apply aC|apply nC|apply dC)|exact HR324_0.out|exact (Kd.V_reads' HL324_0.out).2.2))⟩;clear HL323_0 HL324_0 HO_10 HO_25 HO_28 HO_33 HB HR323_0 HR324_0 hq_;have HL323_0:=n0_;have HL324_0:=n1_;have HO_10:=n2_;have HO_25:=n3_;have HO_28:=n4_;have HO_33:=n5_;have HB:=n6_;have HR323_0:=n7_;have HR324_0:=n8_;clear n0_ n1_ n2_ n3_ n4_ n5_ n6_ n7_ n8_))
      replace HO_10:=mk0 (dN HO_10.out)
      replace HO_25:=mk0 (dN HO_25.out)
      replace HO_28:=mk0 (dN HO_28.out)
      replace HO_33:=mk0 (dN HO_33.out)
      replace HL323_0:=mk0 (dV HL323_0.out)
      replace HL324_0:=mk0 (dV HL324_0.out)
      replace HR323_0:=mk0 (dC HR323_0.out)
      replace HR324_0:=mk0 (dC HR324_0.out)
      replace HB:=mk0 (dZ HB.out)
      have p326:0 ≤ (x12_2:Int):=of_decide_eq_true (by first|(with_reducible assumption)|assumption)
      have q326:x12_2 < (x10_1.length:Int):=of_decide_eq_true (by first|(with_reducible assumption)|assumption)
      obtain⟨ad326,A326_0,c326_0,e326,hx326_0,hl326_0,hi326_0⟩:=at_L3 (Kd.N_reads' HO_10.out).2.2 x12_2 p326 q326
      obtain rfl:ad323 = ad326:=(by injection e326)
      obtain⟨ce326,hce326,hMe326,hcc326⟩:=Kd.N_get HO_10.out [] x12_2 p326 (by first|exact q326|exact of_decide_eq_true (by first|(with_reducible assumption)|assumption)|(have e_:=(Kd.N_reads' HO_10.out).1;omega))
      obtain⟨ua326_0,uc326_0,rfl,ul326_0,ge326_0⟩:=Kd.FK_slice_open hMe326
      have hv326_0:=hcc326 0 _ rfl
      rw [Nat.add_zero,show ((Kd.slice 5 (Kd.int .u8))).sz = 1 from rfl,Nat.mul_one] at hv326_0
      replace hv326_0:=Option.some.inj (hv326_0.symm.trans hx326_0)
      injection hv326_0 with hva_ hvn_ hvc_
      rw [hva_] at ge326_0
      rw [hvc_] at ul326_0
      have HL326_0:=mk0 (show Kd.V (Kd.int .u8) 5 _ w.heap.size _ _ (rd_L3 x10_1 x12_2) from Kd.V_mk ul326_0 ge326_0)
      clear hva_ hvn_ hvc_ ge326_0 ul326_0
      clear hcc326 hce326
      have HR326_0:=mk0 hi326_0
      have HC326_0:=mk0 hl326_0
      clear hi326_0 hl326_0
      replace p326:=eq_true p326
      replace q326:=eq_true q326
      have p327:0 ≤ (x11_1:Int):=of_decide_eq_true (by first|(with_reducible assumption)|assumption)
      have q327:x11_1 < (y317.length:Int):=of_decide_eq_true (by first|(with_reducible assumption)|assumption)
      obtain⟨ad327,A327_0,c327_0,e327,hx327_0,hl327_0,hi327_0⟩:=at_L3 (Kd.N_reads' HO_33.out).2.2 x11_1 p327 q327
      obtain rfl:ad324 = ad327:=(by injection e327)
      obtain⟨ce327,hce327,hMe327,hcc327⟩:=Kd.N_get HO_33.out [] x11_1 p327 (by first|exact q327|exact of_decide_eq_true (by first|(with_reducible assumption)|assumption)|(have e_:=(Kd.N_reads' HO_33.out).1;omega))
      obtain⟨ua327_0,uc327_0,rfl,ul327_0,ge327_0⟩:=Kd.FK_slice_open hMe327
      have hv327_0:=hcc327 0 _ rfl
      rw [Nat.add_zero,show ((Kd.slice 5 (Kd.int .u8))).sz = 1 from rfl,Nat.mul_one] at hv327_0
      replace hv327_0:=Option.some.inj (hv327_0.symm.trans hx327_0)
      injection hv327_0 with hva_ hvn_ hvc_
      rw [hva_] at ge327_0
      rw [hvc_] at ul327_0
      have HL327_0:=mk0 (show Kd.V (Kd.int .u8) 5 _ w.heap.size _ _ (rd_L3 y317 x11_1) from Kd.V_mk ul327_0 ge327_0)
      clear hva_ hvn_ hvc_ ge327_0 ul327_0
      clear hcc327 hce327
      have HR327_0:=mk0 hi327_0
      have HC327_0:=mk0 hl327_0
      clear hi327_0 hl327_0
      replace p327:=eq_true p327
      replace q327:=eq_true q327
      refine start_ (n:=14) (S:=fun w'=>w'.cell? (ad323.add (x12_2).toNat) = some (.slice A326_0 (rd_L3 x10_1 x12_2).length c326_0) ∧ w'.cell? (ad324.add (x11_1).toNat) = some (.slice A327_0 (rd_L3 y317 x11_1).length c327_0)) (ds:=[]) (bm 14 0) (by kernel_rfl) rfl (by kernel_rfl) ⟨hx326_0,hx327_0⟩ (fun hHeld=>?_);refine with_tabW spec_Parts.tab13 spec_Parts.bits13 (fun HT_ HW_=>?_)
      generalize w34.drew = w36 at HO_10 HO_25 HO_28 HO_33 HL323_0 HL324_0 HR323_0 HR324_0 HB HL326_0 HL327_0 HR326_0 HR327_0 hx326_0 hx327_0 hHeld ⊢
      refine pU 0 (some 57) (bm 14 1) HT_ ?_
      refine pU 1 (some 58) (bm 14 3) HT_ ?_
      refine pU 2 (some 59) (bm 14 7) HT_ ?_
      refine pU 3 (some 60) (bm 14 15) HT_ ?_
      refine pU 4 (some 61) (bm 14 31) HT_ ?_
      refine pU 6 (some 63) (bm 14 95) HT_ ?_
      refine pU 7 (some 64) (bm 14 223) HT_ ?_
      refine pU 8 (some 65) (bm 14 479) HT_ ?_
      refine pT 5 (some 62) (bm 14 511) HT_ HW_ hHeld ?_
      refine pT 9 (some 66) (bm 14 1023) HT_ HW_ hHeld ?_
      refine pO 10 (some 67) (bm 14 2047) HT_ (fun K hK=>?_)
      refine gO Try.func53 #[.slice A326_0 (rd_L3 x10_1 x12_2).length c326_0,.slice A327_0 (rd_L3 y317 x11_1).length c327_0] ?_
      with_reducible refine (spec_l05Cmp.calls k2 _ _ (rd_L3 x10_1 x12_2) _ _ (rd_L3 y317 x11_1) t328 _ ?side1 ?side2 ?side3 ?side4 A33.out).mono ?_
      (case side1=>repeat (first|exact (by repeat (first|(with_reducible exact HR326_0.out)|(with_reducible first|apply aC|apply nC|apply dC)|exact HR326_0.out|exact (Kd.V_reads' HL326_0.out).2.2))|(with_reducible first|apply aC|apply nC|apply dC)))
      (case side2=>exact HC326_0.out)
      (case side3=>repeat (first|exact (by repeat (first|(with_reducible exact HR327_0.out)|(with_reducible first|apply aC|apply nC|apply dC)|exact HR327_0.out|exact (Kd.V_reads' HL327_0.out).2.2))|(with_reducible first|apply aC|apply nC|apply dC)))
      (case side4=>exact HC327_0.out)
      rintro e w' ⟨rfl,⟨nd,rfl⟩⟩
      refine⟨_,rfl,?_⟩
      refine hK.out _ _ ⟨hHeld.1,hHeld.2⟩ (fun hHeld=>?_)
      clear hK K
      refine pN (some 67) ?_
      refine pU 11 (some 68) (bm 14 4095) HT_ ?_
      refine pU 12 (some 69) (bm 14 8191) HT_ ?_
      refine pU 13 (some 13) (bm 14 16383) HT_ ?_
      refine pD HT_ ?_
      try go_wp2
      go_roundg k2
      case measure=>have:=HK1.out;have:=HK2.out;omega
      case rel=>exact⟨(wrap64 (x12_2 + 1)),((t328 == 0)),(by first|rfl|(simp;done)|(simp [*];done)),(by first|rfl|(simp;done)|(simp [*];done)),H',⟨by have:=HK1.out;have:=HK2.out;omega⟩,⟨rN HO_10.out⟩,⟨rN HO_25.out⟩,⟨rN HO_28.out⟩,⟨rN HO_33.out⟩,⟨kB HB.out⟩⟩
   case rest =>
    clear HC21
    try clear c2
    try clear p2
    try clear c3
    try clear p3
    try clear q3
    try clear hx3
    try clear c5
    try clear p6
    try clear c23
    try clear c23b0
    try clear c24
    try clear c25
    try clear c26
    try clear c28
    try clear c28b0
    try clear c32
    try clear p32
    try clear q32
    try clear hx32
    try clear hx323_0
    try clear hx324_0
    try clear hx326_0
    try clear hx327_0
    try clear p323
    try clear p324
    try clear p326
    try clear p327
    try clear q323
    try clear q324
    try clear q326
    try clear q327
    obtain⟨kq,x12_20,x13_20,rfl,rfl,HA,HJ20,HO_7,HO_8,HO_9,HO_10,HB⟩:=hcut
    cases kq with
    | zero=>exact absurd HA.out (by simp [spec_Parts.j2])
    | succ kj20 =>
     have H:=HA.out
     clear HA
     simp only [spec_Parts.j2] at H
     by_cases c41:x13_20 = true
     ·subst c41
      have H1:(spec_Parts.l0 kj20 x10_1 (wrap64 (x11_1 + 1)) t305 t308 y317) = some r:=by rw [if_pos rfl] at H;exact H
      clear H
      have H:=H1
      clear H1
      have H':=mk0 H
      clear H
      go_wp2
      go_roundg kj20
      case measure=>have:=HK1.out;have:=HJ20.out;omega
      case rel=>exact⟨(x10_1),(wrap64 (x11_1 + 1)),(by first|rfl|(simp;done)|(simp [*];done)),H',⟨by have:=HK1.out;have:=HJ20.out;omega⟩,⟨rN HO_10.out⟩,⟨rN (Kd.N_mono HO_7.out (fun _ hk=>⟨hk.1,⟨hk.2.2.2,⟨hk.2.1,hk.2.2.1⟩⟩⟩))⟩,⟨rN (Kd.N_mono HO_8.out (fun _ hk=>⟨hk.1,⟨hk.2.2.2,⟨hk.2.1,hk.2.2.1⟩⟩⟩))⟩,⟨rN HO_9.out⟩,⟨kB HB.out⟩⟩
     replace c41:=Bool.eq_false_iff.mpr c41
     subst c41
     have H1:(if 0 ≤ x11_1 then (if x11_1 < (y317.length:Int) then ((some (([rd_L3 y317 x11_1]:List (List Int)):List (List Int))).bind fun y330=>(if 0 ≤ x12_20 then (if x12_20 ≤ (x10_1.length:Int) then ((some (x10_1.drop (x12_20:Int).toNat:List (List Int))).bind fun y333=>(if y330.length + y333.length < 5864062014805 then ((some (y330 ++ y333:List (List Int))).bind fun y338=>((some (([]:List (List Int)):List (List Int))).bind fun y341=>((some (x10_1.take (x12_20:Int).toNat:List (List Int))).bind fun y344=>(if y341.length + y344.length < 5864062014805 then ((some (y341 ++ y344:List (List Int))).bind fun y349=>(if y349.length + y338.length < 5864062014805 then (spec_Parts.l0 kj20 (y349 ++ y338) (wrap64 (x11_1 + 1)) t305 t308 y317) else (none))) else (none))))) else (none))) else (none)) else (none))) else (none)) else (none)) = some r:=by rw [if_neg (show ¬ (false = true) by decide)] at H;exact H
     clear H
     have H:=H1
     clear H1
     by_cases c42:0 ≤ x11_1
     rotate_left
     ·rw [if_neg c42] at H
      exact absurd H (by simp)
     rw [if_pos c42] at H
     have c42b0:decide (0 ≤ x11_1) = true:=decide_eq_true c42
     clear c42
     by_cases c43:x11_1 < (y317.length:Int)
     rotate_left
     ·rw [if_neg c43] at H
      exact absurd H (by simp)
     rw [if_pos c43] at H
     have c43b0:decide (x11_1 < (y317.length:Int)) = true:=decide_eq_true c43
     (try simp only [hl323_0] at c43b0)
     (try simp only [hl324_0] at c43b0)
     (try simp only [hl326_0] at c43b0)
     (try simp only [hl327_0] at c43b0)
     (try simp only [hl329_0] at c43b0)
     (try simp only [hl361_0] at c43b0)
     (try simp only [hl366_0] at c43b0)
     (try simp only [hl369_0] at c43b0)
     clear c43
     obtain⟨y330,hy330⟩:∃ y_:List (List Int),y_ = (([rd_L3 y317 x11_1]:List (List Int))):=⟨_,rfl⟩
     replace H:(if 0 ≤ x12_20 then (if x12_20 ≤ (x10_1.length:Int) then ((some (x10_1.drop (x12_20:Int).toNat:List (List Int))).bind fun y333=>(if y330.length + y333.length < 5864062014805 then ((some (y330 ++ y333:List (List Int))).bind fun y338=>((some (([]:List (List Int)):List (List Int))).bind fun y341=>((some (x10_1.take (x12_20:Int).toNat:List (List Int))).bind fun y344=>(if y341.length + y344.length < 5864062014805 then ((some (y341 ++ y344:List (List Int))).bind fun y349=>(if y349.length + y338.length < 5864062014805 then (spec_Parts.l0 kj20 (y349 ++ y338) (wrap64 (x11_1 + 1)) t305 t308 y317) else (none))) else (none))))) else (none))) else (none)) else (none)) = some r:=by first|(rw [hy330];with_reducible exact H)|(have H2_:=(Option.bind_some _ _).symm.trans H;rw [hy330];with_reducible exact H2_)|(have H2_:=(Option.bind_some _ _).symm.trans H;with_reducible exact H2_)|with_reducible exact H|(rw [hy330];exact H)|exact H
     have Ny330:=mk0 hy330
     clear hy330
     by_cases c44:0 ≤ x12_20
     rotate_left
     ·rw [if_neg c44] at H
      exact absurd H (by simp)
     rw [if_pos c44] at H
     have c44b0:=eq_true c44
     have c44b1:decide (0 ≤ x12_20) = true:=decide_eq_true c44
     clear c44
     by_cases c45:x12_20 ≤ (x10_1.length:Int)
     rotate_left
     ·rw [if_neg c45] at H
      exact absurd H (by simp)
     rw [if_pos c45] at H
     have c45b0:=eq_true c45
     have c45b1:decide (x12_20 ≤ (x10_1.length:Int)) = true:=decide_eq_true c45
     (try simp only [hl323_0] at c45b1)
     (try simp only [hl324_0] at c45b1)
     (try simp only [hl326_0] at c45b1)
     (try simp only [hl327_0] at c45b1)
     (try simp only [hl329_0] at c45b1)
     (try simp only [hl361_0] at c45b1)
     (try simp only [hl366_0] at c45b1)
     (try simp only [hl369_0] at c45b1)
     clear c45
     obtain⟨y333,hy333⟩:∃ y_:List (List Int),y_ = (x10_1.drop (x12_20:Int).toNat):=⟨_,rfl⟩
     replace H:(if y330.length + y333.length < 5864062014805 then ((some (y330 ++ y333:List (List Int))).bind fun y338=>((some (([]:List (List Int)):List (List Int))).bind fun y341=>((some (x10_1.take (x12_20:Int).toNat:List (List Int))).bind fun y344=>(if y341.length + y344.length < 5864062014805 then ((some (y341 ++ y344:List (List Int))).bind fun y349=>(if y349.length + y338.length < 5864062014805 then (spec_Parts.l0 kj20 (y349 ++ y338) (wrap64 (x11_1 + 1)) t305 t308 y317) else (none))) else (none))))) else (none)) = some r:=by first|(rw [hy333];with_reducible exact H)|(have H2_:=(Option.bind_some _ _).symm.trans H;rw [hy333];with_reducible exact H2_)|(have H2_:=(Option.bind_some _ _).symm.trans H;with_reducible exact H2_)|with_reducible exact H|(rw [hy333];exact H)|exact H
     have Ny333:=mk0 hy333
     clear hy333
     by_cases c46:y330.length + y333.length < 5864062014805
     rotate_left
     ·rw [if_neg c46] at H
      exact absurd H (by simp)
     rw [if_pos c46] at H
     have LMc46:=mk0 c46
     clear c46
     obtain⟨y338,hy338⟩:∃ y_:List (List Int),y_ = (y330 ++ y333):=⟨_,rfl⟩
     replace H:((some (([]:List (List Int)):List (List Int))).bind fun y341=>((some (x10_1.take (x12_20:Int).toNat:List (List Int))).bind fun y344=>(if y341.length + y344.length < 5864062014805 then ((some (y341 ++ y344:List (List Int))).bind fun y349=>(if y349.length + y338.length < 5864062014805 then (spec_Parts.l0 kj20 (y349 ++ y338) (wrap64 (x11_1 + 1)) t305 t308 y317) else (none))) else (none)))) = some r:=by first|(rw [hy338];with_reducible exact H)|(have H2_:=(Option.bind_some _ _).symm.trans H;rw [hy338];with_reducible exact H2_)|(have H2_:=(Option.bind_some _ _).symm.trans H;with_reducible exact H2_)|with_reducible exact H|(rw [hy338];exact H)|exact H
     have Ny338:=mk0 hy338
     clear hy338
     obtain⟨y341,hy341⟩:∃ y_:List (List Int),y_ = (([]:List (List Int))):=⟨_,rfl⟩
     replace H:((some (x10_1.take (x12_20:Int).toNat:List (List Int))).bind fun y344=>(if y341.length + y344.length < 5864062014805 then ((some (y341 ++ y344:List (List Int))).bind fun y349=>(if y349.length + y338.length < 5864062014805 then (spec_Parts.l0 kj20 (y349 ++ y338) (wrap64 (x11_1 + 1)) t305 t308 y317) else (none))) else (none))) = some r:=by first|(rw [hy341];with_reducible exact H)|(have H2_:=(Option.bind_some _ _).symm.trans H;rw [hy341];with_reducible exact H2_)|(have H2_:=(Option.bind_some _ _).symm.trans H;with_reducible exact H2_)|with_reducible exact H|(rw [hy341];exact H)|exact H
     have Ny341:=mk0 hy341
     clear hy341
     have c47b0:=eq_true (of_decide_eq_true (by first|(with_reducible assumption)|assumption):0 ≤ x12_20)
     have c48b0:=eq_true (of_decide_eq_true (by first|(with_reducible assumption)|assumption):x12_20 ≤ (x10_1.length:Int))
     obtain⟨y344,hy344⟩:∃ y_:List (List Int),y_ = (x10_1.take (x12_20:Int).toNat):=⟨_,rfl⟩
     replace H:(if y341.length + y344.length < 5864062014805 then ((some (y341 ++ y344:List (List Int))).bind fun y349=>(if y349.length + y338.length < 5864062014805 then (spec_Parts.l0 kj20 (y349 ++ y338) (wrap64 (x11_1 + 1)) t305 t308 y317) else (none))) else (none)) = some r:=by first|(rw [hy344];with_reducible exact H)|(have H2_:=(Option.bind_some _ _).symm.trans H;rw [hy344];with_reducible exact H2_)|(have H2_:=(Option.bind_some _ _).symm.trans H;with_reducible exact H2_)|with_reducible exact H|(rw [hy344];exact H)|exact H
     have Ny344:=mk0 hy344
     clear hy344
     by_cases c49:y341.length + y344.length < 5864062014805
     rotate_left
     ·rw [if_neg c49] at H
      exact absurd H (by simp)
     rw [if_pos c49] at H
     have LMc49:=mk0 c49
     clear c49
     obtain⟨y349,hy349⟩:∃ y_:List (List Int),y_ = (y341 ++ y344):=⟨_,rfl⟩
     replace H:(if y349.length + y338.length < 5864062014805 then (spec_Parts.l0 kj20 (y349 ++ y338) (wrap64 (x11_1 + 1)) t305 t308 y317) else (none)) = some r:=by first|(rw [hy349];with_reducible exact H)|(have H2_:=(Option.bind_some _ _).symm.trans H;rw [hy349];with_reducible exact H2_)|(have H2_:=(Option.bind_some _ _).symm.trans H;with_reducible exact H2_)|with_reducible exact H|(rw [hy349];exact H)|exact H
     have Ny349:=mk0 hy349
     clear hy349
     by_cases c50:y349.length + y338.length < 5864062014805
     rotate_left
     ·rw [if_neg c50] at H
      exact absurd H (by simp)
     rw [if_pos c50] at H
     have LMc50:=mk0 c50
     clear c50
     obtain⟨y352,hy352⟩:∃ y_:List (List Int),y_ = (y349 ++ y338):=⟨_,rfl⟩
     replace H:(spec_Parts.l0 kj20 y352 (wrap64 (x11_1 + 1)) t305 t308 y317) = some r:=by first|(rw [hy352];with_reducible exact H)|(have H2_:=(Option.bind_some _ _).symm.trans H;rw [hy352];with_reducible exact H2_)|(have H2_:=(Option.bind_some _ _).symm.trans H;with_reducible exact H2_)|with_reducible exact H|(rw [hy352];exact H)|exact H
     have Ny352:=mk0 hy352
     clear hy352
     have H':=mk0 H
     clear H
     try go_wp2
     replace HO_7:=mk0 (dN HO_7.out)
     replace HO_8:=mk0 (dN HO_8.out)
     replace HO_9:=mk0 (dN HO_9.out)
     replace HO_10:=mk0 (dN HO_10.out)
     replace HB:=mk0 (dZ HB.out)
     have p329:0 ≤ (x11_1:Int):=of_decide_eq_true (by first|(with_reducible assumption)|assumption)
     have q329:x11_1 < (y317.length:Int):=of_decide_eq_true (by first|(with_reducible assumption)|assumption)
     obtain⟨ad329,A329_0,c329_0,e329,hx329_0,hl329_0,hi329_0⟩:=at_L3 (Kd.N_reads' HO_9.out).2.2 x11_1 p329 q329
     cases e329
     obtain⟨ce329,hce329,hMe329,hcc329⟩:=Kd.N_get HO_9.out [] x11_1 p329 (by first|exact q329|exact of_decide_eq_true (by first|(with_reducible assumption)|assumption)|(have e_:=(Kd.N_reads' HO_9.out).1;omega))
     obtain⟨ua329_0,uc329_0,rfl,ul329_0,ge329_0⟩:=Kd.FK_slice_open hMe329
     have hv329_0:=hcc329 0 _ rfl
     rw [Nat.add_zero,show ((Kd.slice 5 (Kd.int .u8))).sz = 1 from rfl,Nat.mul_one] at hv329_0
     replace hv329_0:=Option.some.inj (hv329_0.symm.trans hx329_0)
     injection hv329_0 with hva_ hvn_ hvc_
     rw [hva_] at ge329_0
     rw [hvc_] at ul329_0
     have HL329_0:=mk0 (show Kd.V (Kd.int .u8) 5 _ w.heap.size _ _ (rd_L3 y317 x11_1) from Kd.V_mk ul329_0 ge329_0)
     clear hva_ hvn_ hvc_ ge329_0 ul329_0
     clear hcc329 hce329
     have HR329_0:=mk0 hi329_0
     have HC329_0:=mk0 hl329_0
     clear hi329_0 hl329_0
     replace p329:=eq_true p329
     replace q329:=eq_true q329
     obtain⟨Ao53,co53,eo53⟩:=Kd.N_slice HO_10.out
     (first|subst eo53|(injection eo53 with f1_ f2_ f3_;have f4_:=f1_.symm;have f5_:=f3_.symm;clear f1_ f2_ f3_;subst f4_;subst f5_))
     have q52:(x12_20:Int) ≤ ((x10_1.length:Int):Int):=of_decide_eq_true (by first|(with_reducible assumption)|assumption)
     obtain⟨i052,hi052,_,hsz52,_⟩:=info_parts info22
     have hroom52:x10_1.length ≤ co53:=(Kd.N_reads' HO_10.out).2.1
     have hC52:Kd.F (Kd.slice 5 (Kd.int .u8)) _ _ Ao53 x10_1.length x10_1:=(Kd.V_at (base:=w.heap.size) (Kd.N_V HO_10.out)).2.2
     have q052:(0:Int) ≤ (x12_20:Int):=of_decide_eq_true (by first|(with_reducible assumption)|assumption)
     have hcut52:=cut_from (P:=Try.prog) 66 22 .i64 Try.underlying66 hi052 1 hsz52 Ao53 x10_1.length co53 x12_20 q052 q52
     have hr52:=Kd.F_cut (m:=(x12_20:Int).toNat) (c:=co53) hC52 (by omega) hroom52
     obtain⟨A52,hA52⟩:∃ A1,A1 = (if co53 = (x12_20:Int).toNat then Ao53 else (Ao53:Option Addr).map (·.add ((x12_20:Int).toNat * 1))):=⟨_,rfl⟩
     obtain⟨c52,hc52⟩:∃ c1,c1 = co53 - (x12_20:Int).toNat:=⟨_,rfl⟩
     have hy52:y333.length = x10_1.length - (x12_20:Int).toNat:=(by rw [Ny333.out,List.length_drop] <;> omega)
     rw [show (x10_1).drop (x12_20:Int).toNat = y333 from Ny333.out.symm] at hr52
     replace hr52:Kd.F (Kd.slice 5 (Kd.int .u8)) _ _ A52 y333.length y333:=(by rw [hA52];exact hr52)
     rw [← hy52, ← hA52, ← hc52] at hcut52
     have HO337:=mk0 (show Kd.V (Kd.slice 5 (Kd.int .u8)) 22 _ w.heap.size _ (.slice A52 y333.length c52) y333 from Kd.V_mk (by rw [hy52,hc52];exact Nat.sub_le_sub_right hroom52 _) hr52)
     have HC337:=mk0 (show y333.length ≤ c52 from by rw [hy52,hc52];exact Nat.sub_le_sub_right hroom52 _)
     clear hr52 hC52 hroom52 hi052 hsz52 hc52
     have KY52:=mk0 hy52
     have KA52:=mk0 hA52
     clear hy52 hA52
     replace q52:=eq_true q52
     refine start_ (n:=10) (S:=fun w'=>w'.cell? (ad329.add (x11_1).toNat) = some (.slice A329_0 (rd_L3 y317 x11_1).length c329_0)) (ds:=[8]) (bm 10 0) (by kernel_rfl) rfl (by kernel_rfl) (hx329_0) (fun hHeld=>?_);refine with_tabW spec_Parts.tab16 spec_Parts.bits16 (fun HT_ HW_=>?_)
     generalize wc.drew = w51 at HO_7 HO_8 HO_9 HO_10 HB HL329_0 HO337 HR329_0 hx329_0 hHeld ⊢
     refine pU 0 (some 74) (bm 10 1) HT_ ?_
     refine pU 1 (some 75) (bm 10 3) HT_ ?_
     refine pU 2 (some 76) (bm 10 7) HT_ ?_
     refine pU 5 (some 79) (bm 10 39) HT_ ?_
     refine pU 6 (some 80) (bm 10 103) HT_ ?_
     refine pU 7 (some 81) (bm 10 231) HT_ ?_
     refine take_ (i:=3) (N:=some 77) (v:=?_) (a':=?_) (bm 10 239) rfl rfl (take_ofW HT_.out HW_.out (by kernel_rfl)) (fun _ _ _ h=>h) (Or.inl ⟨by rfl,?_⟩) hHeld ?_ ?_
     rotate_left
     ·intro w' s0
      go_simp
      with_reducible rfl
     rotate_left
     ·simp only [Act.put,sA,sO,sS,i64_w,i32_w]
      rfl
     refine pO 4 (some 78) (bm 10 255) HT_ (fun K hK=>?_)
     refine Kd.N_lit_step (Kd.slice 5 (Kd.int .u8)) _ 22 ?hg (N':=78) ?hd (xs:=([rd_L3 y317 x11_1]:List (List Int))) (inner:=[.slice A329_0 (rd_L3 y317 x11_1).length c329_0]) (ok:=(fun k_=>((P0_ k_ ∨ P1_ k_) ∨ w.heap.size ≤ k_) ∧ some k_ ≠ (.slice (some ad329) y317.length co22:Value).ownBlock ∧ some k_ ≠ (.slice Ao53 x10_1.length co53:Value).ownBlock)) (okp:=(fun k_=>((P0_ k_ ∨ P1_ k_) ∨ w.heap.size ≤ k_) ∧ some k_ ≠ (.slice (some ad329) y317.length co22:Value).ownBlock ∧ some k_ ≠ (.slice Ao53 x10_1.length co53:Value).ownBlock)) ?hr ?hp (fun _ hk=>hk) ((show ∀ k_,w51.heap.size ≤ k_ → (fun k_=>((P0_ k_ ∨ P1_ k_) ∨ w.heap.size ≤ k_) ∧ some k_ ≠ (.slice (some ad329) y317.length co22:Value).ownBlock ∧ some k_ ≠ (.slice Ao53 x10_1.length co53:Value).ownBlock) k_ from fun k_ hk=>⟨(.inr (Nat.le_trans (kZ HB.out) hk)),Kd.fresh' (Kd.N_lt (rN HO_9.out)) k_ hk,Kd.fresh' (Kd.N_lt (rN HO_10.out)) k_ hk⟩) _ (Nat.le_refl _)) (Below.refl _ _) (Nat.le_refl _) (by simp) ?_;(case hd=>rfl);(case hg=>rfl);(case hr=>first|(go_simp;done)|(go_simp;rfl));(case hp=>exact (Reps.one (show Kd.FK (Kd.slice 5 (Kd.int .u8)) _ _ (rd_L3 y317 x11_1) [.slice A329_0 (rd_L3 y317 x11_1).length c329_0] from (Kd.FK_slice_mk (Kd.V_reads' (Kd.V_mono (ok':=(fun k_=>((P0_ k_ ∨ P1_ k_) ∨ w.heap.size ≤ k_) ∧ some k_ ≠ (.slice (some ad329) y317.length co22:Value).ownBlock ∧ some k_ ≠ (.slice Ao53 x10_1.length co53:Value).ownBlock)) (HL329_0.out) (fun k_ hk=>⟨hk.1.1,⟨hk.2,hk.1.2⟩⟩))).2.1 (Kd.V_F (Kd.V_mono (ok':=(fun k_=>((P0_ k_ ∨ P1_ k_) ∨ w.heap.size ≤ k_) ∧ some k_ ≠ (.slice (some ad329) y317.length co22:Value).ownBlock ∧ some k_ ≠ (.slice Ao53 x10_1.length co53:Value).ownBlock)) (HL329_0.out) (fun k_ hk=>⟨hk.1.1,⟨hk.2,hk.1.2⟩⟩))))) (Reps.none _ _)))
     intro v331 w54 ho55 hb hg_ hnew_
     have HS0_:=(hb.cell (World.block_lt_of_cell? _ _ (hHeld))).trans (hHeld)
     clear hg_ hnew_
     (first|rw [← Ny330.out] at ho55|(simp only [Int.reduceToNat] at ho55;rw [← Ny330.out] at ho55))
     replace HO_7:=mk0 (Kd.N_elder' (rN HO_7.out) (Kd.N_base ho55) hb)
     replace HO_8:=mk0 (Kd.N_elder' (rN HO_8.out) (Kd.N_base ho55) hb)
     replace HO_9:=mk0 (Kd.N_elder' (rN HO_9.out) (Kd.N_base ho55) hb)
     replace HO_10:=mk0 (Kd.N_elder' (rN HO_10.out) (Kd.N_base ho55) hb)
     replace HO337:=mk0 (Kd.V_elder' (rV HO337.out) (Kd.N_base ho55) hb)
     have HO332:=mk0 (Kd.N_lower ho55 (kZ HB.out))
     replace HR329_0:=mk0 (Kd.C_below (by repeat (first|(with_reducible exact HR329_0.out)|(with_reducible first|apply aC|apply nC|apply dC)|exact HR329_0.out|exact (Kd.V_reads' HL329_0.out).2.2)) hb)
     replace HL329_0:=mk0 (Kd.V_elder' (rV HL329_0.out) (Kd.N_base ho55) hb)
     replace HB:=mk0 (kS HB.out hb)
     clear hb ho55
     refine hK.out _ _ (HS0_) (fun hHeld=>?_)
     clear hK K
     refine pN (some 78) ?_
     refine pL 8 (some 82) (bm 10 511) HT_ (fun K hK=>?_)
     refine Kd.N_append_rows_step (Kd.slice 5 (Kd.int .u8)) (w0:=w) w.heap.size (by rfl) (.tmp 78) (.tmp 81) 66 22 (.slice none 0 0) 24 rfl Try.underlying66 info22 rfl (by decide) (by omega) v331 y330 y333 _ _ _ (fun k_=>((P0_ k_ ∨ P1_ k_) ∨ w.heap.size ≤ k_) ∧ some k_ ≠ (.slice (some ad329) y317.length co22:Value).ownBlock) (fun k_=>((fun k_=>((P0_ k_ ∨ P1_ k_) ∨ w.heap.size ≤ k_) ∧ some k_ ≠ (.slice (some ad329) y317.length co22:Value).ownBlock)) k_ ∧ some k_ ≠ (v331:Value).ownBlock) rfl rfl ?aO ?aR (fun _ hk=>hk) ?aF ?aB ?aS ?aL ?_
     (case aR=>exact (by skip;exact Kd.V_F (Kd.V_mono (ok':=(fun k_=>((fun k_=>((P0_ k_ ∨ P1_ k_) ∨ w.heap.size ≤ k_) ∧ some k_ ≠ (.slice (some ad329) y317.length co22:Value).ownBlock)) k_ ∧ some k_ ≠ (v331:Value).ownBlock)) (HO337.out) (fun k_ hk=>⟨⟨hk.1.1,hk.1.2⟩,hk.2⟩))))
     (case aB=>exact (kB HB.out))
     (case aF=>exact (fun k_ hk=>⟨(.inr (Nat.le_trans (kZ HB.out) hk)),Kd.fresh' (Kd.N_lt (rN HO_9.out)) k_ hk⟩))
     (case aO=>exact (rN (Kd.N_mono HO332.out (fun _ hk=>⟨hk.1,hk.2.1⟩))))
     (case aS=>exact (kZ HB.out))
     (case aL=>have:=LMc46.out;omega)
     intro v339 w56 ho hb hg hat
     rw [← Ny338.out] at ho
     replace HO_7:=mk0 (Kd.N_afterv (ok:=(fun k_=>((P0_ k_ ∨ P1_ k_) ∨ w.heap.size ≤ k_) ∧ some k_ ≠ (.slice Ao17 t308.length co17:Value).ownBlock ∧ some k_ ≠ (.slice (some ad329) y317.length co22:Value).ownBlock ∧ some k_ ≠ (.slice Ao53 x10_1.length co53:Value).ownBlock)) (rN HO_7.out) hg hat)
     replace HO_8:=mk0 (Kd.N_afterv (ok:=(fun k_=>((P0_ k_ ∨ P1_ k_) ∨ w.heap.size ≤ k_) ∧ some k_ ≠ (.slice Ao15 t305.length co15:Value).ownBlock ∧ some k_ ≠ (.slice (some ad329) y317.length co22:Value).ownBlock ∧ some k_ ≠ (.slice Ao53 x10_1.length co53:Value).ownBlock)) (rN HO_8.out) hg hat)
     replace HO_9:=mk0 (Kd.N_afterv (ok:=(fun k_=>((P0_ k_ ∨ P1_ k_) ∨ w.heap.size ≤ k_) ∧ some k_ ≠ (.slice Ao53 x10_1.length co53:Value).ownBlock)) (rN HO_9.out) hg hat)
     replace HO_10:=mk0 (Kd.N_afterv (ok:=(fun k_=>((P0_ k_ ∨ P1_ k_) ∨ w.heap.size ≤ k_) ∧ some k_ ≠ (.slice (some ad329) y317.length co22:Value).ownBlock)) (rN HO_10.out) hg hat)
     replace HL329_0:=mk0 (Kd.V_afterv (ok:=(fun k_=>((P0_ k_ ∨ P1_ k_) ∨ w.heap.size ≤ k_) ∧ some k_ ≠ (.slice (some ad329) y317.length co22:Value).ownBlock ∧ some k_ ≠ (.slice Ao53 x10_1.length co53:Value).ownBlock)) (rV (Kd.V_mono HL329_0.out (fun _ hk=>⟨⟨hk.1.1.1,⟨hk.1.2,hk.1.1.2⟩⟩,hk.2⟩))) hg hat)
     replace HO337:=mk0 (Kd.V_afterv (ok:=(fun k_=>((P0_ k_ ∨ P1_ k_) ∨ w.heap.size ≤ k_) ∧ some k_ ≠ (.slice (some ad329) y317.length co22:Value).ownBlock)) (rV HO337.out) hg hat)
     replace HB:=mk0 (hb)
     have HO340:=mk0 (ho)
     clear HO332
     clear ho hb hg hat
     refine hK.out _ _ ?_
     clear hK K
     refine pN (some 82) ?_
     refine pU 9 (some 14) (bm 10 1023) HT_ ?_
     refine pD HT_ ?_
     try go_wp2_with (first|((with_reducible refine gate_dst (N:=83) rfl ?_);refine Kd.N_lit (Kd.slice 5 (Kd.int .u8)) _ 22 ?hg (N':=83) ?hd (xs:=([]:List (List Int))) (inner:=[]) (ok:=(fun k_=>((P0_ k_ ∨ P1_ k_) ∨ w.heap.size ≤ k_) ∧ some k_ ≠ (.slice Ao15 t305.length co15:Value).ownBlock ∧ some k_ ≠ (.slice Ao17 t308.length co17:Value).ownBlock ∧ some k_ ≠ (.slice (some ad329) y317.length co22:Value).ownBlock ∧ some k_ ≠ (.slice Ao53 x10_1.length co53:Value).ownBlock ∧ some k_ ≠ (v339:Value).ownBlock)) (okp:=(fun k_=>((P0_ k_ ∨ P1_ k_) ∨ w.heap.size ≤ k_) ∧ some k_ ≠ (.slice Ao15 t305.length co15:Value).ownBlock ∧ some k_ ≠ (.slice Ao17 t308.length co17:Value).ownBlock ∧ some k_ ≠ (.slice (some ad329) y317.length co22:Value).ownBlock ∧ some k_ ≠ (.slice Ao53 x10_1.length co53:Value).ownBlock ∧ some k_ ≠ (v339:Value).ownBlock)) ?hr ?hp (fun _ hk=>hk) ((show ∀ k_,w56.heap.size ≤ k_ → (fun k_=>((P0_ k_ ∨ P1_ k_) ∨ w.heap.size ≤ k_) ∧ some k_ ≠ (.slice Ao15 t305.length co15:Value).ownBlock ∧ some k_ ≠ (.slice Ao17 t308.length co17:Value).ownBlock ∧ some k_ ≠ (.slice (some ad329) y317.length co22:Value).ownBlock ∧ some k_ ≠ (.slice Ao53 x10_1.length co53:Value).ownBlock ∧ some k_ ≠ (v339:Value).ownBlock) k_ from fun k_ hk=>⟨(.inr (Nat.le_trans (kZ HB.out) hk)),Kd.fresh' (Kd.N_lt (rN HO_7.out)) k_ hk,Kd.fresh' (Kd.N_lt (rN HO_8.out)) k_ hk,Kd.fresh' (Kd.N_lt (rN HO_9.out)) k_ hk,Kd.fresh' (Kd.N_lt (rN HO_10.out)) k_ hk,Kd.fresh' (Kd.N_lt (rN HO340.out)) k_ hk⟩) _ (Nat.le_refl _)) (Below.refl _ _) (Nat.le_refl _) (by simp) ?_;(case hd=>rfl);(case hg=>rfl);(case hr=>first|(go_simp;done)|(go_simp;rfl));(case hp=>exact (Reps.none _ _));intro v342 w57 ho58 hb hg_ hnew_;clear hg_ hnew_;(first|rw [← Ny341.out] at ho58|(simp only [Int.reduceToNat] at ho58;rw [← Ny341.out] at ho58));replace HO_7:=mk0 (Kd.N_elder' (rN HO_7.out) (Kd.N_base ho58) hb);replace HO_8:=mk0 (Kd.N_elder' (rN HO_8.out) (Kd.N_base ho58) hb);replace HO_9:=mk0 (Kd.N_elder' (rN HO_9.out) (Kd.N_base ho58) hb);replace HO_10:=mk0 (Kd.N_elder' (rN HO_10.out) (Kd.N_base ho58) hb);replace HL329_0:=mk0 (Kd.V_elder' (rV HL329_0.out) (Kd.N_base ho58) hb);replace HO337:=mk0 (Kd.V_elder' (rV HO337.out) (Kd.N_base ho58) hb);replace HO340:=mk0 (Kd.N_elder' (rN HO340.out) (Kd.N_base ho58) hb);have HO343:=mk0 (Kd.N_lower ho58 (kZ HB.out));replace HB:=mk0 (kS HB.out hb);clear hb ho58;have q59:(x12_20:Int) ≤ ((x10_1.length:Int):Int):=of_decide_eq_true (by first|(with_reducible assumption)|assumption);obtain⟨i059,hi059,_,hsz59,_⟩:=info_parts info22;have hroom59:x10_1.length ≤ co53:=(Kd.N_reads' HO_10.out).2.1;have hC59:Kd.F (Kd.slice 5 (Kd.int .u8)) _ _ Ao53 x10_1.length x10_1:=(Kd.V_at (base:=w.heap.size) (Kd.N_V HO_10.out)).2.2;have hcut59:=cut_to (P:=Try.prog) 66 22 .i64 Try.underlying66 hi059 Ao53 x10_1.length co53 x12_20 (of_decide_eq_true (by first|(with_reducible assumption)|assumption)) q59 hroom59;have hr59:=Kd.F_take (m:=(x12_20:Int).toNat) hC59 (by omega);have hy59:y344.length = (x12_20:Int).toNat:=(by rw [Ny344.out,List.length_take];omega);rw [← Ny344.out] at hr59;rw [← hy59] at hcut59;have HO348:=mk0 (show Kd.V (Kd.slice 5 (Kd.int .u8)) 22 _ w.heap.size _ (.slice Ao53 y344.length co53) y344 from Kd.V_mk (by omega) hr59);have HC348:=mk0 (show y344.length ≤ co53 from by omega);clear hr59 hC59 hroom59 hi059 hsz59;have KY59:=mk0 hy59;clear hy59;replace q59:=eq_true q59)|((with_reducible refine gate_builtin (b:=.append) (xs:=#[.tmp 83,.tmp 86]) rfl ?_);at_builtin;refine Kd.N_append_rows (Kd.slice 5 (Kd.int .u8)) (w0:=w) w.heap.size rfl (.tmp 83) (.tmp 86) 66 22 (.slice none 0 0) 24 rfl Try.underlying66 info22 rfl (by decide) (by omega) v342 y341 y344 _ _ _ (fun k_=>((P0_ k_ ∨ P1_ k_) ∨ w.heap.size ≤ k_) ∧ some k_ ≠ (.slice (some ad329) y317.length co22:Value).ownBlock ∧ some k_ ≠ (v339:Value).ownBlock) (fun k_=>((fun k_=>((P0_ k_ ∨ P1_ k_) ∨ w.heap.size ≤ k_) ∧ some k_ ≠ (.slice (some ad329) y317.length co22:Value).ownBlock ∧ some k_ ≠ (v339:Value).ownBlock)) k_ ∧ some k_ ≠ (v342:Value).ownBlock) rfl rfl ?aO ?aR (fun _ hk=>hk) ?aF ?aB ?aS ?aL ?_;(case aR=>exact (by skip;exact Kd.V_F (Kd.V_mono (ok':=(fun k_=>((fun k_=>((P0_ k_ ∨ P1_ k_) ∨ w.heap.size ≤ k_) ∧ some k_ ≠ (.slice (some ad329) y317.length co22:Value).ownBlock ∧ some k_ ≠ (v339:Value).ownBlock)) k_ ∧ some k_ ≠ (v342:Value).ownBlock)) (HO348.out) (fun k_ hk=>⟨⟨hk.1.1.1,⟨hk.1.1.2,hk.1.2⟩⟩,hk.2⟩))));(case aB=>exact (kB HB.out));(case aF=>exact (fun k_ hk=>⟨(.inr (Nat.le_trans (kZ HB.out) hk)),Kd.fresh' (Kd.N_lt (rN HO_9.out)) k_ hk,Kd.fresh' (Kd.N_lt (rN HO340.out)) k_ hk⟩));(case aO=>exact (rN (Kd.N_mono HO343.out (fun _ hk=>⟨hk.1,⟨hk.2.2.2.1,hk.2.2.2.2.2⟩⟩))));(case aS=>exact (kZ HB.out));(case aL=>have:=LMc49.out;omega);intro v350 w60 ho hb hg hat;rw [← Ny349.out] at ho;replace HO_7:=mk0 (Kd.N_afterv (ok:=(fun k_=>((P0_ k_ ∨ P1_ k_) ∨ w.heap.size ≤ k_) ∧ some k_ ≠ (.slice Ao17 t308.length co17:Value).ownBlock ∧ some k_ ≠ (.slice (some ad329) y317.length co22:Value).ownBlock ∧ some k_ ≠ (.slice Ao53 x10_1.length co53:Value).ownBlock ∧ some k_ ≠ (v339:Value).ownBlock)) (rN (Kd.N_mono HO_7.out (fun _ hk=>⟨⟨hk.1.1.1,⟨hk.1.1.2.1,⟨hk.1.1.2.2.1,⟨hk.1.1.2.2.2,hk.1.2⟩⟩⟩⟩,hk.2⟩))) hg hat);replace HO_8:=mk0 (Kd.N_afterv (ok:=(fun k_=>((P0_ k_ ∨ P1_ k_) ∨ w.heap.size ≤ k_) ∧ some k_ ≠ (.slice Ao15 t305.length co15:Value).ownBlock ∧ some k_ ≠ (.slice (some ad329) y317.length co22:Value).ownBlock ∧ some k_ ≠ (.slice Ao53 x10_1.length co53:Value).ownBlock ∧ some k_ ≠ (v339:Value).ownBlock)) (rN (Kd.N_mono HO_8.out (fun _ hk=>⟨⟨hk.1.1.1,⟨hk.1.1.2.1,⟨hk.1.1.2.2.1,⟨hk.1.1.2.2.2,hk.1.2⟩⟩⟩⟩,hk.2⟩))) hg hat);replace HO_9:=mk0 (Kd.N_afterv (ok:=(fun k_=>((P0_ k_ ∨ P1_ k_) ∨ w.heap.size ≤ k_) ∧ some k_ ≠ (.slice Ao53 x10_1.length co53:Value).ownBlock ∧ some k_ ≠ (v339:Value).ownBlock)) (rN (Kd.N_mono HO_9.out (fun _ hk=>⟨⟨hk.1.1.1,⟨hk.1.1.2,hk.1.2⟩⟩,hk.2⟩))) hg hat);replace HO_10:=mk0 (Kd.N_afterv (ok:=(fun k_=>((P0_ k_ ∨ P1_ k_) ∨ w.heap.size ≤ k_) ∧ some k_ ≠ (.slice (some ad329) y317.length co22:Value).ownBlock ∧ some k_ ≠ (v339:Value).ownBlock)) (rN (Kd.N_mono HO_10.out (fun _ hk=>⟨⟨hk.1.1.1,⟨hk.1.1.2,hk.1.2⟩⟩,hk.2⟩))) hg hat);replace HL329_0:=mk0 (Kd.V_afterv (ok:=(fun k_=>((P0_ k_ ∨ P1_ k_) ∨ w.heap.size ≤ k_) ∧ some k_ ≠ (.slice (some ad329) y317.length co22:Value).ownBlock ∧ some k_ ≠ (.slice Ao53 x10_1.length co53:Value).ownBlock ∧ some k_ ≠ (v339:Value).ownBlock)) (rV (Kd.V_mono HL329_0.out (fun _ hk=>⟨⟨hk.1.1.1,⟨hk.1.1.2.1,⟨hk.1.1.2.2,hk.1.2⟩⟩⟩,hk.2⟩))) hg hat);replace HO337:=mk0 (Kd.V_afterv (ok:=(fun k_=>((P0_ k_ ∨ P1_ k_) ∨ w.heap.size ≤ k_) ∧ some k_ ≠ (.slice (some ad329) y317.length co22:Value).ownBlock ∧ some k_ ≠ (v339:Value).ownBlock)) (rV (Kd.V_mono HO337.out (fun _ hk=>⟨⟨hk.1.1.1,⟨hk.1.1.2,hk.1.2⟩⟩,hk.2⟩))) hg hat);replace HO340:=mk0 (Kd.N_afterv (ok:=(fun k_=>((P0_ k_ ∨ P1_ k_) ∨ w.heap.size ≤ k_) ∧ some k_ ≠ (.slice (some ad329) y317.length co22:Value).ownBlock)) (rN HO340.out) hg hat);replace HO348:=mk0 (Kd.V_afterv (ok:=(fun k_=>((P0_ k_ ∨ P1_ k_) ∨ w.heap.size ≤ k_) ∧ some k_ ≠ (.slice (some ad329) y317.length co22:Value).ownBlock ∧ some k_ ≠ (v339:Value).ownBlock)) (rV (Kd.V_mono HO348.out (fun _ hk=>⟨⟨hk.1.1.1,⟨hk.1.1.2,hk.1.2⟩⟩,hk.2⟩))) hg hat);replace HB:=mk0 (hb);have HO351:=mk0 (ho);clear HO343 ho hb hg hat;obtain⟨Ao62,co62,eo62⟩:=Kd.N_slice HO340.out;subst eo62)|((with_reducible refine gate_builtin (b:=.append) (xs:=#[.tmp 87,.tmp 88]) rfl ?_);at_builtin;refine Kd.N_append_rows (Kd.slice 5 (Kd.int .u8)) (w0:=w) w.heap.size rfl (.tmp 87) (.tmp 88) 66 22 (.slice none 0 0) 24 rfl Try.underlying66 info22 rfl (by decide) (by omega) v350 y349 y338 _ _ _ (fun k_=>((P0_ k_ ∨ P1_ k_) ∨ w.heap.size ≤ k_) ∧ some k_ ≠ (.slice (some ad329) y317.length co22:Value).ownBlock) (fun k_=>((fun k_=>((P0_ k_ ∨ P1_ k_) ∨ w.heap.size ≤ k_) ∧ some k_ ≠ (.slice (some ad329) y317.length co22:Value).ownBlock)) k_ ∧ some k_ ≠ (v350:Value).ownBlock) rfl rfl ?aO ?aR (fun _ hk=>hk) ?aF ?aB ?aS ?aL ?_;(case aR=>exact (by skip;exact Kd.N_F (Kd.N_mono (ok':=(fun k_=>((fun k_=>((P0_ k_ ∨ P1_ k_) ∨ w.heap.size ≤ k_) ∧ some k_ ≠ (.slice (some ad329) y317.length co22:Value).ownBlock)) k_ ∧ some k_ ≠ (v350:Value).ownBlock)) (HO340.out) (fun k_ hk=>⟨⟨hk.1.1,hk.1.2⟩,hk.2⟩))));(case aB=>exact (kB HB.out));(case aF=>exact (fun k_ hk=>⟨(.inr (Nat.le_trans (kZ HB.out) hk)),Kd.fresh' (Kd.N_lt (rN HO_9.out)) k_ hk⟩));(case aO=>exact (rN (Kd.N_mono HO351.out (fun _ hk=>⟨hk.1,hk.2.1⟩))));(case aS=>exact (kZ HB.out));(case aL=>have:=LMc50.out;omega);intro v353 w61 ho hb hg hat;rw [← Ny352.out] at ho;replace HO_7:=mk0 (Kd.N_afterv (ok:=(fun k_=>((P0_ k_ ∨ P1_ k_) ∨ w.heap.size ≤ k_) ∧ some k_ ≠ (.slice Ao17 t308.length co17:Value).ownBlock ∧ some k_ ≠ (.slice (some ad329) y317.length co22:Value).ownBlock ∧ some k_ ≠ (.slice Ao53 x10_1.length co53:Value).ownBlock ∧ some k_ ≠ (.slice Ao62 y338.length co62:Value).ownBlock)) (rN HO_7.out) hg hat);replace HO_8:=mk0 (Kd.N_afterv (ok:=(fun k_=>((P0_ k_ ∨ P1_ k_) ∨ w.heap.size ≤ k_) ∧ some k_ ≠ (.slice Ao15 t305.length co15:Value).ownBlock ∧ some k_ ≠ (.slice (some ad329) y317.length co22:Value).ownBlock ∧ some k_ ≠ (.slice Ao53 x10_1.length co53:Value).ownBlock ∧ some k_ ≠ (.slice Ao62 y338.length co62:Value).ownBlock)) (rN HO_8.out) hg hat);replace HO_9:=mk0 (Kd.N_afterv (ok:=(fun k_=>((P0_ k_ ∨ P1_ k_) ∨ w.heap.size ≤ k_) ∧ some k_ ≠ (.slice Ao53 x10_1.length co53:Value).ownBlock ∧ some k_ ≠ (.slice Ao62 y338.length co62:Value).ownBlock)) (rN HO_9.out) hg hat);replace HO_10:=mk0 (Kd.N_afterv (ok:=(fun k_=>((P0_ k_ ∨ P1_ k_) ∨ w.heap.size ≤ k_) ∧ some k_ ≠ (.slice (some ad329) y317.length co22:Value).ownBlock ∧ some k_ ≠ (.slice Ao62 y338.length co62:Value).ownBlock)) (rN HO_10.out) hg hat);replace HL329_0:=mk0 (Kd.V_afterv (ok:=(fun k_=>((P0_ k_ ∨ P1_ k_) ∨ w.heap.size ≤ k_) ∧ some k_ ≠ (.slice (some ad329) y317.length co22:Value).ownBlock ∧ some k_ ≠ (.slice Ao53 x10_1.length co53:Value).ownBlock ∧ some k_ ≠ (.slice Ao62 y338.length co62:Value).ownBlock)) (rV HL329_0.out) hg hat);replace HO337:=mk0 (Kd.V_afterv (ok:=(fun k_=>((P0_ k_ ∨ P1_ k_) ∨ w.heap.size ≤ k_) ∧ some k_ ≠ (.slice (some ad329) y317.length co22:Value).ownBlock ∧ some k_ ≠ (.slice Ao62 y338.length co62:Value).ownBlock)) (rV HO337.out) hg hat);replace HO340:=mk0 (Kd.N_afterv (ok:=(fun k_=>((P0_ k_ ∨ P1_ k_) ∨ w.heap.size ≤ k_) ∧ some k_ ≠ (.slice (some ad329) y317.length co22:Value).ownBlock)) (rN HO340.out) hg hat);replace HO348:=mk0 (Kd.V_afterv (ok:=(fun k_=>((P0_ k_ ∨ P1_ k_) ∨ w.heap.size ≤ k_) ∧ some k_ ≠ (.slice (some ad329) y317.length co22:Value).ownBlock ∧ some k_ ≠ (.slice Ao62 y338.length co62:Value).ownBlock)) (rV HO348.out) hg hat);replace HB:=mk0 (hb);have HO354:=mk0 (ho);clear HO351 ho hb hg hat))
     go_roundg kj20
     case measure=>have:=HK1.out;have:=HJ20.out;omega
     case rel=>exact⟨(y352),(wrap64 (x11_1 + 1)),(by first|rfl|(simp;done)|(simp [*];done)),H',⟨by have:=HK1.out;have:=HJ20.out;omega⟩,⟨rN HO354.out⟩,⟨rN (Kd.N_mono HO_7.out (fun _ hk=>⟨hk.1.1,⟨hk.2,⟨hk.1.2.1,hk.1.2.2.1⟩⟩⟩))⟩,⟨rN (Kd.N_mono HO_8.out (fun _ hk=>⟨hk.1.1,⟨hk.2,⟨hk.1.2.1,hk.1.2.2.1⟩⟩⟩))⟩,⟨rN (Kd.N_mono HO_9.out (fun _ hk=>⟨hk.1.1,hk.2⟩))⟩,⟨kB HB.out⟩⟩
end Go.Proofs.Ytadhngelhognaaa.QFnParts
