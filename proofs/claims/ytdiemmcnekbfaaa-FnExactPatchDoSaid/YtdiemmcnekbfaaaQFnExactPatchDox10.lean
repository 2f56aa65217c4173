-- A walk, made by walk.py, a program of this session's.
import Derived.Test.YtdiemmcnekbfaaaQFnExactPatchDox0
import Derived.Test.YtdiemmcnekbfaaaQFnExactPatchDox1
import Derived.Test.YtdiemmcnekbfaaaQFnExactPatchDox2
import Derived.Test.YtdiemmcnekbfaaaQFnExactPatchDox5
import Derived.Test.YtdiemmcnekbfaaaQFnExactPatchDox6
import Derived.Test.YtdiemmcnekbfaaaQFnExactPatchDox8
import Derived.Test.YtdiemmcnekbfaaaQFnExactPatchDox9
namespace Go.Proofs.Ytdiemmcnekbfaaa.QFnExactPatchDo
open Go.RowKit Go.Proofs.YtdiemmcnekbfaaaW.PrintWords Go.Proofs.YtdiemmcnekbfaaaW.PrintLast Go.Proofs.YtdiemmcnekbfaaaW.PrintMore
attribute [local go_sem] max2_int min2_int max_two min_two max_three min_three max_four min_four   -- for this text's walks alone
set_option linter.unusedVariables false
set_option linter.unusedSimpArgs false

/-! ### laws_FnExactPatchDo: function 4 -/
mutual
def laws_FnExactPatchDo.j0 : Nat → List Int → List Int → Bool → List Int → List Int → Bool → Bool → Int → List Int → Int → List Int → List Int → Int → List Int → Int → List Int → List Int → Option (Bool)
 | 0, _, _, _, _, _, _, _, _, _, _, _, _, _, _, _, _, _ => none
 | k + 1, x0, x6, x7, x8, x10, x11, x51, x308000, x308001, x308002, x308003, x308004, x342000, x342001, x342002, x342003, x342004 => if x51 = true then (some false) else ((laws_toIntS.f k x0).bind fun t347 => ((laws_eqIntS.f k x8 t347).bind fun t350 => (if t350 = true then ((laws_toPatch.f k x308000 x308001 x308002 x308003 x308004).bind fun bt351 => ((laws_eqPatch.f k x342000 x342001 x342002 x342003 x342004 bt351.1 bt351.2.1 bt351.2.2.1 bt351.2.2.2.1 bt351.2.2.2.2).bind fun t362 => (if t362 = true then ((laws_markIntS.f k x8 1).bind fun bt363 => ((laws_markPatch.f k x342000 x342001 x342002 x342003 x342004 bt363.1).bind fun bt365 => (if bt365.1 < 0 then (laws_FnExactPatchDo.j1 k x0 x6 x7 x10 true x308000 x308001 x308002 x308003 x308004) else ((laws_eqIntS.f k x10 x6).bind fun t369 => (if t369 = true then (laws_FnExactPatchDo.j1 k x0 x6 x7 x10 (x11 != x7) x308000 x308001 x308002 x308003 x308004) else (laws_FnExactPatchDo.j1 k x0 x6 x7 x10 true x308000 x308001 x308002 x308003 x308004)))))) else (some false)))) else (some false))))
def laws_FnExactPatchDo.j1 : Nat → List Int → List Int → Bool → List Int → Bool → Int → List Int → Int → List Int → List Int → Option (Bool)
 | 0, _, _, _, _, _, _, _, _, _, _ => none
 | k + 1, x0, x6, x7, x10, x80, x308000, x308001, x308002, x308003, x308004 => if x80 = true then (some false) else ((laws_markIntS.f k x10 1).bind fun bt370 => ((laws_heldIntS.f k bt370.2 1).bind fun t372 => (if t372 < 0 then (some false) else (if t372 = bt370.1 then ((laws_toIntS.f k x0).bind fun t373 => ((laws_toPatch.f k x308000 x308001 x308002 x308003 x308004).bind fun bt376 => ((impl_PatchDo.f k t373 bt376.1 bt376.2.1 bt376.2.2.1 bt376.2.2.2.1 bt376.2.2.2.2).bind fun bt387 => ((laws_eqIntS.f k bt387.1 x6).bind fun t391 => (if t391 = true then (laws_FnExactPatchDo.j2 k bt370.2 bt370.1 (bt387.2 != x7)) else (laws_FnExactPatchDo.j2 k bt370.2 bt370.1 true)))))) else (some false)))))
def laws_FnExactPatchDo.j2 : Nat → List Int → Int → Bool → Option (Bool)
 | 0, _, _, _ => none
 | k + 1, x10, x13, x108 => if x108 = true then (some false) else ((laws_heldIntS.f k x10 1).bind fun t392 => (if t392 < 0 then (some false) else (if t392 = x13 then (some true) else (some false))))
end
def laws_FnExactPatchDo.f (k : Nat) (l0 : List Int) (a1_0 : Int) (l1_1 : List Int) (a1_2 : Int) (l1_3 : List Int) (l1_4 : List Int) : Option (Bool) := if (l0.length : Int) > 1048576 then (some true) else ((laws_szPatch.f a1_0 l1_1 a1_2 l1_3 l1_4 1048576).bind fun t308 => (if t308 < 0 then (some true) else ((laws_toIntS.f k l0).bind fun t309 => ((laws_toPatch.f k a1_0 l1_1 a1_2 l1_3 l1_4).bind fun bt312 => ((spec_PatchDo.f k t309 bt312.1 bt312.2.1 bt312.2.2.1 bt312.2.2.2.1 bt312.2.2.2.2).bind fun bt323 => ((laws_toIntS.f k l0).bind fun t327 => ((laws_toPatch.f k a1_0 l1_1 a1_2 l1_3 l1_4).bind fun bt330 => ((impl_PatchDo.f k t327 bt330.1 bt330.2.1 bt330.2.2.1 bt330.2.2.2.1 bt330.2.2.2.2).bind fun bt342 => ((laws_eqIntS.f k bt342.1 bt323.1).bind fun t346 => (if t346 = true then (laws_FnExactPatchDo.j0 k l0 bt323.1 bt323.2 t327 bt342.1 bt342.2 (bt342.2 != bt323.2) a1_0 l1_1 a1_2 l1_3 l1_4 bt330.1 bt330.2.1 bt330.2.2.1 bt330.2.2.2.1 bt330.2.2.2.2) else (laws_FnExactPatchDo.j0 k l0 bt323.1 bt323.2 t327 bt342.1 bt342.2 true a1_0 l1_1 a1_2 l1_3 l1_4 bt330.1 bt330.2.1 bt330.2.2.1 bt330.2.2.2.1 bt330.2.2.2.2)))))))))))
theorem laws_FnExactPatchDo.mono_l : ∀ k, (∀ y0 y1 y2 y3 y4 y5 y6 y7 y8 y9 y10 y11 y12 y13 y14 y15 y16, LeO (laws_FnExactPatchDo.j0 k y0 y1 y2 y3 y4 y5 y6 y7 y8 y9 y10 y11 y12 y13 y14 y15 y16) (laws_FnExactPatchDo.j0 (k + 1) y0 y1 y2 y3 y4 y5 y6 y7 y8 y9 y10 y11 y12 y13 y14 y15 y16)) ∧ (∀ y0 y1 y2 y3 y4 y5 y6 y7 y8 y9, LeO (laws_FnExactPatchDo.j1 k y0 y1 y2 y3 y4 y5 y6 y7 y8 y9) (laws_FnExactPatchDo.j1 (k + 1) y0 y1 y2 y3 y4 y5 y6 y7 y8 y9)) ∧ (∀ y0 y1 y2, LeO (laws_FnExactPatchDo.j2 k y0 y1 y2) (laws_FnExactPatchDo.j2 (k + 1) y0 y1 y2))
 | 0 => ⟨fun _ _ _ _ _ _ _ _ _ _ _ _ _ _ _ _ _ r h => by simp [laws_FnExactPatchDo.j0] at h, fun _ _ _ _ _ _ _ _ _ _ r h => by simp [laws_FnExactPatchDo.j1] at h, fun _ _ _ r h => by simp [laws_FnExactPatchDo.j2] at h⟩
 | k + 1 => by
  obtain ⟨ih0, ih1, ih2⟩ := laws_FnExactPatchDo.mono_l k
  refine ⟨?_, ?_, ?_⟩
  ·intro y0 y1 y2 y3 y4 y5 y6 y7 y8 y9 y10 y11 y12 y13 y14 y15 y16
   unfold laws_FnExactPatchDo.j0
   repeat' first|(with_reducible first|exact ih0 _ _ _ _ _ _ _ _ _ _ _ _ _ _ _ _ _|exact ih1 _ _ _ _ _ _ _ _ _ _|exact ih2 _ _ _|exact impl_PatchDo.mono _ _ _ _ _ _ _|exact laws_eqIntS.mono _ _ _|exact laws_eqPatch.mono _ _ _ _ _ _ _ _ _ _ _|exact laws_heldIntS.mono _ _ _|exact laws_markIntS.mono _ _ _|exact laws_markPatch.mono _ _ _ _ _ _ _|exact laws_toIntS.mono _ _|exact laws_toPatch.mono _ _ _ _ _ _|exact spec_PatchDo.mono _ _ _ _ _ _ _|exact LeO.refl _|exact LeO.none _|refine LeO.ite ?_ ?_|refine LeO.bind ?_ (fun _ => ?_))|exact LeO.none _|refine LeO.ite ?_ ?_|refine LeO.bind ?_ (fun _ => ?_)
  ·intro y0 y1 y2 y3 y4 y5 y6 y7 y8 y9
   unfold laws_FnExactPatchDo.j1
   repeat' first|(with_reducible first|exact ih0 _ _ _ _ _ _ _ _ _ _ _ _ _ _ _ _ _|exact ih1 _ _ _ _ _ _ _ _ _ _|exact ih2 _ _ _|exact impl_PatchDo.mono _ _ _ _ _ _ _|exact laws_eqIntS.mono _ _ _|exact laws_eqPatch.mono _ _ _ _ _ _ _ _ _ _ _|exact laws_heldIntS.mono _ _ _|exact laws_markIntS.mono _ _ _|exact laws_markPatch.mono _ _ _ _ _ _ _|exact laws_toIntS.mono _ _|exact laws_toPatch.mono _ _ _ _ _ _|exact spec_PatchDo.mono _ _ _ _ _ _ _|exact LeO.refl _|exact LeO.none _|refine LeO.ite ?_ ?_|refine LeO.bind ?_ (fun _ => ?_))|exact LeO.none _|refine LeO.ite ?_ ?_|refine LeO.bind ?_ (fun _ => ?_)
  ·intro y0 y1 y2
   unfold laws_FnExactPatchDo.j2
   repeat' first|(with_reducible first|exact ih0 _ _ _ _ _ _ _ _ _ _ _ _ _ _ _ _ _|exact ih1 _ _ _ _ _ _ _ _ _ _|exact ih2 _ _ _|exact impl_PatchDo.mono _ _ _ _ _ _ _|exact laws_eqIntS.mono _ _ _|exact laws_eqPatch.mono _ _ _ _ _ _ _ _ _ _ _|exact laws_heldIntS.mono _ _ _|exact laws_markIntS.mono _ _ _|exact laws_markPatch.mono _ _ _ _ _ _ _|exact laws_toIntS.mono _ _|exact laws_toPatch.mono _ _ _ _ _ _|exact spec_PatchDo.mono _ _ _ _ _ _ _|exact LeO.refl _|exact LeO.none _|refine LeO.ite ?_ ?_|refine LeO.bind ?_ (fun _ => ?_))|exact LeO.none _|refine LeO.ite ?_ ?_|refine LeO.bind ?_ (fun _ => ?_)
theorem laws_FnExactPatchDo.mono : ∀ a0 a1 a2 a3 a4 a5 k, LeO (laws_FnExactPatchDo.f k a0 a1 a2 a3 a4 a5) (laws_FnExactPatchDo.f (k + 1) a0 a1 a2 a3 a4 a5) := by
 intro a0 a1 a2 a3 a4 a5 k
 obtain ⟨ih0, ih1, ih2⟩ := laws_FnExactPatchDo.mono_l k
 unfold laws_FnExactPatchDo.f
 repeat' first|(with_reducible first|exact ih0 _ _ _ _ _ _ _ _ _ _ _ _ _ _ _ _ _|exact ih1 _ _ _ _ _ _ _ _ _ _|exact ih2 _ _ _|exact impl_PatchDo.mono _ _ _ _ _ _ _|exact laws_eqIntS.mono _ _ _|exact laws_eqPatch.mono _ _ _ _ _ _ _ _ _ _ _|exact laws_heldIntS.mono _ _ _|exact laws_markIntS.mono _ _ _|exact laws_markPatch.mono _ _ _ _ _ _ _|exact laws_toIntS.mono _ _|exact laws_toPatch.mono _ _ _ _ _ _|exact spec_PatchDo.mono _ _ _ _ _ _ _|exact LeO.refl _|exact LeO.none _|refine LeO.ite ?_ ?_|refine LeO.bind ?_ (fun _ => ?_))|exact LeO.none _|refine LeO.ite ?_ ?_|refine LeO.bind ?_ (fun _ => ?_)
def laws_FnExactPatchDo.T7 : Bool × List (List Nat × List Nat) := (true, [([], []), ([0], [0]), ([], []), ([2, 1], [2]), ([1, 3, 3], [1, 3]), ([4], [4]), ([5], [5]), ([5], [5]), ([6, 4, 0, 1, 2, 3, 4, 5, 6], [6]), ([7, 8, 0, 1, 2, 3, 4, 5, 6, 7, 8], [7])])
def laws_FnExactPatchDo.B7 : List Nat := [0, 1, 0, 7, 15, 31, 63, 63, 127, 511]
theorem laws_FnExactPatchDo.tab7 : rtab .any (opsOf Try.f4 7) = laws_FnExactPatchDo.T7 := by kernel_rfl
theorem laws_FnExactPatchDo.bits7 : waitsOk laws_FnExactPatchDo.T7.2 laws_FnExactPatchDo.B7 = true := by kernel_rfl
def laws_FnExactPatchDo.T30 : Bool × List (List Nat × List Nat) := (true, [([], []), ([0], [0]), ([], []), ([2, 1], [2]), ([1, 3, 3], [1, 3]), ([4], [4]), ([5], [5]), ([5], [5]), ([6, 4, 0, 1, 2, 3, 4, 5, 6], [6]), ([7, 8, 0, 1, 2, 3, 4, 5, 6, 7, 8], [7])])
def laws_FnExactPatchDo.B30 : List Nat := [0, 1, 0, 7, 15, 31, 63, 63, 127, 511]
theorem laws_FnExactPatchDo.tab30 : rtab .any (opsOf Try.f4 30) = laws_FnExactPatchDo.T30 := by kernel_rfl
theorem laws_FnExactPatchDo.bits30 : waitsOk laws_FnExactPatchDo.T30.2 laws_FnExactPatchDo.B30 = true := by kernel_rfl
abbrev laws_FnExactPatchDo.m0 : Array Bool := #[F,F,F,F,F,F,F,F,F,F]
abbrev laws_FnExactPatchDo.m1 : Array Bool := #[T,F,F,F,F,F,F,F,F,F]
abbrev laws_FnExactPatchDo.m2 : Array Bool := #[T,F,T,F,F,F,F,F,F,F]
abbrev laws_FnExactPatchDo.m3 : Array Bool := #[T,T,T,F,F,F,F,F,F,F]
abbrev laws_FnExactPatchDo.m4 : Array Bool := #[T,T,T,T,F,F,F,F,F,F]
abbrev laws_FnExactPatchDo.m5 : Array Bool := #[T,T,T,T,T,F,F,F,F,F]
abbrev laws_FnExactPatchDo.m6 : Array Bool := #[T,T,T,T,T,T,F,F,F,F]
abbrev laws_FnExactPatchDo.m7 : Array Bool := #[T,T,T,T,T,T,T,F,F,F]
abbrev laws_FnExactPatchDo.m8 : Array Bool := #[T,T,T,T,T,T,T,T,F,F]
abbrev laws_FnExactPatchDo.m9 : Array Bool := #[T,T,T,T,T,T,T,T,T,F]
abbrev laws_FnExactPatchDo.m10 : Array Bool := #[T,T,T,T,T,T,T,T,T,T]
set_option maxHeartbeats 8000000 in
set_option maxRecDepth 100000 in
theorem laws_FnExactPatchDo.calls (k : Nat) (A0 : Option Addr) (c0 : Nat) (l0 : List Int) (a1_0 : Int) (A1_1 : Option Addr) (c1_1 : Nat) (l1_1 : List Int) (a1_2 : Int) (A1_3 : Option Addr) (c1_3 : Nat) (l1_3 : List Int) (A1_4 : Option Addr) (c1_4 : Nat) (l1_4 : List Int) (r : Bool) (w : World) (hr0 : Kd.C (Kd.int .i64) w A0 l0.length l0) (hc0 : l0.length ≤ c0) (hr1_1 : Kd.C (Kd.int .u64) w A1_1 l1_1.length l1_1) (hc1_1 : l1_1.length ≤ c1_1) (hr1_3 : Kd.C (Kd.int .u64) w A1_3 l1_3.length l1_3) (hc1_3 : l1_3.length ≤ c1_3) (hr1_4 : Kd.C (Kd.int .i64) w A1_4 l1_4.length l1_4) (hc1_4 : l1_4.length ≤ c1_4) (h : laws_FnExactPatchDo.f k l0 a1_0 l1_1 a1_2 l1_3 l1_4 = some r) :
  Calls Try.prog 4 #[.slice A0 l0.length c0, .agg #[.int .i64 a1_0, .slice A1_1 l1_1.length c1_1, .int .i64 a1_2, .slice A1_3 l1_3.length c1_3, .slice A1_4 l1_4.length c1_4]] w fun e w' => e = .returned (.bool r) ∧ Below w.heap.size w w' := by
 have hu37:=Try.underlying37
 have hu27:=Try.underlying27
 have HR0:=mk0 hr0
 have HC0:=mk0 hc0
 clear hr0 hc0
 have HR1_1:=mk0 hr1_1
 have HC1_1:=mk0 hc1_1
 clear hr1_1 hc1_1
 have HR1_3:=mk0 hr1_3
 have HC1_3:=mk0 hc1_3
 clear hr1_3 hc1_3
 have HR1_4:=mk0 hr1_4
 have HC1_4:=mk0 hc1_4
 clear hr1_4 hc1_4
 have HB:=mk0 (Below.refl w.heap.size w)
 have H:(if (l0.length:Int) > 1048576 then (some true) else ((laws_szPatch.f a1_0 l1_1 a1_2 l1_3 l1_4 1048576).bind fun t308=>(if t308 < 0 then (some true) else ((laws_toIntS.f k l0).bind fun t309=>((laws_toPatch.f k a1_0 l1_1 a1_2 l1_3 l1_4).bind fun bt312=>((spec_PatchDo.f k t309 bt312.1 bt312.2.1 bt312.2.2.1 bt312.2.2.2.1 bt312.2.2.2.2).bind fun bt323=>((laws_toIntS.f k l0).bind fun t327=>((laws_toPatch.f k a1_0 l1_1 a1_2 l1_3 l1_4).bind fun bt330=>((impl_PatchDo.f k t327 bt330.1 bt330.2.1 bt330.2.2.1 bt330.2.2.2.1 bt330.2.2.2.2).bind fun bt342=>((laws_eqIntS.f k bt342.1 bt323.1).bind fun t346=>(if t346 = true then (laws_FnExactPatchDo.j0 k l0 bt323.1 bt323.2 t327 bt342.1 bt342.2 (bt342.2 != bt323.2) a1_0 l1_1 a1_2 l1_3 l1_4 bt330.1 bt330.2.1 bt330.2.2.1 bt330.2.2.2.1 bt330.2.2.2.2) else (laws_FnExactPatchDo.j0 k l0 bt323.1 bt323.2 t327 bt342.1 bt342.2 true a1_0 l1_1 a1_2 l1_3 l1_4 bt330.1 bt330.2.1 bt330.2.2.1 bt330.2.2.2.1 bt330.2.2.2.2)))))))))))) = some r:=h
 clear h
 by_cases c3:(l0.length:Int) > 1048576
 ·rw [if_pos c3] at H
  have c3b0:decide (1048576 < (l0.length:Int)) = true:=decide_eq_true c3
  (try simp only [hl10_85] at c3b0)
  (try simp only [hl342001_55] at c3b0)
  (try simp only [hl342003_55] at c3b0)
  (try simp only [hl342004_55] at c3b0)
  have c3b1:decide (1048576 < l0.length) = true:=decide_eq_true (by omega)
  (try simp only [hl10_85] at c3b1)
  (try simp only [hl342001_55] at c3b1)
  (try simp only [hl342003_55] at c3b1)
  (try simp only [hl342004_55] at c3b1)
  clear c3
  obtain rfl:=Option.some.inj H
  go_enter Try.func4,Try.ntmps4
  go_wp2_with (first|((with_reducible refine gate_dst (N:=3) rfl ?_);refine box_event ?hg (N:=3) ?hd (cs:=#[.int .i64 a1_0,.slice A1_1 l1_1.length c1_1,.int .i64 a1_2,.slice A1_3 l1_3.length c1_3,.slice A1_4 l1_4.length c1_4]) (t:=37) ?hr ?_;(case hd=>rfl);(case hg=>rfl);(case hr=>first|(go_simp;done)|(go_simp;rfl));intro gb307 hg w4 hbox hb;have n0_:=mk0 (below_step (by repeat (first|(with_reducible first|exact HB.out|apply aZ|apply nZ|apply dZ)|exact HB.out)) hb);have n1_:=mk0 (hbox);have n2_:=mk0 ((by rw [hg];exact (below_size (by repeat (first|(with_reducible first|exact HB.out|apply aZ|apply nZ|apply dZ)|exact HB.out))):w.heap.size ≤ gb307));have n3_:=mk0 ((by rw [hg];exact (below_size (by repeat (first|(with_reducible first|exact HB.out|apply aZ|apply nZ|apply dZ)|exact HB.out))):w.heap.size ≤ gb307));clear HB;have HB:=n0_;have BK307:=n1_;have GW307:=n2_;have GE307:=n3_;clear n0_ n1_ n2_ n3_ hb hbox hg))
  go_ret
  exact⟨by first|rfl|(simp [errW_none,errW_some] <;> rfl)|(simp [*,errW_none,errW_some] <;> rfl),by repeat (first|(with_reducible first|exact HB.out|apply aZ|apply nZ|apply dZ|refine sZ ?_ GE307.out)|exact HB.out)⟩
 rw [if_neg c3] at H
 have c3b0:decide (1048576 < (l0.length:Int)) = false:=decide_eq_false c3
 (try simp only [hl10_85] at c3b0)
 (try simp only [hl342001_55] at c3b0)
 (try simp only [hl342003_55] at c3b0)
 (try simp only [hl342004_55] at c3b0)
 have c3b1:decide (1048576 < l0.length) = false:=decide_eq_false (by omega)
 (try simp only [hl10_85] at c3b1)
 (try simp only [hl342001_55] at c3b1)
 (try simp only [hl342003_55] at c3b1)
 (try simp only [hl342004_55] at c3b1)
 clear c3
 replace H:=Option.bind_eq_some_iff.mp H
 obtain⟨t308,A50,H⟩:=H
 replace H:(if t308 < 0 then (some true) else ((laws_toIntS.f k l0).bind fun t309=>((laws_toPatch.f k a1_0 l1_1 a1_2 l1_3 l1_4).bind fun bt312=>((spec_PatchDo.f k t309 bt312.1 bt312.2.1 bt312.2.2.1 bt312.2.2.2.1 bt312.2.2.2.2).bind fun bt323=>((laws_toIntS.f k l0).bind fun t327=>((laws_toPatch.f k a1_0 l1_1 a1_2 l1_3 l1_4).bind fun bt330=>((impl_PatchDo.f k t327 bt330.1 bt330.2.1 bt330.2.2.1 bt330.2.2.2.1 bt330.2.2.2.2).bind fun bt342=>((laws_eqIntS.f k bt342.1 bt323.1).bind fun t346=>(if t346 = true then (laws_FnExactPatchDo.j0 k l0 bt323.1 bt323.2 t327 bt342.1 bt342.2 (bt342.2 != bt323.2) a1_0 l1_1 a1_2 l1_3 l1_4 bt330.1 bt330.2.1 bt330.2.2.1 bt330.2.2.2.1 bt330.2.2.2.2) else (laws_FnExactPatchDo.j0 k l0 bt323.1 bt323.2 t327 bt342.1 bt342.2 true a1_0 l1_1 a1_2 l1_3 l1_4 bt330.1 bt330.2.1 bt330.2.2.1 bt330.2.2.2.1 bt330.2.2.2.2)))))))))) = some r:=H
 have A5:=mk0 A50
 clear A50
 by_cases c6:t308 < 0
 ·rw [if_pos c6] at H
  have c6b0:decide (t308 < 0) = true:=decide_eq_true c6
  clear c6
  obtain rfl:=Option.some.inj H
  go_enter Try.func4,Try.ntmps4
  go_wp2_with (first|((with_reducible refine gate_dst (N:=3) rfl ?_);refine box_event ?hg (N:=3) ?hd (cs:=#[.int .i64 a1_0,.slice A1_1 l1_1.length c1_1,.int .i64 a1_2,.slice A1_3 l1_3.length c1_3,.slice A1_4 l1_4.length c1_4]) (t:=37) ?hr ?_;(case hd=>rfl);(case hg=>rfl);(case hr=>first|(go_simp;done)|(go_simp;rfl));intro gb307 hg w7 hbox hb;have n0_:=mk0 (below_step (by repeat (first|(with_reducible first|exact HB.out|apply aZ|apply nZ|apply dZ)|exact HB.out)) hb);have n1_:=mk0 (hbox);have n2_:=mk0 ((by rw [hg];exact (below_size (by repeat (first|(with_reducible first|exact HB.out|apply aZ|apply nZ|apply dZ)|exact HB.out))):w.heap.size ≤ gb307));have n3_:=mk0 ((by rw [hg];exact (below_size (by repeat (first|(with_reducible first|exact HB.out|apply aZ|apply nZ|apply dZ)|exact HB.out))):w.heap.size ≤ gb307));clear HB;have HB:=n0_;have BK307:=n1_;have GW307:=n2_;have GE307:=n3_;clear n0_ n1_ n2_ n3_ hb hbox hg;have hcz8_0:w7.cell? ⟨gb307,0,none⟩ = some (.int .i64 a1_0):=(blk_cell BK307.out 0).trans rfl;have hcz8_1:w7.cell? ⟨gb307,1,none⟩ = some (.slice A1_1 l1_1.length c1_1):=(blk_cell BK307.out 1).trans rfl;have hcz8_2:w7.cell? ⟨gb307,2,none⟩ = some (.int .i64 a1_2):=(blk_cell BK307.out 2).trans rfl;have hcz8_3:w7.cell? ⟨gb307,3,none⟩ = some (.slice A1_3 l1_3.length c1_3):=(blk_cell BK307.out 3).trans rfl;have hcz8_4:w7.cell? ⟨gb307,4,none⟩ = some (.slice A1_4 l1_4.length c1_4):=(blk_cell BK307.out 4).trans rfl;have hfz8_0:=blk_frozen BK307.out 0;have hfz8_1:=blk_frozen BK307.out 1;have hfz8_2:=blk_frozen BK307.out 2;have hfz8_3:=blk_frozen BK307.out 3;have hfz8_4:=blk_frozen BK307.out 4)|((with_reducible refine gate_callee (f:=14) rfl ?_);refine goesL_ (some 22) rfl rfl Try.func14 (by kernel_rfl) rfl #[.agg #[.int .i64 a1_0,.slice A1_1 l1_1.length c1_1,.int .i64 a1_2,.slice A1_3 l1_3.length c1_3,.slice A1_4 l1_4.length c1_4],.int .i64 1048576] rfl (by (try simp only [mA,mC,mN]);first|done|rfl|(simp only [List.length_drop,List.length_take];rfl)) ?_;(with_reducible refine (laws_szPatch.calls a1_0 _ _ l1_1 a1_2 _ _ l1_3 _ _ l1_4 1048576 t308 _ ?side1 ?side2 ?side3 ?side4 ?side5 ?side6 A5.out).mono ?_);(case side1=>repeat (first|exact (Kd.C_below HR1_1.out HB.out)|(with_reducible first|apply aC|apply nC|apply dC)));(case side2=>exact HC1_1.out);(case side3=>repeat (first|exact (Kd.C_below HR1_3.out HB.out)|(with_reducible first|apply aC|apply nC|apply dC)));(case side4=>exact HC1_3.out);(case side5=>repeat (first|exact (Kd.C_below HR1_4.out HB.out)|(with_reducible first|apply aC|apply nC|apply dC)));(case side6=>exact HC1_4.out);rintro e w9 ⟨rfl,hb⟩;refine⟨_,rfl,?_⟩;have n0_:=mk0 (blk_below (g:=gb307) (o:=.cells #[.int .i64 a1_0,.slice A1_1 l1_1.length c1_1,.int .i64 a1_2,.slice A1_3 l1_3.length c1_3,.slice A1_4 l1_4.length c1_4] 37 (0,0)) (by (with_reducible repeat (first|apply nB|apply dB|apply aB));exact BK307.out) hb);have n1_:=mk0 (below_step (by repeat (first|(with_reducible first|exact HB.out|apply aZ|apply nZ|apply dZ|refine sZ ?_ GE307.out)|exact HB.out)) hb);clear BK307 HB;have BK307:=n0_;have HB:=n1_;clear n0_ n1_;(try clear hb);(try clear hb2);(try clear hk);(try clear hi)))
  go_ret
  exact⟨by first|rfl|(simp [errW_none,errW_some] <;> rfl)|(simp [*,errW_none,errW_some] <;> rfl),by repeat (first|(with_reducible first|exact HB.out|apply aZ|apply nZ|apply dZ|refine sZ ?_ GE307.out)|exact HB.out)⟩
 rw [if_neg c6] at H
 have c6b0:decide (t308 < 0) = false:=decide_eq_false c6
 clear c6
 replace H:=Option.bind_eq_some_iff.mp H
 obtain⟨t309,A100,H⟩:=H
 replace H:((laws_toPatch.f k a1_0 l1_1 a1_2 l1_3 l1_4).bind fun bt312=>((spec_PatchDo.f k t309 bt312.1 bt312.2.1 bt312.2.2.1 bt312.2.2.2.1 bt312.2.2.2.2).bind fun bt323=>((laws_toIntS.f k l0).bind fun t327=>((laws_toPatch.f k a1_0 l1_1 a1_2 l1_3 l1_4).bind fun bt330=>((impl_PatchDo.f k t327 bt330.1 bt330.2.1 bt330.2.2.1 bt330.2.2.2.1 bt330.2.2.2.2).bind fun bt342=>((laws_eqIntS.f k bt342.1 bt323.1).bind fun t346=>(if t346 = true then (laws_FnExactPatchDo.j0 k l0 bt323.1 bt323.2 t327 bt342.1 bt342.2 (bt342.2 != bt323.2) a1_0 l1_1 a1_2 l1_3 l1_4 bt330.1 bt330.2.1 bt330.2.2.1 bt330.2.2.2.1 bt330.2.2.2.2) else (laws_FnExactPatchDo.j0 k l0 bt323.1 bt323.2 t327 bt342.1 bt342.2 true a1_0 l1_1 a1_2 l1_3 l1_4 bt330.1 bt330.2.1 bt330.2.2.1 bt330.2.2.2.1 bt330.2.2.2.2)))))))) = some r:=H
 have A10:=mk0 A100
 clear A100
 replace H:=Option.bind_eq_some_iff.mp H
 obtain⟨⟨t312,t313,t316,t317,t320⟩,A110,H⟩:=H
 replace H:((spec_PatchDo.f k t309 t312 t313 t316 t317 t320).bind fun bt323=>((laws_toIntS.f k l0).bind fun t327=>((laws_toPatch.f k a1_0 l1_1 a1_2 l1_3 l1_4).bind fun bt330=>((impl_PatchDo.f k t327 bt330.1 bt330.2.1 bt330.2.2.1 bt330.2.2.2.1 bt330.2.2.2.2).bind fun bt342=>((laws_eqIntS.f k bt342.1 bt323.1).bind fun t346=>(if t346 = true then (laws_FnExactPatchDo.j0 k l0 bt323.1 bt323.2 t327 bt342.1 bt342.2 (bt342.2 != bt323.2) a1_0 l1_1 a1_2 l1_3 l1_4 bt330.1 bt330.2.1 bt330.2.2.1 bt330.2.2.2.1 bt330.2.2.2.2) else (laws_FnExactPatchDo.j0 k l0 bt323.1 bt323.2 t327 bt342.1 bt342.2 true a1_0 l1_1 a1_2 l1_3 l1_4 bt330.1 bt330.2.1 bt330.2.2.1 bt330.2.2.2.1 bt330.2.2.2.2))))))) = some r:=H
 have A11:=mk0 A110
 clear A110
 replace H:=Option.bind_eq_some_iff.mp H
 obtain⟨⟨t323,t326⟩,A120,H⟩:=H
 replace H:((laws_toIntS.f k l0).bind fun t327=>((laws_toPatch.f k a1_0 l1_1 a1_2 l1_3 l1_4).bind fun bt330=>((impl_PatchDo.f k t327 bt330.1 bt330.2.1 bt330.2.2.1 bt330.2.2.2.1 bt330.2.2.2.2).bind fun bt342=>((laws_eqIntS.f k bt342.1 t323).bind fun t346=>(if t346 = true then (laws_FnExactPatchDo.j0 k l0 t323 t326 t327 bt342.1 bt342.2 (bt342.2 != t326) a1_0 l1_1 a1_2 l1_3 l1_4 bt330.1 bt330.2.1 bt330.2.2.1 bt330.2.2.2.1 bt330.2.2.2.2) else (laws_FnExactPatchDo.j0 k l0 t323 t326 t327 bt342.1 bt342.2 true a1_0 l1_1 a1_2 l1_3 l1_4 bt330.1 bt330.2.1 bt330.2.2.1 bt330.2.2.2.1 bt330.2.2.2.2)))))) = some r:=H
 have A12:=mk0 A120
 clear A120
 replace H:=Option.bind_eq_some_iff.mp H
 obtain⟨t327,A130,H⟩:=H
 replace H:((laws_toPatch.f k a1_0 l1_1 a1_2 l1_3 l1_4).bind fun bt330=>((impl_PatchDo.f k t327 bt330.1 bt330.2.1 bt330.2.2.1 bt330.2.2.2.1 bt330.2.2.2.2).bind fun bt342=>((laws_eqIntS.f k bt342.1 t323).bind fun t346=>(if t346 = true then (laws_FnExactPatchDo.j0 k l0 t323 t326 t327 bt342.1 bt342.2 (bt342.2 != t326) a1_0 l1_1 a1_2 l1_3 l1_4 bt330.1 bt330.2.1 bt330.2.2.1 bt330.2.2.2.1 bt330.2.2.2.2) else (laws_FnExactPatchDo.j0 k l0 t323 t326 t327 bt342.1 bt342.2 true a1_0 l1_1 a1_2 l1_3 l1_4 bt330.1 bt330.2.1 bt330.2.2.1 bt330.2.2.2.1 bt330.2.2.2.2))))) = some r:=H
 have A13:=mk0 A130
 clear A130
 replace H:=Option.bind_eq_some_iff.mp H
 obtain⟨⟨t330,t331,t334,t335,t338⟩,A140,H⟩:=H
 replace H:((impl_PatchDo.f k t327 t330 t331 t334 t335 t338).bind fun bt342=>((laws_eqIntS.f k bt342.1 t323).bind fun t346=>(if t346 = true then (laws_FnExactPatchDo.j0 k l0 t323 t326 t327 bt342.1 bt342.2 (bt342.2 != t326) a1_0 l1_1 a1_2 l1_3 l1_4 t330 t331 t334 t335 t338) else (laws_FnExactPatchDo.j0 k l0 t323 t326 t327 bt342.1 bt342.2 true a1_0 l1_1 a1_2 l1_3 l1_4 t330 t331 t334 t335 t338)))) = some r:=H
 have A14:=mk0 A140
 clear A140
 replace H:=Option.bind_eq_some_iff.mp H
 obtain⟨⟨t342,t345⟩,A150,H⟩:=H
 replace H:((laws_eqIntS.f k t342 t323).bind fun t346=>(if t346 = true then (laws_FnExactPatchDo.j0 k l0 t323 t326 t327 t342 t345 (t345 != t326) a1_0 l1_1 a1_2 l1_3 l1_4 t330 t331 t334 t335 t338) else (laws_FnExactPatchDo.j0 k l0 t323 t326 t327 t342 t345 true a1_0 l1_1 a1_2 l1_3 l1_4 t330 t331 t334 t335 t338))) = some r:=H
 have A15:=mk0 A150
 clear A150
 have HC16:=mk0 H
 clear H
 go_enter Try.func4,Try.ntmps4
 try go_wp2_with (first|((with_reducible refine gate_dst (N:=3) rfl ?_);refine box_event ?hg (N:=3) ?hd (cs:=#[.int .i64 a1_0,.slice A1_1 l1_1.length c1_1,.int .i64 a1_2,.slice A1_3 l1_3.length c1_3,.slice A1_4 l1_4.length c1_4]) (t:=37) ?hr ?_;(case hd=>rfl);(case hg=>rfl);(case hr=>first|(go_simp;done)|(go_simp;rfl));intro gb307 hg w17 hbox hb;have n0_:=mk0 (below_step (by repeat (first|(with_reducible first|exact HB.out|apply aZ|apply nZ|apply dZ)|exact HB.out)) hb);have n1_:=mk0 (hbox);have n2_:=mk0 ((by rw [hg];exact (below_size (by repeat (first|(with_reducible first|exact HB.out|apply aZ|apply nZ|apply dZ)|exact HB.out))):w.heap.size ≤ gb307));have n3_:=mk0 ((by rw [hg];exact (below_size (by repeat (first|(with_reducible first|exact HB.out|apply aZ|apply nZ|apply dZ)|exact HB.out))):w.heap.size ≤ gb307));clear HB;have HB:=n0_;have BK307:=n1_;have GW307:=n2_;have GE307:=n3_;clear n0_ n1_ n2_ n3_ hb hbox hg;have hcz18_0:w17.cell? ⟨gb307,0,none⟩ = some (.int .i64 a1_0):=(blk_cell BK307.out 0).trans rfl;have hcz18_1:w17.cell? ⟨gb307,1,none⟩ = some (.slice A1_1 l1_1.length c1_1):=(blk_cell BK307.out 1).trans rfl;have hcz18_2:w17.cell? ⟨gb307,2,none⟩ = some (.int .i64 a1_2):=(blk_cell BK307.out 2).trans rfl;have hcz18_3:w17.cell? ⟨gb307,3,none⟩ = some (.slice A1_3 l1_3.length c1_3):=(blk_cell BK307.out 3).trans rfl;have hcz18_4:w17.cell? ⟨gb307,4,none⟩ = some (.slice A1_4 l1_4.length c1_4):=(blk_cell BK307.out 4).trans rfl;have hfz18_0:=blk_frozen BK307.out 0;have hfz18_1:=blk_frozen BK307.out 1;have hfz18_2:=blk_frozen BK307.out 2;have hfz18_3:=blk_frozen BK307.out 3;have hfz18_4:=blk_frozen BK307.out 4)|((with_reducible refine gate_callee (f:=14) rfl ?_);refine goesL_ (some 22) rfl rfl Try.func14 (by kernel_rfl) rfl #[.agg #[.int .i64 a1_0,.slice A1_1 l1_1.length c1_1,.int .i64 a1_2,.slice A1_3 l1_3.length c1_3,.slice A1_4 l1_4.length c1_4],.int .i64 1048576] rfl (by (try simp only [mA,mC,mN]);first|done|rfl|(simp only [List.length_drop,List.length_take];rfl)) ?_;(with_reducible refine (laws_szPatch.calls a1_0 _ _ l1_1 a1_2 _ _ l1_3 _ _ l1_4 1048576 t308 _ ?side1 ?side2 ?side3 ?side4 ?side5 ?side6 A5.out).mono ?_);(case side1=>repeat (first|exact (Kd.C_below HR1_1.out HB.out)|(with_reducible first|apply aC|apply nC|apply dC)));(case side2=>exact HC1_1.out);(case side3=>repeat (first|exact (Kd.C_below HR1_3.out HB.out)|(with_reducible first|apply aC|apply nC|apply dC)));(case side4=>exact HC1_3.out);(case side5=>repeat (first|exact (Kd.C_below HR1_4.out HB.out)|(with_reducible first|apply aC|apply nC|apply dC)));(case side6=>exact HC1_4.out);rintro e w19 ⟨rfl,hb⟩;refine⟨_,rfl,?_⟩;have n0_:=mk0 (blk_below (g:=gb307) (o:=.cells #[.int .i64 a1_0,.slice A1_1 l1_1.length c1_1,.int .i64 a1_2,.slice A1_3 l1_3.length c1_3,.slice A1_4 l1_4.length c1_4] 37 (0,0)) (by (with_reducible repeat (first|apply nB|apply dB|apply aB));exact BK307.out) hb);have n1_:=mk0 (below_step (by repeat (first|(with_reducible first|exact HB.out|apply aZ|apply nZ|apply dZ|refine sZ ?_ GE307.out)|exact HB.out)) hb);clear BK307 HB;have BK307:=n0_;have HB:=n1_;clear n0_ n1_;(try clear hb);(try clear hb2);(try clear hk);(try clear hi)))
 have n0_:=mk0 (dB BK307.out)
 have n1_:=mk0 (dZ HB.out)
 clear BK307
 clear HB
 have BK307:=n0_
 have HB:=n1_
 clear n0_ n1_
 refine start_ (n:=10) (S:=fun w'=>w'.cell? ⟨gb307,0,none⟩ = some (.int .i64 a1_0) ∧ w'.cell? ⟨gb307,1,none⟩ = some (.slice A1_1 l1_1.length c1_1) ∧ w'.cell? ⟨gb307,2,none⟩ = some (.int .i64 a1_2) ∧ w'.cell? ⟨gb307,3,none⟩ = some (.slice A1_3 l1_3.length c1_3) ∧ w'.cell? ⟨gb307,4,none⟩ = some (.slice A1_4 l1_4.length c1_4)) (ds:=[]) laws_FnExactPatchDo.m0 (by kernel_rfl) rfl rfl ⟨(blk_cell BK307.out 0).trans rfl,(blk_cell BK307.out 1).trans rfl,(blk_cell BK307.out 2).trans rfl,(blk_cell BK307.out 3).trans rfl,(blk_cell BK307.out 4).trans rfl⟩ (fun hHeld=>?_);refine with_tabW laws_FnExactPatchDo.tab7 laws_FnExactPatchDo.bits7 (fun HT_ HW_=>?_)
 generalize w19.drew = w20 at BK307 HB hHeld ⊢
 refine pure_ (i:=0) (N:=some 26) (v:=?_) (a':=?_) laws_FnExactPatchDo.m1 rfl rfl (any_of HT_.out (by kernel_rfl)) (fun _ _ _ h=>h) (Or.inl ⟨by rfl,?_⟩) ?_ ?_
 rotate_left
 ·intro w'
  go_simp
  with_reducible rfl
 rotate_left
 ·simp only [Act.put,sA,sO,sS,i64_w,i32_w]
  rfl
 refine take_ (i:=2) (N:=some 28) (v:=?_) (a':=?_) laws_FnExactPatchDo.m2 rfl rfl (take_ofW HT_.out HW_.out (by kernel_rfl)) (fun _ _ _ h=>h) (Or.inl ⟨by rfl,?_⟩) hHeld ?_ ?_
 rotate_left
 ·rintro w' ⟨s0,s1,s2,s3,s4⟩
  go_simp
  with_reducible rfl
 rotate_left
 ·simp only [Act.put,sA,sO,sS,i64_w,i32_w]
  rfl
 refine one_ (i:=1) (N:=some 27) laws_FnExactPatchDo.m3 rfl rfl (one_of HT_.out (by kernel_rfl)) (by decide) (fun K hK=>?_)
 refine goes_ Try.func7 (by kernel_rfl) rfl #[.slice A0 l0.length c0] (by rfl) rfl rfl (by (try simp only [mA,mC,mN]);first|done|rfl|(simp only [List.length_drop,List.length_take];rfl)) ?_
 with_reducible refine (laws_toIntS.calls k _ _ l0 t309 _ ?side1 ?side2 A10.out).mono ?_
 (case side1=>repeat (first|exact (Kd.C_below HR0.out HB.out)|(with_reducible first|apply aC|apply nC|apply dC)))
 (case side2=>exact HC0.out)
 rintro e w21 ⟨v310,rfl,ho0,hb⟩
 refine⟨_,rfl,?_⟩
 have n0_:=mk0 (Kd.R_lower ho0 (below_size (by repeat (first|(with_reducible first|exact HB.out|apply aZ|apply nZ|apply dZ|refine sZ ?_ GE307.out)|exact HB.out))))
 have n1_:=mk0 (blk_below (g:=gb307) (o:=.cells #[.int .i64 a1_0,.slice A1_1 l1_1.length c1_1,.int .i64 a1_2,.slice A1_3 l1_3.length c1_3,.slice A1_4 l1_4.length c1_4] 37 (0,0)) (by (with_reducible repeat (first|apply nB|apply dB|apply aB));exact BK307.out) hb)
 have n2_:=mk0 (below_step (by repeat (first|(with_reducible first|exact HB.out|apply aZ|apply nZ|apply dZ|refine sZ ?_ GE307.out)|exact HB.out)) hb)
 clear BK307
 clear HB
 have HO311:=n0_
 have BK307:=n1_
 have HB:=n2_
 clear n0_ n1_ n2_
 (try clear hb)
 (try clear hb2)
 (try clear hk)
 (try clear hi)
 (try clear ho0)
 refine hK.out _ _ ⟨(blk_cell BK307.out 0).trans rfl,(blk_cell BK307.out 1).trans rfl,(blk_cell BK307.out 2).trans rfl,(blk_cell BK307.out 3).trans rfl,(blk_cell BK307.out 4).trans rfl⟩ (fun hHeld=>?_)
 clear hK K
 refine norm_ (a':=?_) ?_ ?_
 rotate_left
 ·show Act.put _ (some 27) _ = _
  simp only [Act.put,sA,sO,sS,i64_w,i32_w]
  rfl
 refine one_ (i:=3) (N:=some 29) laws_FnExactPatchDo.m4 rfl rfl (one_of HT_.out (by kernel_rfl)) (by decide) (fun K hK=>?_)
 refine goes_ Try.func16 (by kernel_rfl) rfl #[.agg #[.int .i64 a1_0,.slice A1_1 l1_1.length c1_1,.int .i64 a1_2,.slice A1_3 l1_3.length c1_3,.slice A1_4 l1_4.length c1_4]] (by rfl) rfl rfl (by (try simp only [mA,mC,mN]);first|done|rfl|(simp only [List.length_drop,List.length_take];rfl)) ?_
 with_reducible refine (laws_toPatch.calls k a1_0 _ _ l1_1 a1_2 _ _ l1_3 _ _ l1_4 t312 t313 t316 t317 t320 _ ?side1 ?side2 ?side3 ?side4 ?side5 ?side6 A11.out).mono ?_
 (case side1=>repeat (first|exact (Kd.C_below HR1_1.out HB.out)|(with_reducible first|apply aC|apply nC|apply dC)))
 (case side2=>exact HC1_1.out)
 (case side3=>repeat (first|exact (Kd.C_below HR1_3.out HB.out)|(with_reducible first|apply aC|apply nC|apply dC)))
 (case side4=>exact HC1_3.out)
 (case side5=>repeat (first|exact (Kd.C_below HR1_4.out HB.out)|(with_reducible first|apply aC|apply nC|apply dC)))
 (case side6=>exact HC1_4.out)
 rintro e w22 ⟨v314,v318,v321,rfl,ho0,ho1,ho2,hb⟩
 refine⟨_,rfl,?_⟩
 have n0_:=mk0 (Kd.R_elder' (by (with_reducible repeat (first|apply aR|apply nR|apply dR));exact HO311.out) (Kd.R_base ho2) hb)
 have n1_:=mk0 (Kd.R_lower ho0 (below_size (by repeat (first|(with_reducible first|exact HB.out|apply aZ|apply nZ|apply dZ|refine sZ ?_ GE307.out)|exact HB.out))))
 have n2_:=mk0 (Kd.R_lower ho1 (below_size (by repeat (first|(with_reducible first|exact HB.out|apply aZ|apply nZ|apply dZ|refine sZ ?_ GE307.out)|exact HB.out))))
 have n3_:=mk0 (Kd.R_lower (Kd.R_new' ho2 (Kd.R_lt (by (with_reducible repeat (first|apply aR|apply nR|apply dR));exact HO311.out))) (below_size (by repeat (first|(with_reducible first|exact HB.out|apply aZ|apply nZ|apply dZ|refine sZ ?_ GE307.out)|exact HB.out))))
 have n4_:=mk0 (blk_below (g:=gb307) (o:=.cells #[.int .i64 a1_0,.slice A1_1 l1_1.length c1_1,.int .i64 a1_2,.slice A1_3 l1_3.length c1_3,.slice A1_4 l1_4.length c1_4] 37 (0,0)) (by (with_reducible repeat (first|apply nB|apply dB|apply aB));exact BK307.out) hb)
 have n5_:=mk0 (below_step (by repeat (first|(with_reducible first|exact HB.out|apply aZ|apply nZ|apply dZ|refine sZ ?_ GE307.out)|exact HB.out)) hb)
 clear HO311
 clear BK307
 clear HB
 have HO311:=n0_
 have HO315:=n1_
 have HO319:=n2_
 have HO322:=n3_
 have BK307:=n4_
 have HB:=n5_
 clear n0_ n1_ n2_ n3_ n4_ n5_
 (try clear hb)
 (try clear hb2)
 (try clear hk)
 (try clear hi)
 (try clear ho0)
 (try clear ho1)
 (try clear ho2)
 obtain⟨Ao23,co23,eo23⟩:=Kd.R_slice HO311.out
 (first|subst eo23|(injection eo23 with f1_ f2_ f3_;have f4_:=f1_.symm;have f5_:=f3_.symm;clear f1_ f2_ f3_;subst f4_;subst f5_))
 obtain⟨Ao24,co24,eo24⟩:=Kd.R_slice HO315.out
 (first|subst eo24|(injection eo24 with f1_ f2_ f3_;have f4_:=f1_.symm;have f5_:=f3_.symm;clear f1_ f2_ f3_;subst f4_;subst f5_))
 obtain⟨Ao25,co25,eo25⟩:=Kd.R_slice HO319.out
 (first|subst eo25|(injection eo25 with f1_ f2_ f3_;have f4_:=f1_.symm;have f5_:=f3_.symm;clear f1_ f2_ f3_;subst f4_;subst f5_))
 obtain⟨Ao26,co26,eo26⟩:=Kd.R_slice HO322.out
 (first|subst eo26|(injection eo26 with f1_ f2_ f3_;have f4_:=f1_.symm;have f5_:=f3_.symm;clear f1_ f2_ f3_;subst f4_;subst f5_))
 refine hK.out _ _ ⟨(blk_cell BK307.out 0).trans rfl,(blk_cell BK307.out 1).trans rfl,(blk_cell BK307.out 2).trans rfl,(blk_cell BK307.out 3).trans rfl,(blk_cell BK307.out 4).trans rfl⟩ (fun hHeld=>?_)
 clear hK K
 refine norm_ (a':=?_) ?_ ?_
 rotate_left
 ·show Act.put _ (some 29) _ = _
  simp only [Act.put,sA,sO,sS,i64_w,i32_w]
  rfl
 refine one_ (i:=4) (N:=some 30) laws_FnExactPatchDo.m5 rfl rfl (one_of HT_.out (by kernel_rfl)) (by decide) (fun K hK=>?_)
 refine goes_ Try.func15 (by kernel_rfl) rfl #[.slice Ao23 t309.length co23,.agg #[.int .i64 t312,.slice Ao24 t313.length co24,.int .i64 t316,.slice Ao25 t317.length co25,.slice Ao26 t320.length co26]] (by rfl) rfl rfl (by (try simp only [mA,mC,mN]);first|done|rfl|(simp only [List.length_drop,List.length_take];rfl)) ?_
 with_reducible refine (spec_PatchDo.calls k _ _ t309 t312 _ _ t313 t316 _ _ t317 _ _ t320 t323 t326 _ ?side1 ?side2 ?side3 ?side4 ?side5 ?side6 ?side7 ?side8 A12.out).mono ?_
 (case side1=>repeat (first|exact (Kd.R_reads' HO311.out).2.2|(with_reducible first|apply aC|apply nC|apply dC)))
 (case side2=>exact (Kd.R_reads' HO311.out).2.1)
 (case side3=>repeat (first|exact (Kd.R_reads' HO315.out).2.2|(with_reducible first|apply aC|apply nC|apply dC)))
 (case side4=>exact (Kd.R_reads' HO315.out).2.1)
 (case side5=>repeat (first|exact (Kd.R_reads' HO319.out).2.2|(with_reducible first|apply aC|apply nC|apply dC)))
 (case side6=>exact (Kd.R_reads' HO319.out).2.1)
 (case side7=>repeat (first|exact (Kd.R_reads' HO322.out).2.2|(with_reducible first|apply aC|apply nC|apply dC)))
 (case side8=>exact (Kd.R_reads' HO322.out).2.1)
 rintro e w27 ⟨v324,rfl,ho0,hb⟩
 refine⟨_,rfl,?_⟩
 have n0_:=mk0 (Kd.R_elder' (by (with_reducible repeat (first|apply aR|apply nR|apply dR));exact HO311.out) (Kd.R_base ho0) hb)
 have n1_:=mk0 (Kd.R_below (by (with_reducible repeat (first|apply aR|apply nR|apply dR));exact HO315.out) hb)
 have n2_:=mk0 (Kd.R_below (by (with_reducible repeat (first|apply aR|apply nR|apply dR));exact HO319.out) hb)
 have n3_:=mk0 (Kd.R_elder' (by (with_reducible repeat (first|apply aR|apply nR|apply dR));exact HO322.out) (Kd.R_base ho0) hb)
 have n4_:=mk0 (Kd.R_lower (Kd.R_new' (Kd.R_new' ho0 (Kd.R_lt (by (with_reducible repeat (first|apply aR|apply nR|apply dR));exact HO311.out))) (Kd.R_lt (by (with_reducible repeat (first|apply aR|apply nR|apply dR));exact HO322.out))) (below_size (by repeat (first|(with_reducible first|exact HB.out|apply aZ|apply nZ|apply dZ|refine sZ ?_ GE307.out)|exact HB.out))))
 have n5_:=mk0 (blk_below (g:=gb307) (o:=.cells #[.int .i64 a1_0,.slice A1_1 l1_1.length c1_1,.int .i64 a1_2,.slice A1_3 l1_3.length c1_3,.slice A1_4 l1_4.length c1_4] 37 (0,0)) (by (with_reducible repeat (first|apply nB|apply dB|apply aB));exact BK307.out) hb)
 have n6_:=mk0 (below_step (by repeat (first|(with_reducible first|exact HB.out|apply aZ|apply nZ|apply dZ|refine sZ ?_ GE307.out)|exact HB.out)) hb)
 clear HO311
 clear HO315
 clear HO319
 clear HO322
 clear BK307
 clear HB
 have HO311:=n0_
 have HO315:=n1_
 have HO319:=n2_
 have HO322:=n3_
 have HO325:=n4_
 have BK307:=n5_
 have HB:=n6_
 clear n0_ n1_ n2_ n3_ n4_ n5_ n6_
 (try clear hb)
 (try clear hb2)
 (try clear hk)
 (try clear hi)
 (try clear ho0)
 refine hK.out _ _ ⟨(blk_cell BK307.out 0).trans rfl,(blk_cell BK307.out 1).trans rfl,(blk_cell BK307.out 2).trans rfl,(blk_cell BK307.out 3).trans rfl,(blk_cell BK307.out 4).trans rfl⟩ (fun hHeld=>?_)
 clear hK K
 refine norm_ (a':=?_) ?_ ?_
 rotate_left
 ·show Act.put _ (some 30) _ = _
  simp only [Act.put,sA,sO,sS,i64_w,i32_w]
  rfl
 refine pure_ (i:=5) (N:=some 25) (v:=?_) (a':=?_) laws_FnExactPatchDo.m6 rfl rfl (any_of HT_.out (by kernel_rfl)) (fun _ _ _ h=>h) (Or.inl ⟨by rfl,?_⟩) ?_ ?_
 rotate_left
 ·intro w'
  go_simp
  with_reducible rfl
 rotate_left
 ·simp only [Act.put,sA,sO,sS,i64_w,i32_w]
  rfl
 refine pure_ (i:=6) (N:=some 31) (v:=?_) (a':=?_) laws_FnExactPatchDo.m7 rfl rfl (any_of HT_.out (by kernel_rfl)) (fun _ _ _ h=>h) (Or.inl ⟨by rfl,?_⟩) ?_ ?_
 rotate_left
 ·intro w'
  go_simp
  with_reducible rfl
 rotate_left
 ·simp only [Act.put,sA,sO,sS,i64_w,i32_w]
  rfl
 refine pure_ (i:=7) (N:=some 32) (v:=?_) (a':=?_) laws_FnExactPatchDo.m8 rfl rfl (any_of HT_.out (by kernel_rfl)) (fun _ _ _ h=>h) (Or.inl ⟨by rfl,?_⟩) ?_ ?_
 rotate_left
 ·intro w'
  go_simp
  with_reducible rfl
 rotate_left
 ·simp only [Act.put,sA,sO,sS,i64_w,i32_w]
  rfl
 refine pure_ (i:=8) (N:=some 6) (v:=?_) (a':=?_) laws_FnExactPatchDo.m9 rfl rfl (any_of HT_.out (by kernel_rfl)) (fun _ _ _ h=>h) (Or.inl ⟨by rfl,?_⟩) ?_ ?_
 rotate_left
 ·intro w'
  go_simp
  with_reducible rfl
 rotate_left
 ·simp only [Act.put,sA,sO,sS,i64_w,i32_w]
  rfl
 refine pure_ (i:=9) (N:=some 7) (v:=?_) (a':=?_) laws_FnExactPatchDo.m10 rfl rfl (any_of HT_.out (by kernel_rfl)) (fun _ _ _ h=>h) (Or.inl ⟨by rfl,?_⟩) ?_ ?_
 rotate_left
 ·intro w'
  go_simp
  with_reducible rfl
 rotate_left
 ·simp only [Act.put,sA,sO,sS,i64_w,i32_w]
  rfl
 refine done_ (done_of HT_.out (by kernel_rfl)) ?_
 go_upto_region 11 with (first|((with_reducible refine gate_callee (f:=7) rfl ?_);refine goesL_ (some 34) rfl rfl Try.func7 (by kernel_rfl) rfl #[.slice A0 l0.length c0] rfl (by (try simp only [mA,mC,mN]);first|done|rfl|(simp only [List.length_drop,List.length_take];rfl)) ?_;(with_reducible refine (laws_toIntS.calls k _ _ l0 t327 _ ?side1 ?side2 A13.out).mono ?_);(case side1=>repeat (first|exact (Kd.C_below HR0.out HB.out)|(with_reducible first|apply aC|apply nC|apply dC)));(case side2=>exact HC0.out);rintro e w28 ⟨v328,rfl,ho0,hb⟩;refine⟨_,rfl,?_⟩;have n0_:=mk0 (Kd.R_elder' (by (with_reducible repeat (first|apply aR|apply nR|apply dR));exact HO311.out) (Kd.R_base ho0) hb);have n1_:=mk0 (Kd.R_below (by (with_reducible repeat (first|apply aR|apply nR|apply dR));exact HO315.out) hb);have n2_:=mk0 (Kd.R_below (by (with_reducible repeat (first|apply aR|apply nR|apply dR));exact HO319.out) hb);have n3_:=mk0 (Kd.R_elder' (by (with_reducible repeat (first|apply aR|apply nR|apply dR));exact HO322.out) (Kd.R_base ho0) hb);have n4_:=mk0 (Kd.R_elder' (by (with_reducible repeat (first|apply aR|apply nR|apply dR));exact HO325.out) (Kd.R_base ho0) hb);have n5_:=mk0 (Kd.R_lower (Kd.R_new' (Kd.R_new' (Kd.R_new' ho0 (Kd.R_lt (by (with_reducible repeat (first|apply aR|apply nR|apply dR));exact HO311.out))) (Kd.R_lt (by (with_reducible repeat (first|apply aR|apply nR|apply dR));exact HO322.out))) (Kd.R_lt (by (with_reducible repeat (first|apply aR|apply nR|apply dR));exact HO325.out))) (below_size (by repeat (first|(with_reducible first|exact HB.out|apply aZ|apply nZ|apply dZ|refine sZ ?_ GE307.out)|exact HB.out))));have n6_:=mk0 (blk_below (g:=gb307) (o:=.cells #[.int .i64 a1_0,.slice A1_1 l1_1.length c1_1,.int .i64 a1_2,.slice A1_3 l1_3.length c1_3,.slice A1_4 l1_4.length c1_4] 37 (0,0)) (by (with_reducible repeat (first|apply nB|apply dB|apply aB));exact BK307.out) hb);have n7_:=mk0 (below_step (by repeat (first|(with_reducible first|exact HB.out|apply aZ|apply nZ|apply dZ|refine sZ ?_ GE307.out)|exact HB.out)) hb);clear HO311 HO315 HO319 HO322 HO325 BK307 HB;have HO311:=n0_;have HO315:=n1_;have HO319:=n2_;have HO322:=n3_;have HO325:=n4_;have HO329:=n5_;have BK307:=n6_;have HB:=n7_;clear n0_ n1_ n2_ n3_ n4_ n5_ n6_ n7_;(try clear hb);(try clear hb2);(try clear hk);(try clear hi);(try clear ho0);have hcz29_0:w28.cell? ⟨gb307,0,none⟩ = some (.int .i64 a1_0):=(blk_cell BK307.out 0).trans rfl;have hcz29_1:w28.cell? ⟨gb307,1,none⟩ = some (.slice A1_1 l1_1.length c1_1):=(blk_cell BK307.out 1).trans rfl;have hcz29_2:w28.cell? ⟨gb307,2,none⟩ = some (.int .i64 a1_2):=(blk_cell BK307.out 2).trans rfl;have hcz29_3:w28.cell? ⟨gb307,3,none⟩ = some (.slice A1_3 l1_3.length c1_3):=(blk_cell BK307.out 3).trans rfl;have hcz29_4:w28.cell? ⟨gb307,4,none⟩ = some (.slice A1_4 l1_4.length c1_4):=(blk_cell BK307.out 4).trans rfl;have hfz29_0:=blk_frozen BK307.out 0;have hfz29_1:=blk_frozen BK307.out 1;have hfz29_2:=blk_frozen BK307.out 2;have hfz29_3:=blk_frozen BK307.out 3;have hfz29_4:=blk_frozen BK307.out 4)|((with_reducible refine gate_callee (f:=16) rfl ?_);refine goesL_ (some 36) rfl rfl Try.func16 (by kernel_rfl) rfl #[.agg #[.int .i64 a1_0,.slice A1_1 l1_1.length c1_1,.int .i64 a1_2,.slice A1_3 l1_3.length c1_3,.slice A1_4 l1_4.length c1_4]] rfl (by (try simp only [mA,mC,mN]);first|done|rfl|(simp only [List.length_drop,List.length_take];rfl)) ?_;(with_reducible refine (laws_toPatch.calls k a1_0 _ _ l1_1 a1_2 _ _ l1_3 _ _ l1_4 t330 t331 t334 t335 t338 _ ?side1 ?side2 ?side3 ?side4 ?side5 ?side6 A14.out).mono ?_);(case side1=>repeat (first|exact (Kd.C_below HR1_1.out HB.out)|(with_reducible first|apply aC|apply nC|apply dC)));(case side2=>exact HC1_1.out);(case side3=>repeat (first|exact (Kd.C_below HR1_3.out HB.out)|(with_reducible first|apply aC|apply nC|apply dC)));(case side4=>exact HC1_3.out);(case side5=>repeat (first|exact (Kd.C_below HR1_4.out HB.out)|(with_reducible first|apply aC|apply nC|apply dC)));(case side6=>exact HC1_4.out);rintro e w30 ⟨v332,v336,v339,rfl,ho0,ho1,ho2,hb⟩;refine⟨_,rfl,?_⟩;have n0_:=mk0 (Kd.R_elder' (by (with_reducible repeat (first|apply aR|apply nR|apply dR));exact HO311.out) (Kd.R_base ho2) hb);have n1_:=mk0 (Kd.R_mono (Kd.R_told (Kd.R_told (Kd.R_old (by (with_reducible repeat (first|apply aR|apply nR|apply dR));exact HO315.out) hb) (Kd.R_base ho0)) (Kd.R_base ho1)) (fun _ h_=>h_.1));have n2_:=mk0 (Kd.R_mono (Kd.R_told (Kd.R_told (Kd.R_old (by (with_reducible repeat (first|apply aR|apply nR|apply dR));exact HO319.out) hb) (Kd.R_base ho0)) (Kd.R_base ho1)) (fun _ h_=>h_.1));have n3_:=mk0 (Kd.R_elder' (by (with_reducible repeat (first|apply aR|apply nR|apply dR));exact HO322.out) (Kd.R_base ho2) hb);have n4_:=mk0 (Kd.R_elder' (by (with_reducible repeat (first|apply aR|apply nR|apply dR));exact HO325.out) (Kd.R_base ho2) hb);have n5_:=mk0 (Kd.R_elder' (by (with_reducible repeat (first|apply aR|apply nR|apply dR));exact HO329.out) (Kd.R_base ho2) hb);have n6_:=mk0 (Kd.R_lower (Kd.R_new' (Kd.R_new' ho0 (Kd.R_lt (by (with_reducible repeat (first|apply aR|apply nR|apply dR));exact HO315.out))) (Kd.R_lt (by (with_reducible repeat (first|apply aR|apply nR|apply dR));exact HO319.out))) (below_size (by repeat (first|(with_reducible first|exact HB.out|apply aZ|apply nZ|apply dZ|refine sZ ?_ GE307.out)|exact HB.out))));have n7_:=mk0 (Kd.R_lower (Kd.R_new' (Kd.R_new' ho1 (Kd.R_lt (by (with_reducible repeat (first|apply aR|apply nR|apply dR));exact HO315.out))) (Kd.R_lt (by (with_reducible repeat (first|apply aR|apply nR|apply dR));exact HO319.out))) (below_size (by repeat (first|(with_reducible first|exact HB.out|apply aZ|apply nZ|apply dZ|refine sZ ?_ GE307.out)|exact HB.out))));have n8_:=mk0 (Kd.R_lower (Kd.R_new' (Kd.R_new' (Kd.R_new' (Kd.R_new' ho2 (Kd.R_lt (by (with_reducible repeat (first|apply aR|apply nR|apply dR));exact HO311.out))) (Kd.R_lt (by (with_reducible repeat (first|apply aR|apply nR|apply dR));exact HO322.out))) (Kd.R_lt (by (with_reducible repeat (first|apply aR|apply nR|apply dR));exact HO325.out))) (Kd.R_lt (by (with_reducible repeat (first|apply aR|apply nR|apply dR));exact HO329.out))) (below_size (by repeat (first|(with_reducible first|exact HB.out|apply aZ|apply nZ|apply dZ|refine sZ ?_ GE307.out)|exact HB.out))));have n9_:=mk0 (blk_below (g:=gb307) (o:=.cells #[.int .i64 a1_0,.slice A1_1 l1_1.length c1_1,.int .i64 a1_2,.slice A1_3 l1_3.length c1_3,.slice A1_4 l1_4.length c1_4] 37 (0,0)) (by (with_reducible repeat (first|apply nB|apply dB|apply aB));exact BK307.out) hb);have n10_:=mk0 (below_step (by repeat (first|(with_reducible first|exact HB.out|apply aZ|apply nZ|apply dZ|refine sZ ?_ GE307.out)|exact HB.out)) hb);clear HO311 HO315 HO319 HO322 HO325 HO329 BK307 HB;have HO311:=n0_;have HO315:=n1_;have HO319:=n2_;have HO322:=n3_;have HO325:=n4_;have HO329:=n5_;have HO333:=n6_;have HO337:=n7_;have HO340:=n8_;have BK307:=n9_;have HB:=n10_;clear n0_ n1_ n2_ n3_ n4_ n5_ n6_ n7_ n8_ n9_ n10_;(try clear hb);(try clear hb2);(try clear hk);(try clear hi);(try clear ho0);(try clear ho1);(try clear ho2))|((with_reducible refine gate_dst (N:=9) rfl ?_);refine box_event ?hg (N:=9) ?hd (cs:=#[.int .i64 0,.slice none 0 0,.int .i64 0,.slice none 0 0,.slice none 0 0]) (t:=27) ?hr ?_;(case hd=>rfl);(case hg=>rfl);(case hr=>first|(go_simp;done)|(go_simp;rfl));intro gb341 hg w31 hbox hb;have n0_:=mk0 (Kd.R_below (by (with_reducible repeat (first|apply aR|apply nR|apply dR));exact HO311.out) hb);have n1_:=mk0 (Kd.R_below (by (with_reducible repeat (first|apply aR|apply nR|apply dR));exact HO315.out) hb);have n2_:=mk0 (Kd.R_below (by (with_reducible repeat (first|apply aR|apply nR|apply dR));exact HO319.out) hb);have n3_:=mk0 (Kd.R_below (by (with_reducible repeat (first|apply aR|apply nR|apply dR));exact HO322.out) hb);have n4_:=mk0 (Kd.R_below (by (with_reducible repeat (first|apply aR|apply nR|apply dR));exact HO325.out) hb);have n5_:=mk0 (Kd.R_below (by (with_reducible repeat (first|apply aR|apply nR|apply dR));exact HO329.out) hb);have n6_:=mk0 (Kd.R_below (by (with_reducible repeat (first|apply aR|apply nR|apply dR));exact HO333.out) hb);have n7_:=mk0 (Kd.R_below (by (with_reducible repeat (first|apply aR|apply nR|apply dR));exact HO337.out) hb);have n8_:=mk0 (Kd.R_below (by (with_reducible repeat (first|apply aR|apply nR|apply dR));exact HO340.out) hb);have n9_:=mk0 (blk_below (g:=gb307) (o:=.cells #[.int .i64 a1_0,.slice A1_1 l1_1.length c1_1,.int .i64 a1_2,.slice A1_3 l1_3.length c1_3,.slice A1_4 l1_4.length c1_4] 37 (0,0)) (by (with_reducible repeat (first|apply nB|apply dB|apply aB));exact BK307.out) hb);have n10_:=mk0 (below_step (by repeat (first|(with_reducible first|exact HB.out|apply aZ|apply nZ|apply dZ|refine sZ ?_ GE307.out)|exact HB.out)) hb);have n11_:=mk0 (hbox);have n12_:=mk0 ((by rw [hg];exact (below_size (by repeat (first|(with_reducible first|exact HB.out|apply aZ|apply nZ|apply dZ|refine sZ ?_ GE307.out)|exact HB.out))):w.heap.size ≤ gb341));have n13_:=mk0 ((by rw [hg];exact (below_size (by repeat (first|(with_reducible first|exact HB.out|apply aZ|apply nZ|apply dZ|refine sZ ?_ GE307.out)|exact HB.out))):w.heap.size ≤ gb341));have n14_:=mk0 ((by rw [hg];exact Nat.ne_of_lt (blk_lt (g:=gb307) (o:=.cells #[.int .i64 a1_0,.slice A1_1 l1_1.length c1_1,.int .i64 a1_2,.slice A1_3 l1_3.length c1_3,.slice A1_4 l1_4.length c1_4] 37 (0,0)) (by (with_reducible repeat (first|apply nB|apply dB|apply aB));exact BK307.out)):gb307 ≠ gb341));have n15_:=mk0 ((by rw [hg];exact Nat.ne_of_gt (blk_lt (g:=gb307) (o:=.cells #[.int .i64 a1_0,.slice A1_1 l1_1.length c1_1,.int .i64 a1_2,.slice A1_3 l1_3.length c1_3,.slice A1_4 l1_4.length c1_4] 37 (0,0)) (by (with_reducible repeat (first|apply nB|apply dB|apply aB));exact BK307.out)):gb341 ≠ gb307));clear HO311 HO315 HO319 HO322 HO325 HO329 HO333 HO337 HO340 BK307 HB;have HO311:=n0_;have HO315:=n1_;have HO319:=n2_;have HO322:=n3_;have HO325:=n4_;have HO329:=n5_;have HO333:=n6_;have HO337:=n7_;have HO340:=n8_;have BK307:=n9_;have HB:=n10_;have BK341:=n11_;have GW341:=n12_;have GE341:=n13_;have NB307_341:=n14_;have NB341_307:=n15_;clear n0_ n1_ n2_ n3_ n4_ n5_ n6_ n7_ n8_ n9_ n10_ n11_ n12_ n13_ n14_ n15_ hb hbox hg;have hnb32:=NB341_307.out;have hnc32:=NB307_341.out;have hcz33_0:w31.cell? ⟨gb341,0,none⟩ = some (.int .i64 0):=(blk_cell BK341.out 0).trans rfl;have hcz33_1:w31.cell? ⟨gb341,1,none⟩ = some (.slice none 0 0):=(blk_cell BK341.out 1).trans rfl;have hcz33_2:w31.cell? ⟨gb341,2,none⟩ = some (.int .i64 0):=(blk_cell BK341.out 2).trans rfl;have hcz33_3:w31.cell? ⟨gb341,3,none⟩ = some (.slice none 0 0):=(blk_cell BK341.out 3).trans rfl;have hcz33_4:w31.cell? ⟨gb341,4,none⟩ = some (.slice none 0 0):=(blk_cell BK341.out 4).trans rfl;have hfz33_0:=blk_frozen BK341.out 0;have hfz33_1:=blk_frozen BK341.out 1;have hfz33_2:=blk_frozen BK341.out 2;have hfz33_3:=blk_frozen BK341.out 3;have hfz33_4:=blk_frozen BK341.out 4;obtain⟨Ao34,co34,eo34⟩:=Kd.R_slice HO333.out;subst eo34;obtain⟨Ao35,co35,eo35⟩:=Kd.R_slice HO337.out;subst eo35;obtain⟨Ao36,co36,eo36⟩:=Kd.R_slice HO340.out;subst eo36)|((with_reducible refine gate_store (t:=27) (p:=9) rfl ?_);refine store_event (t:=27) (p:=9) (v:=?vo_w37) (w1:=(((((w31.setCell ⟨gb341,0,none⟩ (.int .i64 t330)).setCell ⟨gb341,1,none⟩ (.slice Ao34 t331.length co34)).setCell ⟨gb341,2,none⟩ (.int .i64 t334)).setCell ⟨gb341,3,none⟩ (.slice Ao35 t335.length co35)).setCell ⟨gb341,4,none⟩ (.slice Ao36 t338.length co36))) ?hg ?ho ?hn ?hr ?_;(case ho=>rfl);(case hg=>rfl);(case hn=>rfl);(case hr=>first|(go_simp;done)|(go_simp;rfl));intro w37 hw;have n0_:Aside0 (Kd.R (Kd.int .i64) 3 w37 w.heap.size (fun k_=>some k_ ≠ (.slice Ao26 t320.length co26:Value).ownBlock ∧ some k_ ≠ (v324:Value).ownBlock ∧ some k_ ≠ (v328:Value).ownBlock ∧ some k_ ≠ (.slice Ao36 t338.length co36:Value).ownBlock) (.slice Ao23 t309.length co23) t309):=⟨(by rw [hw];exact (by (with_reducible repeat (first|apply aR|apply nR|apply dR));exact Kd.R_mono (Kd.R_far (p:=⟨gb341,4,none⟩) (Kd.R_far (p:=⟨gb341,3,none⟩) (Kd.R_far (p:=⟨gb341,2,none⟩) (Kd.R_far (p:=⟨gb341,1,none⟩) (Kd.R_far (p:=⟨gb341,0,none⟩) (Kd.R_types HO311.out BK341.out (by decide)) (by first|exact fun _ hk=>hk.2|(intro k_ hk;simp only [hk,ne_eq,and_self,not_false_eq_true])) (.int .i64 t330)) (by first|exact fun _ hk=>hk.2|(intro k_ hk;simp only [hk,ne_eq,and_self,not_false_eq_true])) (.slice Ao34 t331.length co34)) (by first|exact fun _ hk=>hk.2|(intro k_ hk;simp only [hk,ne_eq,and_self,not_false_eq_true])) (.int .i64 t334)) (by first|exact fun _ hk=>hk.2|(intro k_ hk;simp only [hk,ne_eq,and_self,not_false_eq_true])) (.slice Ao35 t335.length co35)) (by first|exact fun _ hk=>hk.2|(intro k_ hk;simp only [hk,ne_eq,and_self,not_false_eq_true])) (.slice Ao36 t338.length co36)) (fun _ hk=>⟨hk.1.1.1.1.2,⟨hk.1.1.1.2,⟨hk.1.1.2,hk.1.2⟩⟩⟩)))⟩;have n1_:Aside0 (Kd.R (Kd.int .u64) 77 w37 w.heap.size (fun k_=>some k_ ≠ (.slice Ao25 t317.length co25:Value).ownBlock ∧ some k_ ≠ (.slice Ao34 t331.length co34:Value).ownBlock ∧ some k_ ≠ (.slice Ao35 t335.length co35:Value).ownBlock) (.slice Ao24 t313.length co24) t313):=⟨(by rw [hw];exact (by (with_reducible repeat (first|apply aR|apply nR|apply dR));exact Kd.R_mono (Kd.R_far (p:=⟨gb341,4,none⟩) (Kd.R_far (p:=⟨gb341,3,none⟩) (Kd.R_far (p:=⟨gb341,2,none⟩) (Kd.R_far (p:=⟨gb341,1,none⟩) (Kd.R_far (p:=⟨gb341,0,none⟩) (Kd.R_types HO315.out BK341.out (by decide)) (by first|exact fun _ hk=>hk.2|(intro k_ hk;simp only [hk,ne_eq,and_self,not_false_eq_true])) (.int .i64 t330)) (by first|exact fun _ hk=>hk.2|(intro k_ hk;simp only [hk,ne_eq,and_self,not_false_eq_true])) (.slice Ao34 t331.length co34)) (by first|exact fun _ hk=>hk.2|(intro k_ hk;simp only [hk,ne_eq,and_self,not_false_eq_true])) (.int .i64 t334)) (by first|exact fun _ hk=>hk.2|(intro k_ hk;simp only [hk,ne_eq,and_self,not_false_eq_true])) (.slice Ao35 t335.length co35)) (by first|exact fun _ hk=>hk.2|(intro k_ hk;simp only [hk,ne_eq,and_self,not_false_eq_true])) (.slice Ao36 t338.length co36)) (fun _ hk=>⟨hk.1.1.1,⟨hk.1.1.2,hk.1.2⟩⟩)))⟩;have n2_:Aside0 (Kd.R (Kd.int .u64) 77 w37 w.heap.size (fun k_=>some k_ ≠ (.slice Ao24 t313.length co24:Value).ownBlock ∧ some k_ ≠ (.slice Ao34 t331.length co34:Value).ownBlock ∧ some k_ ≠ (.slice Ao35 t335.length co35:Value).ownBlock) (.slice Ao25 t317.length co25) t317):=⟨(by rw [hw];exact (by (with_reducible repeat (first|apply aR|apply nR|apply dR));exact Kd.R_mono (Kd.R_far (p:=⟨gb341,4,none⟩) (Kd.R_far (p:=⟨gb341,3,none⟩) (Kd.R_far (p:=⟨gb341,2,none⟩) (Kd.R_far (p:=⟨gb341,1,none⟩) (Kd.R_far (p:=⟨gb341,0,none⟩) (Kd.R_types HO319.out BK341.out (by decide)) (by first|exact fun _ hk=>hk.2|(intro k_ hk;simp only [hk,ne_eq,and_self,not_false_eq_true])) (.int .i64 t330)) (by first|exact fun _ hk=>hk.2|(intro k_ hk;simp only [hk,ne_eq,and_self,not_false_eq_true])) (.slice Ao34 t331.length co34)) (by first|exact fun _ hk=>hk.2|(intro k_ hk;simp only [hk,ne_eq,and_self,not_false_eq_true])) (.int .i64 t334)) (by first|exact fun _ hk=>hk.2|(intro k_ hk;simp only [hk,ne_eq,and_self,not_false_eq_true])) (.slice Ao35 t335.length co35)) (by first|exact fun _ hk=>hk.2|(intro k_ hk;simp only [hk,ne_eq,and_self,not_false_eq_true])) (.slice Ao36 t338.length co36)) (fun _ hk=>⟨hk.1.1.1,⟨hk.1.1.2,hk.1.2⟩⟩)))⟩;have n3_:Aside0 (Kd.R (Kd.int .i64) 3 w37 w.heap.size (fun k_=>some k_ ≠ (.slice Ao23 t309.length co23:Value).ownBlock ∧ some k_ ≠ (v324:Value).ownBlock ∧ some k_ ≠ (v328:Value).ownBlock ∧ some k_ ≠ (.slice Ao36 t338.length co36:Value).ownBlock) (.slice Ao26 t320.length co26) t320):=⟨(by rw [hw];exact (by (with_reducible repeat (first|apply aR|apply nR|apply dR));exact Kd.R_mono (Kd.R_far (p:=⟨gb341,4,none⟩) (Kd.R_far (p:=⟨gb341,3,none⟩) (Kd.R_far (p:=⟨gb341,2,none⟩) (Kd.R_far (p:=⟨gb341,1,none⟩) (Kd.R_far (p:=⟨gb341,0,none⟩) (Kd.R_types HO322.out BK341.out (by decide)) (by first|exact fun _ hk=>hk.2|(intro k_ hk;simp only [hk,ne_eq,and_self,not_false_eq_true])) (.int .i64 t330)) (by first|exact fun _ hk=>hk.2|(intro k_ hk;simp only [hk,ne_eq,and_self,not_false_eq_true])) (.slice Ao34 t331.length co34)) (by first|exact fun _ hk=>hk.2|(intro k_ hk;simp only [hk,ne_eq,and_self,not_false_eq_true])) (.int .i64 t334)) (by first|exact fun _ hk=>hk.2|(intro k_ hk;simp only [hk,ne_eq,and_self,not_false_eq_true])) (.slice Ao35 t335.length co35)) (by first|exact fun _ hk=>hk.2|(intro k_ hk;simp only [hk,ne_eq,and_self,not_false_eq_true])) (.slice Ao36 t338.length co36)) (fun _ hk=>⟨hk.1.1.1.1.2,⟨hk.1.1.1.2,⟨hk.1.1.2,hk.1.2⟩⟩⟩)))⟩;have n4_:Aside0 (Kd.R (Kd.int .i64) 3 w37 w.heap.size (fun k_=>some k_ ≠ (.slice Ao23 t309.length co23:Value).ownBlock ∧ some k_ ≠ (.slice Ao26 t320.length co26:Value).ownBlock ∧ some k_ ≠ (v328:Value).ownBlock ∧ some k_ ≠ (.slice Ao36 t338.length co36:Value).ownBlock) v324 t323):=⟨(by rw [hw];exact (by (with_reducible repeat (first|apply aR|apply nR|apply dR));exact Kd.R_mono (Kd.R_far (p:=⟨gb341,4,none⟩) (Kd.R_far (p:=⟨gb341,3,none⟩) (Kd.R_far (p:=⟨gb341,2,none⟩) (Kd.R_far (p:=⟨gb341,1,none⟩) (Kd.R_far (p:=⟨gb341,0,none⟩) (Kd.R_types HO325.out BK341.out (by decide)) (by first|exact fun _ hk=>hk.2|(intro k_ hk;simp only [hk,ne_eq,and_self,not_false_eq_true])) (.int .i64 t330)) (by first|exact fun _ hk=>hk.2|(intro k_ hk;simp only [hk,ne_eq,and_self,not_false_eq_true])) (.slice Ao34 t331.length co34)) (by first|exact fun _ hk=>hk.2|(intro k_ hk;simp only [hk,ne_eq,and_self,not_false_eq_true])) (.int .i64 t334)) (by first|exact fun _ hk=>hk.2|(intro k_ hk;simp only [hk,ne_eq,and_self,not_false_eq_true])) (.slice Ao35 t335.length co35)) (by first|exact fun _ hk=>hk.2|(intro k_ hk;simp only [hk,ne_eq,and_self,not_false_eq_true])) (.slice Ao36 t338.length co36)) (fun _ hk=>⟨hk.1.1.1.1.2,⟨hk.1.1.1.2,⟨hk.1.1.2,hk.1.2⟩⟩⟩)))⟩;have n5_:Aside0 (Kd.R (Kd.int .i64) 3 w37 w.heap.size (fun k_=>some k_ ≠ (.slice Ao23 t309.length co23:Value).ownBlock ∧ some k_ ≠ (.slice Ao26 t320.length co26:Value).ownBlock ∧ some k_ ≠ (v324:Value).ownBlock ∧ some k_ ≠ (.slice Ao36 t338.length co36:Value).ownBlock) v328 t327):=⟨(by rw [hw];exact (by (with_reducible repeat (first|apply aR|apply nR|apply dR));exact Kd.R_mono (Kd.R_far (p:=⟨gb341,4,none⟩) (Kd.R_far (p:=⟨gb341,3,none⟩) (Kd.R_far (p:=⟨gb341,2,none⟩) (Kd.R_far (p:=⟨gb341,1,none⟩) (Kd.R_far (p:=⟨gb341,0,none⟩) (Kd.R_types HO329.out BK341.out (by decide)) (by first|exact fun _ hk=>hk.2|(intro k_ hk;simp only [hk,ne_eq,and_self,not_false_eq_true])) (.int .i64 t330)) (by first|exact fun _ hk=>hk.2|(intro k_ hk;simp only [hk,ne_eq,and_self,not_false_eq_true])) (.slice Ao34 t331.length co34)) (by first|exact fun _ hk=>hk.2|(intro k_ hk;simp only [hk,ne_eq,and_self,not_false_eq_true])) (.int .i64 t334)) (by first|exact fun _ hk=>hk.2|(intro k_ hk;simp only [hk,ne_eq,and_self,not_false_eq_true])) (.slice Ao35 t335.length co35)) (by first|exact fun _ hk=>hk.2|(intro k_ hk;simp only [hk,ne_eq,and_self,not_false_eq_true])) (.slice Ao36 t338.length co36)) (fun _ hk=>⟨hk.1.1.1.1.2,⟨hk.1.1.1.2,⟨hk.1.1.2,hk.1.2⟩⟩⟩)))⟩;have n6_:Aside0 (Kd.R (Kd.int .u64) 77 w37 w.heap.size (fun k_=>some k_ ≠ (.slice Ao24 t313.length co24:Value).ownBlock ∧ some k_ ≠ (.slice Ao25 t317.length co25:Value).ownBlock ∧ some k_ ≠ (.slice Ao35 t335.length co35:Value).ownBlock) (.slice Ao34 t331.length co34) t331):=⟨(by rw [hw];exact (by (with_reducible repeat (first|apply aR|apply nR|apply dR));exact Kd.R_mono (Kd.R_far (p:=⟨gb341,4,none⟩) (Kd.R_far (p:=⟨gb341,3,none⟩) (Kd.R_far (p:=⟨gb341,2,none⟩) (Kd.R_far (p:=⟨gb341,1,none⟩) (Kd.R_far (p:=⟨gb341,0,none⟩) (Kd.R_types HO333.out BK341.out (by decide)) (by first|exact fun _ hk=>hk.2|(intro k_ hk;simp only [hk,ne_eq,and_self,not_false_eq_true])) (.int .i64 t330)) (by first|exact fun _ hk=>hk.2|(intro k_ hk;simp only [hk,ne_eq,and_self,not_false_eq_true])) (.slice Ao34 t331.length co34)) (by first|exact fun _ hk=>hk.2|(intro k_ hk;simp only [hk,ne_eq,and_self,not_false_eq_true])) (.int .i64 t334)) (by first|exact fun _ hk=>hk.2|(intro k_ hk;simp only [hk,ne_eq,and_self,not_false_eq_true])) (.slice Ao35 t335.length co35)) (by first|exact fun _ hk=>hk.2|(intro k_ hk;simp only [hk,ne_eq,and_self,not_false_eq_true])) (.slice Ao36 t338.length co36)) (fun _ hk=>⟨hk.1.1.2,⟨hk.1.2,hk.1.1.1⟩⟩)))⟩;have n7_:Aside0 (Kd.R (Kd.int .u64) 77 w37 w.heap.size (fun k_=>some k_ ≠ (.slice Ao24 t313.length co24:Value).ownBlock ∧ some k_ ≠ (.slice Ao25 t317.length co25:Value).ownBlock ∧ some k_ ≠ (.slice Ao34 t331.length co34:Value).ownBlock) (.slice Ao35 t335.length co35) t335):=⟨(by rw [hw];exact (by (with_reducible repeat (first|apply aR|apply nR|apply dR));exact Kd.R_mono (Kd.R_far (p:=⟨gb341,4,none⟩) (Kd.R_far (p:=⟨gb341,3,none⟩) (Kd.R_far (p:=⟨gb341,2,none⟩) (Kd.R_far (p:=⟨gb341,1,none⟩) (Kd.R_far (p:=⟨gb341,0,none⟩) (Kd.R_types HO337.out BK341.out (by decide)) (by first|exact fun _ hk=>hk.2|(intro k_ hk;simp only [hk,ne_eq,and_self,not_false_eq_true])) (.int .i64 t330)) (by first|exact fun _ hk=>hk.2|(intro k_ hk;simp only [hk,ne_eq,and_self,not_false_eq_true])) (.slice Ao34 t331.length co34)) (by first|exact fun _ hk=>hk.2|(intro k_ hk;simp only [hk,ne_eq,and_self,not_false_eq_true])) (.int .i64 t334)) (by first|exact fun _ hk=>hk.2|(intro k_ hk;simp only [hk,ne_eq,and_self,not_false_eq_true])) (.slice Ao35 t335.length co35)) (by first|exact fun _ hk=>hk.2|(intro k_ hk;simp only [hk,ne_eq,and_self,not_false_eq_true])) (.slice Ao36 t338.length co36)) (fun _ hk=>⟨hk.1.1.2,⟨hk.1.2,hk.1.1.1⟩⟩)))⟩;have n8_:Aside0 (Kd.R (Kd.int .i64) 3 w37 w.heap.size (fun k_=>some k_ ≠ (.slice Ao23 t309.length co23:Value).ownBlock ∧ some k_ ≠ (.slice Ao26 t320.length co26:Value).ownBlock ∧ some k_ ≠ (v324:Value).ownBlock ∧ some k_ ≠ (v328:Value).ownBlock) (.slice Ao36 t338.length co36) t338):=⟨(by rw [hw];exact (by (with_reducible repeat (first|apply aR|apply nR|apply dR));exact Kd.R_mono (Kd.R_far (p:=⟨gb341,4,none⟩) (Kd.R_far (p:=⟨gb341,3,none⟩) (Kd.R_far (p:=⟨gb341,2,none⟩) (Kd.R_far (p:=⟨gb341,1,none⟩) (Kd.R_far (p:=⟨gb341,0,none⟩) (Kd.R_types HO340.out BK341.out (by decide)) (by first|exact fun _ hk=>hk.2|(intro k_ hk;simp only [hk,ne_eq,and_self,not_false_eq_true])) (.int .i64 t330)) (by first|exact fun _ hk=>hk.2|(intro k_ hk;simp only [hk,ne_eq,and_self,not_false_eq_true])) (.slice Ao34 t331.length co34)) (by first|exact fun _ hk=>hk.2|(intro k_ hk;simp only [hk,ne_eq,and_self,not_false_eq_true])) (.int .i64 t334)) (by first|exact fun _ hk=>hk.2|(intro k_ hk;simp only [hk,ne_eq,and_self,not_false_eq_true])) (.slice Ao35 t335.length co35)) (by first|exact fun _ hk=>hk.2|(intro k_ hk;simp only [hk,ne_eq,and_self,not_false_eq_true])) (.slice Ao36 t338.length co36)) (fun _ hk=>⟨hk.1.1.1.1.2,⟨hk.1.1.1.2,⟨hk.1.1.2,hk.1.2⟩⟩⟩)))⟩;have n9_:Aside0 (w37.heap[gb307]? = some (.cells #[.int .i64 a1_0,.slice A1_1 l1_1.length c1_1,.int .i64 a1_2,.slice A1_3 l1_3.length c1_3,.slice A1_4 l1_4.length c1_4] 37 (0,0))):=⟨(by rw [hw];exact (by (with_reducible repeat (first|apply nB|apply dB|apply aB));refine blk_far ?_ NB307_341.out _;(with_reducible repeat (first|apply nB|apply dB|apply aB));refine blk_far ?_ NB307_341.out _;(with_reducible repeat (first|apply nB|apply dB|apply aB));refine blk_far ?_ NB307_341.out _;(with_reducible repeat (first|apply nB|apply dB|apply aB));refine blk_far ?_ NB307_341.out _;(with_reducible repeat (first|apply nB|apply dB|apply aB));refine blk_far ?_ NB307_341.out _;(with_reducible repeat (first|apply nB|apply dB|apply aB));exact BK307.out))⟩;have n10_:Aside0 (w37.heap[gb341]? = some (.cells #[.int .i64 t330,.slice Ao34 t331.length co34,.int .i64 t334,.slice Ao35 t335.length co35,.slice Ao36 t338.length co36] 27 (0,0))):=⟨(by rw [hw];exact (by (with_reducible repeat (first|apply nB|apply dB|apply aB));refine blk_put (cs:=#[.int .i64 t330,.slice Ao34 t331.length co34,.int .i64 t334,.slice Ao35 t335.length co35,.slice none 0 0]) ?_ 4 _ rfl;(with_reducible repeat (first|apply nB|apply dB|apply aB));refine blk_put (cs:=#[.int .i64 t330,.slice Ao34 t331.length co34,.int .i64 t334,.slice none 0 0,.slice none 0 0]) ?_ 3 _ rfl;(with_reducible repeat (first|apply nB|apply dB|apply aB));refine blk_put (cs:=#[.int .i64 t330,.slice Ao34 t331.length co34,.int .i64 0,.slice none 0 0,.slice none 0 0]) ?_ 2 _ rfl;(with_reducible repeat (first|apply nB|apply dB|apply aB));refine blk_put (cs:=#[.int .i64 t330,.slice none 0 0,.int .i64 0,.slice none 0 0,.slice none 0 0]) ?_ 1 _ rfl;(with_reducible repeat (first|apply nB|apply dB|apply aB));refine blk_put (cs:=#[.int .i64 0,.slice none 0 0,.int .i64 0,.slice none 0 0,.slice none 0 0]) ?_ 0 _ rfl;(with_reducible repeat (first|apply nB|apply dB|apply aB));exact BK341.out))⟩;have n11_:Aside0 (Below w.heap.size w w37):=⟨(by rw [hw];exact (by repeat (first|(with_reducible first|exact HB.out|apply aZ|apply nZ|apply dZ|refine sZ ?_ GE307.out|refine sZ ?_ GE341.out)|exact HB.out)))⟩;clear hw HO311 HO315 HO319 HO322 HO325 HO329 HO333 HO337 HO340 BK307 BK341 HB;have HO311:=n0_;have HO315:=n1_;have HO319:=n2_;have HO322:=n3_;have HO325:=n4_;have HO329:=n5_;have HO333:=n6_;have HO337:=n7_;have HO340:=n8_;have BK307:=n9_;have BK341:=n10_;have HB:=n11_;clear n0_ n1_ n2_ n3_ n4_ n5_ n6_ n7_ n8_ n9_ n10_ n11_;have hcz38_0:w37.cell? ⟨gb341,0,none⟩ = some (.int .i64 t330):=(blk_cell BK341.out 0).trans rfl;have hcz38_1:w37.cell? ⟨gb341,1,none⟩ = some (.slice Ao34 t331.length co34):=(blk_cell BK341.out 1).trans rfl;have hcz38_2:w37.cell? ⟨gb341,2,none⟩ = some (.int .i64 t334):=(blk_cell BK341.out 2).trans rfl;have hcz38_3:w37.cell? ⟨gb341,3,none⟩ = some (.slice Ao35 t335.length co35):=(blk_cell BK341.out 3).trans rfl;have hcz38_4:w37.cell? ⟨gb341,4,none⟩ = some (.slice Ao36 t338.length co36):=(blk_cell BK341.out 4).trans rfl;have hfz38_0:=blk_frozen BK341.out 0;have hfz38_1:=blk_frozen BK341.out 1;have hfz38_2:=blk_frozen BK341.out 2;have hfz38_3:=blk_frozen BK341.out 3;have hfz38_4:=blk_frozen BK341.out 4;obtain⟨Ao39,co39,eo39⟩:=Kd.R_slice HO329.out;subst eo39)|((with_reducible refine gate_callee (f:=17) rfl ?_);refine goesL_ (some 40) rfl rfl Try.func17 (by kernel_rfl) rfl #[.slice Ao39 t327.length co39,.agg #[.int .i64 t330,.slice Ao34 t331.length co34,.int .i64 t334,.slice Ao35 t335.length co35,.slice Ao36 t338.length co36]] rfl (by (try simp only [mA,mC,mN]);first|done|rfl|(simp only [List.length_drop,List.length_take];rfl)) ?_;(with_reducible refine (impl_PatchDo.calls k _ _ t327 t330 _ _ t331 t334 _ _ t335 (fun k_=>some k_ = (.slice Ao36 t338.length co36:Value).ownBlock) _ _ t338 t342 t345 _ ?side1 ?side2 ?side3 ?side4 ?side5 ?side6 ?side7 A15.out).mono ?_);(case side1=>repeat (first|exact (Kd.R_reads' HO329.out).2.2|(with_reducible first|apply aC|apply nC|apply dC)));(case side2=>exact (Kd.R_reads' HO329.out).2.1);(case side3=>repeat (first|exact (Kd.R_reads' HO333.out).2.2|(with_reducible first|apply aC|apply nC|apply dC)));(case side4=>exact (Kd.R_reads' HO333.out).2.1);(case side5=>repeat (first|exact (Kd.R_reads' HO337.out).2.2|(with_reducible first|apply aC|apply nC|apply dC)));(case side6=>exact (Kd.R_reads' HO337.out).2.1);(case side7=>exact Kd.R_V (Kd.R_tight rfl (Kd.R_types (Kd.R_types (Kd.R_apart' (Kd.R_apart' (Kd.R_apart' (Kd.R_apart' (HO340.out) (Kd.R_typed HO315.out) (by decide)) (Kd.R_typed HO319.out) (by decide)) (Kd.R_typed HO333.out) (by decide)) (Kd.R_typed HO337.out) (by decide)) BK307.out (by decide)) BK341.out (by decide))));rintro e w40 ⟨v343,rfl,ho0,hb⟩;refine⟨_,rfl,?_⟩;have n0_:=mk0 (Kd.R_elder' (by (with_reducible repeat (first|apply aR|apply nR|apply dR));exact HO311.out) (Kd.R_base ho0) hb);have n1_:=mk0 (Kd.R_below (by (with_reducible repeat (first|apply aR|apply nR|apply dR));exact HO315.out) hb);have n2_:=mk0 (Kd.R_below (by (with_reducible repeat (first|apply aR|apply nR|apply dR));exact HO319.out) hb);have n3_:=mk0 (Kd.R_elder' (by (with_reducible repeat (first|apply aR|apply nR|apply dR));exact HO322.out) (Kd.R_base ho0) hb);have n4_:=mk0 (Kd.R_elder' (by (with_reducible repeat (first|apply aR|apply nR|apply dR));exact HO325.out) (Kd.R_base ho0) hb);have n5_:=mk0 (Kd.R_elder' (by (with_reducible repeat (first|apply aR|apply nR|apply dR));exact HO329.out) (Kd.R_base ho0) hb);have n6_:=mk0 (Kd.R_below (by (with_reducible repeat (first|apply aR|apply nR|apply dR));exact HO333.out) hb);have n7_:=mk0 (Kd.R_below (by (with_reducible repeat (first|apply aR|apply nR|apply dR));exact HO337.out) hb);have n8_:=mk0 (Kd.R_elder' (by (with_reducible repeat (first|apply aR|apply nR|apply dR));exact HO340.out) (Kd.R_base ho0) hb);have n9_:=mk0 (Kd.R_lower (Kd.R_new' (Kd.R_new' (Kd.R_new' (Kd.R_new' (Kd.R_new' (Kd.R_mono (ok':=fun k_=>True) ho0 (fun _ hk_=>trivial)) (Kd.R_lt (by (with_reducible repeat (first|apply aR|apply nR|apply dR));exact HO311.out))) (Kd.R_lt (by (with_reducible repeat (first|apply aR|apply nR|apply dR));exact HO322.out))) (Kd.R_lt (by (with_reducible repeat (first|apply aR|apply nR|apply dR));exact HO325.out))) (Kd.R_lt (by (with_reducible repeat (first|apply aR|apply nR|apply dR));exact HO329.out))) (Kd.R_lt (by (with_reducible repeat (first|apply aR|apply nR|apply dR));exact HO340.out))) (below_size (by repeat (first|(with_reducible first|exact HB.out|apply aZ|apply nZ|apply dZ|refine sZ ?_ GE307.out|refine sZ ?_ GE341.out)|exact HB.out))));have n10_:=mk0 (blk_below (g:=gb307) (o:=.cells #[.int .i64 a1_0,.slice A1_1 l1_1.length c1_1,.int .i64 a1_2,.slice A1_3 l1_3.length c1_3,.slice A1_4 l1_4.length c1_4] 37 (0,0)) (by (with_reducible repeat (first|apply nB|apply dB|apply aB));exact BK307.out) hb);have n11_:=mk0 (blk_below (g:=gb341) (o:=.cells #[.int .i64 t330,.slice Ao34 t331.length co34,.int .i64 t334,.slice Ao35 t335.length co35,.slice Ao36 t338.length co36] 27 (0,0)) (by (with_reducible repeat (first|apply nB|apply dB|apply aB));exact BK341.out) hb);have n12_:=mk0 (below_step (by repeat (first|(with_reducible first|exact HB.out|apply aZ|apply nZ|apply dZ|refine sZ ?_ GE307.out|refine sZ ?_ GE341.out)|exact HB.out)) hb);clear HO311 HO315 HO319 HO322 HO325 HO329 HO333 HO337 HO340 BK307 BK341 HB;have HO311:=n0_;have HO315:=n1_;have HO319:=n2_;have HO322:=n3_;have HO325:=n4_;have HO329:=n5_;have HO333:=n6_;have HO337:=n7_;have HO340:=n8_;have HO344:=n9_;have BK307:=n10_;have BK341:=n11_;have HB:=n12_;clear n0_ n1_ n2_ n3_ n4_ n5_ n6_ n7_ n8_ n9_ n10_ n11_ n12_;(try clear hb);(try clear hb2);(try clear hk);(try clear hi);(try clear ho0)))
 (try simp only [Act.put,sA,sO,sS])
 go_cut [51] (fun v51 wc=>∃ (kq:Nat) (x51_15:Bool),v51 = .bool x51_15 ∧ Aside0 (laws_FnExactPatchDo.j0 kq l0 t323 t326 t327 t342 t345 x51_15 a1_0 l1_1 a1_2 l1_3 l1_4 t330 t331 t334 t335 t338 = some r) ∧ Aside0 (kq ≤ k) ∧ Aside0 (Kd.R (Kd.int .i64) 3 wc w.heap.size (fun k_=>some k_ ≠ ((.slice Ao39 t327.length co39):Value).ownBlock ∧ some k_ ≠ (v343:Value).ownBlock ∧ some k_ ≠ ((.slice Ao36 t338.length co36):Value).ownBlock) v324 t323) ∧ Aside0 (Kd.R (Kd.int .i64) 3 wc w.heap.size (fun k_=>some k_ ≠ (v324:Value).ownBlock ∧ some k_ ≠ (v343:Value).ownBlock ∧ some k_ ≠ ((.slice Ao36 t338.length co36):Value).ownBlock) (.slice Ao39 t327.length co39) t327) ∧ Aside0 (Kd.R (Kd.int .i64) 3 wc w.heap.size (fun k_=>some k_ ≠ (v324:Value).ownBlock ∧ some k_ ≠ ((.slice Ao39 t327.length co39):Value).ownBlock ∧ some k_ ≠ ((.slice Ao36 t338.length co36):Value).ownBlock) v343 t342) ∧ Aside0 (Kd.R (Kd.int .u64) 77 wc w.heap.size (fun k_=>some k_ ≠ ((.slice Ao35 t335.length co35):Value).ownBlock) (.slice Ao34 t331.length co34) t331) ∧ Aside0 (Kd.R (Kd.int .u64) 77 wc w.heap.size (fun k_=>some k_ ≠ ((.slice Ao34 t331.length co34):Value).ownBlock) (.slice Ao35 t335.length co35) t335) ∧ Aside0 (Kd.R (Kd.int .i64) 3 wc w.heap.size (fun k_=>some k_ ≠ (v324:Value).ownBlock ∧ some k_ ≠ ((.slice Ao39 t327.length co39):Value).ownBlock ∧ some k_ ≠ (v343:Value).ownBlock) (.slice Ao36 t338.length co36) t338) ∧ Aside0 (wc.heap[gb307]? = some (.cells #[.int .i64 a1_0,(.slice A1_1 l1_1.length c1_1),.int .i64 a1_2,(.slice A1_3 l1_3.length c1_3),(.slice A1_4 l1_4.length c1_4)] 37 (0,0))) ∧ Aside0 (wc.heap[gb341]? = some (.cells #[.int .i64 t330,(.slice Ao34 t331.length co34),.int .i64 t334,(.slice Ao35 t335.length co35),(.slice Ao36 t338.length co36)] 27 (0,0))) ∧ Aside0 (Below w.heap.size w wc))
 case first =>
  have H:=HC16.out
  clear HC16
  replace H:=Option.bind_eq_some_iff.mp H
  obtain⟨t346,A410,H⟩:=H
  replace H:(if t346 = true then (laws_FnExactPatchDo.j0 k l0 t323 t326 t327 t342 t345 (t345 != t326) a1_0 l1_1 a1_2 l1_3 l1_4 t330 t331 t334 t335 t338) else (laws_FnExactPatchDo.j0 k l0 t323 t326 t327 t342 t345 true a1_0 l1_1 a1_2 l1_3 l1_4 t330 t331 t334 t335 t338)) = some r:=H
  have A41:=mk0 A410
  clear A410
  by_cases c42:t346 = true
  ·subst c42
   have H1:(laws_FnExactPatchDo.j0 k l0 t323 t326 t327 t342 t345 (t345 != t326) a1_0 l1_1 a1_2 l1_3 l1_4 t330 t331 t334 t335 t338) = some r:=by rw [if_pos rfl] at H;exact H
   clear H
   have H:=H1
   clear H1
   have H':=mk0 H
   clear H
   obtain⟨Ao43,co43,eo43⟩:=Kd.R_slice HO344.out
   subst eo43
   obtain⟨Ao44,co44,eo44⟩:=Kd.R_slice HO325.out
   subst eo44
   go_wp2_with (first|((with_reducible refine gate_callee (f:=10) rfl ?_);refine goesL_ (some 45) rfl rfl Try.func10 (by kernel_rfl) rfl #[.slice Ao43 t342.length co43,.slice Ao44 t323.length co44] rfl (by (try simp only [mA,mC,mN]);first|done|rfl|(simp only [List.length_drop,List.length_take];rfl)) ?_;(with_reducible refine (laws_eqIntS.calls k _ _ t342 _ _ t323 true _ ?side1 ?side2 ?side3 ?side4 A41.out).mono ?_);(case side1=>repeat (first|exact (Kd.R_reads' HO344.out).2.2|(with_reducible first|apply aC|apply nC|apply dC)));(case side2=>exact (Kd.R_reads' HO344.out).2.1);(case side3=>repeat (first|exact (Kd.R_reads' HO325.out).2.2|(with_reducible first|apply aC|apply nC|apply dC)));(case side4=>exact (Kd.R_reads' HO325.out).2.1);rintro e w' ⟨rfl,⟨nd,rfl⟩⟩;refine⟨_,rfl,?_⟩))
   go_meet
   case rel=>exact⟨_,((t345 != t326)),(by first|rfl|(simp;done)|(simp [*];done)),H',⟨by first|omega|exact Nat.le_refl _⟩,⟨by (with_reducible repeat (first|apply aR|apply nR|apply dR));exact Kd.R_mono HO325.out (fun _ hk=>⟨hk.1.2.2.1,⟨hk.2,hk.1.2.2.2⟩⟩)⟩,⟨by (with_reducible repeat (first|apply aR|apply nR|apply dR));exact Kd.R_mono HO329.out (fun _ hk=>⟨hk.1.2.2.1,⟨hk.2,hk.1.2.2.2⟩⟩)⟩,⟨by (with_reducible repeat (first|apply aR|apply nR|apply dR));exact Kd.R_mono HO344.out (fun _ hk=>⟨hk.1.1.2,⟨hk.1.2,hk.2⟩⟩)⟩,⟨by (with_reducible repeat (first|apply aR|apply nR|apply dR));exact Kd.R_mono HO333.out (by first|exact fun _ hk=>hk.2.2|(intro k_ hk;simp only [hk,ne_eq,and_self,not_false_eq_true]))⟩,⟨by (with_reducible repeat (first|apply aR|apply nR|apply dR));exact Kd.R_mono HO337.out (by first|exact fun _ hk=>hk.2.2|(intro k_ hk;simp only [hk,ne_eq,and_self,not_false_eq_true]))⟩,⟨by (with_reducible repeat (first|apply aR|apply nR|apply dR));exact Kd.R_mono HO340.out (fun _ hk=>⟨hk.1.2.2.1,⟨hk.1.2.2.2,hk.2⟩⟩)⟩,⟨by (with_reducible repeat (first|apply nB|apply dB|apply aB));exact BK307.out⟩,⟨by (with_reducible repeat (first|apply nB|apply dB|apply aB));exact BK341.out⟩,⟨by repeat (first|(with_reducible first|exact HB.out|apply aZ|apply nZ|apply dZ|refine sZ ?_ GE307.out|refine sZ ?_ GE341.out)|exact HB.out)⟩⟩
  replace c42:=Bool.eq_false_iff.mpr c42
  subst c42
  have H1:(laws_FnExactPatchDo.j0 k l0 t323 t326 t327 t342 t345 true a1_0 l1_1 a1_2 l1_3 l1_4 t330 t331 t334 t335 t338) = some r:=by rw [if_neg (show ¬ (false = true) by decide)] at H;exact H
  clear H
  have H:=H1
  clear H1
  have H':=mk0 H
  clear H
  obtain⟨Ao45,co45,eo45⟩:=Kd.R_slice HO344.out
  subst eo45
  obtain⟨Ao46,co46,eo46⟩:=Kd.R_slice HO325.out
  subst eo46
  go_wp2_with (first|((with_reducible refine gate_callee (f:=10) rfl ?_);refine goesL_ (some 45) rfl rfl Try.func10 (by kernel_rfl) rfl #[.slice Ao45 t342.length co45,.slice Ao46 t323.length co46] rfl (by (try simp only [mA,mC,mN]);first|done|rfl|(simp only [List.length_drop,List.length_take];rfl)) ?_;(with_reducible refine (laws_eqIntS.calls k _ _ t342 _ _ t323 false _ ?side1 ?side2 ?side3 ?side4 A41.out).mono ?_);(case side1=>repeat (first|exact (Kd.R_reads' HO344.out).2.2|(with_reducible first|apply aC|apply nC|apply dC)));(case side2=>exact (Kd.R_reads' HO344.out).2.1);(case side3=>repeat (first|exact (Kd.R_reads' HO325.out).2.2|(with_reducible first|apply aC|apply nC|apply dC)));(case side4=>exact (Kd.R_reads' HO325.out).2.1);rintro e w' ⟨rfl,⟨nd,rfl⟩⟩;refine⟨_,rfl,?_⟩))
  go_meet
  case rel=>exact⟨_,(true),(by first|rfl|(simp;done)|(simp [*];done)),H',⟨by first|omega|exact Nat.le_refl _⟩,⟨by (with_reducible repeat (first|apply aR|apply nR|apply dR));exact Kd.R_mono HO325.out (fun _ hk=>⟨hk.1.2.2.1,⟨hk.2,hk.1.2.2.2⟩⟩)⟩,⟨by (with_reducible repeat (first|apply aR|apply nR|apply dR));exact Kd.R_mono HO329.out (fun _ hk=>⟨hk.1.2.2.1,⟨hk.2,hk.1.2.2.2⟩⟩)⟩,⟨by (with_reducible repeat (first|apply aR|apply nR|apply dR));exact Kd.R_mono HO344.out (fun _ hk=>⟨hk.1.1.2,⟨hk.1.2,hk.2⟩⟩)⟩,⟨by (with_reducible repeat (first|apply aR|apply nR|apply dR));exact Kd.R_mono HO333.out (by first|exact fun _ hk=>hk.2.2|(intro k_ hk;simp only [hk,ne_eq,and_self,not_false_eq_true]))⟩,⟨by (with_reducible repeat (first|apply aR|apply nR|apply dR));exact Kd.R_mono HO337.out (by first|exact fun _ hk=>hk.2.2|(intro k_ hk;simp only [hk,ne_eq,and_self,not_false_eq_true]))⟩,⟨by (with_reducible repeat (first|apply aR|apply nR|apply dR));exact Kd.R_mono HO340.out (fun _ hk=>⟨hk.1.2.2.1,⟨hk.1.2.2.2,hk.2⟩⟩)⟩,⟨by (with_reducible repeat (first|apply nB|apply dB|apply aB));exact BK307.out⟩,⟨by (with_reducible repeat (first|apply nB|apply dB|apply aB));exact BK341.out⟩,⟨by repeat (first|(with_reducible first|exact HB.out|apply aZ|apply nZ|apply dZ|refine sZ ?_ GE307.out|refine sZ ?_ GE341.out)|exact HB.out)⟩⟩
 case rest =>
  clear HC16
  try clear c1
  try clear p2
  try clear c3
  try clear c3b0
  try clear c3b1
  try clear c4
  try clear c6
  try clear c6b0
  try clear c7
  try clear c10
  try clear c14
  try clear c15
  try clear c16
  try clear c17
  try clear c32
  try clear c42
  try clear hcz18_0
  try clear hcz18_1
  try clear hcz18_2
  try clear hcz18_3
  try clear hcz18_4
  try clear hcz29_0
  try clear hcz29_1
  try clear hcz29_2
  try clear hcz29_3
  try clear hcz29_4
  try clear hcz33_0
  try clear hcz33_1
  try clear hcz33_2
  try clear hcz33_3
  try clear hcz33_4
  try clear hcz38_0
  try clear hcz38_1
  try clear hcz38_2
  try clear hcz38_3
  try clear hcz38_4
  try clear hcz8_0
  try clear hcz8_1
  try clear hcz8_2
  try clear hcz8_3
  try clear hcz8_4
  try clear hfz18_0
  try clear hfz18_1
  try clear hfz18_2
  try clear hfz18_3
  try clear hfz18_4
  try clear hfz29_0
  try clear hfz29_1
  try clear hfz29_2
  try clear hfz29_3
  try clear hfz29_4
  try clear hfz33_0
  try clear hfz33_1
  try clear hfz33_2
  try clear hfz33_3
  try clear hfz33_4
  try clear hfz38_0
  try clear hfz38_1
  try clear hfz38_2
  try clear hfz38_3
  try clear hfz38_4
  try clear hfz8_0
  try clear hfz8_1
  try clear hfz8_2
  try clear hfz8_3
  try clear hfz8_4
  obtain⟨kq,x51_15,rfl,HA,HJ15,HO_6,HO_8,HO_10,HO_342001,HO_342003,HO_342004,BK307,BK341,HB⟩:=hcut
  cases kq with
  | zero=>exact absurd HA.out (by simp [laws_FnExactPatchDo.j0])
  | succ kj15 =>
   have H:=HA.out
   clear HA
   simp only [laws_FnExactPatchDo.j0] at H
   by_cases c47:x51_15 = true
   ·subst c47
    have H1:(some false) = some r:=by rw [if_pos rfl] at H;exact H
    clear H
    have H:=H1
    clear H1
    obtain rfl:=Option.some.inj H
    go_wp2
    go_ret
    exact⟨by first|rfl|(simp [errW_none,errW_some] <;> rfl)|(simp [*,errW_none,errW_some] <;> rfl),by repeat (first|(with_reducible first|exact HB.out|apply aZ|apply nZ|apply dZ|refine sZ ?_ GE307.out|refine sZ ?_ GE341.out)|exact HB.out)⟩
   replace c47:=Bool.eq_false_iff.mpr c47
   subst c47
   have H1:((laws_toIntS.f kj15 l0).bind fun t347=>((laws_eqIntS.f kj15 t327 t347).bind fun t350=>(if t350 = true then ((laws_toPatch.f kj15 a1_0 l1_1 a1_2 l1_3 l1_4).bind fun bt351=>((laws_eqPatch.f kj15 t330 t331 t334 t335 t338 bt351.1 bt351.2.1 bt351.2.2.1 bt351.2.2.2.1 bt351.2.2.2.2).bind fun t362=>(if t362 = true then ((laws_markIntS.f kj15 t327 1).bind fun bt363=>((laws_markPatch.f kj15 t330 t331 t334 t335 t338 bt363.1).bind fun bt365=>(if bt365.1 < 0 then (laws_FnExactPatchDo.j1 kj15 l0 t323 t326 t342 true a1_0 l1_1 a1_2 l1_3 l1_4) else ((laws_eqIntS.f kj15 t342 t323).bind fun t369=>(if t369 = true then (laws_FnExactPatchDo.j1 kj15 l0 t323 t326 t342 (t345 != t326) a1_0 l1_1 a1_2 l1_3 l1_4) else (laws_FnExactPatchDo.j1 kj15 l0 t323 t326 t342 true a1_0 l1_1 a1_2 l1_3 l1_4)))))) else (some false)))) else (some false)))) = some r:=by rw [if_neg (show ¬ (false = true) by decide)] at H;exact H
   clear H
   have H:=H1
   clear H1
   replace H:=Option.bind_eq_some_iff.mp H
   obtain⟨t347,A480,H⟩:=H
   replace H:((laws_eqIntS.f kj15 t327 t347).bind fun t350=>(if t350 = true then ((laws_toPatch.f kj15 a1_0 l1_1 a1_2 l1_3 l1_4).bind fun bt351=>((laws_eqPatch.f kj15 t330 t331 t334 t335 t338 bt351.1 bt351.2.1 bt351.2.2.1 bt351.2.2.2.1 bt351.2.2.2.2).bind fun t362=>(if t362 = true then ((laws_markIntS.f kj15 t327 1).bind fun bt363=>((laws_markPatch.f kj15 t330 t331 t334 t335 t338 bt363.1).bind fun bt365=>(if bt365.1 < 0 then (laws_FnExactPatchDo.j1 kj15 l0 t323 t326 t342 true a1_0 l1_1 a1_2 l1_3 l1_4) else ((laws_eqIntS.f kj15 t342 t323).bind fun t369=>(if t369 = true then (laws_FnExactPatchDo.j1 kj15 l0 t323 t326 t342 (t345 != t326) a1_0 l1_1 a1_2 l1_3 l1_4) else (laws_FnExactPatchDo.j1 kj15 l0 t323 t326 t342 true a1_0 l1_1 a1_2 l1_3 l1_4)))))) else (some false)))) else (some false))) = some r:=H
   have A48:=mk0 A480
   clear A480
   replace H:=Option.bind_eq_some_iff.mp H
   obtain⟨t350,A490,H⟩:=H
   replace H:(if t350 = true then ((laws_toPatch.f kj15 a1_0 l1_1 a1_2 l1_3 l1_4).bind fun bt351=>((laws_eqPatch.f kj15 t330 t331 t334 t335 t338 bt351.1 bt351.2.1 bt351.2.2.1 bt351.2.2.2.1 bt351.2.2.2.2).bind fun t362=>(if t362 = true then ((laws_markIntS.f kj15 t327 1).bind fun bt363=>((laws_markPatch.f kj15 t330 t331 t334 t335 t338 bt363.1).bind fun bt365=>(if bt365.1 < 0 then (laws_FnExactPatchDo.j1 kj15 l0 t323 t326 t342 true a1_0 l1_1 a1_2 l1_3 l1_4) else ((laws_eqIntS.f kj15 t342 t323).bind fun t369=>(if t369 = true then (laws_FnExactPatchDo.j1 kj15 l0 t323 t326 t342 (t345 != t326) a1_0 l1_1 a1_2 l1_3 l1_4) else (laws_FnExactPatchDo.j1 kj15 l0 t323 t326 t342 true a1_0 l1_1 a1_2 l1_3 l1_4)))))) else (some false)))) else (some false)) = some r:=H
   have A49:=mk0 A490
   clear A490
   by_cases c50:t350 = true
   rotate_left
   ·replace c50:=Bool.eq_false_iff.mpr c50
    subst c50
    have H1:(some false) = some r:=by rw [if_neg (show ¬ (false = true) by decide)] at H;exact H
    clear H
    have H:=H1
    clear H1
    obtain rfl:=Option.some.inj H
    go_wp2_with (first|((with_reducible refine gate_callee (f:=7) rfl ?_);refine goesL_ (some 54) rfl rfl Try.func7 (by kernel_rfl) rfl #[.slice A0 l0.length c0] rfl (by (try simp only [mA,mC,mN]);first|done|rfl|(simp only [List.length_drop,List.length_take];rfl)) ?_;(with_reducible refine (laws_toIntS.calls kj15 _ _ l0 t347 _ ?side1 ?side2 A48.out).mono ?_);(case side1=>repeat (first|exact (Kd.C_below HR0.out HB.out)|(with_reducible first|apply aC|apply nC|apply dC)));(case side2=>exact HC0.out);rintro e w117 ⟨v348,rfl,ho0,hb⟩;refine⟨_,rfl,?_⟩;have n0_:=mk0 (Kd.R_elder' (by (with_reducible repeat (first|apply aR|apply nR|apply dR));exact HO_6.out) (Kd.R_base ho0) hb);have n1_:=mk0 (Kd.R_elder' (by (with_reducible repeat (first|apply aR|apply nR|apply dR));exact HO_8.out) (Kd.R_base ho0) hb);have n2_:=mk0 (Kd.R_elder' (by (with_reducible repeat (first|apply aR|apply nR|apply dR));exact HO_10.out) (Kd.R_base ho0) hb);have n3_:=mk0 (Kd.R_below (by (with_reducible repeat (first|apply aR|apply nR|apply dR));exact HO_342001.out) hb);have n4_:=mk0 (Kd.R_below (by (with_reducible repeat (first|apply aR|apply nR|apply dR));exact HO_342003.out) hb);have n5_:=mk0 (Kd.R_elder' (by (with_reducible repeat (first|apply aR|apply nR|apply dR));exact HO_342004.out) (Kd.R_base ho0) hb);have n6_:=mk0 (Kd.R_lower (Kd.R_new' (Kd.R_new' (Kd.R_new' (Kd.R_new' ho0 (Kd.R_lt (by (with_reducible repeat (first|apply aR|apply nR|apply dR));exact HO_6.out))) (Kd.R_lt (by (with_reducible repeat (first|apply aR|apply nR|apply dR));exact HO_8.out))) (Kd.R_lt (by (with_reducible repeat (first|apply aR|apply nR|apply dR));exact HO_10.out))) (Kd.R_lt (by (with_reducible repeat (first|apply aR|apply nR|apply dR));exact HO_342004.out))) (below_size (by repeat (first|(with_reducible first|exact HB.out|apply aZ|apply nZ|apply dZ|refine sZ ?_ GE307.out|refine sZ ?_ GE341.out)|exact HB.out))));have n7_:=mk0 (blk_below (g:=gb307) (o:=.cells #[.int .i64 a1_0,.slice A1_1 l1_1.length c1_1,.int .i64 a1_2,.slice A1_3 l1_3.length c1_3,.slice A1_4 l1_4.length c1_4] 37 (0,0)) (by (with_reducible repeat (first|apply nB|apply dB|apply aB));exact BK307.out) hb);have n8_:=mk0 (blk_below (g:=gb341) (o:=.cells #[.int .i64 t330,.slice Ao34 t331.length co34,.int .i64 t334,.slice Ao35 t335.length co35,.slice Ao36 t338.length co36] 27 (0,0)) (by (with_reducible repeat (first|apply nB|apply dB|apply aB));exact BK341.out) hb);have n9_:=mk0 (below_step (by repeat (first|(with_reducible first|exact HB.out|apply aZ|apply nZ|apply dZ|refine sZ ?_ GE307.out|refine sZ ?_ GE341.out)|exact HB.out)) hb);clear HO_6 HO_8 HO_10 HO_342001 HO_342003 HO_342004 BK307 BK341 HB;have HO_6:=n0_;have HO_8:=n1_;have HO_10:=n2_;have HO_342001:=n3_;have HO_342003:=n4_;have HO_342004:=n5_;have HO349:=n6_;have BK307:=n7_;have BK341:=n8_;have HB:=n9_;clear n0_ n1_ n2_ n3_ n4_ n5_ n6_ n7_ n8_ n9_;(try clear hb);(try clear hb2);(try clear hk);(try clear hi);(try clear ho0);obtain⟨Ao118,co118,eo118⟩:=Kd.R_slice HO349.out;subst eo118)|((with_reducible refine gate_callee (f:=10) rfl ?_);refine goesL_ (some 55) rfl rfl Try.func10 (by kernel_rfl) rfl #[.slice Ao39 t327.length co39,.slice Ao118 t347.length co118] rfl (by (try simp only [mA,mC,mN]);first|done|rfl|(simp only [List.length_drop,List.length_take];rfl)) ?_;(with_reducible refine (laws_eqIntS.calls kj15 _ _ t327 _ _ t347 false _ ?side1 ?side2 ?side3 ?side4 A49.out).mono ?_);(case side1=>repeat (first|exact (Kd.R_reads' HO_8.out).2.2|(with_reducible first|apply aC|apply nC|apply dC)));(case side2=>exact (Kd.R_reads' HO_8.out).2.1);(case side3=>repeat (first|exact (Kd.R_reads' HO349.out).2.2|(with_reducible first|apply aC|apply nC|apply dC)));(case side4=>exact (Kd.R_reads' HO349.out).2.1);rintro e w' ⟨rfl,⟨nd,rfl⟩⟩;refine⟨_,rfl,?_⟩))
    go_ret
    exact⟨by first|rfl|(simp [errW_none,errW_some] <;> rfl)|(simp [*,errW_none,errW_some] <;> rfl),by repeat (first|(with_reducible first|exact HB.out|apply aZ|apply nZ|apply dZ|refine sZ ?_ GE307.out|refine sZ ?_ GE341.out)|exact HB.out)⟩

   subst c50
   have H1:((laws_toPatch.f kj15 a1_0 l1_1 a1_2 l1_3 l1_4).bind fun bt351=>((laws_eqPatch.f kj15 t330 t331 t334 t335 t338 bt351.1 bt351.2.1 bt351.2.2.1 bt351.2.2.2.1 bt351.2.2.2.2).bind fun t362=>(if t362 = true then ((laws_markIntS.f kj15 t327 1).bind fun bt363=>((laws_markPatch.f kj15 t330 t331 t334 t335 t338 bt363.1).bind fun bt365=>(if bt365.1 < 0 then (laws_FnExactPatchDo.j1 kj15 l0 t323 t326 t342 true a1_0 l1_1 a1_2 l1_3 l1_4) else ((laws_eqIntS.f kj15 t342 t323).bind fun t369=>(if t369 = true then (laws_FnExactPatchDo.j1 kj15 l0 t323 t326 t342 (t345 != t326) a1_0 l1_1 a1_2 l1_3 l1_4) else (laws_FnExactPatchDo.j1 kj15 l0 t323 t326 t342 true a1_0 l1_1 a1_2 l1_3 l1_4)))))) else (some false)))) = some r:=by rw [if_pos rfl] at H;exact H
   clear H
   have H:=H1
   clear H1
   replace H:=Option.bind_eq_some_iff.mp H
   obtain⟨⟨t351,t352,t355,t356,t359⟩,A510,H⟩:=H
   replace H:((laws_eqPatch.f kj15 t330 t331 t334 t335 t338 t351 t352 t355 t356 t359).bind fun t362=>(if t362 = true then ((laws_markIntS.f kj15 t327 1).bind fun bt363=>((laws_markPatch.f kj15 t330 t331 t334 t335 t338 bt363.1).bind fun bt365=>(if bt365.1 < 0 then (laws_FnExactPatchDo.j1 kj15 l0 t323 t326 t342 true a1_0 l1_1 a1_2 l1_3 l1_4) else ((laws_eqIntS.f kj15 t342 t323).bind fun t369=>(if t369 = true then (laws_FnExactPatchDo.j1 kj15 l0 t323 t326 t342 (t345 != t326) a1_0 l1_1 a1_2 l1_3 l1_4) else (laws_FnExactPatchDo.j1 kj15 l0 t323 t326 t342 true a1_0 l1_1 a1_2 l1_3 l1_4)))))) else (some false))) = some r:=H
   have A51:=mk0 A510
   clear A510
   replace H:=Option.bind_eq_some_iff.mp H
   obtain⟨t362,A520,H⟩:=H
   replace H:(if t362 = true then ((laws_markIntS.f kj15 t327 1).bind fun bt363=>((laws_markPatch.f kj15 t330 t331 t334 t335 t338 bt363.1).bind fun bt365=>(if bt365.1 < 0 then (laws_FnExactPatchDo.j1 kj15 l0 t323 t326 t342 true a1_0 l1_1 a1_2 l1_3 l1_4) else ((laws_eqIntS.f kj15 t342 t323).bind fun t369=>(if t369 = true then (laws_FnExactPatchDo.j1 kj15 l0 t323 t326 t342 (t345 != t326) a1_0 l1_1 a1_2 l1_3 l1_4) else (laws_FnExactPatchDo.j1 kj15 l0 t323 t326 t342 true a1_0 l1_1 a1_2 l1_3 l1_4)))))) else (some false)) = some r:=H
   have A52:=mk0 A520
   clear A520
   by_cases c53:t362 = true
   rotate_left
   ·replace c53:=Bool.eq_false_iff.mpr c53
    subst c53
    have H1:(some false) = some r:=by rw [if_neg (show ¬ (false = true) by decide)] at H;exact H
    clear H
    have H:=H1
    clear H1
    obtain rfl:=Option.some.inj H
    try go_wp2_with (first|((with_reducible refine gate_callee (f:=7) rfl ?_);refine goesL_ (some 54) rfl rfl Try.func7 (by kernel_rfl) rfl #[.slice A0 l0.length c0] rfl (by (try simp only [mA,mC,mN]);first|done|rfl|(simp only [List.length_drop,List.length_take];rfl)) ?_;(with_reducible refine (laws_toIntS.calls kj15 _ _ l0 t347 _ ?side1 ?side2 A48.out).mono ?_);(case side1=>repeat (first|exact (Kd.C_below HR0.out HB.out)|(with_reducible first|apply aC|apply nC|apply dC)));(case side2=>exact HC0.out);rintro e w109 ⟨v348,rfl,ho0,hb⟩;refine⟨_,rfl,?_⟩;have n0_:=mk0 (Kd.R_elder' (by (with_reducible repeat (first|apply aR|apply nR|apply dR));exact HO_6.out) (Kd.R_base ho0) hb);have n1_:=mk0 (Kd.R_elder' (by (with_reducible repeat (first|apply aR|apply nR|apply dR));exact HO_8.out) (Kd.R_base ho0) hb);have n2_:=mk0 (Kd.R_elder' (by (with_reducible repeat (first|apply aR|apply nR|apply dR));exact HO_10.out) (Kd.R_base ho0) hb);have n3_:=mk0 (Kd.R_below (by (with_reducible repeat (first|apply aR|apply nR|apply dR));exact HO_342001.out) hb);have n4_:=mk0 (Kd.R_below (by (with_reducible repeat (first|apply aR|apply nR|apply dR));exact HO_342003.out) hb);have n5_:=mk0 (Kd.R_elder' (by (with_reducible repeat (first|apply aR|apply nR|apply dR));exact HO_342004.out) (Kd.R_base ho0) hb);have n6_:=mk0 (Kd.R_lower (Kd.R_new' (Kd.R_new' (Kd.R_new' (Kd.R_new' ho0 (Kd.R_lt (by (with_reducible repeat (first|apply aR|apply nR|apply dR));exact HO_6.out))) (Kd.R_lt (by (with_reducible repeat (first|apply aR|apply nR|apply dR));exact HO_8.out))) (Kd.R_lt (by (with_reducible repeat (first|apply aR|apply nR|apply dR));exact HO_10.out))) (Kd.R_lt (by (with_reducible repeat (first|apply aR|apply nR|apply dR));exact HO_342004.out))) (below_size (by repeat (first|(with_reducible first|exact HB.out|apply aZ|apply nZ|apply dZ|refine sZ ?_ GE307.out|refine sZ ?_ GE341.out)|exact HB.out))));have n7_:=mk0 (blk_below (g:=gb307) (o:=.cells #[.int .i64 a1_0,.slice A1_1 l1_1.length c1_1,.int .i64 a1_2,.slice A1_3 l1_3.length c1_3,.slice A1_4 l1_4.length c1_4] 37 (0,0)) (by (with_reducible repeat (first|apply nB|apply dB|apply aB));exact BK307.out) hb);have n8_:=mk0 (blk_below (g:=gb341) (o:=.cells #[.int .i64 t330,.slice Ao34 t331.length co34,.int .i64 t334,.slice Ao35 t335.length co35,.slice Ao36 t338.length co36] 27 (0,0)) (by (with_reducible repeat (first|apply nB|apply dB|apply aB));exact BK341.out) hb);have n9_:=mk0 (below_step (by repeat (first|(with_reducible first|exact HB.out|apply aZ|apply nZ|apply dZ|refine sZ ?_ GE307.out|refine sZ ?_ GE341.out)|exact HB.out)) hb);clear HO_6 HO_8 HO_10 HO_342001 HO_342003 HO_342004 BK307 BK341 HB;have HO_6:=n0_;have HO_8:=n1_;have HO_10:=n2_;have HO_342001:=n3_;have HO_342003:=n4_;have HO_342004:=n5_;have HO349:=n6_;have BK307:=n7_;have BK341:=n8_;have HB:=n9_;clear n0_ n1_ n2_ n3_ n4_ n5_ n6_ n7_ n8_ n9_;(try clear hb);(try clear hb2);(try clear hk);(try clear hi);(try clear ho0);obtain⟨Ao110,co110,eo110⟩:=Kd.R_slice HO349.out;subst eo110)|((with_reducible refine gate_callee (f:=10) rfl ?_);refine goesL_ (some 55) rfl rfl Try.func10 (by kernel_rfl) rfl #[.slice Ao39 t327.length co39,.slice Ao110 t347.length co110] rfl (by (try simp only [mA,mC,mN]);first|done|rfl|(simp only [List.length_drop,List.length_take];rfl)) ?_;(with_reducible refine (laws_eqIntS.calls kj15 _ _ t327 _ _ t347 true _ ?side1 ?side2 ?side3 ?side4 A49.out).mono ?_);(case side1=>repeat (first|exact (Kd.R_reads' HO_8.out).2.2|(with_reducible first|apply aC|apply nC|apply dC)));(case side2=>exact (Kd.R_reads' HO_8.out).2.1);(case side3=>repeat (first|exact (Kd.R_reads' HO349.out).2.2|(with_reducible first|apply aC|apply nC|apply dC)));(case side4=>exact (Kd.R_reads' HO349.out).2.1);rintro e w' ⟨rfl,⟨nd,rfl⟩⟩;refine⟨_,rfl,?_⟩))
    (try (rw [drewN_self w109];generalize hq_:World.drewN w109 _ = w109;have n0_:Aside0 (Kd.R (Kd.int .i64) 3 w109 w.heap.size (fun k_=>some k_ ≠ (v343:Value).ownBlock ∧ some k_ ≠ (.slice Ao36 t338.length co36:Value).ownBlock ∧ some k_ ≠ (v324:Value).ownBlock ∧ some k_ ≠ (.slice Ao39 t327.length co39:Value).ownBlock) (.slice Ao110 t347.length co110) t347):=⟨by rw [← hq_];exact (by (with_reducible repeat (first|apply aR|apply nR|apply dR));exact Kd.R_mono HO349.out (fun _ hk=>⟨hk.1.2,⟨hk.2,⟨hk.1.1.1.2,hk.1.1.2⟩⟩⟩))⟩;have n1_:Aside0 (Kd.R (Kd.int .i64) 3 w109 w.heap.size (fun k_=>some k_ ≠ (.slice Ao110 t347.length co110:Value).ownBlock ∧ some k_ ≠ (.slice Ao36 t338.length co36:Value).ownBlock ∧ some k_ ≠ (v324:Value).ownBlock ∧ some k_ ≠ (.slice Ao39 t327.length co39:Value).ownBlock) v343 t342):=⟨by rw [← hq_];exact (by (with_reducible repeat (first|apply aR|apply nR|apply dR));exact Kd.R_mono HO_10.out (fun _ hk=>⟨hk.2,⟨hk.1.2.2,⟨hk.1.1,hk.1.2.1⟩⟩⟩))⟩;have n2_:Aside0 (Kd.R (Kd.int .u64) 77 w109 w.heap.size (fun k_=>some k_ ≠ (.slice Ao35 t335.length co35:Value).ownBlock) (.slice Ao34 t331.length co34) t331):=⟨by rw [← hq_];exact (by (with_reducible repeat (first|apply aR|apply nR|apply dR));exact HO_342001.out)⟩;have n3_:Aside0 (Kd.R (Kd.int .u64) 77 w109 w.heap.size (fun k_=>some k_ ≠ (.slice Ao34 t331.length co34:Value).ownBlock) (.slice Ao35 t335.length co35) t335):=⟨by rw [← hq_];exact (by (with_reducible repeat (first|apply aR|apply nR|apply dR));exact HO_342003.out)⟩;have n4_:Aside0 (Kd.R (Kd.int .i64) 3 w109 w.heap.size (fun k_=>some k_ ≠ (.slice Ao110 t347.length co110:Value).ownBlock ∧ some k_ ≠ (v343:Value).ownBlock ∧ some k_ ≠ (v324:Value).ownBlock ∧ some k_ ≠ (.slice Ao39 t327.length co39:Value).ownBlock) (.slice Ao36 t338.length co36) t338):=⟨by rw [← hq_];exact (by (with_reducible repeat (first|apply aR|apply nR|apply dR));exact Kd.R_mono HO_342004.out (fun _ hk=>⟨hk.2,⟨hk.1.2.2,⟨hk.1.1,hk.1.2.1⟩⟩⟩))⟩;have n5_:Aside0 (Kd.R (Kd.int .i64) 3 w109 w.heap.size (fun k_=>some k_ ≠ (.slice Ao110 t347.length co110:Value).ownBlock ∧ some k_ ≠ (v343:Value).ownBlock ∧ some k_ ≠ (.slice Ao36 t338.length co36:Value).ownBlock ∧ some k_ ≠ (.slice Ao39 t327.length co39:Value).ownBlock) v324 t323):=⟨by rw [← hq_];exact (by (with_reducible repeat (first|apply aR|apply nR|apply dR));exact Kd.R_mono HO_6.out (fun _ hk=>⟨hk.2,⟨hk.1.2.1,⟨hk.1.2.2,hk.1.1⟩⟩⟩))⟩;have n6_:Aside0 (Kd.R (Kd.int .i64) 3 w109 w.heap.size (fun k_=>some k_ ≠ (.slice Ao110 t347.length co110:Value).ownBlock ∧ some k_ ≠ (v343:Value).ownBlock ∧ some k_ ≠ (.slice Ao36 t338.length co36:Value).ownBlock ∧ some k_ ≠ (v324:Value).ownBlock) (.slice Ao39 t327.length co39) t327):=⟨by rw [← hq_];exact (by (with_reducible repeat (first|apply aR|apply nR|apply dR));exact Kd.R_mono HO_8.out (fun _ hk=>⟨hk.2,⟨hk.1.2.1,⟨hk.1.2.2,hk.1.1⟩⟩⟩))⟩;have n7_:Aside0 (w109.heap[gb307]? = some (.cells #[.int .i64 a1_0,.slice A1_1 l1_1.length c1_1,.int .i64 a1_2,.slice A1_3 l1_3.length c1_3,.slice A1_4 l1_4.length c1_4] 37 (0,0))):=⟨by rw [← hq_];exact (by (with_reducible repeat (first|apply nB|apply dB|apply aB));exact BK307.out)⟩;have n8_:Aside0 (w109.heap[gb341]? = some (.cells #[.int .i64 t330,.slice Ao34 t331.length co34,.int .i64 t334,.slice Ao35 t335.length co35,.slice Ao36 t338.length co36] 27 (0,0))):=⟨by rw [← hq_];exact (by (with_reducible repeat (first|apply nB|apply dB|apply aB));exact BK341.out)⟩;have n9_:Aside0 (Below w.heap.size w w109):=⟨by rw [← hq_];exact (by repeat (first|(with_reducible first|exact HB.out|apply aZ|apply nZ|apply dZ|refine sZ ?_ GE307.out|refine sZ ?_ GE341.out)|exact HB.out))⟩;clear HO349 HO_10 HO_342001 HO_342003 HO_342004 HO_6 HO_8 BK307 BK341 HB hq_;have HO349:=n0_;have HO_10:=n1_;have HO_342001:=n2_;have HO_342003:=n3_;have HO_342004:=n4_;have HO_6:=n5_;have HO_8:=n6_;have BK307:=n7_;have BK341:=n8_;have HB:=n9_;clear n0_ n1_ n2_ n3_ n4_ n5_ n6_ n7_ n8_ n9_))
    have n0_:=mk0 (dR HO_6.out)
    have n1_:=mk0 (dR HO_8.out)
    have n2_:=mk0 (dR HO_10.out)
    have n3_:=mk0 (dR HO_342001.out)
    have n4_:=mk0 (dR HO_342003.out)
    have n5_:=mk0 (dR HO_342004.out)
    have n6_:=mk0 (dR HO349.out)
    have n7_:=mk0 (dB BK307.out)
    have n8_:=mk0 (dB BK341.out)
    have n9_:=mk0 (dZ HB.out)
    clear HO_6
    clear HO_8
    clear HO_10
    clear HO_342001
    clear HO_342003
    clear HO_342004
    clear HO349
    clear BK307
    clear BK341
    clear HB
    have HO_6:=n0_
    have HO_8:=n1_
    have HO_10:=n2_
    have HO_342001:=n3_
    have HO_342003:=n4_
    have HO_342004:=n5_
    have HO349:=n6_
    have BK307:=n7_
    have BK341:=n8_
    have HB:=n9_
    clear n0_ n1_ n2_ n3_ n4_ n5_ n6_ n7_ n8_ n9_
    refine start_ (n:=5) (S:=fun w'=>w'.cell? ⟨gb341,0,none⟩ = some (.int .i64 t330) ∧ w'.cell? ⟨gb341,1,none⟩ = some (.slice Ao34 t331.length co34) ∧ w'.cell? ⟨gb341,2,none⟩ = some (.int .i64 t334) ∧ w'.cell? ⟨gb341,3,none⟩ = some (.slice Ao35 t335.length co35) ∧ w'.cell? ⟨gb341,4,none⟩ = some (.slice Ao36 t338.length co36) ∧ w'.cell? ⟨gb307,0,none⟩ = some (.int .i64 a1_0) ∧ w'.cell? ⟨gb307,1,none⟩ = some (.slice A1_1 l1_1.length c1_1) ∧ w'.cell? ⟨gb307,2,none⟩ = some (.int .i64 a1_2) ∧ w'.cell? ⟨gb307,3,none⟩ = some (.slice A1_3 l1_3.length c1_3) ∧ w'.cell? ⟨gb307,4,none⟩ = some (.slice A1_4 l1_4.length c1_4)) (ds:=[]) #[false,false,false,false,false] (by kernel_rfl) rfl rfl ⟨(blk_cell BK341.out 0).trans rfl,(blk_cell BK341.out 1).trans rfl,(blk_cell BK341.out 2).trans rfl,(blk_cell BK341.out 3).trans rfl,(blk_cell BK341.out 4).trans rfl,(blk_cell BK307.out 0).trans rfl,(blk_cell BK307.out 1).trans rfl,(blk_cell BK307.out 2).trans rfl,(blk_cell BK307.out 3).trans rfl,(blk_cell BK307.out 4).trans rfl⟩ (fun hHeld=>?_)
    generalize w109.drew = w111 at HO_6 HO_8 HO_10 HO_342001 HO_342003 HO_342004 HO349 BK307 BK341 HB hHeld ⊢
    refine take_ (i:=0) (N:=some 57) (v:=?_) (a':=?_) #[true,false,false,false,false] rfl rfl (by kernel_rfl) (fun _ _ _ h=>h) (Or.inl ⟨by rfl,?_⟩) hHeld ?_ ?_
    rotate_left
    ·rintro w' ⟨s0,s1,s2,s3,s4,s5,s6,s7,s8,s9⟩
     go_simp
     with_reducible rfl
    rotate_left
    ·simp only [Act.put,sA,sO,sS,i64_w,i32_w]
     rfl
    refine take_ (i:=1) (N:=some 58) (v:=?_) (a':=?_) #[true,true,false,false,false] rfl rfl (by kernel_rfl) (fun _ _ _ h=>h) (Or.inl ⟨by rfl,?_⟩) hHeld ?_ ?_
    rotate_left
    ·rintro w' ⟨s0,s1,s2,s3,s4,s5,s6,s7,s8,s9⟩
     go_simp
     with_reducible rfl
    rotate_left
    ·simp only [Act.put,sA,sO,sS,i64_w,i32_w]
     rfl
    refine one_ (i:=2) (N:=some 59) #[true,true,true,false,false] rfl rfl (by kernel_rfl) (by decide) (fun K hK=>?_)
    refine goes_ Try.func16 (by kernel_rfl) rfl #[.agg #[.int .i64 a1_0,.slice A1_1 l1_1.length c1_1,.int .i64 a1_2,.slice A1_3 l1_3.length c1_3,.slice A1_4 l1_4.length c1_4]] (by rfl) rfl rfl (by (try simp only [mA,mC,mN]);first|done|rfl|(simp only [List.length_drop,List.length_take];rfl)) ?_
    with_reducible refine (laws_toPatch.calls kj15 a1_0 _ _ l1_1 a1_2 _ _ l1_3 _ _ l1_4 t351 t352 t355 t356 t359 _ ?side1 ?side2 ?side3 ?side4 ?side5 ?side6 A51.out).mono ?_
    (case side1=>repeat (first|exact (Kd.C_below HR1_1.out HB.out)|(with_reducible first|apply aC|apply nC|apply dC)))
    (case side2=>exact HC1_1.out)
    (case side3=>repeat (first|exact (Kd.C_below HR1_3.out HB.out)|(with_reducible first|apply aC|apply nC|apply dC)))
    (case side4=>exact HC1_3.out)
    (case side5=>repeat (first|exact (Kd.C_below HR1_4.out HB.out)|(with_reducible first|apply aC|apply nC|apply dC)))
    (case side6=>exact HC1_4.out)
    rintro e w112 ⟨v353,v357,v360,rfl,ho0,ho1,ho2,hb⟩
    refine⟨_,rfl,?_⟩
    have n0_:=mk0 (Kd.R_elder' (by (with_reducible repeat (first|apply aR|apply nR|apply dR));exact HO_6.out) (Kd.R_base ho2) hb)
    have n1_:=mk0 (Kd.R_elder' (by (with_reducible repeat (first|apply aR|apply nR|apply dR));exact HO_8.out) (Kd.R_base ho2) hb)
    have n2_:=mk0 (Kd.R_elder' (by (with_reducible repeat (first|apply aR|apply nR|apply dR));exact HO_10.out) (Kd.R_base ho2) hb)
    have n3_:=mk0 (Kd.R_mono (Kd.R_told (Kd.R_told (Kd.R_old (by (with_reducible repeat (first|apply aR|apply nR|apply dR));exact HO_342001.out) hb) (Kd.R_base ho0)) (Kd.R_base ho1)) (fun _ h_=>h_.1))
    have n4_:=mk0 (Kd.R_mono (Kd.R_told (Kd.R_told (Kd.R_old (by (with_reducible repeat (first|apply aR|apply nR|apply dR));exact HO_342003.out) hb) (Kd.R_base ho0)) (Kd.R_base ho1)) (fun _ h_=>h_.1))
    have n5_:=mk0 (Kd.R_elder' (by (with_reducible repeat (first|apply aR|apply nR|apply dR));exact HO_342004.out) (Kd.R_base ho2) hb)
    have n6_:=mk0 (Kd.R_elder' (by (with_reducible repeat (first|apply aR|apply nR|apply dR));exact HO349.out) (Kd.R_base ho2) hb)
    have n7_:=mk0 (Kd.R_lower (Kd.R_new' (Kd.R_new' ho0 (Kd.R_lt (by (with_reducible repeat (first|apply aR|apply nR|apply dR));exact HO_342001.out))) (Kd.R_lt (by (with_reducible repeat (first|apply aR|apply nR|apply dR));exact HO_342003.out))) (below_size (by repeat (first|(with_reducible first|exact HB.out|apply aZ|apply nZ|apply dZ|refine sZ ?_ GE307.out|refine sZ ?_ GE341.out)|exact HB.out))))
    have n8_:=mk0 (Kd.R_lower (Kd.R_new' (Kd.R_new' ho1 (Kd.R_lt (by (with_reducible repeat (first|apply aR|apply nR|apply dR));exact HO_342001.out))) (Kd.R_lt (by (with_reducible repeat (first|apply aR|apply nR|apply dR));exact HO_342003.out))) (below_size (by repeat (first|(with_reducible first|exact HB.out|apply aZ|apply nZ|apply dZ|refine sZ ?_ GE307.out|refine sZ ?_ GE341.out)|exact HB.out))))
    have n9_:=mk0 (Kd.R_lower (Kd.R_new' (Kd.R_new' (Kd.R_new' (Kd.R_new' (Kd.R_new' ho2 (Kd.R_lt (by (with_reducible repeat (first|apply aR|apply nR|apply dR));exact HO_6.out))) (Kd.R_lt (by (with_reducible repeat (first|apply aR|apply nR|apply dR));exact HO_8.out))) (Kd.R_lt (by (with_reducible repeat (first|apply aR|apply nR|apply dR));exact HO_10.out))) (Kd.R_lt (by (with_reducible repeat (first|apply aR|apply nR|apply dR));exact HO_342004.out))) (Kd.R_lt (by (with_reducible repeat (first|apply aR|apply nR|apply dR));exact HO349.out))) (below_size (by repeat (first|(with_reducible first|exact HB.out|apply aZ|apply nZ|apply dZ|refine sZ ?_ GE307.out|refine sZ ?_ GE341.out)|exact HB.out))))
    have n10_:=mk0 (blk_below (g:=gb307) (o:=.cells #[.int .i64 a1_0,.slice A1_1 l1_1.length c1_1,.int .i64 a1_2,.slice A1_3 l1_3.length c1_3,.slice A1_4 l1_4.length c1_4] 37 (0,0)) (by (with_reducible repeat (first|apply nB|apply dB|apply aB));exact BK307.out) hb)
    have n11_:=mk0 (blk_below (g:=gb341) (o:=.cells #[.int .i64 t330,.slice Ao34 t331.length co34,.int .i64 t334,.slice Ao35 t335.length co35,.slice Ao36 t338.length co36] 27 (0,0)) (by (with_reducible repeat (first|apply nB|apply dB|apply aB));exact BK341.out) hb)
    have n12_:=mk0 (below_step (by repeat (first|(with_reducible first|exact HB.out|apply aZ|apply nZ|apply dZ|refine sZ ?_ GE307.out|refine sZ ?_ GE341.out)|exact HB.out)) hb)
    clear HO_6
    clear HO_8
    clear HO_10
    clear HO_342001
    clear HO_342003
    clear HO_342004
    clear HO349
    clear BK307
    clear BK341
    clear HB
    have HO_6:=n0_
    have HO_8:=n1_
    have HO_10:=n2_
    have HO_342001:=n3_
    have HO_342003:=n4_
    have HO_342004:=n5_
    have HO349:=n6_
    have HO354:=n7_
    have HO358:=n8_
    have HO361:=n9_
    have BK307:=n10_
    have BK341:=n11_
    have HB:=n12_
    clear n0_ n1_ n2_ n3_ n4_ n5_ n6_ n7_ n8_ n9_ n10_ n11_ n12_
    (try clear hb)
    (try clear hb2)
    (try clear hk)
    (try clear hi)
    (try clear ho0)
    (try clear ho1)
    (try clear ho2)
    obtain⟨Ao113,co113,eo113⟩:=Kd.R_slice HO354.out
    (first|subst eo113|(injection eo113 with f1_ f2_ f3_;have f4_:=f1_.symm;have f5_:=f3_.symm;clear f1_ f2_ f3_;subst f4_;subst f5_))
    obtain⟨Ao114,co114,eo114⟩:=Kd.R_slice HO358.out
    (first|subst eo114|(injection eo114 with f1_ f2_ f3_;have f4_:=f1_.symm;have f5_:=f3_.symm;clear f1_ f2_ f3_;subst f4_;subst f5_))
    obtain⟨Ao115,co115,eo115⟩:=Kd.R_slice HO361.out
    (first|subst eo115|(injection eo115 with f1_ f2_ f3_;have f4_:=f1_.symm;have f5_:=f3_.symm;clear f1_ f2_ f3_;subst f4_;subst f5_))
    refine hK.out _ _ ⟨(blk_cell BK341.out 0).trans rfl,(blk_cell BK341.out 1).trans rfl,(blk_cell BK341.out 2).trans rfl,(blk_cell BK341.out 3).trans rfl,(blk_cell BK341.out 4).trans rfl,(blk_cell BK307.out 0).trans rfl,(blk_cell BK307.out 1).trans rfl,(blk_cell BK307.out 2).trans rfl,(blk_cell BK307.out 3).trans rfl,(blk_cell BK307.out 4).trans rfl⟩ (fun hHeld=>?_)
    clear hK K
    refine norm_ (a':=?_) ?_ ?_
    rotate_left
    ·show Act.put _ (some 59) _ = _
     simp only [Act.put,sA,sO,sS,i64_w,i32_w]
     rfl
    refine one_ (i:=3) (N:=some 60) #[true,true,true,true,false] rfl rfl (by kernel_rfl) (by decide) (fun K hK=>?_)
    refine goes_ Try.func9 (by kernel_rfl) rfl #[.agg #[.int .i64 t330,.slice Ao34 t331.length co34,.int .i64 t334,.slice Ao35 t335.length co35,.slice Ao36 t338.length co36],.agg #[.int .i64 t351,.slice Ao113 t352.length co113,.int .i64 t355,.slice Ao114 t356.length co114,.slice Ao115 t359.length co115]] (by rfl) rfl rfl (by (try simp only [mA,mC,mN]);first|done|rfl|(simp only [List.length_drop,List.length_take];rfl)) ?_
    with_reducible refine (laws_eqPatch.calls kj15 t330 _ _ t331 t334 _ _ t335 _ _ t338 t351 _ _ t352 t355 _ _ t356 _ _ t359 false _ ?side1 ?side2 ?side3 ?side4 ?side5 ?side6 ?side7 ?side8 ?side9 ?side10 ?side11 ?side12 A52.out).mono ?_
    (case side1=>repeat (first|exact (Kd.R_reads' HO_342001.out).2.2|(with_reducible first|apply aC|apply nC|apply dC)))
    (case side2=>exact (Kd.R_reads' HO_342001.out).2.1)
    (case side3=>repeat (first|exact (Kd.R_reads' HO_342003.out).2.2|(with_reducible first|apply aC|apply nC|apply dC)))
    (case side4=>exact (Kd.R_reads' HO_342003.out).2.1)
    (case side5=>repeat (first|exact (Kd.R_reads' HO_342004.out).2.2|(with_reducible first|apply aC|apply nC|apply dC)))
    (case side6=>exact (Kd.R_reads' HO_342004.out).2.1)
    (case side7=>repeat (first|exact (Kd.R_reads' HO354.out).2.2|(with_reducible first|apply aC|apply nC|apply dC)))
    (case side8=>exact (Kd.R_reads' HO354.out).2.1)
    (case side9=>repeat (first|exact (Kd.R_reads' HO358.out).2.2|(with_reducible first|apply aC|apply nC|apply dC)))
    (case side10=>exact (Kd.R_reads' HO358.out).2.1)
    (case side11=>repeat (first|exact (Kd.R_reads' HO361.out).2.2|(with_reducible first|apply aC|apply nC|apply dC)))
    (case side12=>exact (Kd.R_reads' HO361.out).2.1)
    rintro e w116 ⟨rfl,hb⟩
    refine⟨_,rfl,?_⟩
    have n0_:=mk0 (Kd.R_below (by (with_reducible repeat (first|apply aR|apply nR|apply dR));exact HO_6.out) hb)
    have n1_:=mk0 (Kd.R_below (by (with_reducible repeat (first|apply aR|apply nR|apply dR));exact HO_8.out) hb)
    have n2_:=mk0 (Kd.R_below (by (with_reducible repeat (first|apply aR|apply nR|apply dR));exact HO_10.out) hb)
    have n3_:=mk0 (Kd.R_below (by (with_reducible repeat (first|apply aR|apply nR|apply dR));exact HO_342001.out) hb)
    have n4_:=mk0 (Kd.R_below (by (with_reducible repeat (first|apply aR|apply nR|apply dR));exact HO_342003.out) hb)
    have n5_:=mk0 (Kd.R_below (by (with_reducible repeat (first|apply aR|apply nR|apply dR));exact HO_342004.out) hb)
    have n6_:=mk0 (Kd.R_below (by (with_reducible repeat (first|apply aR|apply nR|apply dR));exact HO349.out) hb)
    have n7_:=mk0 (Kd.R_below (by (with_reducible repeat (first|apply aR|apply nR|apply dR));exact HO354.out) hb)
    have n8_:=mk0 (Kd.R_below (by (with_reducible repeat (first|apply aR|apply nR|apply dR));exact HO358.out) hb)
    have n9_:=mk0 (Kd.R_below (by (with_reducible repeat (first|apply aR|apply nR|apply dR));exact HO361.out) hb)
    have n10_:=mk0 (blk_below (g:=gb307) (o:=.cells #[.int .i64 a1_0,.slice A1_1 l1_1.length c1_1,.int .i64 a1_2,.slice A1_3 l1_3.length c1_3,.slice A1_4 l1_4.length c1_4] 37 (0,0)) (by (with_reducible repeat (first|apply nB|apply dB|apply aB));exact BK307.out) hb)
    have n11_:=mk0 (blk_below (g:=gb341) (o:=.cells #[.int .i64 t330,.slice Ao34 t331.length co34,.int .i64 t334,.slice Ao35 t335.length co35,.slice Ao36 t338.length co36] 27 (0,0)) (by (with_reducible repeat (first|apply nB|apply dB|apply aB));exact BK341.out) hb)
    have n12_:=mk0 (below_step (by repeat (first|(with_reducible first|exact HB.out|apply aZ|apply nZ|apply dZ|refine sZ ?_ GE307.out|refine sZ ?_ GE341.out)|exact HB.out)) hb)
    clear HO_6
    clear HO_8
    clear HO_10
    clear HO_342001
    clear HO_342003
    clear HO_342004
    clear HO349
    clear HO354
    clear HO358
    clear HO361
    clear BK307
    clear BK341
    clear HB
    have HO_6:=n0_
    have HO_8:=n1_
    have HO_10:=n2_
    have HO_342001:=n3_
    have HO_342003:=n4_
    have HO_342004:=n5_
    have HO349:=n6_
    have HO354:=n7_
    have HO358:=n8_
    have HO361:=n9_
    have BK307:=n10_
    have BK341:=n11_
    have HB:=n12_
    clear n0_ n1_ n2_ n3_ n4_ n5_ n6_ n7_ n8_ n9_ n10_ n11_ n12_
    (try clear hb)
    (try clear hb2)
    (try clear hk)
    (try clear hi)
    refine hK.out _ _ ⟨(blk_cell BK341.out 0).trans rfl,(blk_cell BK341.out 1).trans rfl,(blk_cell BK341.out 2).trans rfl,(blk_cell BK341.out 3).trans rfl,(blk_cell BK341.out 4).trans rfl,(blk_cell BK307.out 0).trans rfl,(blk_cell BK307.out 1).trans rfl,(blk_cell BK307.out 2).trans rfl,(blk_cell BK307.out 3).trans rfl,(blk_cell BK307.out 4).trans rfl⟩ (fun hHeld=>?_)
    clear hK K
    refine norm_ (a':=?_) ?_ ?_
    rotate_left
    ·show Act.put _ (some 60) _ = _
     simp only [Act.put,sA,sO,sS,i64_w,i32_w]
     rfl
    refine pure_ (i:=4) (N:=some 61) (v:=?_) (a':=?_) #[true,true,true,true,true] rfl rfl (by kernel_rfl) (fun _ _ _ h=>h) (Or.inl ⟨by rfl,?_⟩) ?_ ?_
    rotate_left
    ·intro w'
     go_simp
     with_reducible rfl
    rotate_left
    ·simp only [Act.put,sA,sO,sS,i64_w,i32_w]
     rfl
    refine done_ (by kernel_rfl) ?_
    try go_wp2
    go_ret
    exact⟨by first|rfl|(simp [errW_none,errW_some] <;> rfl)|(simp [*,errW_none,errW_some] <;> rfl),by repeat (first|(with_reducible first|exact HB.out|apply aZ|apply nZ|apply dZ|refine sZ ?_ GE307.out|refine sZ ?_ GE341.out)|exact HB.out)⟩
   subst c53
   have H1:((laws_markIntS.f kj15 t327 1).bind fun bt363=>((laws_markPatch.f kj15 t330 t331 t334 t335 t338 bt363.1).bind fun bt365=>(if bt365.1 < 0 then (laws_FnExactPatchDo.j1 kj15 l0 t323 t326 t342 true a1_0 l1_1 a1_2 l1_3 l1_4) else ((laws_eqIntS.f kj15 t342 t323).bind fun t369=>(if t369 = true then (laws_FnExactPatchDo.j1 kj15 l0 t323 t326 t342 (t345 != t326) a1_0 l1_1 a1_2 l1_3 l1_4) else (laws_FnExactPatchDo.j1 kj15 l0 t323 t326 t342 true a1_0 l1_1 a1_2 l1_3 l1_4)))))) = some r:=by rw [if_pos rfl] at H;exact H
   clear H
   have H:=H1
   clear H1
   replace H:=Option.bind_eq_some_iff.mp H
   obtain⟨⟨t363,t364⟩,A540,H⟩:=H
   replace H:((laws_markPatch.f kj15 t330 t331 t334 t335 t338 t363).bind fun bt365=>(if bt365.1 < 0 then (laws_FnExactPatchDo.j1 kj15 l0 t323 t326 t342 true a1_0 l1_1 a1_2 l1_3 l1_4) else ((laws_eqIntS.f kj15 t342 t323).bind fun t369=>(if t369 = true then (laws_FnExactPatchDo.j1 kj15 l0 t323 t326 t342 (t345 != t326) a1_0 l1_1 a1_2 l1_3 l1_4) else (laws_FnExactPatchDo.j1 kj15 l0 t323 t326 t342 true a1_0 l1_1 a1_2 l1_3 l1_4))))) = some r:=H
   have A54:=mk0 A540
   clear A540
   replace H:=Option.bind_eq_some_iff.mp H
   obtain⟨⟨t365,t366,t367,t368⟩,A550,H⟩:=H
   replace H:(if t365 < 0 then (laws_FnExactPatchDo.j1 kj15 l0 t323 t326 t342 true a1_0 l1_1 a1_2 l1_3 l1_4) else ((laws_eqIntS.f kj15 t342 t323).bind fun t369=>(if t369 = true then (laws_FnExactPatchDo.j1 kj15 l0 t323 t326 t342 (t345 != t326) a1_0 l1_1 a1_2 l1_3 l1_4) else (laws_FnExactPatchDo.j1 kj15 l0 t323 t326 t342 true a1_0 l1_1 a1_2 l1_3 l1_4)))) = some r:=H
   have A55:=mk0 A550
   clear A550
   have HC56:=mk0 H
   clear H
   try go_wp2_with (first|((with_reducible refine gate_callee (f:=7) rfl ?_);refine goesL_ (some 54) rfl rfl Try.func7 (by kernel_rfl) rfl #[.slice A0 l0.length c0] rfl (by (try simp only [mA,mC,mN]);first|done|rfl|(simp only [List.length_drop,List.length_take];rfl)) ?_;(with_reducible refine (laws_toIntS.calls kj15 _ _ l0 t347 _ ?side1 ?side2 A48.out).mono ?_);(case side1=>repeat (first|exact (Kd.C_below HR0.out HB.out)|(with_reducible first|apply aC|apply nC|apply dC)));(case side2=>exact HC0.out);rintro e w57 ⟨v348,rfl,ho0,hb⟩;refine⟨_,rfl,?_⟩;have n0_:=mk0 (Kd.R_elder' (by (with_reducible repeat (first|apply aR|apply nR|apply dR));exact HO_6.out) (Kd.R_base ho0) hb);have n1_:=mk0 (Kd.R_elder' (by (with_reducible repeat (first|apply aR|apply nR|apply dR));exact HO_8.out) (Kd.R_base ho0) hb);have n2_:=mk0 (Kd.R_elder' (by (with_reducible repeat (first|apply aR|apply nR|apply dR));exact HO_10.out) (Kd.R_base ho0) hb);have n3_:=mk0 (Kd.R_below (by (with_reducible repeat (first|apply aR|apply nR|apply dR));exact HO_342001.out) hb);have n4_:=mk0 (Kd.R_below (by (with_reducible repeat (first|apply aR|apply nR|apply dR));exact HO_342003.out) hb);have n5_:=mk0 (Kd.R_elder' (by (with_reducible repeat (first|apply aR|apply nR|apply dR));exact HO_342004.out) (Kd.R_base ho0) hb);have n6_:=mk0 (Kd.R_lower (Kd.R_new' (Kd.R_new' (Kd.R_new' (Kd.R_new' ho0 (Kd.R_lt (by (with_reducible repeat (first|apply aR|apply nR|apply dR));exact HO_6.out))) (Kd.R_lt (by (with_reducible repeat (first|apply aR|apply nR|apply dR));exact HO_8.out))) (Kd.R_lt (by (with_reducible repeat (first|apply aR|apply nR|apply dR));exact HO_10.out))) (Kd.R_lt (by (with_reducible repeat (first|apply aR|apply nR|apply dR));exact HO_342004.out))) (below_size (by repeat (first|(with_reducible first|exact HB.out|apply aZ|apply nZ|apply dZ|refine sZ ?_ GE307.out|refine sZ ?_ GE341.out)|exact HB.out))));have n7_:=mk0 (blk_below (g:=gb307) (o:=.cells #[.int .i64 a1_0,.slice A1_1 l1_1.length c1_1,.int .i64 a1_2,.slice A1_3 l1_3.length c1_3,.slice A1_4 l1_4.length c1_4] 37 (0,0)) (by (with_reducible repeat (first|apply nB|apply dB|apply aB));exact BK307.out) hb);have n8_:=mk0 (blk_below (g:=gb341) (o:=.cells #[.int .i64 t330,.slice Ao34 t331.length co34,.int .i64 t334,.slice Ao35 t335.length co35,.slice Ao36 t338.length co36] 27 (0,0)) (by (with_reducible repeat (first|apply nB|apply dB|apply aB));exact BK341.out) hb);have n9_:=mk0 (below_step (by repeat (first|(with_reducible first|exact HB.out|apply aZ|apply nZ|apply dZ|refine sZ ?_ GE307.out|refine sZ ?_ GE341.out)|exact HB.out)) hb);clear HO_6 HO_8 HO_10 HO_342001 HO_342003 HO_342004 BK307 BK341 HB;have HO_6:=n0_;have HO_8:=n1_;have HO_10:=n2_;have HO_342001:=n3_;have HO_342003:=n4_;have HO_342004:=n5_;have HO349:=n6_;have BK307:=n7_;have BK341:=n8_;have HB:=n9_;clear n0_ n1_ n2_ n3_ n4_ n5_ n6_ n7_ n8_ n9_;(try clear hb);(try clear hb2);(try clear hk);(try clear hi);(try clear ho0);obtain⟨Ao58,co58,eo58⟩:=Kd.R_slice HO349.out;subst eo58)|((with_reducible refine gate_callee (f:=10) rfl ?_);refine goesL_ (some 55) rfl rfl Try.func10 (by kernel_rfl) rfl #[.slice Ao39 t327.length co39,.slice Ao58 t347.length co58] rfl (by (try simp only [mA,mC,mN]);first|done|rfl|(simp only [List.length_drop,List.length_take];rfl)) ?_;(with_reducible refine (laws_eqIntS.calls kj15 _ _ t327 _ _ t347 true _ ?side1 ?side2 ?side3 ?side4 A49.out).mono ?_);(case side1=>repeat (first|exact (Kd.R_reads' HO_8.out).2.2|(with_reducible first|apply aC|apply nC|apply dC)));(case side2=>exact (Kd.R_reads' HO_8.out).2.1);(case side3=>repeat (first|exact (Kd.R_reads' HO349.out).2.2|(with_reducible first|apply aC|apply nC|apply dC)));(case side4=>exact (Kd.R_reads' HO349.out).2.1);rintro e w' ⟨rfl,⟨nd,rfl⟩⟩;refine⟨_,rfl,?_⟩))
   (try (rw [drewN_self w57];generalize hq_:World.drewN w57 _ = w57;have n0_:Aside0 (Kd.R (Kd.int .i64) 3 w57 w.heap.size (fun k_=>some k_ ≠ (v343:Value).ownBlock ∧ some k_ ≠ (.slice Ao36 t338.length co36:Value).ownBlock ∧ some k_ ≠ (v324:Value).ownBlock ∧ some k_ ≠ (.slice Ao39 t327.length co39:Value).ownBlock) (.slice Ao58 t347.length co58) t347):=⟨by rw [← hq_];exact (by (with_reducible repeat (first|apply aR|apply nR|apply dR));exact Kd.R_mono HO349.out (fun _ hk=>⟨hk.1.2,⟨hk.2,⟨hk.1.1.1.2,hk.1.1.2⟩⟩⟩))⟩;have n1_:Aside0 (Kd.R (Kd.int .i64) 3 w57 w.heap.size (fun k_=>some k_ ≠ (.slice Ao58 t347.length co58:Value).ownBlock ∧ some k_ ≠ (.slice Ao36 t338.length co36:Value).ownBlock ∧ some k_ ≠ (v324:Value).ownBlock ∧ some k_ ≠ (.slice Ao39 t327.length co39:Value).ownBlock) v343 t342):=⟨by rw [← hq_];exact (by (with_reducible repeat (first|apply aR|apply nR|apply dR));exact Kd.R_mono HO_10.out (fun _ hk=>⟨hk.2,⟨hk.1.2.2,⟨hk.1.1,hk.1.2.1⟩⟩⟩))⟩;have n2_:Aside0 (Kd.R (Kd.int .u64) 77 w57 w.heap.size (fun k_=>some k_ ≠ (.slice Ao35 t335.length co35:Value).ownBlock) (.slice Ao34 t331.length co34) t331):=⟨by rw [← hq_];exact (by (with_reducible repeat (first|apply aR|apply nR|apply dR));exact HO_342001.out)⟩;have n3_:Aside0 (Kd.R (Kd.int .u64) 77 w57 w.heap.size (fun k_=>some k_ ≠ (.slice Ao34 t331.length co34:Value).ownBlock) (.slice Ao35 t335.length co35) t335):=⟨by rw [← hq_];exact (by (with_reducible repeat (first|apply aR|apply nR|apply dR));exact HO_342003.out)⟩;have n4_:Aside0 (Kd.R (Kd.int .i64) 3 w57 w.heap.size (fun k_=>some k_ ≠ (.slice Ao58 t347.length co58:Value).ownBlock ∧ some k_ ≠ (v343:Value).ownBlock ∧ some k_ ≠ (v324:Value).ownBlock ∧ some k_ ≠ (.slice Ao39 t327.length co39:Value).ownBlock) (.slice Ao36 t338.length co36) t338):=⟨by rw [← hq_];exact (by (with_reducible repeat (first|apply aR|apply nR|apply dR));exact Kd.R_mono HO_342004.out (fun _ hk=>⟨hk.2,⟨hk.1.2.2,⟨hk.1.1,hk.1.2.1⟩⟩⟩))⟩;have n5_:Aside0 (Kd.R (Kd.int .i64) 3 w57 w.heap.size (fun k_=>some k_ ≠ (.slice Ao58 t347.length co58:Value).ownBlock ∧ some k_ ≠ (v343:Value).ownBlock ∧ some k_ ≠ (.slice Ao36 t338.length co36:Value).ownBlock ∧ some k_ ≠ (.slice Ao39 t327.length co39:Value).ownBlock) v324 t323):=⟨by rw [← hq_];exact (by (with_reducible repeat (first|apply aR|apply nR|apply dR));exact Kd.R_mono HO_6.out (fun _ hk=>⟨hk.2,⟨hk.1.2.1,⟨hk.1.2.2,hk.1.1⟩⟩⟩))⟩;have n6_:Aside0 (Kd.R (Kd.int .i64) 3 w57 w.heap.size (fun k_=>some k_ ≠ (.slice Ao58 t347.length co58:Value).ownBlock ∧ some k_ ≠ (v343:Value).ownBlock ∧ some k_ ≠ (.slice Ao36 t338.length co36:Value).ownBlock ∧ some k_ ≠ (v324:Value).ownBlock) (.slice Ao39 t327.length co39) t327):=⟨by rw [← hq_];exact (by (with_reducible repeat (first|apply aR|apply nR|apply dR));exact Kd.R_mono HO_8.out (fun _ hk=>⟨hk.2,⟨hk.1.2.1,⟨hk.1.2.2,hk.1.1⟩⟩⟩))⟩;have n7_:Aside0 (w57.heap[gb307]? = some (.cells #[.int .i64 a1_0,.slice A1_1 l1_1.length c1_1,.int .i64 a1_2,.slice A1_3 l1_3.length c1_3,.slice A1_4 l1_4.length c1_4] 37 (0,0))):=⟨by rw [← hq_];exact (by (with_reducible repeat (first|apply nB|apply dB|apply aB));exact BK307.out)⟩;have n8_:Aside0 (w57.heap[gb341]? = some (.cells #[.int .i64 t330,.slice Ao34 t331.length co34,.int .i64 t334,.slice Ao35 t335.length co35,.slice Ao36 t338.length co36] 27 (0,0))):=⟨by rw [← hq_];exact (by (with_reducible repeat (first|apply nB|apply dB|apply aB));exact BK341.out)⟩;have n9_:Aside0 (Below w.heap.size w w57):=⟨by rw [← hq_];exact (by repeat (first|(with_reducible first|exact HB.out|apply aZ|apply nZ|apply dZ|refine sZ ?_ GE307.out|refine sZ ?_ GE341.out)|exact HB.out))⟩;clear HO349 HO_10 HO_342001 HO_342003 HO_342004 HO_6 HO_8 BK307 BK341 HB hq_;have HO349:=n0_;have HO_10:=n1_;have HO_342001:=n2_;have HO_342003:=n3_;have HO_342004:=n4_;have HO_6:=n5_;have HO_8:=n6_;have BK307:=n7_;have BK341:=n8_;have HB:=n9_;clear n0_ n1_ n2_ n3_ n4_ n5_ n6_ n7_ n8_ n9_))
   have n0_:=mk0 (dR HO_6.out)
   have n1_:=mk0 (dR HO_8.out)
   have n2_:=mk0 (dR HO_10.out)
   have n3_:=mk0 (dR HO_342001.out)
   have n4_:=mk0 (dR HO_342003.out)
   have n5_:=mk0 (dR HO_342004.out)
   have n6_:=mk0 (dR HO349.out)
   have n7_:=mk0 (dB BK307.out)
   have n8_:=mk0 (dB BK341.out)
   have n9_:=mk0 (dZ HB.out)
   clear HO_6
   clear HO_8
   clear HO_10
   clear HO_342001
   clear HO_342003
   clear HO_342004
   clear HO349
   clear BK307
   clear BK341
   clear HB
   have HO_6:=n0_
   have HO_8:=n1_
   have HO_10:=n2_
   have HO_342001:=n3_
   have HO_342003:=n4_
   have HO_342004:=n5_
   have HO349:=n6_
   have BK307:=n7_
   have BK341:=n8_
   have HB:=n9_
   clear n0_ n1_ n2_ n3_ n4_ n5_ n6_ n7_ n8_ n9_
   refine start_ (n:=5) (S:=fun w'=>w'.cell? ⟨gb341,0,none⟩ = some (.int .i64 t330) ∧ w'.cell? ⟨gb341,1,none⟩ = some (.slice Ao34 t331.length co34) ∧ w'.cell? ⟨gb341,2,none⟩ = some (.int .i64 t334) ∧ w'.cell? ⟨gb341,3,none⟩ = some (.slice Ao35 t335.length co35) ∧ w'.cell? ⟨gb341,4,none⟩ = some (.slice Ao36 t338.length co36) ∧ w'.cell? ⟨gb307,0,none⟩ = some (.int .i64 a1_0) ∧ w'.cell? ⟨gb307,1,none⟩ = some (.slice A1_1 l1_1.length c1_1) ∧ w'.cell? ⟨gb307,2,none⟩ = some (.int .i64 a1_2) ∧ w'.cell? ⟨gb307,3,none⟩ = some (.slice A1_3 l1_3.length c1_3) ∧ w'.cell? ⟨gb307,4,none⟩ = some (.slice A1_4 l1_4.length c1_4)) (ds:=[]) #[false,false,false,false,false] (by kernel_rfl) rfl rfl ⟨(blk_cell BK341.out 0).trans rfl,(blk_cell BK341.out 1).trans rfl,(blk_cell BK341.out 2).trans rfl,(blk_cell BK341.out 3).trans rfl,(blk_cell BK341.out 4).trans rfl,(blk_cell BK307.out 0).trans rfl,(blk_cell BK307.out 1).trans rfl,(blk_cell BK307.out 2).trans rfl,(blk_cell BK307.out 3).trans rfl,(blk_cell BK307.out 4).trans rfl⟩ (fun hHeld=>?_)
   generalize w57.drew = w59 at HO_6 HO_8 HO_10 HO_342001 HO_342003 HO_342004 HO349 BK307 BK341 HB hHeld ⊢
   refine take_ (i:=0) (N:=some 57) (v:=?_) (a':=?_) #[true,false,false,false,false] rfl rfl (by kernel_rfl) (fun _ _ _ h=>h) (Or.inl ⟨by rfl,?_⟩) hHeld ?_ ?_
   rotate_left
   ·rintro w' ⟨s0,s1,s2,s3,s4,s5,s6,s7,s8,s9⟩
    go_simp
    with_reducible rfl
   rotate_left
   ·simp only [Act.put,sA,sO,sS,i64_w,i32_w]
    rfl
   refine take_ (i:=1) (N:=some 58) (v:=?_) (a':=?_) #[true,true,false,false,false] rfl rfl (by kernel_rfl) (fun _ _ _ h=>h) (Or.inl ⟨by rfl,?_⟩) hHeld ?_ ?_
   rotate_left
   ·rintro w' ⟨s0,s1,s2,s3,s4,s5,s6,s7,s8,s9⟩
    go_simp
    with_reducible rfl
   rotate_left
   ·simp only [Act.put,sA,sO,sS,i64_w,i32_w]
    rfl
   refine one_ (i:=2) (N:=some 59) #[true,true,true,false,false] rfl rfl (by kernel_rfl) (by decide) (fun K hK=>?_)
   refine goes_ Try.func16 (by kernel_rfl) rfl #[.agg #[.int .i64 a1_0,.slice A1_1 l1_1.length c1_1,.int .i64 a1_2,.slice A1_3 l1_3.length c1_3,.slice A1_4 l1_4.length c1_4]] (by rfl) rfl rfl (by (try simp only [mA,mC,mN]);first|done|rfl|(simp only [List.length_drop,List.length_take];rfl)) ?_
   with_reducible refine (laws_toPatch.calls kj15 a1_0 _ _ l1_1 a1_2 _ _ l1_3 _ _ l1_4 t351 t352 t355 t356 t359 _ ?side1 ?side2 ?side3 ?side4 ?side5 ?side6 A51.out).mono ?_
   (case side1=>repeat (first|exact (Kd.C_below HR1_1.out HB.out)|(with_reducible first|apply aC|apply nC|apply dC)))
   (case side2=>exact HC1_1.out)
   (case side3=>repeat (first|exact (Kd.C_below HR1_3.out HB.out)|(with_reducible first|apply aC|apply nC|apply dC)))
   (case side4=>exact HC1_3.out)
   (case side5=>repeat (first|exact (Kd.C_below HR1_4.out HB.out)|(with_reducible first|apply aC|apply nC|apply dC)))
   (case side6=>exact HC1_4.out)
   rintro e w60 ⟨v353,v357,v360,rfl,ho0,ho1,ho2,hb⟩
   refine⟨_,rfl,?_⟩
   have n0_:=mk0 (Kd.R_elder' (by (with_reducible repeat (first|apply aR|apply nR|apply dR));exact HO_6.out) (Kd.R_base ho2) hb)
   have n1_:=mk0 (Kd.R_elder' (by (with_reducible repeat (first|apply aR|apply nR|apply dR));exact HO_8.out) (Kd.R_base ho2) hb)
   have n2_:=mk0 (Kd.R_elder' (by (with_reducible repeat (first|apply aR|apply nR|apply dR));exact HO_10.out) (Kd.R_base ho2) hb)
   have n3_:=mk0 (Kd.R_mono (Kd.R_told (Kd.R_told (Kd.R_old (by (with_reducible repeat (first|apply aR|apply nR|apply dR));exact HO_342001.out) hb) (Kd.R_base ho0)) (Kd.R_base ho1)) (fun _ h_=>h_.1))
   have n4_:=mk0 (Kd.R_mono (Kd.R_told (Kd.R_told (Kd.R_old (by (with_reducible repeat (first|apply aR|apply nR|apply dR));exact HO_342003.out) hb) (Kd.R_base ho0)) (Kd.R_base ho1)) (fun _ h_=>h_.1))
   have n5_:=mk0 (Kd.R_elder' (by (with_reducible repeat (first|apply aR|apply nR|apply dR));exact HO_342004.out) (Kd.R_base ho2) hb)
   have n6_:=mk0 (Kd.R_elder' (by (with_reducible repeat (first|apply aR|apply nR|apply dR));exact HO349.out) (Kd.R_base ho2) hb)
   have n7_:=mk0 (Kd.R_lower (Kd.R_new' (Kd.R_new' ho0 (Kd.R_lt (by (with_reducible repeat (first|apply aR|apply nR|apply dR));exact HO_342001.out))) (Kd.R_lt (by (with_reducible repeat (first|apply aR|apply nR|apply dR));exact HO_342003.out))) (below_size (by repeat (first|(with_reducible first|exact HB.out|apply aZ|apply nZ|apply dZ|refine sZ ?_ GE307.out|refine sZ ?_ GE341.out)|exact HB.out))))
   have n8_:=mk0 (Kd.R_lower (Kd.R_new' (Kd.R_new' ho1 (Kd.R_lt (by (with_reducible repeat (first|apply aR|apply nR|apply dR));exact HO_342001.out))) (Kd.R_lt (by (with_reducible repeat (first|apply aR|apply nR|apply dR));exact HO_342003.out))) (below_size (by repeat (first|(with_reducible first|exact HB.out|apply aZ|apply nZ|apply dZ|refine sZ ?_ GE307.out|refine sZ ?_ GE341.out)|exact HB.out))))
   have n9_:=mk0 (Kd.R_lower (Kd.R_new' (Kd.R_new' (Kd.R_new' (Kd.R_new' (Kd.R_new' ho2 (Kd.R_lt (by (with_reducible repeat (first|apply aR|apply nR|apply dR));exact HO_6.out))) (Kd.R_lt (by (with_reducible repeat (first|apply aR|apply nR|apply dR));exact HO_8.out))) (Kd.R_lt (by (with_reducible repeat (first|apply aR|apply nR|apply dR));exact HO_10.out))) (Kd.R_lt (by (with_reducible repeat (first|apply aR|apply nR|apply dR));exact HO_342004.out))) (Kd.R_lt (by (with_reducible repeat (first|apply aR|apply nR|apply dR));exact HO349.out))) (below_size (by repeat (first|(with_reducible first|exact HB.out|apply aZ|apply nZ|apply dZ|refine sZ ?_ GE307.out|refine sZ ?_ GE341.out)|exact HB.out))))
   have n10_:=mk0 (blk_below (g:=gb307) (o:=.cells #[.int .i64 a1_0,.slice A1_1 l1_1.length c1_1,.int .i64 a1_2,.slice A1_3 l1_3.length c1_3,.slice A1_4 l1_4.length c1_4] 37 (0,0)) (by (with_reducible repeat (first|apply nB|apply dB|apply aB));exact BK307.out) hb)
   have n11_:=mk0 (blk_below (g:=gb341) (o:=.cells #[.int .i64 t330,.slice Ao34 t331.length co34,.int .i64 t334,.slice Ao35 t335.length co35,.slice Ao36 t338.length co36] 27 (0,0)) (by (with_reducible repeat (first|apply nB|apply dB|apply aB));exact BK341.out) hb)
   have n12_:=mk0 (below_step (by repeat (first|(with_reducible first|exact HB.out|apply aZ|apply nZ|apply dZ|refine sZ ?_ GE307.out|refine sZ ?_ GE341.out)|exact HB.out)) hb)
   clear HO_6
   clear HO_8
   clear HO_10
   clear HO_342001
   clear HO_342003
   clear HO_342004
   clear HO349
   clear BK307
   clear BK341
   clear HB
   have HO_6:=n0_
   have HO_8:=n1_
   have HO_10:=n2_
   have HO_342001:=n3_
   have HO_342003:=n4_
   have HO_342004:=n5_
   have HO349:=n6_
   have HO354:=n7_
   have HO358:=n8_
   have HO361:=n9_
   have BK307:=n10_
   have BK341:=n11_
   have HB:=n12_
   clear n0_ n1_ n2_ n3_ n4_ n5_ n6_ n7_ n8_ n9_ n10_ n11_ n12_
   (try clear hb)
   (try clear hb2)
   (try clear hk)
   (try clear hi)
   (try clear ho0)
   (try clear ho1)
   (try clear ho2)
   obtain⟨Ao61,co61,eo61⟩:=Kd.R_slice HO354.out
   (first|subst eo61|(injection eo61 with f1_ f2_ f3_;have f4_:=f1_.symm;have f5_:=f3_.symm;clear f1_ f2_ f3_;subst f4_;subst f5_))
   obtain⟨Ao62,co62,eo62⟩:=Kd.R_slice HO358.out
   (first|subst eo62|(injection eo62 with f1_ f2_ f3_;have f4_:=f1_.symm;have f5_:=f3_.symm;clear f1_ f2_ f3_;subst f4_;subst f5_))
   obtain⟨Ao63,co63,eo63⟩:=Kd.R_slice HO361.out
   (first|subst eo63|(injection eo63 with f1_ f2_ f3_;have f4_:=f1_.symm;have f5_:=f3_.symm;clear f1_ f2_ f3_;subst f4_;subst f5_))
   refine hK.out _ _ ⟨(blk_cell BK341.out 0).trans rfl,(blk_cell BK341.out 1).trans rfl,(blk_cell BK341.out 2).trans rfl,(blk_cell BK341.out 3).trans rfl,(blk_cell BK341.out 4).trans rfl,(blk_cell BK307.out 0).trans rfl,(blk_cell BK307.out 1).trans rfl,(blk_cell BK307.out 2).trans rfl,(blk_cell BK307.out 3).trans rfl,(blk_cell BK307.out 4).trans rfl⟩ (fun hHeld=>?_)
   clear hK K
   refine norm_ (a':=?_) ?_ ?_
   rotate_left
   ·show Act.put _ (some 59) _ = _
    simp only [Act.put,sA,sO,sS,i64_w,i32_w]
    rfl
   refine one_ (i:=3) (N:=some 60) #[true,true,true,true,false] rfl rfl (by kernel_rfl) (by decide) (fun K hK=>?_)
   refine goes_ Try.func9 (by kernel_rfl) rfl #[.agg #[.int .i64 t330,.slice Ao34 t331.length co34,.int .i64 t334,.slice Ao35 t335.length co35,.slice Ao36 t338.length co36],.agg #[.int .i64 t351,.slice Ao61 t352.length co61,.int .i64 t355,.slice Ao62 t356.length co62,.slice Ao63 t359.length co63]] (by rfl) rfl rfl (by (try simp only [mA,mC,mN]);first|done|rfl|(simp only [List.length_drop,List.length_take];rfl)) ?_
   with_reducible refine (laws_eqPatch.calls kj15 t330 _ _ t331 t334 _ _ t335 _ _ t338 t351 _ _ t352 t355 _ _ t356 _ _ t359 true _ ?side1 ?side2 ?side3 ?side4 ?side5 ?side6 ?side7 ?side8 ?side9 ?side10 ?side11 ?side12 A52.out).mono ?_
   (case side1=>repeat (first|exact (Kd.R_reads' HO_342001.out).2.2|(with_reducible first|apply aC|apply nC|apply dC)))
   (case side2=>exact (Kd.R_reads' HO_342001.out).2.1)
   (case side3=>repeat (first|exact (Kd.R_reads' HO_342003.out).2.2|(with_reducible first|apply aC|apply nC|apply dC)))
   (case side4=>exact (Kd.R_reads' HO_342003.out).2.1)
   (case side5=>repeat (first|exact (Kd.R_reads' HO_342004.out).2.2|(with_reducible first|apply aC|apply nC|apply dC)))
   (case side6=>exact (Kd.R_reads' HO_342004.out).2.1)
   (case side7=>repeat (first|exact (Kd.R_reads' HO354.out).2.2|(with_reducible first|apply aC|apply nC|apply dC)))
   (case side8=>exact (Kd.R_reads' HO354.out).2.1)
   (case side9=>repeat (first|exact (Kd.R_reads' HO358.out).2.2|(with_reducible first|apply aC|apply nC|apply dC)))
   (case side10=>exact (Kd.R_reads' HO358.out).2.1)
   (case side11=>repeat (first|exact (Kd.R_reads' HO361.out).2.2|(with_reducible first|apply aC|apply nC|apply dC)))
   (case side12=>exact (Kd.R_reads' HO361.out).2.1)
   rintro e w64 ⟨rfl,hb⟩
   refine⟨_,rfl,?_⟩
   have n0_:=mk0 (Kd.R_below (by (with_reducible repeat (first|apply aR|apply nR|apply dR));exact HO_6.out) hb)
   have n1_:=mk0 (Kd.R_below (by (with_reducible repeat (first|apply aR|apply nR|apply dR));exact HO_8.out) hb)
   have n2_:=mk0 (Kd.R_below (by (with_reducible repeat (first|apply aR|apply nR|apply dR));exact HO_10.out) hb)
   have n3_:=mk0 (Kd.R_below (by (with_reducible repeat (first|apply aR|apply nR|apply dR));exact HO_342001.out) hb)
   have n4_:=mk0 (Kd.R_below (by (with_reducible repeat (first|apply aR|apply nR|apply dR));exact HO_342003.out) hb)
   have n5_:=mk0 (Kd.R_below (by (with_reducible repeat (first|apply aR|apply nR|apply dR));exact HO_342004.out) hb)
   have n6_:=mk0 (Kd.R_below (by (with_reducible repeat (first|apply aR|apply nR|apply dR));exact HO349.out) hb)
   have n7_:=mk0 (Kd.R_below (by (with_reducible repeat (first|apply aR|apply nR|apply dR));exact HO354.out) hb)
   have n8_:=mk0 (Kd.R_below (by (with_reducible repeat (first|apply aR|apply nR|apply dR));exact HO358.out) hb)
   have n9_:=mk0 (Kd.R_below (by (with_reducible repeat (first|apply aR|apply nR|apply dR));exact HO361.out) hb)
   have n10_:=mk0 (blk_below (g:=gb307) (o:=.cells #[.int .i64 a1_0,.slice A1_1 l1_1.length c1_1,.int .i64 a1_2,.slice A1_3 l1_3.length c1_3,.slice A1_4 l1_4.length c1_4] 37 (0,0)) (by (with_reducible repeat (first|apply nB|apply dB|apply aB));exact BK307.out) hb)
   have n11_:=mk0 (blk_below (g:=gb341) (o:=.cells #[.int .i64 t330,.slice Ao34 t331.length co34,.int .i64 t334,.slice Ao35 t335.length co35,.slice Ao36 t338.length co36] 27 (0,0)) (by (with_reducible repeat (first|apply nB|apply dB|apply aB));exact BK341.out) hb)
   have n12_:=mk0 (below_step (by repeat (first|(with_reducible first|exact HB.out|apply aZ|apply nZ|apply dZ|refine sZ ?_ GE307.out|refine sZ ?_ GE341.out)|exact HB.out)) hb)
   clear HO_6
   clear HO_8
   clear HO_10
   clear HO_342001
   clear HO_342003
   clear HO_342004
   clear HO349
   clear HO354
   clear HO358
   clear HO361
   clear BK307
   clear BK341
   clear HB
   have HO_6:=n0_
   have HO_8:=n1_
   have HO_10:=n2_
   have HO_342001:=n3_
   have HO_342003:=n4_
   have HO_342004:=n5_
   have HO349:=n6_
   have HO354:=n7_
   have HO358:=n8_
   have HO361:=n9_
   have BK307:=n10_
   have BK341:=n11_
   have HB:=n12_
   clear n0_ n1_ n2_ n3_ n4_ n5_ n6_ n7_ n8_ n9_ n10_ n11_ n12_
   (try clear hb)
   (try clear hb2)
   (try clear hk)
   (try clear hi)
   refine hK.out _ _ ⟨(blk_cell BK341.out 0).trans rfl,(blk_cell BK341.out 1).trans rfl,(blk_cell BK341.out 2).trans rfl,(blk_cell BK341.out 3).trans rfl,(blk_cell BK341.out 4).trans rfl,(blk_cell BK307.out 0).trans rfl,(blk_cell BK307.out 1).trans rfl,(blk_cell BK307.out 2).trans rfl,(blk_cell BK307.out 3).trans rfl,(blk_cell BK307.out 4).trans rfl⟩ (fun hHeld=>?_)
   clear hK K
   refine norm_ (a':=?_) ?_ ?_
   rotate_left
   ·show Act.put _ (some 60) _ = _
    simp only [Act.put,sA,sO,sS,i64_w,i32_w]
    rfl
   refine pure_ (i:=4) (N:=some 61) (v:=?_) (a':=?_) #[true,true,true,true,true] rfl rfl (by kernel_rfl) (fun _ _ _ h=>h) (Or.inl ⟨by rfl,?_⟩) ?_ ?_
   rotate_left
   ·intro w'
    go_simp
    with_reducible rfl
   rotate_left
   ·simp only [Act.put,sA,sO,sS,i64_w,i32_w]
    rfl
   refine done_ (by kernel_rfl) ?_
   go_upto_region 20 with (first|((with_reducible refine gate_callee (f:=11) rfl ?_);refine goesL_ (some 64) rfl rfl Try.func11 (by kernel_rfl) rfl #[.slice Ao39 t327.length co39,.int .i64 1] rfl (by (try simp only [mA,mC,mN]);first|done|rfl|(simp only [List.length_drop,List.length_take];rfl)) ?_;(with_reducible refine (laws_markIntS.calls kj15 (fun k_=>some k_ = (.slice Ao39 t327.length co39:Value).ownBlock) (.slice Ao39 t327.length co39) t327 1 t363 t364 w _ ?side1 ?side2 A54.out).mono ?_);(case side1=>repeat (first|(with_reducible first|exact HB.out|apply aZ|apply nZ|apply dZ|refine sZ ?_ GE307.out|refine sZ ?_ GE341.out)|exact HB.out));(case side2=>exact Kd.R_tight rfl HO_8.out);rintro e w65 ⟨rfl,hy0,hb,hkp⟩;refine⟨_,rfl,?_⟩;have n0_:=mk0 (Kd.R_mono (ok':=fun k_=>some k_ ≠ (.slice Ao39 t327.length co39:Value).ownBlock ∧ some k_ ≠ (v343:Value).ownBlock ∧ some k_ ≠ (.slice Ao36 t338.length co36:Value).ownBlock ∧ some k_ ≠ (.slice Ao58 t347.length co58:Value).ownBlock ∧ some k_ ≠ (.slice Ao63 t359.length co63:Value).ownBlock) (Kd.R_keptB (HO_6.out) hkp (by first|exact fun k_ hk_ hs_=>(hk_.1.1.1) hs_|(intro k_ hk_ hs_;exact absurd hs_ (by simp only [hk_,ne_eq,or_self,not_false_eq_true])))) (by first|exact fun k_ hk_=>⟨hk_.1.1.1.1,hk_.1.1.1.2.1,hk_.1.1.1.2.2,hk_.1.1.2,hk_.1.2⟩|(intro k_ hk_;simp only [hk_,ne_eq,and_self,not_false_eq_true])));have n1_:=mk0 (Kd.R_reok rfl hy0 (fun k_ e_=>HO_8.out.1 k_ e_));have n2_:=mk0 (Kd.R_mono (ok':=fun k_=>some k_ ≠ (v324:Value).ownBlock ∧ some k_ ≠ (.slice Ao39 t327.length co39:Value).ownBlock ∧ some k_ ≠ (.slice Ao36 t338.length co36:Value).ownBlock ∧ some k_ ≠ (.slice Ao58 t347.length co58:Value).ownBlock ∧ some k_ ≠ (.slice Ao63 t359.length co63:Value).ownBlock) (Kd.R_keptB (HO_10.out) hkp (by first|exact fun k_ hk_ hs_=>(hk_.1.1.2.1) hs_|(intro k_ hk_ hs_;exact absurd hs_ (by simp only [hk_,ne_eq,or_self,not_false_eq_true])))) (by first|exact fun k_ hk_=>⟨hk_.1.1.1.1,hk_.1.1.1.2.1,hk_.1.1.1.2.2,hk_.1.1.2,hk_.1.2⟩|(intro k_ hk_;simp only [hk_,ne_eq,and_self,not_false_eq_true])));have n3_:=mk0 (Kd.R_mono (ok':=fun k_=>some k_ ≠ (.slice Ao35 t335.length co35:Value).ownBlock ∧ some k_ ≠ (.slice Ao61 t352.length co61:Value).ownBlock ∧ some k_ ≠ (.slice Ao62 t356.length co62:Value).ownBlock) (Kd.R_keptB ((Kd.R_apart' HO_342001.out (Kd.R_typed HO_8.out) (by decide))) hkp (by first|exact fun k_ hk_ hs_=>(hk_.2) hs_|(intro k_ hk_ hs_;exact absurd hs_ (by simp only [hk_,ne_eq,or_self,not_false_eq_true])))) (by first|exact fun k_ hk_=>⟨hk_.1.1.1.1,hk_.1.1.1.2,hk_.1.1.2⟩|(intro k_ hk_;simp only [hk_,ne_eq,and_self,not_false_eq_true])));have n4_:=mk0 (Kd.R_mono (ok':=fun k_=>some k_ ≠ (.slice Ao34 t331.length co34:Value).ownBlock ∧ some k_ ≠ (.slice Ao61 t352.length co61:Value).ownBlock ∧ some k_ ≠ (.slice Ao62 t356.length co62:Value).ownBlock) (Kd.R_keptB ((Kd.R_apart' HO_342003.out (Kd.R_typed HO_8.out) (by decide))) hkp (by first|exact fun k_ hk_ hs_=>(hk_.2) hs_|(intro k_ hk_ hs_;exact absurd hs_ (by simp only [hk_,ne_eq,or_self,not_false_eq_true])))) (by first|exact fun k_ hk_=>⟨hk_.1.1.1.1,hk_.1.1.1.2,hk_.1.1.2⟩|(intro k_ hk_;simp only [hk_,ne_eq,and_self,not_false_eq_true])));have n5_:=mk0 (Kd.R_mono (ok':=fun k_=>some k_ ≠ (v324:Value).ownBlock ∧ some k_ ≠ (.slice Ao39 t327.length co39:Value).ownBlock ∧ some k_ ≠ (v343:Value).ownBlock ∧ some k_ ≠ (.slice Ao58 t347.length co58:Value).ownBlock ∧ some k_ ≠ (.slice Ao63 t359.length co63:Value).ownBlock) (Kd.R_keptB (HO_342004.out) hkp (by first|exact fun k_ hk_ hs_=>(hk_.1.1.2.1) hs_|(intro k_ hk_ hs_;exact absurd hs_ (by simp only [hk_,ne_eq,or_self,not_false_eq_true])))) (by first|exact fun k_ hk_=>⟨hk_.1.1.1.1,hk_.1.1.1.2.1,hk_.1.1.1.2.2,hk_.1.1.2,hk_.1.2⟩|(intro k_ hk_;simp only [hk_,ne_eq,and_self,not_false_eq_true])));have n6_:=mk0 (blk_kept (by (with_reducible repeat (first|apply nB|apply dB|apply aB));exact BK307.out) hkp (fun hs_=>(fun e_=>(Kd.R_ne HO_8.out BK307.out (by decide)) e_) hs_));have n7_:=mk0 (blk_kept (by (with_reducible repeat (first|apply nB|apply dB|apply aB));exact BK341.out) hkp (fun hs_=>(fun e_=>(Kd.R_ne HO_8.out BK341.out (by decide)) e_) hs_));have n8_:=mk0 (Kd.R_mono (ok':=fun k_=>some k_ ≠ (v324:Value).ownBlock ∧ some k_ ≠ (.slice Ao39 t327.length co39:Value).ownBlock ∧ some k_ ≠ (v343:Value).ownBlock ∧ some k_ ≠ (.slice Ao36 t338.length co36:Value).ownBlock ∧ some k_ ≠ (.slice Ao63 t359.length co63:Value).ownBlock) (Kd.R_keptB (HO349.out) hkp (by first|exact fun k_ hk_ hs_=>(hk_.1.1.1.2) hs_|(intro k_ hk_ hs_;exact absurd hs_ (by simp only [hk_,ne_eq,or_self,not_false_eq_true])))) (by first|exact fun k_ hk_=>⟨hk_.1.1.1.1.1.2,hk_.1.1.1.1.2,hk_.1.1.1.2,hk_.1.1.2,hk_.1.2⟩|(intro k_ hk_;simp only [hk_,ne_eq,and_self,not_false_eq_true])));have n9_:=mk0 (Kd.R_mono (ok':=fun k_=>some k_ ≠ (.slice Ao34 t331.length co34:Value).ownBlock ∧ some k_ ≠ (.slice Ao35 t335.length co35:Value).ownBlock ∧ some k_ ≠ (.slice Ao62 t356.length co62:Value).ownBlock) (Kd.R_keptB ((Kd.R_apart' HO354.out (Kd.R_typed HO_8.out) (by decide))) hkp (by first|exact fun k_ hk_ hs_=>(hk_.2) hs_|(intro k_ hk_ hs_;exact absurd hs_ (by simp only [hk_,ne_eq,or_self,not_false_eq_true])))) (by first|exact fun k_ hk_=>⟨hk_.1.1.1.2,hk_.1.1.2,hk_.1.1.1.1⟩|(intro k_ hk_;simp only [hk_,ne_eq,and_self,not_false_eq_true])));have n10_:=mk0 (Kd.R_mono (ok':=fun k_=>some k_ ≠ (.slice Ao34 t331.length co34:Value).ownBlock ∧ some k_ ≠ (.slice Ao35 t335.length co35:Value).ownBlock ∧ some k_ ≠ (.slice Ao61 t352.length co61:Value).ownBlock) (Kd.R_keptB ((Kd.R_apart' HO358.out (Kd.R_typed HO_8.out) (by decide))) hkp (by first|exact fun k_ hk_ hs_=>(hk_.2) hs_|(intro k_ hk_ hs_;exact absurd hs_ (by simp only [hk_,ne_eq,or_self,not_false_eq_true])))) (by first|exact fun k_ hk_=>⟨hk_.1.1.1.2,hk_.1.1.2,hk_.1.1.1.1⟩|(intro k_ hk_;simp only [hk_,ne_eq,and_self,not_false_eq_true])));have n11_:=mk0 (Kd.R_mono (ok':=fun k_=>some k_ ≠ (v324:Value).ownBlock ∧ some k_ ≠ (.slice Ao39 t327.length co39:Value).ownBlock ∧ some k_ ≠ (v343:Value).ownBlock ∧ some k_ ≠ (.slice Ao36 t338.length co36:Value).ownBlock ∧ some k_ ≠ (.slice Ao58 t347.length co58:Value).ownBlock) (Kd.R_keptB (HO361.out) hkp (by first|exact fun k_ hk_ hs_=>(hk_.1.1.1.2) hs_|(intro k_ hk_ hs_;exact absurd hs_ (by simp only [hk_,ne_eq,or_self,not_false_eq_true])))) (by first|exact fun k_ hk_=>⟨hk_.1.1.1.1.1.2,hk_.1.1.1.1.2,hk_.1.1.1.2,hk_.1.1.2,hk_.1.2⟩|(intro k_ hk_;simp only [hk_,ne_eq,and_self,not_false_eq_true])));have n12_:=mk0 (hb);clear HO_6 HO_8 HO_10 HO_342001 HO_342003 HO_342004 BK307 BK341 HO349 HO354 HO358 HO361 HB;have HO_6:=n0_;have HO_8:=n1_;have HO_10:=n2_;have HO_342001:=n3_;have HO_342003:=n4_;have HO_342004:=n5_;have BK307:=n6_;have BK341:=n7_;have HO349:=n8_;have HO354:=n9_;have HO358:=n10_;have HO361:=n11_;have HB:=n12_;clear n0_ n1_ n2_ n3_ n4_ n5_ n6_ n7_ n8_ n9_ n10_ n11_ n12_;(try clear hb);(try clear hkp);(try clear hy0);have hnb66:=NB341_307.out;have hnc66:=NB307_341.out;have hcz67_0:w65.cell? ⟨gb341,0,none⟩ = some (.int .i64 t330):=(blk_cell BK341.out 0).trans rfl;have hcz67_1:w65.cell? ⟨gb341,1,none⟩ = some (.slice Ao34 t331.length co34):=(blk_cell BK341.out 1).trans rfl;have hcz67_2:w65.cell? ⟨gb341,2,none⟩ = some (.int .i64 t334):=(blk_cell BK341.out 2).trans rfl;have hcz67_3:w65.cell? ⟨gb341,3,none⟩ = some (.slice Ao35 t335.length co35):=(blk_cell BK341.out 3).trans rfl;have hcz67_4:w65.cell? ⟨gb341,4,none⟩ = some (.slice Ao36 t338.length co36):=(blk_cell BK341.out 4).trans rfl;have hfz67_0:=blk_frozen BK341.out 0;have hfz67_1:=blk_frozen BK341.out 1;have hfz67_2:=blk_frozen BK341.out 2;have hfz67_3:=blk_frozen BK341.out 3;have hfz67_4:=blk_frozen BK341.out 4)|((with_reducible refine gate_callee (f:=12) rfl ?_);refine goesL_ (some 67) rfl rfl Try.func12 (by kernel_rfl) rfl #[.agg #[.int .i64 t330,.slice Ao34 t331.length co34,.int .i64 t334,.slice Ao35 t335.length co35,.slice Ao36 t338.length co36],.int .i64 t363] rfl (by (try simp only [mA,mC,mN]);first|done|rfl|(simp only [List.length_drop,List.length_take];rfl)) ?_;(with_reducible refine (laws_markPatch.calls kj15 t330 (fun k_=>some k_ = (.slice Ao34 t331.length co34:Value).ownBlock) (.slice Ao34 t331.length co34) t331 t334 (fun k_=>some k_ = (.slice Ao35 t335.length co35:Value).ownBlock) (.slice Ao35 t335.length co35) t335 (fun k_=>some k_ = (.slice Ao36 t338.length co36:Value).ownBlock) (.slice Ao36 t338.length co36) t338 t363 t365 t366 t367 t368 w _ ?side1 ?side2 ?side3 ?side4 ?side5 ?side6 A55.out).mono ?_);(case side1=>repeat (first|(with_reducible first|exact HB.out|apply aZ|apply nZ|apply dZ|refine sZ ?_ GE307.out|refine sZ ?_ GE341.out)|exact HB.out));(case side2=>exact Kd.R_tight rfl HO_342001.out);(case side3=>exact fun k_ e_=>(HO_342001.out.1 k_ e_.symm).1);(case side4=>exact Kd.R_tight rfl HO_342003.out);(case side5=>exact fun k_ e_=>(HO_342003.out.1 k_ e_.symm).1);(case side6=>exact Kd.R_tight rfl HO_342004.out);rintro e w68 ⟨rfl,hy0,hy1,hy2,hb,hkp⟩;refine⟨_,rfl,?_⟩;have n0_:=mk0 (Kd.R_mono (ok':=fun k_=>some k_ ≠ (.slice Ao39 t327.length co39:Value).ownBlock ∧ some k_ ≠ (v343:Value).ownBlock ∧ some k_ ≠ (.slice Ao36 t338.length co36:Value).ownBlock ∧ some k_ ≠ (.slice Ao58 t347.length co58:Value).ownBlock ∧ some k_ ≠ (.slice Ao63 t359.length co63:Value).ownBlock) (Kd.R_keptB ((Kd.R_apart' (Kd.R_apart' HO_6.out (Kd.R_typed HO_342001.out) (by decide)) (Kd.R_typed HO_342003.out) (by decide))) hkp (by first|exact fun k_ hk_ hs_=>Or.elim hs_ (fun e_=>(hk_.1.2) e_) (fun e_=>Or.elim e_ (fun e_=>(hk_.2) e_) (fun e_=>(hk_.1.1.2.2.1) e_))|(intro k_ hk_ hs_;exact absurd hs_ (by simp only [hk_,ne_eq,or_self,not_false_eq_true])))) (by first|exact fun k_ hk_=>⟨hk_.1.1.1.1,hk_.1.1.1.2.1,hk_.1.1.1.2.2.1,hk_.1.1.1.2.2.2.1,hk_.1.1.1.2.2.2.2⟩|(intro k_ hk_;simp only [hk_,ne_eq,and_self,not_false_eq_true])));have n1_:=mk0 (Kd.R_mono (ok':=fun k_=>some k_ ≠ (v324:Value).ownBlock ∧ some k_ ≠ (v343:Value).ownBlock ∧ some k_ ≠ (.slice Ao36 t338.length co36:Value).ownBlock ∧ some k_ ≠ (.slice Ao58 t347.length co58:Value).ownBlock ∧ some k_ ≠ (.slice Ao63 t359.length co63:Value).ownBlock) (Kd.R_keptB ((Kd.R_apart' (Kd.R_apart' HO_8.out (Kd.R_typed HO_342001.out) (by decide)) (Kd.R_typed HO_342003.out) (by decide))) hkp (by first|exact fun k_ hk_ hs_=>Or.elim hs_ (fun e_=>(hk_.1.2) e_) (fun e_=>Or.elim e_ (fun e_=>(hk_.2) e_) (fun e_=>(hk_.1.1.1.1.2.2) e_))|(intro k_ hk_ hs_;exact absurd hs_ (by simp only [hk_,ne_eq,or_self,not_false_eq_true])))) (by first|exact fun k_ hk_=>⟨hk_.1.1.1.1.1.1,hk_.1.1.1.1.1.2.1,hk_.1.1.1.1.1.2.2,hk_.1.1.1.1.2,hk_.1.1.1.2⟩|(intro k_ hk_;simp only [hk_,ne_eq,and_self,not_false_eq_true])));have n2_:=mk0 (Kd.R_mono (ok':=fun k_=>some k_ ≠ (v324:Value).ownBlock ∧ some k_ ≠ (.slice Ao39 t327.length co39:Value).ownBlock ∧ some k_ ≠ (.slice Ao36 t338.length co36:Value).ownBlock ∧ some k_ ≠ (.slice Ao58 t347.length co58:Value).ownBlock ∧ some k_ ≠ (.slice Ao63 t359.length co63:Value).ownBlock) (Kd.R_keptB ((Kd.R_apart' (Kd.R_apart' HO_10.out (Kd.R_typed HO_342001.out) (by decide)) (Kd.R_typed HO_342003.out) (by decide))) hkp (by first|exact fun k_ hk_ hs_=>Or.elim hs_ (fun e_=>(hk_.1.2) e_) (fun e_=>Or.elim e_ (fun e_=>(hk_.2) e_) (fun e_=>(hk_.1.1.2.2.1) e_))|(intro k_ hk_ hs_;exact absurd hs_ (by simp only [hk_,ne_eq,or_self,not_false_eq_true])))) (by first|exact fun k_ hk_=>⟨hk_.1.1.1.1,hk_.1.1.1.2.1,hk_.1.1.1.2.2.1,hk_.1.1.1.2.2.2.1,hk_.1.1.1.2.2.2.2⟩|(intro k_ hk_;simp only [hk_,ne_eq,and_self,not_false_eq_true])));have n3_:=mk0 (Kd.R_reok rfl hy0 (fun k_ e_=>HO_342001.out.1 k_ e_));have n4_:=mk0 (Kd.R_reok rfl hy1 (fun k_ e_=>HO_342003.out.1 k_ e_));have n5_:=mk0 (Kd.R_reok rfl hy2 (fun k_ e_=>HO_342004.out.1 k_ e_));have n6_:=mk0 (blk_kept (by (with_reducible repeat (first|apply nB|apply dB|apply aB));exact BK307.out) hkp (fun hs_=>Or.elim hs_ (fun e_=>(fun e_=>(Kd.R_ne HO_342001.out BK307.out (by decide)) e_) e_) (fun e_=>Or.elim e_ (fun e_=>(fun e_=>(Kd.R_ne HO_342003.out BK307.out (by decide)) e_) e_) (fun e_=>(fun e_=>(Kd.R_ne HO_342004.out BK307.out (by decide)) e_) e_))));have n7_:=mk0 (blk_kept (by (with_reducible repeat (first|apply nB|apply dB|apply aB));exact BK341.out) hkp (fun hs_=>Or.elim hs_ (fun e_=>(fun e_=>(Kd.R_ne HO_342001.out BK341.out (by decide)) e_) e_) (fun e_=>Or.elim e_ (fun e_=>(fun e_=>(Kd.R_ne HO_342003.out BK341.out (by decide)) e_) e_) (fun e_=>(fun e_=>(Kd.R_ne HO_342004.out BK341.out (by decide)) e_) e_))));have n8_:=mk0 (Kd.R_mono (ok':=fun k_=>some k_ ≠ (v324:Value).ownBlock ∧ some k_ ≠ (.slice Ao39 t327.length co39:Value).ownBlock ∧ some k_ ≠ (v343:Value).ownBlock ∧ some k_ ≠ (.slice Ao36 t338.length co36:Value).ownBlock ∧ some k_ ≠ (.slice Ao63 t359.length co63:Value).ownBlock) (Kd.R_keptB ((Kd.R_apart' (Kd.R_apart' HO349.out (Kd.R_typed HO_342001.out) (by decide)) (Kd.R_typed HO_342003.out) (by decide))) hkp (by first|exact fun k_ hk_ hs_=>Or.elim hs_ (fun e_=>(hk_.1.2) e_) (fun e_=>Or.elim e_ (fun e_=>(hk_.2) e_) (fun e_=>(hk_.1.1.2.2.2.1) e_))|(intro k_ hk_ hs_;exact absurd hs_ (by simp only [hk_,ne_eq,or_self,not_false_eq_true])))) (by first|exact fun k_ hk_=>⟨hk_.1.1.1.1,hk_.1.1.1.2.1,hk_.1.1.1.2.2.1,hk_.1.1.1.2.2.2.1,hk_.1.1.1.2.2.2.2⟩|(intro k_ hk_;simp only [hk_,ne_eq,and_self,not_false_eq_true])));have n9_:=mk0 (Kd.R_mono (ok':=fun k_=>some k_ ≠ (.slice Ao34 t331.length co34:Value).ownBlock ∧ some k_ ≠ (.slice Ao35 t335.length co35:Value).ownBlock ∧ some k_ ≠ (.slice Ao62 t356.length co62:Value).ownBlock) (Kd.R_keptB ((Kd.R_apart' HO354.out (Kd.R_typed HO_342004.out) (by decide))) hkp (by first|exact fun k_ hk_ hs_=>Or.elim hs_ (fun e_=>(hk_.1.1) e_) (fun e_=>Or.elim e_ (fun e_=>(hk_.1.2.1) e_) (fun e_=>(hk_.2) e_))|(intro k_ hk_ hs_;exact absurd hs_ (by simp only [hk_,ne_eq,or_self,not_false_eq_true])))) (by first|exact fun k_ hk_=>⟨hk_.1.1.1,hk_.1.1.2.1,hk_.1.1.2.2⟩|(intro k_ hk_;simp only [hk_,ne_eq,and_self,not_false_eq_true])));have n10_:=mk0 (Kd.R_mono (ok':=fun k_=>some k_ ≠ (.slice Ao34 t331.length co34:Value).ownBlock ∧ some k_ ≠ (.slice Ao35 t335.length co35:Value).ownBlock ∧ some k_ ≠ (.slice Ao61 t352.length co61:Value).ownBlock) (Kd.R_keptB ((Kd.R_apart' HO358.out (Kd.R_typed HO_342004.out) (by decide))) hkp (by first|exact fun k_ hk_ hs_=>Or.elim hs_ (fun e_=>(hk_.1.1) e_) (fun e_=>Or.elim e_ (fun e_=>(hk_.1.2.1) e_) (fun e_=>(hk_.2) e_))|(intro k_ hk_ hs_;exact absurd hs_ (by simp only [hk_,ne_eq,or_self,not_false_eq_true])))) (by first|exact fun k_ hk_=>⟨hk_.1.1.1,hk_.1.1.2.1,hk_.1.1.2.2⟩|(intro k_ hk_;simp only [hk_,ne_eq,and_self,not_false_eq_true])));have n11_:=mk0 (Kd.R_mono (ok':=fun k_=>some k_ ≠ (v324:Value).ownBlock ∧ some k_ ≠ (.slice Ao39 t327.length co39:Value).ownBlock ∧ some k_ ≠ (v343:Value).ownBlock ∧ some k_ ≠ (.slice Ao36 t338.length co36:Value).ownBlock ∧ some k_ ≠ (.slice Ao58 t347.length co58:Value).ownBlock) (Kd.R_keptB ((Kd.R_apart' (Kd.R_apart' HO361.out (Kd.R_typed HO_342001.out) (by decide)) (Kd.R_typed HO_342003.out) (by decide))) hkp (by first|exact fun k_ hk_ hs_=>Or.elim hs_ (fun e_=>(hk_.1.2) e_) (fun e_=>Or.elim e_ (fun e_=>(hk_.2) e_) (fun e_=>(hk_.1.1.2.2.2.1) e_))|(intro k_ hk_ hs_;exact absurd hs_ (by simp only [hk_,ne_eq,or_self,not_false_eq_true])))) (by first|exact fun k_ hk_=>⟨hk_.1.1.1.1,hk_.1.1.1.2.1,hk_.1.1.1.2.2.1,hk_.1.1.1.2.2.2.1,hk_.1.1.1.2.2.2.2⟩|(intro k_ hk_;simp only [hk_,ne_eq,and_self,not_false_eq_true])));have n12_:=mk0 (hb);clear HO_6 HO_8 HO_10 HO_342001 HO_342003 HO_342004 BK307 BK341 HO349 HO354 HO358 HO361 HB;have HO_6:=n0_;have HO_8:=n1_;have HO_10:=n2_;have HO_342001:=n3_;have HO_342003:=n4_;have HO_342004:=n5_;have BK307:=n6_;have BK341:=n7_;have HO349:=n8_;have HO354:=n9_;have HO358:=n10_;have HO361:=n11_;have HB:=n12_;clear n0_ n1_ n2_ n3_ n4_ n5_ n6_ n7_ n8_ n9_ n10_ n11_ n12_;(try clear hb);(try clear hkp);(try clear hy0);(try clear hy1);(try clear hy2)))
   (try simp only [Act.put,sA,sO,sS])
   go_cut [80] (fun v80 wc=>∃ (kq:Nat) (x80_55:Bool),v80 = .bool x80_55 ∧ Aside0 (laws_FnExactPatchDo.j1 kq l0 t323 t326 t342 x80_55 a1_0 l1_1 a1_2 l1_3 l1_4 = some r) ∧ Aside0 (kq ≤ kj15) ∧ Aside0 (Kd.R (Kd.int .i64) 3 wc w.heap.size (fun k_=>some k_ ≠ (v343:Value).ownBlock ∧ some k_ ≠ ((.slice Ao36 t338.length co36):Value).ownBlock) v324 t323) ∧ Aside0 (Kd.R (Kd.int .i64) 3 wc w.heap.size (fun k_=>some k_ ≠ (v324:Value).ownBlock ∧ some k_ ≠ ((.slice Ao36 t338.length co36):Value).ownBlock) v343 t342) ∧ Aside0 (Kd.R (Kd.int .u64) 77 wc w.heap.size (fun k_=>some k_ ≠ ((.slice Ao35 t335.length co35):Value).ownBlock) (.slice Ao34 t331.length co34) t366) ∧ Aside0 (Kd.R (Kd.int .u64) 77 wc w.heap.size (fun k_=>some k_ ≠ ((.slice Ao34 t331.length co34):Value).ownBlock) (.slice Ao35 t335.length co35) t367) ∧ Aside0 (Kd.R (Kd.int .i64) 3 wc w.heap.size (fun k_=>some k_ ≠ (v324:Value).ownBlock ∧ some k_ ≠ (v343:Value).ownBlock) (.slice Ao36 t338.length co36) t368) ∧ Aside0 (wc.heap[gb307]? = some (.cells #[.int .i64 a1_0,(.slice A1_1 l1_1.length c1_1),.int .i64 a1_2,(.slice A1_3 l1_3.length c1_3),(.slice A1_4 l1_4.length c1_4)] 37 (0,0))) ∧ Aside0 (wc.heap[gb341]? = some (.cells #[.int .i64 t330,(.slice Ao34 t331.length co34),.int .i64 t334,(.slice Ao35 t335.length co35),(.slice Ao36 t338.length co36)] 27 (0,0))) ∧ Aside0 (Below w.heap.size w wc))
   case first =>
    have H:=HC56.out
    clear HC56
    by_cases c69:t365 < 0
    ·rw [if_pos c69] at H
     have c69b0:decide (t365 < 0) = true:=decide_eq_true c69
     clear c69
     (first|rw [c69b0]|(simp only [i64_w,i32_w];rw [c69b0])|skip)
     have H':=mk0 H
     clear H
     go_wp2
     go_meet
     case rel=>exact⟨_,(true),(by first|rfl|(simp;done)|(simp [*];done)),H',⟨by have:=HJ15.out;first|omega|exact Nat.le_refl _⟩,⟨by (with_reducible repeat (first|apply aR|apply nR|apply dR));exact Kd.R_mono HO_6.out (by first|exact fun _ hk=>⟨hk.2.1,hk.2.2.1⟩|(intro k_ hk;simp only [hk,ne_eq,and_self,not_false_eq_true]))⟩,⟨by (with_reducible repeat (first|apply aR|apply nR|apply dR));exact Kd.R_mono HO_10.out (by first|exact fun _ hk=>⟨hk.1,hk.2.2.1⟩|(intro k_ hk;simp only [hk,ne_eq,and_self,not_false_eq_true]))⟩,⟨by (with_reducible repeat (first|apply aR|apply nR|apply dR));exact Kd.R_mono HO_342001.out (by first|exact fun _ hk=>hk.1|(intro k_ hk;simp only [hk,ne_eq,and_self,not_false_eq_true]))⟩,⟨by (with_reducible repeat (first|apply aR|apply nR|apply dR));exact Kd.R_mono HO_342003.out (by first|exact fun _ hk=>hk.1|(intro k_ hk;simp only [hk,ne_eq,and_self,not_false_eq_true]))⟩,⟨by (with_reducible repeat (first|apply aR|apply nR|apply dR));exact Kd.R_mono HO_342004.out (by first|exact fun _ hk=>⟨hk.1,hk.2.2.1⟩|(intro k_ hk;simp only [hk,ne_eq,and_self,not_false_eq_true]))⟩,⟨by (with_reducible repeat (first|apply nB|apply dB|apply aB));exact BK307.out⟩,⟨by (with_reducible repeat (first|apply nB|apply dB|apply aB));exact BK341.out⟩,⟨by repeat (first|(with_reducible first|exact HB.out|apply aZ|apply nZ|apply dZ|refine sZ ?_ GE307.out|refine sZ ?_ GE341.out)|exact HB.out)⟩⟩
    rw [if_neg c69] at H
    have c69b0:decide (t365 < 0) = false:=decide_eq_false c69
    clear c69
    (first|rw [c69b0]|(simp only [i64_w,i32_w];rw [c69b0])|skip)
    replace H:=Option.bind_eq_some_iff.mp H
    obtain⟨t369,A700,H⟩:=H
    replace H:(if t369 = true then (laws_FnExactPatchDo.j1 kj15 l0 t323 t326 t342 (t345 != t326) a1_0 l1_1 a1_2 l1_3 l1_4) else (laws_FnExactPatchDo.j1 kj15 l0 t323 t326 t342 true a1_0 l1_1 a1_2 l1_3 l1_4)) = some r:=H
    have A70:=mk0 A700
    clear A700
    by_cases c71:t369 = true
    ·subst c71
     have H1:(laws_FnExactPatchDo.j1 kj15 l0 t323 t326 t342 (t345 != t326) a1_0 l1_1 a1_2 l1_3 l1_4) = some r:=by rw [if_pos rfl] at H;exact H
     clear H
     have H:=H1
     clear H1
     have H':=mk0 H
     clear H
     obtain⟨Ao72,co72,eo72⟩:=Kd.R_slice HO_10.out
     subst eo72
     obtain⟨Ao73,co73,eo73⟩:=Kd.R_slice HO_6.out
     subst eo73
     go_wp2_with (first|(go_at_call 10;(with_reducible refine (laws_eqIntS.calls kj15 _ _ t342 _ _ t323 true _ ?side1 ?side2 ?side3 ?side4 A70.out).mono ?_);(case side1=>repeat (first|exact (Kd.R_reads' HO_10.out).2.2|(with_reducible first|apply aC|apply nC|apply dC)));(case side2=>exact (Kd.R_reads' HO_10.out).2.1);(case side3=>repeat (first|exact (Kd.R_reads' HO_6.out).2.2|(with_reducible first|apply aC|apply nC|apply dC)));(case side4=>exact (Kd.R_reads' HO_6.out).2.1);rintro e w' ⟨rfl,⟨nd,rfl⟩⟩))
     go_meet
     case rel=>exact⟨_,((t345 != t326)),(by first|rfl|(simp;done)|(simp [*];done)),H',⟨by have:=HJ15.out;first|omega|exact Nat.le_refl _⟩,⟨by (with_reducible repeat (first|apply aR|apply nR|apply dR));exact Kd.R_mono HO_6.out (by first|exact fun _ hk=>⟨hk.2.1,hk.2.2.1⟩|(intro k_ hk;simp only [hk,ne_eq,and_self,not_false_eq_true]))⟩,⟨by (with_reducible repeat (first|apply aR|apply nR|apply dR));exact Kd.R_mono HO_10.out (by first|exact fun _ hk=>⟨hk.1,hk.2.2.1⟩|(intro k_ hk;simp only [hk,ne_eq,and_self,not_false_eq_true]))⟩,⟨by (with_reducible repeat (first|apply aR|apply nR|apply dR));exact Kd.R_mono HO_342001.out (by first|exact fun _ hk=>hk.1|(intro k_ hk;simp only [hk,ne_eq,and_self,not_false_eq_true]))⟩,⟨by (with_reducible repeat (first|apply aR|apply nR|apply dR));exact Kd.R_mono HO_342003.out (by first|exact fun _ hk=>hk.1|(intro k_ hk;simp only [hk,ne_eq,and_self,not_false_eq_true]))⟩,⟨by (with_reducible repeat (first|apply aR|apply nR|apply dR));exact Kd.R_mono HO_342004.out (by first|exact fun _ hk=>⟨hk.1,hk.2.2.1⟩|(intro k_ hk;simp only [hk,ne_eq,and_self,not_false_eq_true]))⟩,⟨by (with_reducible repeat (first|apply nB|apply dB|apply aB));exact BK307.out⟩,⟨by (with_reducible repeat (first|apply nB|apply dB|apply aB));exact BK341.out⟩,⟨by repeat (first|(with_reducible first|exact HB.out|apply aZ|apply nZ|apply dZ|refine sZ ?_ GE307.out|refine sZ ?_ GE341.out)|exact HB.out)⟩⟩
    replace c71:=Bool.eq_false_iff.mpr c71
    subst c71
    have H1:(laws_FnExactPatchDo.j1 kj15 l0 t323 t326 t342 true a1_0 l1_1 a1_2 l1_3 l1_4) = some r:=by rw [if_neg (show ¬ (false = true) by decide)] at H;exact H
    clear H
    have H:=H1
    clear H1
    have H':=mk0 H
    clear H
    obtain⟨Ao74,co74,eo74⟩:=Kd.R_slice HO_10.out
    subst eo74
    obtain⟨Ao75,co75,eo75⟩:=Kd.R_slice HO_6.out
    subst eo75
    go_wp2_with (first|(go_at_call 10;(with_reducible refine (laws_eqIntS.calls kj15 _ _ t342 _ _ t323 false _ ?side1 ?side2 ?side3 ?side4 A70.out).mono ?_);(case side1=>repeat (first|exact (Kd.R_reads' HO_10.out).2.2|(with_reducible first|apply aC|apply nC|apply dC)));(case side2=>exact (Kd.R_reads' HO_10.out).2.1);(case side3=>repeat (first|exact (Kd.R_reads' HO_6.out).2.2|(with_reducible first|apply aC|apply nC|apply dC)));(case side4=>exact (Kd.R_reads' HO_6.out).2.1);rintro e w' ⟨rfl,⟨nd,rfl⟩⟩))
    go_meet
    case rel=>exact⟨_,(true),(by first|rfl|(simp;done)|(simp [*];done)),H',⟨by have:=HJ15.out;first|omega|exact Nat.le_refl _⟩,⟨by (with_reducible repeat (first|apply aR|apply nR|apply dR));exact Kd.R_mono HO_6.out (by first|exact fun _ hk=>⟨hk.2.1,hk.2.2.1⟩|(intro k_ hk;simp only [hk,ne_eq,and_self,not_false_eq_true]))⟩,⟨by (with_reducible repeat (first|apply aR|apply nR|apply dR));exact Kd.R_mono HO_10.out (by first|exact fun _ hk=>⟨hk.1,hk.2.2.1⟩|(intro k_ hk;simp only [hk,ne_eq,and_self,not_false_eq_true]))⟩,⟨by (with_reducible repeat (first|apply aR|apply nR|apply dR));exact Kd.R_mono HO_342001.out (by first|exact fun _ hk=>hk.1|(intro k_ hk;simp only [hk,ne_eq,and_self,not_false_eq_true]))⟩,⟨by (with_reducible repeat (first|apply aR|apply nR|apply dR));exact Kd.R_mono HO_342003.out (by first|exact fun _ hk=>hk.1|(intro k_ hk;simp only [hk,ne_eq,and_self,not_false_eq_true]))⟩,⟨by (with_reducible repeat (first|apply aR|apply nR|apply dR));exact Kd.R_mono HO_342004.out (by first|exact fun _ hk=>⟨hk.1,hk.2.2.1⟩|(intro k_ hk;simp only [hk,ne_eq,and_self,not_false_eq_true]))⟩,⟨by (with_reducible repeat (first|apply nB|apply dB|apply aB));exact BK307.out⟩,⟨by (with_reducible repeat (first|apply nB|apply dB|apply aB));exact BK341.out⟩,⟨by repeat (first|(with_reducible first|exact HB.out|apply aZ|apply nZ|apply dZ|refine sZ ?_ GE307.out|refine sZ ?_ GE341.out)|exact HB.out)⟩⟩
   case rest =>
    clear HC56
    try clear c1
    try clear p2
    try clear c3
    try clear c3b0
    try clear c3b1
    try clear c4
    try clear c5
    try clear c6
    try clear c6b0
    try clear c7
    try clear c9
    try clear c10
    try clear c11
    try clear c12
    try clear c14
    try clear c15
    try clear c16
    try clear c17
    try clear c32
    try clear c42
    try clear c47
    try clear c50
    try clear c53
    try clear c66
    try clear c69
    try clear c69b0
    try clear c71
    try clear hcz18_0
    try clear hcz18_1
    try clear hcz18_2
    try clear hcz18_3
    try clear hcz18_4
    try clear hcz29_0
    try clear hcz29_1
    try clear hcz29_2
    try clear hcz29_3
    try clear hcz29_4
    try clear hcz33_0
    try clear hcz33_1
    try clear hcz33_2
    try clear hcz33_3
    try clear hcz33_4
    try clear hcz38_0
    try clear hcz38_1
    try clear hcz38_2
    try clear hcz38_3
    try clear hcz38_4
    try clear hcz67_0
    try clear hcz67_1
    try clear hcz67_2
    try clear hcz67_3
    try clear hcz67_4
    try clear hcz8_0
    try clear hcz8_1
    try clear hcz8_2
    try clear hcz8_3
    try clear hcz8_4
    try clear hfz18_0
    try clear hfz18_1
    try clear hfz18_2
    try clear hfz18_3
    try clear hfz18_4
    try clear hfz29_0
    try clear hfz29_1
    try clear hfz29_2
    try clear hfz29_3
    try clear hfz29_4
    try clear hfz33_0
    try clear hfz33_1
    try clear hfz33_2
    try clear hfz33_3
    try clear hfz33_4
    try clear hfz38_0
    try clear hfz38_1
    try clear hfz38_2
    try clear hfz38_3
    try clear hfz38_4
    try clear hfz67_0
    try clear hfz67_1
    try clear hfz67_2
    try clear hfz67_3
    try clear hfz67_4
    try clear hfz8_0
    try clear hfz8_1
    try clear hfz8_2
    try clear hfz8_3
    try clear hfz8_4
    try clear p2
    obtain⟨kq,x80_55,rfl,HA,HJ55,HO_6,HO_10,HO_342001,HO_342003,HO_342004,BK307,BK341,HB⟩:=hcut
    have hl342001_55:=(Kd.R_reads' HO_342001.out).1
    rw [hl342001_55] at HO_342001
    (try simp only [hl342001_55])
    (try simp only [hl342001_55] at BK307)
    (try simp only [hl342001_55] at BK341)
    (try simp only [hl342001_55] at HO_6)
    (try simp only [hl342001_55] at HO_10)
    (try simp only [hl342001_55] at HO_342003)
    (try simp only [hl342001_55] at HO_342004)
    have hl342003_55:=(Kd.R_reads' HO_342003.out).1
    rw [hl342003_55] at HO_342003
    (try simp only [hl342003_55])
    (try simp only [hl342003_55] at BK307)
    (try simp only [hl342003_55] at BK341)
    (try simp only [hl342003_55] at HO_6)
    (try simp only [hl342003_55] at HO_10)
    (try simp only [hl342003_55] at HO_342001)
    (try simp only [hl342003_55] at HO_342004)
    have hl342004_55:=(Kd.R_reads' HO_342004.out).1
    rw [hl342004_55] at HO_342004
    (try simp only [hl342004_55])
    (try simp only [hl342004_55] at BK307)
    (try simp only [hl342004_55] at BK341)
    (try simp only [hl342004_55] at HO_6)
    (try simp only [hl342004_55] at HO_10)
    (try simp only [hl342004_55] at HO_342001)
    (try simp only [hl342004_55] at HO_342003)
    cases kq with
    | zero=>exact absurd HA.out (by simp [laws_FnExactPatchDo.j1])
    | succ kj55 =>
     have H:=HA.out
     clear HA
     simp only [laws_FnExactPatchDo.j1] at H
     by_cases c76:x80_55 = true
     ·subst c76
      have H1:(some false) = some r:=by rw [if_pos rfl] at H;exact H
      clear H
      have H:=H1
      clear H1
      obtain rfl:=Option.some.inj H
      go_wp2
      go_ret
      exact⟨by first|rfl|(simp [errW_none,errW_some] <;> rfl)|(simp [*,errW_none,errW_some] <;> rfl),by repeat (first|(with_reducible first|exact HB.out|apply aZ|apply nZ|apply dZ|refine sZ ?_ GE307.out|refine sZ ?_ GE341.out)|exact HB.out)⟩
     replace c76:=Bool.eq_false_iff.mpr c76
     subst c76
     have H1:((laws_markIntS.f kj55 t342 1).bind fun bt370=>((laws_heldIntS.f kj55 bt370.2 1).bind fun t372=>(if t372 < 0 then (some false) else (if t372 = bt370.1 then ((laws_toIntS.f kj55 l0).bind fun t373=>((laws_toPatch.f kj55 a1_0 l1_1 a1_2 l1_3 l1_4).bind fun bt376=>((impl_PatchDo.f kj55 t373 bt376.1 bt376.2.1 bt376.2.2.1 bt376.2.2.2.1 bt376.2.2.2.2).bind fun bt387=>((laws_eqIntS.f kj55 bt387.1 t323).bind fun t391=>(if t391 = true then (laws_FnExactPatchDo.j2 kj55 bt370.2 bt370.1 (bt387.2 != t326)) else (laws_FnExactPatchDo.j2 kj55 bt370.2 bt370.1 true)))))) else (some false))))) = some r:=by rw [if_neg (show ¬ (false = true) by decide)] at H;exact H
     clear H
     have H:=H1
     clear H1
     replace H:=Option.bind_eq_some_iff.mp H
     obtain⟨⟨t370,t371⟩,A770,H⟩:=H
     replace H:((laws_heldIntS.f kj55 t371 1).bind fun t372=>(if t372 < 0 then (some false) else (if t372 = t370 then ((laws_toIntS.f kj55 l0).bind fun t373=>((laws_toPatch.f kj55 a1_0 l1_1 a1_2 l1_3 l1_4).bind fun bt376=>((impl_PatchDo.f kj55 t373 bt376.1 bt376.2.1 bt376.2.2.1 bt376.2.2.2.1 bt376.2.2.2.2).bind fun bt387=>((laws_eqIntS.f kj55 bt387.1 t323).bind fun t391=>(if t391 = true then (laws_FnExactPatchDo.j2 kj55 t371 t370 (bt387.2 != t326)) else (laws_FnExactPatchDo.j2 kj55 t371 t370 true)))))) else (some false)))) = some r:=H
     have A77:=mk0 A770
     clear A770
     replace H:=Option.bind_eq_some_iff.mp H
     obtain⟨t372,A780,H⟩:=H
     replace H:(if t372 < 0 then (some false) else (if t372 = t370 then ((laws_toIntS.f kj55 l0).bind fun t373=>((laws_toPatch.f kj55 a1_0 l1_1 a1_2 l1_3 l1_4).bind fun bt376=>((impl_PatchDo.f kj55 t373 bt376.1 bt376.2.1 bt376.2.2.1 bt376.2.2.2.1 bt376.2.2.2.2).bind fun bt387=>((laws_eqIntS.f kj55 bt387.1 t323).bind fun t391=>(if t391 = true then (laws_FnExactPatchDo.j2 kj55 t371 t370 (bt387.2 != t326)) else (laws_FnExactPatchDo.j2 kj55 t371 t370 true)))))) else (some false))) = some r:=H
     have A78:=mk0 A780
     clear A780
     by_cases c79:t372 < 0
     ·rw [if_pos c79] at H
      have c79b0:decide (t372 < 0) = true:=decide_eq_true c79
      clear c79
      obtain rfl:=Option.some.inj H
      obtain⟨Ao80,co80,eo80⟩:=Kd.R_slice HO_10.out
      subst eo80
      go_wp2_with (first|((with_reducible refine gate_callee (f:=11) rfl ?_);refine goesL_ (some 83) rfl rfl Try.func11 (by kernel_rfl) rfl #[.slice Ao80 t342.length co80,.int .i64 1] rfl (by (try simp only [mA,mC,mN]);first|done|rfl|(simp only [List.length_drop,List.length_take];rfl)) ?_;(with_reducible refine (laws_markIntS.calls kj55 (fun k_=>some k_ = (.slice Ao80 t342.length co80:Value).ownBlock) (.slice Ao80 t342.length co80) t342 1 t370 t371 w _ ?side1 ?side2 A77.out).mono ?_);(case side1=>repeat (first|(with_reducible first|exact HB.out|apply aZ|apply nZ|apply dZ|refine sZ ?_ GE307.out|refine sZ ?_ GE341.out)|exact HB.out));(case side2=>exact Kd.R_tight rfl HO_10.out);rintro e w81 ⟨rfl,hy0,hb,hkp⟩;refine⟨_,rfl,?_⟩;have n0_:=mk0 (Kd.R_mono (ok':=fun k_=>some k_ ≠ (.slice Ao80 t342.length co80:Value).ownBlock ∧ some k_ ≠ (.slice Ao36 t368.length co36:Value).ownBlock) (Kd.R_keptB (HO_6.out) hkp (by first|exact fun k_ hk_ hs_=>(hk_.1) hs_|(intro k_ hk_ hs_;exact absurd hs_ (by simp only [hk_,ne_eq,or_self,not_false_eq_true])))) (by first|exact fun k_ hk_=>⟨hk_.1.1,hk_.1.2⟩|(intro k_ hk_;simp only [hk_,ne_eq,and_self,not_false_eq_true])));have n1_:=mk0 (Kd.R_reok rfl hy0 (fun k_ e_=>HO_10.out.1 k_ e_));have n2_:=mk0 (Kd.R_mono (ok':=fun k_=>some k_ ≠ (.slice Ao35 t367.length co35:Value).ownBlock) (Kd.R_keptB ((Kd.R_apart' HO_342001.out (Kd.R_typed HO_10.out) (by decide))) hkp (by first|exact fun k_ hk_ hs_=>(hk_.2) hs_|(intro k_ hk_ hs_;exact absurd hs_ (by simp only [hk_,ne_eq,or_self,not_false_eq_true])))) (fun k_ hk_=>hk_.1.1));have n3_:=mk0 (Kd.R_mono (ok':=fun k_=>some k_ ≠ (.slice Ao34 t366.length co34:Value).ownBlock) (Kd.R_keptB ((Kd.R_apart' HO_342003.out (Kd.R_typed HO_10.out) (by decide))) hkp (by first|exact fun k_ hk_ hs_=>(hk_.2) hs_|(intro k_ hk_ hs_;exact absurd hs_ (by simp only [hk_,ne_eq,or_self,not_false_eq_true])))) (fun k_ hk_=>hk_.1.1));have n4_:=mk0 (Kd.R_mono (ok':=fun k_=>some k_ ≠ (v324:Value).ownBlock ∧ some k_ ≠ (.slice Ao80 t342.length co80:Value).ownBlock) (Kd.R_keptB (HO_342004.out) hkp (by first|exact fun k_ hk_ hs_=>(hk_.2) hs_|(intro k_ hk_ hs_;exact absurd hs_ (by simp only [hk_,ne_eq,or_self,not_false_eq_true])))) (by first|exact fun k_ hk_=>⟨hk_.1.1,hk_.1.2⟩|(intro k_ hk_;simp only [hk_,ne_eq,and_self,not_false_eq_true])));have n5_:=mk0 (blk_kept (by (with_reducible repeat (first|apply nB|apply dB|apply aB));exact BK307.out) hkp (fun hs_=>(fun e_=>(Kd.R_ne HO_10.out BK307.out (by decide)) e_) hs_));have n6_:=mk0 (blk_kept (by (with_reducible repeat (first|apply nB|apply dB|apply aB));exact BK341.out) hkp (fun hs_=>(fun e_=>(Kd.R_ne HO_10.out BK341.out (by decide)) e_) hs_));have n7_:=mk0 (hb);clear HO_6 HO_10 HO_342001 HO_342003 HO_342004 BK307 BK341 HB;have HO_6:=n0_;have HO_10:=n1_;have HO_342001:=n2_;have HO_342003:=n3_;have HO_342004:=n4_;have BK307:=n5_;have BK341:=n6_;have HB:=n7_;clear n0_ n1_ n2_ n3_ n4_ n5_ n6_ n7_;(try clear hb);(try clear hkp);(try clear hy0))|((with_reducible refine gate_callee (f:=18) rfl ?_);refine goesL_ (some 86) rfl rfl Try.func18 (by kernel_rfl) rfl #[.slice Ao80 t371.length co80,.int .i64 1] rfl (by (try simp only [mA,mC,mN]);first|done|(rw [show t371.length = t342.length from (Kd.R_reads' HO_10.out).1.symm] <;> rfl)|rfl|(simp only [List.length_drop,List.length_take];rfl)) ?_;(with_reducible refine (laws_heldIntS.calls kj55 _ _ t371 1 t372 _ ?side1 ?side2 A78.out).mono ?_);(case side1=>repeat (first|exact (Kd.R_reads' HO_10.out).2.2|(with_reducible first|apply aC|apply nC|apply dC)));(case side2=>rw [show t371.length = t342.length from (Kd.R_reads' HO_10.out).1.symm];exact (Kd.R_reads' HO_10.out).2.1);rintro e w' ⟨rfl,⟨nd,rfl⟩⟩;refine⟨_,rfl,?_⟩))
      go_ret
      exact⟨by first|rfl|(simp [errW_none,errW_some] <;> rfl)|(simp [*,errW_none,errW_some] <;> rfl),by repeat (first|(with_reducible first|exact HB.out|apply aZ|apply nZ|apply dZ|refine sZ ?_ GE307.out|refine sZ ?_ GE341.out)|exact HB.out)⟩
     rw [if_neg c79] at H
     have c79b0:decide (t372 < 0) = false:=decide_eq_false c79
     clear c79
     by_cases c82:t372 = t370
     rotate_left
     ·rw [if_neg c82] at H
      have c82b0:(t372 == t370) = false:=beq_eq_false_iff_ne.mpr c82
      have c82b1:(t372 != t370) = true:=bne_iff_ne.mpr c82
      obtain rfl:=Option.some.inj H
      obtain⟨Ao107,co107,eo107⟩:=Kd.R_slice HO_10.out
      subst eo107
      go_wp2_with (first|((with_reducible refine gate_callee (f:=11) rfl ?_);refine goesL_ (some 83) rfl rfl Try.func11 (by kernel_rfl) rfl #[.slice Ao107 t342.length co107,.int .i64 1] rfl (by (try simp only [mA,mC,mN]);first|done|rfl|(simp only [List.length_drop,List.length_take];rfl)) ?_;(with_reducible refine (laws_markIntS.calls kj55 (fun k_=>some k_ = (.slice Ao107 t342.length co107:Value).ownBlock) (.slice Ao107 t342.length co107) t342 1 t370 t371 w _ ?side1 ?side2 A77.out).mono ?_);(case side1=>repeat (first|(with_reducible first|exact HB.out|apply aZ|apply nZ|apply dZ|refine sZ ?_ GE307.out|refine sZ ?_ GE341.out)|exact HB.out));(case side2=>exact Kd.R_tight rfl HO_10.out);rintro e w108 ⟨rfl,hy0,hb,hkp⟩;refine⟨_,rfl,?_⟩;have n0_:=mk0 (Kd.R_mono (ok':=fun k_=>some k_ ≠ (.slice Ao107 t342.length co107:Value).ownBlock ∧ some k_ ≠ (.slice Ao36 t368.length co36:Value).ownBlock) (Kd.R_keptB (HO_6.out) hkp (by first|exact fun k_ hk_ hs_=>(hk_.1) hs_|(intro k_ hk_ hs_;exact absurd hs_ (by simp only [hk_,ne_eq,or_self,not_false_eq_true])))) (by first|exact fun k_ hk_=>⟨hk_.1.1,hk_.1.2⟩|(intro k_ hk_;simp only [hk_,ne_eq,and_self,not_false_eq_true])));have n1_:=mk0 (Kd.R_reok rfl hy0 (fun k_ e_=>HO_10.out.1 k_ e_));have n2_:=mk0 (Kd.R_mono (ok':=fun k_=>some k_ ≠ (.slice Ao35 t367.length co35:Value).ownBlock) (Kd.R_keptB ((Kd.R_apart' HO_342001.out (Kd.R_typed HO_10.out) (by decide))) hkp (by first|exact fun k_ hk_ hs_=>(hk_.2) hs_|(intro k_ hk_ hs_;exact absurd hs_ (by simp only [hk_,ne_eq,or_self,not_false_eq_true])))) (fun k_ hk_=>hk_.1.1));have n3_:=mk0 (Kd.R_mono (ok':=fun k_=>some k_ ≠ (.slice Ao34 t366.length co34:Value).ownBlock) (Kd.R_keptB ((Kd.R_apart' HO_342003.out (Kd.R_typed HO_10.out) (by decide))) hkp (by first|exact fun k_ hk_ hs_=>(hk_.2) hs_|(intro k_ hk_ hs_;exact absurd hs_ (by simp only [hk_,ne_eq,or_self,not_false_eq_true])))) (fun k_ hk_=>hk_.1.1));have n4_:=mk0 (Kd.R_mono (ok':=fun k_=>some k_ ≠ (v324:Value).ownBlock ∧ some k_ ≠ (.slice Ao107 t342.length co107:Value).ownBlock) (Kd.R_keptB (HO_342004.out) hkp (by first|exact fun k_ hk_ hs_=>(hk_.2) hs_|(intro k_ hk_ hs_;exact absurd hs_ (by simp only [hk_,ne_eq,or_self,not_false_eq_true])))) (by first|exact fun k_ hk_=>⟨hk_.1.1,hk_.1.2⟩|(intro k_ hk_;simp only [hk_,ne_eq,and_self,not_false_eq_true])));have n5_:=mk0 (blk_kept (by (with_reducible repeat (first|apply nB|apply dB|apply aB));exact BK307.out) hkp (fun hs_=>(fun e_=>(Kd.R_ne HO_10.out BK307.out (by decide)) e_) hs_));have n6_:=mk0 (blk_kept (by (with_reducible repeat (first|apply nB|apply dB|apply aB));exact BK341.out) hkp (fun hs_=>(fun e_=>(Kd.R_ne HO_10.out BK341.out (by decide)) e_) hs_));have n7_:=mk0 (hb);clear HO_6 HO_10 HO_342001 HO_342003 HO_342004 BK307 BK341 HB;have HO_6:=n0_;have HO_10:=n1_;have HO_342001:=n2_;have HO_342003:=n3_;have HO_342004:=n4_;have BK307:=n5_;have BK341:=n6_;have HB:=n7_;clear n0_ n1_ n2_ n3_ n4_ n5_ n6_ n7_;(try clear hb);(try clear hkp);(try clear hy0))|((with_reducible refine gate_callee (f:=18) rfl ?_);refine goesL_ (some 86) rfl rfl Try.func18 (by kernel_rfl) rfl #[.slice Ao107 t371.length co107,.int .i64 1] rfl (by (try simp only [mA,mC,mN]);first|done|(rw [show t371.length = t342.length from (Kd.R_reads' HO_10.out).1.symm] <;> rfl)|rfl|(simp only [List.length_drop,List.length_take];rfl)) ?_;(with_reducible refine (laws_heldIntS.calls kj55 _ _ t371 1 t372 _ ?side1 ?side2 A78.out).mono ?_);(case side1=>repeat (first|exact (Kd.R_reads' HO_10.out).2.2|(with_reducible first|apply aC|apply nC|apply dC)));(case side2=>rw [show t371.length = t342.length from (Kd.R_reads' HO_10.out).1.symm];exact (Kd.R_reads' HO_10.out).2.1);rintro e w' ⟨rfl,⟨nd,rfl⟩⟩;refine⟨_,rfl,?_⟩))
      go_ret
      exact⟨by first|rfl|(simp [errW_none,errW_some] <;> rfl)|(simp [*,errW_none,errW_some] <;> rfl),by repeat (first|(with_reducible first|exact HB.out|apply aZ|apply nZ|apply dZ|refine sZ ?_ GE307.out|refine sZ ?_ GE341.out)|exact HB.out)⟩
     rw [if_pos c82] at H
     have c82b0:(t372 == t370) = true:=beq_iff_eq.mpr c82
     have c82b1:(t372 != t370) = false:=bne_eq_false_iff_eq.mpr c82
     clear c82
     replace H:=Option.bind_eq_some_iff.mp H
     obtain⟨t373,A830,H⟩:=H
     replace H:((laws_toPatch.f kj55 a1_0 l1_1 a1_2 l1_3 l1_4).bind fun bt376=>((impl_PatchDo.f kj55 t373 bt376.1 bt376.2.1 bt376.2.2.1 bt376.2.2.2.1 bt376.2.2.2.2).bind fun bt387=>((laws_eqIntS.f kj55 bt387.1 t323).bind fun t391=>(if t391 = true then (laws_FnExactPatchDo.j2 kj55 t371 t370 (bt387.2 != t326)) else (laws_FnExactPatchDo.j2 kj55 t371 t370 true))))) = some r:=H
     have A83:=mk0 A830
     clear A830
     replace H:=Option.bind_eq_some_iff.mp H
     obtain⟨⟨t376,t377,t380,t381,t384⟩,A840,H⟩:=H
     replace H:((impl_PatchDo.f kj55 t373 t376 t377 t380 t381 t384).bind fun bt387=>((laws_eqIntS.f kj55 bt387.1 t323).bind fun t391=>(if t391 = true then (laws_FnExactPatchDo.j2 kj55 t371 t370 (bt387.2 != t326)) else (laws_FnExactPatchDo.j2 kj55 t371 t370 true)))) = some r:=H
     have A84:=mk0 A840
     clear A840
     replace H:=Option.bind_eq_some_iff.mp H
     obtain⟨⟨t387,t390⟩,A850,H⟩:=H
     replace H:((laws_eqIntS.f kj55 t387 t323).bind fun t391=>(if t391 = true then (laws_FnExactPatchDo.j2 kj55 t371 t370 (t390 != t326)) else (laws_FnExactPatchDo.j2 kj55 t371 t370 true))) = some r:=H
     have A85:=mk0 A850
     clear A850
     have HC86:=mk0 H
     clear H
     obtain⟨Ao87,co87,eo87⟩:=Kd.R_slice HO_10.out
     subst eo87
     try go_wp2_with (first|((with_reducible refine gate_callee (f:=11) rfl ?_);refine goesL_ (some 83) rfl rfl Try.func11 (by kernel_rfl) rfl #[.slice Ao87 t342.length co87,.int .i64 1] rfl (by (try simp only [mA,mC,mN]);first|done|rfl|(simp only [List.length_drop,List.length_take];rfl)) ?_;(with_reducible refine (laws_markIntS.calls kj55 (fun k_=>some k_ = (.slice Ao87 t342.length co87:Value).ownBlock) (.slice Ao87 t342.length co87) t342 1 t370 t371 w _ ?side1 ?side2 A77.out).mono ?_);(case side1=>repeat (first|(with_reducible first|exact HB.out|apply aZ|apply nZ|apply dZ|refine sZ ?_ GE307.out|refine sZ ?_ GE341.out)|exact HB.out));(case side2=>exact Kd.R_tight rfl HO_10.out);rintro e w88 ⟨rfl,hy0,hb,hkp⟩;refine⟨_,rfl,?_⟩;have n0_:=mk0 (Kd.R_mono (ok':=fun k_=>some k_ ≠ (.slice Ao87 t342.length co87:Value).ownBlock ∧ some k_ ≠ (.slice Ao36 t368.length co36:Value).ownBlock) (Kd.R_keptB (HO_6.out) hkp (by first|exact fun k_ hk_ hs_=>(hk_.1) hs_|(intro k_ hk_ hs_;exact absurd hs_ (by simp only [hk_,ne_eq,or_self,not_false_eq_true])))) (by first|exact fun k_ hk_=>⟨hk_.1.1,hk_.1.2⟩|(intro k_ hk_;simp only [hk_,ne_eq,and_self,not_false_eq_true])));have n1_:=mk0 (Kd.R_reok rfl hy0 (fun k_ e_=>HO_10.out.1 k_ e_));have n2_:=mk0 (Kd.R_mono (ok':=fun k_=>some k_ ≠ (.slice Ao35 t367.length co35:Value).ownBlock) (Kd.R_keptB ((Kd.R_apart' HO_342001.out (Kd.R_typed HO_10.out) (by decide))) hkp (by first|exact fun k_ hk_ hs_=>(hk_.2) hs_|(intro k_ hk_ hs_;exact absurd hs_ (by simp only [hk_,ne_eq,or_self,not_false_eq_true])))) (fun k_ hk_=>hk_.1.1));have n3_:=mk0 (Kd.R_mono (ok':=fun k_=>some k_ ≠ (.slice Ao34 t366.length co34:Value).ownBlock) (Kd.R_keptB ((Kd.R_apart' HO_342003.out (Kd.R_typed HO_10.out) (by decide))) hkp (by first|exact fun k_ hk_ hs_=>(hk_.2) hs_|(intro k_ hk_ hs_;exact absurd hs_ (by simp only [hk_,ne_eq,or_self,not_false_eq_true])))) (fun k_ hk_=>hk_.1.1));have n4_:=mk0 (Kd.R_mono (ok':=fun k_=>some k_ ≠ (v324:Value).ownBlock ∧ some k_ ≠ (.slice Ao87 t342.length co87:Value).ownBlock) (Kd.R_keptB (HO_342004.out) hkp (by first|exact fun k_ hk_ hs_=>(hk_.2) hs_|(intro k_ hk_ hs_;exact absurd hs_ (by simp only [hk_,ne_eq,or_self,not_false_eq_true])))) (by first|exact fun k_ hk_=>⟨hk_.1.1,hk_.1.2⟩|(intro k_ hk_;simp only [hk_,ne_eq,and_self,not_false_eq_true])));have n5_:=mk0 (blk_kept (by (with_reducible repeat (first|apply nB|apply dB|apply aB));exact BK307.out) hkp (fun hs_=>(fun e_=>(Kd.R_ne HO_10.out BK307.out (by decide)) e_) hs_));have n6_:=mk0 (blk_kept (by (with_reducible repeat (first|apply nB|apply dB|apply aB));exact BK341.out) hkp (fun hs_=>(fun e_=>(Kd.R_ne HO_10.out BK341.out (by decide)) e_) hs_));have n7_:=mk0 (hb);clear HO_6 HO_10 HO_342001 HO_342003 HO_342004 BK307 BK341 HB;have HO_6:=n0_;have HO_10:=n1_;have HO_342001:=n2_;have HO_342003:=n3_;have HO_342004:=n4_;have BK307:=n5_;have BK341:=n6_;have HB:=n7_;clear n0_ n1_ n2_ n3_ n4_ n5_ n6_ n7_;(try clear hb);(try clear hkp);(try clear hy0))|((with_reducible refine gate_callee (f:=18) rfl ?_);refine goesL_ (some 86) rfl rfl Try.func18 (by kernel_rfl) rfl #[.slice Ao87 t371.length co87,.int .i64 1] rfl (by (try simp only [mA,mC,mN]);first|done|(rw [show t371.length = t342.length from (Kd.R_reads' HO_10.out).1.symm] <;> rfl)|rfl|(simp only [List.length_drop,List.length_take];rfl)) ?_;(with_reducible refine (laws_heldIntS.calls kj55 _ _ t371 1 t372 _ ?side1 ?side2 A78.out).mono ?_);(case side1=>repeat (first|exact (Kd.R_reads' HO_10.out).2.2|(with_reducible first|apply aC|apply nC|apply dC)));(case side2=>rw [show t371.length = t342.length from (Kd.R_reads' HO_10.out).1.symm];exact (Kd.R_reads' HO_10.out).2.1);rintro e w' ⟨rfl,⟨nd,rfl⟩⟩;refine⟨_,rfl,?_⟩))
     (try (rw [drewN_self w88];generalize hq_:World.drewN w88 _ = w88;have n0_:Aside0 (Kd.R (Kd.int .i64) 3 w88 w.heap.size (fun k_=>some k_ ≠ (.slice Ao36 t368.length co36:Value).ownBlock ∧ some k_ ≠ (v324:Value).ownBlock) (.slice Ao87 t342.length co87) t371):=⟨by rw [← hq_];exact (by (with_reducible repeat (first|apply aR|apply nR|apply dR));exact Kd.R_mono HO_10.out (by first|exact fun _ hk=>⟨hk.2,hk.1⟩|(intro k_ hk;simp only [hk,ne_eq,and_self,not_false_eq_true])))⟩;have n1_:Aside0 (Kd.R (Kd.int .u64) 77 w88 w.heap.size (fun k_=>some k_ ≠ (.slice Ao35 t367.length co35:Value).ownBlock) (.slice Ao34 t366.length co34) t366):=⟨by rw [← hq_];exact (by (with_reducible repeat (first|apply aR|apply nR|apply dR));exact HO_342001.out)⟩;have n2_:Aside0 (Kd.R (Kd.int .u64) 77 w88 w.heap.size (fun k_=>some k_ ≠ (.slice Ao34 t366.length co34:Value).ownBlock) (.slice Ao35 t367.length co35) t367):=⟨by rw [← hq_];exact (by (with_reducible repeat (first|apply aR|apply nR|apply dR));exact HO_342003.out)⟩;have n3_:Aside0 (Kd.R (Kd.int .i64) 3 w88 w.heap.size (fun k_=>some k_ ≠ (.slice Ao87 t342.length co87:Value).ownBlock ∧ some k_ ≠ (v324:Value).ownBlock) (.slice Ao36 t368.length co36) t368):=⟨by rw [← hq_];exact (by (with_reducible repeat (first|apply aR|apply nR|apply dR));exact Kd.R_mono HO_342004.out (by first|exact fun _ hk=>⟨hk.2,hk.1⟩|(intro k_ hk;simp only [hk,ne_eq,and_self,not_false_eq_true])))⟩;have n4_:Aside0 (Kd.R (Kd.int .i64) 3 w88 w.heap.size (fun k_=>some k_ ≠ (.slice Ao87 t342.length co87:Value).ownBlock ∧ some k_ ≠ (.slice Ao36 t368.length co36:Value).ownBlock) v324 t323):=⟨by rw [← hq_];exact (by (with_reducible repeat (first|apply aR|apply nR|apply dR));exact HO_6.out)⟩;have n5_:Aside0 (w88.heap[gb307]? = some (.cells #[.int .i64 a1_0,.slice A1_1 l1_1.length c1_1,.int .i64 a1_2,.slice A1_3 l1_3.length c1_3,.slice A1_4 l1_4.length c1_4] 37 (0,0))):=⟨by rw [← hq_];exact (by (with_reducible repeat (first|apply nB|apply dB|apply aB));exact BK307.out)⟩;have n6_:Aside0 (w88.heap[gb341]? = some (.cells #[.int .i64 t330,.slice Ao34 t366.length co34,.int .i64 t334,.slice Ao35 t367.length co35,.slice Ao36 t368.length co36] 27 (0,0))):=⟨by rw [← hq_];exact (by (with_reducible repeat (first|apply nB|apply dB|apply aB));exact BK341.out)⟩;have n7_:Aside0 (Below w.heap.size w w88):=⟨by rw [← hq_];exact (by repeat (first|(with_reducible first|exact HB.out|apply aZ|apply nZ|apply dZ|refine sZ ?_ GE307.out|refine sZ ?_ GE341.out)|exact HB.out))⟩;clear HO_10 HO_342001 HO_342003 HO_342004 HO_6 BK307 BK341 HB hq_;have HO_10:=n0_;have HO_342001:=n1_;have HO_342003:=n2_;have HO_342004:=n3_;have HO_6:=n4_;have BK307:=n5_;have BK341:=n6_;have HB:=n7_;clear n0_ n1_ n2_ n3_ n4_ n5_ n6_ n7_))
     have n0_:=mk0 (dR HO_6.out)
     have n1_:=mk0 (dR HO_10.out)
     have n2_:=mk0 (dR HO_342001.out)
     have n3_:=mk0 (dR HO_342003.out)
     have n4_:=mk0 (dR HO_342004.out)
     have n5_:=mk0 (dB BK307.out)
     have n6_:=mk0 (dB BK341.out)
     have n7_:=mk0 (dZ HB.out)
     clear HO_6
     clear HO_10
     clear HO_342001
     clear HO_342003
     clear HO_342004
     clear BK307
     clear BK341
     clear HB
     have HO_6:=n0_
     have HO_10:=n1_
     have HO_342001:=n2_
     have HO_342003:=n3_
     have HO_342004:=n4_
     have BK307:=n5_
     have BK341:=n6_
     have HB:=n7_
     clear n0_ n1_ n2_ n3_ n4_ n5_ n6_ n7_
     refine start_ (n:=10) (S:=fun w'=>w'.cell? ⟨gb307,0,none⟩ = some (.int .i64 a1_0) ∧ w'.cell? ⟨gb307,1,none⟩ = some (.slice A1_1 l1_1.length c1_1) ∧ w'.cell? ⟨gb307,2,none⟩ = some (.int .i64 a1_2) ∧ w'.cell? ⟨gb307,3,none⟩ = some (.slice A1_3 l1_3.length c1_3) ∧ w'.cell? ⟨gb307,4,none⟩ = some (.slice A1_4 l1_4.length c1_4)) (ds:=[]) laws_FnExactPatchDo.m0 (by kernel_rfl) rfl rfl ⟨(blk_cell BK307.out 0).trans rfl,(blk_cell BK307.out 1).trans rfl,(blk_cell BK307.out 2).trans rfl,(blk_cell BK307.out 3).trans rfl,(blk_cell BK307.out 4).trans rfl⟩ (fun hHeld=>?_);refine with_tabW laws_FnExactPatchDo.tab30 laws_FnExactPatchDo.bits30 (fun HT_ HW_=>?_)
     generalize w88.drew = w89 at HO_6 HO_10 HO_342001 HO_342003 HO_342004 BK307 BK341 HB hHeld ⊢
     refine pure_ (i:=0) (N:=some 93) (v:=?_) (a':=?_) laws_FnExactPatchDo.m1 rfl rfl (any_of HT_.out (by kernel_rfl)) (fun _ _ _ h=>h) (Or.inl ⟨by rfl,?_⟩) ?_ ?_
     rotate_left
     ·intro w'
      go_simp
      with_reducible rfl
     rotate_left
     ·simp only [Act.put,sA,sO,sS,i64_w,i32_w]
      rfl
     refine take_ (i:=2) (N:=some 95) (v:=?_) (a':=?_) laws_FnExactPatchDo.m2 rfl rfl (take_ofW HT_.out HW_.out (by kernel_rfl)) (fun _ _ _ h=>h) (Or.inl ⟨by rfl,?_⟩) hHeld ?_ ?_
     rotate_left
     ·rintro w' ⟨s0,s1,s2,s3,s4⟩
      go_simp
      with_reducible rfl
     rotate_left
     ·simp only [Act.put,sA,sO,sS,i64_w,i32_w]
      rfl
     refine one_ (i:=1) (N:=some 94) laws_FnExactPatchDo.m3 rfl rfl (one_of HT_.out (by kernel_rfl)) (by decide) (fun K hK=>?_)
     refine goes_ Try.func7 (by kernel_rfl) rfl #[.slice A0 l0.length c0] (by rfl) rfl rfl (by (try simp only [mA,mC,mN]);first|done|rfl|(simp only [List.length_drop,List.length_take];rfl)) ?_
     with_reducible refine (laws_toIntS.calls kj55 _ _ l0 t373 _ ?side1 ?side2 A83.out).mono ?_
     (case side1=>repeat (first|exact (Kd.C_below HR0.out HB.out)|(with_reducible first|apply aC|apply nC|apply dC)))
     (case side2=>exact HC0.out)
     rintro e w90 ⟨v374,rfl,ho0,hb⟩
     refine⟨_,rfl,?_⟩
     have n0_:=mk0 (Kd.R_elder' (by (with_reducible repeat (first|apply aR|apply nR|apply dR));exact HO_6.out) (Kd.R_base ho0) hb)
     have n1_:=mk0 (Kd.R_elder' (by (with_reducible repeat (first|apply aR|apply nR|apply dR));exact HO_10.out) (Kd.R_base ho0) hb)
     have n2_:=mk0 (Kd.R_below (by (with_reducible repeat (first|apply aR|apply nR|apply dR));exact HO_342001.out) hb)
     have n3_:=mk0 (Kd.R_below (by (with_reducible repeat (first|apply aR|apply nR|apply dR));exact HO_342003.out) hb)
     have n4_:=mk0 (Kd.R_elder' (by (with_reducible repeat (first|apply aR|apply nR|apply dR));exact HO_342004.out) (Kd.R_base ho0) hb)
     have n5_:=mk0 (Kd.R_lower (Kd.R_new' (Kd.R_new' (Kd.R_new' ho0 (Kd.R_lt (by (with_reducible repeat (first|apply aR|apply nR|apply dR));exact HO_6.out))) (Kd.R_lt (by (with_reducible repeat (first|apply aR|apply nR|apply dR));exact HO_10.out))) (Kd.R_lt (by (with_reducible repeat (first|apply aR|apply nR|apply dR));exact HO_342004.out))) (below_size (by repeat (first|(with_reducible first|exact HB.out|apply aZ|apply nZ|apply dZ|refine sZ ?_ GE307.out|refine sZ ?_ GE341.out)|exact HB.out))))
     have n6_:=mk0 (blk_below (g:=gb307) (o:=.cells #[.int .i64 a1_0,.slice A1_1 l1_1.length c1_1,.int .i64 a1_2,.slice A1_3 l1_3.length c1_3,.slice A1_4 l1_4.length c1_4] 37 (0,0)) (by (with_reducible repeat (first|apply nB|apply dB|apply aB));exact BK307.out) hb)
     have n7_:=mk0 (blk_below (g:=gb341) (o:=.cells #[.int .i64 t330,.slice Ao34 t366.length co34,.int .i64 t334,.slice Ao35 t367.length co35,.slice Ao36 t368.length co36] 27 (0,0)) (by (with_reducible repeat (first|apply nB|apply dB|apply aB));exact BK341.out) hb)
     have n8_:=mk0 (below_step (by repeat (first|(with_reducible first|exact HB.out|apply aZ|apply nZ|apply dZ|refine sZ ?_ GE307.out|refine sZ ?_ GE341.out)|exact HB.out)) hb)
     clear HO_6
     clear HO_10
     clear HO_342001
     clear HO_342003
     clear HO_342004
     clear BK307
     clear BK341
     clear HB
     have HO_6:=n0_
     have HO_10:=n1_
     have HO_342001:=n2_
     have HO_342003:=n3_
     have HO_342004:=n4_
     have HO375:=n5_
     have BK307:=n6_
     have BK341:=n7_
     have HB:=n8_
     clear n0_ n1_ n2_ n3_ n4_ n5_ n6_ n7_ n8_
     (try clear hb)
     (try clear hb2)
     (try clear hk)
     (try clear hi)
     (try clear ho0)
     refine hK.out _ _ ⟨(blk_cell BK307.out 0).trans rfl,(blk_cell BK307.out 1).trans rfl,(blk_cell BK307.out 2).trans rfl,(blk_cell BK307.out 3).trans rfl,(blk_cell BK307.out 4).trans rfl⟩ (fun hHeld=>?_)
     clear hK K
     refine norm_ (a':=?_) ?_ ?_
     rotate_left
     ·show Act.put _ (some 94) _ = _
      simp only [Act.put,sA,sO,sS,i64_w,i32_w]
      rfl
     refine one_ (i:=3) (N:=some 96) laws_FnExactPatchDo.m4 rfl rfl (one_of HT_.out (by kernel_rfl)) (by decide) (fun K hK=>?_)
     refine goes_ Try.func16 (by kernel_rfl) rfl #[.agg #[.int .i64 a1_0,.slice A1_1 l1_1.length c1_1,.int .i64 a1_2,.slice A1_3 l1_3.length c1_3,.slice A1_4 l1_4.length c1_4]] (by rfl) rfl rfl (by (try simp only [mA,mC,mN]);first|done|rfl|(simp only [List.length_drop,List.length_take];rfl)) ?_
     with_reducible refine (laws_toPatch.calls kj55 a1_0 _ _ l1_1 a1_2 _ _ l1_3 _ _ l1_4 t376 t377 t380 t381 t384 _ ?side1 ?side2 ?side3 ?side4 ?side5 ?side6 A84.out).mono ?_
     (case side1=>repeat (first|exact (Kd.C_below HR1_1.out HB.out)|(with_reducible first|apply aC|apply nC|apply dC)))
     (case side2=>exact HC1_1.out)
     (case side3=>repeat (first|exact (Kd.C_below HR1_3.out HB.out)|(with_reducible first|apply aC|apply nC|apply dC)))
     (case side4=>exact HC1_3.out)
     (case side5=>repeat (first|exact (Kd.C_below HR1_4.out HB.out)|(with_reducible first|apply aC|apply nC|apply dC)))
     (case side6=>exact HC1_4.out)
     rintro e w91 ⟨v378,v382,v385,rfl,ho0,ho1,ho2,hb⟩
     refine⟨_,rfl,?_⟩
     have n0_:=mk0 (Kd.R_elder' (by (with_reducible repeat (first|apply aR|apply nR|apply dR));exact HO_6.out) (Kd.R_base ho2) hb)
     have n1_:=mk0 (Kd.R_elder' (by (with_reducible repeat (first|apply aR|apply nR|apply dR));exact HO_10.out) (Kd.R_base ho2) hb)
     have n2_:=mk0 (Kd.R_mono (Kd.R_told (Kd.R_told (Kd.R_old (by (with_reducible repeat (first|apply aR|apply nR|apply dR));exact HO_342001.out) hb) (Kd.R_base ho0)) (Kd.R_base ho1)) (fun _ h_=>h_.1))
     have n3_:=mk0 (Kd.R_mono (Kd.R_told (Kd.R_told (Kd.R_old (by (with_reducible repeat (first|apply aR|apply nR|apply dR));exact HO_342003.out) hb) (Kd.R_base ho0)) (Kd.R_base ho1)) (fun _ h_=>h_.1))
     have n4_:=mk0 (Kd.R_elder' (by (with_reducible repeat (first|apply aR|apply nR|apply dR));exact HO_342004.out) (Kd.R_base ho2) hb)
     have n5_:=mk0 (Kd.R_elder' (by (with_reducible repeat (first|apply aR|apply nR|apply dR));exact HO375.out) (Kd.R_base ho2) hb)
     have n6_:=mk0 (Kd.R_lower (Kd.R_new' (Kd.R_new' ho0 (Kd.R_lt (by (with_reducible repeat (first|apply aR|apply nR|apply dR));exact HO_342001.out))) (Kd.R_lt (by (with_reducible repeat (first|apply aR|apply nR|apply dR));exact HO_342003.out))) (below_size (by repeat (first|(with_reducible first|exact HB.out|apply aZ|apply nZ|apply dZ|refine sZ ?_ GE307.out|refine sZ ?_ GE341.out)|exact HB.out))))
     have n7_:=mk0 (Kd.R_lower (Kd.R_new' (Kd.R_new' ho1 (Kd.R_lt (by (with_reducible repeat (first|apply aR|apply nR|apply dR));exact HO_342001.out))) (Kd.R_lt (by (with_reducible repeat (first|apply aR|apply nR|apply dR));exact HO_342003.out))) (below_size (by repeat (first|(with_reducible first|exact HB.out|apply aZ|apply nZ|apply dZ|refine sZ ?_ GE307.out|refine sZ ?_ GE341.out)|exact HB.out))))
     have n8_:=mk0 (Kd.R_lower (Kd.R_new' (Kd.R_new' (Kd.R_new' (Kd.R_new' ho2 (Kd.R_lt (by (with_reducible repeat (first|apply aR|apply nR|apply dR));exact HO_6.out))) (Kd.R_lt (by (with_reducible repeat (first|apply aR|apply nR|apply dR));exact HO_10.out))) (Kd.R_lt (by (with_reducible repeat (first|apply aR|apply nR|apply dR));exact HO_342004.out))) (Kd.R_lt (by (with_reducible repeat (first|apply aR|apply nR|apply dR));exact HO375.out))) (below_size (by repeat (first|(with_reducible first|exact HB.out|apply aZ|apply nZ|apply dZ|refine sZ ?_ GE307.out|refine sZ ?_ GE341.out)|exact HB.out))))
     have n9_:=mk0 (blk_below (g:=gb307) (o:=.cells #[.int .i64 a1_0,.slice A1_1 l1_1.length c1_1,.int .i64 a1_2,.slice A1_3 l1_3.length c1_3,.slice A1_4 l1_4.length c1_4] 37 (0,0)) (by (with_reducible repeat (first|apply nB|apply dB|apply aB));exact BK307.out) hb)
     have n10_:=mk0 (blk_below (g:=gb341) (o:=.cells #[.int .i64 t330,.slice Ao34 t366.length co34,.int .i64 t334,.slice Ao35 t367.length co35,.slice Ao36 t368.length co36] 27 (0,0)) (by (with_reducible repeat (first|apply nB|apply dB|apply aB));exact BK341.out) hb)
     have n11_:=mk0 (below_step (by repeat (first|(with_reducible first|exact HB.out|apply aZ|apply nZ|apply dZ|refine sZ ?_ GE307.out|refine sZ ?_ GE341.out)|exact HB.out)) hb)
     clear HO_6
     clear HO_10
     clear HO_342001
     clear HO_342003
     clear HO_342004
     clear HO375
     clear BK307
     clear BK341
     clear HB
     have HO_6:=n0_
     have HO_10:=n1_
     have HO_342001:=n2_
     have HO_342003:=n3_
     have HO_342004:=n4_
     have HO375:=n5_
     have HO379:=n6_
     have HO383:=n7_
     have HO386:=n8_
     have BK307:=n9_
     have BK341:=n10_
     have HB:=n11_
     clear n0_ n1_ n2_ n3_ n4_ n5_ n6_ n7_ n8_ n9_ n10_ n11_
     (try clear hb)
     (try clear hb2)
     (try clear hk)
     (try clear hi)
     (try clear ho0)
     (try clear ho1)
     (try clear ho2)
     obtain⟨Ao92,co92,eo92⟩:=Kd.R_slice HO375.out
     (first|subst eo92|(injection eo92 with f1_ f2_ f3_;have f4_:=f1_.symm;have f5_:=f3_.symm;clear f1_ f2_ f3_;subst f4_;subst f5_))
     obtain⟨Ao93,co93,eo93⟩:=Kd.R_slice HO379.out
     (first|subst eo93|(injection eo93 with f1_ f2_ f3_;have f4_:=f1_.symm;have f5_:=f3_.symm;clear f1_ f2_ f3_;subst f4_;subst f5_))
     obtain⟨Ao94,co94,eo94⟩:=Kd.R_slice HO383.out
     (first|subst eo94|(injection eo94 with f1_ f2_ f3_;have f4_:=f1_.symm;have f5_:=f3_.symm;clear f1_ f2_ f3_;subst f4_;subst f5_))
     obtain⟨Ao95,co95,eo95⟩:=Kd.R_slice HO386.out
     (first|subst eo95|(injection eo95 with f1_ f2_ f3_;have f4_:=f1_.symm;have f5_:=f3_.symm;clear f1_ f2_ f3_;subst f4_;subst f5_))
     refine hK.out _ _ ⟨(blk_cell BK307.out 0).trans rfl,(blk_cell BK307.out 1).trans rfl,(blk_cell BK307.out 2).trans rfl,(blk_cell BK307.out 3).trans rfl,(blk_cell BK307.out 4).trans rfl⟩ (fun hHeld=>?_)
     clear hK K
     refine norm_ (a':=?_) ?_ ?_
     rotate_left
     ·show Act.put _ (some 96) _ = _
      simp only [Act.put,sA,sO,sS,i64_w,i32_w]
      rfl
     refine one_ (i:=4) (N:=some 97) laws_FnExactPatchDo.m5 rfl rfl (one_of HT_.out (by kernel_rfl)) (by decide) (fun K hK=>?_)
     refine goes_ Try.func17 (by kernel_rfl) rfl #[.slice Ao92 t373.length co92,.agg #[.int .i64 t376,.slice Ao93 t377.length co93,.int .i64 t380,.slice Ao94 t381.length co94,.slice Ao95 t384.length co95]] (by rfl) rfl rfl (by (try simp only [mA,mC,mN]);first|done|rfl|(simp only [List.length_drop,List.length_take];rfl)) ?_
     with_reducible refine (impl_PatchDo.calls kj55 _ _ t373 t376 _ _ t377 t380 _ _ t381 (fun k_=>some k_ = (.slice Ao95 t384.length co95:Value).ownBlock) _ _ t384 t387 t390 _ ?side1 ?side2 ?side3 ?side4 ?side5 ?side6 ?side7 A85.out).mono ?_
     (case side1=>repeat (first|exact (Kd.R_reads' HO375.out).2.2|(with_reducible first|apply aC|apply nC|apply dC)))
     (case side2=>exact (Kd.R_reads' HO375.out).2.1)
     (case side3=>repeat (first|exact (Kd.R_reads' HO379.out).2.2|(with_reducible first|apply aC|apply nC|apply dC)))
     (case side4=>exact (Kd.R_reads' HO379.out).2.1)
     (case side5=>repeat (first|exact (Kd.R_reads' HO383.out).2.2|(with_reducible first|apply aC|apply nC|apply dC)))
     (case side6=>exact (Kd.R_reads' HO383.out).2.1)
     (case side7=>exact Kd.R_V (Kd.R_tight rfl (Kd.R_types (Kd.R_types (Kd.R_apart' (Kd.R_apart' (Kd.R_apart' (Kd.R_apart' (HO386.out) (Kd.R_typed HO_342001.out) (by decide)) (Kd.R_typed HO_342003.out) (by decide)) (Kd.R_typed HO379.out) (by decide)) (Kd.R_typed HO383.out) (by decide)) BK307.out (by decide)) BK341.out (by decide))))
     rintro e w96 ⟨v388,rfl,ho0,hb⟩
     refine⟨_,rfl,?_⟩
     have n0_:=mk0 (Kd.R_elder' (by (with_reducible repeat (first|apply aR|apply nR|apply dR));exact HO_6.out) (Kd.R_base ho0) hb)
     have n1_:=mk0 (Kd.R_elder' (by (with_reducible repeat (first|apply aR|apply nR|apply dR));exact HO_10.out) (Kd.R_base ho0) hb)
     have n2_:=mk0 (Kd.R_below (by (with_reducible repeat (first|apply aR|apply nR|apply dR));exact HO_342001.out) hb)
     have n3_:=mk0 (Kd.R_below (by (with_reducible repeat (first|apply aR|apply nR|apply dR));exact HO_342003.out) hb)
     have n4_:=mk0 (Kd.R_elder' (by (with_reducible repeat (first|apply aR|apply nR|apply dR));exact HO_342004.out) (Kd.R_base ho0) hb)
     have n5_:=mk0 (Kd.R_elder' (by (with_reducible repeat (first|apply aR|apply nR|apply dR));exact HO375.out) (Kd.R_base ho0) hb)
     have n6_:=mk0 (Kd.R_below (by (with_reducible repeat (first|apply aR|apply nR|apply dR));exact HO379.out) hb)
     have n7_:=mk0 (Kd.R_below (by (with_reducible repeat (first|apply aR|apply nR|apply dR));exact HO383.out) hb)
     have n8_:=mk0 (Kd.R_elder' (by (with_reducible repeat (first|apply aR|apply nR|apply dR));exact HO386.out) (Kd.R_base ho0) hb)
     have n9_:=mk0 (Kd.R_lower (Kd.R_new' (Kd.R_new' (Kd.R_new' (Kd.R_new' (Kd.R_new' (Kd.R_mono (ok':=fun k_=>True) ho0 (fun _ hk_=>trivial)) (Kd.R_lt (by (with_reducible repeat (first|apply aR|apply nR|apply dR));exact HO_6.out))) (Kd.R_lt (by (with_reducible repeat (first|apply aR|apply nR|apply dR));exact HO_10.out))) (Kd.R_lt (by (with_reducible repeat (first|apply aR|apply nR|apply dR));exact HO_342004.out))) (Kd.R_lt (by (with_reducible repeat (first|apply aR|apply nR|apply dR));exact HO375.out))) (Kd.R_lt (by (with_reducible repeat (first|apply aR|apply nR|apply dR));exact HO386.out))) (below_size (by repeat (first|(with_reducible first|exact HB.out|apply aZ|apply nZ|apply dZ|refine sZ ?_ GE307.out|refine sZ ?_ GE341.out)|exact HB.out))))
     have n10_:=mk0 (blk_below (g:=gb307) (o:=.cells #[.int .i64 a1_0,.slice A1_1 l1_1.length c1_1,.int .i64 a1_2,.slice A1_3 l1_3.length c1_3,.slice A1_4 l1_4.length c1_4] 37 (0,0)) (by (with_reducible repeat (first|apply nB|apply dB|apply aB));exact BK307.out) hb)
     have n11_:=mk0 (blk_below (g:=gb341) (o:=.cells #[.int .i64 t330,.slice Ao34 t366.length co34,.int .i64 t334,.slice Ao35 t367.length co35,.slice Ao36 t368.length co36] 27 (0,0)) (by (with_reducible repeat (first|apply nB|apply dB|apply aB));exact BK341.out) hb)
     have n12_:=mk0 (below_step (by repeat (first|(with_reducible first|exact HB.out|apply aZ|apply nZ|apply dZ|refine sZ ?_ GE307.out|refine sZ ?_ GE341.out)|exact HB.out)) hb)
     clear HO_6
     clear HO_10
     clear HO_342001
     clear HO_342003
     clear HO_342004
     clear HO375
     clear HO379
     clear HO383
     clear HO386
     clear BK307
     clear BK341
     clear HB
     have HO_6:=n0_
     have HO_10:=n1_
     have HO_342001:=n2_
     have HO_342003:=n3_
     have HO_342004:=n4_
     have HO375:=n5_
     have HO379:=n6_
     have HO383:=n7_
     have HO386:=n8_
     have HO389:=n9_
     have BK307:=n10_
     have BK341:=n11_
     have HB:=n12_
     clear n0_ n1_ n2_ n3_ n4_ n5_ n6_ n7_ n8_ n9_ n10_ n11_ n12_
     (try clear hb)
     (try clear hb2)
     (try clear hk)
     (try clear hi)
     (try clear ho0)
     refine hK.out _ _ ⟨(blk_cell BK307.out 0).trans rfl,(blk_cell BK307.out 1).trans rfl,(blk_cell BK307.out 2).trans rfl,(blk_cell BK307.out 3).trans rfl,(blk_cell BK307.out 4).trans rfl⟩ (fun hHeld=>?_)
     clear hK K
     refine norm_ (a':=?_) ?_ ?_
     rotate_left
     ·show Act.put _ (some 97) _ = _
      simp only [Act.put,sA,sO,sS,i64_w,i32_w]
      rfl
     refine pure_ (i:=5) (N:=some 92) (v:=?_) (a':=?_) laws_FnExactPatchDo.m6 rfl rfl (any_of HT_.out (by kernel_rfl)) (fun _ _ _ h=>h) (Or.inl ⟨by rfl,?_⟩) ?_ ?_
     rotate_left
     ·intro w'
      go_simp
      with_reducible rfl
     rotate_left
     ·simp only [Act.put,sA,sO,sS,i64_w,i32_w]
      rfl
     refine pure_ (i:=6) (N:=some 98) (v:=?_) (a':=?_) laws_FnExactPatchDo.m7 rfl rfl (any_of HT_.out (by kernel_rfl)) (fun _ _ _ h=>h) (Or.inl ⟨by rfl,?_⟩) ?_ ?_
     rotate_left
     ·intro w'
      go_simp
      with_reducible rfl
     rotate_left
     ·simp only [Act.put,sA,sO,sS,i64_w,i32_w]
      rfl
     refine pure_ (i:=7) (N:=some 99) (v:=?_) (a':=?_) laws_FnExactPatchDo.m8 rfl rfl (any_of HT_.out (by kernel_rfl)) (fun _ _ _ h=>h) (Or.inl ⟨by rfl,?_⟩) ?_ ?_
     rotate_left
     ·intro w'
      go_simp
      with_reducible rfl
     rotate_left
     ·simp only [Act.put,sA,sO,sS,i64_w,i32_w]
      rfl
     refine pure_ (i:=8) (N:=some 15) (v:=?_) (a':=?_) laws_FnExactPatchDo.m9 rfl rfl (any_of HT_.out (by kernel_rfl)) (fun _ _ _ h=>h) (Or.inl ⟨by rfl,?_⟩) ?_ ?_
     rotate_left
     ·intro w'
      go_simp
      with_reducible rfl
     rotate_left
     ·simp only [Act.put,sA,sO,sS,i64_w,i32_w]
      rfl
     refine pure_ (i:=9) (N:=some 16) (v:=?_) (a':=?_) laws_FnExactPatchDo.m10 rfl rfl (any_of HT_.out (by kernel_rfl)) (fun _ _ _ h=>h) (Or.inl ⟨by rfl,?_⟩) ?_ ?_
     rotate_left
     ·intro w'
      go_simp
      with_reducible rfl
     rotate_left
     ·simp only [Act.put,sA,sO,sS,i64_w,i32_w]
      rfl
     refine done_ (done_of HT_.out (by kernel_rfl)) ?_
     go_upto_region 31 with (fail)
     go_cut [108] (fun v108 wc=>∃ (kq:Nat) (x108_85:Bool),v108 = .bool x108_85 ∧ Aside0 (laws_FnExactPatchDo.j2 kq t371 t370 x108_85 = some r) ∧ Aside0 (kq ≤ kj55) ∧ Aside0 (Kd.R (Kd.int .i64) 3 wc w.heap.size (fun k_=>some k_ ≠ ((.slice Ao36 t368.length co36):Value).ownBlock) (.slice Ao87 t342.length co87) t371) ∧ Aside0 (Kd.R (Kd.int .u64) 77 wc w.heap.size (fun k_=>some k_ ≠ ((.slice Ao35 t367.length co35):Value).ownBlock) (.slice Ao34 t366.length co34) t366) ∧ Aside0 (Kd.R (Kd.int .u64) 77 wc w.heap.size (fun k_=>some k_ ≠ ((.slice Ao34 t366.length co34):Value).ownBlock) (.slice Ao35 t367.length co35) t367) ∧ Aside0 (Kd.R (Kd.int .i64) 3 wc w.heap.size (fun k_=>some k_ ≠ ((.slice Ao87 t342.length co87):Value).ownBlock) (.slice Ao36 t368.length co36) t368) ∧ Aside0 (wc.heap[gb307]? = some (.cells #[.int .i64 a1_0,(.slice A1_1 l1_1.length c1_1),.int .i64 a1_2,(.slice A1_3 l1_3.length c1_3),(.slice A1_4 l1_4.length c1_4)] 37 (0,0))) ∧ Aside0 (wc.heap[gb341]? = some (.cells #[.int .i64 t330,(.slice Ao34 t366.length co34),.int .i64 t334,(.slice Ao35 t367.length co35),(.slice Ao36 t368.length co36)] 27 (0,0))) ∧ Aside0 (Below w.heap.size w wc))
     case first =>
      have H:=HC86.out
      clear HC86
      replace H:=Option.bind_eq_some_iff.mp H
      obtain⟨t391,A970,H⟩:=H
      replace H:(if t391 = true then (laws_FnExactPatchDo.j2 kj55 t371 t370 (t390 != t326)) else (laws_FnExactPatchDo.j2 kj55 t371 t370 true)) = some r:=H
      have A97:=mk0 A970
      clear A970
      by_cases c98:t391 = true
      ·subst c98
       have H1:(laws_FnExactPatchDo.j2 kj55 t371 t370 (t390 != t326)) = some r:=by rw [if_pos rfl] at H;exact H
       clear H
       have H:=H1
       clear H1
       have H':=mk0 H
       clear H
       obtain⟨Ao99,co99,eo99⟩:=Kd.R_slice HO389.out
       subst eo99
       obtain⟨Ao100,co100,eo100⟩:=Kd.R_slice HO_6.out
       subst eo100
       go_wp2_with (first|((with_reducible refine gate_callee (f:=10) rfl ?_);refine goesL_ (some 102) rfl rfl Try.func10 (by kernel_rfl) rfl #[.slice Ao99 t387.length co99,.slice Ao100 t323.length co100] rfl (by (try simp only [mA,mC,mN]);first|done|rfl|(simp only [List.length_drop,List.length_take];rfl)) ?_;(with_reducible refine (laws_eqIntS.calls kj55 _ _ t387 _ _ t323 true _ ?side1 ?side2 ?side3 ?side4 A97.out).mono ?_);(case side1=>repeat (first|exact (Kd.R_reads' HO389.out).2.2|(with_reducible first|apply aC|apply nC|apply dC)));(case side2=>exact (Kd.R_reads' HO389.out).2.1);(case side3=>repeat (first|exact (Kd.R_reads' HO_6.out).2.2|(with_reducible first|apply aC|apply nC|apply dC)));(case side4=>exact (Kd.R_reads' HO_6.out).2.1);rintro e w' ⟨rfl,⟨nd,rfl⟩⟩;refine⟨_,rfl,?_⟩))
       go_meet
       case rel=>exact⟨_,((t390 != t326)),(by first|rfl|(simp;done)|(simp [*];done)),H',⟨by have:=HJ15.out;have:=HJ55.out;first|omega|exact Nat.le_refl _⟩,⟨by (try simp only [hl342001_55]);(try simp only [hl342003_55]);(try simp only [hl342004_55]);(with_reducible repeat (first|apply aR|apply nR|apply dR));exact Kd.R_mono HO_10.out (by first|exact fun _ hk=>hk.1.1.1.2|(intro k_ hk;simp only [hk,ne_eq,and_self,not_false_eq_true]))⟩,⟨by (try simp only [hl342001_55]);(try simp only [hl342003_55]);(try simp only [hl342004_55]);(with_reducible repeat (first|apply aR|apply nR|apply dR));exact Kd.R_mono HO_342001.out (by first|exact fun _ hk=>hk.1.1|(intro k_ hk;simp only [hk,ne_eq,and_self,not_false_eq_true]))⟩,⟨by (try simp only [hl342001_55]);(try simp only [hl342003_55]);(try simp only [hl342004_55]);(with_reducible repeat (first|apply aR|apply nR|apply dR));exact Kd.R_mono HO_342003.out (by first|exact fun _ hk=>hk.1.1|(intro k_ hk;simp only [hk,ne_eq,and_self,not_false_eq_true]))⟩,⟨by (try simp only [hl342001_55]);(try simp only [hl342003_55]);(try simp only [hl342004_55]);(with_reducible repeat (first|apply aR|apply nR|apply dR));exact Kd.R_mono HO_342004.out (by first|exact fun _ hk=>hk.1.1.1.2|(intro k_ hk;simp only [hk,ne_eq,and_self,not_false_eq_true]))⟩,⟨by (try simp only [hl342001_55]);(try simp only [hl342003_55]);(try simp only [hl342004_55]);(with_reducible repeat (first|apply nB|apply dB|apply aB));exact BK307.out⟩,⟨by (try simp only [hl342001_55]);(try simp only [hl342003_55]);(try simp only [hl342004_55]);(with_reducible repeat (first|apply nB|apply dB|apply aB));exact BK341.out⟩,⟨by repeat (first|(with_reducible first|exact HB.out|apply aZ|apply nZ|apply dZ|refine sZ ?_ GE307.out|refine sZ ?_ GE341.out)|exact HB.out)⟩⟩
      replace c98:=Bool.eq_false_iff.mpr c98
      subst c98
      have H1:(laws_FnExactPatchDo.j2 kj55 t371 t370 true) = some r:=by rw [if_neg (show ¬ (false = true) by decide)] at H;exact H
      clear H
      have H:=H1
      clear H1
      have H':=mk0 H
      clear H
      obtain⟨Ao101,co101,eo101⟩:=Kd.R_slice HO389.out
      subst eo101
      obtain⟨Ao102,co102,eo102⟩:=Kd.R_slice HO_6.out
      subst eo102
      go_wp2_with (first|((with_reducible refine gate_callee (f:=10) rfl ?_);refine goesL_ (some 102) rfl rfl Try.func10 (by kernel_rfl) rfl #[.slice Ao101 t387.length co101,.slice Ao102 t323.length co102] rfl (by (try simp only [mA,mC,mN]);first|done|rfl|(simp only [List.length_drop,List.length_take];rfl)) ?_;(with_reducible refine (laws_eqIntS.calls kj55 _ _ t387 _ _ t323 false _ ?side1 ?side2 ?side3 ?side4 A97.out).mono ?_);(case side1=>repeat (first|exact (Kd.R_reads' HO389.out).2.2|(with_reducible first|apply aC|apply nC|apply dC)));(case side2=>exact (Kd.R_reads' HO389.out).2.1);(case side3=>repeat (first|exact (Kd.R_reads' HO_6.out).2.2|(with_reducible first|apply aC|apply nC|apply dC)));(case side4=>exact (Kd.R_reads' HO_6.out).2.1);rintro e w' ⟨rfl,⟨nd,rfl⟩⟩;refine⟨_,rfl,?_⟩))
      go_meet
      case rel=>exact⟨_,(true),(by first|rfl|(simp;done)|(simp [*];done)),H',⟨by have:=HJ15.out;have:=HJ55.out;first|omega|exact Nat.le_refl _⟩,⟨by (try simp only [hl342001_55]);(try simp only [hl342003_55]);(try simp only [hl342004_55]);(with_reducible repeat (first|apply aR|apply nR|apply dR));exact Kd.R_mono HO_10.out (by first|exact fun _ hk=>hk.1.1.1.2|(intro k_ hk;simp only [hk,ne_eq,and_self,not_false_eq_true]))⟩,⟨by (try simp only [hl342001_55]);(try simp only [hl342003_55]);(try simp only [hl342004_55]);(with_reducible repeat (first|apply aR|apply nR|apply dR));exact Kd.R_mono HO_342001.out (by first|exact fun _ hk=>hk.1.1|(intro k_ hk;simp only [hk,ne_eq,and_self,not_false_eq_true]))⟩,⟨by (try simp only [hl342001_55]);(try simp only [hl342003_55]);(try simp only [hl342004_55]);(with_reducible repeat (first|apply aR|apply nR|apply dR));exact Kd.R_mono HO_342003.out (by first|exact fun _ hk=>hk.1.1|(intro k_ hk;simp only [hk,ne_eq,and_self,not_false_eq_true]))⟩,⟨by (try simp only [hl342001_55]);(try simp only [hl342003_55]);(try simp only [hl342004_55]);(with_reducible repeat (first|apply aR|apply nR|apply dR));exact Kd.R_mono HO_342004.out (by first|exact fun _ hk=>hk.1.1.1.2|(intro k_ hk;simp only [hk,ne_eq,and_self,not_false_eq_true]))⟩,⟨by (try simp only [hl342001_55]);(try simp only [hl342003_55]);(try simp only [hl342004_55]);(with_reducible repeat (first|apply nB|apply dB|apply aB));exact BK307.out⟩,⟨by (try simp only [hl342001_55]);(try simp only [hl342003_55]);(try simp only [hl342004_55]);(with_reducible repeat (first|apply nB|apply dB|apply aB));exact BK341.out⟩,⟨by repeat (first|(with_reducible first|exact HB.out|apply aZ|apply nZ|apply dZ|refine sZ ?_ GE307.out|refine sZ ?_ GE341.out)|exact HB.out)⟩⟩
     case rest =>
      clear HC86
      try clear c1
      try clear p2
      try clear c3
      try clear c3b0
      try clear c3b1
      try clear c4
      try clear c5
      try clear c6
      try clear c6b0
      try clear c7
      try clear c8
      try clear c9
      try clear c10
      try clear c11
      try clear c12
      try clear c14
      try clear c15
      try clear c16
      try clear c17
      try clear c18
      try clear c32
      try clear c42
      try clear c47
      try clear c50
      try clear c53
      try clear c66
      try clear c69
      try clear c69b0
      try clear c71
      try clear c76
      try clear c79
      try clear c79b0
      try clear c82
      try clear c82b0
      try clear c82b1
      try clear c98
      try clear hcz18_0
      try clear hcz18_1
      try clear hcz18_2
      try clear hcz18_3
      try clear hcz18_4
      try clear hcz29_0
      try clear hcz29_1
      try clear hcz29_2
      try clear hcz29_3
      try clear hcz29_4
      try clear hcz33_0
      try clear hcz33_1
      try clear hcz33_2
      try clear hcz33_3
      try clear hcz33_4
      try clear hcz38_0
      try clear hcz38_1
      try clear hcz38_2
      try clear hcz38_3
      try clear hcz38_4
      try clear hcz67_0
      try clear hcz67_1
      try clear hcz67_2
      try clear hcz67_3
      try clear hcz67_4
      try clear hcz8_0
      try clear hcz8_1
      try clear hcz8_2
      try clear hcz8_3
      try clear hcz8_4
      try clear hfz18_0
      try clear hfz18_1
      try clear hfz18_2
      try clear hfz18_3
      try clear hfz18_4
      try clear hfz29_0
      try clear hfz29_1
      try clear hfz29_2
      try clear hfz29_3
      try clear hfz29_4
      try clear hfz33_0
      try clear hfz33_1
      try clear hfz33_2
      try clear hfz33_3
      try clear hfz33_4
      try clear hfz38_0
      try clear hfz38_1
      try clear hfz38_2
      try clear hfz38_3
      try clear hfz38_4
      try clear hfz67_0
      try clear hfz67_1
      try clear hfz67_2
      try clear hfz67_3
      try clear hfz67_4
      try clear hfz8_0
      try clear hfz8_1
      try clear hfz8_2
      try clear hfz8_3
      try clear hfz8_4
      try clear p2
      obtain⟨kq,x108_85,rfl,HA,HJ85,HO_10,HO_342001,HO_342003,HO_342004,BK307,BK341,HB⟩:=hcut
      have hl10_85:=(Kd.R_reads' HO_10.out).1
      rw [hl10_85] at HO_10
      (try simp only [hl10_85])
      (try simp only [hl10_85] at BK307)
      (try simp only [hl10_85] at BK341)
      (try simp only [hl10_85] at HO_342001)
      (try simp only [hl10_85] at HO_342003)
      (try simp only [hl10_85] at HO_342004)
      cases kq with
      | zero=>exact absurd HA.out (by simp [laws_FnExactPatchDo.j2])
      | succ kj85 =>
       have H:=HA.out
       clear HA
       simp only [laws_FnExactPatchDo.j2] at H
       by_cases c103:x108_85 = true
       ·subst c103
        have H1:(some false) = some r:=by rw [if_pos rfl] at H;exact H
        clear H
        have H:=H1
        clear H1
        obtain rfl:=Option.some.inj H
        go_wp2
        go_ret
        exact⟨by first|rfl|(simp [errW_none,errW_some] <;> rfl)|(simp [*,errW_none,errW_some] <;> rfl),by repeat (first|(with_reducible first|exact HB.out|apply aZ|apply nZ|apply dZ|refine sZ ?_ GE307.out|refine sZ ?_ GE341.out)|exact HB.out)⟩
       replace c103:=Bool.eq_false_iff.mpr c103
       subst c103
       have H1:((laws_heldIntS.f kj85 t371 1).bind fun t392=>(if t392 < 0 then (some false) else (if t392 = t370 then (some true) else (some false)))) = some r:=by rw [if_neg (show ¬ (false = true) by decide)] at H;exact H
       clear H
       have H:=H1
       clear H1
       replace H:=Option.bind_eq_some_iff.mp H
       obtain⟨t392,A1040,H⟩:=H
       replace H:(if t392 < 0 then (some false) else (if t392 = t370 then (some true) else (some false))) = some r:=H
       have A104:=mk0 A1040
       clear A1040
       by_cases c105:t392 < 0
       ·rw [if_pos c105] at H
        have c105b0:decide (t392 < 0) = true:=decide_eq_true c105
        clear c105
        obtain rfl:=Option.some.inj H
        go_wp2_with (first|((with_reducible refine gate_callee (f:=18) rfl ?_);refine goesL_ (some 111) rfl rfl Try.func18 (by kernel_rfl) rfl #[.slice Ao87 t371.length co87,.int .i64 1] rfl (by (try simp only [mA,mC,mN]);first|done|rfl|(simp only [List.length_drop,List.length_take];rfl)) ?_;(with_reducible refine (laws_heldIntS.calls kj85 _ _ t371 1 t392 _ ?side1 ?side2 A104.out).mono ?_);(case side1=>repeat (first|exact (Kd.R_reads' HO_10.out).2.2|(with_reducible first|apply aC|apply nC|apply dC)));(case side2=>exact (Kd.R_reads' HO_10.out).2.1);rintro e w' ⟨rfl,⟨nd,rfl⟩⟩;refine⟨_,rfl,?_⟩))
        go_ret
        exact⟨by first|rfl|(simp [errW_none,errW_some] <;> rfl)|(simp [*,errW_none,errW_some] <;> rfl),by repeat (first|(with_reducible first|exact HB.out|apply aZ|apply nZ|apply dZ|refine sZ ?_ GE307.out|refine sZ ?_ GE341.out)|exact HB.out)⟩
       rw [if_neg c105] at H
       have c105b0:decide (t392 < 0) = false:=decide_eq_false c105
       clear c105
       by_cases c106:t392 = t370
       rotate_left
       ·rw [if_neg c106] at H
        have c106b0:(t392 == t370) = false:=beq_eq_false_iff_ne.mpr c106
        have c106b1:(t392 != t370) = true:=bne_iff_ne.mpr c106
        obtain rfl:=Option.some.inj H
        go_wp2_with (first|((with_reducible refine gate_callee (f:=18) rfl ?_);refine goesL_ (some 111) rfl rfl Try.func18 (by kernel_rfl) rfl #[.slice Ao87 t371.length co87,.int .i64 1] rfl (by (try simp only [mA,mC,mN]);first|done|rfl|(simp only [List.length_drop,List.length_take];rfl)) ?_;(with_reducible refine (laws_heldIntS.calls kj85 _ _ t371 1 t392 _ ?side1 ?side2 A104.out).mono ?_);(case side1=>repeat (first|exact (Kd.R_reads' HO_10.out).2.2|(with_reducible first|apply aC|apply nC|apply dC)));(case side2=>exact (Kd.R_reads' HO_10.out).2.1);rintro e w' ⟨rfl,⟨nd,rfl⟩⟩;refine⟨_,rfl,?_⟩))
        go_ret
        exact⟨by first|rfl|(simp [errW_none,errW_some] <;> rfl)|(simp [*,errW_none,errW_some] <;> rfl),by repeat (first|(with_reducible first|exact HB.out|apply aZ|apply nZ|apply dZ|refine sZ ?_ GE307.out|refine sZ ?_ GE341.out)|exact HB.out)⟩
       rw [if_pos c106] at H
       have c106b0:(t392 == t370) = true:=beq_iff_eq.mpr c106
       have c106b1:(t392 != t370) = false:=bne_eq_false_iff_eq.mpr c106
       clear c106
       obtain rfl:=Option.some.inj H
       go_wp2_with (first|((with_reducible refine gate_callee (f:=18) rfl ?_);refine goesL_ (some 111) rfl rfl Try.func18 (by kernel_rfl) rfl #[.slice Ao87 t371.length co87,.int .i64 1] rfl (by (try simp only [mA,mC,mN]);first|done|rfl|(simp only [List.length_drop,List.length_take];rfl)) ?_;(with_reducible refine (laws_heldIntS.calls kj85 _ _ t371 1 t392 _ ?side1 ?side2 A104.out).mono ?_);(case side1=>repeat (first|exact (Kd.R_reads' HO_10.out).2.2|(with_reducible first|apply aC|apply nC|apply dC)));(case side2=>exact (Kd.R_reads' HO_10.out).2.1);rintro e w' ⟨rfl,⟨nd,rfl⟩⟩;refine⟨_,rfl,?_⟩))
       go_ret
       exact⟨by first|rfl|(simp [errW_none,errW_some] <;> rfl)|(simp [*,errW_none,errW_some] <;> rfl),by repeat (first|(with_reducible first|exact HB.out|apply aZ|apply nZ|apply dZ|refine sZ ?_ GE307.out|refine sZ ?_ GE341.out)|exact HB.out)⟩
/-- The plain statement of laws_FnExactPatchDo. -/
def laws_FnExactPatchDo.Pure : Prop := ∀ (l0 : List Int) (a1_0 : Int) (l1_1 : List Int) (a1_2 : Int) (l1_3 : List Int) (l1_4 : List Int), (Fv.OkL (Fv.OkI .i64)) l0 → ok37 ((⟨(⟨a1_0, l1_1⟩ : S35), (⟨a1_2, l1_3⟩ : S35), l1_4⟩ : S37)) → ∃ k, laws_FnExactPatchDo.f k l0 a1_0 l1_1 a1_2 l1_3 l1_4 = some true

end Go.Proofs.Ytdiemmcnekbfaaa.QFnExactPatchDo
