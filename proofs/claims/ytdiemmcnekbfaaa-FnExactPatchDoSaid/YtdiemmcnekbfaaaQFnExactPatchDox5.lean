-- A walk, made by walk.py, a program of this session's.
import Derived.Test.YtdiemmcnekbfaaaQFnExactPatchDox0
import Derived.Test.YtdiemmcnekbfaaaQFnExactPatchDox2
import Derived.Test.YtdiemmcnekbfaaaQFnExactPatchDox4
namespace Go.Proofs.Ytdiemmcnekbfaaa.QFnExactPatchDo
open Go.RowKit Go.Proofs.YtdiemmcnekbfaaaW.PrintWords Go.Proofs.YtdiemmcnekbfaaaW.PrintLast Go.Proofs.YtdiemmcnekbfaaaW.PrintMore
attribute [local go_sem] max2_int min2_int max_two min_two max_three min_three max_four min_four   -- for this text's walks alone
set_option linter.unusedVariables false
set_option linter.unusedSimpArgs false

/-! ### spec_PatchDo: function 15 -/
mutual
def spec_PatchDo.j0 : Nat → List Int → Bool → Int → List Int → Int → List Int → List Int → Option (List Int × Bool)
 | 0, _, _, _, _, _, _, _ => none
 | k + 1, x0, x41, x175000, x175001, x175002, x175003, x175004 => if x41 = true then (some (([] : List Int), false)) else ((spec_l01List.f k x175000 x175001).bind fun t178 => ((spec_l01List.f k x175002 x175003).bind fun t181 => (spec_PatchDo.l0 k x0 t178 t181 (([] : List Int)) 0 x175000 x175001 x175002 x175003 x175004)))
def spec_PatchDo.l0 : Nat → List Int → List Int → List Int → List Int → Int → Int → List Int → Int → List Int → List Int → Option (List Int × Bool)
 | 0, _, _, _, _, _, _, _, _, _, _ => none
 | k + 1, x0, x6, x7, x8, x9, x175000, x175001, x175002, x175003, x175004 => if x9 < (x6.length : Int) then (if 0 ≤ x9 then (if (rd x6 x9) = 1 then (if x9 < (x0.length : Int) then (if x8.length < 17592186044416 then (spec_PatchDo.l0 k x0 x6 x7 (x8 ++ [rd x0 x9]) (wrap64 (x9 + 1)) x175000 x175001 x175002 x175003 x175004) else (none)) else (none)) else (spec_PatchDo.l0 k x0 x6 x7 x8 (wrap64 (x9 + 1)) x175000 x175001 x175002 x175003 x175004)) else (none)) else ((spec_Rank.f k x175002 x175003 1 x175002).bind fun t192 => (if t192 = (x8.length : Int) then ((spec_Rank.f k x175002 x175003 0 x175002).bind fun t193 => (spec_PatchDo.j2 k x7 x8 (t193 != (x175004.length : Int)) x175000 x175001 x175002 x175003 x175004)) else (spec_PatchDo.j2 k x7 x8 true x175000 x175001 x175002 x175003 x175004)))
def spec_PatchDo.j2 : Nat → List Int → List Int → Bool → Int → List Int → Int → List Int → List Int → Option (List Int × Bool)
 | 0, _, _, _, _, _, _, _, _ => none
 | k + 1, x7, x8, x87, x175000, x175001, x175002, x175003, x175004 => if x87 = true then (some (([] : List Int), false)) else (spec_PatchDo.l1 k x7 x8 (([] : List Int)) 0 0 x175000 x175001 x175002 x175003 x175004)
def spec_PatchDo.l1 : Nat → List Int → List Int → List Int → Int → Int → Int → List Int → Int → List Int → List Int → Option (List Int × Bool)
 | 0, _, _, _, _, _, _, _, _, _, _ => none
 | k + 1, x7, x8, x10, x11, x12, x175000, x175001, x175002, x175003, x175004 => if x12 < (x7.length : Int) then (if 0 ≤ x12 then (if (rd x7 x12) = 1 then (if 0 ≤ x11 then (if x11 < (x8.length : Int) then (if x10.length < 17592186044416 then (spec_PatchDo.l1 k x7 x8 (x10 ++ [rd x8 x11]) (wrap64 (x11 + 1)) (wrap64 (x12 + 1)) x175000 x175001 x175002 x175003 x175004) else (none)) else (none)) else (none)) else (if 0 ≤ (wrap64 (x12 - x11)) then (if (wrap64 (x12 - x11)) < (x175004.length : Int) then (if x10.length < 17592186044416 then (spec_PatchDo.l1 k x7 x8 (x10 ++ [rd x175004 (wrap64 (x12 - x11))]) x11 (wrap64 (x12 + 1)) x175000 x175001 x175002 x175003 x175004) else (none)) else (none)) else (none))) else (none)) else (some (x10, true))
end
def spec_PatchDo.f (k : Nat) (l0 : List Int) (a1_0 : Int) (l1_1 : List Int) (a1_2 : Int) (l1_3 : List Int) (l1_4 : List Int) : Option (List Int × Bool) := (spec_l12Right.f l0).bind fun t175 => (if t175 = true then ((spec_BitsOk.f k a1_0 l1_1).bind fun t176 => (if t176 = true then ((spec_BitsOk.f k a1_2 l1_3).bind fun t177 => (if t177 = true then (if a1_0 = (l0.length : Int) then (spec_PatchDo.j0 k l0 (decide (a1_2 > 301)) a1_0 l1_1 a1_2 l1_3 l1_4) else (spec_PatchDo.j0 k l0 true a1_0 l1_1 a1_2 l1_3 l1_4)) else (spec_PatchDo.j0 k l0 true a1_0 l1_1 a1_2 l1_3 l1_4))) else (spec_PatchDo.j0 k l0 true a1_0 l1_1 a1_2 l1_3 l1_4))) else (spec_PatchDo.j0 k l0 true a1_0 l1_1 a1_2 l1_3 l1_4))
theorem spec_PatchDo.mono_l : ∀ k, (∀ y0 y1 y2 y3 y4 y5 y6, LeO (spec_PatchDo.j0 k y0 y1 y2 y3 y4 y5 y6) (spec_PatchDo.j0 (k + 1) y0 y1 y2 y3 y4 y5 y6)) ∧ (∀ y0 y1 y2 y3 y4 y5 y6 y7 y8 y9, LeO (spec_PatchDo.l0 k y0 y1 y2 y3 y4 y5 y6 y7 y8 y9) (spec_PatchDo.l0 (k + 1) y0 y1 y2 y3 y4 y5 y6 y7 y8 y9)) ∧ (∀ y0 y1 y2 y3 y4 y5 y6 y7, LeO (spec_PatchDo.j2 k y0 y1 y2 y3 y4 y5 y6 y7) (spec_PatchDo.j2 (k + 1) y0 y1 y2 y3 y4 y5 y6 y7)) ∧ (∀ y0 y1 y2 y3 y4 y5 y6 y7 y8 y9, LeO (spec_PatchDo.l1 k y0 y1 y2 y3 y4 y5 y6 y7 y8 y9) (spec_PatchDo.l1 (k + 1) y0 y1 y2 y3 y4 y5 y6 y7 y8 y9))
 | 0 => ⟨fun _ _ _ _ _ _ _ r h => by simp [spec_PatchDo.j0] at h, fun _ _ _ _ _ _ _ _ _ _ r h => by simp [spec_PatchDo.l0] at h, fun _ _ _ _ _ _ _ _ r h => by simp [spec_PatchDo.j2] at h, fun _ _ _ _ _ _ _ _ _ _ r h => by simp [spec_PatchDo.l1] at h⟩
 | k + 1 => by
  obtain ⟨ih0, ih1, ih2, ih3⟩ := spec_PatchDo.mono_l k
  refine ⟨?_, ?_, ?_, ?_⟩
  ·intro y0 y1 y2 y3 y4 y5 y6
   unfold spec_PatchDo.j0
   repeat' first|(with_reducible first|exact ih0 _ _ _ _ _ _ _|exact ih1 _ _ _ _ _ _ _ _ _ _|exact ih2 _ _ _ _ _ _ _ _|exact ih3 _ _ _ _ _ _ _ _ _ _|exact spec_BitsOk.mono _ _ _|exact spec_Rank.mono _ _ _ _ _|exact spec_l01List.mono _ _ _|exact LeO.refl _|exact LeO.none _|refine LeO.ite ?_ ?_|refine LeO.bind ?_ (fun _ => ?_))|exact LeO.none _|refine LeO.ite ?_ ?_|refine LeO.bind ?_ (fun _ => ?_)
  ·intro y0 y1 y2 y3 y4 y5 y6 y7 y8 y9
   unfold spec_PatchDo.l0
   repeat' first|(with_reducible first|exact ih0 _ _ _ _ _ _ _|exact ih1 _ _ _ _ _ _ _ _ _ _|exact ih2 _ _ _ _ _ _ _ _|exact ih3 _ _ _ _ _ _ _ _ _ _|exact spec_BitsOk.mono _ _ _|exact spec_Rank.mono _ _ _ _ _|exact spec_l01List.mono _ _ _|exact LeO.refl _|exact LeO.none _|refine LeO.ite ?_ ?_|refine LeO.bind ?_ (fun _ => ?_))|exact LeO.none _|refine LeO.ite ?_ ?_|refine LeO.bind ?_ (fun _ => ?_)
  ·intro y0 y1 y2 y3 y4 y5 y6 y7
   unfold spec_PatchDo.j2
   repeat' first|(with_reducible first|exact ih0 _ _ _ _ _ _ _|exact ih1 _ _ _ _ _ _ _ _ _ _|exact ih2 _ _ _ _ _ _ _ _|exact ih3 _ _ _ _ _ _ _ _ _ _|exact spec_BitsOk.mono _ _ _|exact spec_Rank.mono _ _ _ _ _|exact spec_l01List.mono _ _ _|exact LeO.refl _|exact LeO.none _|refine LeO.ite ?_ ?_|refine LeO.bind ?_ (fun _ => ?_))|exact LeO.none _|refine LeO.ite ?_ ?_|refine LeO.bind ?_ (fun _ => ?_)
  ·intro y0 y1 y2 y3 y4 y5 y6 y7 y8 y9
   unfold spec_PatchDo.l1
   repeat' first|(with_reducible first|exact ih0 _ _ _ _ _ _ _|exact ih1 _ _ _ _ _ _ _ _ _ _|exact ih2 _ _ _ _ _ _ _ _|exact ih3 _ _ _ _ _ _ _ _ _ _|exact spec_BitsOk.mono _ _ _|exact spec_Rank.mono _ _ _ _ _|exact spec_l01List.mono _ _ _|exact LeO.refl _|exact LeO.none _|refine LeO.ite ?_ ?_|refine LeO.bind ?_ (fun _ => ?_))|exact LeO.none _|refine LeO.ite ?_ ?_|refine LeO.bind ?_ (fun _ => ?_)
theorem spec_PatchDo.mono : ∀ a0 a1 a2 a3 a4 a5 k, LeO (spec_PatchDo.f k a0 a1 a2 a3 a4 a5) (spec_PatchDo.f (k + 1) a0 a1 a2 a3 a4 a5) := by
 intro a0 a1 a2 a3 a4 a5 k
 obtain ⟨ih0, ih1, ih2, ih3⟩ := spec_PatchDo.mono_l k
 unfold spec_PatchDo.f
 repeat' first|(with_reducible first|exact ih0 _ _ _ _ _ _ _|exact ih1 _ _ _ _ _ _ _ _ _ _|exact ih2 _ _ _ _ _ _ _ _|exact ih3 _ _ _ _ _ _ _ _ _ _|exact spec_BitsOk.mono _ _ _|exact spec_Rank.mono _ _ _ _ _|exact spec_l01List.mono _ _ _|exact LeO.refl _|exact LeO.none _|refine LeO.ite ?_ ?_|refine LeO.bind ?_ (fun _ => ?_))|exact LeO.none _|refine LeO.ite ?_ ?_|refine LeO.bind ?_ (fun _ => ?_)
def spec_PatchDo.T11 : Bool × List (List Nat × List Nat) := (true, [([], []), ([0], [0]), ([], []), ([2], [2]), ([3], [3]), ([1, 4], [1, 4]), ([], []), ([6], [6]), ([5, 7], [5, 7]), ([8, 5], [8]), ([9], [9]), ([10, 9], [9, 10]), ([9], [9]), ([12, 9], [9, 12]), ([13, 9], [9, 13]), ([11, 14, 9, 9], [9, 11, 14]), ([9], [9]), ([16, 9], [9, 16]), ([17, 9], [9, 17]), ([15, 18, 9], [9, 15, 18]), ([9, 19], [9, 19])])
def spec_PatchDo.B11 : List Nat := [0, 1, 0, 4, 12, 31, 0, 64, 255, 511, 1023, 2047, 1023, 5119, 13311, 32767, 1023, 66559, 197631, 524287, 1048575]
theorem spec_PatchDo.tab11 : rtab .any (opsOf Try.f15 11) = spec_PatchDo.T11 := by kernel_rfl
theorem spec_PatchDo.bits11 : waitsOk spec_PatchDo.T11.2 spec_PatchDo.B11 = true := by kernel_rfl
abbrev spec_PatchDo.m0 : Array Bool := #[F,F,F,F,F,F,F,F,F,F,F,F,F,F,F,F,F,F,F,F,F]
abbrev spec_PatchDo.m1 : Array Bool := #[T,F,F,F,F,F,F,F,F,F,F,F,F,F,F,F,F,F,F,F,F]
abbrev spec_PatchDo.m2 : Array Bool := #[T,F,T,F,F,F,F,F,F,F,F,F,F,F,F,F,F,F,F,F,F]
abbrev spec_PatchDo.m3 : Array Bool := #[T,F,T,T,F,F,F,F,F,F,F,F,F,F,F,F,F,F,F,F,F]
abbrev spec_PatchDo.m4 : Array Bool := #[T,F,T,T,F,F,T,F,F,F,F,F,F,F,F,F,F,F,F,F,F]
abbrev spec_PatchDo.m5 : Array Bool := #[T,F,T,T,F,F,T,T,F,F,F,F,F,F,F,F,F,F,F,F,F]
abbrev spec_PatchDo.m6 : Array Bool := #[T,T,T,T,F,F,T,T,F,F,F,F,F,F,F,F,F,F,F,F,F]
abbrev spec_PatchDo.m7 : Array Bool := #[T,T,T,T,T,F,T,T,F,F,F,F,F,F,F,F,F,F,F,F,F]
abbrev spec_PatchDo.m8 : Array Bool := #[T,T,T,T,T,T,T,T,F,F,F,F,F,F,F,F,F,F,F,F,F]
abbrev spec_PatchDo.m9 : Array Bool := #[T,T,T,T,T,T,T,T,T,F,F,F,F,F,F,F,F,F,F,F,F]
abbrev spec_PatchDo.m10 : Array Bool := #[T,T,T,T,T,T,T,T,T,T,F,F,F,F,F,F,F,F,F,F,F]
abbrev spec_PatchDo.m11 : Array Bool := #[T,T,T,T,T,T,T,T,T,T,T,F,F,F,F,F,F,F,F,F,F]
abbrev spec_PatchDo.m12 : Array Bool := #[T,T,T,T,T,T,T,T,T,T,T,T,F,F,F,F,F,F,F,F,F]
abbrev spec_PatchDo.m13 : Array Bool := #[T,T,T,T,T,T,T,T,T,T,T,T,T,F,F,F,F,F,F,F,F]
abbrev spec_PatchDo.m14 : Array Bool := #[T,T,T,T,T,T,T,T,T,T,T,T,T,T,F,F,F,F,F,F,F]
abbrev spec_PatchDo.m15 : Array Bool := #[T,T,T,T,T,T,T,T,T,T,T,T,T,T,T,F,F,F,F,F,F]
abbrev spec_PatchDo.m16 : Array Bool := #[T,T,T,T,T,T,T,T,T,T,T,T,T,T,T,T,F,F,F,F,F]
abbrev spec_PatchDo.m17 : Array Bool := #[T,T,T,T,T,T,T,T,T,T,T,T,T,T,T,T,T,F,F,F,F]
abbrev spec_PatchDo.m18 : Array Bool := #[T,T,T,T,T,T,T,T,T,T,T,T,T,T,T,T,T,T,F,F,F]
abbrev spec_PatchDo.m19 : Array Bool := #[T,T,T,T,T,T,T,T,T,T,T,T,T,T,T,T,T,T,T,F,F]
abbrev spec_PatchDo.m20 : Array Bool := #[T,T,T,T,T,T,T,T,T,T,T,T,T,T,T,T,T,T,T,T,F]
abbrev spec_PatchDo.m21 : Array Bool := #[T,T,T,T,T,T,T,T,T,T,T,T,T,T,T,T,T,T,T,T,T]
abbrev spec_PatchDo.m22 : Array Bool := #[T,T,T,T,T,T,T,T,T,T,T,F,T,F,F,F,F,F,F,F,F]
abbrev spec_PatchDo.m23 : Array Bool := #[T,T,T,T,T,T,T,T,T,T,T,F,T,T,F,F,F,F,F,F,F]
abbrev spec_PatchDo.m24 : Array Bool := #[T,T,T,T,T,T,T,T,T,T,T,F,T,T,F,F,T,F,F,F,F]
abbrev spec_PatchDo.m25 : Array Bool := #[T,T,T,T,T,T,T,T,T,T,T,T,T,T,F,F,T,F,F,F,F]
abbrev spec_PatchDo.m26 : Array Bool := #[T,T,T,T,T,T,T,T,T,T,T,T,T,T,T,F,T,F,F,F,F]
abbrev spec_PatchDo.m27 : Array Bool := #[T,T,T,T,T,T,T,T,T,T,T,T,T,T,T,F,T,T,F,F,F]
abbrev spec_PatchDo.m28 : Array Bool := #[T,T,T,T,T,T,T,T,T,T,T,T,T,T,T,F,T,T,T,F,F]
set_option maxHeartbeats 8000000 in
set_option maxRecDepth 100000 in
theorem spec_PatchDo.calls (k : Nat) (A0 : Option Addr) (c0 : Nat) (l0 : List Int) (a1_0 : Int) (A1_1 : Option Addr) (c1_1 : Nat) (l1_1 : List Int) (a1_2 : Int) (A1_3 : Option Addr) (c1_3 : Nat) (l1_3 : List Int) (A1_4 : Option Addr) (c1_4 : Nat) (l1_4 : List Int) (r1 : List Int) (r2 : Bool) (w : World) (hr0 : Kd.C (Kd.int .i64) w A0 l0.length l0) (hc0 : l0.length ≤ c0) (hr1_1 : Kd.C (Kd.int .u64) w A1_1 l1_1.length l1_1) (hc1_1 : l1_1.length ≤ c1_1) (hr1_3 : Kd.C (Kd.int .u64) w A1_3 l1_3.length l1_3) (hc1_3 : l1_3.length ≤ c1_3) (hr1_4 : Kd.C (Kd.int .i64) w A1_4 l1_4.length l1_4) (hc1_4 : l1_4.length ≤ c1_4) (h : spec_PatchDo.f k l0 a1_0 l1_1 a1_2 l1_3 l1_4 = some (r1, r2)) :
  Calls Try.prog 15 #[.slice A0 l0.length c0, .agg #[.int .i64 a1_0, .slice A1_1 l1_1.length c1_1, .int .i64 a1_2, .slice A1_3 l1_3.length c1_3, .slice A1_4 l1_4.length c1_4]] w fun e w' => ∃ v0_ : Value, e = .returned (.tuple #[v0_, .bool r2]) ∧ Kd.R (Kd.int .i64) 3 w' w.heap.size (fun _ => True) v0_ r1 ∧ Below w.heap.size w w' := by
 have hu27:=Try.underlying27
 have hu25:=Try.underlying25
 have HR0:=mk0 hr0
 have HC0:=mk0 hc0
 clear hr0 hc0
 have HR1_1:=mk0 hr1_1
 have HC1_1:=mk0 hc1_1
 clear hr1_1 hc1_1
 have HR1_3:=mk0 hr1_3
 have HC1_3:=mk0 hc1_3
 clear hr1_3 hc1_3
 have HR1_4:=mk0 hr1_4
 have HC1_4:=mk0 hc1_4
 clear hr1_4 hc1_4
 have HB:=mk0 (Below.refl w.heap.size w)
 have H:((spec_l12Right.f l0).bind fun t175=>(if t175 = true then ((spec_BitsOk.f k a1_0 l1_1).bind fun t176=>(if t176 = true then ((spec_BitsOk.f k a1_2 l1_3).bind fun t177=>(if t177 = true then (if a1_0 = (l0.length:Int) then (spec_PatchDo.j0 k l0 (decide (a1_2 > 301)) a1_0 l1_1 a1_2 l1_3 l1_4) else (spec_PatchDo.j0 k l0 true a1_0 l1_1 a1_2 l1_3 l1_4)) else (spec_PatchDo.j0 k l0 true a1_0 l1_1 a1_2 l1_3 l1_4))) else (spec_PatchDo.j0 k l0 true a1_0 l1_1 a1_2 l1_3 l1_4))) else (spec_PatchDo.j0 k l0 true a1_0 l1_1 a1_2 l1_3 l1_4))) = some (r1,r2):=h
 clear h
 have HC3:=mk0 H
 clear H
 go_enter Try.func15,Try.ntmps15
 go_upto_region 1 with (first|((with_reducible refine gate_dst (N:=3) rfl ?_);(try (refine gate_guard (by rfl) ?_;dsimp only));refine box_event ?hg (N:=3) ?hd (cs:=#[.int .i64 a1_0,.slice A1_1 l1_1.length c1_1,.int .i64 a1_2,.slice A1_3 l1_3.length c1_3,.slice A1_4 l1_4.length c1_4]) (t:=27) ?hr ?_;(case hd=>rfl);(case hg=>rfl);(case hr=>first|(go_simp;done)|(go_simp;rfl));intro gb174 hg w4 hbox hb;have n0_:=mk0 (below_step (by repeat (first|(with_reducible first|exact HB.out|apply aZ|apply nZ|apply dZ)|exact HB.out)) hb);have n1_:=mk0 (hbox);have n2_:=mk0 ((by rw [hg];exact (below_size (by repeat (first|(with_reducible first|exact HB.out|apply aZ|apply nZ|apply dZ)|exact HB.out))):w.heap.size ≤ gb174));have n3_:=mk0 ((by rw [hg];exact (below_size (by repeat (first|(with_reducible first|exact HB.out|apply aZ|apply nZ|apply dZ)|exact HB.out))):w.heap.size ≤ gb174));clear HB;have HB:=n0_;have BK174:=n1_;have GW174:=n2_;have GE174:=n3_;clear n0_ n1_ n2_ n3_ hb hbox hg))
 (try simp only [Act.put,sA,sO,sS])
 go_cut [41] (fun v41 wc=>∃ (kq:Nat) (x41_2:Bool),v41 = .bool x41_2 ∧ Aside0 (spec_PatchDo.j0 kq l0 x41_2 a1_0 l1_1 a1_2 l1_3 l1_4 = some (r1,r2)) ∧ Aside0 (kq ≤ k) ∧ Aside0 (wc.heap[gb174]? = some (.cells #[.int .i64 a1_0,(.slice A1_1 l1_1.length c1_1),.int .i64 a1_2,(.slice A1_3 l1_3.length c1_3),(.slice A1_4 l1_4.length c1_4)] 27 (0,0))) ∧ Aside0 (Below w.heap.size w wc))
 case first =>
  have H:=HC3.out
  clear HC3
  replace H:=Option.bind_eq_some_iff.mp H
  obtain⟨t175,A50,H⟩:=H
  replace H:(if t175 = true then ((spec_BitsOk.f k a1_0 l1_1).bind fun t176=>(if t176 = true then ((spec_BitsOk.f k a1_2 l1_3).bind fun t177=>(if t177 = true then (if a1_0 = (l0.length:Int) then (spec_PatchDo.j0 k l0 (decide (a1_2 > 301)) a1_0 l1_1 a1_2 l1_3 l1_4) else (spec_PatchDo.j0 k l0 true a1_0 l1_1 a1_2 l1_3 l1_4)) else (spec_PatchDo.j0 k l0 true a1_0 l1_1 a1_2 l1_3 l1_4))) else (spec_PatchDo.j0 k l0 true a1_0 l1_1 a1_2 l1_3 l1_4))) else (spec_PatchDo.j0 k l0 true a1_0 l1_1 a1_2 l1_3 l1_4)) = some (r1,r2):=H
  have A5:=mk0 A50
  clear A50
  by_cases c6:t175 = true
  rotate_left
  ·replace c6:=Bool.eq_false_iff.mpr c6
   subst c6
   have H1:(spec_PatchDo.j0 k l0 true a1_0 l1_1 a1_2 l1_3 l1_4) = some (r1,r2):=by rw [if_neg (show ¬ (false = true) by decide)] at H;exact H
   clear H
   have H:=H1
   clear H1
   have H':=mk0 H
   clear H
   go_wp2_with (first|((with_reducible refine gate_callee (f:=23) rfl ?_);refine goesL_ (some 14) rfl rfl Try.func23 (by kernel_rfl) rfl #[.slice A0 l0.length c0] rfl (by (try simp only [mA,mC,mN]);first|done|rfl|(simp only [List.length_drop,List.length_take];rfl)) ?_;(with_reducible refine (spec_l12Right.calls _ _ l0 false _ ?side1 ?side2 A5.out).mono ?_);(case side1=>repeat (first|exact (Kd.C_below HR0.out HB.out)|(with_reducible first|apply aC|apply nC|apply dC)));(case side2=>exact HC0.out);rintro e w' ⟨rfl,⟨nd,rfl⟩⟩;refine⟨_,rfl,?_⟩))
   go_meet
   case rel=>exact⟨_,(true),(by first|rfl|(simp;done)|(simp [*];done)),H',⟨by first|omega|exact Nat.le_refl _⟩,⟨by (with_reducible repeat (first|apply nB|apply dB|apply aB));exact BK174.out⟩,⟨by repeat (first|(with_reducible first|exact HB.out|apply aZ|apply nZ|apply dZ|refine sZ ?_ GE174.out)|exact HB.out)⟩⟩
  subst c6
  have H1:((spec_BitsOk.f k a1_0 l1_1).bind fun t176=>(if t176 = true then ((spec_BitsOk.f k a1_2 l1_3).bind fun t177=>(if t177 = true then (if a1_0 = (l0.length:Int) then (spec_PatchDo.j0 k l0 (decide (a1_2 > 301)) a1_0 l1_1 a1_2 l1_3 l1_4) else (spec_PatchDo.j0 k l0 true a1_0 l1_1 a1_2 l1_3 l1_4)) else (spec_PatchDo.j0 k l0 true a1_0 l1_1 a1_2 l1_3 l1_4))) else (spec_PatchDo.j0 k l0 true a1_0 l1_1 a1_2 l1_3 l1_4))) = some (r1,r2):=by rw [if_pos rfl] at H;exact H
  clear H
  have H:=H1
  clear H1
  replace H:=Option.bind_eq_some_iff.mp H
  obtain⟨t176,A70,H⟩:=H
  replace H:(if t176 = true then ((spec_BitsOk.f k a1_2 l1_3).bind fun t177=>(if t177 = true then (if a1_0 = (l0.length:Int) then (spec_PatchDo.j0 k l0 (decide (a1_2 > 301)) a1_0 l1_1 a1_2 l1_3 l1_4) else (spec_PatchDo.j0 k l0 true a1_0 l1_1 a1_2 l1_3 l1_4)) else (spec_PatchDo.j0 k l0 true a1_0 l1_1 a1_2 l1_3 l1_4))) else (spec_PatchDo.j0 k l0 true a1_0 l1_1 a1_2 l1_3 l1_4)) = some (r1,r2):=H
  have A7:=mk0 A70
  clear A70
  by_cases c8:t176 = true
  rotate_left
  ·replace c8:=Bool.eq_false_iff.mpr c8
   subst c8
   have H1:(spec_PatchDo.j0 k l0 true a1_0 l1_1 a1_2 l1_3 l1_4) = some (r1,r2):=by rw [if_neg (show ¬ (false = true) by decide)] at H;exact H
   clear H
   have H:=H1
   clear H1
   have H':=mk0 H
   clear H
   go_wp2_with (first|((with_reducible refine gate_callee (f:=23) rfl ?_);refine goesL_ (some 14) rfl rfl Try.func23 (by kernel_rfl) rfl #[.slice A0 l0.length c0] rfl (by (try simp only [mA,mC,mN]);first|done|rfl|(simp only [List.length_drop,List.length_take];rfl)) ?_;(with_reducible refine (spec_l12Right.calls _ _ l0 true _ ?side1 ?side2 A5.out).mono ?_);(case side1=>repeat (first|exact (Kd.C_below HR0.out HB.out)|(with_reducible first|apply aC|apply nC|apply dC)));(case side2=>exact HC0.out);rintro e w' ⟨rfl,⟨nd,rfl⟩⟩;refine⟨_,rfl,?_⟩;have hcz26_0:w4.cell? ⟨gb174,0,none⟩ = some (.int .i64 a1_0):=(blk_cell BK174.out 0).trans rfl;have hcz26_1:w4.cell? ⟨gb174,1,none⟩ = some (.slice A1_1 l1_1.length c1_1):=(blk_cell BK174.out 1).trans rfl;have hcz26_2:w4.cell? ⟨gb174,2,none⟩ = some (.int .i64 a1_2):=(blk_cell BK174.out 2).trans rfl;have hcz26_3:w4.cell? ⟨gb174,3,none⟩ = some (.slice A1_3 l1_3.length c1_3):=(blk_cell BK174.out 3).trans rfl;have hcz26_4:w4.cell? ⟨gb174,4,none⟩ = some (.slice A1_4 l1_4.length c1_4):=(blk_cell BK174.out 4).trans rfl;have hfz26_0:=blk_frozen BK174.out 0;have hfz26_1:=blk_frozen BK174.out 1;have hfz26_2:=blk_frozen BK174.out 2;have hfz26_3:=blk_frozen BK174.out 3;have hfz26_4:=blk_frozen BK174.out 4)|(go_at_call 35;(with_reducible refine (spec_BitsOk.calls k a1_0 _ _ l1_1 false _ ?side1 ?side2 A7.out).mono ?_);(case side1=>repeat (first|exact (Kd.C_below HR1_1.out (by repeat (first|(with_reducible first|exact HB.out|apply aZ|apply nZ|apply dZ|refine sZ ?_ GE174.out)|exact HB.out)))|(with_reducible first|apply aC|apply nC|apply dC)));(case side2=>exact HC1_1.out);rintro e w27 ⟨rfl,hb⟩;have n0_:=mk0 (blk_below (g:=gb174) (o:=.cells #[.int .i64 a1_0,.slice A1_1 l1_1.length c1_1,.int .i64 a1_2,.slice A1_3 l1_3.length c1_3,.slice A1_4 l1_4.length c1_4] 27 (0,0)) (by (with_reducible repeat (first|apply nB|apply dB|apply aB));exact BK174.out) hb);have n1_:=mk0 (below_step (by repeat (first|(with_reducible first|exact HB.out|apply aZ|apply nZ|apply dZ|refine sZ ?_ GE174.out)|exact HB.out)) hb);clear BK174 HB;have BK174:=n0_;have HB:=n1_;clear n0_ n1_;(try clear hb);(try clear hb2);(try clear hk);(try clear hi)))
   go_meet
   case rel=>exact⟨_,(true),(by first|rfl|(simp;done)|(simp [*];done)),H',⟨by first|omega|exact Nat.le_refl _⟩,⟨by (with_reducible repeat (first|apply nB|apply dB|apply aB));exact BK174.out⟩,⟨by repeat (first|(with_reducible first|exact HB.out|apply aZ|apply nZ|apply dZ|refine sZ ?_ GE174.out)|exact HB.out)⟩⟩
  subst c8
  have H1:((spec_BitsOk.f k a1_2 l1_3).bind fun t177=>(if t177 = true then (if a1_0 = (l0.length:Int) then (spec_PatchDo.j0 k l0 (decide (a1_2 > 301)) a1_0 l1_1 a1_2 l1_3 l1_4) else (spec_PatchDo.j0 k l0 true a1_0 l1_1 a1_2 l1_3 l1_4)) else (spec_PatchDo.j0 k l0 true a1_0 l1_1 a1_2 l1_3 l1_4))) = some (r1,r2):=by rw [if_pos rfl] at H;exact H
  clear H
  have H:=H1
  clear H1
  replace H:=Option.bind_eq_some_iff.mp H
  obtain⟨t177,A90,H⟩:=H
  replace H:(if t177 = true then (if a1_0 = (l0.length:Int) then (spec_PatchDo.j0 k l0 (decide (a1_2 > 301)) a1_0 l1_1 a1_2 l1_3 l1_4) else (spec_PatchDo.j0 k l0 true a1_0 l1_1 a1_2 l1_3 l1_4)) else (spec_PatchDo.j0 k l0 true a1_0 l1_1 a1_2 l1_3 l1_4)) = some (r1,r2):=H
  have A9:=mk0 A90
  clear A90
  by_cases c10:t177 = true
  rotate_left
  ·replace c10:=Bool.eq_false_iff.mpr c10
   subst c10
   have H1:(spec_PatchDo.j0 k l0 true a1_0 l1_1 a1_2 l1_3 l1_4) = some (r1,r2):=by rw [if_neg (show ¬ (false = true) by decide)] at H;exact H
   clear H
   have H:=H1
   clear H1
   have H':=mk0 H
   clear H
   go_wp2_with (first|((with_reducible refine gate_callee (f:=23) rfl ?_);refine goesL_ (some 14) rfl rfl Try.func23 (by kernel_rfl) rfl #[.slice A0 l0.length c0] rfl (by (try simp only [mA,mC,mN]);first|done|rfl|(simp only [List.length_drop,List.length_take];rfl)) ?_;(with_reducible refine (spec_l12Right.calls _ _ l0 true _ ?side1 ?side2 A5.out).mono ?_);(case side1=>repeat (first|exact (Kd.C_below HR0.out HB.out)|(with_reducible first|apply aC|apply nC|apply dC)));(case side2=>exact HC0.out);rintro e w' ⟨rfl,⟨nd,rfl⟩⟩;refine⟨_,rfl,?_⟩;have hcz22_0:w4.cell? ⟨gb174,0,none⟩ = some (.int .i64 a1_0):=(blk_cell BK174.out 0).trans rfl;have hcz22_1:w4.cell? ⟨gb174,1,none⟩ = some (.slice A1_1 l1_1.length c1_1):=(blk_cell BK174.out 1).trans rfl;have hcz22_2:w4.cell? ⟨gb174,2,none⟩ = some (.int .i64 a1_2):=(blk_cell BK174.out 2).trans rfl;have hcz22_3:w4.cell? ⟨gb174,3,none⟩ = some (.slice A1_3 l1_3.length c1_3):=(blk_cell BK174.out 3).trans rfl;have hcz22_4:w4.cell? ⟨gb174,4,none⟩ = some (.slice A1_4 l1_4.length c1_4):=(blk_cell BK174.out 4).trans rfl;have hfz22_0:=blk_frozen BK174.out 0;have hfz22_1:=blk_frozen BK174.out 1;have hfz22_2:=blk_frozen BK174.out 2;have hfz22_3:=blk_frozen BK174.out 3;have hfz22_4:=blk_frozen BK174.out 4)|(go_at_call 35;(with_reducible refine (spec_BitsOk.calls k a1_0 _ _ l1_1 true _ ?side1 ?side2 A7.out).mono ?_);(case side1=>repeat (first|exact (Kd.C_below HR1_1.out (by repeat (first|(with_reducible first|exact HB.out|apply aZ|apply nZ|apply dZ|refine sZ ?_ GE174.out)|exact HB.out)))|(with_reducible first|apply aC|apply nC|apply dC)));(case side2=>exact HC1_1.out);rintro e w23 ⟨rfl,hb⟩;have n0_:=mk0 (blk_below (g:=gb174) (o:=.cells #[.int .i64 a1_0,.slice A1_1 l1_1.length c1_1,.int .i64 a1_2,.slice A1_3 l1_3.length c1_3,.slice A1_4 l1_4.length c1_4] 27 (0,0)) (by (with_reducible repeat (first|apply nB|apply dB|apply aB));exact BK174.out) hb);have n1_:=mk0 (below_step (by repeat (first|(with_reducible first|exact HB.out|apply aZ|apply nZ|apply dZ|refine sZ ?_ GE174.out)|exact HB.out)) hb);clear BK174 HB;have BK174:=n0_;have HB:=n1_;clear n0_ n1_;(try clear hb);(try clear hb2);(try clear hk);(try clear hi);have hcz24_0:w23.cell? ⟨gb174,0,none⟩ = some (.int .i64 a1_0):=(blk_cell BK174.out 0).trans rfl;have hcz24_1:w23.cell? ⟨gb174,1,none⟩ = some (.slice A1_1 l1_1.length c1_1):=(blk_cell BK174.out 1).trans rfl;have hcz24_2:w23.cell? ⟨gb174,2,none⟩ = some (.int .i64 a1_2):=(blk_cell BK174.out 2).trans rfl;have hcz24_3:w23.cell? ⟨gb174,3,none⟩ = some (.slice A1_3 l1_3.length c1_3):=(blk_cell BK174.out 3).trans rfl;have hcz24_4:w23.cell? ⟨gb174,4,none⟩ = some (.slice A1_4 l1_4.length c1_4):=(blk_cell BK174.out 4).trans rfl;have hfz24_0:=blk_frozen BK174.out 0;have hfz24_1:=blk_frozen BK174.out 1;have hfz24_2:=blk_frozen BK174.out 2;have hfz24_3:=blk_frozen BK174.out 3;have hfz24_4:=blk_frozen BK174.out 4)|(go_at_call 35;(with_reducible refine (spec_BitsOk.calls k a1_2 _ _ l1_3 false _ ?side1 ?side2 A9.out).mono ?_);(case side1=>repeat (first|exact (Kd.C_below HR1_3.out HB.out)|(with_reducible first|apply aC|apply nC|apply dC)));(case side2=>exact HC1_3.out);rintro e w25 ⟨rfl,hb⟩;have n0_:=mk0 (blk_below (g:=gb174) (o:=.cells #[.int .i64 a1_0,.slice A1_1 l1_1.length c1_1,.int .i64 a1_2,.slice A1_3 l1_3.length c1_3,.slice A1_4 l1_4.length c1_4] 27 (0,0)) (by (with_reducible repeat (first|apply nB|apply dB|apply aB));exact BK174.out) hb);have n1_:=mk0 (below_step (by repeat (first|(with_reducible first|exact HB.out|apply aZ|apply nZ|apply dZ|refine sZ ?_ GE174.out)|exact HB.out)) hb);clear BK174 HB;have BK174:=n0_;have HB:=n1_;clear n0_ n1_;(try clear hb);(try clear hb2);(try clear hk);(try clear hi)))
   go_meet
   case rel=>exact⟨_,(true),(by first|rfl|(simp;done)|(simp [*];done)),H',⟨by first|omega|exact Nat.le_refl _⟩,⟨by (with_reducible repeat (first|apply nB|apply dB|apply aB));exact BK174.out⟩,⟨by repeat (first|(with_reducible first|exact HB.out|apply aZ|apply nZ|apply dZ|refine sZ ?_ GE174.out)|exact HB.out)⟩⟩
  subst c10
  have H1:(if a1_0 = (l0.length:Int) then (spec_PatchDo.j0 k l0 (decide (a1_2 > 301)) a1_0 l1_1 a1_2 l1_3 l1_4) else (spec_PatchDo.j0 k l0 true a1_0 l1_1 a1_2 l1_3 l1_4)) = some (r1,r2):=by rw [if_pos rfl] at H;exact H
  clear H
  have H:=H1
  clear H1
  by_cases c11:a1_0 = (l0.length:Int)
  rotate_left
  ·rw [if_neg c11] at H
   have c11b0:(a1_0 == (l0.length:Int)) = false:=beq_eq_false_iff_ne.mpr c11
   have c11b1:(a1_0 != (l0.length:Int)) = true:=bne_iff_ne.mpr c11
   (first|rw [c11b0]|(simp only [i64_w,i32_w];rw [c11b0])|skip)
   have H':=mk0 H
   clear H
   go_wp2_with (first|((with_reducible refine gate_callee (f:=23) rfl ?_);refine goesL_ (some 14) rfl rfl Try.func23 (by kernel_rfl) rfl #[.slice A0 l0.length c0] rfl (by (try simp only [mA,mC,mN]);first|done|rfl|(simp only [List.length_drop,List.length_take];rfl)) ?_;(with_reducible refine (spec_l12Right.calls _ _ l0 true _ ?side1 ?side2 A5.out).mono ?_);(case side1=>repeat (first|exact (Kd.C_below HR0.out HB.out)|(with_reducible first|apply aC|apply nC|apply dC)));(case side2=>exact HC0.out);rintro e w' ⟨rfl,⟨nd,rfl⟩⟩;refine⟨_,rfl,?_⟩;have hcz17_0:w4.cell? ⟨gb174,0,none⟩ = some (.int .i64 a1_0):=(blk_cell BK174.out 0).trans rfl;have hcz17_1:w4.cell? ⟨gb174,1,none⟩ = some (.slice A1_1 l1_1.length c1_1):=(blk_cell BK174.out 1).trans rfl;have hcz17_2:w4.cell? ⟨gb174,2,none⟩ = some (.int .i64 a1_2):=(blk_cell BK174.out 2).trans rfl;have hcz17_3:w4.cell? ⟨gb174,3,none⟩ = some (.slice A1_3 l1_3.length c1_3):=(blk_cell BK174.out 3).trans rfl;have hcz17_4:w4.cell? ⟨gb174,4,none⟩ = some (.slice A1_4 l1_4.length c1_4):=(blk_cell BK174.out 4).trans rfl;have hfz17_0:=blk_frozen BK174.out 0;have hfz17_1:=blk_frozen BK174.out 1;have hfz17_2:=blk_frozen BK174.out 2;have hfz17_3:=blk_frozen BK174.out 3;have hfz17_4:=blk_frozen BK174.out 4)|(go_at_call 35;(with_reducible refine (spec_BitsOk.calls k a1_0 _ _ l1_1 true _ ?side1 ?side2 A7.out).mono ?_);(case side1=>repeat (first|exact (Kd.C_below HR1_1.out (by repeat (first|(with_reducible first|exact HB.out|apply aZ|apply nZ|apply dZ|refine sZ ?_ GE174.out)|exact HB.out)))|(with_reducible first|apply aC|apply nC|apply dC)));(case side2=>exact HC1_1.out);rintro e w18 ⟨rfl,hb⟩;have n0_:=mk0 (blk_below (g:=gb174) (o:=.cells #[.int .i64 a1_0,.slice A1_1 l1_1.length c1_1,.int .i64 a1_2,.slice A1_3 l1_3.length c1_3,.slice A1_4 l1_4.length c1_4] 27 (0,0)) (by (with_reducible repeat (first|apply nB|apply dB|apply aB));exact BK174.out) hb);have n1_:=mk0 (below_step (by repeat (first|(with_reducible first|exact HB.out|apply aZ|apply nZ|apply dZ|refine sZ ?_ GE174.out)|exact HB.out)) hb);clear BK174 HB;have BK174:=n0_;have HB:=n1_;clear n0_ n1_;(try clear hb);(try clear hb2);(try clear hk);(try clear hi);have hcz19_0:w18.cell? ⟨gb174,0,none⟩ = some (.int .i64 a1_0):=(blk_cell BK174.out 0).trans rfl;have hcz19_1:w18.cell? ⟨gb174,1,none⟩ = some (.slice A1_1 l1_1.length c1_1):=(blk_cell BK174.out 1).trans rfl;have hcz19_2:w18.cell? ⟨gb174,2,none⟩ = some (.int .i64 a1_2):=(blk_cell BK174.out 2).trans rfl;have hcz19_3:w18.cell? ⟨gb174,3,none⟩ = some (.slice A1_3 l1_3.length c1_3):=(blk_cell BK174.out 3).trans rfl;have hcz19_4:w18.cell? ⟨gb174,4,none⟩ = some (.slice A1_4 l1_4.length c1_4):=(blk_cell BK174.out 4).trans rfl;have hfz19_0:=blk_frozen BK174.out 0;have hfz19_1:=blk_frozen BK174.out 1;have hfz19_2:=blk_frozen BK174.out 2;have hfz19_3:=blk_frozen BK174.out 3;have hfz19_4:=blk_frozen BK174.out 4)|(go_at_call 35;(with_reducible refine (spec_BitsOk.calls k a1_2 _ _ l1_3 true _ ?side1 ?side2 A9.out).mono ?_);(case side1=>repeat (first|exact (Kd.C_below HR1_3.out HB.out)|(with_reducible first|apply aC|apply nC|apply dC)));(case side2=>exact HC1_3.out);rintro e w20 ⟨rfl,hb⟩;have n0_:=mk0 (blk_below (g:=gb174) (o:=.cells #[.int .i64 a1_0,.slice A1_1 l1_1.length c1_1,.int .i64 a1_2,.slice A1_3 l1_3.length c1_3,.slice A1_4 l1_4.length c1_4] 27 (0,0)) (by (with_reducible repeat (first|apply nB|apply dB|apply aB));exact BK174.out) hb);have n1_:=mk0 (below_step (by repeat (first|(with_reducible first|exact HB.out|apply aZ|apply nZ|apply dZ|refine sZ ?_ GE174.out)|exact HB.out)) hb);clear BK174 HB;have BK174:=n0_;have HB:=n1_;clear n0_ n1_;(try clear hb);(try clear hb2);(try clear hk);(try clear hi);have hcz21_0:w20.cell? ⟨gb174,0,none⟩ = some (.int .i64 a1_0):=(blk_cell BK174.out 0).trans rfl;have hcz21_1:w20.cell? ⟨gb174,1,none⟩ = some (.slice A1_1 l1_1.length c1_1):=(blk_cell BK174.out 1).trans rfl;have hcz21_2:w20.cell? ⟨gb174,2,none⟩ = some (.int .i64 a1_2):=(blk_cell BK174.out 2).trans rfl;have hcz21_3:w20.cell? ⟨gb174,3,none⟩ = some (.slice A1_3 l1_3.length c1_3):=(blk_cell BK174.out 3).trans rfl;have hcz21_4:w20.cell? ⟨gb174,4,none⟩ = some (.slice A1_4 l1_4.length c1_4):=(blk_cell BK174.out 4).trans rfl;have hfz21_0:=blk_frozen BK174.out 0;have hfz21_1:=blk_frozen BK174.out 1;have hfz21_2:=blk_frozen BK174.out 2;have hfz21_3:=blk_frozen BK174.out 3;have hfz21_4:=blk_frozen BK174.out 4))
   go_meet
   case rel=>exact⟨_,(true),(by first|rfl|(simp;done)|(simp [*];done)),H',⟨by first|omega|exact Nat.le_refl _⟩,⟨by (with_reducible repeat (first|apply nB|apply dB|apply aB));exact BK174.out⟩,⟨by repeat (first|(with_reducible first|exact HB.out|apply aZ|apply nZ|apply dZ|refine sZ ?_ GE174.out)|exact HB.out)⟩⟩
  rw [if_pos c11] at H
  have c11b0:(a1_0 == (l0.length:Int)) = true:=beq_iff_eq.mpr c11
  have c11b1:(a1_0 != (l0.length:Int)) = false:=bne_eq_false_iff_eq.mpr c11
  clear c11
  (first|rw [c11b0]|(simp only [i64_w,i32_w];rw [c11b0])|skip)
  have H':=mk0 H
  clear H
  go_wp2_with (first|((with_reducible refine gate_callee (f:=23) rfl ?_);refine goesL_ (some 14) rfl rfl Try.func23 (by kernel_rfl) rfl #[.slice A0 l0.length c0] rfl (by (try simp only [mA,mC,mN]);first|done|rfl|(simp only [List.length_drop,List.length_take];rfl)) ?_;(with_reducible refine (spec_l12Right.calls _ _ l0 true _ ?side1 ?side2 A5.out).mono ?_);(case side1=>repeat (first|exact (Kd.C_below HR0.out HB.out)|(with_reducible first|apply aC|apply nC|apply dC)));(case side2=>exact HC0.out);rintro e w' ⟨rfl,⟨nd,rfl⟩⟩;refine⟨_,rfl,?_⟩;have hcz12_0:w4.cell? ⟨gb174,0,none⟩ = some (.int .i64 a1_0):=(blk_cell BK174.out 0).trans rfl;have hcz12_1:w4.cell? ⟨gb174,1,none⟩ = some (.slice A1_1 l1_1.length c1_1):=(blk_cell BK174.out 1).trans rfl;have hcz12_2:w4.cell? ⟨gb174,2,none⟩ = some (.int .i64 a1_2):=(blk_cell BK174.out 2).trans rfl;have hcz12_3:w4.cell? ⟨gb174,3,none⟩ = some (.slice A1_3 l1_3.length c1_3):=(blk_cell BK174.out 3).trans rfl;have hcz12_4:w4.cell? ⟨gb174,4,none⟩ = some (.slice A1_4 l1_4.length c1_4):=(blk_cell BK174.out 4).trans rfl;have hfz12_0:=blk_frozen BK174.out 0;have hfz12_1:=blk_frozen BK174.out 1;have hfz12_2:=blk_frozen BK174.out 2;have hfz12_3:=blk_frozen BK174.out 3;have hfz12_4:=blk_frozen BK174.out 4)|(go_at_call 35;(with_reducible refine (spec_BitsOk.calls k a1_0 _ _ l1_1 true _ ?side1 ?side2 A7.out).mono ?_);(case side1=>repeat (first|exact (Kd.C_below HR1_1.out (by repeat (first|(with_reducible first|exact HB.out|apply aZ|apply nZ|apply dZ|refine sZ ?_ GE174.out)|exact HB.out)))|(with_reducible first|apply aC|apply nC|apply dC)));(case side2=>exact HC1_1.out);rintro e w13 ⟨rfl,hb⟩;have n0_:=mk0 (blk_below (g:=gb174) (o:=.cells #[.int .i64 a1_0,.slice A1_1 l1_1.length c1_1,.int .i64 a1_2,.slice A1_3 l1_3.length c1_3,.slice A1_4 l1_4.length c1_4] 27 (0,0)) (by (with_reducible repeat (first|apply nB|apply dB|apply aB));exact BK174.out) hb);have n1_:=mk0 (below_step (by repeat (first|(with_reducible first|exact HB.out|apply aZ|apply nZ|apply dZ|refine sZ ?_ GE174.out)|exact HB.out)) hb);clear BK174 HB;have BK174:=n0_;have HB:=n1_;clear n0_ n1_;(try clear hb);(try clear hb2);(try clear hk);(try clear hi);have hcz14_0:w13.cell? ⟨gb174,0,none⟩ = some (.int .i64 a1_0):=(blk_cell BK174.out 0).trans rfl;have hcz14_1:w13.cell? ⟨gb174,1,none⟩ = some (.slice A1_1 l1_1.length c1_1):=(blk_cell BK174.out 1).trans rfl;have hcz14_2:w13.cell? ⟨gb174,2,none⟩ = some (.int .i64 a1_2):=(blk_cell BK174.out 2).trans rfl;have hcz14_3:w13.cell? ⟨gb174,3,none⟩ = some (.slice A1_3 l1_3.length c1_3):=(blk_cell BK174.out 3).trans rfl;have hcz14_4:w13.cell? ⟨gb174,4,none⟩ = some (.slice A1_4 l1_4.length c1_4):=(blk_cell BK174.out 4).trans rfl;have hfz14_0:=blk_frozen BK174.out 0;have hfz14_1:=blk_frozen BK174.out 1;have hfz14_2:=blk_frozen BK174.out 2;have hfz14_3:=blk_frozen BK174.out 3;have hfz14_4:=blk_frozen BK174.out 4)|(go_at_call 35;(with_reducible refine (spec_BitsOk.calls k a1_2 _ _ l1_3 true _ ?side1 ?side2 A9.out).mono ?_);(case side1=>repeat (first|exact (Kd.C_below HR1_3.out HB.out)|(with_reducible first|apply aC|apply nC|apply dC)));(case side2=>exact HC1_3.out);rintro e w15 ⟨rfl,hb⟩;have n0_:=mk0 (blk_below (g:=gb174) (o:=.cells #[.int .i64 a1_0,.slice A1_1 l1_1.length c1_1,.int .i64 a1_2,.slice A1_3 l1_3.length c1_3,.slice A1_4 l1_4.length c1_4] 27 (0,0)) (by (with_reducible repeat (first|apply nB|apply dB|apply aB));exact BK174.out) hb);have n1_:=mk0 (below_step (by repeat (first|(with_reducible first|exact HB.out|apply aZ|apply nZ|apply dZ|refine sZ ?_ GE174.out)|exact HB.out)) hb);clear BK174 HB;have BK174:=n0_;have HB:=n1_;clear n0_ n1_;(try clear hb);(try clear hb2);(try clear hk);(try clear hi);have hcz16_0:w15.cell? ⟨gb174,0,none⟩ = some (.int .i64 a1_0):=(blk_cell BK174.out 0).trans rfl;have hcz16_1:w15.cell? ⟨gb174,1,none⟩ = some (.slice A1_1 l1_1.length c1_1):=(blk_cell BK174.out 1).trans rfl;have hcz16_2:w15.cell? ⟨gb174,2,none⟩ = some (.int .i64 a1_2):=(blk_cell BK174.out 2).trans rfl;have hcz16_3:w15.cell? ⟨gb174,3,none⟩ = some (.slice A1_3 l1_3.length c1_3):=(blk_cell BK174.out 3).trans rfl;have hcz16_4:w15.cell? ⟨gb174,4,none⟩ = some (.slice A1_4 l1_4.length c1_4):=(blk_cell BK174.out 4).trans rfl;have hfz16_0:=blk_frozen BK174.out 0;have hfz16_1:=blk_frozen BK174.out 1;have hfz16_2:=blk_frozen BK174.out 2;have hfz16_3:=blk_frozen BK174.out 3;have hfz16_4:=blk_frozen BK174.out 4))
  go_meet
  case rel=>exact⟨_,(decide (a1_2 > 301)),(by first|rfl|(simp;done)|(simp [*];done)),H',⟨by first|omega|exact Nat.le_refl _⟩,⟨by (with_reducible repeat (first|apply nB|apply dB|apply aB));exact BK174.out⟩,⟨by repeat (first|(with_reducible first|exact HB.out|apply aZ|apply nZ|apply dZ|refine sZ ?_ GE174.out)|exact HB.out)⟩⟩
 case rest =>
  clear HC3
  try clear c1
  try clear c2
  try clear p2
  try clear c6
  try clear c8
  try clear c10
  try clear c11
  try clear c11b0
  try clear c11b1
  try clear c15
  try clear c23
  try clear hcz12_0
  try clear hcz12_1
  try clear hcz12_2
  try clear hcz12_3
  try clear hcz12_4
  try clear hcz14_0
  try clear hcz14_1
  try clear hcz14_2
  try clear hcz14_3
  try clear hcz14_4
  try clear hcz16_0
  try clear hcz16_1
  try clear hcz16_2
  try clear hcz16_3
  try clear hcz16_4
  try clear hcz17_0
  try clear hcz17_1
  try clear hcz17_2
  try clear hcz17_3
  try clear hcz17_4
  try clear hcz19_0
  try clear hcz19_1
  try clear hcz19_2
  try clear hcz19_3
  try clear hcz19_4
  try clear hcz21_0
  try clear hcz21_1
  try clear hcz21_2
  try clear hcz21_3
  try clear hcz21_4
  try clear hcz22_0
  try clear hcz22_1
  try clear hcz22_2
  try clear hcz22_3
  try clear hcz22_4
  try clear hcz24_0
  try clear hcz24_1
  try clear hcz24_2
  try clear hcz24_3
  try clear hcz24_4
  try clear hcz26_0
  try clear hcz26_1
  try clear hcz26_2
  try clear hcz26_3
  try clear hcz26_4
  try clear hfz12_0
  try clear hfz12_1
  try clear hfz12_2
  try clear hfz12_3
  try clear hfz12_4
  try clear hfz14_0
  try clear hfz14_1
  try clear hfz14_2
  try clear hfz14_3
  try clear hfz14_4
  try clear hfz16_0
  try clear hfz16_1
  try clear hfz16_2
  try clear hfz16_3
  try clear hfz16_4
  try clear hfz17_0
  try clear hfz17_1
  try clear hfz17_2
  try clear hfz17_3
  try clear hfz17_4
  try clear hfz19_0
  try clear hfz19_1
  try clear hfz19_2
  try clear hfz19_3
  try clear hfz19_4
  try clear hfz21_0
  try clear hfz21_1
  try clear hfz21_2
  try clear hfz21_3
  try clear hfz21_4
  try clear hfz22_0
  try clear hfz22_1
  try clear hfz22_2
  try clear hfz22_3
  try clear hfz22_4
  try clear hfz24_0
  try clear hfz24_1
  try clear hfz24_2
  try clear hfz24_3
  try clear hfz24_4
  try clear hfz26_0
  try clear hfz26_1
  try clear hfz26_2
  try clear hfz26_3
  try clear hfz26_4
  obtain⟨kq,x41_2,rfl,HA,HJ2,BK174,HB⟩:=hcut
  cases kq with
  | zero=>exact absurd HA.out (by simp [spec_PatchDo.j0])
  | succ kj2 =>
   have H:=HA.out
   clear HA
   simp only [spec_PatchDo.j0] at H
   by_cases c28:x41_2 = true
   ·subst c28
    have H1:(some (([]:List Int),false)) = some (r1,r2):=by rw [if_pos rfl] at H;exact H
    clear H
    have H:=H1
    clear H1
    simp only [Option.some.injEq,Prod.mk.injEq] at H
    obtain⟨rfl,rfl⟩:=H
    go_wp2
    go_ret2
    exact⟨_,by first|rfl|(simp [errW_none,errW_some] <;> rfl)|(simp [*,errW_none,errW_some] <;> rfl),by first|exact Kd.R_nil _ _ _ _ _|exact Kd.N_nil _ _ _ _ _|exact Kd.V_nil _ _ _ _ _|exact Kd.Q_nil _ _ _ _ _|exact Kd.S_nil _ _ _ _ _,by repeat (first|(with_reducible first|exact HB.out|apply aZ|apply nZ|apply dZ|refine sZ ?_ GE174.out)|exact HB.out)⟩
   replace c28:=Bool.eq_false_iff.mpr c28
   subst c28
   have H1:((spec_l01List.f kj2 a1_0 l1_1).bind fun t178=>((spec_l01List.f kj2 a1_2 l1_3).bind fun t181=>(spec_PatchDo.l0 kj2 l0 t178 t181 (([]:List Int)) 0 a1_0 l1_1 a1_2 l1_3 l1_4))) = some (r1,r2):=by rw [if_neg (show ¬ (false = true) by decide)] at H;exact H
   clear H
   have H:=H1
   clear H1
   replace H:=Option.bind_eq_some_iff.mp H
   obtain⟨t178,A290,H⟩:=H
   replace H:((spec_l01List.f kj2 a1_2 l1_3).bind fun t181=>(spec_PatchDo.l0 kj2 l0 t178 t181 (([]:List Int)) 0 a1_0 l1_1 a1_2 l1_3 l1_4)) = some (r1,r2):=H
   have A29:=mk0 A290
   clear A290
   replace H:=Option.bind_eq_some_iff.mp H
   obtain⟨t181,A300,H⟩:=H
   replace H:(spec_PatchDo.l0 kj2 l0 t178 t181 (([]:List Int)) 0 a1_0 l1_1 a1_2 l1_3 l1_4) = some (r1,r2):=H
   have A30:=mk0 A300
   clear A300
   obtain⟨y184,hy184⟩:∃ y_:List Int,y_ = (([]:List Int)):=⟨_,rfl⟩
   replace H:(spec_PatchDo.l0 kj2 l0 t178 t181 y184 0 a1_0 l1_1 a1_2 l1_3 l1_4) = some (r1,r2):=by first|(rw [hy184];with_reducible exact H)|(have H2_:=(Option.bind_some _ _).symm.trans H;rw [hy184];with_reducible exact H2_)|(have H2_:=(Option.bind_some _ _).symm.trans H;with_reducible exact H2_)|with_reducible exact H|(rw [hy184];exact H)|exact H
   have Ny184:=mk0 hy184
   clear hy184
   have H':=mk0 H
   clear H
   have hcz31_0:wc.cell? ⟨gb174,0,none⟩ = some (.int .i64 a1_0):=(blk_cell BK174.out 0).trans rfl
   have hcz31_1:wc.cell? ⟨gb174,1,none⟩ = some (.slice A1_1 l1_1.length c1_1):=(blk_cell BK174.out 1).trans rfl
   have hcz31_2:wc.cell? ⟨gb174,2,none⟩ = some (.int .i64 a1_2):=(blk_cell BK174.out 2).trans rfl
   have hcz31_3:wc.cell? ⟨gb174,3,none⟩ = some (.slice A1_3 l1_3.length c1_3):=(blk_cell BK174.out 3).trans rfl
   have hcz31_4:wc.cell? ⟨gb174,4,none⟩ = some (.slice A1_4 l1_4.length c1_4):=(blk_cell BK174.out 4).trans rfl
   have hfz31_0:=blk_frozen BK174.out 0
   have hfz31_1:=blk_frozen BK174.out 1
   have hfz31_2:=blk_frozen BK174.out 2
   have hfz31_3:=blk_frozen BK174.out 3
   have hfz31_4:=blk_frozen BK174.out 4
   go_wp2_with (first|((with_reducible refine gate_callee (f:=36) rfl ?_);refine goesL_ (some 44) rfl rfl Try.func36 (by kernel_rfl) rfl #[.agg #[.int .i64 a1_0,.slice A1_1 l1_1.length c1_1]] rfl (by (try simp only [mA,mC,mN]);first|done|rfl|(simp only [List.length_drop,List.length_take];rfl)) ?_;(with_reducible refine (spec_l01List.calls kj2 a1_0 _ _ l1_1 t178 _ ?side1 ?side2 A29.out).mono ?_);(case side1=>repeat (first|exact (Kd.C_below HR1_1.out HB.out)|(with_reducible first|apply aC|apply nC|apply dC)));(case side2=>exact HC1_1.out);rintro e w32 ⟨v179,rfl,ho0,hb⟩;refine⟨_,rfl,?_⟩;have n0_:=mk0 (Kd.R_lower ho0 (below_size (by repeat (first|(with_reducible first|exact HB.out|apply aZ|apply nZ|apply dZ|refine sZ ?_ GE174.out)|exact HB.out))));have n1_:=mk0 (blk_below (g:=gb174) (o:=.cells #[.int .i64 a1_0,.slice A1_1 l1_1.length c1_1,.int .i64 a1_2,.slice A1_3 l1_3.length c1_3,.slice A1_4 l1_4.length c1_4] 27 (0,0)) (by (with_reducible repeat (first|apply nB|apply dB|apply aB));exact BK174.out) hb);have n2_:=mk0 (below_step (by repeat (first|(with_reducible first|exact HB.out|apply aZ|apply nZ|apply dZ|refine sZ ?_ GE174.out)|exact HB.out)) hb);clear BK174 HB;have HO180:=n0_;have BK174:=n1_;have HB:=n2_;clear n0_ n1_ n2_;(try clear hb);(try clear hb2);(try clear hk);(try clear hi);(try clear ho0);have hcz33_0:w32.cell? ⟨gb174,0,none⟩ = some (.int .i64 a1_0):=(blk_cell BK174.out 0).trans rfl;have hcz33_1:w32.cell? ⟨gb174,1,none⟩ = some (.slice A1_1 l1_1.length c1_1):=(blk_cell BK174.out 1).trans rfl;have hcz33_2:w32.cell? ⟨gb174,2,none⟩ = some (.int .i64 a1_2):=(blk_cell BK174.out 2).trans rfl;have hcz33_3:w32.cell? ⟨gb174,3,none⟩ = some (.slice A1_3 l1_3.length c1_3):=(blk_cell BK174.out 3).trans rfl;have hcz33_4:w32.cell? ⟨gb174,4,none⟩ = some (.slice A1_4 l1_4.length c1_4):=(blk_cell BK174.out 4).trans rfl;have hfz33_0:=blk_frozen BK174.out 0;have hfz33_1:=blk_frozen BK174.out 1;have hfz33_2:=blk_frozen BK174.out 2;have hfz33_3:=blk_frozen BK174.out 3;have hfz33_4:=blk_frozen BK174.out 4)|((with_reducible refine gate_callee (f:=36) rfl ?_);refine goesL_ (some 47) rfl rfl Try.func36 (by kernel_rfl) rfl #[.agg #[.int .i64 a1_2,.slice A1_3 l1_3.length c1_3]] rfl (by (try simp only [mA,mC,mN]);first|done|rfl|(simp only [List.length_drop,List.length_take];rfl)) ?_;(with_reducible refine (spec_l01List.calls kj2 a1_2 _ _ l1_3 t181 _ ?side1 ?side2 A30.out).mono ?_);(case side1=>repeat (first|exact (Kd.C_below HR1_3.out HB.out)|(with_reducible first|apply aC|apply nC|apply dC)));(case side2=>exact HC1_3.out);rintro e w34 ⟨v182,rfl,ho0,hb⟩;refine⟨_,rfl,?_⟩;have n0_:=mk0 (Kd.R_elder' (by (with_reducible repeat (first|apply aR|apply nR|apply dR));exact HO180.out) (Kd.R_base ho0) hb);have n1_:=mk0 (Kd.R_lower (Kd.R_new' ho0 (Kd.R_lt (by (with_reducible repeat (first|apply aR|apply nR|apply dR));exact HO180.out))) (below_size (by repeat (first|(with_reducible first|exact HB.out|apply aZ|apply nZ|apply dZ|refine sZ ?_ GE174.out)|exact HB.out))));have n2_:=mk0 (blk_below (g:=gb174) (o:=.cells #[.int .i64 a1_0,.slice A1_1 l1_1.length c1_1,.int .i64 a1_2,.slice A1_3 l1_3.length c1_3,.slice A1_4 l1_4.length c1_4] 27 (0,0)) (by (with_reducible repeat (first|apply nB|apply dB|apply aB));exact BK174.out) hb);have n3_:=mk0 (below_step (by repeat (first|(with_reducible first|exact HB.out|apply aZ|apply nZ|apply dZ|refine sZ ?_ GE174.out)|exact HB.out)) hb);clear HO180 BK174 HB;have HO180:=n0_;have HO183:=n1_;have BK174:=n2_;have HB:=n3_;clear n0_ n1_ n2_ n3_;(try clear hb);(try clear hb2);(try clear hk);(try clear hi);(try clear ho0))|((with_reducible refine gate_dst (N:=48) rfl ?_);(try (refine gate_guard (by rfl) ?_;dsimp only));refine Kd.R_lit (Kd.int .i64) _ 3 ?hg (N:=48) ?hd (xs:=([]:List Int)) (inner:=[]) (ok:=fun _=>True) (okp:=fun _=>True) ?hr ?hp (fun _ hk=>hk) trivial (Below.refl _ _) (Nat.le_refl _) (by simp) ?_;(case hd=>rfl);(case hg=>rfl);(case hr=>first|(go_simp;done)|(go_simp;rfl));(case hp=>exact (Reps.none _ _));intro v185 w35 ho36 hb hg_ hnew_;clear hg_ hnew_;(first|rw [← Ny184.out] at ho36|(simp only [Int.reduceToNat] at ho36;rw [← Ny184.out] at ho36));have n0_:=mk0 (Kd.R_elder' (by (with_reducible repeat (first|apply aR|apply nR|apply dR));exact HO180.out) (Kd.R_base ho36) hb);have n1_:=mk0 (Kd.R_elder' (by (with_reducible repeat (first|apply aR|apply nR|apply dR));exact HO183.out) (Kd.R_base ho36) hb);have n2_:=mk0 (Kd.R_lower (Kd.R_new' (Kd.R_new' ho36 (Kd.R_lt (by (with_reducible repeat (first|apply aR|apply nR|apply dR));exact HO180.out))) (Kd.R_lt (by (with_reducible repeat (first|apply aR|apply nR|apply dR));exact HO183.out))) (below_size (by repeat (first|(with_reducible first|exact HB.out|apply aZ|apply nZ|apply dZ|refine sZ ?_ GE174.out)|exact HB.out))));have n3_:=mk0 (blk_below (g:=gb174) (o:=.cells #[.int .i64 a1_0,.slice A1_1 l1_1.length c1_1,.int .i64 a1_2,.slice A1_3 l1_3.length c1_3,.slice A1_4 l1_4.length c1_4] 27 (0,0)) (by (with_reducible repeat (first|apply nB|apply dB|apply aB));exact BK174.out) hb);have n4_:=mk0 (below_step (by repeat (first|(with_reducible first|exact HB.out|apply aZ|apply nZ|apply dZ|refine sZ ?_ GE174.out)|exact HB.out)) hb);clear HO180 HO183 BK174 HB;have HO180:=n0_;have HO183:=n1_;have HO186:=n2_;have BK174:=n3_;have HB:=n4_;clear n0_ n1_ n2_ n3_ n4_ hb ho36))
   go_loopg [8,9] kj2 (fun kq v8 v9 w'=>∃ (x8_2:List Int) (x9_2:Int),v9 = .int .i64 x9_2 ∧ Aside0 (spec_PatchDo.l0 kq l0 t178 t181 x8_2 x9_2 a1_0 l1_1 a1_2 l1_3 l1_4 = some (r1,r2)) ∧ Aside0 (kq ≤ kj2) ∧ Aside0 (Kd.R (Kd.int .i64) 3 w' w.heap.size (fun k_=>some k_ ≠ (v182:Value).ownBlock ∧ some k_ ≠ (v8:Value).ownBlock) v179 t178) ∧ Aside0 (Kd.R (Kd.int .i64) 3 w' w.heap.size (fun k_=>some k_ ≠ (v179:Value).ownBlock ∧ some k_ ≠ (v8:Value).ownBlock) v182 t181) ∧ Aside0 (Kd.R (Kd.int .i64) 3 w' w.heap.size (fun k_=>some k_ ≠ (v179:Value).ownBlock ∧ some k_ ≠ (v182:Value).ownBlock) v8 x8_2) ∧ Aside0 (w'.heap[gb174]? = some (.cells #[.int .i64 a1_0,(.slice A1_1 l1_1.length c1_1),.int .i64 a1_2,(.slice A1_3 l1_3.length c1_3),(.slice A1_4 l1_4.length c1_4)] 27 (0,0))) ∧ Aside0 (Below w.heap.size w w'))
   case atStart=>exact⟨(y184),(0),(by first|rfl|(simp;done)|(simp [*];done)),H',⟨Nat.le_refl _⟩,⟨by (with_reducible repeat (first|apply aR|apply nR|apply dR));exact Kd.R_mono HO180.out (by first|exact fun _ hk=>⟨hk.1.2,hk.2⟩|(intro k_ hk;simp only [hk,ne_eq,and_self,not_false_eq_true]))⟩,⟨by (with_reducible repeat (first|apply aR|apply nR|apply dR));exact Kd.R_mono HO183.out (by first|exact fun _ hk=>⟨hk.1.2,hk.2⟩|(intro k_ hk;simp only [hk,ne_eq,and_self,not_false_eq_true]))⟩,⟨by (with_reducible repeat (first|apply aR|apply nR|apply dR));exact Kd.R_mono HO186.out (by first|exact fun _ hk=>⟨hk.1.2,hk.2⟩|(intro k_ hk;simp only [hk,ne_eq,and_self,not_false_eq_true]))⟩,⟨by (with_reducible repeat (first|apply nB|apply dB|apply aB));exact BK174.out⟩,⟨by repeat (first|(with_reducible first|exact HB.out|apply aZ|apply nZ|apply dZ|refine sZ ?_ GE174.out)|exact HB.out)⟩⟩
   case round =>
    clear H'
    try clear c1
    try clear c2
    try clear p2
    try clear c3
    try clear c6
    try clear c8
    try clear c10
    try clear c11
    try clear c11b0
    try clear c11b1
    try clear c15
    try clear c23
    try clear c28
    try clear c36
    try clear hcz12_0
    try clear hcz12_1
    try clear hcz12_2
    try clear hcz12_3
    try clear hcz12_4
    try clear hcz14_0
    try clear hcz14_1
    try clear hcz14_2
    try clear hcz14_3
    try clear hcz14_4
    try clear hcz16_0
    try clear hcz16_1
    try clear hcz16_2
    try clear hcz16_3
    try clear hcz16_4
    try clear hcz17_0
    try clear hcz17_1
    try clear hcz17_2
    try clear hcz17_3
    try clear hcz17_4
    try clear hcz19_0
    try clear hcz19_1
    try clear hcz19_2
    try clear hcz19_3
    try clear hcz19_4
    try clear hcz21_0
    try clear hcz21_1
    try clear hcz21_2
    try clear hcz21_3
    try clear hcz21_4
    try clear hcz22_0
    try clear hcz22_1
    try clear hcz22_2
    try clear hcz22_3
    try clear hcz22_4
    try clear hcz24_0
    try clear hcz24_1
    try clear hcz24_2
    try clear hcz24_3
    try clear hcz24_4
    try clear hcz26_0
    try clear hcz26_1
    try clear hcz26_2
    try clear hcz26_3
    try clear hcz26_4
    try clear hcz31_0
    try clear hcz31_1
    try clear hcz31_2
    try clear hcz31_3
    try clear hcz31_4
    try clear hcz33_0
    try clear hcz33_1
    try clear hcz33_2
    try clear hcz33_3
    try clear hcz33_4
    try clear hfz12_0
    try clear hfz12_1
    try clear hfz12_2
    try clear hfz12_3
    try clear hfz12_4
    try clear hfz14_0
    try clear hfz14_1
    try clear hfz14_2
    try clear hfz14_3
    try clear hfz14_4
    try clear hfz16_0
    try clear hfz16_1
    try clear hfz16_2
    try clear hfz16_3
    try clear hfz16_4
    try clear hfz17_0
    try clear hfz17_1
    try clear hfz17_2
    try clear hfz17_3
    try clear hfz17_4
    try clear hfz19_0
    try clear hfz19_1
    try clear hfz19_2
    try clear hfz19_3
    try clear hfz19_4
    try clear hfz21_0
    try clear hfz21_1
    try clear hfz21_2
    try clear hfz21_3
    try clear hfz21_4
    try clear hfz22_0
    try clear hfz22_1
    try clear hfz22_2
    try clear hfz22_3
    try clear hfz22_4
    try clear hfz24_0
    try clear hfz24_1
    try clear hfz24_2
    try clear hfz24_3
    try clear hfz24_4
    try clear hfz26_0
    try clear hfz26_1
    try clear hfz26_2
    try clear hfz26_3
    try clear hfz26_4
    try clear hfz31_0
    try clear hfz31_1
    try clear hfz31_2
    try clear hfz31_3
    try clear hfz31_4
    try clear hfz33_0
    try clear hfz33_1
    try clear hfz33_2
    try clear hfz33_3
    try clear hfz33_4
    try clear p2
    obtain⟨x8_2,x9_2,rfl,HA,HK2,HO_6,HO_7,HO_8,BK174,HB⟩:=hrel
    cases gk with
    | zero=>exact absurd HA.out (by simp [spec_PatchDo.l0])
    | succ k2 =>
     have H:=HA.out
     clear HA
     simp only [spec_PatchDo.l0] at H
     by_cases c37:x9_2 < (t178.length:Int)
     ·rw [if_pos c37] at H
      have c37b0:decide (x9_2 < (t178.length:Int)) = true:=decide_eq_true c37
      clear c37
      by_cases c38:0 ≤ x9_2
      rotate_left
      ·rw [if_neg c38] at H
       exact absurd H (by simp)
      rw [if_pos c38] at H
      have c38b0:decide (0 ≤ x9_2) = true:=decide_eq_true c38
      clear c38
      by_cases c39:(rd t178 x9_2) = 1
      rotate_left
      ·rw [if_neg c39] at H
       have c39b0:((rd t178 x9_2) == 1) = false:=beq_eq_false_iff_ne.mpr c39
       have c39b1:((rd t178 x9_2) != 1) = true:=bne_iff_ne.mpr c39
       have H':=mk0 H
       clear H
       obtain⟨Ao44,co44,eo44⟩:=Kd.R_slice HO_6.out
       subst eo44
       have p187:0 ≤ (x9_2:Int):=of_decide_eq_true (by first|(with_reducible assumption)|assumption)
       have q187:x9_2 < (t178.length:Int):=of_decide_eq_true (by first|(with_reducible assumption)|assumption)
       obtain⟨ad187,e187,hx187_0⟩:=Kd.at_int (Kd.R_reads' HO_6.out).2.2 x9_2 p187 q187
       cases e187
       replace p187:=eq_true p187
       replace q187:=eq_true q187
       go_wp2
       go_roundg k2
       case measure=>have:=HJ2.out;have:=HK2.out;omega
       case rel=>exact⟨(x8_2),(wrap64 (x9_2 + 1)),(by first|rfl|(simp;done)|(simp [*];done)),H',⟨by have:=HJ2.out;have:=HK2.out;omega⟩,⟨by (with_reducible repeat (first|apply aR|apply nR|apply dR));exact HO_6.out⟩,⟨by (with_reducible repeat (first|apply aR|apply nR|apply dR));exact HO_7.out⟩,⟨by (with_reducible repeat (first|apply aR|apply nR|apply dR));exact HO_8.out⟩,⟨by (with_reducible repeat (first|apply nB|apply dB|apply aB));exact BK174.out⟩,⟨by repeat (first|(with_reducible first|exact HB.out|apply aZ|apply nZ|apply dZ|refine sZ ?_ GE174.out)|exact HB.out)⟩⟩
      rw [if_pos c39] at H
      have c39b0:((rd t178 x9_2) == 1) = true:=beq_iff_eq.mpr c39
      have c39b1:((rd t178 x9_2) != 1) = false:=bne_eq_false_iff_eq.mpr c39
      clear c39
      by_cases c40:x9_2 < (l0.length:Int)
      rotate_left
      ·rw [if_neg c40] at H
       exact absurd H (by simp)
      rw [if_pos c40] at H
      have c40b0:decide (x9_2 < (l0.length:Int)) = true:=decide_eq_true c40
      clear c40
      by_cases c41:x8_2.length < 17592186044416
      rotate_left
      ·rw [if_neg c41] at H
       exact absurd H (by simp)
      rw [if_pos c41] at H
      have LMc41:=mk0 c41
      clear c41
      obtain⟨y189,hy189⟩:∃ y_:List Int,y_ = (x8_2 ++ [rd l0 x9_2]):=⟨_,rfl⟩
      replace H:(spec_PatchDo.l0 k2 l0 t178 t181 y189 (wrap64 (x9_2 + 1)) a1_0 l1_1 a1_2 l1_3 l1_4) = some (r1,r2):=by first|(rw [hy189];with_reducible exact H)|(have H2_:=(Option.bind_some _ _).symm.trans H;rw [hy189];with_reducible exact H2_)|(have H2_:=(Option.bind_some _ _).symm.trans H;with_reducible exact H2_)|with_reducible exact H|(rw [hy189];exact H)|exact H
      have Ny189:=mk0 hy189
      clear hy189
      have H':=mk0 H
      clear H
      obtain⟨Ao42,co42,eo42⟩:=Kd.R_slice HO_6.out
      subst eo42
      have p187:0 ≤ (x9_2:Int):=of_decide_eq_true (by first|(with_reducible assumption)|assumption)
      have q187:x9_2 < (t178.length:Int):=of_decide_eq_true (by first|(with_reducible assumption)|assumption)
      obtain⟨ad187,e187,hx187_0⟩:=Kd.at_int (Kd.R_reads' HO_6.out).2.2 x9_2 p187 q187
      cases e187
      replace p187:=eq_true p187
      replace q187:=eq_true q187
      have p188:0 ≤ (x9_2:Int):=of_decide_eq_true (by first|(with_reducible assumption)|assumption)
      have q188:x9_2 < (l0.length:Int):=of_decide_eq_true (by first|(with_reducible assumption)|assumption)
      obtain⟨ad188,e188,hx188_0⟩:=Kd.at_int HR0.out x9_2 p188 q188
      cases e188
      replace hx188_0:=(HB.out.cell (World.block_lt_of_cell? w _ hx188_0)).trans hx188_0
      replace p188:=eq_true p188
      replace q188:=eq_true q188
      go_wp2_with (first|((with_reducible refine gate_builtin (b:=.append) (xs:=#[.tmp 60,.tmp 65]) rfl ?_);(try (refine gate_guard (by rfl) ?_;dsimp only));at_builtin;refine Kd.R_append (Kd.int .i64) (w0:=w) w.heap.size rfl (.tmp 60) (.tmp 65) 22 3 (.int .i64 0) 8 rfl Try.underlying22 info3 rfl (by decide) (by omega) u8 x8_2 (rd l0 x9_2) [.int .i64 (rd l0 x9_2)] (fun k_=>some k_ ≠ (.slice (some ad187) t178.length co42:Value).ownBlock ∧ some k_ ≠ (v182:Value).ownBlock) (fun _=>False) rfl rfl ?aP (fun _ hk=>hk.elim) ?aF ?aO ?aB ?aS ?aL ?_;(case aP=>exact rfl);(case aB=>exact (by repeat (first|(with_reducible first|exact HB.out|apply aZ|apply nZ|apply dZ|refine sZ ?_ GE174.out)|exact HB.out)));(case aF=>exact (fun k_ hk=>⟨Kd.fresh' (Kd.R_lt (by (with_reducible repeat (first|apply aR|apply nR|apply dR));exact HO_6.out)) k_ hk,Kd.fresh' (Kd.R_lt (by (with_reducible repeat (first|apply aR|apply nR|apply dR));exact HO_7.out)) k_ hk⟩));(case aO=>exact (by (with_reducible repeat (first|apply aR|apply nR|apply dR));exact HO_8.out));(case aS=>exact (below_size (by repeat (first|(with_reducible first|exact HB.out|apply aZ|apply nZ|apply dZ|refine sZ ?_ GE174.out)|exact HB.out))));(case aL=>have:=LMc41.out;omega);intro v190 w43 ho hb hg hat;rw [← Ny189.out] at ho;have n0_:=mk0 (Kd.R_after (ok:=(fun k_=>some k_ ≠ (v182:Value).ownBlock)) (by (with_reducible repeat (first|apply aR|apply nR|apply dR));exact HO_6.out) hg hat);have n1_:=mk0 (Kd.R_after (ok:=(fun k_=>some k_ ≠ (.slice (some ad187) t178.length co42:Value).ownBlock)) (by (with_reducible repeat (first|apply aR|apply nR|apply dR));exact HO_7.out) hg hat);have n2_:=mk0 (blk_grown (g:=gb174) (o:=.cells #[.int .i64 a1_0,.slice A1_1 l1_1.length c1_1,.int .i64 a1_2,.slice A1_3 l1_3.length c1_3,.slice A1_4 l1_4.length c1_4] 27 (0,0)) (by (with_reducible repeat (first|apply nB|apply dB|apply aB));exact BK174.out) hg (Kd.R_ne HO_8.out BK174.out (by decide)));have n3_:=mk0 (hb);have n4_:=mk0 (ho);clear HO_6 HO_7 BK174 HB HO_8;have HO_6:=n0_;have HO_7:=n1_;have BK174:=n2_;have HB:=n3_;have HO191:=n4_;clear n0_ n1_ n2_ n3_ n4_ ho hb hg hat))
      go_roundg k2
      case measure=>have:=HJ2.out;have:=HK2.out;omega
      case rel=>exact⟨(y189),(wrap64 (x9_2 + 1)),(by first|rfl|(simp;done)|(simp [*];done)),H',⟨by have:=HJ2.out;have:=HK2.out;omega⟩,⟨by (with_reducible repeat (first|apply aR|apply nR|apply dR));exact HO_6.out⟩,⟨by (with_reducible repeat (first|apply aR|apply nR|apply dR));exact HO_7.out⟩,⟨by (with_reducible repeat (first|apply aR|apply nR|apply dR));exact HO191.out⟩,⟨by (with_reducible repeat (first|apply nB|apply dB|apply aB));exact BK174.out⟩,⟨by repeat (first|(with_reducible first|exact HB.out|apply aZ|apply nZ|apply dZ|refine sZ ?_ GE174.out)|exact HB.out)⟩⟩
     rw [if_neg c37] at H
     have c37b0:decide (x9_2 < (t178.length:Int)) = false:=decide_eq_false c37
     clear c37
     have HC45:=mk0 H
     clear H
     obtain⟨Ao46,co46,eo46⟩:=Kd.R_slice HO_6.out
     subst eo46
     go_upto_region 11 with (fail)
     go_cut [87] (fun v87 wc=>∃ (kq:Nat) (x87_44:Bool),v87 = .bool x87_44 ∧ Aside0 (spec_PatchDo.j2 kq t181 x8_2 x87_44 a1_0 l1_1 a1_2 l1_3 l1_4 = some (r1,r2)) ∧ Aside0 (kq ≤ k2) ∧ Aside0 (Kd.R (Kd.int .i64) 3 wc w.heap.size (fun k_=>some k_ ≠ (u8:Value).ownBlock) v182 t181) ∧ Aside0 (Kd.R (Kd.int .i64) 3 wc w.heap.size (fun k_=>some k_ ≠ (v182:Value).ownBlock) u8 x8_2) ∧ Aside0 (wc.heap[gb174]? = some (.cells #[.int .i64 a1_0,(.slice A1_1 l1_1.length c1_1),.int .i64 a1_2,(.slice A1_3 l1_3.length c1_3),(.slice A1_4 l1_4.length c1_4)] 27 (0,0))) ∧ Aside0 (Below w.heap.size w wc))
     case first =>
      have H:=HC45.out
      clear HC45
      replace H:=Option.bind_eq_some_iff.mp H
      obtain⟨t192,A470,H⟩:=H
      replace H:(if t192 = (x8_2.length:Int) then ((spec_Rank.f k2 a1_2 l1_3 0 a1_2).bind fun t193=>(spec_PatchDo.j2 k2 t181 x8_2 (t193 != (l1_4.length:Int)) a1_0 l1_1 a1_2 l1_3 l1_4)) else (spec_PatchDo.j2 k2 t181 x8_2 true a1_0 l1_1 a1_2 l1_3 l1_4)) = some (r1,r2):=H
      have A47:=mk0 A470
      clear A470
      by_cases c48:t192 = (x8_2.length:Int)
      rotate_left
      ·rw [if_neg c48] at H
       have c48b0:(t192 == (x8_2.length:Int)) = false:=beq_eq_false_iff_ne.mpr c48
       have c48b1:(t192 != (x8_2.length:Int)) = true:=bne_iff_ne.mpr c48
       (first|rw [c48b0]|(simp only [i64_w,i32_w];rw [c48b0])|skip)
       have H':=mk0 H
       clear H
       try go_wp2
       have n0_:=mk0 (dR HO_6.out)
       have n1_:=mk0 (dR HO_7.out)
       have n2_:=mk0 (dR HO_8.out)
       have n3_:=mk0 (dB BK174.out)
       have n4_:=mk0 (dZ HB.out)
       clear HO_6
       clear HO_7
       clear HO_8
       clear BK174
       clear HB
       have HO_6:=n0_
       have HO_7:=n1_
       have HO_8:=n2_
       have BK174:=n3_
       have HB:=n4_
       clear n0_ n1_ n2_ n3_ n4_
       obtain⟨Ao55,co55,eo55⟩:=Kd.R_slice HO_8.out
       (first|subst eo55|(injection eo55 with f1_ f2_ f3_;have f4_:=f1_.symm;have f5_:=f3_.symm;clear f1_ f2_ f3_;subst f4_;subst f5_))
       refine start_ (n:=21) (S:=fun w'=>w'.cell? ⟨gb174,0,none⟩ = some (.int .i64 a1_0) ∧ w'.cell? ⟨gb174,1,none⟩ = some (.slice A1_1 l1_1.length c1_1) ∧ w'.cell? ⟨gb174,2,none⟩ = some (.int .i64 a1_2) ∧ w'.cell? ⟨gb174,3,none⟩ = some (.slice A1_3 l1_3.length c1_3) ∧ w'.cell? ⟨gb174,4,none⟩ = some (.slice A1_4 l1_4.length c1_4)) (ds:=[]) spec_PatchDo.m0 (by kernel_rfl) rfl rfl ⟨(blk_cell BK174.out 0).trans rfl,(blk_cell BK174.out 1).trans rfl,(blk_cell BK174.out 2).trans rfl,(blk_cell BK174.out 3).trans rfl,(blk_cell BK174.out 4).trans rfl⟩ (fun hHeld=>?_);refine with_tabW spec_PatchDo.tab11 spec_PatchDo.bits11 (fun HT_ HW_=>?_)
       generalize wr.drew = w54 at HO_6 HO_7 HO_8 BK174 HB hHeld ⊢
       refine pure_ (i:=0) (N:=some 67) (v:=?_) (a':=?_) spec_PatchDo.m1 rfl rfl (any_of HT_.out (by kernel_rfl)) (fun _ _ _ h=>h) (Or.inl ⟨by rfl,?_⟩) ?_ ?_
       rotate_left
       ·intro w'
        go_simp
        with_reducible rfl
       rotate_left
       ·simp only [Act.put,sA,sO,sS,i64_w,i32_w]
        rfl
       refine pure_ (i:=2) (N:=some 69) (v:=?_) (a':=?_) spec_PatchDo.m2 rfl rfl (any_of HT_.out (by kernel_rfl)) (fun _ _ _ h=>h) (Or.inl ⟨by rfl,?_⟩) ?_ ?_
       rotate_left
       ·intro w'
        go_simp
        with_reducible rfl
       rotate_left
       ·simp only [Act.put,sA,sO,sS,i64_w,i32_w]
        rfl
       refine pure_ (i:=3) (N:=some 70) (v:=?_) (a':=?_) spec_PatchDo.m3 rfl rfl (any_of HT_.out (by kernel_rfl)) (fun _ _ _ h=>h) (Or.inl ⟨by rfl,?_⟩) ?_ ?_
       rotate_left
       ·intro w'
        go_simp
        with_reducible rfl
       rotate_left
       ·simp only [Act.put,sA,sO,sS,i64_w,i32_w]
        rfl
       refine pure_ (i:=6) (N:=some 73) (v:=?_) (a':=?_) spec_PatchDo.m4 rfl rfl (any_of HT_.out (by kernel_rfl)) (fun _ _ _ h=>h) (Or.inl ⟨by rfl,?_⟩) ?_ ?_
       rotate_left
       ·intro w'
        go_simp
        with_reducible rfl
       rotate_left
       ·simp only [Act.put,sA,sO,sS,i64_w,i32_w]
        rfl
       refine pure_ (i:=7) (N:=some 74) (v:=?_) (a':=?_) spec_PatchDo.m5 rfl rfl (any_of HT_.out (by kernel_rfl)) (fun _ _ _ h=>h) (Or.inl ⟨by rfl,?_⟩) ?_ ?_
       rotate_left
       ·intro w'
        go_simp
        with_reducible rfl
       rotate_left
       ·simp only [Act.put,sA,sO,sS,i64_w,i32_w]
        rfl
       refine take_ (i:=1) (N:=some 68) (v:=?_) (a':=?_) spec_PatchDo.m6 rfl rfl (take_ofW HT_.out HW_.out (by kernel_rfl)) (fun _ _ _ h=>h) (Or.inl ⟨by rfl,?_⟩) hHeld ?_ ?_
       rotate_left
       ·rintro w' ⟨s0,s1,s2,s3,s4⟩
        go_simp
        with_reducible rfl
       rotate_left
       ·simp only [Act.put,sA,sO,sS,i64_w,i32_w]
        rfl
       refine take_ (i:=4) (N:=some 71) (v:=?_) (a':=?_) spec_PatchDo.m7 rfl rfl (take_ofW HT_.out HW_.out (by kernel_rfl)) (fun _ _ _ h=>h) (Or.inl ⟨by rfl,?_⟩) hHeld ?_ ?_
       rotate_left
       ·rintro w' ⟨s0,s1,s2,s3,s4⟩
        go_simp
        with_reducible rfl
       rotate_left
       ·simp only [Act.put,sA,sO,sS,i64_w,i32_w]
        rfl
       refine one_ (i:=5) (N:=some 72) spec_PatchDo.m8 rfl rfl (one_of HT_.out (by kernel_rfl)) (by decide) (fun K hK=>?_)
       refine goes_ Try.func37 (by kernel_rfl) rfl #[.agg #[.int .i64 a1_2,.slice A1_3 l1_3.length c1_3],.int .i64 1,.int .i64 a1_2] (by rfl) rfl rfl (by (try simp only [mA,mC,mN]);first|done|rfl|(simp only [List.length_drop,List.length_take];rfl)) ?_
       with_reducible refine (spec_Rank.calls k2 a1_2 _ _ l1_3 1 a1_2 t192 _ ?side1 ?side2 A47.out).mono ?_
       (case side1=>repeat (first|exact (Kd.C_below HR1_3.out HB.out)|(with_reducible first|apply aC|apply nC|apply dC)))
       (case side2=>exact HC1_3.out)
       rintro e w56 ⟨rfl,hb⟩
       refine⟨_,rfl,?_⟩
       have n0_:=mk0 (Kd.R_below (by (with_reducible repeat (first|apply aR|apply nR|apply dR));exact HO_6.out) hb)
       have n1_:=mk0 (Kd.R_below (by (with_reducible repeat (first|apply aR|apply nR|apply dR));exact HO_7.out) hb)
       have n2_:=mk0 (Kd.R_below (by (with_reducible repeat (first|apply aR|apply nR|apply dR));exact HO_8.out) hb)
       have n3_:=mk0 (blk_below (g:=gb174) (o:=.cells #[.int .i64 a1_0,.slice A1_1 l1_1.length c1_1,.int .i64 a1_2,.slice A1_3 l1_3.length c1_3,.slice A1_4 l1_4.length c1_4] 27 (0,0)) (by (with_reducible repeat (first|apply nB|apply dB|apply aB));exact BK174.out) hb)
       have n4_:=mk0 (below_step (by repeat (first|(with_reducible first|exact HB.out|apply aZ|apply nZ|apply dZ|refine sZ ?_ GE174.out)|exact HB.out)) hb)
       clear HO_6
       clear HO_7
       clear HO_8
       clear BK174
       clear HB
       have HO_6:=n0_
       have HO_7:=n1_
       have HO_8:=n2_
       have BK174:=n3_
       have HB:=n4_
       clear n0_ n1_ n2_ n3_ n4_
       (try clear hb)
       (try clear hb2)
       (try clear hk)
       (try clear hi)
       refine hK.out _ _ ⟨(blk_cell BK174.out 0).trans rfl,(blk_cell BK174.out 1).trans rfl,(blk_cell BK174.out 2).trans rfl,(blk_cell BK174.out 3).trans rfl,(blk_cell BK174.out 4).trans rfl⟩ (fun hHeld=>?_)
       clear hK K
       refine norm_ (a':=?_) ?_ ?_
       rotate_left
       ·show Act.put _ (some 72) _ = _
        simp only [Act.put,sA,sO,sS,i64_w,i32_w]
        rfl
       refine pure_ (i:=8) (N:=some 75) (v:=?_) (a':=?_) spec_PatchDo.m9 rfl rfl (any_of HT_.out (by kernel_rfl)) (fun _ _ _ h=>h) (Or.inl ⟨by rfl,?_⟩) ?_ ?_
       rotate_left
       ·intro w'
        go_simp
        with_reducible rfl
       rotate_left
       ·simp only [Act.put,sA,sO,sS,i64_w,i32_w]
        rfl
       refine pure_ (i:=9) (N:=some 76) (v:=?_) (a':=?_) spec_PatchDo.m10 rfl rfl (any_of HT_.out (by kernel_rfl)) (fun _ _ _ h=>h) (Or.inl ⟨by rfl,?_⟩) ?_ ?_
       rotate_left
       ·intro w'
        go_simp
        with_reducible rfl
       rotate_left
       ·simp only [Act.put,sA,sO,sS,i64_w,i32_w]
        rfl
       refine pure_ (i:=10) (N:=some 77) (v:=undef) (a':=?_) spec_PatchDo.m11 rfl rfl (any_of HT_.out (by kernel_rfl)) (fun _ _ _ h=>h) (Or.inr ⟨by rfl,rfl⟩) ?_ ?_
       rotate_left
       ·simp only [Act.put,sA,sO,sS,i64_w,i32_w]
        rfl
       refine pure_ (i:=11) (N:=some 78) (v:=undef) (a':=?_) spec_PatchDo.m12 rfl rfl (any_of HT_.out (by kernel_rfl)) (fun _ _ _ h=>h) (Or.inr ⟨by rfl,rfl⟩) ?_ ?_
       rotate_left
       ·simp only [Act.put,sA,sO,sS,i64_w,i32_w]
        rfl
       refine pure_ (i:=12) (N:=some 79) (v:=undef) (a':=?_) spec_PatchDo.m13 rfl rfl (any_of HT_.out (by kernel_rfl)) (fun _ _ _ h=>h) (Or.inr ⟨by rfl,rfl⟩) ?_ ?_
       rotate_left
       ·simp only [Act.put,sA,sO,sS,i64_w,i32_w]
        rfl
       refine pure_ (i:=13) (N:=some 80) (v:=undef) (a':=?_) spec_PatchDo.m14 rfl rfl (any_of HT_.out (by kernel_rfl)) (fun _ _ _ h=>h) (Or.inr ⟨by rfl,rfl⟩) ?_ ?_
       rotate_left
       ·simp only [Act.put,sA,sO,sS,i64_w,i32_w]
        rfl
       refine pure_ (i:=14) (N:=some 81) (v:=undef) (a':=?_) spec_PatchDo.m15 rfl rfl (any_of HT_.out (by kernel_rfl)) (fun _ _ _ h=>h) (Or.inr ⟨by rfl,rfl⟩) ?_ ?_
       rotate_left
       ·simp only [Act.put,sA,sO,sS,i64_w,i32_w]
        rfl
       refine pure_ (i:=15) (N:=some 82) (v:=undef) (a':=?_) spec_PatchDo.m16 rfl rfl (any_of HT_.out (by kernel_rfl)) (fun _ _ _ h=>h) (Or.inr ⟨by rfl,rfl⟩) ?_ ?_
       rotate_left
       ·simp only [Act.put,sA,sO,sS,i64_w,i32_w]
        rfl
       refine pure_ (i:=16) (N:=some 83) (v:=undef) (a':=?_) spec_PatchDo.m17 rfl rfl (any_of HT_.out (by kernel_rfl)) (fun _ _ _ h=>h) (Or.inr ⟨by rfl,rfl⟩) ?_ ?_
       rotate_left
       ·simp only [Act.put,sA,sO,sS,i64_w,i32_w]
        rfl
       refine pure_ (i:=17) (N:=some 84) (v:=undef) (a':=?_) spec_PatchDo.m18 rfl rfl (any_of HT_.out (by kernel_rfl)) (fun _ _ _ h=>h) (Or.inr ⟨by rfl,rfl⟩) ?_ ?_
       rotate_left
       ·simp only [Act.put,sA,sO,sS,i64_w,i32_w]
        rfl
       refine pure_ (i:=18) (N:=some 85) (v:=undef) (a':=?_) spec_PatchDo.m19 rfl rfl (any_of HT_.out (by kernel_rfl)) (fun _ _ _ h=>h) (Or.inr ⟨by rfl,rfl⟩) ?_ ?_
       rotate_left
       ·simp only [Act.put,sA,sO,sS,i64_w,i32_w]
        rfl
       refine pure_ (i:=19) (N:=some 86) (v:=undef) (a':=?_) spec_PatchDo.m20 rfl rfl (any_of HT_.out (by kernel_rfl)) (fun _ _ _ h=>h) (Or.inr ⟨by rfl,rfl⟩) ?_ ?_
       rotate_left
       ·simp only [Act.put,sA,sO,sS,i64_w,i32_w]
        rfl
       refine pure_ (i:=20) (N:=some 87) (v:=?_) (a':=?_) spec_PatchDo.m21 rfl rfl (any_of HT_.out (by kernel_rfl)) (fun _ _ _ h=>h) (Or.inl ⟨by rfl,?_⟩) ?_ ?_
       rotate_left
       ·intro w'
        go_simp
        with_reducible rfl
       rotate_left
       ·simp only [Act.put,sA,sO,sS,i64_w,i32_w]
        rfl
       refine done_ (done_of HT_.out (by kernel_rfl)) ?_
       try go_wp2
       go_meet
       case rel=>exact⟨_,(true),(by first|rfl|(simp;done)|(simp [*];done)),H',⟨by have:=HJ2.out;have:=HK2.out;first|omega|exact Nat.le_refl _⟩,⟨by (with_reducible repeat (first|apply aR|apply nR|apply dR));exact Kd.R_mono HO_7.out (by first|exact fun _ hk=>hk.2|(intro k_ hk;simp only [hk,ne_eq,and_self,not_false_eq_true]))⟩,⟨by (with_reducible repeat (first|apply aR|apply nR|apply dR));exact Kd.R_mono HO_8.out (by first|exact fun _ hk=>hk.2|(intro k_ hk;simp only [hk,ne_eq,and_self,not_false_eq_true]))⟩,⟨by (with_reducible repeat (first|apply nB|apply dB|apply aB));exact BK174.out⟩,⟨by repeat (first|(with_reducible first|exact HB.out|apply aZ|apply nZ|apply dZ|refine sZ ?_ GE174.out)|exact HB.out)⟩⟩
      rw [if_pos c48] at H
      have c48b0:(t192 == (x8_2.length:Int)) = true:=beq_iff_eq.mpr c48
      have c48b1:(t192 != (x8_2.length:Int)) = false:=bne_eq_false_iff_eq.mpr c48
      clear c48
      (first|rw [c48b0]|(simp only [i64_w,i32_w];rw [c48b0])|skip)
      replace H:=Option.bind_eq_some_iff.mp H
      obtain⟨t193,A490,H⟩:=H
      replace H:(spec_PatchDo.j2 k2 t181 x8_2 (t193 != (l1_4.length:Int)) a1_0 l1_1 a1_2 l1_3 l1_4) = some (r1,r2):=H
      have A49:=mk0 A490
      clear A490
      have H':=mk0 H
      clear H
      try go_wp2
      have n0_:=mk0 (dR HO_6.out)
      have n1_:=mk0 (dR HO_7.out)
      have n2_:=mk0 (dR HO_8.out)
      have n3_:=mk0 (dB BK174.out)
      have n4_:=mk0 (dZ HB.out)
      clear HO_6
      clear HO_7
      clear HO_8
      clear BK174
      clear HB
      have HO_6:=n0_
      have HO_7:=n1_
      have HO_8:=n2_
      have BK174:=n3_
      have HB:=n4_
      clear n0_ n1_ n2_ n3_ n4_
      obtain⟨Ao51,co51,eo51⟩:=Kd.R_slice HO_8.out
      (first|subst eo51|(injection eo51 with f1_ f2_ f3_;have f4_:=f1_.symm;have f5_:=f3_.symm;clear f1_ f2_ f3_;subst f4_;subst f5_))
      refine start_ (n:=21) (S:=fun w'=>w'.cell? ⟨gb174,0,none⟩ = some (.int .i64 a1_0) ∧ w'.cell? ⟨gb174,1,none⟩ = some (.slice A1_1 l1_1.length c1_1) ∧ w'.cell? ⟨gb174,2,none⟩ = some (.int .i64 a1_2) ∧ w'.cell? ⟨gb174,3,none⟩ = some (.slice A1_3 l1_3.length c1_3) ∧ w'.cell? ⟨gb174,4,none⟩ = some (.slice A1_4 l1_4.length c1_4)) (ds:=[]) spec_PatchDo.m0 (by kernel_rfl) rfl rfl ⟨(blk_cell BK174.out 0).trans rfl,(blk_cell BK174.out 1).trans rfl,(blk_cell BK174.out 2).trans rfl,(blk_cell BK174.out 3).trans rfl,(blk_cell BK174.out 4).trans rfl⟩ (fun hHeld=>?_);refine with_tabW spec_PatchDo.tab11 spec_PatchDo.bits11 (fun HT_ HW_=>?_)
      generalize wr.drew = w50 at HO_6 HO_7 HO_8 BK174 HB hHeld ⊢
      refine pure_ (i:=0) (N:=some 67) (v:=?_) (a':=?_) spec_PatchDo.m1 rfl rfl (any_of HT_.out (by kernel_rfl)) (fun _ _ _ h=>h) (Or.inl ⟨by rfl,?_⟩) ?_ ?_
      rotate_left
      ·intro w'
       go_simp
       with_reducible rfl
      rotate_left
      ·simp only [Act.put,sA,sO,sS,i64_w,i32_w]
       rfl
      refine pure_ (i:=2) (N:=some 69) (v:=?_) (a':=?_) spec_PatchDo.m2 rfl rfl (any_of HT_.out (by kernel_rfl)) (fun _ _ _ h=>h) (Or.inl ⟨by rfl,?_⟩) ?_ ?_
      rotate_left
      ·intro w'
       go_simp
       with_reducible rfl
      rotate_left
      ·simp only [Act.put,sA,sO,sS,i64_w,i32_w]
       rfl
      refine pure_ (i:=3) (N:=some 70) (v:=?_) (a':=?_) spec_PatchDo.m3 rfl rfl (any_of HT_.out (by kernel_rfl)) (fun _ _ _ h=>h) (Or.inl ⟨by rfl,?_⟩) ?_ ?_
      rotate_left
      ·intro w'
       go_simp
       with_reducible rfl
      rotate_left
      ·simp only [Act.put,sA,sO,sS,i64_w,i32_w]
       rfl
      refine pure_ (i:=6) (N:=some 73) (v:=?_) (a':=?_) spec_PatchDo.m4 rfl rfl (any_of HT_.out (by kernel_rfl)) (fun _ _ _ h=>h) (Or.inl ⟨by rfl,?_⟩) ?_ ?_
      rotate_left
      ·intro w'
       go_simp
       with_reducible rfl
      rotate_left
      ·simp only [Act.put,sA,sO,sS,i64_w,i32_w]
       rfl
      refine pure_ (i:=7) (N:=some 74) (v:=?_) (a':=?_) spec_PatchDo.m5 rfl rfl (any_of HT_.out (by kernel_rfl)) (fun _ _ _ h=>h) (Or.inl ⟨by rfl,?_⟩) ?_ ?_
      rotate_left
      ·intro w'
       go_simp
       with_reducible rfl
      rotate_left
      ·simp only [Act.put,sA,sO,sS,i64_w,i32_w]
       rfl
      refine take_ (i:=1) (N:=some 68) (v:=?_) (a':=?_) spec_PatchDo.m6 rfl rfl (take_ofW HT_.out HW_.out (by kernel_rfl)) (fun _ _ _ h=>h) (Or.inl ⟨by rfl,?_⟩) hHeld ?_ ?_
      rotate_left
      ·rintro w' ⟨s0,s1,s2,s3,s4⟩
       go_simp
       with_reducible rfl
      rotate_left
      ·simp only [Act.put,sA,sO,sS,i64_w,i32_w]
       rfl
      refine take_ (i:=4) (N:=some 71) (v:=?_) (a':=?_) spec_PatchDo.m7 rfl rfl (take_ofW HT_.out HW_.out (by kernel_rfl)) (fun _ _ _ h=>h) (Or.inl ⟨by rfl,?_⟩) hHeld ?_ ?_
      rotate_left
      ·rintro w' ⟨s0,s1,s2,s3,s4⟩
       go_simp
       with_reducible rfl
      rotate_left
      ·simp only [Act.put,sA,sO,sS,i64_w,i32_w]
       rfl
      refine one_ (i:=5) (N:=some 72) spec_PatchDo.m8 rfl rfl (one_of HT_.out (by kernel_rfl)) (by decide) (fun K hK=>?_)
      refine goes_ Try.func37 (by kernel_rfl) rfl #[.agg #[.int .i64 a1_2,.slice A1_3 l1_3.length c1_3],.int .i64 1,.int .i64 a1_2] (by rfl) rfl rfl (by (try simp only [mA,mC,mN]);first|done|rfl|(simp only [List.length_drop,List.length_take];rfl)) ?_
      with_reducible refine (spec_Rank.calls k2 a1_2 _ _ l1_3 1 a1_2 t192 _ ?side1 ?side2 A47.out).mono ?_
      (case side1=>repeat (first|exact (Kd.C_below HR1_3.out HB.out)|(with_reducible first|apply aC|apply nC|apply dC)))
      (case side2=>exact HC1_3.out)
      rintro e w52 ⟨rfl,hb⟩
      refine⟨_,rfl,?_⟩
      have n0_:=mk0 (Kd.R_below (by (with_reducible repeat (first|apply aR|apply nR|apply dR));exact HO_6.out) hb)
      have n1_:=mk0 (Kd.R_below (by (with_reducible repeat (first|apply aR|apply nR|apply dR));exact HO_7.out) hb)
      have n2_:=mk0 (Kd.R_below (by (with_reducible repeat (first|apply aR|apply nR|apply dR));exact HO_8.out) hb)
      have n3_:=mk0 (blk_below (g:=gb174) (o:=.cells #[.int .i64 a1_0,.slice A1_1 l1_1.length c1_1,.int .i64 a1_2,.slice A1_3 l1_3.length c1_3,.slice A1_4 l1_4.length c1_4] 27 (0,0)) (by (with_reducible repeat (first|apply nB|apply dB|apply aB));exact BK174.out) hb)
      have n4_:=mk0 (below_step (by repeat (first|(with_reducible first|exact HB.out|apply aZ|apply nZ|apply dZ|refine sZ ?_ GE174.out)|exact HB.out)) hb)
      clear HO_6
      clear HO_7
      clear HO_8
      clear BK174
      clear HB
      have HO_6:=n0_
      have HO_7:=n1_
      have HO_8:=n2_
      have BK174:=n3_
      have HB:=n4_
      clear n0_ n1_ n2_ n3_ n4_
      (try clear hb)
      (try clear hb2)
      (try clear hk)
      (try clear hi)
      refine hK.out _ _ ⟨(blk_cell BK174.out 0).trans rfl,(blk_cell BK174.out 1).trans rfl,(blk_cell BK174.out 2).trans rfl,(blk_cell BK174.out 3).trans rfl,(blk_cell BK174.out 4).trans rfl⟩ (fun hHeld=>?_)
      clear hK K
      refine norm_ (a':=?_) ?_ ?_
      rotate_left
      ·show Act.put _ (some 72) _ = _
       simp only [Act.put,sA,sO,sS,i64_w,i32_w]
       rfl
      refine pure_ (i:=8) (N:=some 75) (v:=?_) (a':=?_) spec_PatchDo.m9 rfl rfl (any_of HT_.out (by kernel_rfl)) (fun _ _ _ h=>h) (Or.inl ⟨by rfl,?_⟩) ?_ ?_
      rotate_left
      ·intro w'
       go_simp
       with_reducible rfl
      rotate_left
      ·simp only [Act.put,sA,sO,sS,i64_w,i32_w]
       rfl
      refine pure_ (i:=9) (N:=some 76) (v:=?_) (a':=?_) spec_PatchDo.m10 rfl rfl (any_of HT_.out (by kernel_rfl)) (fun _ _ _ h=>h) (Or.inl ⟨by rfl,?_⟩) ?_ ?_
      rotate_left
      ·intro w'
       go_simp
       with_reducible rfl
      rotate_left
      ·simp only [Act.put,sA,sO,sS,i64_w,i32_w]
       rfl
      refine pure_ (i:=10) (N:=some 77) (v:=?_) (a':=?_) spec_PatchDo.m11 rfl rfl (any_of HT_.out (by kernel_rfl)) (fun _ _ _ h=>h) (Or.inl ⟨by rfl,?_⟩) ?_ ?_
      rotate_left
      ·intro w'
       go_simp
       with_reducible rfl
      rotate_left
      ·simp only [Act.put,sA,sO,sS,i64_w,i32_w]
       rfl
      refine pure_ (i:=12) (N:=some 79) (v:=?_) (a':=?_) spec_PatchDo.m22 rfl rfl (any_of HT_.out (by kernel_rfl)) (fun _ _ _ h=>h) (Or.inl ⟨by rfl,?_⟩) ?_ ?_
      rotate_left
      ·intro w'
       go_simp
       with_reducible rfl
      rotate_left
      ·simp only [Act.put,sA,sO,sS,i64_w,i32_w]
       rfl
      refine pure_ (i:=13) (N:=some 80) (v:=?_) (a':=?_) spec_PatchDo.m23 rfl rfl (any_of HT_.out (by kernel_rfl)) (fun _ _ _ h=>h) (Or.inl ⟨by rfl,?_⟩) ?_ ?_
      rotate_left
      ·intro w'
       go_simp
       with_reducible rfl
      rotate_left
      ·simp only [Act.put,sA,sO,sS,i64_w,i32_w]
       rfl
      refine pure_ (i:=16) (N:=some 83) (v:=?_) (a':=?_) spec_PatchDo.m24 rfl rfl (any_of HT_.out (by kernel_rfl)) (fun _ _ _ h=>h) (Or.inl ⟨by rfl,?_⟩) ?_ ?_
      rotate_left
      ·intro w'
       go_simp
       with_reducible rfl
      rotate_left
      ·simp only [Act.put,sA,sO,sS,i64_w,i32_w]
       rfl
      refine take_ (i:=11) (N:=some 78) (v:=?_) (a':=?_) spec_PatchDo.m25 rfl rfl (take_ofW HT_.out HW_.out (by kernel_rfl)) (fun _ _ _ h=>h) (Or.inl ⟨by rfl,?_⟩) hHeld ?_ ?_
      rotate_left
      ·rintro w' ⟨s0,s1,s2,s3,s4⟩
       go_simp
       with_reducible rfl
      rotate_left
      ·simp only [Act.put,sA,sO,sS,i64_w,i32_w]
       rfl
      refine take_ (i:=14) (N:=some 81) (v:=?_) (a':=?_) spec_PatchDo.m26 rfl rfl (take_ofW HT_.out HW_.out (by kernel_rfl)) (fun _ _ _ h=>h) (Or.inl ⟨by rfl,?_⟩) hHeld ?_ ?_
      rotate_left
      ·rintro w' ⟨s0,s1,s2,s3,s4⟩
       go_simp
       with_reducible rfl
      rotate_left
      ·simp only [Act.put,sA,sO,sS,i64_w,i32_w]
       rfl
      refine take_ (i:=17) (N:=some 84) (v:=?_) (a':=?_) spec_PatchDo.m27 rfl rfl (take_ofW HT_.out HW_.out (by kernel_rfl)) (fun _ _ _ h=>h) (Or.inl ⟨by rfl,?_⟩) hHeld ?_ ?_
      rotate_left
      ·rintro w' ⟨s0,s1,s2,s3,s4⟩
       go_simp
       with_reducible rfl
      rotate_left
      ·simp only [Act.put,sA,sO,sS,i64_w,i32_w]
       rfl
      refine pure_ (i:=18) (N:=some 85) (v:=?_) (a':=?_) spec_PatchDo.m28 rfl rfl (any_of HT_.out (by kernel_rfl)) (fun _ _ _ h=>h) (Or.inl ⟨by rfl,?_⟩) ?_ ?_
      rotate_left
      ·intro w'
       go_simp
       with_reducible rfl
      rotate_left
      ·simp only [Act.put,sA,sO,sS,i64_w,i32_w]
       rfl
      refine one_ (i:=15) (N:=some 82) spec_PatchDo.m19 rfl rfl (one_of HT_.out (by kernel_rfl)) (by decide) (fun K hK=>?_)
      refine goes_ Try.func37 (by kernel_rfl) rfl #[.agg #[.int .i64 a1_2,.slice A1_3 l1_3.length c1_3],.int .i64 0,.int .i64 a1_2] (by rfl) rfl rfl (by (try simp only [mA,mC,mN]);first|done|rfl|(simp only [List.length_drop,List.length_take];rfl)) ?_
      with_reducible refine (spec_Rank.calls k2 a1_2 _ _ l1_3 0 a1_2 t193 _ ?side1 ?side2 A49.out).mono ?_
      (case side1=>repeat (first|exact (Kd.C_below HR1_3.out HB.out)|(with_reducible first|apply aC|apply nC|apply dC)))
      (case side2=>exact HC1_3.out)
      rintro e w53 ⟨rfl,hb⟩
      refine⟨_,rfl,?_⟩
      have n0_:=mk0 (Kd.R_below (by (with_reducible repeat (first|apply aR|apply nR|apply dR));exact HO_6.out) hb)
      have n1_:=mk0 (Kd.R_below (by (with_reducible repeat (first|apply aR|apply nR|apply dR));exact HO_7.out) hb)
      have n2_:=mk0 (Kd.R_below (by (with_reducible repeat (first|apply aR|apply nR|apply dR));exact HO_8.out) hb)
      have n3_:=mk0 (blk_below (g:=gb174) (o:=.cells #[.int .i64 a1_0,.slice A1_1 l1_1.length c1_1,.int .i64 a1_2,.slice A1_3 l1_3.length c1_3,.slice A1_4 l1_4.length c1_4] 27 (0,0)) (by (with_reducible repeat (first|apply nB|apply dB|apply aB));exact BK174.out) hb)
      have n4_:=mk0 (below_step (by repeat (first|(with_reducible first|exact HB.out|apply aZ|apply nZ|apply dZ|refine sZ ?_ GE174.out)|exact HB.out)) hb)
      clear HO_6
      clear HO_7
      clear HO_8
      clear BK174
      clear HB
      have HO_6:=n0_
      have HO_7:=n1_
      have HO_8:=n2_
      have BK174:=n3_
      have HB:=n4_
      clear n0_ n1_ n2_ n3_ n4_
      (try clear hb)
      (try clear hb2)
      (try clear hk)
      (try clear hi)
      refine hK.out _ _ ⟨(blk_cell BK174.out 0).trans rfl,(blk_cell BK174.out 1).trans rfl,(blk_cell BK174.out 2).trans rfl,(blk_cell BK174.out 3).trans rfl,(blk_cell BK174.out 4).trans rfl⟩ (fun hHeld=>?_)
      clear hK K
      refine norm_ (a':=?_) ?_ ?_
      rotate_left
      ·show Act.put _ (some 82) _ = _
       simp only [Act.put,sA,sO,sS,i64_w,i32_w]
       rfl
      refine pure_ (i:=19) (N:=some 86) (v:=?_) (a':=?_) spec_PatchDo.m20 rfl rfl (any_of HT_.out (by kernel_rfl)) (fun _ _ _ h=>h) (Or.inl ⟨by rfl,?_⟩) ?_ ?_
      rotate_left
      ·intro w'
       go_simp
       with_reducible rfl
      rotate_left
      ·simp only [Act.put,sA,sO,sS,i64_w,i32_w]
       rfl
      refine pure_ (i:=20) (N:=some 87) (v:=?_) (a':=?_) spec_PatchDo.m21 rfl rfl (any_of HT_.out (by kernel_rfl)) (fun _ _ _ h=>h) (Or.inl ⟨by rfl,?_⟩) ?_ ?_
      rotate_left
      ·intro w'
       go_simp
       with_reducible rfl
      rotate_left
      ·simp only [Act.put,sA,sO,sS,i64_w,i32_w]
       rfl
      refine done_ (done_of HT_.out (by kernel_rfl)) ?_
      try go_wp2
      go_meet
      case rel=>exact⟨_,((t193 != (l1_4.length:Int))),(by first|rfl|(simp;done)|(simp [*];done)),H',⟨by have:=HJ2.out;have:=HK2.out;first|omega|exact Nat.le_refl _⟩,⟨by (with_reducible repeat (first|apply aR|apply nR|apply dR));exact Kd.R_mono HO_7.out (by first|exact fun _ hk=>hk.2|(intro k_ hk;simp only [hk,ne_eq,and_self,not_false_eq_true]))⟩,⟨by (with_reducible repeat (first|apply aR|apply nR|apply dR));exact Kd.R_mono HO_8.out (by first|exact fun _ hk=>hk.2|(intro k_ hk;simp only [hk,ne_eq,and_self,not_false_eq_true]))⟩,⟨by (with_reducible repeat (first|apply nB|apply dB|apply aB));exact BK174.out⟩,⟨by repeat (first|(with_reducible first|exact HB.out|apply aZ|apply nZ|apply dZ|refine sZ ?_ GE174.out)|exact HB.out)⟩⟩
     case rest =>
      clear HC45
      try clear c1
      try clear p1
      try clear q1
      try clear hx1
      try clear p2
      try clear c3
      try clear c4
      try clear p6
      try clear p18
      try clear q18
      try clear hx18
      try clear c37
      try clear c37b0
      try clear c38
      try clear c38b0
      try clear c39
      try clear c39b0
      try clear c39b1
      try clear c40
      try clear c40b0
      try clear c41
      try clear c48
      try clear c48b0
      try clear c48b1
      try clear hcz31_4
      try clear hcz33_0
      try clear hcz33_1
      try clear hcz33_2
      try clear hcz33_3
      try clear hcz33_4
      try clear hfz12_0
      try clear hfz12_1
      try clear hfz12_2
      try clear hfz12_3
      try clear hfz12_4
      try clear hfz14_0
      try clear hfz14_1
      try clear hfz14_2
      try clear hfz14_3
      try clear hfz14_4
      try clear hfz16_0
      try clear hfz16_1
      try clear hfz16_2
      try clear hfz16_3
      try clear hfz16_4
      try clear hfz17_0
      try clear hfz17_1
      try clear hfz17_2
      try clear hfz17_3
      try clear hfz17_4
      try clear hfz19_0
      try clear hfz19_1
      try clear hfz19_2
      try clear hfz19_3
      try clear hfz19_4
      try clear hfz21_0
      try clear hfz21_1
      try clear hfz21_2
      try clear hfz21_3
      try clear hfz21_4
      try clear hfz22_0
      try clear hfz22_1
      try clear hfz22_2
      try clear hfz22_3
      try clear hfz22_4
      try clear hfz24_0
      try clear hfz24_1
      try clear hfz24_2
      try clear hfz24_3
      try clear hfz24_4
      try clear hfz26_0
      try clear hfz26_1
      try clear hfz26_2
      try clear hfz26_3
      try clear hfz26_4
      try clear hfz31_0
      try clear hfz31_1
      try clear hfz31_2
      try clear hfz31_3
      try clear hfz31_4
      try clear hfz33_0
      try clear hfz33_1
      try clear hfz33_2
      try clear hfz33_3
      try clear hfz33_4
      try clear hx187_0
      try clear hx188_0
      try clear p187
      try clear p188
      try clear p2
      try clear q187
      try clear q188
      obtain⟨kq,x87_44,rfl,HA,HJ44,HO_7,HO_8,BK174,HB⟩:=hcut
      cases kq with
      | zero=>exact absurd HA.out (by simp [spec_PatchDo.j2])
      | succ kj44 =>
       have H:=HA.out
       clear HA
       simp only [spec_PatchDo.j2] at H
       by_cases c57:x87_44 = true
       ·subst c57
        have H1:(some (([]:List Int),false)) = some (r1,r2):=by rw [if_pos rfl] at H;exact H
        clear H
        have H:=H1
        clear H1
        simp only [Option.some.injEq,Prod.mk.injEq] at H
        obtain⟨rfl,rfl⟩:=H
        go_wp2
        go_ret2
        exact⟨_,by first|rfl|(simp [errW_none,errW_some] <;> rfl)|(simp [*,errW_none,errW_some] <;> rfl),by first|exact Kd.R_nil _ _ _ _ _|exact Kd.N_nil _ _ _ _ _|exact Kd.V_nil _ _ _ _ _|exact Kd.Q_nil _ _ _ _ _|exact Kd.S_nil _ _ _ _ _,by repeat (first|(with_reducible first|exact HB.out|apply aZ|apply nZ|apply dZ|refine sZ ?_ GE174.out)|exact HB.out)⟩
       replace c57:=Bool.eq_false_iff.mpr c57
       subst c57
       have H1:(spec_PatchDo.l1 kj44 t181 x8_2 (([]:List Int)) 0 0 a1_0 l1_1 a1_2 l1_3 l1_4) = some (r1,r2):=by rw [if_neg (show ¬ (false = true) by decide)] at H;exact H
       clear H
       have H:=H1
       clear H1
       obtain⟨y194,hy194⟩:∃ y_:List Int,y_ = (([]:List Int)):=⟨_,rfl⟩
       replace H:(spec_PatchDo.l1 kj44 t181 x8_2 y194 0 0 a1_0 l1_1 a1_2 l1_3 l1_4) = some (r1,r2):=by first|(rw [hy194];with_reducible exact H)|(have H2_:=(Option.bind_some _ _).symm.trans H;rw [hy194];with_reducible exact H2_)|(have H2_:=(Option.bind_some _ _).symm.trans H;with_reducible exact H2_)|with_reducible exact H|(rw [hy194];exact H)|exact H
       have Ny194:=mk0 hy194
       clear hy194
       have H':=mk0 H
       clear H
       go_wp2_with (first|((with_reducible refine gate_dst (N:=88) rfl ?_);(try (refine gate_guard (by rfl) ?_;dsimp only));refine Kd.R_lit (Kd.int .i64) _ 3 ?hg (N:=88) ?hd (xs:=([]:List Int)) (inner:=[]) (ok:=fun _=>True) (okp:=fun _=>True) ?hr ?hp (fun _ hk=>hk) trivial (Below.refl _ _) (Nat.le_refl _) (by simp) ?_;(case hd=>rfl);(case hg=>rfl);(case hr=>first|(go_simp;done)|(go_simp;rfl));(case hp=>exact (Reps.none _ _));intro v195 w58 ho59 hb hg_ hnew_;clear hg_ hnew_;(first|rw [← Ny194.out] at ho59|(simp only [Int.reduceToNat] at ho59;rw [← Ny194.out] at ho59));have n0_:=mk0 (Kd.R_elder' (by (with_reducible repeat (first|apply aR|apply nR|apply dR));exact HO_7.out) (Kd.R_base ho59) hb);have n1_:=mk0 (Kd.R_elder' (by (with_reducible repeat (first|apply aR|apply nR|apply dR));exact HO_8.out) (Kd.R_base ho59) hb);have n2_:=mk0 (Kd.R_lower (Kd.R_new' (Kd.R_new' ho59 (Kd.R_lt (by (with_reducible repeat (first|apply aR|apply nR|apply dR));exact HO_7.out))) (Kd.R_lt (by (with_reducible repeat (first|apply aR|apply nR|apply dR));exact HO_8.out))) (below_size (by repeat (first|(with_reducible first|exact HB.out|apply aZ|apply nZ|apply dZ|refine sZ ?_ GE174.out)|exact HB.out))));have n3_:=mk0 (blk_below (g:=gb174) (o:=.cells #[.int .i64 a1_0,.slice A1_1 l1_1.length c1_1,.int .i64 a1_2,.slice A1_3 l1_3.length c1_3,.slice A1_4 l1_4.length c1_4] 27 (0,0)) (by (with_reducible repeat (first|apply nB|apply dB|apply aB));exact BK174.out) hb);have n4_:=mk0 (below_step (by repeat (first|(with_reducible first|exact HB.out|apply aZ|apply nZ|apply dZ|refine sZ ?_ GE174.out)|exact HB.out)) hb);clear HO_7 HO_8 BK174 HB;have HO_7:=n0_;have HO_8:=n1_;have HO196:=n2_;have BK174:=n3_;have HB:=n4_;clear n0_ n1_ n2_ n3_ n4_ hb ho59))
       go_loopg [10,11,12] kj44 (fun kq v10 v11 v12 w'=>∃ (x10_4:List Int) (x11_4:Int) (x12_4:Int),v11 = .int .i64 x11_4 ∧ v12 = .int .i64 x12_4 ∧ Aside0 (spec_PatchDo.l1 kq t181 x8_2 x10_4 x11_4 x12_4 a1_0 l1_1 a1_2 l1_3 l1_4 = some (r1,r2)) ∧ Aside0 (kq ≤ kj44) ∧ Aside0 (Kd.R (Kd.int .i64) 3 w' w.heap.size (fun k_=>some k_ ≠ (u8:Value).ownBlock ∧ some k_ ≠ (v10:Value).ownBlock) v182 t181) ∧ Aside0 (Kd.R (Kd.int .i64) 3 w' w.heap.size (fun k_=>some k_ ≠ (v182:Value).ownBlock ∧ some k_ ≠ (v10:Value).ownBlock) u8 x8_2) ∧ Aside0 (Kd.R (Kd.int .i64) 3 w' w.heap.size (fun k_=>some k_ ≠ (v182:Value).ownBlock ∧ some k_ ≠ (u8:Value).ownBlock) v10 x10_4) ∧ Aside0 (w'.heap[gb174]? = some (.cells #[.int .i64 a1_0,(.slice A1_1 l1_1.length c1_1),.int .i64 a1_2,(.slice A1_3 l1_3.length c1_3),(.slice A1_4 l1_4.length c1_4)] 27 (0,0))) ∧ Aside0 (Below w.heap.size w w'))
       case atStart=>exact⟨(y194),(0),(0),(by first|rfl|(simp;done)|(simp [*];done)),(by first|rfl|(simp;done)|(simp [*];done)),H',⟨Nat.le_refl _⟩,⟨by (with_reducible repeat (first|apply aR|apply nR|apply dR));exact HO_7.out⟩,⟨by (with_reducible repeat (first|apply aR|apply nR|apply dR));exact HO_8.out⟩,⟨by (with_reducible repeat (first|apply aR|apply nR|apply dR));exact Kd.R_mono HO196.out (by first|exact fun _ hk=>⟨hk.1.2,hk.2⟩|(intro k_ hk;simp only [hk,ne_eq,and_self,not_false_eq_true]))⟩,⟨by (with_reducible repeat (first|apply nB|apply dB|apply aB));exact BK174.out⟩,⟨by repeat (first|(with_reducible first|exact HB.out|apply aZ|apply nZ|apply dZ|refine sZ ?_ GE174.out)|exact HB.out)⟩⟩
       case round =>
        clear H'
        try clear c1
        try clear p1
        try clear q1
        try clear hx1
        try clear p2
        try clear c3
        try clear c4
        try clear c5
        try clear p6
        try clear p18
        try clear q18
        try clear hx18
        try clear c37
        try clear c37b0
        try clear c38
        try clear c38b0
        try clear c39
        try clear c39b0
        try clear c39b1
        try clear c40
        try clear c40b0
        try clear c41
        try clear c48
        try clear c48b0
        try clear c48b1
        try clear c57
        try clear hcz31_4
        try clear hcz33_0
        try clear hcz33_1
        try clear hcz33_2
        try clear hcz33_3
        try clear hcz33_4
        try clear hfz12_0
        try clear hfz12_1
        try clear hfz12_2
        try clear hfz12_3
        try clear hfz12_4
        try clear hfz14_0
        try clear hfz14_1
        try clear hfz14_2
        try clear hfz14_3
        try clear hfz14_4
        try clear hfz16_0
        try clear hfz16_1
        try clear hfz16_2
        try clear hfz16_3
        try clear hfz16_4
        try clear hfz17_0
        try clear hfz17_1
        try clear hfz17_2
        try clear hfz17_3
        try clear hfz17_4
        try clear hfz19_0
        try clear hfz19_1
        try clear hfz19_2
        try clear hfz19_3
        try clear hfz19_4
        try clear hfz21_0
        try clear hfz21_1
        try clear hfz21_2
        try clear hfz21_3
        try clear hfz21_4
        try clear hfz22_0
        try clear hfz22_1
        try clear hfz22_2
        try clear hfz22_3
        try clear hfz22_4
        try clear hfz24_0
        try clear hfz24_1
        try clear hfz24_2
        try clear hfz24_3
        try clear hfz24_4
        try clear hfz26_0
        try clear hfz26_1
        try clear hfz26_2
        try clear hfz26_3
        try clear hfz26_4
        try clear hfz31_0
        try clear hfz31_1
        try clear hfz31_2
        try clear hfz31_3
        try clear hfz31_4
        try clear hfz33_0
        try clear hfz33_1
        try clear hfz33_2
        try clear hfz33_3
        try clear hfz33_4
        try clear hx187_0
        try clear hx188_0
        try clear p1
        try clear p18
        try clear p187
        try clear p188
        try clear p2
        try clear p6
        try clear q1
        try clear q18
        try clear q187
        try clear q188
        obtain⟨x10_4,x11_4,x12_4,rfl,rfl,HA,HK4,HO_7,HO_8,HO_10,BK174,HB⟩:=hrel
        cases gk with
        | zero=>exact absurd HA.out (by simp [spec_PatchDo.l1])
        | succ k4 =>
         have H:=HA.out
         clear HA
         simp only [spec_PatchDo.l1] at H
         by_cases c60:x12_4 < (t181.length:Int)
         rotate_left
         ·rw [if_neg c60] at H
          have c60b0:decide (x12_4 < (t181.length:Int)) = false:=decide_eq_false c60
          clear c60
          simp only [Option.some.injEq,Prod.mk.injEq] at H
          obtain⟨rfl,rfl⟩:=H
          obtain⟨Ao76,co76,eo76⟩:=Kd.R_slice HO_7.out
          subst eo76
          go_wp2
          go_ret2
          exact⟨_,by first|rfl|(simp [errW_none,errW_some] <;> rfl)|(simp [*,errW_none,errW_some] <;> rfl),by (with_reducible repeat (first|apply aR|apply nR|apply dR));exact Kd.R_mono HO_10.out (fun _ hk=>trivial),by repeat (first|(with_reducible first|exact HB.out|apply aZ|apply nZ|apply dZ|refine sZ ?_ GE174.out)|exact HB.out)⟩

         rw [if_pos c60] at H
         have c60b0:decide (x12_4 < (t181.length:Int)) = true:=decide_eq_true c60
         clear c60
         by_cases c61:0 ≤ x12_4
         rotate_left
         ·rw [if_neg c61] at H
          exact absurd H (by simp)
         rw [if_pos c61] at H
         have c61b0:decide (0 ≤ x12_4) = true:=decide_eq_true c61
         clear c61
         by_cases c62:(rd t181 x12_4) = 1
         ·rw [if_pos c62] at H
          have c62b0:((rd t181 x12_4) == 1) = true:=beq_iff_eq.mpr c62
          have c62b1:((rd t181 x12_4) != 1) = false:=bne_eq_false_iff_eq.mpr c62
          clear c62
          by_cases c63:0 ≤ x11_4
          rotate_left
          ·rw [if_neg c63] at H
           exact absurd H (by simp)
          rw [if_pos c63] at H
          have c63b0:decide (0 ≤ x11_4) = true:=decide_eq_true c63
          clear c63
          by_cases c64:x11_4 < (x8_2.length:Int)
          rotate_left
          ·rw [if_neg c64] at H
           exact absurd H (by simp)
          rw [if_pos c64] at H
          have c64b0:decide (x11_4 < (x8_2.length:Int)) = true:=decide_eq_true c64
          clear c64
          by_cases c65:x10_4.length < 17592186044416
          rotate_left
          ·rw [if_neg c65] at H
           exact absurd H (by simp)
          rw [if_pos c65] at H
          have LMc65:=mk0 c65
          clear c65
          obtain⟨y199,hy199⟩:∃ y_:List Int,y_ = (x10_4 ++ [rd x8_2 x11_4]):=⟨_,rfl⟩
          replace H:(spec_PatchDo.l1 k4 t181 x8_2 y199 (wrap64 (x11_4 + 1)) (wrap64 (x12_4 + 1)) a1_0 l1_1 a1_2 l1_3 l1_4) = some (r1,r2):=by first|(rw [hy199];with_reducible exact H)|(have H2_:=(Option.bind_some _ _).symm.trans H;rw [hy199];with_reducible exact H2_)|(have H2_:=(Option.bind_some _ _).symm.trans H;with_reducible exact H2_)|with_reducible exact H|(rw [hy199];exact H)|exact H
          have Ny199:=mk0 hy199
          clear hy199
          have H':=mk0 H
          clear H
          obtain⟨Ao66,co66,eo66⟩:=Kd.R_slice HO_7.out
          subst eo66
          have p197:0 ≤ (x12_4:Int):=of_decide_eq_true (by first|(with_reducible assumption)|assumption)
          have q197:x12_4 < (t181.length:Int):=of_decide_eq_true (by first|(with_reducible assumption)|assumption)
          obtain⟨ad197,e197,hx197_0⟩:=Kd.at_int (Kd.R_reads' HO_7.out).2.2 x12_4 p197 q197
          cases e197
          replace p197:=eq_true p197
          replace q197:=eq_true q197
          obtain⟨Ao67,co67,eo67⟩:=Kd.R_slice HO_8.out
          subst eo67
          have p198:0 ≤ (x11_4:Int):=of_decide_eq_true (by first|(with_reducible assumption)|assumption)
          have q198:x11_4 < (x8_2.length:Int):=of_decide_eq_true (by first|(with_reducible assumption)|assumption)
          obtain⟨ad198,e198,hx198_0⟩:=Kd.at_int (Kd.R_reads' HO_8.out).2.2 x11_4 p198 q198
          cases e198
          replace p198:=eq_true p198
          replace q198:=eq_true q198
          go_wp2_with (first|((with_reducible refine gate_builtin (b:=.append) (xs:=#[.tmp 100,.tmp 105]) rfl ?_);(try (refine gate_guard (by rfl) ?_;dsimp only));at_builtin;refine Kd.R_append (Kd.int .i64) (w0:=w) w.heap.size rfl (.tmp 100) (.tmp 105) 22 3 (.int .i64 0) 8 rfl Try.underlying22 info3 rfl (by decide) (by omega) u10 x10_4 (rd x8_2 x11_4) [.int .i64 (rd x8_2 x11_4)] (fun k_=>some k_ ≠ (.slice (some ad197) t181.length co66:Value).ownBlock ∧ some k_ ≠ (.slice (some ad198) x8_2.length co67:Value).ownBlock) (fun _=>False) rfl rfl ?aP (fun _ hk=>hk.elim) ?aF ?aO ?aB ?aS ?aL ?_;(case aP=>exact rfl);(case aB=>exact (by repeat (first|(with_reducible first|exact HB.out|apply aZ|apply nZ|apply dZ|refine sZ ?_ GE174.out)|exact HB.out)));(case aF=>exact (fun k_ hk=>⟨Kd.fresh' (Kd.R_lt (by (with_reducible repeat (first|apply aR|apply nR|apply dR));exact HO_7.out)) k_ hk,Kd.fresh' (Kd.R_lt (by (with_reducible repeat (first|apply aR|apply nR|apply dR));exact HO_8.out)) k_ hk⟩));(case aO=>exact (by (with_reducible repeat (first|apply aR|apply nR|apply dR));exact HO_10.out));(case aS=>exact (below_size (by repeat (first|(with_reducible first|exact HB.out|apply aZ|apply nZ|apply dZ|refine sZ ?_ GE174.out)|exact HB.out))));(case aL=>have:=LMc65.out;omega);intro v200 w68 ho hb hg hat;rw [← Ny199.out] at ho;have n0_:=mk0 (Kd.R_after (ok:=(fun k_=>some k_ ≠ (.slice (some ad198) x8_2.length co67:Value).ownBlock)) (by (with_reducible repeat (first|apply aR|apply nR|apply dR));exact HO_7.out) hg hat);have n1_:=mk0 (Kd.R_after (ok:=(fun k_=>some k_ ≠ (.slice (some ad197) t181.length co66:Value).ownBlock)) (by (with_reducible repeat (first|apply aR|apply nR|apply dR));exact HO_8.out) hg hat);have n2_:=mk0 (blk_grown (g:=gb174) (o:=.cells #[.int .i64 a1_0,.slice A1_1 l1_1.length c1_1,.int .i64 a1_2,.slice A1_3 l1_3.length c1_3,.slice A1_4 l1_4.length c1_4] 27 (0,0)) (by (with_reducible repeat (first|apply nB|apply dB|apply aB));exact BK174.out) hg (Kd.R_ne HO_10.out BK174.out (by decide)));have n3_:=mk0 (hb);have n4_:=mk0 (ho);clear HO_7 HO_8 BK174 HB HO_10;have HO_7:=n0_;have HO_8:=n1_;have BK174:=n2_;have HB:=n3_;have HO201:=n4_;clear n0_ n1_ n2_ n3_ n4_ ho hb hg hat))
          go_roundg k4
          case measure=>have:=HJ2.out;have:=HK2.out;have:=HJ44.out;have:=HK4.out;omega
          case rel=>exact⟨(y199),(wrap64 (x11_4 + 1)),(wrap64 (x12_4 + 1)),(by first|rfl|(simp;done)|(simp [*];done)),(by first|rfl|(simp;done)|(simp [*];done)),H',⟨by have:=HJ2.out;have:=HK2.out;have:=HJ44.out;have:=HK4.out;omega⟩,⟨by (with_reducible repeat (first|apply aR|apply nR|apply dR));exact HO_7.out⟩,⟨by (with_reducible repeat (first|apply aR|apply nR|apply dR));exact HO_8.out⟩,⟨by (with_reducible repeat (first|apply aR|apply nR|apply dR));exact HO201.out⟩,⟨by (with_reducible repeat (first|apply nB|apply dB|apply aB));exact BK174.out⟩,⟨by repeat (first|(with_reducible first|exact HB.out|apply aZ|apply nZ|apply dZ|refine sZ ?_ GE174.out)|exact HB.out)⟩⟩
         rw [if_neg c62] at H
         have c62b0:((rd t181 x12_4) == 1) = false:=beq_eq_false_iff_ne.mpr c62
         have c62b1:((rd t181 x12_4) != 1) = true:=bne_iff_ne.mpr c62
         obtain⟨ji69,hji69⟩:∃ j_:Int,(wrap64 (x12_4 - x11_4)) = j_:=⟨_,rfl⟩
         replace H:(if 0 ≤ (ji69) then (if (ji69) < (l1_4.length:Int) then (if x10_4.length < 17592186044416 then (spec_PatchDo.l1 k4 t181 x8_2 (x10_4 ++ [rd l1_4 (ji69)]) x11_4 (wrap64 (x12_4 + 1)) a1_0 l1_1 a1_2 l1_3 l1_4) else (none)) else (none)) else (none)) = some (r1,r2):=by first|(rw [hji69] at H;exact H)|(simp only [hji69] at H ⊢;exact H)
         have hji69w:(IntKind.i64.wrap (x12_4 - x11_4)) = ji69:=(i64_w _).trans hji69
         by_cases c70:0 ≤ (ji69)
         rotate_left
         ·rw [if_neg c70] at H
          exact absurd H (by simp)
         rw [if_pos c70] at H
         have c70b0:decide (0 ≤ (ji69)) = true:=decide_eq_true c70
         clear c70
         by_cases c71:(ji69) < (l1_4.length:Int)
         rotate_left
         ·rw [if_neg c71] at H
          exact absurd H (by simp)
         rw [if_pos c71] at H
         have c71b0:decide ((ji69) < (l1_4.length:Int)) = true:=decide_eq_true c71
         clear c71
         by_cases c72:x10_4.length < 17592186044416
         rotate_left
         ·rw [if_neg c72] at H
          exact absurd H (by simp)
         rw [if_pos c72] at H
         have LMc72:=mk0 c72
         clear c72
         obtain⟨y203,hy203⟩:∃ y_:List Int,y_ = (x10_4 ++ [rd l1_4 (ji69)]):=⟨_,rfl⟩
         replace H:(spec_PatchDo.l1 k4 t181 x8_2 y203 x11_4 (wrap64 (x12_4 + 1)) a1_0 l1_1 a1_2 l1_3 l1_4) = some (r1,r2):=by first|(rw [hy203];with_reducible exact H)|(have H2_:=(Option.bind_some _ _).symm.trans H;rw [hy203];with_reducible exact H2_)|(have H2_:=(Option.bind_some _ _).symm.trans H;with_reducible exact H2_)|with_reducible exact H|(rw [hy203];exact H)|exact H
         have Ny203:=mk0 hy203
         clear hy203
         have H':=mk0 H
         clear H
         obtain⟨Ao73,co73,eo73⟩:=Kd.R_slice HO_7.out
         subst eo73
         have p197:0 ≤ (x12_4:Int):=of_decide_eq_true (by first|(with_reducible assumption)|assumption)
         have q197:x12_4 < (t181.length:Int):=of_decide_eq_true (by first|(with_reducible assumption)|assumption)
         obtain⟨ad197,e197,hx197_0⟩:=Kd.at_int (Kd.R_reads' HO_7.out).2.2 x12_4 p197 q197
         cases e197
         replace p197:=eq_true p197
         replace q197:=eq_true q197
         have hcz74_0:wr.cell? ⟨gb174,0,none⟩ = some (.int .i64 a1_0):=(blk_cell BK174.out 0).trans rfl
         have hcz74_1:wr.cell? ⟨gb174,1,none⟩ = some (.slice A1_1 l1_1.length c1_1):=(blk_cell BK174.out 1).trans rfl
         have hcz74_2:wr.cell? ⟨gb174,2,none⟩ = some (.int .i64 a1_2):=(blk_cell BK174.out 2).trans rfl
         have hcz74_3:wr.cell? ⟨gb174,3,none⟩ = some (.slice A1_3 l1_3.length c1_3):=(blk_cell BK174.out 3).trans rfl
         have hcz74_4:wr.cell? ⟨gb174,4,none⟩ = some (.slice A1_4 l1_4.length c1_4):=(blk_cell BK174.out 4).trans rfl
         have hfz74_0:=blk_frozen BK174.out 0
         have hfz74_1:=blk_frozen BK174.out 1
         have hfz74_2:=blk_frozen BK174.out 2
         have hfz74_3:=blk_frozen BK174.out 3
         have hfz74_4:=blk_frozen BK174.out 4
         have p202:0 ≤ ((ji69):Int):=of_decide_eq_true (by first|(with_reducible assumption)|assumption)
         have q202:(ji69) < (l1_4.length:Int):=of_decide_eq_true (by first|(with_reducible assumption)|assumption)
         obtain⟨ad202,e202,hx202_0⟩:=Kd.at_int HR1_4.out (ji69) p202 q202
         cases e202
         replace hx202_0:=(HB.out.cell (World.block_lt_of_cell? w _ hx202_0)).trans hx202_0
         replace p202:=eq_true p202
         replace q202:=eq_true q202
         go_wp2_with (first|((with_reducible refine gate_builtin (b:=.append) (xs:=#[.tmp 109,.tmp 117]) rfl ?_);(try (refine gate_guard (by rfl) ?_;dsimp only));at_builtin;refine Kd.R_append (Kd.int .i64) (w0:=w) w.heap.size rfl (.tmp 109) (.tmp 117) 22 3 (.int .i64 0) 8 rfl Try.underlying22 info3 rfl (by decide) (by omega) u10 x10_4 (rd l1_4 (ji69)) [.int .i64 (rd l1_4 (ji69))] (fun k_=>some k_ ≠ (.slice (some ad197) t181.length co73:Value).ownBlock ∧ some k_ ≠ (u8:Value).ownBlock) (fun _=>False) rfl rfl ?aP (fun _ hk=>hk.elim) ?aF ?aO ?aB ?aS ?aL ?_;(case aP=>exact rfl);(case aB=>exact (by repeat (first|(with_reducible first|exact HB.out|apply aZ|apply nZ|apply dZ|refine sZ ?_ GE174.out)|exact HB.out)));(case aF=>exact (fun k_ hk=>⟨Kd.fresh' (Kd.R_lt (by (with_reducible repeat (first|apply aR|apply nR|apply dR));exact HO_7.out)) k_ hk,Kd.fresh' (Kd.R_lt (by (with_reducible repeat (first|apply aR|apply nR|apply dR));exact HO_8.out)) k_ hk⟩));(case aO=>exact (by (with_reducible repeat (first|apply aR|apply nR|apply dR));exact HO_10.out));(case aS=>exact (below_size (by repeat (first|(with_reducible first|exact HB.out|apply aZ|apply nZ|apply dZ|refine sZ ?_ GE174.out)|exact HB.out))));(case aL=>have:=LMc72.out;omega);intro v204 w75 ho hb hg hat;rw [← Ny203.out] at ho;have n0_:=mk0 (Kd.R_after (ok:=(fun k_=>some k_ ≠ (u8:Value).ownBlock)) (by (with_reducible repeat (first|apply aR|apply nR|apply dR));exact HO_7.out) hg hat);have n1_:=mk0 (Kd.R_after (ok:=(fun k_=>some k_ ≠ (.slice (some ad197) t181.length co73:Value).ownBlock)) (by (with_reducible repeat (first|apply aR|apply nR|apply dR));exact HO_8.out) hg hat);have n2_:=mk0 (blk_grown (g:=gb174) (o:=.cells #[.int .i64 a1_0,.slice A1_1 l1_1.length c1_1,.int .i64 a1_2,.slice A1_3 l1_3.length c1_3,.slice (some ad202) l1_4.length c1_4] 27 (0,0)) (by (with_reducible repeat (first|apply nB|apply dB|apply aB));exact BK174.out) hg (Kd.R_ne HO_10.out BK174.out (by decide)));have n3_:=mk0 (hb);have n4_:=mk0 (ho);clear HO_7 HO_8 BK174 HB HO_10;have HO_7:=n0_;have HO_8:=n1_;have BK174:=n2_;have HB:=n3_;have HO205:=n4_;clear n0_ n1_ n2_ n3_ n4_ ho hb hg hat))
         go_roundg k4
         case measure=>have:=HJ2.out;have:=HK2.out;have:=HJ44.out;have:=HK4.out;omega
         case rel=>exact⟨(y203),(x11_4),(wrap64 (x12_4 + 1)),(by first|rfl|(simp;done)|(simp [*];done)),(by first|rfl|(simp;done)|(simp [*];done)),H',⟨by have:=HJ2.out;have:=HK2.out;have:=HJ44.out;have:=HK4.out;omega⟩,⟨by (with_reducible repeat (first|apply aR|apply nR|apply dR));exact HO_7.out⟩,⟨by (with_reducible repeat (first|apply aR|apply nR|apply dR));exact HO_8.out⟩,⟨by (with_reducible repeat (first|apply aR|apply nR|apply dR));exact HO205.out⟩,⟨by (with_reducible repeat (first|apply nB|apply dB|apply aB));exact BK174.out⟩,⟨by repeat (first|(with_reducible first|exact HB.out|apply aZ|apply nZ|apply dZ|refine sZ ?_ GE174.out)|exact HB.out)⟩⟩
end Go.Proofs.Ytdiemmcnekbfaaa.QFnExactPatchDo
