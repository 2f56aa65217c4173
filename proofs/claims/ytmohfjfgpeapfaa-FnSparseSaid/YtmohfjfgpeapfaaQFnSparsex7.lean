-- A walk, made by walk.py, a program of this session's.
import Derived.Test.YtmohfjfgpeapfaaQFnSparsex0
import Derived.Test.YtmohfjfgpeapfaaQFnSparsex5
import Derived.Test.YtmohfjfgpeapfaaQFnSparsex6
namespace Go.Proofs.Ytmohfjfgpeapfaa.QFnSparse
open Go.RowKit Go.Proofs.YtmohfjfgpeapfaaW.PrintWords Go.Proofs.YtmohfjfgpeapfaaW.PrintLast Go.Proofs.YtmohfjfgpeapfaaW.PrintMore
attribute [local go_sem] max2_int min2_int max_two min_two max_three min_three max_four min_four   -- for this text's walks alone
set_option linter.unusedVariables false
set_option linter.unusedSimpArgs false

/-! ### impl_SparseOf: function 10 -/
mutual
def impl_SparseOf.j0 : Nat → List Int → Bool → Int → Option (Int × Int × Int × Int × Int × List Int × Int × List Int × Bool)
 | 0, _, _, _ => none
 | k + 1, x0, x26, x290000 => if x26 = true then (some (0, 0, 0, 0, 0, ([] : List Int), 0, ([] : List Int), false)) else ((impl_lowWidth.f k x290000 (x0.length : Int)).bind fun t294 => (if 0 ≤ t294 then (if (wrap64 ((wrap64 ((x0.length : Int) + (shr .i64 x290000 t294))) + 1)) > 5000 then (some (0, 0, 0, 0, 0, ([] : List Int), 0, ([] : List Int), false)) else (impl_SparseOf.l0 k x0 t294 ([] : List Int) ([] : List Int) x0 (x0.length : Int) 0 x290000)) else (none)))
def impl_SparseOf.l0 : Nat → List Int → Int → List Int → List Int → List Int → Int → Int → Int → Option (Int × Int × Int × Int × Int × List Int × Int × List Int × Bool)
 | 0, _, _, _, _, _, _, _, _ => none
 | k + 1, x0, x6, x7, x8, x41, x42, x43, x290000 => if x43 < x42 then (if 0 ≤ x43 then (if x43 < (x41.length : Int) then (impl_SparseOf.l1 k x0 x6 x7 x8 (rd x41 x43) x41 x42 x43 x290000) else (none)) else (none)) else (impl_SparseOf.l2 k x0 x6 x7 x8 x290000)
def impl_SparseOf.l1 : Nat → List Int → Int → List Int → List Int → Int → List Int → Int → Int → Int → Option (Int × Int × Int × Int × Int × List Int × Int × List Int × Bool)
 | 0, _, _, _, _, _, _, _, _, _ => none
 | k + 1, x0, x6, x7, x8, x10, x41, x42, x43, x290000 => if 0 ≤ x6 then (if (wrap64 ((x8.length : Int) - (x7.length : Int))) < (shr .i64 x10 x6) then ((some (([0] : List Int) : List Int)).bind fun y296 => (if x8.length + y296.length < 17592186044416 then (impl_SparseOf.l1 k x0 x6 x7 (x8 ++ y296) x10 x41 x42 x43 x290000) else (none))) else ((some (([1] : List Int) : List Int)).bind fun y302 => (if x8.length + y302.length < 17592186044416 then ((some (([Go.bits .and .i64 x10 (wrap64 ((shl .i64 1 x6) - 1))] : List Int) : List Int)).bind fun y308 => (if x7.length + y308.length < 17592186044416 then (impl_SparseOf.l0 k x0 x6 (x7 ++ y308) (x8 ++ y302) x41 x42 (wrap64 (x43 + 1)) x290000) else (none))) else (none)))) else (none)
def impl_SparseOf.l2 : Nat → List Int → Int → List Int → List Int → Int → Option (Int × Int × Int × Int × Int × List Int × Int × List Int × Bool)
 | 0, _, _, _, _, _ => none
 | k + 1, x0, x6, x7, x8, x290000 => if 0 ≤ x6 then (if (wrap64 ((x8.length : Int) - (x7.length : Int))) ≤ (shr .i64 x290000 x6) then ((some (([0] : List Int) : List Int)).bind fun y314 => (if x8.length + y314.length < 17592186044416 then (impl_SparseOf.l2 k x0 x6 x7 (x8 ++ y314) x290000) else (none))) else ((impl_PackOf.f k x7 x6).bind fun bt320 => (if bt320.2.2.2.2 = true then ((impl_bitsOf.f k x8).bind fun bt328 => (some (x290000, (x0.length : Int), bt320.1, bt320.2.1, bt320.2.2.1, bt320.2.2.2.1, bt328.1, bt328.2, true))) else (some (0, 0, 0, 0, 0, ([] : List Int), 0, ([] : List Int), false))))) else (none)
end
def impl_SparseOf.f (k : Nat) (l0 : List Int) (a1 : Int) : Option (Int × Int × Int × Int × Int × List Int × Int × List Int × Bool) := (impl_within.f a1 0 1000000).bind fun t291 => (if t291 = true then ((slices_IsSorted_int_int.f k l0).bind fun t292 => (if t292 = true then ((impl_areAll_34.f l0 a1).bind fun t293 => (impl_SparseOf.j0 k l0 (!t293) a1)) else (impl_SparseOf.j0 k l0 true a1))) else (impl_SparseOf.j0 k l0 true a1))
theorem impl_SparseOf.mono_l : ∀ k, (∀ y0 y1 y2, LeO (impl_SparseOf.j0 k y0 y1 y2) (impl_SparseOf.j0 (k + 1) y0 y1 y2)) ∧ (∀ y0 y1 y2 y3 y4 y5 y6 y7, LeO (impl_SparseOf.l0 k y0 y1 y2 y3 y4 y5 y6 y7) (impl_SparseOf.l0 (k + 1) y0 y1 y2 y3 y4 y5 y6 y7)) ∧ (∀ y0 y1 y2 y3 y4 y5 y6 y7 y8, LeO (impl_SparseOf.l1 k y0 y1 y2 y3 y4 y5 y6 y7 y8) (impl_SparseOf.l1 (k + 1) y0 y1 y2 y3 y4 y5 y6 y7 y8)) ∧ (∀ y0 y1 y2 y3 y4, LeO (impl_SparseOf.l2 k y0 y1 y2 y3 y4) (impl_SparseOf.l2 (k + 1) y0 y1 y2 y3 y4))
 | 0 => ⟨fun _ _ _ r h => by simp [impl_SparseOf.j0] at h, fun _ _ _ _ _ _ _ _ r h => by simp [impl_SparseOf.l0] at h, fun _ _ _ _ _ _ _ _ _ r h => by simp [impl_SparseOf.l1] at h, fun _ _ _ _ _ r h => by simp [impl_SparseOf.l2] at h⟩
 | k + 1 => by
  obtain ⟨ih0, ih1, ih2, ih3⟩ := impl_SparseOf.mono_l k
  refine ⟨?_, ?_, ?_, ?_⟩
  ·intro y0 y1 y2
   unfold impl_SparseOf.j0
   repeat' first|(with_reducible first|exact ih0 _ _ _|exact ih1 _ _ _ _ _ _ _ _|exact ih2 _ _ _ _ _ _ _ _ _|exact ih3 _ _ _ _ _|exact impl_PackOf.mono _ _ _|exact impl_bitsOf.mono _ _|exact impl_lowWidth.mono _ _ _|exact slices_IsSorted_int_int.mono _ _|exact LeO.refl _|exact LeO.none _|refine LeO.ite ?_ ?_|refine LeO.bind ?_ (fun _ => ?_))|exact LeO.none _|refine LeO.ite ?_ ?_|refine LeO.bind ?_ (fun _ => ?_)
  ·intro y0 y1 y2 y3 y4 y5 y6 y7
   unfold impl_SparseOf.l0
   repeat' first|(with_reducible first|exact ih0 _ _ _|exact ih1 _ _ _ _ _ _ _ _|exact ih2 _ _ _ _ _ _ _ _ _|exact ih3 _ _ _ _ _|exact impl_PackOf.mono _ _ _|exact impl_bitsOf.mono _ _|exact impl_lowWidth.mono _ _ _|exact slices_IsSorted_int_int.mono _ _|exact LeO.refl _|exact LeO.none _|refine LeO.ite ?_ ?_|refine LeO.bind ?_ (fun _ => ?_))|exact LeO.none _|refine LeO.ite ?_ ?_|refine LeO.bind ?_ (fun _ => ?_)
  ·intro y0 y1 y2 y3 y4 y5 y6 y7 y8
   unfold impl_SparseOf.l1
   repeat' first|(with_reducible first|exact ih0 _ _ _|exact ih1 _ _ _ _ _ _ _ _|exact ih2 _ _ _ _ _ _ _ _ _|exact ih3 _ _ _ _ _|exact impl_PackOf.mono _ _ _|exact impl_bitsOf.mono _ _|exact impl_lowWidth.mono _ _ _|exact slices_IsSorted_int_int.mono _ _|exact LeO.refl _|exact LeO.none _|refine LeO.ite ?_ ?_|refine LeO.bind ?_ (fun _ => ?_))|exact LeO.none _|refine LeO.ite ?_ ?_|refine LeO.bind ?_ (fun _ => ?_)
  ·intro y0 y1 y2 y3 y4
   unfold impl_SparseOf.l2
   repeat' first|(with_reducible first|exact ih0 _ _ _|exact ih1 _ _ _ _ _ _ _ _|exact ih2 _ _ _ _ _ _ _ _ _|exact ih3 _ _ _ _ _|exact impl_PackOf.mono _ _ _|exact impl_bitsOf.mono _ _|exact impl_lowWidth.mono _ _ _|exact slices_IsSorted_int_int.mono _ _|exact LeO.refl _|exact LeO.none _|refine LeO.ite ?_ ?_|refine LeO.bind ?_ (fun _ => ?_))|exact LeO.none _|refine LeO.ite ?_ ?_|refine LeO.bind ?_ (fun _ => ?_)
theorem impl_SparseOf.mono : ∀ a0 a1 k, LeO (impl_SparseOf.f k a0 a1) (impl_SparseOf.f (k + 1) a0 a1) := by
 intro a0 a1 k
 obtain ⟨ih0, ih1, ih2, ih3⟩ := impl_SparseOf.mono_l k
 unfold impl_SparseOf.f
 repeat' first|(with_reducible first|exact ih0 _ _ _|exact ih1 _ _ _ _ _ _ _ _|exact ih2 _ _ _ _ _ _ _ _ _|exact ih3 _ _ _ _ _|exact impl_PackOf.mono _ _ _|exact impl_bitsOf.mono _ _|exact impl_lowWidth.mono _ _ _|exact slices_IsSorted_int_int.mono _ _|exact LeO.refl _|exact LeO.none _|refine LeO.ite ?_ ?_|refine LeO.bind ?_ (fun _ => ?_))|exact LeO.none _|refine LeO.ite ?_ ?_|refine LeO.bind ?_ (fun _ => ?_)
def impl_SparseOf.T12 : Bool × List (List Nat × List Nat) := (true, [([], []), ([], []), ([0, 1], [0, 1]), ([], []), ([], []), ([], []), ([5], [5]), ([6], [6]), ([4, 7], [4, 7]), ([8], [8]), ([3, 9, 2], [3, 9]), ([2, 10, 0, 1, 2], [0, 2]), ([10, 11, 0, 1, 2, 3, 4, 5, 6, 7, 8, 9, 10, 11], [3, 10])])
def impl_SparseOf.B12 : List Nat := [0, 0, 3, 0, 0, 0, 32, 96, 240, 496, 1023, 2047, 4095]
theorem impl_SparseOf.tab12 : rtab .any (opsOf Try.f10 12) = impl_SparseOf.T12 := by kernel_rfl
theorem impl_SparseOf.bits12 : waitsOk impl_SparseOf.T12.2 impl_SparseOf.B12 = true := by kernel_rfl
def impl_SparseOf.T19 : Bool × List (List Nat × List Nat) := (true, [([], []), ([], []), ([1], [1]), ([], []), ([], []), ([4], [4]), ([0, 2, 3, 5], [0, 2, 3, 5]), ([6, 5, 0, 1, 2, 3, 4, 5, 6], [6]), ([7, 0, 1, 2, 3, 4, 5, 6, 7], [])])
def impl_SparseOf.B19 : List Nat := [0, 0, 2, 0, 0, 16, 63, 127, 255]
theorem impl_SparseOf.tab19 : rtab .any (opsOf Try.f10 19) = impl_SparseOf.T19 := by kernel_rfl
theorem impl_SparseOf.bits19 : waitsOk impl_SparseOf.T19.2 impl_SparseOf.B19 = true := by kernel_rfl
abbrev impl_SparseOf.m0 : Array Bool := #[F,F,F,F,F,F,F,F,F]
abbrev impl_SparseOf.m1 : Array Bool := #[F,T,F,F,F,F,F,F,F]
abbrev impl_SparseOf.m2 : Array Bool := #[F,T,T,F,F,F,F,F,F]
abbrev impl_SparseOf.m3 : Array Bool := #[F,T,T,F,T,F,F,F,F]
abbrev impl_SparseOf.m4 : Array Bool := #[T,T,T,F,T,F,F,F,F]
abbrev impl_SparseOf.m5 : Array Bool := #[T,T,T,T,T,F,F,F,F]
abbrev impl_SparseOf.m6 : Array Bool := #[T,T,T,T,T,T,F,F,F]
abbrev impl_SparseOf.m7 : Array Bool := #[T,T,T,T,T,T,T,F,F]
abbrev impl_SparseOf.m8 : Array Bool := #[T,T,T,T,T,T,T,T,F]
abbrev impl_SparseOf.m9 : Array Bool := #[T,T,T,T,T,T,T,T,T]
abbrev impl_SparseOf.m10 : Array Bool := #[F,F,F,F,F,F,F,F,F,F,F,F,F]
abbrev impl_SparseOf.m11 : Array Bool := #[T,F,F,F,F,F,F,F,F,F,F,F,F]
abbrev impl_SparseOf.m12 : Array Bool := #[T,F,F,T,F,F,F,F,F,F,F,F,F]
abbrev impl_SparseOf.m13 : Array Bool := #[T,F,F,T,T,F,F,F,F,F,F,F,F]
abbrev impl_SparseOf.m14 : Array Bool := #[T,F,F,T,T,T,F,F,F,F,F,F,F]
abbrev impl_SparseOf.m15 : Array Bool := #[T,F,F,T,T,T,T,F,F,F,F,F,F]
abbrev impl_SparseOf.m16 : Array Bool := #[T,F,F,T,T,T,T,T,F,F,F,F,F]
abbrev impl_SparseOf.m17 : Array Bool := #[T,F,F,T,T,T,T,T,T,F,F,F,F]
abbrev impl_SparseOf.m18 : Array Bool := #[T,T,T,T,T,T,T,T,T,T,F,F,F]
abbrev impl_SparseOf.m19 : Array Bool := #[T,T,F,T,T,T,T,T,T,F,F,F,F]
abbrev impl_SparseOf.m20 : Array Bool := #[T,F,F,T,T,T,T,T,T,T,F,F,F]
abbrev impl_SparseOf.m21 : Array Bool := #[T,T,T,T,T,T,T,T,T,F,F,F,F]
abbrev impl_SparseOf.m22 : Array Bool := #[T,T,F,T,T,T,T,T,T,T,F,F,F]
abbrev impl_SparseOf.m23 : Array Bool := #[T,T,T,T,T,T,T,T,T,T,T,F,F]
abbrev impl_SparseOf.m24 : Array Bool := #[T,T,T,T,T,T,T,T,T,T,T,T,F]
abbrev impl_SparseOf.m25 : Array Bool := #[T,T,T,T,T,T,T,T,T,T,T,T,T]
set_option maxHeartbeats 8000000 in
set_option maxRecDepth 100000 in
theorem impl_SparseOf.calls (k : Nat) (A0 : Option Addr) (c0 : Nat) (l0 : List Int) (a1 : Int) (r1 : Int) (r2 : Int) (r3 : Int) (r4 : Int) (r5 : Int) (r6 : List Int) (r7 : Int) (r8 : List Int) (r9 : Bool) (w : World) (hr0 : Kd.C (Kd.int .i64) w A0 l0.length l0) (hc0 : l0.length ≤ c0) (h : impl_SparseOf.f k l0 a1 = some (r1, r2, r3, r4, r5, r6, r7, r8, r9)) :
  Calls Try.prog 10 #[.slice A0 l0.length c0, .int .i64 a1] w fun e w' => ∃ v5_ v7_ : Value, e = .returned (.tuple #[.agg #[.int .i64 r1, .int .i64 r2, .int .i64 r3, .int .i64 r4, .int .i64 r5, v5_, .int .i64 r7, v7_], .bool r9]) ∧ Kd.R (Kd.int .u64) 78 w' w.heap.size (fun k_ => some k_ ≠ (v7_ : Value).ownBlock) v5_ r6 ∧ Kd.R (Kd.int .u64) 78 w' w.heap.size (fun k_ => some k_ ≠ (v5_ : Value).ownBlock) v7_ r8 ∧ Below w.heap.size w w' := by
 have hu33:=Try.underlying33
 have hu31:=Try.underlying31
 have HR0:=mk0 hr0
 have HC0:=mk0 hc0
 clear hr0 hc0
 have HB:=mk0 (Below.refl w.heap.size w)
 have H:((impl_within.f a1 0 1000000).bind fun t291=>(if t291 = true then ((slices_IsSorted_int_int.f k l0).bind fun t292=>(if t292 = true then ((impl_areAll_34.f l0 a1).bind fun t293=>(impl_SparseOf.j0 k l0 (!t293) a1)) else (impl_SparseOf.j0 k l0 true a1))) else (impl_SparseOf.j0 k l0 true a1))) = some (r1,r2,r3,r4,r5,r6,r7,r8,r9):=h
 clear h
 have HC3:=mk0 H
 clear H
 go_enter Try.func10,Try.ntmps10
 go_upto_region 1 with (first|((with_reducible refine gate_dst (N:=3) rfl ?_);refine box_event ?hg (N:=3) ?hd (cs:=#[.int .i64 a1]) (t:=3) ?hr ?_;(case hd=>rfl);(case hg=>rfl);(case hr=>first|(go_simp;done)|(go_simp;rfl));intro gb289 hg w4 hbox hb;have BK289:=mk0 (hbox);have GW289:=mk0 ((by rw [hg];exact (kZ HB.out):w.heap.size ≤ gb289));have GE289:=mk0 ((by rw [hg];exact (kZ HB.out):w.heap.size ≤ gb289));replace HB:=mk0 (kS HB.out hb);clear hb hbox hg)|((with_reducible refine gate_dst (N:=4) rfl ?_);refine box_event ?hg (N:=4) ?hd (cs:=#[.int .i64 0,.int .i64 0,.int .i64 0,.int .i64 0,.int .i64 0,.slice none 0 0,.int .i64 0,.slice none 0 0]) (t:=33) ?hr ?_;(case hd=>rfl);(case hg=>rfl);(case hr=>first|(go_simp;done)|(go_simp;rfl));intro gb290 hg w5 hbox hb;have BK290:=mk0 (hbox);have GW290:=mk0 ((by rw [hg];exact (kZ HB.out):w.heap.size ≤ gb290));have GE290:=mk0 ((by rw [hg];exact (kZ HB.out):w.heap.size ≤ gb290));replace HB:=mk0 (kS HB.out hb);have NB289_290:=mk0 ((by rw [hg];exact Nat.ne_of_lt (kL BK289.out):gb289 ≠ gb290));have NB290_289:=mk0 ((by rw [hg];exact Nat.ne_of_gt (kL BK289.out):gb290 ≠ gb289));replace BK289:=mk0 (kK BK289.out hb);clear hb hbox hg))
 (try simp only [Act.put,sA,sO,sS])
 go_cut [26] (fun v26 wc=>∃ (kq:Nat) (x26_2:Bool),v26 = .bool x26_2 ∧ Aside0 (impl_SparseOf.j0 kq l0 x26_2 a1 = some (r1,r2,r3,r4,r5,r6,r7,r8,r9)) ∧ Aside0 (kq ≤ k) ∧ Aside0 (wc.heap[gb289]? = some (.cells #[.int .i64 a1] 3 (0,0))) ∧ Aside0 (wc.heap[gb290]? = some (.cells #[.int .i64 0,.int .i64 0,.int .i64 0,.int .i64 0,.int .i64 0,(.slice none 0 0),.int .i64 0,(.slice none 0 0)] 33 (0,0))) ∧ Aside0 (Below w.heap.size w wc))
 case first =>
  have H:=HC3.out
  clear HC3
  replace H:=Option.bind_eq_some_iff.mp H
  obtain⟨t291,A60,H⟩:=H
  replace H:(if t291 = true then ((slices_IsSorted_int_int.f k l0).bind fun t292=>(if t292 = true then ((impl_areAll_34.f l0 a1).bind fun t293=>(impl_SparseOf.j0 k l0 (!t293) a1)) else (impl_SparseOf.j0 k l0 true a1))) else (impl_SparseOf.j0 k l0 true a1)) = some (r1,r2,r3,r4,r5,r6,r7,r8,r9):=H
  have A6:=mk0 A60
  clear A60
  by_cases c7:t291 = true
  rotate_left
  ·replace c7:=Bool.eq_false_iff.mpr c7
   subst c7
   have H1:(impl_SparseOf.j0 k l0 true a1) = some (r1,r2,r3,r4,r5,r6,r7,r8,r9):=by rw [if_neg (show ¬ (false = true) by decide)] at H;exact H
   clear H
   have H:=H1
   clear H1
   have H':=mk0 H
   clear H
   have hnb16:=NB289_290.out
   have hnc16:=NB290_289.out
   have hcz17_0:w5.cell? ⟨gb289,0,none⟩ = some (.int .i64 a1):=(blk_cell BK289.out 0).trans rfl
   have hfz17_0:=blk_frozen BK289.out 0
   go_wp2_with (first|((with_reducible refine gate_callee (f:=31) rfl ?_);refine goesL_ (some 14) rfl rfl Try.func31 (by kernel_rfl) rfl #[.int .i64 a1,.int .i64 0,.int .i64 1000000] rfl (by (try simp only [mA,mC,mN]);first|done|rfl|(simp only [List.length_drop,List.length_take];done)|(simp only [List.length_drop,List.length_take];rfl)) ?_;(with_reducible refine (impl_within.calls a1 0 1000000 false _ A6.out).mono ?_);rintro e w' ⟨rfl,⟨nd,rfl⟩⟩;refine⟨_,rfl,?_⟩))
   go_meet
   case rel=>exact⟨_,(true),(by first|rfl|(simp;done)|(simp [*];done)),H',⟨by first|omega|exact Nat.le_refl _⟩,⟨kN BK289.out⟩,⟨kN BK290.out⟩,⟨kB HB.out⟩⟩
  subst c7
  have H1:((slices_IsSorted_int_int.f k l0).bind fun t292=>(if t292 = true then ((impl_areAll_34.f l0 a1).bind fun t293=>(impl_SparseOf.j0 k l0 (!t293) a1)) else (impl_SparseOf.j0 k l0 true a1))) = some (r1,r2,r3,r4,r5,r6,r7,r8,r9):=by rw [if_pos rfl] at H;exact H
  clear H
  have H:=H1
  clear H1
  replace H:=Option.bind_eq_some_iff.mp H
  obtain⟨t292,A80,H⟩:=H
  replace H:(if t292 = true then ((impl_areAll_34.f l0 a1).bind fun t293=>(impl_SparseOf.j0 k l0 (!t293) a1)) else (impl_SparseOf.j0 k l0 true a1)) = some (r1,r2,r3,r4,r5,r6,r7,r8,r9):=H
  have A8:=mk0 A80
  clear A80
  by_cases c9:t292 = true
  rotate_left
  ·replace c9:=Bool.eq_false_iff.mpr c9
   subst c9
   have H1:(impl_SparseOf.j0 k l0 true a1) = some (r1,r2,r3,r4,r5,r6,r7,r8,r9):=by rw [if_neg (show ¬ (false = true) by decide)] at H;exact H
   clear H
   have H:=H1
   clear H1
   have H':=mk0 H
   clear H
   have hnb14:=NB289_290.out
   have hnc14:=NB290_289.out
   have hcz15_0:w5.cell? ⟨gb289,0,none⟩ = some (.int .i64 a1):=(blk_cell BK289.out 0).trans rfl
   have hfz15_0:=blk_frozen BK289.out 0
   go_wp2_with (first|((with_reducible refine gate_callee (f:=31) rfl ?_);refine goesL_ (some 14) rfl rfl Try.func31 (by kernel_rfl) rfl #[.int .i64 a1,.int .i64 0,.int .i64 1000000] rfl (by (try simp only [mA,mC,mN]);first|done|rfl|(simp only [List.length_drop,List.length_take];done)|(simp only [List.length_drop,List.length_take];rfl)) ?_;(with_reducible refine (impl_within.calls a1 0 1000000 true _ A6.out).mono ?_);rintro e w' ⟨rfl,⟨nd,rfl⟩⟩;refine⟨_,rfl,?_⟩)|(go_at_call 32;(with_reducible refine (slices_IsSorted_int_int.calls k _ _ l0 false _ ?side1 ?side2 A8.out).mono ?_);(case side1=>repeat (first|exact (Kd.C_below HR0.out (kB HB.out))|(with_reducible first|apply aC|apply nC|apply dC)));(case side2=>exact HC0.out);rintro e w' ⟨rfl,⟨nd,rfl⟩⟩))
   go_meet
   case rel=>exact⟨_,(true),(by first|rfl|(simp;done)|(simp [*];done)),H',⟨by first|omega|exact Nat.le_refl _⟩,⟨kN BK289.out⟩,⟨kN BK290.out⟩,⟨kB HB.out⟩⟩
  subst c9
  have H1:((impl_areAll_34.f l0 a1).bind fun t293=>(impl_SparseOf.j0 k l0 (!t293) a1)) = some (r1,r2,r3,r4,r5,r6,r7,r8,r9):=by rw [if_pos rfl] at H;exact H
  clear H
  have H:=H1
  clear H1
  replace H:=Option.bind_eq_some_iff.mp H
  obtain⟨t293,A100,H⟩:=H
  replace H:(impl_SparseOf.j0 k l0 (!t293) a1) = some (r1,r2,r3,r4,r5,r6,r7,r8,r9):=H
  have A10:=mk0 A100
  clear A100
  have H':=mk0 H
  clear H
  have hnb11:=NB289_290.out
  have hnc11:=NB290_289.out
  have hcz12_0:w5.cell? ⟨gb289,0,none⟩ = some (.int .i64 a1):=(blk_cell BK289.out 0).trans rfl
  have hfz12_0:=blk_frozen BK289.out 0
  go_wp2_with (first|((with_reducible refine gate_callee (f:=31) rfl ?_);refine goesL_ (some 14) rfl rfl Try.func31 (by kernel_rfl) rfl #[.int .i64 a1,.int .i64 0,.int .i64 1000000] rfl (by (try simp only [mA,mC,mN]);first|done|rfl|(simp only [List.length_drop,List.length_take];done)|(simp only [List.length_drop,List.length_take];rfl)) ?_;(with_reducible refine (impl_within.calls a1 0 1000000 true _ A6.out).mono ?_);rintro e w' ⟨rfl,⟨nd,rfl⟩⟩;refine⟨_,rfl,?_⟩)|(go_at_call 32;(with_reducible refine (slices_IsSorted_int_int.calls k _ _ l0 true _ ?side1 ?side2 A8.out).mono ?_);(case side1=>repeat (first|exact (Kd.C_below HR0.out (kB HB.out))|(with_reducible first|apply aC|apply nC|apply dC)));(case side2=>exact HC0.out);rintro e w' ⟨rfl,⟨nd,rfl⟩⟩)|(go_at_call 33;(with_reducible refine (impl_areAll_34.calls _ _ l0 a1 t293 _ ?side1 ?side2 ?side3 A10.out).mono ?_);(case side1=>repeat (first|exact (Kd.C_below HR0.out (kB HB.out))|(with_reducible first|apply aC|apply nC|apply dC)));(case side2=>exact HC0.out);(case side3=>exact by (with_reducible repeat (first|apply nB|apply dB|apply aB));exact BK289.out);rintro e w13 ⟨rfl,hb⟩;replace BK289:=mk0 (kK BK289.out hb);replace BK290:=mk0 (kK BK290.out hb);replace HB:=mk0 (kS HB.out hb);(try clear hb)))
  go_meet
  case rel=>exact⟨_,(!t293),(by first|rfl|(simp;done)|(simp [*];done)),H',⟨by first|omega|exact Nat.le_refl _⟩,⟨kN BK289.out⟩,⟨kN BK290.out⟩,⟨kB HB.out⟩⟩
 case rest =>
  clear HC3
  try clear c1
  try clear p2
  try clear c3
  try clear c7
  try clear c9
  try clear c10
  try clear c11
  try clear c14
  try clear c16
  try clear hcz12_0
  try clear hcz15_0
  try clear hcz17_0
  try clear hfz12_0
  try clear hfz15_0
  try clear hfz17_0
  obtain⟨kq,x26_2,rfl,HA,HJ2,BK289,BK290,HB⟩:=hcut
  cases kq with
  | zero=>exact absurd HA.out (by simp [impl_SparseOf.j0])
  | succ kj2 =>
   have H:=HA.out
   clear HA
   simp only [impl_SparseOf.j0] at H
   by_cases c18:x26_2 = true
   ·subst c18
    have H1:(some (0,0,0,0,0,([]:List Int),0,([]:List Int),false)) = some (r1,r2,r3,r4,r5,r6,r7,r8,r9):=by rw [if_pos rfl] at H;exact H
    clear H
    have H:=H1
    clear H1
    simp only [Option.some.injEq,Prod.mk.injEq] at H
    obtain⟨rfl,rfl,rfl,rfl,rfl,rfl,rfl,rfl,rfl⟩:=H
    have hnb19:=NB290_289.out
    have hnc19:=NB289_290.out
    obtain⟨hcz20_0,hcz20_1,hcz20_2,hcz20_3,hcz20_4,hcz20_5,hcz20_6,hcz20_7,hfz20_0,hfz20_1,hfz20_2,hfz20_3,hfz20_4,hfz20_5,hfz20_6,hfz20_7⟩:=cz8 BK290.out
    go_wp2
    refine bodyPost_ret (results_ct rfl _ _ gb290 33 #[.int .i64 0,.int .i64 0,.int .i64 0,.int .i64 0,.int .i64 0,.slice none 0 0,.int .i64 0,.slice none 0 0] (0,0) _ rfl (by (with_reducible repeat (first|apply nB|apply dB|apply aB));refine blk_put (cs:=#[.int .i64 0,.int .i64 0,.int .i64 0,.int .i64 0,.int .i64 0,.slice none 0 0,.int .i64 0,.slice none 0 0]) ?_ 7 _ rfl;(with_reducible repeat (first|apply nB|apply dB|apply aB));refine blk_put (cs:=#[.int .i64 0,.int .i64 0,.int .i64 0,.int .i64 0,.int .i64 0,.slice none 0 0,.int .i64 0,.slice none 0 0]) ?_ 6 _ rfl;(with_reducible repeat (first|apply nB|apply dB|apply aB));refine blk_put (cs:=#[.int .i64 0,.int .i64 0,.int .i64 0,.int .i64 0,.int .i64 0,.slice none 0 0,.int .i64 0,.slice none 0 0]) ?_ 5 _ rfl;(with_reducible repeat (first|apply nB|apply dB|apply aB));refine blk_put (cs:=#[.int .i64 0,.int .i64 0,.int .i64 0,.int .i64 0,.int .i64 0,.slice none 0 0,.int .i64 0,.slice none 0 0]) ?_ 4 _ rfl;(with_reducible repeat (first|apply nB|apply dB|apply aB));refine blk_put (cs:=#[.int .i64 0,.int .i64 0,.int .i64 0,.int .i64 0,.int .i64 0,.slice none 0 0,.int .i64 0,.slice none 0 0]) ?_ 3 _ rfl;(with_reducible repeat (first|apply nB|apply dB|apply aB));refine blk_put (cs:=#[.int .i64 0,.int .i64 0,.int .i64 0,.int .i64 0,.int .i64 0,.slice none 0 0,.int .i64 0,.slice none 0 0]) ?_ 2 _ rfl;(with_reducible repeat (first|apply nB|apply dB|apply aB));refine blk_put (cs:=#[.int .i64 0,.int .i64 0,.int .i64 0,.int .i64 0,.int .i64 0,.slice none 0 0,.int .i64 0,.slice none 0 0]) ?_ 1 _ rfl;(with_reducible repeat (first|apply nB|apply dB|apply aB));refine blk_put (cs:=#[.int .i64 0,.int .i64 0,.int .i64 0,.int .i64 0,.int .i64 0,.slice none 0 0,.int .i64 0,.slice none 0 0]) ?_ 0 _ rfl;(with_reducible repeat (first|apply nB|apply dB|apply aB));exact BK290.out) Try.underlying33 rfl (by kernel_rfl)) rfl ?_
    exact⟨_,_,by first|rfl|(simp [errW_none,errW_some] <;> rfl)|(simp [*,errW_none,errW_some] <;> rfl),by first|exact Kd.R_nil _ _ _ _ _|exact Kd.N_nil _ _ _ _ _|exact Kd.V_nil _ _ _ _ _|exact Kd.Q_nil _ _ _ _ _|exact Kd.S_nil _ _ _ _ _,by first|exact Kd.R_nil _ _ _ _ _|exact Kd.N_nil _ _ _ _ _|exact Kd.V_nil _ _ _ _ _|exact Kd.Q_nil _ _ _ _ _|exact Kd.S_nil _ _ _ _ _,kB HB.out⟩
   replace c18:=Bool.eq_false_iff.mpr c18
   subst c18
   have H1:((impl_lowWidth.f kj2 a1 (l0.length:Int)).bind fun t294=>(if 0 ≤ t294 then (if (wrap64 ((wrap64 ((l0.length:Int) + (shr .i64 a1 t294))) + 1)) > 5000 then (some (0,0,0,0,0,([]:List Int),0,([]:List Int),false)) else (impl_SparseOf.l0 kj2 l0 t294 ([]:List Int) ([]:List Int) l0 (l0.length:Int) 0 a1)) else (none))) = some (r1,r2,r3,r4,r5,r6,r7,r8,r9):=by rw [if_neg (show ¬ (false = true) by decide)] at H;exact H
   clear H
   have H:=H1
   clear H1
   replace H:=Option.bind_eq_some_iff.mp H
   obtain⟨t294,A210,H⟩:=H
   replace H:(if 0 ≤ t294 then (if (wrap64 ((wrap64 ((l0.length:Int) + (shr .i64 a1 t294))) + 1)) > 5000 then (some (0,0,0,0,0,([]:List Int),0,([]:List Int),false)) else (impl_SparseOf.l0 kj2 l0 t294 ([]:List Int) ([]:List Int) l0 (l0.length:Int) 0 a1)) else (none)) = some (r1,r2,r3,r4,r5,r6,r7,r8,r9):=H
   have A21:=mk0 A210
   clear A210
   by_cases c22:0 ≤ t294
   rotate_left
   ·rw [if_neg c22] at H
    exact absurd H (by simp)

   rw [if_pos c22] at H
   have c22b0:=eq_true c22
   have c22b1:decide (0 ≤ t294) = true:=decide_eq_true c22
   clear c22
   obtain⟨ji23,hji23⟩:∃ j_:Int,(shr .i64 a1 t294) = j_:=⟨_,rfl⟩
   replace H:(if (wrap64 ((wrap64 ((l0.length:Int) + (ji23))) + 1)) > 5000 then (some (0,0,0,0,0,([]:List Int),0,([]:List Int),false)) else (impl_SparseOf.l0 kj2 l0 t294 ([]:List Int) ([]:List Int) l0 (l0.length:Int) 0 a1)) = some (r1,r2,r3,r4,r5,r6,r7,r8,r9):=by first|(rw [hji23] at H;exact H)|(simp only [hji23] at H ⊢;exact H)
   (try rw [hji23] at A21)
   have hji23_:(a1 / 2 ^ min t294.toNat 64) = ji23:=hji23
   have hji23z:t294 ≤ 64 → (a1 / 2 ^ t294.toNat) = ji23:=shr_small hji23
   by_cases c24:(wrap64 ((wrap64 ((l0.length:Int) + (ji23))) + 1)) > 5000
   ·rw [if_pos c24] at H
    have c24b0:decide (5000 < (wrap64 ((wrap64 ((l0.length:Int) + (ji23))) + 1))) = true:=decide_eq_true c24
    clear c24
    simp only [Option.some.injEq,Prod.mk.injEq] at H
    obtain⟨rfl,rfl,rfl,rfl,rfl,rfl,rfl,rfl,rfl⟩:=H
    have hnb25:=NB289_290.out
    have hnc25:=NB290_289.out
    have hcz26_0:wc.cell? ⟨gb289,0,none⟩ = some (.int .i64 a1):=(blk_cell BK289.out 0).trans rfl
    have hfz26_0:=blk_frozen BK289.out 0
    go_wp2_with (first|((with_reducible refine gate_callee (f:=35) rfl ?_);refine goesL_ (some 31) rfl rfl Try.func35 (by kernel_rfl) rfl #[.int .i64 a1,.int .i64 (l0.length:Int)] rfl (by (try simp only [mA,mC,mN]);first|done|rfl|(simp only [List.length_drop,List.length_take];done)|(simp only [List.length_drop,List.length_take];rfl)) ?_;(with_reducible refine (impl_lowWidth.calls kj2 a1 (l0.length:Int) t294 _ A21.out).mono ?_);rintro e w27 ⟨rfl,hb⟩;refine⟨_,rfl,?_⟩;replace BK289:=mk0 (kK BK289.out hb);replace BK290:=mk0 (kK BK290.out hb);replace HB:=mk0 (kS HB.out hb);(try clear hb);have hcz28_0:w27.cell? ⟨gb289,0,none⟩ = some (.int .i64 a1):=(blk_cell BK289.out 0).trans rfl;have hfz28_0:=blk_frozen BK289.out 0;obtain⟨hcz29_0,hcz29_1,hcz29_2,hcz29_3,hcz29_4,hcz29_5,hcz29_6,hcz29_7,hfz29_0,hfz29_1,hfz29_2,hfz29_3,hfz29_4,hfz29_5,hfz29_6,hfz29_7⟩:=cz8 BK290.out))
    refine bodyPost_ret (results_ct rfl _ _ gb290 33 #[.int .i64 0,.int .i64 0,.int .i64 0,.int .i64 0,.int .i64 0,.slice none 0 0,.int .i64 0,.slice none 0 0] (0,0) _ rfl (by (with_reducible repeat (first|apply nB|apply dB|apply aB));refine blk_put (cs:=#[.int .i64 0,.int .i64 0,.int .i64 0,.int .i64 0,.int .i64 0,.slice none 0 0,.int .i64 0,.slice none 0 0]) ?_ 7 _ rfl;(with_reducible repeat (first|apply nB|apply dB|apply aB));refine blk_put (cs:=#[.int .i64 0,.int .i64 0,.int .i64 0,.int .i64 0,.int .i64 0,.slice none 0 0,.int .i64 0,.slice none 0 0]) ?_ 6 _ rfl;(with_reducible repeat (first|apply nB|apply dB|apply aB));refine blk_put (cs:=#[.int .i64 0,.int .i64 0,.int .i64 0,.int .i64 0,.int .i64 0,.slice none 0 0,.int .i64 0,.slice none 0 0]) ?_ 5 _ rfl;(with_reducible repeat (first|apply nB|apply dB|apply aB));refine blk_put (cs:=#[.int .i64 0,.int .i64 0,.int .i64 0,.int .i64 0,.int .i64 0,.slice none 0 0,.int .i64 0,.slice none 0 0]) ?_ 4 _ rfl;(with_reducible repeat (first|apply nB|apply dB|apply aB));refine blk_put (cs:=#[.int .i64 0,.int .i64 0,.int .i64 0,.int .i64 0,.int .i64 0,.slice none 0 0,.int .i64 0,.slice none 0 0]) ?_ 3 _ rfl;(with_reducible repeat (first|apply nB|apply dB|apply aB));refine blk_put (cs:=#[.int .i64 0,.int .i64 0,.int .i64 0,.int .i64 0,.int .i64 0,.slice none 0 0,.int .i64 0,.slice none 0 0]) ?_ 2 _ rfl;(with_reducible repeat (first|apply nB|apply dB|apply aB));refine blk_put (cs:=#[.int .i64 0,.int .i64 0,.int .i64 0,.int .i64 0,.int .i64 0,.slice none 0 0,.int .i64 0,.slice none 0 0]) ?_ 1 _ rfl;(with_reducible repeat (first|apply nB|apply dB|apply aB));refine blk_put (cs:=#[.int .i64 0,.int .i64 0,.int .i64 0,.int .i64 0,.int .i64 0,.slice none 0 0,.int .i64 0,.slice none 0 0]) ?_ 0 _ rfl;(with_reducible repeat (first|apply nB|apply dB|apply aB));exact BK290.out) Try.underlying33 rfl (by kernel_rfl)) rfl ?_
    exact⟨_,_,by first|rfl|(simp [errW_none,errW_some] <;> rfl)|(simp only [← hji23];first|rfl|(simp [errW_none,errW_some] <;> rfl))|(simp [*,errW_none,errW_some] <;> rfl),by first|exact Kd.R_nil _ _ _ _ _|exact Kd.N_nil _ _ _ _ _|exact Kd.V_nil _ _ _ _ _|exact Kd.Q_nil _ _ _ _ _|exact Kd.S_nil _ _ _ _ _,by first|exact Kd.R_nil _ _ _ _ _|exact Kd.N_nil _ _ _ _ _|exact Kd.V_nil _ _ _ _ _|exact Kd.Q_nil _ _ _ _ _|exact Kd.S_nil _ _ _ _ _,kB HB.out⟩
   rw [if_neg c24] at H
   have c24b0:decide (5000 < (wrap64 ((wrap64 ((l0.length:Int) + (ji23))) + 1))) = false:=decide_eq_false c24
   clear c24
   have H':=mk0 H
   clear H
   have hnb30:=NB289_290.out
   have hnc30:=NB290_289.out
   have hcz31_0:wc.cell? ⟨gb289,0,none⟩ = some (.int .i64 a1):=(blk_cell BK289.out 0).trans rfl
   have hfz31_0:=blk_frozen BK289.out 0
   go_wp2_with (first|((with_reducible refine gate_callee (f:=35) rfl ?_);refine goesL_ (some 31) rfl rfl Try.func35 (by kernel_rfl) rfl #[.int .i64 a1,.int .i64 (l0.length:Int)] rfl (by (try simp only [mA,mC,mN]);first|done|rfl|(simp only [List.length_drop,List.length_take];done)|(simp only [List.length_drop,List.length_take];rfl)) ?_;(with_reducible refine (impl_lowWidth.calls kj2 a1 (l0.length:Int) t294 _ A21.out).mono ?_);rintro e w32 ⟨rfl,hb⟩;refine⟨_,rfl,?_⟩;replace BK289:=mk0 (kK BK289.out hb);replace BK290:=mk0 (kK BK290.out hb);replace HB:=mk0 (kS HB.out hb);(try clear hb);have hcz33_0:w32.cell? ⟨gb289,0,none⟩ = some (.int .i64 a1):=(blk_cell BK289.out 0).trans rfl;have hfz33_0:=blk_frozen BK289.out 0))
   go_loopg [7,8,43] kj2 (fun kq v7 v8 v43 w'=>∃ (x7_2:List Int) (x8_2:List Int) (x43_2:Int),v43 = .int .i64 x43_2 ∧ Aside0 (impl_SparseOf.l0 kq l0 t294 x7_2 x8_2 l0 (l0.length:Int) x43_2 a1 = some (r1,r2,r3,r4,r5,r6,r7,r8,r9)) ∧ Aside0 (kq ≤ kj2) ∧ Aside0 (Kd.R (Kd.int .i64) 3 w' w.heap.size (fun k_=>some k_ ≠ (v8:Value).ownBlock ∧ k_ ≠ gb289) v7 x7_2) ∧ Aside0 (Kd.R (Kd.int .i64) 3 w' w.heap.size (fun k_=>some k_ ≠ (v7:Value).ownBlock ∧ k_ ≠ gb289) v8 x8_2) ∧ Aside0 (w'.heap[gb289]? = some (.cells #[.int .i64 a1] 3 (0,0))) ∧ Aside0 (w'.heap[gb290]? = some (.cells #[.int .i64 0,.int .i64 0,.int .i64 0,.int .i64 0,.int .i64 0,(.slice none 0 0),.int .i64 0,(.slice none 0 0)] 33 (0,0))) ∧ Aside0 (Below w.heap.size w w'))
   case atStart=>exact⟨(([]:List Int)),(([]:List Int)),(0),(by first|rfl|(simp;done)|(simp [*];done)),H',⟨Nat.le_refl _⟩,⟨by first|exact Kd.R_nil _ _ _ _ _|exact Kd.N_nil _ _ _ _ _|exact Kd.V_nil _ _ _ _ _|exact Kd.Q_nil _ _ _ _ _|exact Kd.S_nil _ _ _ _ _⟩,⟨by first|exact Kd.R_nil _ _ _ _ _|exact Kd.N_nil _ _ _ _ _|exact Kd.V_nil _ _ _ _ _|exact Kd.Q_nil _ _ _ _ _|exact Kd.S_nil _ _ _ _ _⟩,⟨kN BK289.out⟩,⟨kN BK290.out⟩,⟨kB HB.out⟩⟩
   case round =>
    clear H'
    try clear c1
    try clear c2
    try clear p2
    try clear c3
    try clear p6
    try clear c7
    try clear c9
    try clear c10
    try clear c11
    try clear c14
    try clear c16
    try clear c18
    try clear c19
    try clear c22
    try clear c22b0
    try clear c22b1
    try clear c24
    try clear c24b0
    try clear c25
    try clear c30
    try clear c31
    try clear hcz12_0
    try clear hcz15_0
    try clear hcz17_0
    try clear hcz20_0
    try clear hcz20_1
    try clear hcz20_2
    try clear hcz20_3
    try clear hcz20_4
    try clear hcz20_5
    try clear hcz20_6
    try clear hcz20_7
    try clear hcz26_0
    try clear hcz28_0
    try clear hcz29_0
    try clear hcz29_1
    try clear hcz29_2
    try clear hcz29_3
    try clear hcz29_4
    try clear hcz29_5
    try clear hcz29_6
    try clear hcz29_7
    try clear hcz31_0
    try clear hcz33_0
    try clear hfz12_0
    try clear hfz15_0
    try clear hfz17_0
    try clear hfz20_0
    try clear hfz20_1
    try clear hfz20_2
    try clear hfz20_3
    try clear hfz20_4
    try clear hfz20_5
    try clear hfz20_6
    try clear hfz20_7
    try clear hfz26_0
    try clear hfz28_0
    try clear hfz29_0
    try clear hfz29_1
    try clear hfz29_2
    try clear hfz29_3
    try clear hfz29_4
    try clear hfz29_5
    try clear hfz29_6
    try clear hfz29_7
    try clear hfz31_0
    try clear hfz33_0
    try clear p2
    obtain⟨x7_2,x8_2,x43_2,rfl,HA,HK2,HO_7,HO_8,BK289,BK290,HB⟩:=hrel
    cases gk with
    | zero=>exact absurd HA.out (by simp [impl_SparseOf.l0])
    | succ k2 =>
     have H:=HA.out
     clear HA
     simp only [impl_SparseOf.l0] at H
     by_cases c34:x43_2 < (l0.length:Int)
     rotate_left
     ·rw [if_neg c34] at H
      have c34b0:decide (x43_2 < (l0.length:Int)) = false:=decide_eq_false c34
      clear c34
      have H':=mk0 H
      clear H
      go_wp2
      go_loopg [8] k2 (fun kq v8 w'=>∃ (x8_3:List Int),Aside0 (impl_SparseOf.l2 kq l0 t294 x7_2 x8_3 a1 = some (r1,r2,r3,r4,r5,r6,r7,r8,r9)) ∧ Aside0 (kq ≤ k2) ∧ Aside0 (Kd.R (Kd.int .i64) 3 w' w.heap.size (fun k_=>some k_ ≠ (v8:Value).ownBlock ∧ k_ ≠ gb289) u7 x7_2) ∧ Aside0 (Kd.R (Kd.int .i64) 3 w' w.heap.size (fun k_=>some k_ ≠ (u7:Value).ownBlock ∧ k_ ≠ gb289) v8 x8_3) ∧ Aside0 (w'.heap[gb289]? = some (.cells #[.int .i64 a1] 3 (0,0))) ∧ Aside0 (w'.heap[gb290]? = some (.cells #[.int .i64 0,.int .i64 0,.int .i64 0,.int .i64 0,.int .i64 0,(.slice none 0 0),.int .i64 0,(.slice none 0 0)] 33 (0,0))) ∧ Aside0 (Below w.heap.size w w'))
      case atStart=>exact⟨(x8_2),H',⟨Nat.le_refl _⟩,⟨rR HO_7.out⟩,⟨rR HO_8.out⟩,⟨kN BK289.out⟩,⟨kN BK290.out⟩,⟨kB HB.out⟩⟩
      case round =>
       clear H'
       try clear p2
       try clear q2
       try clear hx2
       try clear c3
       try clear c4
       try clear c5
       try clear p6
       try clear p29
       try clear q29
       try clear hx29
       try clear c34
       try clear c34b0
       try clear c35
       try clear c36
       try clear c37
       try clear c37b0
       try clear c37b1
       try clear c39
       try clear c39b0
       try clear c40
       try clear c47
       try clear c48
       try clear c48b0
       try clear c50
       try clear hcz29_4
       try clear hcz29_5
       try clear hcz29_6
       try clear hcz29_7
       try clear hcz31_0
       try clear hcz33_0
       try clear hfz12_0
       try clear hfz15_0
       try clear hfz17_0
       try clear hfz20_0
       try clear hfz20_1
       try clear hfz20_2
       try clear hfz20_3
       try clear hfz20_4
       try clear hfz20_5
       try clear hfz20_6
       try clear hfz20_7
       try clear hfz26_0
       try clear hfz28_0
       try clear hfz29_0
       try clear hfz29_1
       try clear hfz29_2
       try clear hfz29_3
       try clear hfz29_4
       try clear hfz29_5
       try clear hfz29_6
       try clear hfz29_7
       try clear hfz31_0
       try clear hfz33_0
       try clear hx295_0
       try clear p2
       try clear p295
       try clear p6
       try clear q295
       obtain⟨x8_3,HA,HK3,HO_7,HO_8,BK289,BK290,HB⟩:=hrel
       cases gk with
       | zero=>exact absurd HA.out (by simp [impl_SparseOf.l2])
       | succ k3 =>
        have H:=HA.out
        clear HA
        simp only [impl_SparseOf.l2] at H
        by_cases c63:0 ≤ t294
        rotate_left
        ·rw [if_neg c63] at H
         exact absurd H (by simp)
        rw [if_pos c63] at H
        have c63b0:=eq_true c63
        have c63b1:decide (0 ≤ t294) = true:=decide_eq_true c63
        clear c63
        try clear hji23_
        try clear hji23z
        try clear hji23w
        try clear hji23
        obtain⟨ji64,hji64⟩:∃ j_:Int,(shr .i64 a1 t294) = j_:=⟨_,rfl⟩
        replace H:(if (wrap64 ((x8_3.length:Int) - (x7_2.length:Int))) ≤ (ji64) then ((some (([0]:List Int):List Int)).bind fun y314=>(if x8_3.length + y314.length < 17592186044416 then (impl_SparseOf.l2 k3 l0 t294 x7_2 (x8_3 ++ y314) a1) else (none))) else ((impl_PackOf.f k3 x7_2 t294).bind fun bt320=>(if bt320.2.2.2.2 = true then ((impl_bitsOf.f k3 x8_3).bind fun bt328=>(some (a1,(l0.length:Int),bt320.1,bt320.2.1,bt320.2.2.1,bt320.2.2.2.1,bt328.1,bt328.2,true))) else (some (0,0,0,0,0,([]:List Int),0,([]:List Int),false))))) = some (r1,r2,r3,r4,r5,r6,r7,r8,r9):=by first|(rw [hji64] at H;exact H)|(simp only [hji64] at H ⊢;exact H)
        have hji64_:(a1 / 2 ^ min t294.toNat 64) = ji64:=hji64
        have hji64z:t294 ≤ 64 → (a1 / 2 ^ t294.toNat) = ji64:=shr_small hji64
        by_cases c65:(wrap64 ((x8_3.length:Int) - (x7_2.length:Int))) ≤ (ji64)
        ·rw [if_pos c65] at H
         have c65b0:decide ((wrap64 ((x8_3.length:Int) - (x7_2.length:Int))) ≤ (ji64)) = true:=decide_eq_true c65
         clear c65
         obtain⟨y314,hy314⟩:∃ y_:List Int,y_ = (([0]:List Int)):=⟨_,rfl⟩
         replace H:(if x8_3.length + y314.length < 17592186044416 then (impl_SparseOf.l2 k3 l0 t294 x7_2 (x8_3 ++ y314) a1) else (none)) = some (r1,r2,r3,r4,r5,r6,r7,r8,r9):=by first|(rw [hy314];with_reducible exact H)|(have H2_:=(Option.bind_some _ _).symm.trans H;rw [hy314];with_reducible exact H2_)|(have H2_:=(Option.bind_some _ _).symm.trans H;with_reducible exact H2_)|with_reducible exact H|(rw [hy314];exact H)|exact H
         have Ny314:=mk0 hy314
         clear hy314
         by_cases c66:x8_3.length + y314.length < 17592186044416
         rotate_left
         ·rw [if_neg c66] at H
          exact absurd H (by simp)
         rw [if_pos c66] at H
         have LMc66:=mk0 c66
         clear c66
         obtain⟨y317,hy317⟩:∃ y_:List Int,y_ = (x8_3 ++ y314):=⟨_,rfl⟩
         replace H:(impl_SparseOf.l2 k3 l0 t294 x7_2 y317 a1) = some (r1,r2,r3,r4,r5,r6,r7,r8,r9):=by first|(rw [hy317];with_reducible exact H)|(have H2_:=(Option.bind_some _ _).symm.trans H;rw [hy317];with_reducible exact H2_)|(have H2_:=(Option.bind_some _ _).symm.trans H;with_reducible exact H2_)|with_reducible exact H|(rw [hy317];exact H)|exact H
         have Ny317:=mk0 hy317
         clear hy317
         have H':=mk0 H
         clear H
         obtain⟨Ao67,co67,eo67⟩:=Kd.R_slice HO_8.out
         subst eo67
         obtain⟨Ao68,co68,eo68⟩:=Kd.R_slice HO_7.out
         subst eo68
         have hnb69:=NB289_290.out
         have hnc69:=NB290_289.out
         have hcz70_0:wr.cell? ⟨gb289,0,none⟩ = some (.int .i64 a1):=(blk_cell BK289.out 0).trans rfl
         have hfz70_0:=blk_frozen BK289.out 0
         go_wp2_with (first|((with_reducible refine gate_dst (N:=81) rfl ?_);refine Kd.R_lit (Kd.int .i64) _ 3 ?hg (N:=81) ?hd (xs:=([0]:List Int)) (inner:=[.int .i64 0]) (ok:=fun _=>True) (okp:=fun _=>True) ?hr ?hp (fun _ hk=>hk) trivial (Below.refl _ _) (Nat.le_refl _) (by simp) ?_;(case hd=>rfl);(case hg=>rfl);(case hr=>first|(go_simp;done)|(go_simp;rfl));(case hp=>exact (Reps.one (show Kd.M (Kd.int .i64) _ _ _ 0 [.int .i64 0] from rfl) (Reps.none _ _)));intro v315 w71 ho72 hb hg_ hnew_;clear hg_ hnew_;(first|rw [← Ny314.out] at ho72|(simp only [Int.reduceToNat] at ho72;rw [← Ny314.out] at ho72));have HO316:=mk0 (Kd.R_lower (Kd.R_newB (Kd.R_new' (Kd.R_new' ho72 (Kd.R_lt (rR HO_7.out))) (Kd.R_lt (rR HO_8.out))) (g:=gb289) (o:=.cells #[.int .i64 a1] 3 (0,0)) (kN BK289.out)) (kZ HB.out));replace HO_7:=mk0 (Kd.R_elder' (rR HO_7.out) (Kd.R_base ho72) hb);replace HO_8:=mk0 (Kd.R_elder' (rR HO_8.out) (Kd.R_base ho72) hb);replace BK289:=mk0 (kK BK289.out hb);replace BK290:=mk0 (kK BK290.out hb);replace HB:=mk0 (kS HB.out hb);clear hb ho72;obtain⟨Ao74,co74,eo74⟩:=Kd.R_slice HO316.out;subst eo74)|((with_reducible refine gate_builtin (b:=.append) (xs:=#[.tmp 80,.tmp 81]) rfl ?_);at_builtin;refine Kd.R_append_rows (Kd.int .i64) (w0:=w) w.heap.size rfl (.tmp 80) (.tmp 81) 24 3 (.int .i64 0) 8 rfl Try.underlying24 info3 rfl (by decide) (by omega) (.slice Ao67 x8_3.length co67) x8_3 y314 _ _ _ (fun k_=>some k_ ≠ (.slice Ao68 x7_2.length co68:Value).ownBlock ∧ some k_ ≠ (.slice Ao74 y314.length co74:Value).ownBlock ∧ k_ ≠ gb289) (fun _=>False) rfl rfl ?aO ?aR (fun _ _ h=>h) (fun _ h=>h.elim) ?aF ?aB ?aS ?aL ?_;(case aR=>repeat (first|exact (Kd.R_reads' HO316.out).2.2|(with_reducible first|apply aC|apply nC|apply dC)));(case aB=>exact (kB HB.out));(case aF=>exact (fun k_ hk=>⟨Kd.fresh' (Kd.R_lt (rR HO_7.out)) k_ hk,Kd.fresh' (Kd.R_lt (rR HO316.out)) k_ hk,Kd.freshB (g:=gb289) (o:=.cells #[.int .i64 a1] 3 (0,0)) (kN BK289.out) k_ hk⟩));(case aO=>exact (rR (Kd.R_mono HO_8.out (fun _ hk=>⟨hk.1.1,⟨hk.2,hk.1.2⟩⟩))));(case aS=>exact (kZ HB.out));(case aL=>have:=LMc66.out;omega);intro v318 w73 ho hb hg hat;rw [← Ny317.out] at ho;replace HO_7:=mk0 (Kd.R_after (ok:=(fun k_=>some k_ ≠ (.slice Ao74 y314.length co74:Value).ownBlock ∧ k_ ≠ gb289)) (rR (Kd.R_mono HO_7.out (fun _ hk=>⟨⟨hk.2,hk.1.2⟩,hk.1.1⟩))) hg hat);replace BK289:=mk0 (blk_grown (kN BK289.out) hg (Kd.R_away HO_8.out (fun _ hk=>hk.1.2)));replace BK290:=mk0 (blk_grown (kN BK290.out) hg (Kd.R_ne HO_8.out BK290.out (by decide)));replace HO316:=mk0 (Kd.R_after (ok:=(fun k_=>some k_ ≠ (.slice Ao68 x7_2.length co68:Value).ownBlock ∧ k_ ≠ gb289)) (rR (Kd.R_mono HO316.out (fun _ hk=>⟨⟨hk.1.1.2,hk.2⟩,hk.1.2⟩))) hg hat);replace HB:=mk0 (hb);have HO319:=mk0 (ho);clear HO_8 ho hb hg hat))
         go_roundg k3
         case measure=>have:=HJ2.out;have:=HK2.out;have:=HK3.out;omega
         case rel=>exact⟨(y317),H',⟨by have:=HJ2.out;have:=HK2.out;have:=HK3.out;omega⟩,⟨rR (Kd.R_mono HO_7.out (fun _ hk=>⟨hk.2,hk.1.2⟩))⟩,⟨rR (Kd.R_mono HO319.out (fun _ hk=>⟨hk.1,hk.2.2⟩))⟩,⟨kN BK289.out⟩,⟨kN BK290.out⟩,⟨kB HB.out⟩⟩
        rw [if_neg c65] at H
        have c65b0:decide ((wrap64 ((x8_3.length:Int) - (x7_2.length:Int))) ≤ (ji64)) = false:=decide_eq_false c65
        clear c65
        replace H:=Option.bind_eq_some_iff.mp H
        obtain⟨⟨t320,t321,t322,t323,t326⟩,A750,H⟩:=H
        replace H:(if t326 = true then ((impl_bitsOf.f k3 x8_3).bind fun bt328=>(some (a1,(l0.length:Int),t320,t321,t322,t323,bt328.1,bt328.2,true))) else (some (0,0,0,0,0,([]:List Int),0,([]:List Int),false))) = some (r1,r2,r3,r4,r5,r6,r7,r8,r9):=H
        have A75:=mk0 A750
        clear A750
        by_cases c76:t326 = true
        rotate_left
        ·replace c76:=Bool.eq_false_iff.mpr c76
         subst c76
         have H1:(some (0,0,0,0,0,([]:List Int),0,([]:List Int),false)) = some (r1,r2,r3,r4,r5,r6,r7,r8,r9):=by rw [if_neg (show ¬ (false = true) by decide)] at H;exact H
         clear H
         have H:=H1
         clear H1
         simp only [Option.some.injEq,Prod.mk.injEq] at H
         obtain⟨rfl,rfl,rfl,rfl,rfl,rfl,rfl,rfl,rfl⟩:=H
         obtain⟨Ao100,co100,eo100⟩:=Kd.R_slice HO_8.out
         subst eo100
         obtain⟨Ao101,co101,eo101⟩:=Kd.R_slice HO_7.out
         subst eo101
         have hnb102:=NB289_290.out
         have hnc102:=NB290_289.out
         have hcz103_0:wr.cell? ⟨gb289,0,none⟩ = some (.int .i64 a1):=(blk_cell BK289.out 0).trans rfl
         have hfz103_0:=blk_frozen BK289.out 0
         go_wp2_with (first|((with_reducible refine gate_callee (f:=36) rfl ?_);refine goesL_ (some 86) rfl rfl Try.func36 (by kernel_rfl) rfl #[.slice Ao101 x7_2.length co101,.int .i64 t294] rfl (by (try simp only [mA,mC,mN]);first|done|rfl|(simp only [List.length_drop,List.length_take];done)|(simp only [List.length_drop,List.length_take];rfl)) ?_;(with_reducible refine (impl_PackOf.calls k3 _ _ x7_2 t294 t320 t321 t322 t323 false _ ?side1 ?side2 A75.out).mono ?_);(case side1=>exact kC (Kd.R_reads' HO_7.out).2.2);(case side2=>exact (Kd.R_reads' HO_7.out).2.1);rintro e w104 ⟨v324,rfl,ho0,hb⟩;refine⟨_,rfl,?_⟩;replace HO_7:=mk0 (bR HO_7.out hb);replace HO_8:=mk0 (bR HO_8.out hb);have HO325:=mk0 (Kd.R_lower ho0 (kZ HB.out));replace BK289:=mk0 (kK BK289.out hb);replace BK290:=mk0 (kK BK290.out hb);replace HB:=mk0 (kS HB.out hb);(try clear hb);(try clear ho0))|((with_reducible refine gate_dst (N:=11) rfl ?_);refine box_event ?hg (N:=11) ?hd (cs:=#[.int .i64 0,.int .i64 0,.int .i64 0,.slice none 0 0]) (t:=31) ?hr ?_;(case hd=>rfl);(case hg=>rfl);(case hr=>first|(go_simp;done)|(go_simp;rfl));intro gb327 hg w105 hbox hb;replace HO_7:=mk0 (bR HO_7.out hb);replace HO_8:=mk0 (bR HO_8.out hb);replace HO325:=mk0 (bR HO325.out hb);have BK327:=mk0 (hbox);have GW327:=mk0 ((by rw [hg];exact (kZ HB.out):w.heap.size ≤ gb327));have GE327:=mk0 ((by rw [hg];exact (kZ HB.out):w.heap.size ≤ gb327));replace HB:=mk0 (kS HB.out hb);have NB289_327:=mk0 ((by rw [hg];exact Nat.ne_of_lt (kL BK289.out):gb289 ≠ gb327));have NB327_289:=mk0 ((by rw [hg];exact Nat.ne_of_gt (kL BK289.out):gb327 ≠ gb289));replace BK289:=mk0 (kK BK289.out hb);have NB290_327:=mk0 ((by rw [hg];exact Nat.ne_of_lt (kL BK290.out):gb290 ≠ gb327));have NB327_290:=mk0 ((by rw [hg];exact Nat.ne_of_gt (kL BK290.out):gb327 ≠ gb290));replace BK290:=mk0 (kK BK290.out hb);clear hb hbox hg;have hnb106:=NB327_289.out;have hnc106:=NB289_327.out;have hnb107:=NB327_290.out;have hnc107:=NB290_327.out;obtain⟨hcz108_0,hcz108_1,hcz108_2,hcz108_3,hfz108_0,hfz108_1,hfz108_2,hfz108_3⟩:=cz4 BK327.out;obtain⟨Ao109,co109,eo109⟩:=Kd.R_slice HO325.out;subst eo109;obtain⟨hcz110_0,hcz110_1,hcz110_2,hcz110_3,hcz110_4,hcz110_5,hcz110_6,hcz110_7,hfz110_0,hfz110_1,hfz110_2,hfz110_3,hfz110_4,hfz110_5,hfz110_6,hfz110_7⟩:=cz8 BK290.out))
         refine bodyPost_ret (results_ct rfl _ _ gb290 33 #[.int .i64 0,.int .i64 0,.int .i64 0,.int .i64 0,.int .i64 0,.slice none 0 0,.int .i64 0,.slice none 0 0] (0,0) _ rfl (by (with_reducible repeat (first|apply nB|apply dB|apply aB));refine blk_put (cs:=#[.int .i64 0,.int .i64 0,.int .i64 0,.int .i64 0,.int .i64 0,.slice none 0 0,.int .i64 0,.slice none 0 0]) ?_ 7 _ rfl;(with_reducible repeat (first|apply nB|apply dB|apply aB));refine blk_put (cs:=#[.int .i64 0,.int .i64 0,.int .i64 0,.int .i64 0,.int .i64 0,.slice none 0 0,.int .i64 0,.slice none 0 0]) ?_ 6 _ rfl;(with_reducible repeat (first|apply nB|apply dB|apply aB));refine blk_put (cs:=#[.int .i64 0,.int .i64 0,.int .i64 0,.int .i64 0,.int .i64 0,.slice none 0 0,.int .i64 0,.slice none 0 0]) ?_ 5 _ rfl;(with_reducible repeat (first|apply nB|apply dB|apply aB));refine blk_put (cs:=#[.int .i64 0,.int .i64 0,.int .i64 0,.int .i64 0,.int .i64 0,.slice none 0 0,.int .i64 0,.slice none 0 0]) ?_ 4 _ rfl;(with_reducible repeat (first|apply nB|apply dB|apply aB));refine blk_put (cs:=#[.int .i64 0,.int .i64 0,.int .i64 0,.int .i64 0,.int .i64 0,.slice none 0 0,.int .i64 0,.slice none 0 0]) ?_ 3 _ rfl;(with_reducible repeat (first|apply nB|apply dB|apply aB));refine blk_put (cs:=#[.int .i64 0,.int .i64 0,.int .i64 0,.int .i64 0,.int .i64 0,.slice none 0 0,.int .i64 0,.slice none 0 0]) ?_ 2 _ rfl;(with_reducible repeat (first|apply nB|apply dB|apply aB));refine blk_put (cs:=#[.int .i64 0,.int .i64 0,.int .i64 0,.int .i64 0,.int .i64 0,.slice none 0 0,.int .i64 0,.slice none 0 0]) ?_ 1 _ rfl;(with_reducible repeat (first|apply nB|apply dB|apply aB));refine blk_put (cs:=#[.int .i64 0,.int .i64 0,.int .i64 0,.int .i64 0,.int .i64 0,.slice none 0 0,.int .i64 0,.slice none 0 0]) ?_ 0 _ rfl;(with_reducible repeat (first|apply nB|apply dB|apply aB));refine blk_far ?_ NB290_327.out _;(with_reducible repeat (first|apply nB|apply dB|apply aB));refine blk_far ?_ NB290_327.out _;(with_reducible repeat (first|apply nB|apply dB|apply aB));refine blk_far ?_ NB290_327.out _;(with_reducible repeat (first|apply nB|apply dB|apply aB));refine blk_far ?_ NB290_327.out _;(with_reducible repeat (first|apply nB|apply dB|apply aB));exact BK290.out) Try.underlying33 rfl (by kernel_rfl)) rfl ?_
         exact⟨_,_,by first|rfl|(simp [errW_none,errW_some] <;> rfl)|(simp only [← hji23, ← hji64];first|rfl|(simp [errW_none,errW_some] <;> rfl))|(simp [*,errW_none,errW_some] <;> rfl),by first|exact Kd.R_nil _ _ _ _ _|exact Kd.N_nil _ _ _ _ _|exact Kd.V_nil _ _ _ _ _|exact Kd.Q_nil _ _ _ _ _|exact Kd.S_nil _ _ _ _ _,by first|exact Kd.R_nil _ _ _ _ _|exact Kd.N_nil _ _ _ _ _|exact Kd.V_nil _ _ _ _ _|exact Kd.Q_nil _ _ _ _ _|exact Kd.S_nil _ _ _ _ _,kB HB.out⟩
        subst c76
        have H1:((impl_bitsOf.f k3 x8_3).bind fun bt328=>(some (a1,(l0.length:Int),t320,t321,t322,t323,bt328.1,bt328.2,true))) = some (r1,r2,r3,r4,r5,r6,r7,r8,r9):=by rw [if_pos rfl] at H;exact H
        clear H
        have H:=H1
        clear H1
        replace H:=Option.bind_eq_some_iff.mp H
        obtain⟨⟨t328,t329⟩,A770,H⟩:=H
        replace H:(some (a1,(l0.length:Int),t320,t321,t322,t323,t328,t329,true)) = some (r1,r2,r3,r4,r5,r6,r7,r8,r9):=H
        have A77:=mk0 A770
        clear A770
        simp only [Option.some.injEq,Prod.mk.injEq] at H
        obtain⟨rfl,rfl,rfl,rfl,rfl,rfl,rfl,rfl,rfl⟩:=H
        obtain⟨Ao78,co78,eo78⟩:=Kd.R_slice HO_8.out
        subst eo78
        obtain⟨Ao79,co79,eo79⟩:=Kd.R_slice HO_7.out
        subst eo79
        have hnb80:=NB289_290.out
        have hnc80:=NB290_289.out
        have hcz81_0:wr.cell? ⟨gb289,0,none⟩ = some (.int .i64 a1):=(blk_cell BK289.out 0).trans rfl
        have hfz81_0:=blk_frozen BK289.out 0
        try go_wp2_with (first|((with_reducible refine gate_callee (f:=36) rfl ?_);refine goesL_ (some 86) rfl rfl Try.func36 (by kernel_rfl) rfl #[.slice Ao79 x7_2.length co79,.int .i64 t294] rfl (by (try simp only [mA,mC,mN]);first|done|rfl|(simp only [List.length_drop,List.length_take];done)|(simp only [List.length_drop,List.length_take];rfl)) ?_;(with_reducible refine (impl_PackOf.calls k3 _ _ x7_2 t294 t320 t321 t322 t323 true _ ?side1 ?side2 A75.out).mono ?_);(case side1=>exact kC (Kd.R_reads' HO_7.out).2.2);(case side2=>exact (Kd.R_reads' HO_7.out).2.1);rintro e w82 ⟨v324,rfl,ho0,hb⟩;refine⟨_,rfl,?_⟩;replace HO_7:=mk0 (bR HO_7.out hb);replace HO_8:=mk0 (bR HO_8.out hb);have HO325:=mk0 (Kd.R_lower ho0 (kZ HB.out));replace BK289:=mk0 (kK BK289.out hb);replace BK290:=mk0 (kK BK290.out hb);replace HB:=mk0 (kS HB.out hb);(try clear hb);(try clear ho0))|((with_reducible refine gate_dst (N:=11) rfl ?_);refine box_event ?hg (N:=11) ?hd (cs:=#[.int .i64 0,.int .i64 0,.int .i64 0,.slice none 0 0]) (t:=31) ?hr ?_;(case hd=>rfl);(case hg=>rfl);(case hr=>first|(go_simp;done)|(go_simp;rfl));intro gb327 hg w83 hbox hb;replace HO_7:=mk0 (bR HO_7.out hb);replace HO_8:=mk0 (bR HO_8.out hb);replace HO325:=mk0 (bR HO325.out hb);have BK327:=mk0 (hbox);have GW327:=mk0 ((by rw [hg];exact (kZ HB.out):w.heap.size ≤ gb327));have GE327:=mk0 ((by rw [hg];exact (kZ HB.out):w.heap.size ≤ gb327));replace HB:=mk0 (kS HB.out hb);have NB289_327:=mk0 ((by rw [hg];exact Nat.ne_of_lt (kL BK289.out):gb289 ≠ gb327));have NB327_289:=mk0 ((by rw [hg];exact Nat.ne_of_gt (kL BK289.out):gb327 ≠ gb289));replace BK289:=mk0 (kK BK289.out hb);have NB290_327:=mk0 ((by rw [hg];exact Nat.ne_of_lt (kL BK290.out):gb290 ≠ gb327));have NB327_290:=mk0 ((by rw [hg];exact Nat.ne_of_gt (kL BK290.out):gb327 ≠ gb290));replace BK290:=mk0 (kK BK290.out hb);clear hb hbox hg;have hnb84:=NB327_289.out;have hnc84:=NB289_327.out;have hnb85:=NB327_290.out;have hnc85:=NB290_327.out;obtain⟨hcz86_0,hcz86_1,hcz86_2,hcz86_3,hfz86_0,hfz86_1,hfz86_2,hfz86_3⟩:=cz4 BK327.out;obtain⟨Ao87,co87,eo87⟩:=Kd.R_slice HO325.out;subst eo87))
        have n0_:Aside0 (Kd.R (Kd.int .i64) 3 ((((w83.setCell ⟨gb327,0,none⟩ (.int .i64 t320)).setCell ⟨gb327,1,none⟩ (.int .i64 t321)).setCell ⟨gb327,2,none⟩ (.int .i64 t322)).setCell ⟨gb327,3,none⟩ (.slice Ao87 t323.length co87)) w.heap.size (fun k_=>some k_ ≠ (.slice Ao78 x8_3.length co78:Value).ownBlock ∧ k_ ≠ gb289) (.slice Ao79 x7_2.length co79) x7_2):=⟨by (with_reducible repeat (first|apply aR|apply nR|apply dR));exact Kd.R_mono (Kd.R_far (p:=⟨gb327,3,none⟩) (Kd.R_far (p:=⟨gb327,2,none⟩) (Kd.R_far (p:=⟨gb327,1,none⟩) (Kd.R_far (p:=⟨gb327,0,none⟩) (Kd.R_types HO_7.out BK327.out (by decide)) (fun _ hk=>hk.2) (.int .i64 t320)) (fun _ hk=>hk.2) (.int .i64 t321)) (fun _ hk=>hk.2) (.int .i64 t322)) (fun _ hk=>hk.2) (.slice Ao87 t323.length co87)) (fun _ hk=>⟨hk.1.1,hk.1.2⟩)⟩
        have n1_:Aside0 (Kd.R (Kd.int .i64) 3 ((((w83.setCell ⟨gb327,0,none⟩ (.int .i64 t320)).setCell ⟨gb327,1,none⟩ (.int .i64 t321)).setCell ⟨gb327,2,none⟩ (.int .i64 t322)).setCell ⟨gb327,3,none⟩ (.slice Ao87 t323.length co87)) w.heap.size (fun k_=>some k_ ≠ (.slice Ao79 x7_2.length co79:Value).ownBlock ∧ k_ ≠ gb289) (.slice Ao78 x8_3.length co78) x8_3):=⟨by (with_reducible repeat (first|apply aR|apply nR|apply dR));exact Kd.R_mono (Kd.R_far (p:=⟨gb327,3,none⟩) (Kd.R_far (p:=⟨gb327,2,none⟩) (Kd.R_far (p:=⟨gb327,1,none⟩) (Kd.R_far (p:=⟨gb327,0,none⟩) (Kd.R_types HO_8.out BK327.out (by decide)) (fun _ hk=>hk.2) (.int .i64 t320)) (fun _ hk=>hk.2) (.int .i64 t321)) (fun _ hk=>hk.2) (.int .i64 t322)) (fun _ hk=>hk.2) (.slice Ao87 t323.length co87)) (fun _ hk=>⟨hk.1.1,hk.1.2⟩)⟩
        have n2_:Aside0 (Kd.R (Kd.int .u64) 78 ((((w83.setCell ⟨gb327,0,none⟩ (.int .i64 t320)).setCell ⟨gb327,1,none⟩ (.int .i64 t321)).setCell ⟨gb327,2,none⟩ (.int .i64 t322)).setCell ⟨gb327,3,none⟩ (.slice Ao87 t323.length co87)) w.heap.size (fun _=>True) (.slice Ao87 t323.length co87) t323):=⟨by (with_reducible repeat (first|apply aR|apply nR|apply dR));exact Kd.R_mono (Kd.R_far (p:=⟨gb327,3,none⟩) (Kd.R_far (p:=⟨gb327,2,none⟩) (Kd.R_far (p:=⟨gb327,1,none⟩) (Kd.R_far (p:=⟨gb327,0,none⟩) (Kd.R_types HO325.out BK327.out (by decide)) (fun _ hk=>hk.2) (.int .i64 t320)) (fun _ hk=>hk.2) (.int .i64 t321)) (fun _ hk=>hk.2) (.int .i64 t322)) (fun _ hk=>hk.2) (.slice Ao87 t323.length co87)) (fun _ hk=>trivial)⟩
        have n3_:Aside0 (((((w83.setCell ⟨gb327,0,none⟩ (.int .i64 t320)).setCell ⟨gb327,1,none⟩ (.int .i64 t321)).setCell ⟨gb327,2,none⟩ (.int .i64 t322)).setCell ⟨gb327,3,none⟩ (.slice Ao87 t323.length co87)).heap[gb289]? = some (.cells #[.int .i64 a1] 3 (0,0))):=⟨by (with_reducible repeat (first|apply nB|apply dB|apply aB));refine blk_far ?_ NB289_327.out _;(with_reducible repeat (first|apply nB|apply dB|apply aB));refine blk_far ?_ NB289_327.out _;(with_reducible repeat (first|apply nB|apply dB|apply aB));refine blk_far ?_ NB289_327.out _;(with_reducible repeat (first|apply nB|apply dB|apply aB));refine blk_far ?_ NB289_327.out _;(with_reducible repeat (first|apply nB|apply dB|apply aB));exact BK289.out⟩
        have n4_:Aside0 (((((w83.setCell ⟨gb327,0,none⟩ (.int .i64 t320)).setCell ⟨gb327,1,none⟩ (.int .i64 t321)).setCell ⟨gb327,2,none⟩ (.int .i64 t322)).setCell ⟨gb327,3,none⟩ (.slice Ao87 t323.length co87)).heap[gb290]? = some (.cells #[.int .i64 0,.int .i64 0,.int .i64 0,.int .i64 0,.int .i64 0,.slice none 0 0,.int .i64 0,.slice none 0 0] 33 (0,0))):=⟨by (with_reducible repeat (first|apply nB|apply dB|apply aB));refine blk_far ?_ NB290_327.out _;(with_reducible repeat (first|apply nB|apply dB|apply aB));refine blk_far ?_ NB290_327.out _;(with_reducible repeat (first|apply nB|apply dB|apply aB));refine blk_far ?_ NB290_327.out _;(with_reducible repeat (first|apply nB|apply dB|apply aB));refine blk_far ?_ NB290_327.out _;(with_reducible repeat (first|apply nB|apply dB|apply aB));exact BK290.out⟩
        have n5_:Aside0 (((((w83.setCell ⟨gb327,0,none⟩ (.int .i64 t320)).setCell ⟨gb327,1,none⟩ (.int .i64 t321)).setCell ⟨gb327,2,none⟩ (.int .i64 t322)).setCell ⟨gb327,3,none⟩ (.slice Ao87 t323.length co87)).heap[gb327]? = some (.cells #[.int .i64 t320,.int .i64 t321,.int .i64 t322,.slice Ao87 t323.length co87] 31 (0,0))):=⟨by (with_reducible repeat (first|apply nB|apply dB|apply aB));refine blk_put (cs:=#[.int .i64 t320,.int .i64 t321,.int .i64 t322,.slice none 0 0]) ?_ 3 _ rfl;(with_reducible repeat (first|apply nB|apply dB|apply aB));refine blk_put (cs:=#[.int .i64 t320,.int .i64 t321,.int .i64 0,.slice none 0 0]) ?_ 2 _ rfl;(with_reducible repeat (first|apply nB|apply dB|apply aB));refine blk_put (cs:=#[.int .i64 t320,.int .i64 0,.int .i64 0,.slice none 0 0]) ?_ 1 _ rfl;(with_reducible repeat (first|apply nB|apply dB|apply aB));refine blk_put (cs:=#[.int .i64 0,.int .i64 0,.int .i64 0,.slice none 0 0]) ?_ 0 _ rfl;(with_reducible repeat (first|apply nB|apply dB|apply aB));exact BK327.out⟩
        have n6_:Aside0 (Below w.heap.size w ((((w83.setCell ⟨gb327,0,none⟩ (.int .i64 t320)).setCell ⟨gb327,1,none⟩ (.int .i64 t321)).setCell ⟨gb327,2,none⟩ (.int .i64 t322)).setCell ⟨gb327,3,none⟩ (.slice Ao87 t323.length co87))):=⟨kB HB.out⟩
        (try clear HO_7)
        (try clear HO_8)
        (try clear HO325)
        (try clear BK289)
        (try clear BK290)
        (try clear BK327)
        (try clear HB)
        generalize ((((w83.setCell ⟨gb327,0,none⟩ (.int .i64 t320)).setCell ⟨gb327,1,none⟩ (.int .i64 t321)).setCell ⟨gb327,2,none⟩ (.int .i64 t322)).setCell ⟨gb327,3,none⟩ (.slice Ao87 t323.length co87)) = w88 at n0_ n1_ n2_ n3_ n4_ n5_ n6_ ⊢
        have HO_7:=n0_
        have HO_8:=n1_
        have HO325:=n2_
        have BK289:=n3_
        have BK290:=n4_
        have BK327:=n5_
        have HB:=n6_
        clear n0_ n1_ n2_ n3_ n4_ n5_ n6_
        replace HO_7:=mk0 (dR HO_7.out)
        replace HO_8:=mk0 (dR HO_8.out)
        replace HO325:=mk0 (dR HO325.out)
        replace BK289:=mk0 (dB BK289.out)
        replace BK290:=mk0 (dB BK290.out)
        replace BK327:=mk0 (dB BK327.out)
        replace HB:=mk0 (dZ HB.out)
        refine start_ (n:=9) (S:=fun w'=>w'.cell? ⟨gb289,0,none⟩ = some (.int .i64 a1) ∧ w'.cell? ⟨gb327,0,none⟩ = some (.int .i64 t320) ∧ w'.cell? ⟨gb327,1,none⟩ = some (.int .i64 t321) ∧ w'.cell? ⟨gb327,2,none⟩ = some (.int .i64 t322) ∧ w'.cell? ⟨gb327,3,none⟩ = some (.slice Ao87 t323.length co87)) (ds:=[]) impl_SparseOf.m0 (by kernel_rfl) rfl rfl ⟨(blk_cell BK289.out 0).trans rfl,(blk_cell BK327.out 0).trans rfl,(blk_cell BK327.out 1).trans rfl,(blk_cell BK327.out 2).trans rfl,(blk_cell BK327.out 3).trans rfl⟩ (fun hHeld=>?_);refine with_tabW impl_SparseOf.tab19 impl_SparseOf.bits19 (fun HT_ HW_=>?_)
        generalize w88.drew = w89 at HO_7 HO_8 HO325 BK289 BK290 BK327 HB hHeld ⊢
        refine pure_ (i:=1) (N:=some 93) (v:=?_) (a':=?_) impl_SparseOf.m1 rfl rfl (any_of HT_.out (by kernel_rfl)) (fun _ _ _ h=>h) (Or.inl ⟨by rfl,?_⟩) ?_ ?_
        rotate_left
        ·intro w'
         go_simp
         with_reducible rfl
        rotate_left
        ·simp only [Act.put,sA,sO,sS,i64_w,i32_w]
         rfl
        refine pure_ (i:=2) (N:=some 94) (v:=?_) (a':=?_) impl_SparseOf.m2 rfl rfl (any_of HT_.out (by kernel_rfl)) (fun _ _ _ h=>h) (Or.inl ⟨by rfl,?_⟩) ?_ ?_
        rotate_left
        ·intro w'
         go_simp
         with_reducible rfl
        rotate_left
        ·simp only [Act.put,sA,sO,sS,i64_w,i32_w]
         rfl
        refine pure_ (i:=4) (N:=some 96) (v:=?_) (a':=?_) impl_SparseOf.m3 rfl rfl (any_of HT_.out (by kernel_rfl)) (fun _ _ _ h=>h) (Or.inl ⟨by rfl,?_⟩) ?_ ?_
        rotate_left
        ·intro w'
         go_simp
         with_reducible rfl
        rotate_left
        ·simp only [Act.put,sA,sO,sS,i64_w,i32_w]
         rfl
        refine take_ (i:=0) (N:=some 92) (v:=?_) (a':=?_) impl_SparseOf.m4 rfl rfl (take_ofW HT_.out HW_.out (by kernel_rfl)) (fun _ _ _ h=>h) (Or.inl ⟨by rfl,?_⟩) hHeld ?_ ?_
        rotate_left
        ·rintro w' ⟨s0,s1,s2,s3,s4⟩
         go_simp
         with_reducible rfl
        rotate_left
        ·simp only [Act.put,sA,sO,sS,i64_w,i32_w]
         rfl
        refine take_ (i:=3) (N:=some 95) (v:=?_) (a':=?_) impl_SparseOf.m5 rfl rfl (take_ofW HT_.out HW_.out (by kernel_rfl)) (fun _ _ _ h=>h) (Or.inl ⟨by rfl,?_⟩) hHeld ?_ ?_
        rotate_left
        ·rintro w' ⟨s0,s1,s2,s3,s4⟩
         go_simp
         with_reducible rfl
        rotate_left
        ·simp only [Act.put,sA,sO,sS,i64_w,i32_w]
         rfl
        refine one_ (i:=5) (N:=some 97) impl_SparseOf.m6 rfl rfl (one_of HT_.out (by kernel_rfl)) (by decide) (fun K hK=>?_)
        refine goes_ Try.func37 (by kernel_rfl) rfl #[.slice Ao78 x8_3.length co78] (by rfl) rfl rfl (by (try simp only [mA,mC,mN]);first|done|rfl|(simp only [List.length_drop,List.length_take];done)|(simp only [List.length_drop,List.length_take];rfl)) ?_
        with_reducible refine (impl_bitsOf.calls k3 _ _ x8_3 t328 t329 _ ?side1 ?side2 A77.out).mono ?_
        (case side1=>exact kC (Kd.R_reads' HO_8.out).2.2)
        (case side2=>exact (Kd.R_reads' HO_8.out).2.1)
        rintro e w90 ⟨v330,rfl,ho0,hb⟩
        refine⟨_,rfl,?_⟩
        replace HO_7:=mk0 (bR HO_7.out hb)
        replace HO_8:=mk0 (bR HO_8.out hb)
        have HO331:=mk0 (Kd.R_lower (Kd.R_new' ho0 (Kd.R_lt (rR HO325.out))) (kZ HB.out))
        replace HO325:=mk0 (Kd.R_elder' (rR HO325.out) (Kd.R_base ho0) hb)
        replace BK289:=mk0 (kK BK289.out hb)
        replace BK290:=mk0 (kK BK290.out hb)
        replace BK327:=mk0 (kK BK327.out hb)
        replace HB:=mk0 (kS HB.out hb)
        (try clear hb)
        (try clear ho0)
        obtain⟨Ao91,co91,eo91⟩:=Kd.R_slice HO331.out
        (first|subst eo91|(injection eo91 with f1_ f2_ f3_;have f4_:=f1_.symm;have f5_:=f3_.symm;clear f1_ f2_ f3_;subst f4_;subst f5_))
        refine hK.out _ _ ⟨(blk_cell BK289.out 0).trans rfl,(blk_cell BK327.out 0).trans rfl,(blk_cell BK327.out 1).trans rfl,(blk_cell BK327.out 2).trans rfl,(blk_cell BK327.out 3).trans rfl⟩ (fun hHeld=>?_)
        clear hK K
        refine norm_ (a':=?_) ?_ ?_
        rotate_left
        ·show Act.put _ (some 97) _ = _
         simp only [Act.put,sA,sO,sS,i64_w,i32_w]
         rfl
        refine pure_ (i:=6) (N:=some 98) (v:=?_) (a':=?_) impl_SparseOf.m7 rfl rfl (any_of HT_.out (by kernel_rfl)) (fun _ _ _ h=>h) (Or.inl ⟨by rfl,?_⟩) ?_ ?_
        rotate_left
        ·intro w'
         go_simp
         with_reducible rfl
        rotate_left
        ·simp only [Act.put,sA,sO,sS,i64_w,i32_w]
         rfl
        refine one_ (i:=7) (N:=none) impl_SparseOf.m8 rfl rfl (one_of HT_.out (by kernel_rfl)) (by decide) (fun K hK=>?_)
        have hs92:w90.cell? ⟨gb290,0,none⟩ = some (.int .i64 0):=(blk_cell BK290.out 0).trans rfl
        have hfs92:=blk_frozen BK290.out 0
        have hns92_0:=NB289_290.out
        have hns92_2:=NB327_290.out
        have hms92_0:=NB290_289.out
        have hms92_2:=NB290_327.out
        have hs93:w90.cell? ⟨gb290,1,none⟩ = some (.int .i64 0):=(blk_cell BK290.out 1).trans rfl
        have hfs93:=blk_frozen BK290.out 1
        have hns93_0:=NB289_290.out
        have hns93_2:=NB327_290.out
        have hms93_0:=NB290_289.out
        have hms93_2:=NB290_327.out
        have hs94:w90.cell? ⟨gb290,2,none⟩ = some (.int .i64 0):=(blk_cell BK290.out 2).trans rfl
        have hfs94:=blk_frozen BK290.out 2
        have hns94_0:=NB289_290.out
        have hns94_2:=NB327_290.out
        have hms94_0:=NB290_289.out
        have hms94_2:=NB290_327.out
        have hs95:w90.cell? ⟨gb290,3,none⟩ = some (.int .i64 0):=(blk_cell BK290.out 3).trans rfl
        have hfs95:=blk_frozen BK290.out 3
        have hns95_0:=NB289_290.out
        have hns95_2:=NB327_290.out
        have hms95_0:=NB290_289.out
        have hms95_2:=NB290_327.out
        have hs96:w90.cell? ⟨gb290,4,none⟩ = some (.int .i64 0):=(blk_cell BK290.out 4).trans rfl
        have hfs96:=blk_frozen BK290.out 4
        have hns96_0:=NB289_290.out
        have hns96_2:=NB327_290.out
        have hms96_0:=NB290_289.out
        have hms96_2:=NB290_327.out
        have hs97:w90.cell? ⟨gb290,5,none⟩ = some (.slice none 0 0):=(blk_cell BK290.out 5).trans rfl
        have hfs97:=blk_frozen BK290.out 5
        have hns97_0:=NB289_290.out
        have hns97_2:=NB327_290.out
        have hms97_0:=NB290_289.out
        have hms97_2:=NB290_327.out
        have hs98:w90.cell? ⟨gb290,6,none⟩ = some (.int .i64 0):=(blk_cell BK290.out 6).trans rfl
        have hfs98:=blk_frozen BK290.out 6
        have hns98_0:=NB289_290.out
        have hns98_2:=NB327_290.out
        have hms98_0:=NB290_289.out
        have hms98_2:=NB290_327.out
        have hs99:w90.cell? ⟨gb290,7,none⟩ = some (.slice none 0 0):=(blk_cell BK290.out 7).trans rfl
        have hfs99:=blk_frozen BK290.out 7
        have hns99_0:=NB289_290.out
        have hns99_2:=NB327_290.out
        have hms99_0:=NB290_289.out
        have hms99_2:=NB290_327.out
        refine skip_ (w1:=?_) (by rfl) rfl ?_ ?_
        rotate_left
        ·go_simp
         rfl
        refine hK.out _ _ ⟨((cell_far (p:=⟨gb290,_,none⟩) NB289_290.out _).trans (((cell_far (p:=⟨gb290,_,none⟩) NB289_290.out _).trans (((cell_far (p:=⟨gb290,_,none⟩) NB289_290.out _).trans (((cell_far (p:=⟨gb290,_,none⟩) NB289_290.out _).trans (((cell_far (p:=⟨gb290,_,none⟩) NB289_290.out _).trans (((cell_far (p:=⟨gb290,_,none⟩) NB289_290.out _).trans (((cell_far (p:=⟨gb290,_,none⟩) NB289_290.out _).trans (((cell_far (p:=⟨gb290,_,none⟩) NB289_290.out _).trans (hHeld.1)))))))))))))))),((cell_far (p:=⟨gb290,_,none⟩) NB327_290.out _).trans (((cell_far (p:=⟨gb290,_,none⟩) NB327_290.out _).trans (((cell_far (p:=⟨gb290,_,none⟩) NB327_290.out _).trans (((cell_far (p:=⟨gb290,_,none⟩) NB327_290.out _).trans (((cell_far (p:=⟨gb290,_,none⟩) NB327_290.out _).trans (((cell_far (p:=⟨gb290,_,none⟩) NB327_290.out _).trans (((cell_far (p:=⟨gb290,_,none⟩) NB327_290.out _).trans (((cell_far (p:=⟨gb290,_,none⟩) NB327_290.out _).trans (hHeld.2.1)))))))))))))))),((cell_far (p:=⟨gb290,_,none⟩) NB327_290.out _).trans (((cell_far (p:=⟨gb290,_,none⟩) NB327_290.out _).trans (((cell_far (p:=⟨gb290,_,none⟩) NB327_290.out _).trans (((cell_far (p:=⟨gb290,_,none⟩) NB327_290.out _).trans (((cell_far (p:=⟨gb290,_,none⟩) NB327_290.out _).trans (((cell_far (p:=⟨gb290,_,none⟩) NB327_290.out _).trans (((cell_far (p:=⟨gb290,_,none⟩) NB327_290.out _).trans (((cell_far (p:=⟨gb290,_,none⟩) NB327_290.out _).trans (hHeld.2.2.1)))))))))))))))),((cell_far (p:=⟨gb290,_,none⟩) NB327_290.out _).trans (((cell_far (p:=⟨gb290,_,none⟩) NB327_290.out _).trans (((cell_far (p:=⟨gb290,_,none⟩) NB327_290.out _).trans (((cell_far (p:=⟨gb290,_,none⟩) NB327_290.out _).trans (((cell_far (p:=⟨gb290,_,none⟩) NB327_290.out _).trans (((cell_far (p:=⟨gb290,_,none⟩) NB327_290.out _).trans (((cell_far (p:=⟨gb290,_,none⟩) NB327_290.out _).trans (((cell_far (p:=⟨gb290,_,none⟩) NB327_290.out _).trans (hHeld.2.2.2.1)))))))))))))))),((cell_far (p:=⟨gb290,_,none⟩) NB327_290.out _).trans (((cell_far (p:=⟨gb290,_,none⟩) NB327_290.out _).trans (((cell_far (p:=⟨gb290,_,none⟩) NB327_290.out _).trans (((cell_far (p:=⟨gb290,_,none⟩) NB327_290.out _).trans (((cell_far (p:=⟨gb290,_,none⟩) NB327_290.out _).trans (((cell_far (p:=⟨gb290,_,none⟩) NB327_290.out _).trans (((cell_far (p:=⟨gb290,_,none⟩) NB327_290.out _).trans (((cell_far (p:=⟨gb290,_,none⟩) NB327_290.out _).trans (hHeld.2.2.2.2))))))))))))))))⟩ (fun hHeld=>?_)
        clear hK K
        refine pure_ (i:=8) (N:=some 5) (v:=?_) (a':=?_) impl_SparseOf.m9 rfl rfl (any_of HT_.out (by kernel_rfl)) (fun _ _ _ h=>h) (Or.inl ⟨by rfl,?_⟩) ?_ ?_
        rotate_left
        ·intro w'
         go_simp
         with_reducible rfl
        rotate_left
        ·simp only [Act.put,sA,sO,sS,i64_w,i32_w]
         rfl
        refine done_ (done_of HT_.out (by kernel_rfl)) ?_
        try go_wp2
        refine bodyPost_ret (results_ct rfl _ _ gb290 33 #[.int .i64 a1,.int .i64 (l0.length:Int),.int .i64 t320,.int .i64 t321,.int .i64 t322,.slice Ao87 t323.length co87,.int .i64 t328,.slice Ao91 t329.length co91] (0,0) _ rfl (by (with_reducible repeat (first|apply nB|apply dB|apply aB));refine blk_put (cs:=#[.int .i64 a1,.int .i64 (l0.length:Int),.int .i64 t320,.int .i64 t321,.int .i64 t322,.slice Ao87 t323.length co87,.int .i64 t328,.slice none 0 0]) ?_ 7 _ rfl;(with_reducible repeat (first|apply nB|apply dB|apply aB));refine blk_put (cs:=#[.int .i64 a1,.int .i64 (l0.length:Int),.int .i64 t320,.int .i64 t321,.int .i64 t322,.slice Ao87 t323.length co87,.int .i64 0,.slice none 0 0]) ?_ 6 _ rfl;(with_reducible repeat (first|apply nB|apply dB|apply aB));refine blk_put (cs:=#[.int .i64 a1,.int .i64 (l0.length:Int),.int .i64 t320,.int .i64 t321,.int .i64 t322,.slice none 0 0,.int .i64 0,.slice none 0 0]) ?_ 5 _ rfl;(with_reducible repeat (first|apply nB|apply dB|apply aB));refine blk_put (cs:=#[.int .i64 a1,.int .i64 (l0.length:Int),.int .i64 t320,.int .i64 t321,.int .i64 0,.slice none 0 0,.int .i64 0,.slice none 0 0]) ?_ 4 _ rfl;(with_reducible repeat (first|apply nB|apply dB|apply aB));refine blk_put (cs:=#[.int .i64 a1,.int .i64 (l0.length:Int),.int .i64 t320,.int .i64 0,.int .i64 0,.slice none 0 0,.int .i64 0,.slice none 0 0]) ?_ 3 _ rfl;(with_reducible repeat (first|apply nB|apply dB|apply aB));refine blk_put (cs:=#[.int .i64 a1,.int .i64 (l0.length:Int),.int .i64 0,.int .i64 0,.int .i64 0,.slice none 0 0,.int .i64 0,.slice none 0 0]) ?_ 2 _ rfl;(with_reducible repeat (first|apply nB|apply dB|apply aB));refine blk_put (cs:=#[.int .i64 a1,.int .i64 0,.int .i64 0,.int .i64 0,.int .i64 0,.slice none 0 0,.int .i64 0,.slice none 0 0]) ?_ 1 _ rfl;(with_reducible repeat (first|apply nB|apply dB|apply aB));refine blk_put (cs:=#[.int .i64 0,.int .i64 0,.int .i64 0,.int .i64 0,.int .i64 0,.slice none 0 0,.int .i64 0,.slice none 0 0]) ?_ 0 _ rfl;(with_reducible repeat (first|apply nB|apply dB|apply aB));exact BK290.out) Try.underlying33 rfl (by kernel_rfl)) rfl ?_
        exact⟨_,_,by first|rfl|(simp [errW_none,errW_some] <;> rfl)|(simp only [← hji23, ← hji64];first|rfl|(simp [errW_none,errW_some] <;> rfl))|(simp [*,errW_none,errW_some] <;> rfl),by (with_reducible repeat (first|apply aR|apply nR|apply dR));exact Kd.R_mono (Kd.R_far (p:=⟨gb290,7,none⟩) (Kd.R_far (p:=⟨gb290,6,none⟩) (Kd.R_far (p:=⟨gb290,5,none⟩) (Kd.R_far (p:=⟨gb290,4,none⟩) (Kd.R_far (p:=⟨gb290,3,none⟩) (Kd.R_far (p:=⟨gb290,2,none⟩) (Kd.R_far (p:=⟨gb290,1,none⟩) (Kd.R_far (p:=⟨gb290,0,none⟩) (Kd.R_types HO325.out BK290.out (by decide)) (fun _ hk=>hk.2) (.int .i64 a1)) (fun _ hk=>hk.2) (.int .i64 (l0.length:Int))) (fun _ hk=>hk.2) (.int .i64 t320)) (fun _ hk=>hk.2) (.int .i64 t321)) (fun _ hk=>hk.2) (.int .i64 t322)) (fun _ hk=>hk.2) (.slice Ao87 t323.length co87)) (fun _ hk=>hk.2) (.int .i64 t328)) (fun _ hk=>hk.2) (.slice Ao91 t329.length co91)) (fun _ hk=>hk.1.2),by (with_reducible repeat (first|apply aR|apply nR|apply dR));exact Kd.R_mono (Kd.R_far (p:=⟨gb290,7,none⟩) (Kd.R_far (p:=⟨gb290,6,none⟩) (Kd.R_far (p:=⟨gb290,5,none⟩) (Kd.R_far (p:=⟨gb290,4,none⟩) (Kd.R_far (p:=⟨gb290,3,none⟩) (Kd.R_far (p:=⟨gb290,2,none⟩) (Kd.R_far (p:=⟨gb290,1,none⟩) (Kd.R_far (p:=⟨gb290,0,none⟩) (Kd.R_types HO331.out BK290.out (by decide)) (fun _ hk=>hk.2) (.int .i64 a1)) (fun _ hk=>hk.2) (.int .i64 (l0.length:Int))) (fun _ hk=>hk.2) (.int .i64 t320)) (fun _ hk=>hk.2) (.int .i64 t321)) (fun _ hk=>hk.2) (.int .i64 t322)) (fun _ hk=>hk.2) (.slice Ao87 t323.length co87)) (fun _ hk=>hk.2) (.int .i64 t328)) (fun _ hk=>hk.2) (.slice Ao91 t329.length co91)) (fun _ hk=>hk.1.2),kB HB.out⟩
     rw [if_pos c34] at H
     have c34b0:decide (x43_2 < (l0.length:Int)) = true:=decide_eq_true c34
     clear c34
     by_cases c35:0 ≤ x43_2
     rotate_left
     ·rw [if_neg c35] at H
      exact absurd H (by simp)
     rw [if_pos c35] at H
     have c35b0:decide (0 ≤ x43_2) = true:=decide_eq_true c35
     clear c35
     by_cases c36:x43_2 < (l0.length:Int)
     rotate_left
     ·rw [if_neg c36] at H
      exact absurd H (by simp)
     rw [if_pos c36] at H
     have c36b0:decide (x43_2 < (l0.length:Int)) = true:=decide_eq_true c36
     clear c36
     have H':=mk0 H
     clear H
     have p295:0 ≤ (x43_2:Int):=of_decide_eq_true (by first|(with_reducible assumption)|assumption)
     have q295:x43_2 < (l0.length:Int):=of_decide_eq_true (by first|(with_reducible assumption)|assumption)
     obtain⟨ad295,e295,hx295_0⟩:=Kd.at_int HR0.out x43_2 p295 q295
     cases e295
     replace hx295_0:=(HB.out.cell (World.block_lt_of_cell? w _ hx295_0)).trans hx295_0
     replace p295:=eq_true p295
     replace q295:=eq_true q295
     go_wp2
     go_loopg [8] k2 (fun kq v8 w'=>∃ (x8_3:List Int),Aside0 (impl_SparseOf.l1 kq l0 t294 x7_2 x8_3 (rd l0 x43_2) l0 (l0.length:Int) x43_2 a1 = some (r1,r2,r3,r4,r5,r6,r7,r8,r9)) ∧ Aside0 (kq ≤ k2) ∧ Aside0 (Kd.R (Kd.int .i64) 3 w' w.heap.size (fun k_=>some k_ ≠ (v8:Value).ownBlock ∧ k_ ≠ gb289) u7 x7_2) ∧ Aside0 (Kd.R (Kd.int .i64) 3 w' w.heap.size (fun k_=>some k_ ≠ (u7:Value).ownBlock ∧ k_ ≠ gb289) v8 x8_3) ∧ Aside0 (w'.heap[gb289]? = some (.cells #[.int .i64 a1] 3 (0,0))) ∧ Aside0 (w'.heap[gb290]? = some (.cells #[.int .i64 0,.int .i64 0,.int .i64 0,.int .i64 0,.int .i64 0,(.slice none 0 0),.int .i64 0,(.slice none 0 0)] 33 (0,0))) ∧ Aside0 (Below w.heap.size w w'))
     case atStart=>exact⟨(x8_2),H',⟨Nat.le_refl _⟩,⟨rR HO_7.out⟩,⟨rR HO_8.out⟩,⟨kN BK289.out⟩,⟨kN BK290.out⟩,⟨kB HB.out⟩⟩
     case round =>
      clear H'
      try clear c1
      try clear c2
      try clear p2
      try clear q2
      try clear hx2
      try clear c3
      try clear p6
      try clear c7
      try clear c9
      try clear c10
      try clear c11
      try clear c14
      try clear c16
      try clear c18
      try clear c19
      try clear c22
      try clear c22b0
      try clear c22b1
      try clear c24
      try clear c24b0
      try clear c25
      try clear p29
      try clear q29
      try clear hx29
      try clear c30
      try clear c31
      try clear c34
      try clear c34b0
      try clear c35
      try clear c35b0
      try clear c36
      try clear c36b0
      try clear hcz12_0
      try clear hcz15_0
      try clear hcz17_0
      try clear hcz20_0
      try clear hcz20_1
      try clear hcz20_2
      try clear hcz20_3
      try clear hcz20_4
      try clear hcz20_5
      try clear hcz20_6
      try clear hcz20_7
      try clear hcz26_0
      try clear hcz28_0
      try clear hcz29_0
      try clear hcz29_1
      try clear hcz29_2
      try clear hcz29_3
      try clear hcz29_4
      try clear hcz29_5
      try clear hcz29_6
      try clear hcz29_7
      try clear hcz31_0
      try clear hcz33_0
      try clear hfz12_0
      try clear hfz15_0
      try clear hfz17_0
      try clear hfz20_0
      try clear hfz20_1
      try clear hfz20_2
      try clear hfz20_3
      try clear hfz20_4
      try clear hfz20_5
      try clear hfz20_6
      try clear hfz20_7
      try clear hfz26_0
      try clear hfz28_0
      try clear hfz29_0
      try clear hfz29_1
      try clear hfz29_2
      try clear hfz29_3
      try clear hfz29_4
      try clear hfz29_5
      try clear hfz29_6
      try clear hfz29_7
      try clear hfz31_0
      try clear hfz33_0
      try clear hx295_0
      try clear p2
      try clear p295
      try clear p6
      try clear q295
      obtain⟨x8_3,HA,HK3,HO_7,HO_8,BK289,BK290,HB⟩:=hrel
      cases gk with
      | zero=>exact absurd HA.out (by simp [impl_SparseOf.l1])
      | succ k3 =>
       have H:=HA.out
       clear HA
       simp only [impl_SparseOf.l1] at H
       by_cases c37:0 ≤ t294
       rotate_left
       ·rw [if_neg c37] at H
        exact absurd H (by simp)
       rw [if_pos c37] at H
       have c37b0:=eq_true c37
       have c37b1:decide (0 ≤ t294) = true:=decide_eq_true c37
       clear c37
       obtain⟨ji38,hji38⟩:∃ j_:Int,(shr .i64 (rd l0 x43_2) t294) = j_:=⟨_,rfl⟩
       replace H:(if (wrap64 ((x8_3.length:Int) - (x7_2.length:Int))) < (ji38) then ((some (([0]:List Int):List Int)).bind fun y296=>(if x8_3.length + y296.length < 17592186044416 then (impl_SparseOf.l1 k3 l0 t294 x7_2 (x8_3 ++ y296) (rd l0 x43_2) l0 (l0.length:Int) x43_2 a1) else (none))) else ((some (([1]:List Int):List Int)).bind fun y302=>(if x8_3.length + y302.length < 17592186044416 then ((some (([Go.bits .and .i64 (rd l0 x43_2) (wrap64 ((shl .i64 1 t294) - 1))]:List Int):List Int)).bind fun y308=>(if x7_2.length + y308.length < 17592186044416 then (impl_SparseOf.l0 k3 l0 t294 (x7_2 ++ y308) (x8_3 ++ y302) l0 (l0.length:Int) (wrap64 (x43_2 + 1)) a1) else (none))) else (none)))) = some (r1,r2,r3,r4,r5,r6,r7,r8,r9):=by first|(rw [hji38] at H;exact H)|(simp only [hji38] at H ⊢;exact H)
       have hji38_:((rd l0 x43_2) / 2 ^ min t294.toNat 64) = ji38:=hji38
       have hji38z:t294 ≤ 64 → ((rd l0 x43_2) / 2 ^ t294.toNat) = ji38:=shr_small hji38
       by_cases c39:(wrap64 ((x8_3.length:Int) - (x7_2.length:Int))) < (ji38)
       ·rw [if_pos c39] at H
        have c39b0:decide ((wrap64 ((x8_3.length:Int) - (x7_2.length:Int))) < (ji38)) = true:=decide_eq_true c39
        clear c39
        obtain⟨y296,hy296⟩:∃ y_:List Int,y_ = (([0]:List Int)):=⟨_,rfl⟩
        replace H:(if x8_3.length + y296.length < 17592186044416 then (impl_SparseOf.l1 k3 l0 t294 x7_2 (x8_3 ++ y296) (rd l0 x43_2) l0 (l0.length:Int) x43_2 a1) else (none)) = some (r1,r2,r3,r4,r5,r6,r7,r8,r9):=by first|(rw [hy296];with_reducible exact H)|(have H2_:=(Option.bind_some _ _).symm.trans H;rw [hy296];with_reducible exact H2_)|(have H2_:=(Option.bind_some _ _).symm.trans H;with_reducible exact H2_)|with_reducible exact H|(rw [hy296];exact H)|exact H
        have Ny296:=mk0 hy296
        clear hy296
        by_cases c40:x8_3.length + y296.length < 17592186044416
        rotate_left
        ·rw [if_neg c40] at H
         exact absurd H (by simp)
        rw [if_pos c40] at H
        have LMc40:=mk0 c40
        clear c40
        obtain⟨y299,hy299⟩:∃ y_:List Int,y_ = (x8_3 ++ y296):=⟨_,rfl⟩
        replace H:(impl_SparseOf.l1 k3 l0 t294 x7_2 y299 (rd l0 x43_2) l0 (l0.length:Int) x43_2 a1) = some (r1,r2,r3,r4,r5,r6,r7,r8,r9):=by first|(rw [hy299];with_reducible exact H)|(have H2_:=(Option.bind_some _ _).symm.trans H;rw [hy299];with_reducible exact H2_)|(have H2_:=(Option.bind_some _ _).symm.trans H;with_reducible exact H2_)|with_reducible exact H|(rw [hy299];exact H)|exact H
        have Ny299:=mk0 hy299
        clear hy299
        have H':=mk0 H
        clear H
        obtain⟨Ao41,co41,eo41⟩:=Kd.R_slice HO_8.out
        subst eo41
        obtain⟨Ao42,co42,eo42⟩:=Kd.R_slice HO_7.out
        subst eo42
        go_wp2_with (first|((with_reducible refine gate_dst (N:=57) rfl ?_);refine Kd.R_lit (Kd.int .i64) _ 3 ?hg (N:=57) ?hd (xs:=([0]:List Int)) (inner:=[.int .i64 0]) (ok:=fun _=>True) (okp:=fun _=>True) ?hr ?hp (fun _ hk=>hk) trivial (Below.refl _ _) (Nat.le_refl _) (by simp) ?_;(case hd=>rfl);(case hg=>rfl);(case hr=>first|(go_simp;done)|(go_simp;rfl));(case hp=>exact (Reps.one (show Kd.M (Kd.int .i64) _ _ _ 0 [.int .i64 0] from rfl) (Reps.none _ _)));intro v297 w43 ho44 hb hg_ hnew_;clear hg_ hnew_;(first|rw [← Ny296.out] at ho44|(simp only [Int.reduceToNat] at ho44;rw [← Ny296.out] at ho44));have HO298:=mk0 (Kd.R_lower (Kd.R_newB (Kd.R_new' (Kd.R_new' ho44 (Kd.R_lt (rR HO_7.out))) (Kd.R_lt (rR HO_8.out))) (g:=gb289) (o:=.cells #[.int .i64 a1] 3 (0,0)) (kN BK289.out)) (kZ HB.out));replace HO_7:=mk0 (Kd.R_elder' (rR HO_7.out) (Kd.R_base ho44) hb);replace HO_8:=mk0 (Kd.R_elder' (rR HO_8.out) (Kd.R_base ho44) hb);replace BK289:=mk0 (kK BK289.out hb);replace BK290:=mk0 (kK BK290.out hb);replace HB:=mk0 (kS HB.out hb);clear hb ho44;obtain⟨Ao46,co46,eo46⟩:=Kd.R_slice HO298.out;subst eo46)|((with_reducible refine gate_builtin (b:=.append) (xs:=#[.tmp 56,.tmp 57]) rfl ?_);at_builtin;refine Kd.R_append_rows (Kd.int .i64) (w0:=w) w.heap.size rfl (.tmp 56) (.tmp 57) 24 3 (.int .i64 0) 8 rfl Try.underlying24 info3 rfl (by decide) (by omega) (.slice Ao41 x8_3.length co41) x8_3 y296 _ _ _ (fun k_=>some k_ ≠ (.slice Ao42 x7_2.length co42:Value).ownBlock ∧ some k_ ≠ (.slice Ao46 y296.length co46:Value).ownBlock ∧ k_ ≠ gb289) (fun _=>False) rfl rfl ?aO ?aR (fun _ _ h=>h) (fun _ h=>h.elim) ?aF ?aB ?aS ?aL ?_;(case aR=>repeat (first|exact (Kd.R_reads' HO298.out).2.2|(with_reducible first|apply aC|apply nC|apply dC)));(case aB=>exact (kB HB.out));(case aF=>exact (fun k_ hk=>⟨Kd.fresh' (Kd.R_lt (rR HO_7.out)) k_ hk,Kd.fresh' (Kd.R_lt (rR HO298.out)) k_ hk,Kd.freshB (g:=gb289) (o:=.cells #[.int .i64 a1] 3 (0,0)) (kN BK289.out) k_ hk⟩));(case aO=>exact (rR (Kd.R_mono HO_8.out (fun _ hk=>⟨hk.1.1,⟨hk.2,hk.1.2⟩⟩))));(case aS=>exact (kZ HB.out));(case aL=>have:=LMc40.out;omega);intro v300 w45 ho hb hg hat;rw [← Ny299.out] at ho;replace HO_7:=mk0 (Kd.R_after (ok:=(fun k_=>some k_ ≠ (.slice Ao46 y296.length co46:Value).ownBlock ∧ k_ ≠ gb289)) (rR (Kd.R_mono HO_7.out (fun _ hk=>⟨⟨hk.2,hk.1.2⟩,hk.1.1⟩))) hg hat);replace BK289:=mk0 (blk_grown (kN BK289.out) hg (Kd.R_away HO_8.out (fun _ hk=>hk.1.2)));replace BK290:=mk0 (blk_grown (kN BK290.out) hg (Kd.R_ne HO_8.out BK290.out (by decide)));replace HO298:=mk0 (Kd.R_after (ok:=(fun k_=>some k_ ≠ (.slice Ao42 x7_2.length co42:Value).ownBlock ∧ k_ ≠ gb289)) (rR (Kd.R_mono HO298.out (fun _ hk=>⟨⟨hk.1.1.2,hk.2⟩,hk.1.2⟩))) hg hat);replace HB:=mk0 (hb);have HO301:=mk0 (ho);clear HO_8 ho hb hg hat))
        go_roundg k3
        case measure=>have:=HJ2.out;have:=HK2.out;have:=HK3.out;omega
        case rel=>exact⟨(y299),H',⟨by have:=HJ2.out;have:=HK2.out;have:=HK3.out;omega⟩,⟨rR (Kd.R_mono HO_7.out (fun _ hk=>⟨hk.2,hk.1.2⟩))⟩,⟨rR (Kd.R_mono HO301.out (fun _ hk=>⟨hk.1,hk.2.2⟩))⟩,⟨kN BK289.out⟩,⟨kN BK290.out⟩,⟨kB HB.out⟩⟩
       rw [if_neg c39] at H
       have c39b0:decide ((wrap64 ((x8_3.length:Int) - (x7_2.length:Int))) < (ji38)) = false:=decide_eq_false c39
       clear c39
       obtain⟨y302,hy302⟩:∃ y_:List Int,y_ = (([1]:List Int)):=⟨_,rfl⟩
       replace H:(if x8_3.length + y302.length < 17592186044416 then ((some (([Go.bits .and .i64 (rd l0 x43_2) (wrap64 ((shl .i64 1 t294) - 1))]:List Int):List Int)).bind fun y308=>(if x7_2.length + y308.length < 17592186044416 then (impl_SparseOf.l0 k3 l0 t294 (x7_2 ++ y308) (x8_3 ++ y302) l0 (l0.length:Int) (wrap64 (x43_2 + 1)) a1) else (none))) else (none)) = some (r1,r2,r3,r4,r5,r6,r7,r8,r9):=by first|(rw [hy302];with_reducible exact H)|(have H2_:=(Option.bind_some _ _).symm.trans H;rw [hy302];with_reducible exact H2_)|(have H2_:=(Option.bind_some _ _).symm.trans H;with_reducible exact H2_)|with_reducible exact H|(rw [hy302];exact H)|exact H
       have Ny302:=mk0 hy302
       clear hy302
       by_cases c47:x8_3.length + y302.length < 17592186044416
       rotate_left
       ·rw [if_neg c47] at H
        exact absurd H (by simp)
       rw [if_pos c47] at H
       have LMc47:=mk0 c47
       clear c47
       obtain⟨y305,hy305⟩:∃ y_:List Int,y_ = (x8_3 ++ y302):=⟨_,rfl⟩
       replace H:((some (([Go.bits .and .i64 (rd l0 x43_2) (wrap64 ((shl .i64 1 t294) - 1))]:List Int):List Int)).bind fun y308=>(if x7_2.length + y308.length < 17592186044416 then (impl_SparseOf.l0 k3 l0 t294 (x7_2 ++ y308) y305 l0 (l0.length:Int) (wrap64 (x43_2 + 1)) a1) else (none))) = some (r1,r2,r3,r4,r5,r6,r7,r8,r9):=by first|(rw [hy305];with_reducible exact H)|(have H2_:=(Option.bind_some _ _).symm.trans H;rw [hy305];with_reducible exact H2_)|(have H2_:=(Option.bind_some _ _).symm.trans H;with_reducible exact H2_)|with_reducible exact H|(rw [hy305];exact H)|exact H
       have Ny305:=mk0 hy305
       clear hy305
       have c48b0:=eq_true (of_decide_eq_true (by first|(with_reducible assumption)|assumption):0 ≤ t294)
       obtain⟨ji49,hji49⟩:∃ j_:Int,(shl .i64 1 t294) = j_:=⟨_,rfl⟩
       replace H:((some (([Go.bits .and .i64 (rd l0 x43_2) (wrap64 ((ji49) - 1))]:List Int):List Int)).bind fun y308=>(if x7_2.length + y308.length < 17592186044416 then (impl_SparseOf.l0 k3 l0 t294 (x7_2 ++ y308) y305 l0 (l0.length:Int) (wrap64 (x43_2 + 1)) a1) else (none))) = some (r1,r2,r3,r4,r5,r6,r7,r8,r9):=by first|(rw [hji49] at H;exact H)|(simp only [hji49] at H ⊢;exact H)
       have hji49_:(IntKind.i64.wrap (1 * 2 ^ min t294.toNat 64)) = ji49:=hji49
       have hji49z:t294 ≤ 64 → (IntKind.i64.wrap (1 * 2 ^ t294.toNat)) = ji49:=shl_small hji49
       have hji49u:(IntKind.i64.wrap (2 ^ min t294.toNat 64)) = ji49:=by have h_:=hji49_;rw [Int.one_mul] at h_;exact h_
       have hji49v:t294 ≤ 64 → (IntKind.i64.wrap (2 ^ t294.toNat)) = ji49:=fun hle_=>by have h_:=hji49z hle_;rw [Int.one_mul] at h_;exact h_
       have hji49y:(wrap64 (1 * 2 ^ min t294.toNat 64)) = ji49:=(i64_w _).symm.trans hji49_
       have hji49x:t294 ≤ 64 → (wrap64 (1 * 2 ^ t294.toNat)) = ji49:=fun h_=>(i64_w _).symm.trans (hji49z h_)
       obtain⟨y308,hy308⟩:∃ y_:List Int,y_ = (([Go.bits .and .i64 (rd l0 x43_2) (wrap64 ((ji49) - 1))]:List Int)):=⟨_,rfl⟩
       replace H:(if x7_2.length + y308.length < 17592186044416 then (impl_SparseOf.l0 k3 l0 t294 (x7_2 ++ y308) y305 l0 (l0.length:Int) (wrap64 (x43_2 + 1)) a1) else (none)) = some (r1,r2,r3,r4,r5,r6,r7,r8,r9):=by first|(rw [hy308];with_reducible exact H)|(have H2_:=(Option.bind_some _ _).symm.trans H;rw [hy308];with_reducible exact H2_)|(have H2_:=(Option.bind_some _ _).symm.trans H;with_reducible exact H2_)|with_reducible exact H|(rw [hy308];exact H)|exact H
       have Ny308:=mk0 hy308
       clear hy308
       by_cases c50:x7_2.length + y308.length < 17592186044416
       rotate_left
       ·rw [if_neg c50] at H
        exact absurd H (by simp)
       rw [if_pos c50] at H
       have LMc50:=mk0 c50
       clear c50
       obtain⟨y311,hy311⟩:∃ y_:List Int,y_ = (x7_2 ++ y308):=⟨_,rfl⟩
       replace H:(impl_SparseOf.l0 k3 l0 t294 y311 y305 l0 (l0.length:Int) (wrap64 (x43_2 + 1)) a1) = some (r1,r2,r3,r4,r5,r6,r7,r8,r9):=by first|(rw [hy311];with_reducible exact H)|(have H2_:=(Option.bind_some _ _).symm.trans H;rw [hy311];with_reducible exact H2_)|(have H2_:=(Option.bind_some _ _).symm.trans H;with_reducible exact H2_)|with_reducible exact H|(rw [hy311];exact H)|exact H
       have Ny311:=mk0 hy311
       clear hy311
       have H':=mk0 H
       clear H
       obtain⟨Ao51,co51,eo51⟩:=Kd.R_slice HO_8.out
       subst eo51
       obtain⟨Ao52,co52,eo52⟩:=Kd.R_slice HO_7.out
       subst eo52
       try go_wp2
       replace HO_7:=mk0 (dR HO_7.out)
       replace HO_8:=mk0 (dR HO_8.out)
       replace BK289:=mk0 (dB BK289.out)
       replace BK290:=mk0 (dB BK290.out)
       replace HB:=mk0 (dZ HB.out)
       refine start_ (n:=13) (S:=fun w'=>True) (ds:=[]) impl_SparseOf.m10 (by kernel_rfl) rfl rfl trivial (fun hHeld=>?_);refine with_tabW impl_SparseOf.tab12 impl_SparseOf.bits12 (fun HT_ HW_=>?_)
       generalize wr.drew = w53 at HO_7 HO_8 BK289 BK290 HB hHeld ⊢
       refine pure_ (i:=0) (N:=some 59) (v:=?_) (a':=?_) impl_SparseOf.m11 rfl rfl (any_of HT_.out (by kernel_rfl)) (fun _ _ _ h=>h) (Or.inl ⟨by rfl,?_⟩) ?_ ?_
       rotate_left
       ·intro w'
        go_simp
        with_reducible rfl
       rotate_left
       ·simp only [Act.put,sA,sO,sS,i64_w,i32_w]
        rfl
       refine pure_ (i:=3) (N:=some 62) (v:=?_) (a':=?_) impl_SparseOf.m12 rfl rfl (any_of HT_.out (by kernel_rfl)) (fun _ _ _ h=>h) (Or.inl ⟨by rfl,?_⟩) ?_ ?_
       rotate_left
       ·intro w'
        go_simp
        with_reducible rfl
       rotate_left
       ·simp only [Act.put,sA,sO,sS,i64_w,i32_w]
        rfl
       refine pure_ (i:=4) (N:=some 63) (v:=?_) (a':=?_) impl_SparseOf.m13 rfl rfl (any_of HT_.out (by kernel_rfl)) (fun _ _ _ h=>h) (Or.inl ⟨by rfl,?_⟩) ?_ ?_
       rotate_left
       ·intro w'
        go_simp
        with_reducible rfl
       rotate_left
       ·simp only [Act.put,sA,sO,sS,i64_w,i32_w]
        rfl
       refine pure_ (i:=5) (N:=some 64) (v:=?_) (a':=?_) impl_SparseOf.m14 rfl rfl (any_of HT_.out (by kernel_rfl)) (fun _ _ _ h=>h) (Or.inl ⟨by rfl,?_⟩) ?_ ?_
       rotate_left
       ·intro w'
        go_simp
        with_reducible rfl
       rotate_left
       ·simp only [Act.put,sA,sO,sS,i64_w,i32_w]
        rfl
       refine pure_ (i:=6) (N:=some 65) (v:=?_) (a':=?_) impl_SparseOf.m15 rfl rfl (any_of HT_.out (by kernel_rfl)) (fun _ _ _ h=>h) (Or.inl ⟨by rfl,?_⟩) ?_ ?_
       rotate_left
       ·intro w'
        go_simp
        with_reducible rfl
       rotate_left
       ·simp only [Act.put,sA,sO,sS,i64_w,i32_w]
        rfl
       refine pure_ (i:=7) (N:=some 66) (v:=?_) (a':=?_) impl_SparseOf.m16 rfl rfl (any_of HT_.out (by kernel_rfl)) (fun _ _ _ h=>h) (Or.inl ⟨by rfl,?_⟩) ?_ ?_
       rotate_left
       ·intro w'
        go_simp
        with_reducible rfl
       rotate_left
       ·simp only [Act.put,sA,sO,sS,i64_w,i32_w]
        rfl
       refine pure_ (i:=8) (N:=some 67) (v:=?_) (a':=?_) impl_SparseOf.m17 rfl rfl (any_of HT_.out (by kernel_rfl)) (fun _ _ _ h=>h) (Or.inl ⟨by rfl,?_⟩) ?_ ?_
       rotate_left
       ·intro w'
        go_simp
        with_reducible rfl
       rotate_left
       ·simp only [Act.put,sA,sO,sS,i64_w,i32_w]
        rfl
       refine join_ (σ:=Value × Value × Value) 3 impl_SparseOf.m18 (fun s_=>[(60,s_.1),(61,s_.2.1),(68,s_.2.2)]) (fun s_ w'=>(Kd.R (Kd.int .i64) 3 w' w.heap.size (fun k_=>some k_ ≠ (s_.2.1:Value).ownBlock ∧ some k_ ≠ (s_.2.2:Value).ownBlock ∧ some k_ ≠ (.slice Ao52 x7_2.length co52:Value).ownBlock ∧ k_ ≠ gb289) s_.1 y302) ∧ (Kd.R (Kd.int .i64) 3 w' w.heap.size (fun k_=>some k_ ≠ (s_.1:Value).ownBlock ∧ some k_ ≠ (s_.2.2:Value).ownBlock ∧ some k_ ≠ (.slice Ao52 x7_2.length co52:Value).ownBlock ∧ k_ ≠ gb289) s_.2.1 y305) ∧ (Kd.R (Kd.int .i64) 3 w' w.heap.size (fun k_=>some k_ ≠ (s_.1:Value).ownBlock ∧ some k_ ≠ (s_.2.1:Value).ownBlock ∧ some k_ ≠ (.slice Ao52 x7_2.length co52:Value).ownBlock ∧ k_ ≠ gb289) s_.2.2 y308) ∧ (Kd.R (Kd.int .i64) 3 w' w.heap.size (fun k_=>some k_ ≠ (s_.1:Value).ownBlock ∧ some k_ ≠ (s_.2.1:Value).ownBlock ∧ some k_ ≠ (s_.2.2:Value).ownBlock ∧ k_ ≠ gb289) (.slice Ao52 x7_2.length co52) x7_2) ∧ (w'.heap[gb289]? = some (.cells #[.int .i64 a1] 3 (0,0))) ∧ (w'.heap[gb290]? = some (.cells #[.int .i64 0,.int .i64 0,.int .i64 0,.int .i64 0,.int .i64 0,.slice none 0 0,.int .i64 0,.slice none 0 0] 33 (0,0))) ∧ (Below w.heap.size w w')) ?_ ?_
       rotate_left
       ·intro hCont
        refine two_ (i:=1) (j:=9) (Ni:=some 60) (Nj:=some 68) impl_SparseOf.m19 impl_SparseOf.m20 rfl rfl rfl rfl (two_of HT_.out (by kernel_rfl)) (by decide) (by decide) (fun K hK=>?_) (fun K hK=>?_)
        ·skip
         refine Kd.R_lit_step (Kd.int .i64) _ 3 ?hg (N:=60) ?hd (xs:=([1]:List Int)) (inner:=[.int .i64 1]) (ok:=fun _=>True) (okp:=fun _=>True) ?hr ?hp (fun _ hk=>hk) trivial (Below.refl _ _) (Nat.le_refl _) (by simp) ?_;(case hd=>rfl);(case hg=>rfl);(case hr=>first|(go_simp;done)|(go_simp;rfl));(case hp=>exact (Reps.one (show Kd.M (Kd.int .i64) _ _ _ 1 [.int .i64 1] from rfl) (Reps.none _ _)))
         intro v303 w54 ho55 hb hg_ hnew_
         clear hg_ hnew_
         (first|rw [← Ny302.out] at ho55|(simp only [Int.reduceToNat] at ho55;rw [← Ny302.out] at ho55))
         have HO304:=mk0 (Kd.R_lower (Kd.R_newB (Kd.R_new' (Kd.R_new' ho55 (Kd.R_lt (rR HO_7.out))) (Kd.R_lt (rR HO_8.out))) (g:=gb289) (o:=.cells #[.int .i64 a1] 3 (0,0)) (kN BK289.out)) (kZ HB.out))
         replace HO_7:=mk0 (Kd.R_elder' (rR HO_7.out) (Kd.R_base ho55) hb)
         replace HO_8:=mk0 (Kd.R_elder' (rR HO_8.out) (Kd.R_base ho55) hb)
         replace BK289:=mk0 (kK BK289.out hb)
         replace BK290:=mk0 (kK BK290.out hb)
         replace HB:=mk0 (kS HB.out hb)
         clear hb ho55
         obtain⟨Ao57,co57,eo57⟩:=Kd.R_slice HO304.out
         (first|subst eo57|(injection eo57 with f1_ f2_ f3_;have f4_:=f1_.symm;have f5_:=f3_.symm;clear f1_ f2_ f3_;subst f4_;subst f5_))
         refine hK.out _ _ trivial (fun hHeld=>?_)
         clear hK K
         refine norm_ (a':=?_) ?_ ?_
         rotate_left
         ·show Act.put _ (some 60) _ = _
          simp only [Act.put,sA,sO,sS,i64_w,i32_w]
          rfl
         refine two_ (i:=2) (j:=9) (Ni:=some 61) (Nj:=some 68) impl_SparseOf.m21 impl_SparseOf.m22 rfl rfl rfl rfl (two_of HT_.out (by kernel_rfl)) (by decide) (by decide) (fun K hK=>?_) (fun K hK=>?_)
         ·skip
          refine Kd.R_append_rows_step (Kd.int .i64) (w0:=w) w.heap.size (by rfl) (.tmp 59) (.tmp 60) 24 3 (.int .i64 0) 8 rfl Try.underlying24 info3 rfl (by decide) (by omega) (.slice Ao51 x8_3.length co51) x8_3 y302 _ _ _ (fun k_=>some k_ ≠ (.slice Ao52 x7_2.length co52:Value).ownBlock ∧ some k_ ≠ (.slice Ao57 y302.length co57:Value).ownBlock ∧ k_ ≠ gb289) (fun _=>False) rfl rfl ?aO ?aR (fun _ _ h=>h) (fun _ h=>h.elim) ?aF ?aB ?aS ?aL ?_
          (case aR=>repeat (first|exact (Kd.R_reads' HO304.out).2.2|(with_reducible first|apply aC|apply nC|apply dC)))
          (case aB=>exact (kB HB.out))
          (case aF=>exact (fun k_ hk=>⟨Kd.fresh' (Kd.R_lt (rR HO_7.out)) k_ hk,Kd.fresh' (Kd.R_lt (rR HO304.out)) k_ hk,Kd.freshB (g:=gb289) (o:=.cells #[.int .i64 a1] 3 (0,0)) (kN BK289.out) k_ hk⟩))
          (case aO=>exact (rR (Kd.R_mono HO_8.out (fun _ hk=>⟨hk.1.1,⟨hk.2,hk.1.2⟩⟩))))
          (case aS=>exact (kZ HB.out))
          (case aL=>have:=LMc47.out;omega)
          intro v306 w56 ho hb hg hat
          rw [← Ny305.out] at ho
          replace HO_7:=mk0 (Kd.R_after (ok:=(fun k_=>some k_ ≠ (.slice Ao57 y302.length co57:Value).ownBlock ∧ k_ ≠ gb289)) (rR (Kd.R_mono HO_7.out (fun _ hk=>⟨⟨hk.2,hk.1.2⟩,hk.1.1⟩))) hg hat)
          replace BK289:=mk0 (blk_grown (kN BK289.out) hg (Kd.R_away HO_8.out (fun _ hk=>hk.1.2)))
          replace BK290:=mk0 (blk_grown (kN BK290.out) hg (Kd.R_ne HO_8.out BK290.out (by decide)))
          replace HO304:=mk0 (Kd.R_after (ok:=(fun k_=>some k_ ≠ (.slice Ao52 x7_2.length co52:Value).ownBlock ∧ k_ ≠ gb289)) (rR (Kd.R_mono HO304.out (fun _ hk=>⟨⟨hk.1.1.2,hk.2⟩,hk.1.2⟩))) hg hat)
          replace HB:=mk0 (hb)
          have HO307:=mk0 (ho)
          clear HO_8
          clear ho hb hg hat
          refine hK.out _ _ trivial (fun hHeld=>?_)
          clear hK K
          refine norm_ (a':=?_) ?_ ?_
          rotate_left
          ·show Act.put _ (some 61) _ = _
           simp only [Act.put,sA,sO,sS,i64_w,i32_w]
           rfl
          refine one_ (i:=9) (N:=some 68) impl_SparseOf.m18 rfl rfl (one_of HT_.out (by kernel_rfl)) (by decide) (fun K hK=>?_)
          refine Kd.R_lit_step (Kd.int .i64) _ 3 ?hg (N:=68) ?hd (xs:=([Go.bits .and .i64 (rd l0 x43_2) (wrap64 ((ji49) - 1))]:List Int)) (inner:=[.int .i64 (Go.bits .and .i64 (rd l0 x43_2) (wrap64 ((ji49) - 1)))]) (ok:=fun _=>True) (okp:=fun _=>True) ?hr ?hp (fun _ hk=>hk) trivial (Below.refl _ _) (Nat.le_refl _) (by simp) ?_;(case hd=>rfl);(case hg=>rfl);(case hr=>first|(go_simp;done)|(go_simp;rfl));(case hp=>exact (Reps.one (show Kd.M (Kd.int .i64) _ _ _ (Go.bits .and .i64 (rd l0 x43_2) (wrap64 ((ji49) - 1))) [.int .i64 (Go.bits .and .i64 (rd l0 x43_2) (wrap64 ((ji49) - 1)))] from rfl) (Reps.none _ _)))
          intro v309 w58 ho59 hb hg_ hnew_
          clear hg_ hnew_
          (first|rw [← Ny308.out] at ho59|(simp only [Int.reduceToNat] at ho59;rw [← Ny308.out] at ho59))
          have HO310:=mk0 (Kd.R_lower (Kd.R_newB (Kd.R_new' (Kd.R_new' (Kd.R_new' ho59 (Kd.R_lt (rR HO_7.out))) (Kd.R_lt (rR HO304.out))) (Kd.R_lt (rR HO307.out))) (g:=gb289) (o:=.cells #[.int .i64 a1] 3 (0,0)) (kN BK289.out)) (kZ HB.out))
          replace HO_7:=mk0 (Kd.R_elder' (rR HO_7.out) (Kd.R_base ho59) hb)
          replace HO304:=mk0 (Kd.R_elder' (rR HO304.out) (Kd.R_base ho59) hb)
          replace HO307:=mk0 (Kd.R_elder' (rR HO307.out) (Kd.R_base ho59) hb)
          replace BK289:=mk0 (kK BK289.out hb)
          replace BK290:=mk0 (kK BK290.out hb)
          replace HB:=mk0 (kS HB.out hb)
          clear hb ho59
          refine hK.out _ _ trivial (fun hHeld=>?_)
          clear hK K
          refine norm_ (a':=?_) ?_ ?_
          rotate_left
          ·show Act.put _ (some 68) _ = _
           simp only [Act.put,sA,sO,sS,i64_w,i32_w]
           rfl
          exact norm_ (by simp only [putAll,Act.put,sA,sO,sS]) (hCont (.slice Ao57 y302.length co57,v306,v309) _ ⟨(rR (Kd.R_mono HO304.out (fun _ hk=>⟨hk.1.2,⟨hk.2,⟨hk.1.1.1,hk.1.1.2⟩⟩⟩))),(rR (Kd.R_mono HO307.out (fun _ hk=>⟨hk.1.2.1,⟨hk.2,⟨hk.1.1,hk.1.2.2⟩⟩⟩))),(rR (Kd.R_mono HO310.out (fun _ hk=>⟨hk.1.1.2,⟨hk.1.2,⟨hk.1.1.1.2,hk.2⟩⟩⟩))),(rR (Kd.R_mono HO_7.out (fun _ hk=>⟨hk.1.1.1,⟨hk.1.2,⟨hk.2,hk.1.1.2⟩⟩⟩))),(kN BK289.out),(kN BK290.out),(kB HB.out)⟩)
         ·skip
          refine Kd.R_lit_step (Kd.int .i64) _ 3 ?hg (N:=68) ?hd (xs:=([Go.bits .and .i64 (rd l0 x43_2) (wrap64 ((ji49) - 1))]:List Int)) (inner:=[.int .i64 (Go.bits .and .i64 (rd l0 x43_2) (wrap64 ((ji49) - 1)))]) (ok:=fun _=>True) (okp:=fun _=>True) ?hr ?hp (fun _ hk=>hk) trivial (Below.refl _ _) (Nat.le_refl _) (by simp) ?_;(case hd=>rfl);(case hg=>rfl);(case hr=>first|(go_simp;done)|(go_simp;rfl));(case hp=>exact (Reps.one (show Kd.M (Kd.int .i64) _ _ _ (Go.bits .and .i64 (rd l0 x43_2) (wrap64 ((ji49) - 1))) [.int .i64 (Go.bits .and .i64 (rd l0 x43_2) (wrap64 ((ji49) - 1)))] from rfl) (Reps.none _ _)))
          intro v309 w56 ho57 hb hg_ hnew_
          clear hg_ hnew_
          (first|rw [← Ny308.out] at ho57|(simp only [Int.reduceToNat] at ho57;rw [← Ny308.out] at ho57))
          have HO310:=mk0 (Kd.R_lower (Kd.R_newB (Kd.R_new' (Kd.R_new' (Kd.R_new' ho57 (Kd.R_lt (rR HO_7.out))) (Kd.R_lt (rR HO_8.out))) (Kd.R_lt (rR HO304.out))) (g:=gb289) (o:=.cells #[.int .i64 a1] 3 (0,0)) (kN BK289.out)) (kZ HB.out))
          replace HO_7:=mk0 (Kd.R_elder' (rR HO_7.out) (Kd.R_base ho57) hb)
          replace HO_8:=mk0 (Kd.R_elder' (rR HO_8.out) (Kd.R_base ho57) hb)
          replace HO304:=mk0 (Kd.R_elder' (rR HO304.out) (Kd.R_base ho57) hb)
          replace BK289:=mk0 (kK BK289.out hb)
          replace BK290:=mk0 (kK BK290.out hb)
          replace HB:=mk0 (kS HB.out hb)
          clear hb ho57
          obtain⟨Ao59,co59,eo59⟩:=Kd.R_slice HO304.out
          (first|subst eo59|(injection eo59 with f1_ f2_ f3_;have f4_:=f1_.symm;have f5_:=f3_.symm;clear f1_ f2_ f3_;subst f4_;subst f5_))
          refine hK.out _ _ trivial (fun hHeld=>?_)
          clear hK K
          refine norm_ (a':=?_) ?_ ?_
          rotate_left
          ·show Act.put _ (some 68) _ = _
           simp only [Act.put,sA,sO,sS,i64_w,i32_w]
           rfl
          refine one_ (i:=2) (N:=some 61) impl_SparseOf.m18 rfl rfl (one_of HT_.out (by kernel_rfl)) (by decide) (fun K hK=>?_)
          refine Kd.R_append_rows_step (Kd.int .i64) (w0:=w) w.heap.size (by rfl) (.tmp 59) (.tmp 60) 24 3 (.int .i64 0) 8 rfl Try.underlying24 info3 rfl (by decide) (by omega) (.slice Ao51 x8_3.length co51) x8_3 y302 _ _ _ (fun k_=>some k_ ≠ (.slice Ao52 x7_2.length co52:Value).ownBlock ∧ some k_ ≠ (.slice Ao59 y302.length co59:Value).ownBlock ∧ some k_ ≠ (v309:Value).ownBlock ∧ k_ ≠ gb289) (fun _=>False) rfl rfl ?aO ?aR (fun _ _ h=>h) (fun _ h=>h.elim) ?aF ?aB ?aS ?aL ?_
          (case aR=>repeat (first|exact (Kd.R_reads' HO304.out).2.2|(with_reducible first|apply aC|apply nC|apply dC)))
          (case aB=>exact (kB HB.out))
          (case aF=>exact (fun k_ hk=>⟨Kd.fresh' (Kd.R_lt (rR HO_7.out)) k_ hk,Kd.fresh' (Kd.R_lt (rR HO304.out)) k_ hk,Kd.fresh' (Kd.R_lt (rR HO310.out)) k_ hk,Kd.freshB (g:=gb289) (o:=.cells #[.int .i64 a1] 3 (0,0)) (kN BK289.out) k_ hk⟩))
          (case aO=>exact (rR (Kd.R_mono HO_8.out (fun _ hk=>⟨hk.1.1.1,⟨hk.1.2,⟨hk.2,hk.1.1.2⟩⟩⟩))))
          (case aS=>exact (kZ HB.out))
          (case aL=>have:=LMc47.out;omega)
          intro v306 w58 ho hb hg hat
          rw [← Ny305.out] at ho
          replace HO_7:=mk0 (Kd.R_after (ok:=(fun k_=>some k_ ≠ (.slice Ao59 y302.length co59:Value).ownBlock ∧ some k_ ≠ (v309:Value).ownBlock ∧ k_ ≠ gb289)) (rR (Kd.R_mono HO_7.out (fun _ hk=>⟨⟨hk.1.2,⟨hk.2,hk.1.1.2⟩⟩,hk.1.1.1⟩))) hg hat)
          replace BK289:=mk0 (blk_grown (kN BK289.out) hg (Kd.R_away HO_8.out (fun _ hk=>hk.1.1.2)))
          replace BK290:=mk0 (blk_grown (kN BK290.out) hg (Kd.R_ne HO_8.out BK290.out (by decide)))
          replace HO304:=mk0 (Kd.R_after (ok:=(fun k_=>some k_ ≠ (.slice Ao52 x7_2.length co52:Value).ownBlock ∧ some k_ ≠ (v309:Value).ownBlock ∧ k_ ≠ gb289)) (rR (Kd.R_mono HO304.out (fun _ hk=>⟨⟨hk.1.1.1.2,⟨hk.2,hk.1.2⟩⟩,hk.1.1.2⟩))) hg hat)
          replace HO310:=mk0 (Kd.R_after (ok:=(fun k_=>some k_ ≠ (.slice Ao52 x7_2.length co52:Value).ownBlock ∧ some k_ ≠ (.slice Ao59 y302.length co59:Value).ownBlock ∧ k_ ≠ gb289)) (rR (Kd.R_mono HO310.out (fun _ hk=>⟨⟨hk.1.1.1.2,⟨hk.1.2,hk.2⟩⟩,hk.1.1.2⟩))) hg hat)
          replace HB:=mk0 (hb)
          have HO307:=mk0 (ho)
          clear HO_8
          clear ho hb hg hat
          refine hK.out _ _ trivial (fun hHeld=>?_)
          clear hK K
          refine norm_ (a':=?_) ?_ ?_
          rotate_left
          ·show Act.put _ (some 61) _ = _
           simp only [Act.put,sA,sO,sS,i64_w,i32_w]
           rfl
          exact norm_ (by simp only [putAll,Act.put,sA,sO,sS]) (hCont (.slice Ao59 y302.length co59,v306,v309) _ ⟨(rR (Kd.R_mono HO304.out (fun _ hk=>⟨hk.2,⟨hk.1.2.1,⟨hk.1.1,hk.1.2.2⟩⟩⟩))),(rR (Kd.R_mono HO307.out (fun _ hk=>⟨hk.2.1,⟨hk.2.2.1,⟨hk.1,hk.2.2.2⟩⟩⟩))),(rR (Kd.R_mono HO310.out (fun _ hk=>⟨hk.1.2.1,⟨hk.2,⟨hk.1.1,hk.1.2.2⟩⟩⟩))),(rR (Kd.R_mono HO_7.out (fun _ hk=>⟨hk.1.1,⟨hk.2,⟨hk.1.2.1,hk.1.2.2⟩⟩⟩))),(kN BK289.out),(kN BK290.out),(kB HB.out)⟩)
        ·skip
         refine Kd.R_lit_step (Kd.int .i64) _ 3 ?hg (N:=68) ?hd (xs:=([Go.bits .and .i64 (rd l0 x43_2) (wrap64 ((ji49) - 1))]:List Int)) (inner:=[.int .i64 (Go.bits .and .i64 (rd l0 x43_2) (wrap64 ((ji49) - 1)))]) (ok:=fun _=>True) (okp:=fun _=>True) ?hr ?hp (fun _ hk=>hk) trivial (Below.refl _ _) (Nat.le_refl _) (by simp) ?_;(case hd=>rfl);(case hg=>rfl);(case hr=>first|(go_simp;done)|(go_simp;rfl));(case hp=>exact (Reps.one (show Kd.M (Kd.int .i64) _ _ _ (Go.bits .and .i64 (rd l0 x43_2) (wrap64 ((ji49) - 1))) [.int .i64 (Go.bits .and .i64 (rd l0 x43_2) (wrap64 ((ji49) - 1)))] from rfl) (Reps.none _ _)))
         intro v309 w54 ho55 hb hg_ hnew_
         clear hg_ hnew_
         (first|rw [← Ny308.out] at ho55|(simp only [Int.reduceToNat] at ho55;rw [← Ny308.out] at ho55))
         have HO310:=mk0 (Kd.R_lower (Kd.R_newB (Kd.R_new' (Kd.R_new' ho55 (Kd.R_lt (rR HO_7.out))) (Kd.R_lt (rR HO_8.out))) (g:=gb289) (o:=.cells #[.int .i64 a1] 3 (0,0)) (kN BK289.out)) (kZ HB.out))
         replace HO_7:=mk0 (Kd.R_elder' (rR HO_7.out) (Kd.R_base ho55) hb)
         replace HO_8:=mk0 (Kd.R_elder' (rR HO_8.out) (Kd.R_base ho55) hb)
         replace BK289:=mk0 (kK BK289.out hb)
         replace BK290:=mk0 (kK BK290.out hb)
         replace HB:=mk0 (kS HB.out hb)
         clear hb ho55
         refine hK.out _ _ trivial (fun hHeld=>?_)
         clear hK K
         refine norm_ (a':=?_) ?_ ?_
         rotate_left
         ·show Act.put _ (some 68) _ = _
          simp only [Act.put,sA,sO,sS,i64_w,i32_w]
          rfl
         refine one_ (i:=1) (N:=some 60) impl_SparseOf.m22 rfl rfl (one_of HT_.out (by kernel_rfl)) (by decide) (fun K hK=>?_)
         refine Kd.R_lit_step (Kd.int .i64) _ 3 ?hg (N:=60) ?hd (xs:=([1]:List Int)) (inner:=[.int .i64 1]) (ok:=fun _=>True) (okp:=fun _=>True) ?hr ?hp (fun _ hk=>hk) trivial (Below.refl _ _) (Nat.le_refl _) (by simp) ?_;(case hd=>rfl);(case hg=>rfl);(case hr=>first|(go_simp;done)|(go_simp;rfl));(case hp=>exact (Reps.one (show Kd.M (Kd.int .i64) _ _ _ 1 [.int .i64 1] from rfl) (Reps.none _ _)))
         intro v303 w56 ho57 hb hg_ hnew_
         clear hg_ hnew_
         (first|rw [← Ny302.out] at ho57|(simp only [Int.reduceToNat] at ho57;rw [← Ny302.out] at ho57))
         have HO304:=mk0 (Kd.R_lower (Kd.R_newB (Kd.R_new' (Kd.R_new' (Kd.R_new' ho57 (Kd.R_lt (rR HO_7.out))) (Kd.R_lt (rR HO_8.out))) (Kd.R_lt (rR HO310.out))) (g:=gb289) (o:=.cells #[.int .i64 a1] 3 (0,0)) (kN BK289.out)) (kZ HB.out))
         replace HO_7:=mk0 (Kd.R_elder' (rR HO_7.out) (Kd.R_base ho57) hb)
         replace HO_8:=mk0 (Kd.R_elder' (rR HO_8.out) (Kd.R_base ho57) hb)
         replace HO310:=mk0 (Kd.R_elder' (rR HO310.out) (Kd.R_base ho57) hb)
         replace BK289:=mk0 (kK BK289.out hb)
         replace BK290:=mk0 (kK BK290.out hb)
         replace HB:=mk0 (kS HB.out hb)
         clear hb ho57
         obtain⟨Ao59,co59,eo59⟩:=Kd.R_slice HO304.out
         (first|subst eo59|(injection eo59 with f1_ f2_ f3_;have f4_:=f1_.symm;have f5_:=f3_.symm;clear f1_ f2_ f3_;subst f4_;subst f5_))
         refine hK.out _ _ trivial (fun hHeld=>?_)
         clear hK K
         refine norm_ (a':=?_) ?_ ?_
         rotate_left
         ·show Act.put _ (some 60) _ = _
          simp only [Act.put,sA,sO,sS,i64_w,i32_w]
          rfl
         refine one_ (i:=2) (N:=some 61) impl_SparseOf.m18 rfl rfl (one_of HT_.out (by kernel_rfl)) (by decide) (fun K hK=>?_)
         refine Kd.R_append_rows_step (Kd.int .i64) (w0:=w) w.heap.size (by rfl) (.tmp 59) (.tmp 60) 24 3 (.int .i64 0) 8 rfl Try.underlying24 info3 rfl (by decide) (by omega) (.slice Ao51 x8_3.length co51) x8_3 y302 _ _ _ (fun k_=>some k_ ≠ (.slice Ao52 x7_2.length co52:Value).ownBlock ∧ some k_ ≠ (v309:Value).ownBlock ∧ some k_ ≠ (.slice Ao59 y302.length co59:Value).ownBlock ∧ k_ ≠ gb289) (fun _=>False) rfl rfl ?aO ?aR (fun _ _ h=>h) (fun _ h=>h.elim) ?aF ?aB ?aS ?aL ?_
         (case aR=>repeat (first|exact (Kd.R_reads' HO304.out).2.2|(with_reducible first|apply aC|apply nC|apply dC)))
         (case aB=>exact (kB HB.out))
         (case aF=>exact (fun k_ hk=>⟨Kd.fresh' (Kd.R_lt (rR HO_7.out)) k_ hk,Kd.fresh' (Kd.R_lt (rR HO310.out)) k_ hk,Kd.fresh' (Kd.R_lt (rR HO304.out)) k_ hk,Kd.freshB (g:=gb289) (o:=.cells #[.int .i64 a1] 3 (0,0)) (kN BK289.out) k_ hk⟩))
         (case aO=>exact (rR (Kd.R_mono HO_8.out (fun _ hk=>⟨hk.1.1.1,⟨hk.1.2,⟨hk.2,hk.1.1.2⟩⟩⟩))))
         (case aS=>exact (kZ HB.out))
         (case aL=>have:=LMc47.out;omega)
         intro v306 w58 ho hb hg hat
         rw [← Ny305.out] at ho
         replace HO_7:=mk0 (Kd.R_after (ok:=(fun k_=>some k_ ≠ (v309:Value).ownBlock ∧ some k_ ≠ (.slice Ao59 y302.length co59:Value).ownBlock ∧ k_ ≠ gb289)) (rR (Kd.R_mono HO_7.out (fun _ hk=>⟨⟨hk.1.2,⟨hk.2,hk.1.1.2⟩⟩,hk.1.1.1⟩))) hg hat)
         replace BK289:=mk0 (blk_grown (kN BK289.out) hg (Kd.R_away HO_8.out (fun _ hk=>hk.1.1.2)))
         replace BK290:=mk0 (blk_grown (kN BK290.out) hg (Kd.R_ne HO_8.out BK290.out (by decide)))
         replace HO310:=mk0 (Kd.R_after (ok:=(fun k_=>some k_ ≠ (.slice Ao52 x7_2.length co52:Value).ownBlock ∧ some k_ ≠ (.slice Ao59 y302.length co59:Value).ownBlock ∧ k_ ≠ gb289)) (rR (Kd.R_mono HO310.out (fun _ hk=>⟨⟨hk.1.1.1.2,⟨hk.2,hk.1.2⟩⟩,hk.1.1.2⟩))) hg hat)
         replace HO304:=mk0 (Kd.R_after (ok:=(fun k_=>some k_ ≠ (.slice Ao52 x7_2.length co52:Value).ownBlock ∧ some k_ ≠ (v309:Value).ownBlock ∧ k_ ≠ gb289)) (rR (Kd.R_mono HO304.out (fun _ hk=>⟨⟨hk.1.1.1.2,⟨hk.1.2,hk.2⟩⟩,hk.1.1.2⟩))) hg hat)
         replace HB:=mk0 (hb)
         have HO307:=mk0 (ho)
         clear HO_8
         clear ho hb hg hat
         refine hK.out _ _ trivial (fun hHeld=>?_)
         clear hK K
         refine norm_ (a':=?_) ?_ ?_
         rotate_left
         ·show Act.put _ (some 61) _ = _
          simp only [Act.put,sA,sO,sS,i64_w,i32_w]
          rfl
         exact norm_ (by simp only [putAll,Act.put,sA,sO,sS]) (hCont (.slice Ao59 y302.length co59,v306,v309) _ ⟨(rR (Kd.R_mono HO304.out (fun _ hk=>⟨hk.2,⟨hk.1.2.1,⟨hk.1.1,hk.1.2.2⟩⟩⟩))),(rR (Kd.R_mono HO307.out (fun _ hk=>⟨hk.2.2.1,⟨hk.2.1,⟨hk.1,hk.2.2.2⟩⟩⟩))),(rR (Kd.R_mono HO310.out (fun _ hk=>⟨hk.1.2.1,⟨hk.2,⟨hk.1.1,hk.1.2.2⟩⟩⟩))),(rR (Kd.R_mono HO_7.out (fun _ hk=>⟨hk.1.2.1,⟨hk.2,⟨hk.1.1,hk.1.2.2⟩⟩⟩))),(kN BK289.out),(kN BK290.out),(kB HB.out)⟩)
       rintro⟨v303,v306,v309⟩ w60 ⟨h0_,h1_,h2_,h3_,h4_,h5_,h6_⟩
       have n0_:Aside0 (Kd.R (Kd.int .i64) 3 w60 w.heap.size (fun k_=>some k_ ≠ (v306:Value).ownBlock ∧ some k_ ≠ (v309:Value).ownBlock ∧ some k_ ≠ (.slice Ao52 x7_2.length co52:Value).ownBlock ∧ k_ ≠ gb289) v303 y302):=⟨h0_⟩
       have n1_:Aside0 (Kd.R (Kd.int .i64) 3 w60 w.heap.size (fun k_=>some k_ ≠ (v303:Value).ownBlock ∧ some k_ ≠ (v309:Value).ownBlock ∧ some k_ ≠ (.slice Ao52 x7_2.length co52:Value).ownBlock ∧ k_ ≠ gb289) v306 y305):=⟨h1_⟩
       have n2_:Aside0 (Kd.R (Kd.int .i64) 3 w60 w.heap.size (fun k_=>some k_ ≠ (v303:Value).ownBlock ∧ some k_ ≠ (v306:Value).ownBlock ∧ some k_ ≠ (.slice Ao52 x7_2.length co52:Value).ownBlock ∧ k_ ≠ gb289) v309 y308):=⟨h2_⟩
       have n3_:Aside0 (Kd.R (Kd.int .i64) 3 w60 w.heap.size (fun k_=>some k_ ≠ (v303:Value).ownBlock ∧ some k_ ≠ (v306:Value).ownBlock ∧ some k_ ≠ (v309:Value).ownBlock ∧ k_ ≠ gb289) (.slice Ao52 x7_2.length co52) x7_2):=⟨h3_⟩
       have n4_:Aside0 (w60.heap[gb289]? = some (.cells #[.int .i64 a1] 3 (0,0))):=⟨h4_⟩
       have n5_:Aside0 (w60.heap[gb290]? = some (.cells #[.int .i64 0,.int .i64 0,.int .i64 0,.int .i64 0,.int .i64 0,.slice none 0 0,.int .i64 0,.slice none 0 0] 33 (0,0))):=⟨h5_⟩
       have n6_:Aside0 (Below w.heap.size w w60):=⟨h6_⟩
       clear HO_7
       clear HO_8
       clear BK289
       clear BK290
       clear HB
       clear h0_ h1_ h2_ h3_ h4_ h5_ h6_
       have HO304:=n0_
       have HO307:=n1_
       have HO310:=n2_
       have HO_7:=n3_
       have BK289:=n4_
       have BK290:=n5_
       have HB:=n6_
       clear n0_ n1_ n2_ n3_ n4_ n5_ n6_
       have hHeld:=trivial
       obtain⟨Ao62,co62,eo62⟩:=Kd.R_slice HO310.out
       (first|subst eo62|(injection eo62 with f1_ f2_ f3_;have f4_:=f1_.symm;have f5_:=f3_.symm;clear f1_ f2_ f3_;subst f4_;subst f5_))
       refine norm_ (a':=?_) ?_ ?_
       rotate_left
       ·simp only [putAll,Act.put,sA,sO,sS]
        rfl
       refine one_ (i:=10) (N:=some 69) impl_SparseOf.m23 rfl rfl (one_of HT_.out (by kernel_rfl)) (by decide) (fun K hK=>?_)
       refine Kd.R_append_rows_step (Kd.int .i64) (w0:=w) w.heap.size (by rfl) (.tmp 62) (.tmp 68) 24 3 (.int .i64 0) 8 rfl Try.underlying24 info3 rfl (by decide) (by omega) (.slice Ao52 x7_2.length co52) x7_2 y308 _ _ _ (fun k_=>some k_ ≠ (v303:Value).ownBlock ∧ some k_ ≠ (v306:Value).ownBlock ∧ some k_ ≠ (.slice Ao62 y308.length co62:Value).ownBlock ∧ k_ ≠ gb289) (fun _=>False) rfl rfl ?aO ?aR (fun _ _ h=>h) (fun _ h=>h.elim) ?aF ?aB ?aS ?aL ?_
       (case aR=>repeat (first|exact (Kd.R_reads' HO310.out).2.2|(with_reducible first|apply aC|apply nC|apply dC)))
       (case aB=>exact (kB HB.out))
       (case aF=>exact (fun k_ hk=>⟨Kd.fresh' (Kd.R_lt (rR HO304.out)) k_ hk,Kd.fresh' (Kd.R_lt (rR HO307.out)) k_ hk,Kd.fresh' (Kd.R_lt (rR HO310.out)) k_ hk,Kd.freshB (g:=gb289) (o:=.cells #[.int .i64 a1] 3 (0,0)) (kN BK289.out) k_ hk⟩))
       (case aO=>exact (rR HO_7.out))
       (case aS=>exact (kZ HB.out))
       (case aL=>have:=LMc50.out;omega)
       intro v312 w61 ho hb hg hat
       rw [← Ny311.out] at ho
       replace BK289:=mk0 (blk_grown (kN BK289.out) hg (Kd.R_away HO_7.out (fun _ hk=>hk.2.2.2)))
       replace BK290:=mk0 (blk_grown (kN BK290.out) hg (Kd.R_ne HO_7.out BK290.out (by decide)))
       replace HO304:=mk0 (Kd.R_after (ok:=(fun k_=>some k_ ≠ (v306:Value).ownBlock ∧ some k_ ≠ (.slice Ao62 y308.length co62:Value).ownBlock ∧ k_ ≠ gb289)) (rR (Kd.R_mono HO304.out (fun _ hk=>⟨⟨hk.1,⟨hk.2.1,hk.2.2.2⟩⟩,hk.2.2.1⟩))) hg hat)
       replace HO307:=mk0 (Kd.R_after (ok:=(fun k_=>some k_ ≠ (v303:Value).ownBlock ∧ some k_ ≠ (.slice Ao62 y308.length co62:Value).ownBlock ∧ k_ ≠ gb289)) (rR (Kd.R_mono HO307.out (fun _ hk=>⟨⟨hk.1,⟨hk.2.1,hk.2.2.2⟩⟩,hk.2.2.1⟩))) hg hat)
       replace HO310:=mk0 (Kd.R_after (ok:=(fun k_=>some k_ ≠ (v303:Value).ownBlock ∧ some k_ ≠ (v306:Value).ownBlock ∧ k_ ≠ gb289)) (rR (Kd.R_mono HO310.out (fun _ hk=>⟨⟨hk.1,⟨hk.2.1,hk.2.2.2⟩⟩,hk.2.2.1⟩))) hg hat)
       replace HB:=mk0 (hb)
       have HO313:=mk0 (ho)
       clear HO_7
       clear ho hb hg hat
       refine hK.out _ _ trivial (fun hHeld=>?_)
       clear hK K
       refine norm_ (a':=?_) ?_ ?_
       rotate_left
       ·show Act.put _ (some 69) _ = _
        simp only [Act.put,sA,sO,sS,i64_w,i32_w]
        rfl
       refine pure_ (i:=11) (N:=some 8) (v:=?_) (a':=?_) impl_SparseOf.m24 rfl rfl (any_of HT_.out (by kernel_rfl)) (fun _ _ _ h=>h) (Or.inl ⟨by rfl,?_⟩) ?_ ?_
       rotate_left
       ·intro w'
        go_simp
        with_reducible rfl
       rotate_left
       ·simp only [Act.put,sA,sO,sS,i64_w,i32_w]
        rfl
       refine pure_ (i:=12) (N:=some 7) (v:=?_) (a':=?_) impl_SparseOf.m25 rfl rfl (any_of HT_.out (by kernel_rfl)) (fun _ _ _ h=>h) (Or.inl ⟨by rfl,?_⟩) ?_ ?_
       rotate_left
       ·intro w'
        go_simp
        with_reducible rfl
       rotate_left
       ·simp only [Act.put,sA,sO,sS,i64_w,i32_w]
        rfl
       refine done_ (done_of HT_.out (by kernel_rfl)) ?_
       try go_wp2
       go_roundg k3
       case measure=>have:=HJ2.out;have:=HK2.out;have:=HK3.out;omega
       case rel=>exact⟨(y311),(y305),(wrap64 (x43_2 + 1)),(by first|rfl|(simp;done)|(simp [*];done)),H',⟨by have:=HJ2.out;have:=HK2.out;have:=HK3.out;omega⟩,⟨rR (Kd.R_mono HO313.out (fun _ hk=>⟨hk.2.1,hk.2.2.2⟩))⟩,⟨rR (Kd.R_mono HO307.out (fun _ hk=>⟨hk.2,hk.1.2.2⟩))⟩,⟨kN BK289.out⟩,⟨kN BK290.out⟩,⟨kB HB.out⟩⟩
end Go.Proofs.Ytmohfjfgpeapfaa.QFnSparse
