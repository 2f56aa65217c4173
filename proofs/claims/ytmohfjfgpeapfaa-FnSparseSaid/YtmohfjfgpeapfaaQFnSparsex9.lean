-- A walk, made by walk.py, a program of this session's.
import Derived.Test.YtmohfjfgpeapfaaQFnSparsex0
import Derived.Test.YtmohfjfgpeapfaaQFnSparsex5
import Derived.Test.YtmohfjfgpeapfaaQFnSparsex7
import Derived.Test.YtmohfjfgpeapfaaQFnSparsex8
namespace Go.Proofs.Ytmohfjfgpeapfaa.QFnSparse
open Go.RowKit Go.Proofs.YtmohfjfgpeapfaaW.PrintWords Go.Proofs.YtmohfjfgpeapfaaW.PrintLast Go.Proofs.YtmohfjfgpeapfaaW.PrintMore
attribute [local go_sem] max2_int min2_int max_two min_two max_three min_three max_four min_four   -- for this text's walks alone
set_option linter.unusedVariables false
set_option linter.unusedSimpArgs false

/-! ### impl_samePacked: function 62 -/
def impl_samePacked.f (k : Nat) (a0_0 : Int) (a0_1 : Int) (a0_2 : Int) (l0_3 : List Int) (a1_0 : Int) (a1_1 : Int) (a1_2 : Int) (l1_3 : List Int) : Option (Bool) := if a0_0 = a1_0 then (if a0_1 = a1_1 then ((impl_sameBits.f k a0_2 l0_3 a1_2 l1_3).bind fun t368 => (some t368)) else (some false)) else (some false)
theorem impl_samePacked.mono : ∀ a0 a1 a2 a3 a4 a5 a6 a7 k, LeO (impl_samePacked.f k a0 a1 a2 a3 a4 a5 a6 a7) (impl_samePacked.f (k + 1) a0 a1 a2 a3 a4 a5 a6 a7) := by
 intro a0 a1 a2 a3 a4 a5 a6 a7 k
 unfold impl_samePacked.f
 repeat' first|(with_reducible first|exact impl_sameBits.mono _ _ _ _ _|exact LeO.refl _|exact LeO.none _|refine LeO.ite ?_ ?_|refine LeO.bind ?_ (fun _ => ?_))|exact LeO.none _|refine LeO.ite ?_ ?_|refine LeO.bind ?_ (fun _ => ?_)
set_option maxHeartbeats 8000000 in
set_option maxRecDepth 100000 in
theorem impl_samePacked.calls (k : Nat) (a0_0 : Int) (a0_1 : Int) (a0_2 : Int) (A0_3 : Option Addr) (c0_3 : Nat) (l0_3 : List Int) (a1_0 : Int) (a1_1 : Int) (a1_2 : Int) (A1_3 : Option Addr) (c1_3 : Nat) (l1_3 : List Int) (r : Bool) (w : World) (hr0_3 : Kd.C (Kd.int .u64) w A0_3 l0_3.length l0_3) (hc0_3 : l0_3.length ≤ c0_3) (hr1_3 : Kd.C (Kd.int .u64) w A1_3 l1_3.length l1_3) (hc1_3 : l1_3.length ≤ c1_3) (h : impl_samePacked.f k a0_0 a0_1 a0_2 l0_3 a1_0 a1_1 a1_2 l1_3 = some r) :
  Calls Try.prog 62 #[.agg #[.int .i64 a0_0, .int .i64 a0_1, .int .i64 a0_2, .slice A0_3 l0_3.length c0_3], .agg #[.int .i64 a1_0, .int .i64 a1_1, .int .i64 a1_2, .slice A1_3 l1_3.length c1_3]] w fun e w' => e = .returned (.bool r) ∧ Below w.heap.size w w' := by
 have hu31:=Try.underlying31
 have hu29:=Try.underlying29
 have HR0_3:=mk0 hr0_3
 have HC0_3:=mk0 hc0_3
 clear hr0_3 hc0_3
 have HR1_3:=mk0 hr1_3
 have HC1_3:=mk0 hc1_3
 clear hr1_3 hc1_3
 have HB:=mk0 (Below.refl w.heap.size w)
 have H:(if a0_0 = a1_0 then (if a0_1 = a1_1 then ((impl_sameBits.f k a0_2 l0_3 a1_2 l1_3).bind fun t368=>(some t368)) else (some false)) else (some false)) = some r:=h
 clear h
 by_cases c3:a0_0 = a1_0
 ·rw [if_pos c3] at H
  have c3b0:(a0_0 == a1_0) = true:=beq_iff_eq.mpr c3
  have c3b1:(a0_0 != a1_0) = false:=bne_eq_false_iff_eq.mpr c3
  clear c3
  by_cases c4:a0_1 = a1_1
  ·rw [if_pos c4] at H
   have c4b0:(a0_1 == a1_1) = true:=beq_iff_eq.mpr c4
   have c4b1:(a0_1 != a1_1) = false:=bne_eq_false_iff_eq.mpr c4
   clear c4
   replace H:=Option.bind_eq_some_iff.mp H
   obtain⟨t368,A50,H⟩:=H
   replace H:(some t368) = some r:=H
   have A5:=mk0 A50
   clear A50
   obtain rfl:=Option.some.inj H
   go_enter Try.func62,Try.ntmps62
   go_wp2_with (first|((with_reducible refine gate_dst (N:=2) rfl ?_);refine box_event ?hg (N:=2) ?hd (cs:=#[.int .i64 a0_0,.int .i64 a0_1,.int .i64 a0_2,.slice A0_3 l0_3.length c0_3]) (t:=31) ?hr ?_;(case hd=>rfl);(case hg=>rfl);(case hr=>first|(go_simp;done)|(go_simp;rfl));intro gb366 hg w6 hbox hb;have BK366:=mk0 (hbox);have GW366:=mk0 ((by rw [hg];exact (kZ HB.out):w.heap.size ≤ gb366));have GE366:=mk0 ((by rw [hg];exact (kZ HB.out):w.heap.size ≤ gb366));replace HB:=mk0 (kS HB.out hb);clear hb hbox hg)|((with_reducible refine gate_dst (N:=3) rfl ?_);refine box_event ?hg (N:=3) ?hd (cs:=#[.int .i64 a1_0,.int .i64 a1_1,.int .i64 a1_2,.slice A1_3 l1_3.length c1_3]) (t:=31) ?hr ?_;(case hd=>rfl);(case hg=>rfl);(case hr=>first|(go_simp;done)|(go_simp;rfl));intro gb367 hg w7 hbox hb;have BK367:=mk0 (hbox);have GW367:=mk0 ((by rw [hg];exact (kZ HB.out):w.heap.size ≤ gb367));have GE367:=mk0 ((by rw [hg];exact (kZ HB.out):w.heap.size ≤ gb367));replace HB:=mk0 (kS HB.out hb);have NB366_367:=mk0 ((by rw [hg];exact Nat.ne_of_lt (kL BK366.out):gb366 ≠ gb367));have NB367_366:=mk0 ((by rw [hg];exact Nat.ne_of_gt (kL BK366.out):gb367 ≠ gb366));replace BK366:=mk0 (kK BK366.out hb);clear hb hbox hg;have hnb8:=NB366_367.out;have hnc8:=NB367_366.out;obtain⟨hcz9_0,hcz9_1,hcz9_2,hcz9_3,hfz9_0,hfz9_1,hfz9_2,hfz9_3⟩:=cz4 BK366.out;obtain⟨hcz10_0,hcz10_1,hcz10_2,hcz10_3,hfz10_0,hfz10_1,hfz10_2,hfz10_3⟩:=cz4 BK367.out)|(go_at_call 63;(with_reducible refine (impl_sameBits.calls k a0_2 _ _ l0_3 a1_2 _ _ l1_3 t368 _ ?side1 ?side2 ?side3 ?side4 A5.out).mono ?_);(case side1=>exact kC (Kd.C_below HR0_3.out HB.out));(case side2=>exact HC0_3.out);(case side3=>exact kC (Kd.C_below HR1_3.out HB.out));(case side4=>exact HC1_3.out);rintro e w11 ⟨rfl,hb⟩;replace BK366:=mk0 (kK BK366.out hb);replace BK367:=mk0 (kK BK367.out hb);replace HB:=mk0 (kS HB.out hb);(try clear hb)))
   go_ret
   exact⟨by first|rfl|(simp [errW_none,errW_some] <;> rfl)|(simp [*,errW_none,errW_some] <;> rfl),kB HB.out⟩
  ·rw [if_neg c4] at H
   have c4b0:(a0_1 == a1_1) = false:=beq_eq_false_iff_ne.mpr c4
   have c4b1:(a0_1 != a1_1) = true:=bne_iff_ne.mpr c4
   obtain rfl:=Option.some.inj H
   go_enter Try.func62,Try.ntmps62
   go_wp2_with (first|((with_reducible refine gate_dst (N:=2) rfl ?_);refine box_event ?hg (N:=2) ?hd (cs:=#[.int .i64 a0_0,.int .i64 a0_1,.int .i64 a0_2,.slice A0_3 l0_3.length c0_3]) (t:=31) ?hr ?_;(case hd=>rfl);(case hg=>rfl);(case hr=>first|(go_simp;done)|(go_simp;rfl));intro gb366 hg w12 hbox hb;have BK366:=mk0 (hbox);have GW366:=mk0 ((by rw [hg];exact (kZ HB.out):w.heap.size ≤ gb366));have GE366:=mk0 ((by rw [hg];exact (kZ HB.out):w.heap.size ≤ gb366));replace HB:=mk0 (kS HB.out hb);clear hb hbox hg)|((with_reducible refine gate_dst (N:=3) rfl ?_);refine box_event ?hg (N:=3) ?hd (cs:=#[.int .i64 a1_0,.int .i64 a1_1,.int .i64 a1_2,.slice A1_3 l1_3.length c1_3]) (t:=31) ?hr ?_;(case hd=>rfl);(case hg=>rfl);(case hr=>first|(go_simp;done)|(go_simp;rfl));intro gb367 hg w13 hbox hb;have BK367:=mk0 (hbox);have GW367:=mk0 ((by rw [hg];exact (kZ HB.out):w.heap.size ≤ gb367));have GE367:=mk0 ((by rw [hg];exact (kZ HB.out):w.heap.size ≤ gb367));replace HB:=mk0 (kS HB.out hb);have NB366_367:=mk0 ((by rw [hg];exact Nat.ne_of_lt (kL BK366.out):gb366 ≠ gb367));have NB367_366:=mk0 ((by rw [hg];exact Nat.ne_of_gt (kL BK366.out):gb367 ≠ gb366));replace BK366:=mk0 (kK BK366.out hb);clear hb hbox hg;have hnb14:=NB366_367.out;have hnc14:=NB367_366.out;obtain⟨hcz15_0,hcz15_1,hcz15_2,hcz15_3,hfz15_0,hfz15_1,hfz15_2,hfz15_3⟩:=cz4 BK366.out;obtain⟨hcz16_0,hcz16_1,hcz16_2,hcz16_3,hfz16_0,hfz16_1,hfz16_2,hfz16_3⟩:=cz4 BK367.out))
   go_ret
   exact⟨by first|rfl|(simp [errW_none,errW_some] <;> rfl)|(simp [*,errW_none,errW_some] <;> rfl),kB HB.out⟩
 ·rw [if_neg c3] at H
  have c3b0:(a0_0 == a1_0) = false:=beq_eq_false_iff_ne.mpr c3
  have c3b1:(a0_0 != a1_0) = true:=bne_iff_ne.mpr c3
  obtain rfl:=Option.some.inj H
  go_enter Try.func62,Try.ntmps62
  go_wp2_with (first|((with_reducible refine gate_dst (N:=2) rfl ?_);refine box_event ?hg (N:=2) ?hd (cs:=#[.int .i64 a0_0,.int .i64 a0_1,.int .i64 a0_2,.slice A0_3 l0_3.length c0_3]) (t:=31) ?hr ?_;(case hd=>rfl);(case hg=>rfl);(case hr=>first|(go_simp;done)|(go_simp;rfl));intro gb366 hg w17 hbox hb;have BK366:=mk0 (hbox);have GW366:=mk0 ((by rw [hg];exact (kZ HB.out):w.heap.size ≤ gb366));have GE366:=mk0 ((by rw [hg];exact (kZ HB.out):w.heap.size ≤ gb366));replace HB:=mk0 (kS HB.out hb);clear hb hbox hg)|((with_reducible refine gate_dst (N:=3) rfl ?_);refine box_event ?hg (N:=3) ?hd (cs:=#[.int .i64 a1_0,.int .i64 a1_1,.int .i64 a1_2,.slice A1_3 l1_3.length c1_3]) (t:=31) ?hr ?_;(case hd=>rfl);(case hg=>rfl);(case hr=>first|(go_simp;done)|(go_simp;rfl));intro gb367 hg w18 hbox hb;have BK367:=mk0 (hbox);have GW367:=mk0 ((by rw [hg];exact (kZ HB.out):w.heap.size ≤ gb367));have GE367:=mk0 ((by rw [hg];exact (kZ HB.out):w.heap.size ≤ gb367));replace HB:=mk0 (kS HB.out hb);have NB366_367:=mk0 ((by rw [hg];exact Nat.ne_of_lt (kL BK366.out):gb366 ≠ gb367));have NB367_366:=mk0 ((by rw [hg];exact Nat.ne_of_gt (kL BK366.out):gb367 ≠ gb366));replace BK366:=mk0 (kK BK366.out hb);clear hb hbox hg;have hnb19:=NB366_367.out;have hnc19:=NB367_366.out;obtain⟨hcz20_0,hcz20_1,hcz20_2,hcz20_3,hfz20_0,hfz20_1,hfz20_2,hfz20_3⟩:=cz4 BK366.out;obtain⟨hcz21_0,hcz21_1,hcz21_2,hcz21_3,hfz21_0,hfz21_1,hfz21_2,hfz21_3⟩:=cz4 BK367.out))
  go_ret
  exact⟨by first|rfl|(simp [errW_none,errW_some] <;> rfl)|(simp [*,errW_none,errW_some] <;> rfl),kB HB.out⟩

/-! ### impl_Sparse_read: function 38 -/
def impl_Sparse_read.l0 : Nat → List Int → Int → List Int → List Int → Int → Int → Int → Int → Int → Int → Int → List Int → Int → List Int → Option (List Int × Bool)
 | 0, _, _, _, _, _, _, _, _, _, _, _, _, _, _ => none
 | k + 1, x6, x7, x14, x17, x19, x20, x370000, x370001, x370002, x370003, x370004, x370005, x370006, x370007 => if x20 < x19 then (if 0 ≤ x20 then (if x20 < (x17.length : Int) then (if (rd x17 x20) = 0 then (impl_Sparse_read.l0 k x6 (wrap64 (x7 + 1)) x14 x17 x19 (wrap64 (x20 + 1)) x370000 x370001 x370002 x370003 x370004 x370005 x370006 x370007) else (if (x6.length : Int) = (x14.length : Int) then (some (([] : List Int), false)) else (if 0 ≤ x370002 then (if 0 ≤ (x6.length : Int) then (if (x6.length : Int) < (x14.length : Int) then (if x6.length < 17592186044416 then (impl_Sparse_read.l0 k (x6 ++ [Go.bits .or .i64 (shl .i64 x7 x370002) (rd x14 (x6.length : Int))]) x7 x14 x17 x19 (wrap64 (x20 + 1)) x370000 x370001 x370002 x370003 x370004 x370005 x370006 x370007) else (none)) else (none)) else (none)) else (none)))) else (none)) else (none)) else ((impl_SparseOf.f k x6 x370000).bind fun bt381 => (if bt381.2.2.2.2.2.2.2.2 = true then (if bt381.2.1 = x370001 then ((impl_samePacked.f k bt381.2.2.1 bt381.2.2.2.1 bt381.2.2.2.2.1 bt381.2.2.2.2.2.1 x370002 x370003 x370004 x370005).bind fun t395 => (if t395 = true then ((impl_sameBits.f k bt381.2.2.2.2.2.2.1 bt381.2.2.2.2.2.2.2.1 x370006 x370007).bind fun t396 => (some (x6, t396))) else (some (x6, false)))) else (some (x6, false))) else (some (x6, false))))
def impl_Sparse_read.f (k : Nat) (a0_0 : Int) (a0_1 : Int) (a0_2 : Int) (a0_3 : Int) (a0_4 : Int) (l0_5 : List Int) (a0_6 : Int) (l0_7 : List Int) : Option (List Int × Bool) := (impl_PackList.f k a0_2 a0_3 a0_4 l0_5).bind fun t370 => ((impl_BitsList.f k a0_6 l0_7).bind fun t373 => (impl_Sparse_read.l0 k ([] : List Int) 0 t370 t373 (t373.length : Int) 0 a0_0 a0_1 a0_2 a0_3 a0_4 l0_5 a0_6 l0_7))
theorem impl_Sparse_read.mono_l : ∀ k, (∀ y0 y1 y2 y3 y4 y5 y6 y7 y8 y9 y10 y11 y12 y13, LeO (impl_Sparse_read.l0 k y0 y1 y2 y3 y4 y5 y6 y7 y8 y9 y10 y11 y12 y13) (impl_Sparse_read.l0 (k + 1) y0 y1 y2 y3 y4 y5 y6 y7 y8 y9 y10 y11 y12 y13))
 | 0 => fun _ _ _ _ _ _ _ _ _ _ _ _ _ _ r h => by simp [impl_Sparse_read.l0] at h
 | k + 1 => by
  have ih0 := impl_Sparse_read.mono_l k
  ·intro y0 y1 y2 y3 y4 y5 y6 y7 y8 y9 y10 y11 y12 y13
   unfold impl_Sparse_read.l0
   repeat' first|(with_reducible first|exact ih0 _ _ _ _ _ _ _ _ _ _ _ _ _ _|exact impl_BitsList.mono _ _ _|exact impl_PackList.mono _ _ _ _ _|exact impl_SparseOf.mono _ _ _|exact impl_sameBits.mono _ _ _ _ _|exact impl_samePacked.mono _ _ _ _ _ _ _ _ _|exact LeO.refl _|exact LeO.none _|refine LeO.ite ?_ ?_|refine LeO.bind ?_ (fun _ => ?_))|exact LeO.none _|refine LeO.ite ?_ ?_|refine LeO.bind ?_ (fun _ => ?_)
theorem impl_Sparse_read.mono : ∀ a0 a1 a2 a3 a4 a5 a6 a7 k, LeO (impl_Sparse_read.f k a0 a1 a2 a3 a4 a5 a6 a7) (impl_Sparse_read.f (k + 1) a0 a1 a2 a3 a4 a5 a6 a7) := by
 intro a0 a1 a2 a3 a4 a5 a6 a7 k
 have ih0 := impl_Sparse_read.mono_l k
 unfold impl_Sparse_read.f
 repeat' first|(with_reducible first|exact ih0 _ _ _ _ _ _ _ _ _ _ _ _ _ _|exact impl_BitsList.mono _ _ _|exact impl_PackList.mono _ _ _ _ _|exact impl_SparseOf.mono _ _ _|exact impl_sameBits.mono _ _ _ _ _|exact impl_samePacked.mono _ _ _ _ _ _ _ _ _|exact LeO.refl _|exact LeO.none _|refine LeO.ite ?_ ?_|refine LeO.bind ?_ (fun _ => ?_))|exact LeO.none _|refine LeO.ite ?_ ?_|refine LeO.bind ?_ (fun _ => ?_)
def impl_Sparse_read.T1 : Bool × List (List Nat × List Nat) := (true, [([], []), ([0], [0]), ([1], [1]), ([], []), ([3], [3]), ([4, 2], [4]), ([2, 5, 0, 1, 2], [2]), ([5, 6, 0, 1, 2, 3, 4, 5, 6], [5])])
def impl_Sparse_read.B1 : List Nat := [0, 1, 3, 0, 8, 31, 63, 127]
theorem impl_Sparse_read.tab1 : rtab .any (opsOf Try.f38 1) = impl_Sparse_read.T1 := by kernel_rfl
theorem impl_Sparse_read.bits1 : waitsOk impl_Sparse_read.T1.2 impl_Sparse_read.B1 = true := by kernel_rfl
def impl_Sparse_read.T7 : Bool × List (List Nat × List Nat) := (true, [([], []), ([], []), ([], []), ([2], [2]), ([3], [3]), ([1, 4], [1, 4]), ([], []), ([], []), ([7], [7]), ([6, 8], [6, 8]), ([9], [9]), ([5, 10], [5, 10]), ([11], [11]), ([0, 12], [0, 12]), ([13, 13, 0, 1, 2, 3, 4, 5, 6, 7, 8, 9, 10, 11, 12, 13], [0, 7, 13])])
def impl_Sparse_read.B7 : List Nat := [0, 0, 0, 4, 12, 30, 0, 0, 128, 448, 960, 2046, 4094, 8191, 16383]
theorem impl_Sparse_read.tab7 : rtab .any (opsOf Try.f38 7) = impl_Sparse_read.T7 := by kernel_rfl
theorem impl_Sparse_read.bits7 : waitsOk impl_Sparse_read.T7.2 impl_Sparse_read.B7 = true := by kernel_rfl
abbrev impl_Sparse_read.m0 : Array Bool := #[F,F,F,F,F,F,F,F]
abbrev impl_Sparse_read.m1 : Array Bool := #[T,F,F,F,F,F,F,F]
abbrev impl_Sparse_read.m2 : Array Bool := #[T,F,F,T,F,F,F,F]
abbrev impl_Sparse_read.m3 : Array Bool := #[T,T,F,T,F,F,F,F]
abbrev impl_Sparse_read.m4 : Array Bool := #[T,T,F,T,T,F,F,F]
abbrev impl_Sparse_read.m5 : Array Bool := #[T,T,T,T,T,F,F,F]
abbrev impl_Sparse_read.m6 : Array Bool := #[F,F,F,F,F,F,F,F,F,F,F,F,F,F,F]
abbrev impl_Sparse_read.m7 : Array Bool := #[T,F,F,F,F,F,F,F,F,F,F,F,F,F,F]
abbrev impl_Sparse_read.m8 : Array Bool := #[T,T,F,F,F,F,F,F,F,F,F,F,F,F,F]
abbrev impl_Sparse_read.m9 : Array Bool := #[T,T,T,F,F,F,F,F,F,F,F,F,F,F,F]
abbrev impl_Sparse_read.m10 : Array Bool := #[T,T,T,T,F,F,F,F,F,F,F,F,F,F,F]
abbrev impl_Sparse_read.m11 : Array Bool := #[T,T,T,T,F,F,T,F,F,F,F,F,F,F,F]
abbrev impl_Sparse_read.m12 : Array Bool := #[T,T,T,T,F,F,T,T,F,F,F,F,F,F,F]
abbrev impl_Sparse_read.m13 : Array Bool := #[T,T,T,T,F,F,T,T,T,F,F,F,F,F,F]
abbrev impl_Sparse_read.m14 : Array Bool := #[T,T,T,T,F,F,T,T,T,T,F,F,F,F,F]
abbrev impl_Sparse_read.m15 : Array Bool := #[T,T,T,T,T,F,T,T,T,T,F,F,F,F,F]
abbrev impl_Sparse_read.m16 : Array Bool := #[T,T,T,T,T,T,T,T,T,T,F,F,F,F,F]
abbrev impl_Sparse_read.m17 : Array Bool := #[T,T,T,T,T,T,T,T,T,T,T,F,F,F,F]
abbrev impl_Sparse_read.m18 : Array Bool := #[T,T,T,T,T,T,T,T,T,T,T,T,F,F,F]
abbrev impl_Sparse_read.m19 : Array Bool := #[T,T,T,T,T,T,T,T,T,T,T,T,T,F,F]
abbrev impl_Sparse_read.m20 : Array Bool := #[T,T,T,T,T,T,T,T,T,T,T,T,T,T,F]
abbrev impl_Sparse_read.m21 : Array Bool := #[T,T,T,T,T,T,T,T,T,T,T,T,T,T,T]
set_option maxHeartbeats 8000000 in
set_option maxRecDepth 100000 in
theorem impl_Sparse_read.calls (k : Nat) (a0_0 : Int) (a0_1 : Int) (a0_2 : Int) (a0_3 : Int) (a0_4 : Int) (A0_5 : Option Addr) (c0_5 : Nat) (l0_5 : List Int) (a0_6 : Int) (A0_7 : Option Addr) (c0_7 : Nat) (l0_7 : List Int) (r1 : List Int) (r2 : Bool) (w : World) (hr0_5 : Kd.C (Kd.int .u64) w A0_5 l0_5.length l0_5) (hc0_5 : l0_5.length ≤ c0_5) (hr0_7 : Kd.C (Kd.int .u64) w A0_7 l0_7.length l0_7) (hc0_7 : l0_7.length ≤ c0_7) (h : impl_Sparse_read.f k a0_0 a0_1 a0_2 a0_3 a0_4 l0_5 a0_6 l0_7 = some (r1, r2)) :
  Calls Try.prog 38 #[.agg #[.int .i64 a0_0, .int .i64 a0_1, .int .i64 a0_2, .int .i64 a0_3, .int .i64 a0_4, .slice A0_5 l0_5.length c0_5, .int .i64 a0_6, .slice A0_7 l0_7.length c0_7]] w fun e w' => ∃ v0_ : Value, e = .returned (.tuple #[v0_, .bool r2]) ∧ Kd.R (Kd.int .i64) 3 w' w.heap.size (fun _ => True) v0_ r1 ∧ Below w.heap.size w w' := by
 have hu33:=Try.underlying33
 have hu31:=Try.underlying31
 have hu29:=Try.underlying29
 have HR0_5:=mk0 hr0_5
 have HC0_5:=mk0 hc0_5
 clear hr0_5 hc0_5
 have HR0_7:=mk0 hr0_7
 have HC0_7:=mk0 hc0_7
 clear hr0_7 hc0_7
 have HB:=mk0 (Below.refl w.heap.size w)
 have H:((impl_PackList.f k a0_2 a0_3 a0_4 l0_5).bind fun t370=>((impl_BitsList.f k a0_6 l0_7).bind fun t373=>(impl_Sparse_read.l0 k ([]:List Int) 0 t370 t373 (t373.length:Int) 0 a0_0 a0_1 a0_2 a0_3 a0_4 l0_5 a0_6 l0_7))) = some (r1,r2):=h
 clear h
 replace H:=Option.bind_eq_some_iff.mp H
 obtain⟨t370,A20,H⟩:=H
 replace H:((impl_BitsList.f k a0_6 l0_7).bind fun t373=>(impl_Sparse_read.l0 k ([]:List Int) 0 t370 t373 (t373.length:Int) 0 a0_0 a0_1 a0_2 a0_3 a0_4 l0_5 a0_6 l0_7)) = some (r1,r2):=H
 have A2:=mk0 A20
 clear A20
 replace H:=Option.bind_eq_some_iff.mp H
 obtain⟨t373,A30,H⟩:=H
 replace H:(impl_Sparse_read.l0 k ([]:List Int) 0 t370 t373 (t373.length:Int) 0 a0_0 a0_1 a0_2 a0_3 a0_4 l0_5 a0_6 l0_7) = some (r1,r2):=H
 have A3:=mk0 A30
 clear A30
 have H':=mk0 H
 clear H
 go_enter Try.func38,Try.ntmps38
 try go_wp2_with (first|((with_reducible refine gate_dst (N:=1) rfl ?_);refine box_event ?hg (N:=1) ?hd (cs:=#[.int .i64 a0_0,.int .i64 a0_1,.int .i64 a0_2,.int .i64 a0_3,.int .i64 a0_4,.slice A0_5 l0_5.length c0_5,.int .i64 a0_6,.slice A0_7 l0_7.length c0_7]) (t:=33) ?hr ?_;(case hd=>rfl);(case hg=>rfl);(case hr=>first|(go_simp;done)|(go_simp;rfl));intro gb369 hg w4 hbox hb;have BK369:=mk0 (hbox);have GW369:=mk0 ((by rw [hg];exact (kZ HB.out):w.heap.size ≤ gb369));have GE369:=mk0 ((by rw [hg];exact (kZ HB.out):w.heap.size ≤ gb369));replace HB:=mk0 (kS HB.out hb);clear hb hbox hg))
 replace BK369:=mk0 (dB BK369.out)
 replace HB:=mk0 (dZ HB.out)
 refine start_ (n:=8) (S:=fun w'=>w'.cell? ⟨gb369,0,none⟩ = some (.int .i64 a0_0) ∧ w'.cell? ⟨gb369,1,none⟩ = some (.int .i64 a0_1) ∧ w'.cell? ⟨gb369,2,none⟩ = some (.int .i64 a0_2) ∧ w'.cell? ⟨gb369,3,none⟩ = some (.int .i64 a0_3) ∧ w'.cell? ⟨gb369,4,none⟩ = some (.int .i64 a0_4) ∧ w'.cell? ⟨gb369,5,none⟩ = some (.slice A0_5 l0_5.length c0_5) ∧ w'.cell? ⟨gb369,6,none⟩ = some (.int .i64 a0_6) ∧ w'.cell? ⟨gb369,7,none⟩ = some (.slice A0_7 l0_7.length c0_7)) (ds:=[]) impl_Sparse_read.m0 (by kernel_rfl) rfl rfl (ck8 BK369.out) (fun hHeld=>?_);refine with_tabW impl_Sparse_read.tab1 impl_Sparse_read.bits1 (fun HT_ HW_=>?_)
 generalize w4.drew = w5 at BK369 HB hHeld ⊢
 refine pure_ (i:=0) (N:=some 12) (v:=?_) (a':=?_) impl_Sparse_read.m1 rfl rfl (any_of HT_.out (by kernel_rfl)) (fun _ _ _ h=>h) (Or.inl ⟨by rfl,?_⟩) ?_ ?_
 rotate_left
 ·intro w'
  go_simp
  with_reducible rfl
 rotate_left
 ·simp only [Act.put,sA,sO,sS,i64_w,i32_w]
  rfl
 refine pure_ (i:=3) (N:=some 15) (v:=?_) (a':=?_) impl_Sparse_read.m2 rfl rfl (any_of HT_.out (by kernel_rfl)) (fun _ _ _ h=>h) (Or.inl ⟨by rfl,?_⟩) ?_ ?_
 rotate_left
 ·intro w'
  go_simp
  with_reducible rfl
 rotate_left
 ·simp only [Act.put,sA,sO,sS,i64_w,i32_w]
  rfl
 refine take_ (i:=1) (N:=some 13) (v:=?_) (a':=?_) impl_Sparse_read.m3 rfl rfl (take_ofW HT_.out HW_.out (by kernel_rfl)) (fun _ _ _ h=>h) (Or.inl ⟨by rfl,?_⟩) hHeld ?_ ?_
 rotate_left
 ·rintro w' ⟨s0,s1,s2,s3,s4,s5,s6,s7⟩
  go_simp
  with_reducible rfl
 rotate_left
 ·simp only [Act.put,sA,sO,sS,i64_w,i32_w]
  rfl
 refine take_ (i:=4) (N:=some 16) (v:=?_) (a':=?_) impl_Sparse_read.m4 rfl rfl (take_ofW HT_.out HW_.out (by kernel_rfl)) (fun _ _ _ h=>h) (Or.inl ⟨by rfl,?_⟩) hHeld ?_ ?_
 rotate_left
 ·rintro w' ⟨s0,s1,s2,s3,s4,s5,s6,s7⟩
  go_simp
  with_reducible rfl
 rotate_left
 ·simp only [Act.put,sA,sO,sS,i64_w,i32_w]
  rfl
 refine one_ (i:=2) (N:=some 14) impl_Sparse_read.m5 rfl rfl (one_of HT_.out (by kernel_rfl)) (by decide) (fun K hK=>?_)
 refine goes_ Try.func60 (by kernel_rfl) rfl #[.agg #[.int .i64 a0_2,.int .i64 a0_3,.int .i64 a0_4,.slice A0_5 l0_5.length c0_5]] (by rfl) rfl rfl (by (try simp only [mA,mC,mN]);first|done|rfl|(simp only [List.length_drop,List.length_take];done)|(simp only [List.length_drop,List.length_take];rfl)) ?_
 with_reducible refine (impl_PackList.calls k a0_2 a0_3 a0_4 _ _ l0_5 t370 _ ?side1 ?side2 A2.out).mono ?_
 (case side1=>exact kC (Kd.C_below HR0_5.out HB.out))
 (case side2=>exact HC0_5.out)
 rintro e w6 ⟨v371,rfl,ho0,hb⟩
 refine⟨_,rfl,?_⟩
 have HO372:=mk0 (Kd.R_lower ho0 (kZ HB.out))
 replace BK369:=mk0 (kK BK369.out hb)
 replace HB:=mk0 (kS HB.out hb)
 (try clear hb)
 (try clear ho0)
 refine hK.out _ _ (ck8 BK369.out) (fun hHeld=>?_)
 clear hK K
 refine norm_ (a':=?_) ?_ ?_
 rotate_left
 ·show Act.put _ (some 14) _ = _
  simp only [Act.put,sA,sO,sS,i64_w,i32_w]
  rfl
 refine one_ (i:=5) (N:=some 17) #[true,true,true,true,true,true,false,false] rfl rfl (one_of HT_.out (by kernel_rfl)) (by decide) (fun K hK=>?_)
 refine goes_ Try.func61 (by kernel_rfl) rfl #[.agg #[.int .i64 a0_6,.slice A0_7 l0_7.length c0_7]] (by rfl) rfl rfl (by (try simp only [mA,mC,mN]);first|done|rfl|(simp only [List.length_drop,List.length_take];done)|(simp only [List.length_drop,List.length_take];rfl)) ?_
 with_reducible refine (impl_BitsList.calls k a0_6 _ _ l0_7 t373 _ ?side1 ?side2 A3.out).mono ?_
 (case side1=>exact kC (Kd.C_below HR0_7.out HB.out))
 (case side2=>exact HC0_7.out)
 rintro e w7 ⟨v374,rfl,ho0,hb⟩
 refine⟨_,rfl,?_⟩
 have HO375:=mk0 (Kd.R_lower (Kd.R_new' ho0 (Kd.R_lt (rR HO372.out))) (kZ HB.out))
 replace HO372:=mk0 (Kd.R_elder' (rR HO372.out) (Kd.R_base ho0) hb)
 replace BK369:=mk0 (kK BK369.out hb)
 replace HB:=mk0 (kS HB.out hb)
 (try clear hb)
 (try clear ho0)
 refine hK.out _ _ (ck8 BK369.out) (fun hHeld=>?_)
 clear hK K
 refine norm_ (a':=?_) ?_ ?_
 rotate_left
 ·show Act.put _ (some 17) _ = _
  simp only [Act.put,sA,sO,sS,i64_w,i32_w]
  rfl
 refine pure_ (i:=6) (N:=some 4) (v:=?_) (a':=?_) #[true,true,true,true,true,true,true,false] rfl rfl (any_of HT_.out (by kernel_rfl)) (fun _ _ _ h=>h) (Or.inl ⟨by rfl,?_⟩) ?_ ?_
 rotate_left
 ·intro w'
  go_simp
  with_reducible rfl
 rotate_left
 ·simp only [Act.put,sA,sO,sS,i64_w,i32_w]
  rfl
 refine pure_ (i:=7) (N:=some 5) (v:=?_) (a':=?_) #[true,true,true,true,true,true,true,true] rfl rfl (any_of HT_.out (by kernel_rfl)) (fun _ _ _ h=>h) (Or.inl ⟨by rfl,?_⟩) ?_ ?_
 rotate_left
 ·intro w'
  go_simp
  with_reducible rfl
 rotate_left
 ·simp only [Act.put,sA,sO,sS,i64_w,i32_w]
  rfl
 refine done_ (done_of HT_.out (by kernel_rfl)) ?_
 obtain⟨Ao8,co8,eo8⟩:=Kd.R_slice HO375.out
 subst eo8
 try go_wp2
 go_loopg [6,7,20] k (fun kq v6 v7 v20 w'=>∃ (x6_1:List Int) (x7_1:Int) (x20_1:Int),v7 = .int .i64 x7_1 ∧ v20 = .int .i64 x20_1 ∧ Aside0 (impl_Sparse_read.l0 kq x6_1 x7_1 t370 t373 (t373.length:Int) x20_1 a0_0 a0_1 a0_2 a0_3 a0_4 l0_5 a0_6 l0_7 = some (r1,r2)) ∧ Aside0 (kq ≤ k) ∧ Aside0 (Kd.R (Kd.int .i64) 3 w' w.heap.size (fun k_=>some k_ ≠ (v371:Value).ownBlock ∧ some k_ ≠ ((.slice Ao8 t373.length co8):Value).ownBlock) v6 x6_1) ∧ Aside0 (Kd.R (Kd.int .i64) 3 w' w.heap.size (fun k_=>some k_ ≠ (v6:Value).ownBlock ∧ some k_ ≠ ((.slice Ao8 t373.length co8):Value).ownBlock) v371 t370) ∧ Aside0 (Kd.R (Kd.int .i64) 3 w' w.heap.size (fun k_=>some k_ ≠ (v6:Value).ownBlock ∧ some k_ ≠ (v371:Value).ownBlock) (.slice Ao8 t373.length co8) t373) ∧ Aside0 (w'.heap[gb369]? = some (.cells #[.int .i64 a0_0,.int .i64 a0_1,.int .i64 a0_2,.int .i64 a0_3,.int .i64 a0_4,(.slice A0_5 l0_5.length c0_5),.int .i64 a0_6,(.slice A0_7 l0_7.length c0_7)] 33 (0,0))) ∧ Aside0 (Below w.heap.size w w'))
 case atStart=>exact⟨(([]:List Int)),(0),(0),(by first|rfl|(simp;done)|(simp [*];done)),(by first|rfl|(simp;done)|(simp [*];done)),H',⟨Nat.le_refl _⟩,⟨by first|exact Kd.R_nil _ _ _ _ _|exact Kd.N_nil _ _ _ _ _|exact Kd.V_nil _ _ _ _ _|exact Kd.Q_nil _ _ _ _ _|exact Kd.S_nil _ _ _ _ _⟩,⟨by (with_reducible repeat (first|apply aR|apply nR|apply dR));exact Kd.R_mono HO372.out (fun _ hk=>⟨(by simp [Value.ownBlock]),hk.2⟩)⟩,⟨by (with_reducible repeat (first|apply aR|apply nR|apply dR));exact Kd.R_mono HO375.out (fun _ hk=>⟨(by simp [Value.ownBlock]),hk.2⟩)⟩,⟨kN BK369.out⟩,⟨kB HB.out⟩⟩
 case round =>
  clear H'
  try clear p2
  try clear c3
  try clear c6
  obtain⟨x6_1,x7_1,x20_1,rfl,rfl,HA,HK1,HO_6,HO_14,HO_17,BK369,HB⟩:=hrel
  cases gk with
  | zero=>exact absurd HA.out (by simp [impl_Sparse_read.l0])
  | succ k1 =>
   have H:=HA.out
   clear HA
   simp only [impl_Sparse_read.l0] at H
   by_cases c9:x20_1 < (t373.length:Int)
   ·rw [if_pos c9] at H
    have c9b0:decide (x20_1 < (t373.length:Int)) = true:=decide_eq_true c9
    clear c9
    by_cases c10:0 ≤ x20_1
    rotate_left
    ·rw [if_neg c10] at H
     exact absurd H (by simp)
    rw [if_pos c10] at H
    have c10b0:decide (0 ≤ x20_1) = true:=decide_eq_true c10
    clear c10
    by_cases c11:x20_1 < (t373.length:Int)
    rotate_left
    ·rw [if_neg c11] at H
     exact absurd H (by simp)
    rw [if_pos c11] at H
    have c11b0:decide (x20_1 < (t373.length:Int)) = true:=decide_eq_true c11
    clear c11
    by_cases c12:(rd t373 x20_1) = 0
    ·rw [if_pos c12] at H
     have c12b0:((rd t373 x20_1) == 0) = true:=beq_iff_eq.mpr c12
     have c12b1:((rd t373 x20_1) != 0) = false:=bne_eq_false_iff_eq.mpr c12
     clear c12
     have H':=mk0 H
     clear H
     have p376:0 ≤ (x20_1:Int):=of_decide_eq_true (by first|(with_reducible assumption)|assumption)
     have q376:x20_1 < (t373.length:Int):=of_decide_eq_true (by first|(with_reducible assumption)|assumption)
     obtain⟨ad376,e376,hx376_0⟩:=Kd.at_int (Kd.R_reads' HO_17.out).2.2 x20_1 p376 q376
     cases e376
     replace p376:=eq_true p376
     replace q376:=eq_true q376
     go_wp2
     go_roundg k1
     case measure=>have:=HK1.out;omega
     case rel=>exact⟨(x6_1),(wrap64 (x7_1 + 1)),(wrap64 (x20_1 + 1)),(by first|rfl|(simp;done)|(simp [*];done)),(by first|rfl|(simp;done)|(simp [*];done)),H',⟨by have:=HK1.out;omega⟩,⟨rR HO_6.out⟩,⟨rR HO_14.out⟩,⟨rR HO_17.out⟩,⟨kN BK369.out⟩,⟨kB HB.out⟩⟩
    rw [if_neg c12] at H
    have c12b0:((rd t373 x20_1) == 0) = false:=beq_eq_false_iff_ne.mpr c12
    have c12b1:((rd t373 x20_1) != 0) = true:=bne_iff_ne.mpr c12
    by_cases c13:(x6_1.length:Int) = (t370.length:Int)
    ·rw [if_pos c13] at H
     have c13b0:((x6_1.length:Int) == (t370.length:Int)) = true:=beq_iff_eq.mpr c13
     have c13b1:((x6_1.length:Int) != (t370.length:Int)) = false:=bne_eq_false_iff_eq.mpr c13
     have c13b2:(x6_1.length == t370.length) = true:=by first|simpa using c13|(simp at c13 ⊢;omega)
     clear c13
     simp only [Option.some.injEq,Prod.mk.injEq] at H
     obtain⟨rfl,rfl⟩:=H
     have p376:0 ≤ (x20_1:Int):=of_decide_eq_true (by first|(with_reducible assumption)|assumption)
     have q376:x20_1 < (t373.length:Int):=of_decide_eq_true (by first|(with_reducible assumption)|assumption)
     obtain⟨ad376,e376,hx376_0⟩:=Kd.at_int (Kd.R_reads' HO_17.out).2.2 x20_1 p376 q376
     cases e376
     replace p376:=eq_true p376
     replace q376:=eq_true q376
     obtain⟨Ao14,co14,eo14⟩:=Kd.R_slice HO_6.out
     subst eo14
     obtain⟨Ao15,co15,eo15⟩:=Kd.R_slice HO_14.out
     subst eo15
     go_wp2
     go_ret2
     exact⟨_,by first|rfl|(simp [errW_none,errW_some] <;> rfl)|(simp [*,errW_none,errW_some] <;> rfl),by first|exact Kd.R_nil _ _ _ _ _|exact Kd.N_nil _ _ _ _ _|exact Kd.V_nil _ _ _ _ _|exact Kd.Q_nil _ _ _ _ _|exact Kd.S_nil _ _ _ _ _,kB HB.out⟩
    rw [if_neg c13] at H
    have c13b0:((x6_1.length:Int) == (t370.length:Int)) = false:=beq_eq_false_iff_ne.mpr c13
    have c13b1:((x6_1.length:Int) != (t370.length:Int)) = true:=bne_iff_ne.mpr c13
    have c13b2:(x6_1.length == t370.length) = false:=by first|simpa using c13|(simp at c13 ⊢;omega)
    by_cases c16:0 ≤ a0_2
    rotate_left
    ·rw [if_neg c16] at H
     exact absurd H (by simp)
    rw [if_pos c16] at H
    have c16b0:=eq_true c16
    have c16b1:decide (0 ≤ a0_2) = true:=decide_eq_true c16
    clear c16
    obtain⟨ji17,hji17⟩:∃ j_:Int,(shl .i64 x7_1 a0_2) = j_:=⟨_,rfl⟩
    replace H:(if 0 ≤ (x6_1.length:Int) then (if (x6_1.length:Int) < (t370.length:Int) then (if x6_1.length < 17592186044416 then (impl_Sparse_read.l0 k1 (x6_1 ++ [Go.bits .or .i64 (ji17) (rd t370 (x6_1.length:Int))]) x7_1 t370 t373 (t373.length:Int) (wrap64 (x20_1 + 1)) a0_0 a0_1 a0_2 a0_3 a0_4 l0_5 a0_6 l0_7) else (none)) else (none)) else (none)) = some (r1,r2):=by first|(rw [hji17] at H;exact H)|(simp only [hji17] at H ⊢;exact H)
    have hji17_:(IntKind.i64.wrap (x7_1 * 2 ^ min a0_2.toNat 64)) = ji17:=hji17
    have hji17z:a0_2 ≤ 64 → (IntKind.i64.wrap (x7_1 * 2 ^ a0_2.toNat)) = ji17:=shl_small hji17
    have hji17y:(wrap64 (x7_1 * 2 ^ min a0_2.toNat 64)) = ji17:=(i64_w _).symm.trans hji17_
    have hji17x:a0_2 ≤ 64 → (wrap64 (x7_1 * 2 ^ a0_2.toNat)) = ji17:=fun h_=>(i64_w _).symm.trans (hji17z h_)
    by_cases c18:0 ≤ (x6_1.length:Int)
    rotate_left
    ·rw [if_neg c18] at H
     exact absurd H (by simp)
    rw [if_pos c18] at H
    have c18b0:decide (0 ≤ (x6_1.length:Int)) = true:=decide_eq_true c18
    have c18b1:decide (0 ≤ x6_1.length) = true:=decide_eq_true (by omega)
    clear c18
    by_cases c19:(x6_1.length:Int) < (t370.length:Int)
    rotate_left
    ·rw [if_neg c19] at H
     exact absurd H (by simp)
    rw [if_pos c19] at H
    have c19b0:decide ((x6_1.length:Int) < (t370.length:Int)) = true:=decide_eq_true c19
    have c19b1:decide (x6_1.length < t370.length) = true:=decide_eq_true (Int.ofNat_lt.mp c19)
    clear c19
    by_cases c20:x6_1.length < 17592186044416
    rotate_left
    ·rw [if_neg c20] at H
     exact absurd H (by simp)
    rw [if_pos c20] at H
    have LMc20:=mk0 c20
    clear c20
    obtain⟨y378,hy378⟩:∃ y_:List Int,y_ = (x6_1 ++ [Go.bits .or .i64 (ji17) (rd t370 (x6_1.length:Int))]):=⟨_,rfl⟩
    replace H:(impl_Sparse_read.l0 k1 y378 x7_1 t370 t373 (t373.length:Int) (wrap64 (x20_1 + 1)) a0_0 a0_1 a0_2 a0_3 a0_4 l0_5 a0_6 l0_7) = some (r1,r2):=by first|(rw [hy378];with_reducible exact H)|(have H2_:=(Option.bind_some _ _).symm.trans H;rw [hy378];with_reducible exact H2_)|(have H2_:=(Option.bind_some _ _).symm.trans H;with_reducible exact H2_)|with_reducible exact H|(rw [hy378];exact H)|exact H
    have Ny378:=mk0 hy378
    clear hy378
    have H':=mk0 H
    clear H
    have p376:0 ≤ (x20_1:Int):=of_decide_eq_true (by first|(with_reducible assumption)|assumption)
    have q376:x20_1 < (t373.length:Int):=of_decide_eq_true (by first|(with_reducible assumption)|assumption)
    obtain⟨ad376,e376,hx376_0⟩:=Kd.at_int (Kd.R_reads' HO_17.out).2.2 x20_1 p376 q376
    cases e376
    replace p376:=eq_true p376
    replace q376:=eq_true q376
    obtain⟨Ao21,co21,eo21⟩:=Kd.R_slice HO_6.out
    subst eo21
    obtain⟨Ao22,co22,eo22⟩:=Kd.R_slice HO_14.out
    subst eo22
    try go_wp2
    replace HO_6:=mk0 (dR HO_6.out)
    replace HO_14:=mk0 (dR HO_14.out)
    replace HO_17:=mk0 (dR HO_17.out)
    replace BK369:=mk0 (dB BK369.out)
    replace HB:=mk0 (dZ HB.out)
    have p377:0 ≤ ((x6_1.length:Int):Int):=of_decide_eq_true (by first|(with_reducible assumption)|assumption)
    have q377:(x6_1.length:Int) < (t370.length:Int):=of_decide_eq_true (by first|(with_reducible assumption)|assumption)
    obtain⟨ad377,e377,hx377_0⟩:=Kd.at_int (Kd.R_reads' HO_14.out).2.2 (x6_1.length:Int) p377 q377
    cases e377
    (try simp only [Go.IntWalk.toNatUp] at hx377_0)
    replace p377:=eq_true p377
    replace q377:=eq_true q377
    refine start_ (n:=15) (S:=fun w'=>w'.cell? ⟨gb369,0,none⟩ = some (.int .i64 a0_0) ∧ w'.cell? ⟨gb369,1,none⟩ = some (.int .i64 a0_1) ∧ w'.cell? ⟨gb369,2,none⟩ = some (.int .i64 a0_2) ∧ w'.cell? ⟨gb369,3,none⟩ = some (.int .i64 a0_3) ∧ w'.cell? ⟨gb369,4,none⟩ = some (.int .i64 a0_4) ∧ w'.cell? ⟨gb369,5,none⟩ = some (.slice A0_5 l0_5.length c0_5) ∧ w'.cell? ⟨gb369,6,none⟩ = some (.int .i64 a0_6) ∧ w'.cell? ⟨gb369,7,none⟩ = some (.slice A0_7 l0_7.length c0_7) ∧ w'.cell? (ad377.add x6_1.length) = some (.int .i64 (rd t370 (x6_1.length:Int)))) (ds:=[12,13]) impl_Sparse_read.m6 (by kernel_rfl) rfl rfl ⟨(blk_cell BK369.out 0).trans rfl,(blk_cell BK369.out 1).trans rfl,(blk_cell BK369.out 2).trans rfl,(blk_cell BK369.out 3).trans rfl,(blk_cell BK369.out 4).trans rfl,(blk_cell BK369.out 5).trans rfl,(blk_cell BK369.out 6).trans rfl,(blk_cell BK369.out 7).trans rfl,hx377_0⟩ (fun hHeld=>?_);refine with_tabW impl_Sparse_read.tab7 impl_Sparse_read.bits7 (fun HT_ HW_=>?_)
    generalize wr.drew = w23 at HO_6 HO_14 HO_17 BK369 HB hx377_0 hHeld ⊢
    refine pure_ (i:=0) (N:=some 24) (v:=?_) (a':=?_) impl_Sparse_read.m7 rfl rfl (any_of HT_.out (by kernel_rfl)) (fun _ _ _ h=>h) (Or.inl ⟨by rfl,?_⟩) ?_ ?_
    rotate_left
    ·intro w'
     go_simp
     with_reducible rfl
    rotate_left
    ·simp only [Act.put,sA,sO,sS,i64_w,i32_w]
     rfl
    refine pure_ (i:=1) (N:=some 25) (v:=?_) (a':=?_) impl_Sparse_read.m8 rfl rfl (any_of HT_.out (by kernel_rfl)) (fun _ _ _ h=>h) (Or.inl ⟨by rfl,?_⟩) ?_ ?_
    rotate_left
    ·intro w'
     go_simp
     with_reducible rfl
    rotate_left
    ·simp only [Act.put,sA,sO,sS,i64_w,i32_w]
     rfl
    refine pure_ (i:=2) (N:=some 26) (v:=?_) (a':=?_) impl_Sparse_read.m9 rfl rfl (any_of HT_.out (by kernel_rfl)) (fun _ _ _ h=>h) (Or.inl ⟨by rfl,?_⟩) ?_ ?_
    rotate_left
    ·intro w'
     go_simp
     with_reducible rfl
    rotate_left
    ·simp only [Act.put,sA,sO,sS,i64_w,i32_w]
     rfl
    refine pure_ (i:=3) (N:=some 27) (v:=?_) (a':=?_) impl_Sparse_read.m10 rfl rfl (any_of HT_.out (by kernel_rfl)) (fun _ _ _ h=>h) (Or.inl ⟨by rfl,?_⟩) ?_ ?_
    rotate_left
    ·intro w'
     go_simp
     with_reducible rfl
    rotate_left
    ·simp only [Act.put,sA,sO,sS,i64_w,i32_w]
     rfl
    refine pure_ (i:=6) (N:=some 30) (v:=?_) (a':=?_) impl_Sparse_read.m11 rfl rfl (any_of HT_.out (by kernel_rfl)) (fun _ _ _ h=>h) (Or.inl ⟨by rfl,?_⟩) ?_ ?_
    rotate_left
    ·intro w'
     go_simp
     with_reducible rfl
    rotate_left
    ·simp only [Act.put,sA,sO,sS,i64_w,i32_w]
     rfl
    refine pure_ (i:=7) (N:=some 31) (v:=?_) (a':=?_) impl_Sparse_read.m12 rfl rfl (any_of HT_.out (by kernel_rfl)) (fun _ _ _ h=>h) (Or.inl ⟨by rfl,?_⟩) ?_ ?_
    rotate_left
    ·intro w'
     go_simp
     with_reducible rfl
    rotate_left
    ·simp only [Act.put,sA,sO,sS,i64_w,i32_w]
     rfl
    refine pure_ (i:=8) (N:=some 32) (v:=?_) (a':=?_) impl_Sparse_read.m13 rfl rfl (any_of HT_.out (by kernel_rfl)) (fun _ _ _ h=>h) (Or.inl ⟨by rfl,?_⟩) ?_ ?_
    rotate_left
    ·intro w'
     go_simp
     with_reducible rfl
    rotate_left
    ·simp only [Act.put,sA,sO,sS,i64_w,i32_w]
     rfl
    refine pure_ (i:=9) (N:=some 33) (v:=?_) (a':=?_) impl_Sparse_read.m14 rfl rfl (any_of HT_.out (by kernel_rfl)) (fun _ _ _ h=>h) (Or.inl ⟨by rfl,?_⟩) ?_ ?_
    rotate_left
    ·intro w'
     go_simp
     with_reducible rfl
    rotate_left
    ·simp only [Act.put,sA,sO,sS,i64_w,i32_w]
     rfl
    refine take_ (i:=4) (N:=some 28) (v:=?_) (a':=?_) impl_Sparse_read.m15 rfl rfl (take_ofW HT_.out HW_.out (by kernel_rfl)) (fun _ _ _ h=>h) (Or.inl ⟨by rfl,?_⟩) hHeld ?_ ?_
    rotate_left
    ·rintro w' ⟨s0,s1,s2,s3,s4,s5,s6,s7,s8⟩
     go_simp
     with_reducible rfl
    rotate_left
    ·simp only [Act.put,sA,sO,sS,i64_w,i32_w]
     rfl
    refine pure_ (i:=5) (N:=some 29) (v:=?_) (a':=?_) impl_Sparse_read.m16 rfl rfl (any_of HT_.out (by kernel_rfl)) (fun _ _ _ h=>h) (Or.inl ⟨by rfl,?_⟩) ?_ ?_
    rotate_left
    ·intro w'
     go_simp
     with_reducible rfl
    rotate_left
    ·simp only [Act.put,sA,sO,sS,i64_w,i32_w]
     rfl
    refine take_ (i:=10) (N:=some 34) (v:=?_) (a':=?_) impl_Sparse_read.m17 rfl rfl (take_ofW HT_.out HW_.out (by kernel_rfl)) (fun _ _ _ h=>h) (Or.inl ⟨by rfl,?_⟩) hHeld ?_ ?_
    rotate_left
    ·rintro w' ⟨s0,s1,s2,s3,s4,s5,s6,s7,s8⟩
     go_simp
     with_reducible rfl
    rotate_left
    ·simp only [Act.put,sA,sO,sS,i64_w,i32_w]
     rfl
    refine pure_ (i:=11) (N:=some 35) (v:=?_) (a':=?_) impl_Sparse_read.m18 rfl rfl (any_of HT_.out (by kernel_rfl)) (fun _ _ _ h=>h) (Or.inl ⟨by rfl,?_⟩) ?_ ?_
    rotate_left
    ·intro w'
     go_simp
     with_reducible rfl
    rotate_left
    ·simp only [Act.put,sA,sO,sS,i64_w,i32_w]
     rfl
    refine last_ (i:=12) (N:=some 36) impl_Sparse_read.m19 rfl rfl (one_of HT_.out (by kernel_rfl)) (by decide) (fun K hK=>?_)
    refine value_ (w1:=?_) (v:=?_) (by rfl) rfl ?_ ?_
    rotate_left 2
    ·go_simp
     constructor
     ·rfl
     ·rfl
    refine hK.out _ _ ?_
    clear hK K
    refine norm_ (a':=?_) ?_ ?_
    rotate_left
    ·show Act.put _ (some 36) _ = _
     simp only [Act.put,sA,sO,sS,i64_w,i32_w]
     rfl
    refine last_ (i:=13) (N:=some 37) impl_Sparse_read.m20 rfl rfl (one_of HT_.out (by kernel_rfl)) (by decide) (fun K hK=>?_)
    refine Kd.R_append_step (Kd.int .i64) (w0:=w) w.heap.size (by rfl) (.tmp 24) (.tmp 36) 24 3 (.int .i64 0) 8 rfl Try.underlying24 info3 rfl (by decide) (by omega) (.slice Ao21 x6_1.length co21) x6_1 (Go.bits .or .i64 (ji17) (rd t370 (x6_1.length:Int))) [.int .i64 (Go.bits .or .i64 (ji17) (rd t370 (x6_1.length:Int)))] (fun k_=>some k_ ≠ (.slice (some ad377) t370.length co22:Value).ownBlock ∧ some k_ ≠ (.slice (some ad376) t373.length co8:Value).ownBlock) (fun _=>False) rfl rfl ?aP (fun _ hk=>hk.elim) ?aF ?aO ?aB ?aS ?aL ?_
    (case aP=>exact rfl)
    (case aB=>exact (kB HB.out))
    (case aF=>exact (fun k_ hk=>⟨Kd.fresh' (Kd.R_lt (rR HO_14.out)) k_ hk,Kd.fresh' (Kd.R_lt (rR HO_17.out)) k_ hk⟩))
    (case aO=>exact (rR HO_6.out))
    (case aS=>exact (kZ HB.out))
    (case aL=>have:=LMc20.out;omega)
    intro v379 w24 ho hb hg hat
    rw [← Ny378.out] at ho
    replace HO_14:=mk0 (Kd.R_after (ok:=(fun k_=>some k_ ≠ (.slice (some ad376) t373.length co8:Value).ownBlock)) (rR (Kd.R_mono HO_14.out (fun _ hk=>⟨hk.2,hk.1⟩))) hg hat)
    replace HO_17:=mk0 (Kd.R_after (ok:=(fun k_=>some k_ ≠ (.slice (some ad377) t370.length co22:Value).ownBlock)) (rR (Kd.R_mono HO_17.out (fun _ hk=>⟨hk.2,hk.1⟩))) hg hat)
    replace BK369:=mk0 (blk_grown (kN BK369.out) hg (Kd.R_ne HO_6.out BK369.out (by decide)))
    replace HB:=mk0 (hb)
    have HO380:=mk0 (ho)
    clear HO_6
    clear ho hb hg hat
    refine hK.out _ _ ?_
    clear hK K
    refine norm_ (a':=?_) ?_ ?_
    rotate_left
    ·show Act.put _ (some 37) _ = _
     simp only [Act.put,sA,sO,sS,i64_w,i32_w]
     rfl
    refine pure_ (i:=14) (N:=some 6) (v:=?_) (a':=?_) impl_Sparse_read.m21 rfl rfl (any_of HT_.out (by kernel_rfl)) (fun _ _ _ h=>h) (Or.inl ⟨by rfl,?_⟩) ?_ ?_
    rotate_left
    ·intro w'
     go_simp
     with_reducible rfl
    rotate_left
    ·simp only [Act.put,sA,sO,sS,i64_w,i32_w]
     rfl
    refine done_ (done_of HT_.out (by kernel_rfl)) ?_
    try go_wp2
    go_roundg k1
    case measure=>have:=HK1.out;omega
    case rel=>exact⟨(y378),(x7_1),(wrap64 (x20_1 + 1)),(by first|rfl|(simp;done)|(simp [*];done)),(by first|rfl|(simp;done)|(simp [*];done)),H',⟨by have:=HK1.out;omega⟩,⟨rR HO380.out⟩,⟨rR (Kd.R_mono HO_14.out (fun _ hk=>⟨hk.2,hk.1⟩))⟩,⟨rR (Kd.R_mono HO_17.out (fun _ hk=>⟨hk.2,hk.1⟩))⟩,⟨kN BK369.out⟩,⟨kB HB.out⟩⟩
   rw [if_neg c9] at H
   have c9b0:decide (x20_1 < (t373.length:Int)) = false:=decide_eq_false c9
   clear c9
   replace H:=Option.bind_eq_some_iff.mp H
   obtain⟨⟨t381,t382,t383,t384,t385,t386,t389,t390,t393⟩,A250,H⟩:=H
   replace H:(if t393 = true then (if t382 = a0_1 then ((impl_samePacked.f k1 t383 t384 t385 t386 a0_2 a0_3 a0_4 l0_5).bind fun t395=>(if t395 = true then ((impl_sameBits.f k1 t389 t390 a0_6 l0_7).bind fun t396=>(some (x6_1,t396))) else (some (x6_1,false)))) else (some (x6_1,false))) else (some (x6_1,false))) = some (r1,r2):=H
   have A25:=mk0 A250
   clear A250
   by_cases c26:t393 = true
   rotate_left
   ·replace c26:=Bool.eq_false_iff.mpr c26
    subst c26
    have H1:(some (x6_1,false)) = some (r1,r2):=by rw [if_neg (show ¬ (false = true) by decide)] at H;exact H
    clear H
    have H:=H1
    clear H1
    simp only [Option.some.injEq,Prod.mk.injEq] at H
    obtain⟨rfl,rfl⟩:=H
    obtain⟨hcz63_0,hcz63_1,hcz63_2,hcz63_3,hcz63_4,hcz63_5,hcz63_6,hcz63_7,hfz63_0,hfz63_1,hfz63_2,hfz63_3,hfz63_4,hfz63_5,hfz63_6,hfz63_7⟩:=cz8 BK369.out
    obtain⟨Ao64,co64,eo64⟩:=Kd.R_slice HO_6.out
    subst eo64
    go_wp2_with (first|((with_reducible refine gate_callee (f:=10) rfl ?_);refine goesL_ (some 54) rfl rfl Try.func10 (by kernel_rfl) rfl #[.slice Ao64 x6_1.length co64,.int .i64 a0_0] rfl (by (try simp only [mA,mC,mN]);first|done|rfl|(simp only [List.length_drop,List.length_take];done)|(simp only [List.length_drop,List.length_take];rfl)) ?_;(with_reducible refine (impl_SparseOf.calls k1 _ _ x6_1 a0_0 t381 t382 t383 t384 t385 t386 t389 t390 false _ ?side1 ?side2 A25.out).mono ?_);(case side1=>exact kC (Kd.R_reads' HO_6.out).2.2);(case side2=>exact (Kd.R_reads' HO_6.out).2.1);rintro e w65 ⟨v387,v391,rfl,ho0,ho1,hb⟩;refine⟨_,rfl,?_⟩;replace HO_6:=mk0 (bR HO_6.out hb);replace HO_14:=mk0 (bR HO_14.out hb);replace HO_17:=mk0 (bR HO_17.out hb);have HO388:=mk0 (Kd.R_lower ho0 (kZ HB.out));have HO392:=mk0 (Kd.R_lower ho1 (kZ HB.out));replace BK369:=mk0 (kK BK369.out hb);replace HB:=mk0 (kS HB.out hb);(try clear hb);(try clear ho0);(try clear ho1))|((with_reducible refine gate_dst (N:=10) rfl ?_);refine box_event ?hg (N:=10) ?hd (cs:=#[.int .i64 0,.int .i64 0,.int .i64 0,.int .i64 0,.int .i64 0,.slice none 0 0,.int .i64 0,.slice none 0 0]) (t:=33) ?hr ?_;(case hd=>rfl);(case hg=>rfl);(case hr=>first|(go_simp;done)|(go_simp;rfl));intro gb394 hg w66 hbox hb;replace HO_6:=mk0 (bR HO_6.out hb);replace HO_14:=mk0 (bR HO_14.out hb);replace HO_17:=mk0 (bR HO_17.out hb);replace HO388:=mk0 (bR HO388.out hb);replace HO392:=mk0 (bR HO392.out hb);have BK394:=mk0 (hbox);have GW394:=mk0 ((by rw [hg];exact (kZ HB.out):w.heap.size ≤ gb394));have GE394:=mk0 ((by rw [hg];exact (kZ HB.out):w.heap.size ≤ gb394));replace HB:=mk0 (kS HB.out hb);have NB369_394:=mk0 ((by rw [hg];exact Nat.ne_of_lt (kL BK369.out):gb369 ≠ gb394));have NB394_369:=mk0 ((by rw [hg];exact Nat.ne_of_gt (kL BK369.out):gb394 ≠ gb369));replace BK369:=mk0 (kK BK369.out hb);clear hb hbox hg;have hnb67:=NB394_369.out;have hnc67:=NB369_394.out;obtain⟨hcz68_0,hcz68_1,hcz68_2,hcz68_3,hcz68_4,hcz68_5,hcz68_6,hcz68_7,hfz68_0,hfz68_1,hfz68_2,hfz68_3,hfz68_4,hfz68_5,hfz68_6,hfz68_7⟩:=cz8 BK394.out;obtain⟨Ao69,co69,eo69⟩:=Kd.R_slice HO388.out;subst eo69;obtain⟨Ao70,co70,eo70⟩:=Kd.R_slice HO392.out;subst eo70))
    go_ret2
    exact⟨_,by first|rfl|(simp [errW_none,errW_some] <;> rfl)|(simp [*,errW_none,errW_some] <;> rfl),by (with_reducible repeat (first|apply aR|apply nR|apply dR));exact Kd.R_mono (Kd.R_far (p:=⟨gb394,7,none⟩) (Kd.R_far (p:=⟨gb394,6,none⟩) (Kd.R_far (p:=⟨gb394,5,none⟩) (Kd.R_far (p:=⟨gb394,4,none⟩) (Kd.R_far (p:=⟨gb394,3,none⟩) (Kd.R_far (p:=⟨gb394,2,none⟩) (Kd.R_far (p:=⟨gb394,1,none⟩) (Kd.R_far (p:=⟨gb394,0,none⟩) (Kd.R_types HO_6.out BK394.out (by decide)) (fun _ hk=>hk.2) (.int .i64 t381)) (fun _ hk=>hk.2) (.int .i64 t382)) (fun _ hk=>hk.2) (.int .i64 t383)) (fun _ hk=>hk.2) (.int .i64 t384)) (fun _ hk=>hk.2) (.int .i64 t385)) (fun _ hk=>hk.2) (.slice Ao69 t386.length co69)) (fun _ hk=>hk.2) (.int .i64 t389)) (fun _ hk=>hk.2) (.slice Ao70 t390.length co70)) (fun _ hk=>trivial),kB HB.out⟩

   subst c26
   have H1:(if t382 = a0_1 then ((impl_samePacked.f k1 t383 t384 t385 t386 a0_2 a0_3 a0_4 l0_5).bind fun t395=>(if t395 = true then ((impl_sameBits.f k1 t389 t390 a0_6 l0_7).bind fun t396=>(some (x6_1,t396))) else (some (x6_1,false)))) else (some (x6_1,false))) = some (r1,r2):=by rw [if_pos rfl] at H;exact H
   clear H
   have H:=H1
   clear H1
   by_cases c27:t382 = a0_1
   rotate_left
   ·rw [if_neg c27] at H
    have c27b0:(t382 == a0_1) = false:=beq_eq_false_iff_ne.mpr c27
    have c27b1:(t382 != a0_1) = true:=bne_iff_ne.mpr c27
    simp only [Option.some.injEq,Prod.mk.injEq] at H
    obtain⟨rfl,rfl⟩:=H
    obtain⟨hcz54_0,hcz54_1,hcz54_2,hcz54_3,hcz54_4,hcz54_5,hcz54_6,hcz54_7,hfz54_0,hfz54_1,hfz54_2,hfz54_3,hfz54_4,hfz54_5,hfz54_6,hfz54_7⟩:=cz8 BK369.out
    obtain⟨Ao55,co55,eo55⟩:=Kd.R_slice HO_6.out
    subst eo55
    go_wp2_with (first|((with_reducible refine gate_callee (f:=10) rfl ?_);refine goesL_ (some 54) rfl rfl Try.func10 (by kernel_rfl) rfl #[.slice Ao55 x6_1.length co55,.int .i64 a0_0] rfl (by (try simp only [mA,mC,mN]);first|done|rfl|(simp only [List.length_drop,List.length_take];done)|(simp only [List.length_drop,List.length_take];rfl)) ?_;(with_reducible refine (impl_SparseOf.calls k1 _ _ x6_1 a0_0 t381 t382 t383 t384 t385 t386 t389 t390 true _ ?side1 ?side2 A25.out).mono ?_);(case side1=>exact kC (Kd.R_reads' HO_6.out).2.2);(case side2=>exact (Kd.R_reads' HO_6.out).2.1);rintro e w56 ⟨v387,v391,rfl,ho0,ho1,hb⟩;refine⟨_,rfl,?_⟩;replace HO_6:=mk0 (bR HO_6.out hb);replace HO_14:=mk0 (bR HO_14.out hb);replace HO_17:=mk0 (bR HO_17.out hb);have HO388:=mk0 (Kd.R_lower ho0 (kZ HB.out));have HO392:=mk0 (Kd.R_lower ho1 (kZ HB.out));replace BK369:=mk0 (kK BK369.out hb);replace HB:=mk0 (kS HB.out hb);(try clear hb);(try clear ho0);(try clear ho1))|((with_reducible refine gate_dst (N:=10) rfl ?_);refine box_event ?hg (N:=10) ?hd (cs:=#[.int .i64 0,.int .i64 0,.int .i64 0,.int .i64 0,.int .i64 0,.slice none 0 0,.int .i64 0,.slice none 0 0]) (t:=33) ?hr ?_;(case hd=>rfl);(case hg=>rfl);(case hr=>first|(go_simp;done)|(go_simp;rfl));intro gb394 hg w57 hbox hb;replace HO_6:=mk0 (bR HO_6.out hb);replace HO_14:=mk0 (bR HO_14.out hb);replace HO_17:=mk0 (bR HO_17.out hb);replace HO388:=mk0 (bR HO388.out hb);replace HO392:=mk0 (bR HO392.out hb);have BK394:=mk0 (hbox);have GW394:=mk0 ((by rw [hg];exact (kZ HB.out):w.heap.size ≤ gb394));have GE394:=mk0 ((by rw [hg];exact (kZ HB.out):w.heap.size ≤ gb394));replace HB:=mk0 (kS HB.out hb);have NB369_394:=mk0 ((by rw [hg];exact Nat.ne_of_lt (kL BK369.out):gb369 ≠ gb394));have NB394_369:=mk0 ((by rw [hg];exact Nat.ne_of_gt (kL BK369.out):gb394 ≠ gb369));replace BK369:=mk0 (kK BK369.out hb);clear hb hbox hg;have hnb58:=NB394_369.out;have hnc58:=NB369_394.out;obtain⟨hcz59_0,hcz59_1,hcz59_2,hcz59_3,hcz59_4,hcz59_5,hcz59_6,hcz59_7,hfz59_0,hfz59_1,hfz59_2,hfz59_3,hfz59_4,hfz59_5,hfz59_6,hfz59_7⟩:=cz8 BK394.out;obtain⟨Ao60,co60,eo60⟩:=Kd.R_slice HO388.out;subst eo60;obtain⟨Ao61,co61,eo61⟩:=Kd.R_slice HO392.out;subst eo61;obtain⟨hcz62_0,hcz62_1,hcz62_2,hcz62_3,hcz62_4,hcz62_5,hcz62_6,hcz62_7,hfz62_0,hfz62_1,hfz62_2,hfz62_3,hfz62_4,hfz62_5,hfz62_6,hfz62_7⟩:=cz8 BK369.out))
    go_ret2
    exact⟨_,by first|rfl|(simp [errW_none,errW_some] <;> rfl)|(simp [*,errW_none,errW_some] <;> rfl),by (with_reducible repeat (first|apply aR|apply nR|apply dR));exact Kd.R_mono (Kd.R_far (p:=⟨gb394,7,none⟩) (Kd.R_far (p:=⟨gb394,6,none⟩) (Kd.R_far (p:=⟨gb394,5,none⟩) (Kd.R_far (p:=⟨gb394,4,none⟩) (Kd.R_far (p:=⟨gb394,3,none⟩) (Kd.R_far (p:=⟨gb394,2,none⟩) (Kd.R_far (p:=⟨gb394,1,none⟩) (Kd.R_far (p:=⟨gb394,0,none⟩) (Kd.R_types HO_6.out BK394.out (by decide)) (fun _ hk=>hk.2) (.int .i64 t381)) (fun _ hk=>hk.2) (.int .i64 t382)) (fun _ hk=>hk.2) (.int .i64 t383)) (fun _ hk=>hk.2) (.int .i64 t384)) (fun _ hk=>hk.2) (.int .i64 t385)) (fun _ hk=>hk.2) (.slice Ao60 t386.length co60)) (fun _ hk=>hk.2) (.int .i64 t389)) (fun _ hk=>hk.2) (.slice Ao61 t390.length co61)) (fun _ hk=>trivial),kB HB.out⟩
   rw [if_pos c27] at H
   have c27b0:(t382 == a0_1) = true:=beq_iff_eq.mpr c27
   have c27b1:(t382 != a0_1) = false:=bne_eq_false_iff_eq.mpr c27
   clear c27
   replace H:=Option.bind_eq_some_iff.mp H
   obtain⟨t395,A280,H⟩:=H
   replace H:(if t395 = true then ((impl_sameBits.f k1 t389 t390 a0_6 l0_7).bind fun t396=>(some (x6_1,t396))) else (some (x6_1,false))) = some (r1,r2):=H
   have A28:=mk0 A280
   clear A280
   by_cases c29:t395 = true
   rotate_left
   ·replace c29:=Bool.eq_false_iff.mpr c29
    subst c29
    have H1:(some (x6_1,false)) = some (r1,r2):=by rw [if_neg (show ¬ (false = true) by decide)] at H;exact H
    clear H
    have H:=H1
    clear H1
    simp only [Option.some.injEq,Prod.mk.injEq] at H
    obtain⟨rfl,rfl⟩:=H
    obtain⟨hcz44_0,hcz44_1,hcz44_2,hcz44_3,hcz44_4,hcz44_5,hcz44_6,hcz44_7,hfz44_0,hfz44_1,hfz44_2,hfz44_3,hfz44_4,hfz44_5,hfz44_6,hfz44_7⟩:=cz8 BK369.out
    obtain⟨Ao45,co45,eo45⟩:=Kd.R_slice HO_6.out
    subst eo45
    go_wp2_with (first|((with_reducible refine gate_callee (f:=10) rfl ?_);refine goesL_ (some 54) rfl rfl Try.func10 (by kernel_rfl) rfl #[.slice Ao45 x6_1.length co45,.int .i64 a0_0] rfl (by (try simp only [mA,mC,mN]);first|done|rfl|(simp only [List.length_drop,List.length_take];done)|(simp only [List.length_drop,List.length_take];rfl)) ?_;(with_reducible refine (impl_SparseOf.calls k1 _ _ x6_1 a0_0 t381 t382 t383 t384 t385 t386 t389 t390 true _ ?side1 ?side2 A25.out).mono ?_);(case side1=>exact kC (Kd.R_reads' HO_6.out).2.2);(case side2=>exact (Kd.R_reads' HO_6.out).2.1);rintro e w46 ⟨v387,v391,rfl,ho0,ho1,hb⟩;refine⟨_,rfl,?_⟩;replace HO_6:=mk0 (bR HO_6.out hb);replace HO_14:=mk0 (bR HO_14.out hb);replace HO_17:=mk0 (bR HO_17.out hb);have HO388:=mk0 (Kd.R_lower ho0 (kZ HB.out));have HO392:=mk0 (Kd.R_lower ho1 (kZ HB.out));replace BK369:=mk0 (kK BK369.out hb);replace HB:=mk0 (kS HB.out hb);(try clear hb);(try clear ho0);(try clear ho1))|((with_reducible refine gate_dst (N:=10) rfl ?_);refine box_event ?hg (N:=10) ?hd (cs:=#[.int .i64 0,.int .i64 0,.int .i64 0,.int .i64 0,.int .i64 0,.slice none 0 0,.int .i64 0,.slice none 0 0]) (t:=33) ?hr ?_;(case hd=>rfl);(case hg=>rfl);(case hr=>first|(go_simp;done)|(go_simp;rfl));intro gb394 hg w47 hbox hb;replace HO_6:=mk0 (bR HO_6.out hb);replace HO_14:=mk0 (bR HO_14.out hb);replace HO_17:=mk0 (bR HO_17.out hb);replace HO388:=mk0 (bR HO388.out hb);replace HO392:=mk0 (bR HO392.out hb);have BK394:=mk0 (hbox);have GW394:=mk0 ((by rw [hg];exact (kZ HB.out):w.heap.size ≤ gb394));have GE394:=mk0 ((by rw [hg];exact (kZ HB.out):w.heap.size ≤ gb394));replace HB:=mk0 (kS HB.out hb);have NB369_394:=mk0 ((by rw [hg];exact Nat.ne_of_lt (kL BK369.out):gb369 ≠ gb394));have NB394_369:=mk0 ((by rw [hg];exact Nat.ne_of_gt (kL BK369.out):gb394 ≠ gb369));replace BK369:=mk0 (kK BK369.out hb);clear hb hbox hg;have hnb48:=NB394_369.out;have hnc48:=NB369_394.out;obtain⟨hcz49_0,hcz49_1,hcz49_2,hcz49_3,hcz49_4,hcz49_5,hcz49_6,hcz49_7,hfz49_0,hfz49_1,hfz49_2,hfz49_3,hfz49_4,hfz49_5,hfz49_6,hfz49_7⟩:=cz8 BK394.out;obtain⟨Ao50,co50,eo50⟩:=Kd.R_slice HO388.out;subst eo50;obtain⟨Ao51,co51,eo51⟩:=Kd.R_slice HO392.out;subst eo51;obtain⟨hcz52_0,hcz52_1,hcz52_2,hcz52_3,hcz52_4,hcz52_5,hcz52_6,hcz52_7,hfz52_0,hfz52_1,hfz52_2,hfz52_3,hfz52_4,hfz52_5,hfz52_6,hfz52_7⟩:=cz8 BK369.out)|(go_at_call 62;(with_reducible refine (impl_samePacked.calls k1 t383 t384 t385 _ _ t386 a0_2 a0_3 a0_4 _ _ l0_5 false _ ?side1 ?side2 ?side3 ?side4 A28.out).mono ?_);(case side1=>refine (Kd.R_reads' (e:=78) (base:=w.heap.size) (ok:=fun k_=>some k_ ≠ (.slice Ao51 t390.length co51:Value).ownBlock) (n:=t386.length) (c:=co50) ?_).2.2;exact (by (with_reducible repeat (first|apply aR|apply nR|apply dR));exact (Kd.R_mono (Kd.R_far (p:=⟨gb394,7,none⟩) (Kd.R_far (p:=⟨gb394,6,none⟩) (Kd.R_far (p:=⟨gb394,5,none⟩) (Kd.R_far (p:=⟨gb394,4,none⟩) (Kd.R_far (p:=⟨gb394,3,none⟩) (Kd.R_far (p:=⟨gb394,2,none⟩) (Kd.R_far (p:=⟨gb394,1,none⟩) (Kd.R_far (p:=⟨gb394,0,none⟩) (Kd.R_types HO388.out BK394.out (by decide)) (fun _ hk=>hk.2) (.int .i64 t381)) (fun _ hk=>hk.2) (.int .i64 t382)) (fun _ hk=>hk.2) (.int .i64 t383)) (fun _ hk=>hk.2) (.int .i64 t384)) (fun _ hk=>hk.2) (.int .i64 t385)) (fun _ hk=>hk.2) (.slice Ao50 t386.length co50)) (fun _ hk=>hk.2) (.int .i64 t389)) (fun _ hk=>hk.2) (.slice Ao51 t390.length co51)) (fun _ h_=>h_.1))));(case side2=>exact (Kd.R_reads' HO388.out).2.1);(case side3=>exact Kd.C_below HR0_5.out (kB HB.out));(case side4=>exact HC0_5.out);rintro e w53 ⟨rfl,hb⟩;replace HO_6:=mk0 (Kd.R_below (by (with_reducible repeat (first|apply aR|apply nR|apply dR));exact (Kd.R_mono (Kd.R_far (p:=⟨gb394,7,none⟩) (Kd.R_far (p:=⟨gb394,6,none⟩) (Kd.R_far (p:=⟨gb394,5,none⟩) (Kd.R_far (p:=⟨gb394,4,none⟩) (Kd.R_far (p:=⟨gb394,3,none⟩) (Kd.R_far (p:=⟨gb394,2,none⟩) (Kd.R_far (p:=⟨gb394,1,none⟩) (Kd.R_far (p:=⟨gb394,0,none⟩) (Kd.R_types HO_6.out BK394.out (by decide)) (fun _ hk=>hk.2) (.int .i64 t381)) (fun _ hk=>hk.2) (.int .i64 t382)) (fun _ hk=>hk.2) (.int .i64 t383)) (fun _ hk=>hk.2) (.int .i64 t384)) (fun _ hk=>hk.2) (.int .i64 t385)) (fun _ hk=>hk.2) (.slice Ao50 t386.length co50)) (fun _ hk=>hk.2) (.int .i64 t389)) (fun _ hk=>hk.2) (.slice Ao51 t390.length co51)) (fun _ h_=>h_.1))) hb);replace HO_14:=mk0 (Kd.R_below (by (with_reducible repeat (first|apply aR|apply nR|apply dR));exact (Kd.R_mono (Kd.R_far (p:=⟨gb394,7,none⟩) (Kd.R_far (p:=⟨gb394,6,none⟩) (Kd.R_far (p:=⟨gb394,5,none⟩) (Kd.R_far (p:=⟨gb394,4,none⟩) (Kd.R_far (p:=⟨gb394,3,none⟩) (Kd.R_far (p:=⟨gb394,2,none⟩) (Kd.R_far (p:=⟨gb394,1,none⟩) (Kd.R_far (p:=⟨gb394,0,none⟩) (Kd.R_types HO_14.out BK394.out (by decide)) (fun _ hk=>hk.2) (.int .i64 t381)) (fun _ hk=>hk.2) (.int .i64 t382)) (fun _ hk=>hk.2) (.int .i64 t383)) (fun _ hk=>hk.2) (.int .i64 t384)) (fun _ hk=>hk.2) (.int .i64 t385)) (fun _ hk=>hk.2) (.slice Ao50 t386.length co50)) (fun _ hk=>hk.2) (.int .i64 t389)) (fun _ hk=>hk.2) (.slice Ao51 t390.length co51)) (fun _ h_=>h_.1))) hb);replace HO_17:=mk0 (Kd.R_below (by (with_reducible repeat (first|apply aR|apply nR|apply dR));exact (Kd.R_mono (Kd.R_far (p:=⟨gb394,7,none⟩) (Kd.R_far (p:=⟨gb394,6,none⟩) (Kd.R_far (p:=⟨gb394,5,none⟩) (Kd.R_far (p:=⟨gb394,4,none⟩) (Kd.R_far (p:=⟨gb394,3,none⟩) (Kd.R_far (p:=⟨gb394,2,none⟩) (Kd.R_far (p:=⟨gb394,1,none⟩) (Kd.R_far (p:=⟨gb394,0,none⟩) (Kd.R_types HO_17.out BK394.out (by decide)) (fun _ hk=>hk.2) (.int .i64 t381)) (fun _ hk=>hk.2) (.int .i64 t382)) (fun _ hk=>hk.2) (.int .i64 t383)) (fun _ hk=>hk.2) (.int .i64 t384)) (fun _ hk=>hk.2) (.int .i64 t385)) (fun _ hk=>hk.2) (.slice Ao50 t386.length co50)) (fun _ hk=>hk.2) (.int .i64 t389)) (fun _ hk=>hk.2) (.slice Ao51 t390.length co51)) (fun _ h_=>h_.1))) hb);replace HO388:=mk0 (Kd.R_below (by (with_reducible repeat (first|apply aR|apply nR|apply dR));exact (Kd.R_mono (Kd.R_far (p:=⟨gb394,7,none⟩) (Kd.R_far (p:=⟨gb394,6,none⟩) (Kd.R_far (p:=⟨gb394,5,none⟩) (Kd.R_far (p:=⟨gb394,4,none⟩) (Kd.R_far (p:=⟨gb394,3,none⟩) (Kd.R_far (p:=⟨gb394,2,none⟩) (Kd.R_far (p:=⟨gb394,1,none⟩) (Kd.R_far (p:=⟨gb394,0,none⟩) (Kd.R_types HO388.out BK394.out (by decide)) (fun _ hk=>hk.2) (.int .i64 t381)) (fun _ hk=>hk.2) (.int .i64 t382)) (fun _ hk=>hk.2) (.int .i64 t383)) (fun _ hk=>hk.2) (.int .i64 t384)) (fun _ hk=>hk.2) (.int .i64 t385)) (fun _ hk=>hk.2) (.slice Ao50 t386.length co50)) (fun _ hk=>hk.2) (.int .i64 t389)) (fun _ hk=>hk.2) (.slice Ao51 t390.length co51)) (fun _ h_=>h_.1))) hb);replace HO392:=mk0 (Kd.R_below (by (with_reducible repeat (first|apply aR|apply nR|apply dR));exact (Kd.R_mono (Kd.R_far (p:=⟨gb394,7,none⟩) (Kd.R_far (p:=⟨gb394,6,none⟩) (Kd.R_far (p:=⟨gb394,5,none⟩) (Kd.R_far (p:=⟨gb394,4,none⟩) (Kd.R_far (p:=⟨gb394,3,none⟩) (Kd.R_far (p:=⟨gb394,2,none⟩) (Kd.R_far (p:=⟨gb394,1,none⟩) (Kd.R_far (p:=⟨gb394,0,none⟩) (Kd.R_types HO392.out BK394.out (by decide)) (fun _ hk=>hk.2) (.int .i64 t381)) (fun _ hk=>hk.2) (.int .i64 t382)) (fun _ hk=>hk.2) (.int .i64 t383)) (fun _ hk=>hk.2) (.int .i64 t384)) (fun _ hk=>hk.2) (.int .i64 t385)) (fun _ hk=>hk.2) (.slice Ao50 t386.length co50)) (fun _ hk=>hk.2) (.int .i64 t389)) (fun _ hk=>hk.2) (.slice Ao51 t390.length co51)) (fun _ h_=>h_.1))) hb);replace BK369:=mk0 (blk_below (g:=gb369) (o:=.cells #[.int .i64 a0_0,.int .i64 a0_1,.int .i64 a0_2,.int .i64 a0_3,.int .i64 a0_4,.slice A0_5 l0_5.length c0_5,.int .i64 a0_6,.slice A0_7 l0_7.length c0_7] 33 (0,0)) (by (with_reducible repeat (first|apply nB|apply dB|apply aB));refine blk_far ?_ NB369_394.out _;(with_reducible repeat (first|apply nB|apply dB|apply aB));refine blk_far ?_ NB369_394.out _;(with_reducible repeat (first|apply nB|apply dB|apply aB));refine blk_far ?_ NB369_394.out _;(with_reducible repeat (first|apply nB|apply dB|apply aB));refine blk_far ?_ NB369_394.out _;(with_reducible repeat (first|apply nB|apply dB|apply aB));refine blk_far ?_ NB369_394.out _;(with_reducible repeat (first|apply nB|apply dB|apply aB));refine blk_far ?_ NB369_394.out _;(with_reducible repeat (first|apply nB|apply dB|apply aB));refine blk_far ?_ NB369_394.out _;(with_reducible repeat (first|apply nB|apply dB|apply aB));refine blk_far ?_ NB369_394.out _;(with_reducible repeat (first|apply nB|apply dB|apply aB));exact BK369.out) hb);replace BK394:=mk0 (blk_below (g:=gb394) (o:=.cells #[.int .i64 t381,.int .i64 t382,.int .i64 t383,.int .i64 t384,.int .i64 t385,.slice Ao50 t386.length co50,.int .i64 t389,.slice Ao51 t390.length co51] 33 (0,0)) (by (with_reducible repeat (first|apply nB|apply dB|apply aB));refine blk_put (cs:=#[.int .i64 t381,.int .i64 t382,.int .i64 t383,.int .i64 t384,.int .i64 t385,.slice Ao50 t386.length co50,.int .i64 t389,.slice none 0 0]) ?_ 7 _ rfl;(with_reducible repeat (first|apply nB|apply dB|apply aB));refine blk_put (cs:=#[.int .i64 t381,.int .i64 t382,.int .i64 t383,.int .i64 t384,.int .i64 t385,.slice Ao50 t386.length co50,.int .i64 0,.slice none 0 0]) ?_ 6 _ rfl;(with_reducible repeat (first|apply nB|apply dB|apply aB));refine blk_put (cs:=#[.int .i64 t381,.int .i64 t382,.int .i64 t383,.int .i64 t384,.int .i64 t385,.slice none 0 0,.int .i64 0,.slice none 0 0]) ?_ 5 _ rfl;(with_reducible repeat (first|apply nB|apply dB|apply aB));refine blk_put (cs:=#[.int .i64 t381,.int .i64 t382,.int .i64 t383,.int .i64 t384,.int .i64 0,.slice none 0 0,.int .i64 0,.slice none 0 0]) ?_ 4 _ rfl;(with_reducible repeat (first|apply nB|apply dB|apply aB));refine blk_put (cs:=#[.int .i64 t381,.int .i64 t382,.int .i64 t383,.int .i64 0,.int .i64 0,.slice none 0 0,.int .i64 0,.slice none 0 0]) ?_ 3 _ rfl;(with_reducible repeat (first|apply nB|apply dB|apply aB));refine blk_put (cs:=#[.int .i64 t381,.int .i64 t382,.int .i64 0,.int .i64 0,.int .i64 0,.slice none 0 0,.int .i64 0,.slice none 0 0]) ?_ 2 _ rfl;(with_reducible repeat (first|apply nB|apply dB|apply aB));refine blk_put (cs:=#[.int .i64 t381,.int .i64 0,.int .i64 0,.int .i64 0,.int .i64 0,.slice none 0 0,.int .i64 0,.slice none 0 0]) ?_ 1 _ rfl;(with_reducible repeat (first|apply nB|apply dB|apply aB));refine blk_put (cs:=#[.int .i64 0,.int .i64 0,.int .i64 0,.int .i64 0,.int .i64 0,.slice none 0 0,.int .i64 0,.slice none 0 0]) ?_ 0 _ rfl;(with_reducible repeat (first|apply nB|apply dB|apply aB));exact BK394.out) hb);replace HB:=mk0 (kS HB.out hb);(try clear hb);(try clear hb2);(try clear hk);(try clear hi)))
    go_ret2
    exact⟨_,by first|rfl|(simp [errW_none,errW_some] <;> rfl)|(simp [*,errW_none,errW_some] <;> rfl),rR (Kd.R_mono HO_6.out (fun _ hk=>trivial)),kB HB.out⟩
   subst c29
   have H1:((impl_sameBits.f k1 t389 t390 a0_6 l0_7).bind fun t396=>(some (x6_1,t396))) = some (r1,r2):=by rw [if_pos rfl] at H;exact H
   clear H
   have H:=H1
   clear H1
   replace H:=Option.bind_eq_some_iff.mp H
   obtain⟨t396,A300,H⟩:=H
   replace H:(some (x6_1,t396)) = some (r1,r2):=H
   have A30:=mk0 A300
   clear A300
   simp only [Option.some.injEq,Prod.mk.injEq] at H
   obtain⟨rfl,rfl⟩:=H
   obtain⟨hcz31_0,hcz31_1,hcz31_2,hcz31_3,hcz31_4,hcz31_5,hcz31_6,hcz31_7,hfz31_0,hfz31_1,hfz31_2,hfz31_3,hfz31_4,hfz31_5,hfz31_6,hfz31_7⟩:=cz8 BK369.out
   obtain⟨Ao32,co32,eo32⟩:=Kd.R_slice HO_6.out
   subst eo32
   go_wp2_with (first|((with_reducible refine gate_callee (f:=10) rfl ?_);refine goesL_ (some 54) rfl rfl Try.func10 (by kernel_rfl) rfl #[.slice Ao32 x6_1.length co32,.int .i64 a0_0] rfl (by (try simp only [mA,mC,mN]);first|done|rfl|(simp only [List.length_drop,List.length_take];done)|(simp only [List.length_drop,List.length_take];rfl)) ?_;(with_reducible refine (impl_SparseOf.calls k1 _ _ x6_1 a0_0 t381 t382 t383 t384 t385 t386 t389 t390 true _ ?side1 ?side2 A25.out).mono ?_);(case side1=>exact kC (Kd.R_reads' HO_6.out).2.2);(case side2=>exact (Kd.R_reads' HO_6.out).2.1);rintro e w33 ⟨v387,v391,rfl,ho0,ho1,hb⟩;refine⟨_,rfl,?_⟩;replace HO_6:=mk0 (bR HO_6.out hb);replace HO_14:=mk0 (bR HO_14.out hb);replace HO_17:=mk0 (bR HO_17.out hb);have HO388:=mk0 (Kd.R_lower ho0 (kZ HB.out));have HO392:=mk0 (Kd.R_lower ho1 (kZ HB.out));replace BK369:=mk0 (kK BK369.out hb);replace HB:=mk0 (kS HB.out hb);(try clear hb);(try clear ho0);(try clear ho1))|((with_reducible refine gate_dst (N:=10) rfl ?_);refine box_event ?hg (N:=10) ?hd (cs:=#[.int .i64 0,.int .i64 0,.int .i64 0,.int .i64 0,.int .i64 0,.slice none 0 0,.int .i64 0,.slice none 0 0]) (t:=33) ?hr ?_;(case hd=>rfl);(case hg=>rfl);(case hr=>first|(go_simp;done)|(go_simp;rfl));intro gb394 hg w34 hbox hb;replace HO_6:=mk0 (bR HO_6.out hb);replace HO_14:=mk0 (bR HO_14.out hb);replace HO_17:=mk0 (bR HO_17.out hb);replace HO388:=mk0 (bR HO388.out hb);replace HO392:=mk0 (bR HO392.out hb);have BK394:=mk0 (hbox);have GW394:=mk0 ((by rw [hg];exact (kZ HB.out):w.heap.size ≤ gb394));have GE394:=mk0 ((by rw [hg];exact (kZ HB.out):w.heap.size ≤ gb394));replace HB:=mk0 (kS HB.out hb);have NB369_394:=mk0 ((by rw [hg];exact Nat.ne_of_lt (kL BK369.out):gb369 ≠ gb394));have NB394_369:=mk0 ((by rw [hg];exact Nat.ne_of_gt (kL BK369.out):gb394 ≠ gb369));replace BK369:=mk0 (kK BK369.out hb);clear hb hbox hg;have hnb35:=NB394_369.out;have hnc35:=NB369_394.out;obtain⟨hcz36_0,hcz36_1,hcz36_2,hcz36_3,hcz36_4,hcz36_5,hcz36_6,hcz36_7,hfz36_0,hfz36_1,hfz36_2,hfz36_3,hfz36_4,hfz36_5,hfz36_6,hfz36_7⟩:=cz8 BK394.out;obtain⟨Ao37,co37,eo37⟩:=Kd.R_slice HO388.out;subst eo37;obtain⟨Ao38,co38,eo38⟩:=Kd.R_slice HO392.out;subst eo38;obtain⟨hcz39_0,hcz39_1,hcz39_2,hcz39_3,hcz39_4,hcz39_5,hcz39_6,hcz39_7,hfz39_0,hfz39_1,hfz39_2,hfz39_3,hfz39_4,hfz39_5,hfz39_6,hfz39_7⟩:=cz8 BK369.out)|(go_at_call 62;(with_reducible refine (impl_samePacked.calls k1 t383 t384 t385 _ _ t386 a0_2 a0_3 a0_4 _ _ l0_5 true _ ?side1 ?side2 ?side3 ?side4 A28.out).mono ?_);(case side1=>refine (Kd.R_reads' (e:=78) (base:=w.heap.size) (ok:=fun k_=>some k_ ≠ (.slice Ao38 t390.length co38:Value).ownBlock) (n:=t386.length) (c:=co37) ?_).2.2;exact (by (with_reducible repeat (first|apply aR|apply nR|apply dR));exact (Kd.R_mono (Kd.R_far (p:=⟨gb394,7,none⟩) (Kd.R_far (p:=⟨gb394,6,none⟩) (Kd.R_far (p:=⟨gb394,5,none⟩) (Kd.R_far (p:=⟨gb394,4,none⟩) (Kd.R_far (p:=⟨gb394,3,none⟩) (Kd.R_far (p:=⟨gb394,2,none⟩) (Kd.R_far (p:=⟨gb394,1,none⟩) (Kd.R_far (p:=⟨gb394,0,none⟩) (Kd.R_types HO388.out BK394.out (by decide)) (fun _ hk=>hk.2) (.int .i64 t381)) (fun _ hk=>hk.2) (.int .i64 t382)) (fun _ hk=>hk.2) (.int .i64 t383)) (fun _ hk=>hk.2) (.int .i64 t384)) (fun _ hk=>hk.2) (.int .i64 t385)) (fun _ hk=>hk.2) (.slice Ao37 t386.length co37)) (fun _ hk=>hk.2) (.int .i64 t389)) (fun _ hk=>hk.2) (.slice Ao38 t390.length co38)) (fun _ h_=>h_.1))));(case side2=>exact (Kd.R_reads' HO388.out).2.1);(case side3=>exact Kd.C_below HR0_5.out (kB HB.out));(case side4=>exact HC0_5.out);rintro e w40 ⟨rfl,hb⟩;replace HO_6:=mk0 (Kd.R_below (by (with_reducible repeat (first|apply aR|apply nR|apply dR));exact (Kd.R_mono (Kd.R_far (p:=⟨gb394,7,none⟩) (Kd.R_far (p:=⟨gb394,6,none⟩) (Kd.R_far (p:=⟨gb394,5,none⟩) (Kd.R_far (p:=⟨gb394,4,none⟩) (Kd.R_far (p:=⟨gb394,3,none⟩) (Kd.R_far (p:=⟨gb394,2,none⟩) (Kd.R_far (p:=⟨gb394,1,none⟩) (Kd.R_far (p:=⟨gb394,0,none⟩) (Kd.R_types HO_6.out BK394.out (by decide)) (fun _ hk=>hk.2) (.int .i64 t381)) (fun _ hk=>hk.2) (.int .i64 t382)) (fun _ hk=>hk.2) (.int .i64 t383)) (fun _ hk=>hk.2) (.int .i64 t384)) (fun _ hk=>hk.2) (.int .i64 t385)) (fun _ hk=>hk.2) (.slice Ao37 t386.length co37)) (fun _ hk=>hk.2) (.int .i64 t389)) (fun _ hk=>hk.2) (.slice Ao38 t390.length co38)) (fun _ h_=>h_.1))) hb);replace HO_14:=mk0 (Kd.R_below (by (with_reducible repeat (first|apply aR|apply nR|apply dR));exact (Kd.R_mono (Kd.R_far (p:=⟨gb394,7,none⟩) (Kd.R_far (p:=⟨gb394,6,none⟩) (Kd.R_far (p:=⟨gb394,5,none⟩) (Kd.R_far (p:=⟨gb394,4,none⟩) (Kd.R_far (p:=⟨gb394,3,none⟩) (Kd.R_far (p:=⟨gb394,2,none⟩) (Kd.R_far (p:=⟨gb394,1,none⟩) (Kd.R_far (p:=⟨gb394,0,none⟩) (Kd.R_types HO_14.out BK394.out (by decide)) (fun _ hk=>hk.2) (.int .i64 t381)) (fun _ hk=>hk.2) (.int .i64 t382)) (fun _ hk=>hk.2) (.int .i64 t383)) (fun _ hk=>hk.2) (.int .i64 t384)) (fun _ hk=>hk.2) (.int .i64 t385)) (fun _ hk=>hk.2) (.slice Ao37 t386.length co37)) (fun _ hk=>hk.2) (.int .i64 t389)) (fun _ hk=>hk.2) (.slice Ao38 t390.length co38)) (fun _ h_=>h_.1))) hb);replace HO_17:=mk0 (Kd.R_below (by (with_reducible repeat (first|apply aR|apply nR|apply dR));exact (Kd.R_mono (Kd.R_far (p:=⟨gb394,7,none⟩) (Kd.R_far (p:=⟨gb394,6,none⟩) (Kd.R_far (p:=⟨gb394,5,none⟩) (Kd.R_far (p:=⟨gb394,4,none⟩) (Kd.R_far (p:=⟨gb394,3,none⟩) (Kd.R_far (p:=⟨gb394,2,none⟩) (Kd.R_far (p:=⟨gb394,1,none⟩) (Kd.R_far (p:=⟨gb394,0,none⟩) (Kd.R_types HO_17.out BK394.out (by decide)) (fun _ hk=>hk.2) (.int .i64 t381)) (fun _ hk=>hk.2) (.int .i64 t382)) (fun _ hk=>hk.2) (.int .i64 t383)) (fun _ hk=>hk.2) (.int .i64 t384)) (fun _ hk=>hk.2) (.int .i64 t385)) (fun _ hk=>hk.2) (.slice Ao37 t386.length co37)) (fun _ hk=>hk.2) (.int .i64 t389)) (fun _ hk=>hk.2) (.slice Ao38 t390.length co38)) (fun _ h_=>h_.1))) hb);replace HO388:=mk0 (Kd.R_below (by (with_reducible repeat (first|apply aR|apply nR|apply dR));exact (Kd.R_mono (Kd.R_far (p:=⟨gb394,7,none⟩) (Kd.R_far (p:=⟨gb394,6,none⟩) (Kd.R_far (p:=⟨gb394,5,none⟩) (Kd.R_far (p:=⟨gb394,4,none⟩) (Kd.R_far (p:=⟨gb394,3,none⟩) (Kd.R_far (p:=⟨gb394,2,none⟩) (Kd.R_far (p:=⟨gb394,1,none⟩) (Kd.R_far (p:=⟨gb394,0,none⟩) (Kd.R_types HO388.out BK394.out (by decide)) (fun _ hk=>hk.2) (.int .i64 t381)) (fun _ hk=>hk.2) (.int .i64 t382)) (fun _ hk=>hk.2) (.int .i64 t383)) (fun _ hk=>hk.2) (.int .i64 t384)) (fun _ hk=>hk.2) (.int .i64 t385)) (fun _ hk=>hk.2) (.slice Ao37 t386.length co37)) (fun _ hk=>hk.2) (.int .i64 t389)) (fun _ hk=>hk.2) (.slice Ao38 t390.length co38)) (fun _ h_=>h_.1))) hb);replace HO392:=mk0 (Kd.R_below (by (with_reducible repeat (first|apply aR|apply nR|apply dR));exact (Kd.R_mono (Kd.R_far (p:=⟨gb394,7,none⟩) (Kd.R_far (p:=⟨gb394,6,none⟩) (Kd.R_far (p:=⟨gb394,5,none⟩) (Kd.R_far (p:=⟨gb394,4,none⟩) (Kd.R_far (p:=⟨gb394,3,none⟩) (Kd.R_far (p:=⟨gb394,2,none⟩) (Kd.R_far (p:=⟨gb394,1,none⟩) (Kd.R_far (p:=⟨gb394,0,none⟩) (Kd.R_types HO392.out BK394.out (by decide)) (fun _ hk=>hk.2) (.int .i64 t381)) (fun _ hk=>hk.2) (.int .i64 t382)) (fun _ hk=>hk.2) (.int .i64 t383)) (fun _ hk=>hk.2) (.int .i64 t384)) (fun _ hk=>hk.2) (.int .i64 t385)) (fun _ hk=>hk.2) (.slice Ao37 t386.length co37)) (fun _ hk=>hk.2) (.int .i64 t389)) (fun _ hk=>hk.2) (.slice Ao38 t390.length co38)) (fun _ h_=>h_.1))) hb);replace BK369:=mk0 (blk_below (g:=gb369) (o:=.cells #[.int .i64 a0_0,.int .i64 a0_1,.int .i64 a0_2,.int .i64 a0_3,.int .i64 a0_4,.slice A0_5 l0_5.length c0_5,.int .i64 a0_6,.slice A0_7 l0_7.length c0_7] 33 (0,0)) (by (with_reducible repeat (first|apply nB|apply dB|apply aB));refine blk_far ?_ NB369_394.out _;(with_reducible repeat (first|apply nB|apply dB|apply aB));refine blk_far ?_ NB369_394.out _;(with_reducible repeat (first|apply nB|apply dB|apply aB));refine blk_far ?_ NB369_394.out _;(with_reducible repeat (first|apply nB|apply dB|apply aB));refine blk_far ?_ NB369_394.out _;(with_reducible repeat (first|apply nB|apply dB|apply aB));refine blk_far ?_ NB369_394.out _;(with_reducible repeat (first|apply nB|apply dB|apply aB));refine blk_far ?_ NB369_394.out _;(with_reducible repeat (first|apply nB|apply dB|apply aB));refine blk_far ?_ NB369_394.out _;(with_reducible repeat (first|apply nB|apply dB|apply aB));refine blk_far ?_ NB369_394.out _;(with_reducible repeat (first|apply nB|apply dB|apply aB));exact BK369.out) hb);replace BK394:=mk0 (blk_below (g:=gb394) (o:=.cells #[.int .i64 t381,.int .i64 t382,.int .i64 t383,.int .i64 t384,.int .i64 t385,.slice Ao37 t386.length co37,.int .i64 t389,.slice Ao38 t390.length co38] 33 (0,0)) (by (with_reducible repeat (first|apply nB|apply dB|apply aB));refine blk_put (cs:=#[.int .i64 t381,.int .i64 t382,.int .i64 t383,.int .i64 t384,.int .i64 t385,.slice Ao37 t386.length co37,.int .i64 t389,.slice none 0 0]) ?_ 7 _ rfl;(with_reducible repeat (first|apply nB|apply dB|apply aB));refine blk_put (cs:=#[.int .i64 t381,.int .i64 t382,.int .i64 t383,.int .i64 t384,.int .i64 t385,.slice Ao37 t386.length co37,.int .i64 0,.slice none 0 0]) ?_ 6 _ rfl;(with_reducible repeat (first|apply nB|apply dB|apply aB));refine blk_put (cs:=#[.int .i64 t381,.int .i64 t382,.int .i64 t383,.int .i64 t384,.int .i64 t385,.slice none 0 0,.int .i64 0,.slice none 0 0]) ?_ 5 _ rfl;(with_reducible repeat (first|apply nB|apply dB|apply aB));refine blk_put (cs:=#[.int .i64 t381,.int .i64 t382,.int .i64 t383,.int .i64 t384,.int .i64 0,.slice none 0 0,.int .i64 0,.slice none 0 0]) ?_ 4 _ rfl;(with_reducible repeat (first|apply nB|apply dB|apply aB));refine blk_put (cs:=#[.int .i64 t381,.int .i64 t382,.int .i64 t383,.int .i64 0,.int .i64 0,.slice none 0 0,.int .i64 0,.slice none 0 0]) ?_ 3 _ rfl;(with_reducible repeat (first|apply nB|apply dB|apply aB));refine blk_put (cs:=#[.int .i64 t381,.int .i64 t382,.int .i64 0,.int .i64 0,.int .i64 0,.slice none 0 0,.int .i64 0,.slice none 0 0]) ?_ 2 _ rfl;(with_reducible repeat (first|apply nB|apply dB|apply aB));refine blk_put (cs:=#[.int .i64 t381,.int .i64 0,.int .i64 0,.int .i64 0,.int .i64 0,.slice none 0 0,.int .i64 0,.slice none 0 0]) ?_ 1 _ rfl;(with_reducible repeat (first|apply nB|apply dB|apply aB));refine blk_put (cs:=#[.int .i64 0,.int .i64 0,.int .i64 0,.int .i64 0,.int .i64 0,.slice none 0 0,.int .i64 0,.slice none 0 0]) ?_ 0 _ rfl;(with_reducible repeat (first|apply nB|apply dB|apply aB));exact BK394.out) hb);replace HB:=mk0 (kS HB.out hb);(try clear hb);(try clear hb2);(try clear hk);(try clear hi);obtain⟨hcz41_0,hcz41_1,hcz41_2,hcz41_3,hcz41_4,hcz41_5,hcz41_6,hcz41_7,hfz41_0,hfz41_1,hfz41_2,hfz41_3,hfz41_4,hfz41_5,hfz41_6,hfz41_7⟩:=cz8 BK394.out;obtain⟨hcz42_0,hcz42_1,hcz42_2,hcz42_3,hcz42_4,hcz42_5,hcz42_6,hcz42_7,hfz42_0,hfz42_1,hfz42_2,hfz42_3,hfz42_4,hfz42_5,hfz42_6,hfz42_7⟩:=cz8 BK369.out)|(go_at_call 63;(with_reducible refine (impl_sameBits.calls k1 t389 _ _ t390 a0_6 _ _ l0_7 t396 _ ?side1 ?side2 ?side3 ?side4 A30.out).mono ?_);(case side1=>exact kC (Kd.R_reads' HO392.out).2.2);(case side2=>exact (Kd.R_reads' HO392.out).2.1);(case side3=>exact kC (Kd.C_below HR0_7.out HB.out));(case side4=>exact HC0_7.out);rintro e w43 ⟨rfl,hb⟩;replace HO_6:=mk0 (bR HO_6.out hb);replace HO_14:=mk0 (bR HO_14.out hb);replace HO_17:=mk0 (bR HO_17.out hb);replace HO388:=mk0 (bR HO388.out hb);replace HO392:=mk0 (bR HO392.out hb);replace BK369:=mk0 (kK BK369.out hb);replace BK394:=mk0 (kK BK394.out hb);replace HB:=mk0 (kS HB.out hb);(try clear hb)))
   go_ret2
   exact⟨_,by first|rfl|(simp [errW_none,errW_some] <;> rfl)|(simp [*,errW_none,errW_some] <;> rfl),rR (Kd.R_mono HO_6.out (fun _ hk=>trivial)),kB HB.out⟩
/-! ### impl_SparseList: function 12 -/
def impl_SparseList.f (k : Nat) (a0_0 : Int) (a0_1 : Int) (a0_2 : Int) (a0_3 : Int) (a0_4 : Int) (l0_5 : List Int) (a0_6 : Int) (l0_7 : List Int) : Option (List Int) := (impl_Sparse_read.f k a0_0 a0_1 a0_2 a0_3 a0_4 l0_5 a0_6 l0_7).bind fun bt398 => (if bt398.2 = true then (some bt398.1) else (some ([] : List Int)))
theorem impl_SparseList.mono : ∀ a0 a1 a2 a3 a4 a5 a6 a7 k, LeO (impl_SparseList.f k a0 a1 a2 a3 a4 a5 a6 a7) (impl_SparseList.f (k + 1) a0 a1 a2 a3 a4 a5 a6 a7) := by
 intro a0 a1 a2 a3 a4 a5 a6 a7 k
 unfold impl_SparseList.f
 repeat' first|(with_reducible first|exact impl_Sparse_read.mono _ _ _ _ _ _ _ _ _|exact LeO.refl _|exact LeO.none _|refine LeO.ite ?_ ?_|refine LeO.bind ?_ (fun _ => ?_))|exact LeO.none _|refine LeO.ite ?_ ?_|refine LeO.bind ?_ (fun _ => ?_)
set_option maxHeartbeats 8000000 in
set_option maxRecDepth 100000 in
theorem impl_SparseList.calls (k : Nat) (a0_0 : Int) (a0_1 : Int) (a0_2 : Int) (a0_3 : Int) (a0_4 : Int) (A0_5 : Option Addr) (c0_5 : Nat) (l0_5 : List Int) (a0_6 : Int) (A0_7 : Option Addr) (c0_7 : Nat) (l0_7 : List Int) (r : List Int) (w : World) (hr0_5 : Kd.C (Kd.int .u64) w A0_5 l0_5.length l0_5) (hc0_5 : l0_5.length ≤ c0_5) (hr0_7 : Kd.C (Kd.int .u64) w A0_7 l0_7.length l0_7) (hc0_7 : l0_7.length ≤ c0_7) (h : impl_SparseList.f k a0_0 a0_1 a0_2 a0_3 a0_4 l0_5 a0_6 l0_7 = some r) :
  Calls Try.prog 12 #[.agg #[.int .i64 a0_0, .int .i64 a0_1, .int .i64 a0_2, .int .i64 a0_3, .int .i64 a0_4, .slice A0_5 l0_5.length c0_5, .int .i64 a0_6, .slice A0_7 l0_7.length c0_7]] w fun e w' => ∃ v0_ : Value, e = .returned (v0_) ∧ Kd.R (Kd.int .i64) 3 w' w.heap.size (fun _ => True) v0_ r ∧ Below w.heap.size w w' := by
 have hu33:=Try.underlying33
 have HR0_5:=mk0 hr0_5
 have HC0_5:=mk0 hc0_5
 clear hr0_5 hc0_5
 have HR0_7:=mk0 hr0_7
 have HC0_7:=mk0 hc0_7
 clear hr0_7 hc0_7
 have HB:=mk0 (Below.refl w.heap.size w)
 have H:((impl_Sparse_read.f k a0_0 a0_1 a0_2 a0_3 a0_4 l0_5 a0_6 l0_7).bind fun bt398=>(if bt398.2 = true then (some bt398.1) else (some ([]:List Int)))) = some r:=h
 clear h
 replace H:=Option.bind_eq_some_iff.mp H
 obtain⟨⟨t398,t401⟩,A20,H⟩:=H
 replace H:(if t401 = true then (some t398) else (some ([]:List Int))) = some r:=H
 have A2:=mk0 A20
 clear A20
 by_cases c3:t401 = true
 ·subst c3
  have H1:(some t398) = some r:=by rw [if_pos rfl] at H;exact H
  clear H
  have H:=H1
  clear H1
  obtain rfl:=Option.some.inj H
  go_enter Try.func12,Try.ntmps12
  go_wp2_with (first|((with_reducible refine gate_dst (N:=1) rfl ?_);refine box_event ?hg (N:=1) ?hd (cs:=#[.int .i64 a0_0,.int .i64 a0_1,.int .i64 a0_2,.int .i64 a0_3,.int .i64 a0_4,.slice A0_5 l0_5.length c0_5,.int .i64 a0_6,.slice A0_7 l0_7.length c0_7]) (t:=33) ?hr ?_;(case hd=>rfl);(case hg=>rfl);(case hr=>first|(go_simp;done)|(go_simp;rfl));intro gb397 hg w4 hbox hb;have BK397:=mk0 (hbox);have GW397:=mk0 ((by rw [hg];exact (kZ HB.out):w.heap.size ≤ gb397));have GE397:=mk0 ((by rw [hg];exact (kZ HB.out):w.heap.size ≤ gb397));replace HB:=mk0 (kS HB.out hb);clear hb hbox hg;obtain⟨hcz5_0,hcz5_1,hcz5_2,hcz5_3,hcz5_4,hcz5_5,hcz5_6,hcz5_7,hfz5_0,hfz5_1,hfz5_2,hfz5_3,hfz5_4,hfz5_5,hfz5_6,hfz5_7⟩:=cz8 BK397.out)|((with_reducible refine gate_callee (f:=38) rfl ?_);refine goesL_ (some 7) rfl rfl Try.func38 (by kernel_rfl) rfl #[.agg #[.int .i64 a0_0,.int .i64 a0_1,.int .i64 a0_2,.int .i64 a0_3,.int .i64 a0_4,.slice A0_5 l0_5.length c0_5,.int .i64 a0_6,.slice A0_7 l0_7.length c0_7]] rfl (by (try simp only [mA,mC,mN]);first|done|rfl|(simp only [List.length_drop,List.length_take];done)|(simp only [List.length_drop,List.length_take];rfl)) ?_;(with_reducible refine (impl_Sparse_read.calls k a0_0 a0_1 a0_2 a0_3 a0_4 _ _ l0_5 a0_6 _ _ l0_7 t398 true _ ?side1 ?side2 ?side3 ?side4 A2.out).mono ?_);(case side1=>exact kC (Kd.C_below HR0_5.out HB.out));(case side2=>exact HC0_5.out);(case side3=>exact kC (Kd.C_below HR0_7.out HB.out));(case side4=>exact HC0_7.out);rintro e w6 ⟨v399,rfl,ho0,hb⟩;refine⟨_,rfl,?_⟩;have HO400:=mk0 (Kd.R_lower ho0 (kZ HB.out));replace BK397:=mk0 (kK BK397.out hb);replace HB:=mk0 (kS HB.out hb);(try clear hb);(try clear ho0)))
  go_ret
  exact⟨_,by first|rfl|(simp [errW_none,errW_some] <;> rfl)|(simp [*,errW_none,errW_some] <;> rfl),rR HO400.out,kB HB.out⟩
 ·replace c3:=Bool.eq_false_iff.mpr c3
  subst c3
  have H1:(some ([]:List Int)) = some r:=by rw [if_neg (show ¬ (false = true) by decide)] at H;exact H
  clear H
  have H:=H1
  clear H1
  obtain rfl:=Option.some.inj H
  go_enter Try.func12,Try.ntmps12
  go_wp2_with (first|((with_reducible refine gate_dst (N:=1) rfl ?_);refine box_event ?hg (N:=1) ?hd (cs:=#[.int .i64 a0_0,.int .i64 a0_1,.int .i64 a0_2,.int .i64 a0_3,.int .i64 a0_4,.slice A0_5 l0_5.length c0_5,.int .i64 a0_6,.slice A0_7 l0_7.length c0_7]) (t:=33) ?hr ?_;(case hd=>rfl);(case hg=>rfl);(case hr=>first|(go_simp;done)|(go_simp;rfl));intro gb397 hg w7 hbox hb;have BK397:=mk0 (hbox);have GW397:=mk0 ((by rw [hg];exact (kZ HB.out):w.heap.size ≤ gb397));have GE397:=mk0 ((by rw [hg];exact (kZ HB.out):w.heap.size ≤ gb397));replace HB:=mk0 (kS HB.out hb);clear hb hbox hg;obtain⟨hcz8_0,hcz8_1,hcz8_2,hcz8_3,hcz8_4,hcz8_5,hcz8_6,hcz8_7,hfz8_0,hfz8_1,hfz8_2,hfz8_3,hfz8_4,hfz8_5,hfz8_6,hfz8_7⟩:=cz8 BK397.out)|((with_reducible refine gate_callee (f:=38) rfl ?_);refine goesL_ (some 7) rfl rfl Try.func38 (by kernel_rfl) rfl #[.agg #[.int .i64 a0_0,.int .i64 a0_1,.int .i64 a0_2,.int .i64 a0_3,.int .i64 a0_4,.slice A0_5 l0_5.length c0_5,.int .i64 a0_6,.slice A0_7 l0_7.length c0_7]] rfl (by (try simp only [mA,mC,mN]);first|done|rfl|(simp only [List.length_drop,List.length_take];done)|(simp only [List.length_drop,List.length_take];rfl)) ?_;(with_reducible refine (impl_Sparse_read.calls k a0_0 a0_1 a0_2 a0_3 a0_4 _ _ l0_5 a0_6 _ _ l0_7 t398 false _ ?side1 ?side2 ?side3 ?side4 A2.out).mono ?_);(case side1=>exact kC (Kd.C_below HR0_5.out HB.out));(case side2=>exact HC0_5.out);(case side3=>exact kC (Kd.C_below HR0_7.out HB.out));(case side4=>exact HC0_7.out);rintro e w9 ⟨v399,rfl,ho0,hb⟩;refine⟨_,rfl,?_⟩;have HO400:=mk0 (Kd.R_lower ho0 (kZ HB.out));replace BK397:=mk0 (kK BK397.out hb);replace HB:=mk0 (kS HB.out hb);(try clear hb);(try clear ho0)))
  go_ret
  exact⟨_,by first|rfl|(simp [errW_none,errW_some] <;> rfl)|(simp [*,errW_none,errW_some] <;> rfl),by first|exact Kd.R_nil _ _ _ _ _|exact Kd.N_nil _ _ _ _ _|exact Kd.V_nil _ _ _ _ _|exact Kd.Q_nil _ _ _ _ _|exact Kd.S_nil _ _ _ _ _,kB HB.out⟩

/-! ### impl_SparseOk: function 13 -/
def impl_SparseOk.f (k : Nat) (a0_0 : Int) (a0_1 : Int) (a0_2 : Int) (a0_3 : Int) (a0_4 : Int) (l0_5 : List Int) (a0_6 : Int) (l0_7 : List Int) : Option (Bool) := (impl_Sparse_read.f k a0_0 a0_1 a0_2 a0_3 a0_4 l0_5 a0_6 l0_7).bind fun bt403 => (some bt403.2)
theorem impl_SparseOk.mono : ∀ a0 a1 a2 a3 a4 a5 a6 a7 k, LeO (impl_SparseOk.f k a0 a1 a2 a3 a4 a5 a6 a7) (impl_SparseOk.f (k + 1) a0 a1 a2 a3 a4 a5 a6 a7) := by
 intro a0 a1 a2 a3 a4 a5 a6 a7 k
 unfold impl_SparseOk.f
 repeat' first|(with_reducible first|exact impl_Sparse_read.mono _ _ _ _ _ _ _ _ _|exact LeO.refl _|exact LeO.none _|refine LeO.ite ?_ ?_|refine LeO.bind ?_ (fun _ => ?_))|exact LeO.none _|refine LeO.ite ?_ ?_|refine LeO.bind ?_ (fun _ => ?_)
set_option maxHeartbeats 8000000 in
set_option maxRecDepth 100000 in
theorem impl_SparseOk.calls (k : Nat) (a0_0 : Int) (a0_1 : Int) (a0_2 : Int) (a0_3 : Int) (a0_4 : Int) (A0_5 : Option Addr) (c0_5 : Nat) (l0_5 : List Int) (a0_6 : Int) (A0_7 : Option Addr) (c0_7 : Nat) (l0_7 : List Int) (r : Bool) (w : World) (hr0_5 : Kd.C (Kd.int .u64) w A0_5 l0_5.length l0_5) (hc0_5 : l0_5.length ≤ c0_5) (hr0_7 : Kd.C (Kd.int .u64) w A0_7 l0_7.length l0_7) (hc0_7 : l0_7.length ≤ c0_7) (h : impl_SparseOk.f k a0_0 a0_1 a0_2 a0_3 a0_4 l0_5 a0_6 l0_7 = some r) :
  Calls Try.prog 13 #[.agg #[.int .i64 a0_0, .int .i64 a0_1, .int .i64 a0_2, .int .i64 a0_3, .int .i64 a0_4, .slice A0_5 l0_5.length c0_5, .int .i64 a0_6, .slice A0_7 l0_7.length c0_7]] w fun e w' => e = .returned (.bool r) ∧ Below w.heap.size w w' := by
 have hu33:=Try.underlying33
 have HR0_5:=mk0 hr0_5
 have HC0_5:=mk0 hc0_5
 clear hr0_5 hc0_5
 have HR0_7:=mk0 hr0_7
 have HC0_7:=mk0 hc0_7
 clear hr0_7 hc0_7
 have HB:=mk0 (Below.refl w.heap.size w)
 have H:((impl_Sparse_read.f k a0_0 a0_1 a0_2 a0_3 a0_4 l0_5 a0_6 l0_7).bind fun bt403=>(some bt403.2)) = some r:=h
 clear h
 replace H:=Option.bind_eq_some_iff.mp H
 obtain⟨⟨t403,t406⟩,A20,H⟩:=H
 replace H:(some t406) = some r:=H
 have A2:=mk0 A20
 clear A20
 obtain rfl:=Option.some.inj H
 go_enter Try.func13,Try.ntmps13
 go_wp2_with (first|((with_reducible refine gate_dst (N:=1) rfl ?_);refine box_event ?hg (N:=1) ?hd (cs:=#[.int .i64 a0_0,.int .i64 a0_1,.int .i64 a0_2,.int .i64 a0_3,.int .i64 a0_4,.slice A0_5 l0_5.length c0_5,.int .i64 a0_6,.slice A0_7 l0_7.length c0_7]) (t:=33) ?hr ?_;(case hd=>rfl);(case hg=>rfl);(case hr=>first|(go_simp;done)|(go_simp;rfl));intro gb402 hg w3 hbox hb;have BK402:=mk0 (hbox);have GW402:=mk0 ((by rw [hg];exact (kZ HB.out):w.heap.size ≤ gb402));have GE402:=mk0 ((by rw [hg];exact (kZ HB.out):w.heap.size ≤ gb402));replace HB:=mk0 (kS HB.out hb);clear hb hbox hg;obtain⟨hcz4_0,hcz4_1,hcz4_2,hcz4_3,hcz4_4,hcz4_5,hcz4_6,hcz4_7,hfz4_0,hfz4_1,hfz4_2,hfz4_3,hfz4_4,hfz4_5,hfz4_6,hfz4_7⟩:=cz8 BK402.out)|((with_reducible refine gate_callee (f:=38) rfl ?_);refine goesL_ (some 7) rfl rfl Try.func38 (by kernel_rfl) rfl #[.agg #[.int .i64 a0_0,.int .i64 a0_1,.int .i64 a0_2,.int .i64 a0_3,.int .i64 a0_4,.slice A0_5 l0_5.length c0_5,.int .i64 a0_6,.slice A0_7 l0_7.length c0_7]] rfl (by (try simp only [mA,mC,mN]);first|done|rfl|(simp only [List.length_drop,List.length_take];done)|(simp only [List.length_drop,List.length_take];rfl)) ?_;(with_reducible refine (impl_Sparse_read.calls k a0_0 a0_1 a0_2 a0_3 a0_4 _ _ l0_5 a0_6 _ _ l0_7 t403 t406 _ ?side1 ?side2 ?side3 ?side4 A2.out).mono ?_);(case side1=>exact kC (Kd.C_below HR0_5.out HB.out));(case side2=>exact HC0_5.out);(case side3=>exact kC (Kd.C_below HR0_7.out HB.out));(case side4=>exact HC0_7.out);rintro e w5 ⟨v404,rfl,ho0,hb⟩;refine⟨_,rfl,?_⟩;have HO405:=mk0 (Kd.R_lower ho0 (kZ HB.out));replace BK402:=mk0 (kK BK402.out hb);replace HB:=mk0 (kS HB.out hb);(try clear hb);(try clear ho0)))
 go_ret
 exact⟨by first|rfl|(simp [errW_none,errW_some] <;> rfl)|(simp [*,errW_none,errW_some] <;> rfl),kB HB.out⟩

/-! ### slices_isNaN_int: function 64 -/
def slices_isNaN_int.f (a0 : Int) : Option (Bool) := some (a0 != a0)
set_option maxHeartbeats 8000000 in
set_option maxRecDepth 100000 in
theorem slices_isNaN_int.calls (a0 : Int) (r : Bool) (w : World) (h : slices_isNaN_int.f a0 = some r) :
  Calls Try.prog 64 #[.int .i64 a0] w fun e w' => e = .returned (.bool r) ∧ Drawn0 w w' := by
 have H:(some (a0 != a0)) = some r:=h
 clear h
 obtain rfl:=Option.some.inj H
 go_enter Try.func64,Try.ntmps64
 go_wp2
 go_ret
 exact⟨by first|rfl|(simp;done)|(simp [*];done),by repeat (first|exact Drawn0.refl _|apply Drawn0.step)⟩

/-! ### slices_BinarySearch_int_int: function 39 -/
def slices_BinarySearch_int_int.l0 : Nat → List Int → Int → Int → Int → Int → Option (Int × Bool)
 | 0, _, _, _, _, _ => none
 | k + 1, x0, x1, x6, x7, x8 => if x7 < x8 then (if 0 ≤ (wrap64 ((IntKind.u64.wrap (wrap64 (x7 + x8))) / 2)) then (if (wrap64 ((IntKind.u64.wrap (wrap64 (x7 + x8))) / 2)) < (x0.length : Int) then ((cmp_Less_int.f (rd x0 (wrap64 ((IntKind.u64.wrap (wrap64 (x7 + x8))) / 2))) x1).bind fun t408 => (if t408 = true then (slices_BinarySearch_int_int.l0 k x0 x1 x6 (wrap64 ((wrap64 ((IntKind.u64.wrap (wrap64 (x7 + x8))) / 2)) + 1)) x8) else (slices_BinarySearch_int_int.l0 k x0 x1 x6 x7 (wrap64 ((IntKind.u64.wrap (wrap64 (x7 + x8))) / 2))))) else (none)) else (none)) else (if x7 < x6 then (if 0 ≤ x7 then (if x7 < (x0.length : Int) then (if (rd x0 x7) = x1 then (some (x7, true)) else ((slices_isNaN_int.f (rd x0 x7)).bind fun t411 => (if t411 = true then ((slices_isNaN_int.f x1).bind fun t412 => (some (x7, t412))) else (some (x7, false))))) else (none)) else (none)) else (some (x7, false)))
def slices_BinarySearch_int_int.f (k : Nat) (l0 : List Int) (a1 : Int) : Option (Int × Bool) := slices_BinarySearch_int_int.l0 k l0 a1 (l0.length : Int) 0 (l0.length : Int)
theorem slices_BinarySearch_int_int.mono_l : ∀ k, (∀ y0 y1 y2 y3 y4, LeO (slices_BinarySearch_int_int.l0 k y0 y1 y2 y3 y4) (slices_BinarySearch_int_int.l0 (k + 1) y0 y1 y2 y3 y4))
 | 0 => fun _ _ _ _ _ r h => by simp [slices_BinarySearch_int_int.l0] at h
 | k + 1 => by
  have ih0 := slices_BinarySearch_int_int.mono_l k
  ·intro y0 y1 y2 y3 y4
   unfold slices_BinarySearch_int_int.l0
   repeat' first|(with_reducible first|exact ih0 _ _ _ _ _|exact LeO.refl _|exact LeO.none _|refine LeO.ite ?_ ?_|refine LeO.bind ?_ (fun _ => ?_))|exact LeO.none _|refine LeO.ite ?_ ?_|refine LeO.bind ?_ (fun _ => ?_)
theorem slices_BinarySearch_int_int.mono : ∀ a0 a1 k, LeO (slices_BinarySearch_int_int.f k a0 a1) (slices_BinarySearch_int_int.f (k + 1) a0 a1) := by
 intro a0 a1 k
 have ih0 := slices_BinarySearch_int_int.mono_l k
 unfold slices_BinarySearch_int_int.f
 repeat' first|(with_reducible first|exact ih0 _ _ _ _ _|exact LeO.refl _|exact LeO.none _|refine LeO.ite ?_ ?_|refine LeO.bind ?_ (fun _ => ?_))|exact LeO.none _|refine LeO.ite ?_ ?_|refine LeO.bind ?_ (fun _ => ?_)
set_option maxHeartbeats 8000000 in
set_option maxRecDepth 100000 in
theorem slices_BinarySearch_int_int.calls (k : Nat) (A0 : Option Addr) (c0 : Nat) (l0 : List Int) (a1 : Int) (r1 : Int) (r2 : Bool) (w : World) (hr0 : Kd.C (Kd.int .i64) w A0 l0.length l0) (hc0 : l0.length ≤ c0) (h : slices_BinarySearch_int_int.f k l0 a1 = some (r1, r2)) :
  Calls Try.prog 39 #[.slice A0 l0.length c0, .int .i64 a1] w fun e w' => e = .returned (.tuple #[.int .i64 r1, .bool r2]) ∧ Drawn0 w w' := by
 have HR0:=mk0 hr0
 have HC0:=mk0 hc0
 clear hr0 hc0
 have H:(slices_BinarySearch_int_int.l0 k l0 a1 (l0.length:Int) 0 (l0.length:Int)) = some (r1,r2):=h
 clear h
 have H':=mk0 H
 clear H
 go_enter Try.func39,Try.ntmps39
 go_wp2
 go_loopg [7,8] k (fun kq v7 v8 w'=>∃ (x7_1:Int) (x8_1:Int),v7 = .int .i64 x7_1 ∧ v8 = .int .i64 x8_1 ∧ Aside0 (slices_BinarySearch_int_int.l0 kq l0 a1 (l0.length:Int) x7_1 x8_1 = some (r1,r2)) ∧ Aside0 (kq ≤ k) ∧ Drawn0 w w')
 case atStart=>exact⟨(0),((l0.length:Int)),(by first|rfl|(simp;done)|(simp [*];done)),(by first|rfl|(simp;done)|(simp [*];done)),H',⟨Nat.le_refl _⟩,by repeat (first|exact Drawn0.refl _|apply Drawn0.step)⟩
 case round =>
  clear H'
  try clear p2
  obtain⟨x7_1,x8_1,rfl,rfl,HA,HK1,⟨m1,rfl⟩⟩:=hrel
  cases gk with
  | zero=>exact absurd HA.out (by simp [slices_BinarySearch_int_int.l0])
  | succ k1 =>
   have H:=HA.out
   clear HA
   simp only [slices_BinarySearch_int_int.l0] at H
   by_cases c3:x7_1 < x8_1
   ·rw [if_pos c3] at H
    have c3b0:decide (x7_1 < x8_1) = true:=decide_eq_true c3
    clear c3
    obtain⟨ji4,hji4⟩:∃ j_:Int,(wrap64 ((IntKind.u64.wrap (wrap64 (x7_1 + x8_1))) / 2)) = j_:=⟨_,rfl⟩
    replace H:(if 0 ≤ (ji4) then (if (ji4) < (l0.length:Int) then ((cmp_Less_int.f (rd l0 (ji4)) a1).bind fun t408=>(if t408 = true then (slices_BinarySearch_int_int.l0 k1 l0 a1 (l0.length:Int) (wrap64 ((ji4) + 1)) x8_1) else (slices_BinarySearch_int_int.l0 k1 l0 a1 (l0.length:Int) x7_1 ji4))) else (none)) else (none)) = some (r1,r2):=by first|(rw [hji4] at H;exact H)|(simp only [hji4] at H ⊢;exact H)
    have hji4w:(IntKind.i64.wrap ((IntKind.u64.wrap (wrap64 (x7_1 + x8_1))) / 2)) = ji4:=(i64_w _).trans hji4
    by_cases c5:0 ≤ (ji4)
    ·rw [if_pos c5] at H
     have c5b0:decide (0 ≤ (ji4)) = true:=decide_eq_true c5
     clear c5
     by_cases c6:(ji4) < (l0.length:Int)
     ·rw [if_pos c6] at H
      have c6b0:decide ((ji4) < (l0.length:Int)) = true:=decide_eq_true c6
      clear c6
      replace H:=Option.bind_eq_some_iff.mp H
      obtain⟨t408,A70,H⟩:=H
      replace H:(if t408 = true then (slices_BinarySearch_int_int.l0 k1 l0 a1 (l0.length:Int) (wrap64 ((ji4) + 1)) x8_1) else (slices_BinarySearch_int_int.l0 k1 l0 a1 (l0.length:Int) x7_1 ji4)) = some (r1,r2):=H
      have A7:=mk0 A70
      clear A70
      by_cases c8:t408 = true
      ·subst c8
       have H1:(slices_BinarySearch_int_int.l0 k1 l0 a1 (l0.length:Int) (wrap64 ((ji4) + 1)) x8_1) = some (r1,r2):=by rw [if_pos rfl] at H;exact H
       clear H
       have H:=H1
       clear H1
       have H':=mk0 H
       clear H
       have p407:0 ≤ ((ji4):Int):=of_decide_eq_true (by first|(with_reducible assumption)|assumption)
       have q407:(ji4) < (l0.length:Int):=of_decide_eq_true (by first|(with_reducible assumption)|assumption)
       obtain⟨ad407,e407,hx407_0⟩:=Kd.at_int HR0.out (ji4) p407 q407
       cases e407
       replace p407:=eq_true p407
       replace q407:=eq_true q407
       go_wp2_with (first|((with_reducible refine gate_callee (f:=54) rfl ?_);refine goesL_ (some 27) rfl rfl Try.func54 (by kernel_rfl) rfl #[.int .i64 (rd l0 (ji4)),.int .i64 a1] rfl (by (try simp only [mA,mC,mN]);first|done|(simp only [hji4];rfl)|rfl|(simp only [List.length_drop,List.length_take];done)|(simp only [List.length_drop,List.length_take];rfl)) ?_;(with_reducible refine (cmp_Less_int.calls (rd l0 (ji4)) a1 true _ A7.out).mono ?_);rintro e w' ⟨rfl,⟨nd,rfl⟩⟩;refine⟨_,rfl,?_⟩))
       go_roundg k1
       case measure=>have:=HK1.out;omega
       case rel=>exact⟨(wrap64 ((ji4) + 1)),(x8_1),(by first|rfl|(simp;done)|(simp only [← hji4] <;> (first|rfl|simp))|(simp [*];done)),(by first|rfl|(simp;done)|(simp [*];done)),H',⟨by have:=HK1.out;omega⟩,by repeat (first|exact Drawn0.refl _|apply Drawn0.step)⟩
      ·replace c8:=Bool.eq_false_iff.mpr c8
       subst c8
       have H1:(slices_BinarySearch_int_int.l0 k1 l0 a1 (l0.length:Int) x7_1 ji4) = some (r1,r2):=by rw [if_neg (show ¬ (false = true) by decide)] at H;exact H
       clear H
       have H:=H1
       clear H1
       have H':=mk0 H
       clear H
       have p407:0 ≤ ((ji4):Int):=of_decide_eq_true (by first|(with_reducible assumption)|assumption)
       have q407:(ji4) < (l0.length:Int):=of_decide_eq_true (by first|(with_reducible assumption)|assumption)
       obtain⟨ad407,e407,hx407_0⟩:=Kd.at_int HR0.out (ji4) p407 q407
       cases e407
       replace p407:=eq_true p407
       replace q407:=eq_true q407
       go_wp2_with (first|((with_reducible refine gate_callee (f:=54) rfl ?_);refine goesL_ (some 27) rfl rfl Try.func54 (by kernel_rfl) rfl #[.int .i64 (rd l0 (ji4)),.int .i64 a1] rfl (by (try simp only [mA,mC,mN]);first|done|(simp only [hji4];rfl)|rfl|(simp only [List.length_drop,List.length_take];done)|(simp only [List.length_drop,List.length_take];rfl)) ?_;(with_reducible refine (cmp_Less_int.calls (rd l0 (ji4)) a1 false _ A7.out).mono ?_);rintro e w' ⟨rfl,⟨nd,rfl⟩⟩;refine⟨_,rfl,?_⟩))
       go_roundg k1
       case measure=>have:=HK1.out;omega
       case rel=>exact⟨(x7_1),(ji4),(by first|rfl|(simp;done)|(simp [*];done)),(by first|rfl|(simp;done)|(simp only [← hji4] <;> (first|rfl|simp))|(simp [*];done)),H',⟨by have:=HK1.out;omega⟩,by repeat (first|exact Drawn0.refl _|apply Drawn0.step)⟩
     ·rw [if_neg c6] at H
      exact absurd H (by simp)
    ·rw [if_neg c5] at H
     exact absurd H (by simp)
   ·rw [if_neg c3] at H
    have c3b0:decide (x7_1 < x8_1) = false:=decide_eq_false c3
    clear c3
    by_cases c9:x7_1 < (l0.length:Int)
    ·rw [if_pos c9] at H
     have c9b0:decide (x7_1 < (l0.length:Int)) = true:=decide_eq_true c9
     clear c9
     by_cases c10:0 ≤ x7_1
     ·rw [if_pos c10] at H
      have c10b0:decide (0 ≤ x7_1) = true:=decide_eq_true c10
      clear c10
      by_cases c11:x7_1 < (l0.length:Int)
      ·rw [if_pos c11] at H
       have c11b0:decide (x7_1 < (l0.length:Int)) = true:=decide_eq_true c11
       clear c11
       by_cases c12:(rd l0 x7_1) = a1
       ·rw [if_pos c12] at H
        have c12b0:((rd l0 x7_1) == a1) = true:=beq_iff_eq.mpr c12
        have c12b1:((rd l0 x7_1) != a1) = false:=bne_eq_false_iff_eq.mpr c12
        clear c12
        simp only [Option.some.injEq,Prod.mk.injEq] at H
        obtain⟨rfl,rfl⟩:=H
        have p409:0 ≤ (x7_1:Int):=of_decide_eq_true (by first|(with_reducible assumption)|assumption)
        have q409:x7_1 < (l0.length:Int):=of_decide_eq_true (by first|(with_reducible assumption)|assumption)
        obtain⟨ad409,e409,hx409_0⟩:=Kd.at_int HR0.out x7_1 p409 q409
        cases e409
        replace p409:=eq_true p409
        replace q409:=eq_true q409
        go_wp2
        go_ret2
        exact⟨by first|rfl|(simp;done)|(simp [*];done),by repeat (first|exact Drawn0.refl _|apply Drawn0.step)⟩
       ·rw [if_neg c12] at H
        have c12b0:((rd l0 x7_1) == a1) = false:=beq_eq_false_iff_ne.mpr c12
        have c12b1:((rd l0 x7_1) != a1) = true:=bne_iff_ne.mpr c12
        replace H:=Option.bind_eq_some_iff.mp H
        obtain⟨t411,A130,H⟩:=H
        replace H:(if t411 = true then ((slices_isNaN_int.f a1).bind fun t412=>(some (x7_1,t412))) else (some (x7_1,false))) = some (r1,r2):=H
        have A13:=mk0 A130
        clear A130
        by_cases c14:t411 = true
        ·subst c14
         have H1:((slices_isNaN_int.f a1).bind fun t412=>(some (x7_1,t412))) = some (r1,r2):=by rw [if_pos rfl] at H;exact H
         clear H
         have H:=H1
         clear H1
         replace H:=Option.bind_eq_some_iff.mp H
         obtain⟨t412,A150,H⟩:=H
         replace H:(some (x7_1,t412)) = some (r1,r2):=H
         have A15:=mk0 A150
         clear A150
         simp only [Option.some.injEq,Prod.mk.injEq] at H
         obtain⟨rfl,rfl⟩:=H
         have p409:0 ≤ (x7_1:Int):=of_decide_eq_true (by first|(with_reducible assumption)|assumption)
         have q409:x7_1 < (l0.length:Int):=of_decide_eq_true (by first|(with_reducible assumption)|assumption)
         obtain⟨ad409,e409,hx409_0⟩:=Kd.at_int HR0.out x7_1 p409 q409
         cases e409
         replace p409:=eq_true p409
         replace q409:=eq_true q409
         have p410:0 ≤ (x7_1:Int):=of_decide_eq_true (by first|(with_reducible assumption)|assumption)
         have q410:x7_1 < (l0.length:Int):=of_decide_eq_true (by first|(with_reducible assumption)|assumption)
         obtain⟨ad410,e410,hx410_0⟩:=Kd.at_int HR0.out x7_1 p410 q410
         obtain rfl:ad409 = ad410:=(by injection e410)
         replace p410:=eq_true p410
         replace q410:=eq_true q410
         go_wp2_with (first|(go_at_call 64;(with_reducible refine (slices_isNaN_int.calls (rd l0 x7_1) true _ A13.out).mono ?_);rintro e w' ⟨rfl,⟨nd,rfl⟩⟩)|(go_at_call 64;(with_reducible refine (slices_isNaN_int.calls a1 t412 _ A15.out).mono ?_);rintro e w' ⟨rfl,⟨nd,rfl⟩⟩))
         go_ret2
         exact⟨by first|rfl|(simp;done)|(simp [*];done),by repeat (first|exact Drawn0.refl _|apply Drawn0.step)⟩
        ·replace c14:=Bool.eq_false_iff.mpr c14
         subst c14
         have H1:(some (x7_1,false)) = some (r1,r2):=by rw [if_neg (show ¬ (false = true) by decide)] at H;exact H
         clear H
         have H:=H1
         clear H1
         simp only [Option.some.injEq,Prod.mk.injEq] at H
         obtain⟨rfl,rfl⟩:=H
         have p409:0 ≤ (x7_1:Int):=of_decide_eq_true (by first|(with_reducible assumption)|assumption)
         have q409:x7_1 < (l0.length:Int):=of_decide_eq_true (by first|(with_reducible assumption)|assumption)
         obtain⟨ad409,e409,hx409_0⟩:=Kd.at_int HR0.out x7_1 p409 q409
         cases e409
         replace p409:=eq_true p409
         replace q409:=eq_true q409
         have p410:0 ≤ (x7_1:Int):=of_decide_eq_true (by first|(with_reducible assumption)|assumption)
         have q410:x7_1 < (l0.length:Int):=of_decide_eq_true (by first|(with_reducible assumption)|assumption)
         obtain⟨ad410,e410,hx410_0⟩:=Kd.at_int HR0.out x7_1 p410 q410
         obtain rfl:ad409 = ad410:=(by injection e410)
         replace p410:=eq_true p410
         replace q410:=eq_true q410
         go_wp2_with (first|(go_at_call 64;(with_reducible refine (slices_isNaN_int.calls (rd l0 x7_1) false _ A13.out).mono ?_);rintro e w' ⟨rfl,⟨nd,rfl⟩⟩))
         go_ret2
         exact⟨by first|rfl|(simp;done)|(simp [*];done),by repeat (first|exact Drawn0.refl _|apply Drawn0.step)⟩
      ·rw [if_neg c11] at H
       exact absurd H (by simp)
     ·rw [if_neg c10] at H
      exact absurd H (by simp)
    ·rw [if_neg c9] at H
     have c9b0:decide (x7_1 < (l0.length:Int)) = false:=decide_eq_false c9
     clear c9
     simp only [Option.some.injEq,Prod.mk.injEq] at H
     obtain⟨rfl,rfl⟩:=H
     go_wp2
     go_ret2
     exact⟨by first|rfl|(simp;done)|(simp [*];done),by repeat (first|exact Drawn0.refl _|apply Drawn0.step)⟩

end Go.Proofs.Ytmohfjfgpeapfaa.QFnSparse
