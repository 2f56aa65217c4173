-- A walk, made by walk.py, a program of this session's.
import Derived.Test.YtmohfjfgpeapfaaQFnExactSparseRankx0
import Derived.Test.YtmohfjfgpeapfaaQFnExactSparseRankx9
import Derived.Test.YtmohfjfgpeapfaaQFnExactSparseRankx10
import Derived.Test.YtmohfjfgpeapfaaQFnExactSparseRankx11
namespace Go.Proofs.Ytmohfjfgpeapfaa.QFnExactSparseRank
open Go.RowKit Go.Proofs.YtmohfjfgpeapfaaW.PrintWords Go.Proofs.YtmohfjfgpeapfaaW.PrintLast Go.Proofs.YtmohfjfgpeapfaaW.PrintMore
attribute [local go_sem] max2_int min2_int max_two min_two max_three min_three max_four min_four   -- for this text's walks alone
set_option linter.unusedVariables false
set_option linter.unusedSimpArgs false

/-! ### spec_SparseOk: function 48 -/
def spec_SparseOk.j0 : Nat → Bool → Int → Int → Int → Int → Int → List Int → Int → List Int → Option (Bool)
 | 0, _, _, _, _, _, _, _, _, _ => none
 | k + 1, x20, x428000, x428001, x428002, x428003, x428004, x428005, x428006, x428007 => if x20 = true then (some false) else ((spec_l03List.f k x428000 x428001 x428002 x428003 x428004 x428005 x428006 x428007).bind fun t430 => ((spec_SparseOf.f k t430 x428000).bind fun bt433 => (if bt433.2.2.2.2.2.2.2.2 = true then (if bt433.2.1 = x428001 then (if bt433.2.2.1 = x428002 then (if bt433.2.2.2.1 = x428003 then ((spec_l03Same.f k bt433.2.2.2.2.1 bt433.2.2.2.2.2.1 x428004 x428005).bind fun t447 => (if t447 = true then ((spec_l03Same.f k bt433.2.2.2.2.2.2.1 bt433.2.2.2.2.2.2.2.1 x428006 x428007).bind fun t448 => (some t448)) else (some false))) else (some false)) else (some false)) else (some false)) else (some false))))
def spec_SparseOk.f (k : Nat) (a0_0 : Int) (a0_1 : Int) (a0_2 : Int) (a0_3 : Int) (a0_4 : Int) (l0_5 : List Int) (a0_6 : Int) (l0_7 : List Int) : Option (Bool) := (spec_PackOk.f k a0_2 a0_3 a0_4 l0_5).bind fun t428 => (if t428 = true then ((spec_BitsOk.f k a0_6 l0_7).bind fun t429 => (if t429 = true then (spec_SparseOk.j0 k (decide (a0_2 > 20)) a0_0 a0_1 a0_2 a0_3 a0_4 l0_5 a0_6 l0_7) else (spec_SparseOk.j0 k true a0_0 a0_1 a0_2 a0_3 a0_4 l0_5 a0_6 l0_7))) else (spec_SparseOk.j0 k true a0_0 a0_1 a0_2 a0_3 a0_4 l0_5 a0_6 l0_7))
theorem spec_SparseOk.mono_l : ∀ k, (∀ y0 y1 y2 y3 y4 y5 y6 y7 y8, LeO (spec_SparseOk.j0 k y0 y1 y2 y3 y4 y5 y6 y7 y8) (spec_SparseOk.j0 (k + 1) y0 y1 y2 y3 y4 y5 y6 y7 y8))
 | 0 => fun _ _ _ _ _ _ _ _ _ r h => by simp [spec_SparseOk.j0] at h
 | k + 1 => by
  have ih0 := spec_SparseOk.mono_l k
  ·intro y0 y1 y2 y3 y4 y5 y6 y7 y8
   unfold spec_SparseOk.j0
   repeat' first|(with_reducible first|exact ih0 _ _ _ _ _ _ _ _ _|exact spec_BitsOk.mono _ _ _|exact spec_PackOk.mono _ _ _ _ _|exact spec_SparseOf.mono _ _ _|exact spec_l03List.mono _ _ _ _ _ _ _ _ _|exact spec_l03Same.mono _ _ _ _ _|exact LeO.refl _|exact LeO.none _|refine LeO.ite ?_ ?_|refine LeO.bind ?_ (fun _ => ?_))|exact LeO.none _|refine LeO.ite ?_ ?_|refine LeO.bind ?_ (fun _ => ?_)
theorem spec_SparseOk.mono : ∀ a0 a1 a2 a3 a4 a5 a6 a7 k, LeO (spec_SparseOk.f k a0 a1 a2 a3 a4 a5 a6 a7) (spec_SparseOk.f (k + 1) a0 a1 a2 a3 a4 a5 a6 a7) := by
 intro a0 a1 a2 a3 a4 a5 a6 a7 k
 have ih0 := spec_SparseOk.mono_l k
 unfold spec_SparseOk.f
 repeat' first|(with_reducible first|exact ih0 _ _ _ _ _ _ _ _ _|exact spec_BitsOk.mono _ _ _|exact spec_PackOk.mono _ _ _ _ _|exact spec_SparseOf.mono _ _ _|exact spec_l03List.mono _ _ _ _ _ _ _ _ _|exact spec_l03Same.mono _ _ _ _ _|exact LeO.refl _|exact LeO.none _|refine LeO.ite ?_ ?_|refine LeO.bind ?_ (fun _ => ?_))|exact LeO.none _|refine LeO.ite ?_ ?_|refine LeO.bind ?_ (fun _ => ?_)
def spec_SparseOk.T3 : Bool × List (List Nat × List Nat) := (true, [([], []), ([0], [0]), ([], []), ([2], [2]), ([1, 3, 1], [1, 3]), ([4], [4]), ([5], [5]), ([5], [5]), ([], []), ([8, 6, 4, 0, 1, 2, 3, 4, 5, 6, 8], [6, 8]), ([7, 9, 0, 1, 2, 3, 4, 5, 6, 7, 8, 9], [7])])
def spec_SparseOk.B3 : List Nat := [0, 1, 0, 4, 15, 31, 63, 63, 0, 383, 1023]
theorem spec_SparseOk.tab3 : rtab .any (opsOf Try.f48 3) = spec_SparseOk.T3 := by kernel_rfl
theorem spec_SparseOk.bits3 : waitsOk spec_SparseOk.T3.2 spec_SparseOk.B3 = true := by kernel_rfl
abbrev spec_SparseOk.m0 : Array Bool := #[F,F,F,F,F,F,F,F,F,F,F]
abbrev spec_SparseOk.m1 : Array Bool := #[F,F,T,F,F,F,F,F,F,F,F]
abbrev spec_SparseOk.m2 : Array Bool := #[T,F,T,F,F,F,F,F,F,F,F]
abbrev spec_SparseOk.m3 : Array Bool := #[T,F,T,T,F,F,F,F,F,F,F]
abbrev spec_SparseOk.m4 : Array Bool := #[T,T,T,T,T,T,T,T,T,F,F]
abbrev spec_SparseOk.m5 : Array Bool := #[T,T,T,T,F,F,F,F,F,F,F]
abbrev spec_SparseOk.m6 : Array Bool := #[T,F,T,T,F,F,F,F,T,F,F]
abbrev spec_SparseOk.m7 : Array Bool := #[T,T,T,T,T,F,F,F,F,F,F]
abbrev spec_SparseOk.m8 : Array Bool := #[T,T,T,T,F,F,F,F,T,F,F]
abbrev spec_SparseOk.m9 : Array Bool := #[T,T,T,T,T,T,F,F,F,F,F]
abbrev spec_SparseOk.m10 : Array Bool := #[T,T,T,T,T,T,T,F,F,F,F]
abbrev spec_SparseOk.m11 : Array Bool := #[T,T,T,T,T,T,T,T,F,F,F]
abbrev spec_SparseOk.m12 : Array Bool := #[T,T,T,T,T,F,F,F,T,F,F]
abbrev spec_SparseOk.m13 : Array Bool := #[T,T,T,T,T,T,F,F,T,F,F]
abbrev spec_SparseOk.m14 : Array Bool := #[T,T,T,T,T,T,T,F,T,F,F]
abbrev spec_SparseOk.m15 : Array Bool := #[T,T,T,T,T,T,T,T,T,T,F]
abbrev spec_SparseOk.m16 : Array Bool := #[T,T,T,T,T,T,T,T,T,T,T]
set_option maxHeartbeats 8000000 in
set_option maxRecDepth 100000 in
theorem spec_SparseOk.calls (k : Nat) (a0_0 : Int) (a0_1 : Int) (a0_2 : Int) (a0_3 : Int) (a0_4 : Int) (A0_5 : Option Addr) (c0_5 : Nat) (l0_5 : List Int) (a0_6 : Int) (A0_7 : Option Addr) (c0_7 : Nat) (l0_7 : List Int) (r : Bool) (w : World) (hr0_5 : Kd.C (Kd.int .u64) w A0_5 l0_5.length l0_5) (hc0_5 : l0_5.length ≤ c0_5) (hr0_7 : Kd.C (Kd.int .u64) w A0_7 l0_7.length l0_7) (hc0_7 : l0_7.length ≤ c0_7) (h : spec_SparseOk.f k a0_0 a0_1 a0_2 a0_3 a0_4 l0_5 a0_6 l0_7 = some r) :
  Calls Try.prog 48 #[.agg #[.int .i64 a0_0, .int .i64 a0_1, .int .i64 a0_2, .int .i64 a0_3, .int .i64 a0_4, .slice A0_5 l0_5.length c0_5, .int .i64 a0_6, .slice A0_7 l0_7.length c0_7]] w fun e w' => e = .returned (.bool r) ∧ Below w.heap.size w w' := by
 have hu33:=Try.underlying33
 have hu31:=Try.underlying31
 have hu29:=Try.underlying29
 have HR0_5:=mk0 hr0_5
 have HC0_5:=mk0 hc0_5
 clear hr0_5 hc0_5
 have HR0_7:=mk0 hr0_7
 have HC0_7:=mk0 hc0_7
 clear hr0_7 hc0_7
 have HB:=mk0 (Below.refl w.heap.size w)
 have H:((spec_PackOk.f k a0_2 a0_3 a0_4 l0_5).bind fun t428=>(if t428 = true then ((spec_BitsOk.f k a0_6 l0_7).bind fun t429=>(if t429 = true then (spec_SparseOk.j0 k (decide (a0_2 > 20)) a0_0 a0_1 a0_2 a0_3 a0_4 l0_5 a0_6 l0_7) else (spec_SparseOk.j0 k true a0_0 a0_1 a0_2 a0_3 a0_4 l0_5 a0_6 l0_7))) else (spec_SparseOk.j0 k true a0_0 a0_1 a0_2 a0_3 a0_4 l0_5 a0_6 l0_7))) = some r:=h
 clear h
 have HC2:=mk0 H
 clear H
 go_enter Try.func48,Try.ntmps48
 go_upto_region 1 with (first|((with_reducible refine gate_dst (N:=1) rfl ?_);refine box_event ?hg (N:=1) ?hd (cs:=#[.int .i64 a0_0,.int .i64 a0_1,.int .i64 a0_2,.int .i64 a0_3,.int .i64 a0_4,.slice A0_5 l0_5.length c0_5,.int .i64 a0_6,.slice A0_7 l0_7.length c0_7]) (t:=33) ?hr ?_;(case hd=>rfl);(case hg=>rfl);(case hr=>first|(go_simp;done)|(go_simp;rfl));intro gb427 hg w3 hbox hb;have BK427:=mk0 (hbox);have GW427:=mk0 ((by rw [hg];exact (kZ HB.out):w.heap.size ≤ gb427));have GE427:=mk0 ((by rw [hg];exact (kZ HB.out):w.heap.size ≤ gb427));replace HB:=mk0 (kS HB.out hb);clear hb hbox hg))
 (try simp only [Act.put,sA,sO,sS])
 go_cut [20] (fun v20 wc=>∃ (kq:Nat) (x20_1:Bool),v20 = .bool x20_1 ∧ Aside0 (spec_SparseOk.j0 kq x20_1 a0_0 a0_1 a0_2 a0_3 a0_4 l0_5 a0_6 l0_7 = some r) ∧ Aside0 (kq ≤ k) ∧ Aside0 (wc.heap[gb427]? = some (.cells #[.int .i64 a0_0,.int .i64 a0_1,.int .i64 a0_2,.int .i64 a0_3,.int .i64 a0_4,(.slice A0_5 l0_5.length c0_5),.int .i64 a0_6,(.slice A0_7 l0_7.length c0_7)] 33 (0,0))) ∧ Aside0 (Below w.heap.size w wc))
 case first =>
  have H:=HC2.out
  clear HC2
  replace H:=Option.bind_eq_some_iff.mp H
  obtain⟨t428,A40,H⟩:=H
  replace H:(if t428 = true then ((spec_BitsOk.f k a0_6 l0_7).bind fun t429=>(if t429 = true then (spec_SparseOk.j0 k (decide (a0_2 > 20)) a0_0 a0_1 a0_2 a0_3 a0_4 l0_5 a0_6 l0_7) else (spec_SparseOk.j0 k true a0_0 a0_1 a0_2 a0_3 a0_4 l0_5 a0_6 l0_7))) else (spec_SparseOk.j0 k true a0_0 a0_1 a0_2 a0_3 a0_4 l0_5 a0_6 l0_7)) = some r:=H
  have A4:=mk0 A40
  clear A40
  by_cases c5:t428 = true
  rotate_left
  ·replace c5:=Bool.eq_false_iff.mpr c5
   subst c5
   have H1:(spec_SparseOk.j0 k true a0_0 a0_1 a0_2 a0_3 a0_4 l0_5 a0_6 l0_7) = some r:=by rw [if_neg (show ¬ (false = true) by decide)] at H;exact H
   clear H
   have H:=H1
   clear H1
   have H':=mk0 H
   clear H
   obtain⟨hcz17_0,hcz17_1,hcz17_2,hcz17_3,hcz17_4,hcz17_5,hcz17_6,hcz17_7,hfz17_0,hfz17_1,hfz17_2,hfz17_3,hfz17_4,hfz17_5,hfz17_6,hfz17_7⟩:=cz8 BK427.out
   go_wp2_with (first|((with_reducible refine gate_callee (f:=69) rfl ?_);refine goesL_ (some 7) rfl rfl Try.func69 (by kernel_rfl) rfl #[.agg #[.int .i64 a0_2,.int .i64 a0_3,.int .i64 a0_4,.slice A0_5 l0_5.length c0_5]] rfl (by (try simp only [mA,mC,mN]);first|done|rfl|(simp only [List.length_drop,List.length_take];rfl)) ?_;(with_reducible refine (spec_PackOk.calls k a0_2 a0_3 a0_4 _ _ l0_5 false _ ?side1 ?side2 A4.out).mono ?_);(case side1=>exact kC (Kd.C_below HR0_5.out HB.out));(case side2=>exact HC0_5.out);rintro e w18 ⟨rfl,hb⟩;refine⟨_,rfl,?_⟩;replace BK427:=mk0 (kK BK427.out hb);replace HB:=mk0 (kS HB.out hb);(try clear hb)))
   go_meet
   case rel=>exact⟨_,(true),(by first|rfl|(simp;done)|(simp [*];done)),H',⟨by first|omega|exact Nat.le_refl _⟩,⟨kN BK427.out⟩,⟨kB HB.out⟩⟩
  subst c5
  have H1:((spec_BitsOk.f k a0_6 l0_7).bind fun t429=>(if t429 = true then (spec_SparseOk.j0 k (decide (a0_2 > 20)) a0_0 a0_1 a0_2 a0_3 a0_4 l0_5 a0_6 l0_7) else (spec_SparseOk.j0 k true a0_0 a0_1 a0_2 a0_3 a0_4 l0_5 a0_6 l0_7))) = some r:=by rw [if_pos rfl] at H;exact H
  clear H
  have H:=H1
  clear H1
  replace H:=Option.bind_eq_some_iff.mp H
  obtain⟨t429,A60,H⟩:=H
  replace H:(if t429 = true then (spec_SparseOk.j0 k (decide (a0_2 > 20)) a0_0 a0_1 a0_2 a0_3 a0_4 l0_5 a0_6 l0_7) else (spec_SparseOk.j0 k true a0_0 a0_1 a0_2 a0_3 a0_4 l0_5 a0_6 l0_7)) = some r:=H
  have A6:=mk0 A60
  clear A60
  by_cases c7:t429 = true
  rotate_left
  ·replace c7:=Bool.eq_false_iff.mpr c7
   subst c7
   have H1:(spec_SparseOk.j0 k true a0_0 a0_1 a0_2 a0_3 a0_4 l0_5 a0_6 l0_7) = some r:=by rw [if_neg (show ¬ (false = true) by decide)] at H;exact H
   clear H
   have H:=H1
   clear H1
   have H':=mk0 H
   clear H
   obtain⟨hcz13_0,hcz13_1,hcz13_2,hcz13_3,hcz13_4,hcz13_5,hcz13_6,hcz13_7,hfz13_0,hfz13_1,hfz13_2,hfz13_3,hfz13_4,hfz13_5,hfz13_6,hfz13_7⟩:=cz8 BK427.out
   go_wp2_with (first|((with_reducible refine gate_callee (f:=69) rfl ?_);refine goesL_ (some 7) rfl rfl Try.func69 (by kernel_rfl) rfl #[.agg #[.int .i64 a0_2,.int .i64 a0_3,.int .i64 a0_4,.slice A0_5 l0_5.length c0_5]] rfl (by (try simp only [mA,mC,mN]);first|done|rfl|(simp only [List.length_drop,List.length_take];rfl)) ?_;(with_reducible refine (spec_PackOk.calls k a0_2 a0_3 a0_4 _ _ l0_5 true _ ?side1 ?side2 A4.out).mono ?_);(case side1=>exact kC (Kd.C_below HR0_5.out HB.out));(case side2=>exact HC0_5.out);rintro e w14 ⟨rfl,hb⟩;refine⟨_,rfl,?_⟩;replace BK427:=mk0 (kK BK427.out hb);replace HB:=mk0 (kS HB.out hb);(try clear hb);obtain⟨hcz15_0,hcz15_1,hcz15_2,hcz15_3,hcz15_4,hcz15_5,hcz15_6,hcz15_7,hfz15_0,hfz15_1,hfz15_2,hfz15_3,hfz15_4,hfz15_5,hfz15_6,hfz15_7⟩:=cz8 BK427.out)|(go_at_call 70;(with_reducible refine (spec_BitsOk.calls k a0_6 _ _ l0_7 false _ ?side1 ?side2 A6.out).mono ?_);(case side1=>exact kC (Kd.C_below HR0_7.out HB.out));(case side2=>exact HC0_7.out);rintro e w16 ⟨rfl,hb⟩;replace BK427:=mk0 (kK BK427.out hb);replace HB:=mk0 (kS HB.out hb);(try clear hb)))
   go_meet
   case rel=>exact⟨_,(true),(by first|rfl|(simp;done)|(simp [*];done)),H',⟨by first|omega|exact Nat.le_refl _⟩,⟨kN BK427.out⟩,⟨kB HB.out⟩⟩
  subst c7
  have H1:(spec_SparseOk.j0 k (decide (a0_2 > 20)) a0_0 a0_1 a0_2 a0_3 a0_4 l0_5 a0_6 l0_7) = some r:=by rw [if_pos rfl] at H;exact H
  clear H
  have H:=H1
  clear H1
  have H':=mk0 H
  clear H
  obtain⟨hcz8_0,hcz8_1,hcz8_2,hcz8_3,hcz8_4,hcz8_5,hcz8_6,hcz8_7,hfz8_0,hfz8_1,hfz8_2,hfz8_3,hfz8_4,hfz8_5,hfz8_6,hfz8_7⟩:=cz8 BK427.out
  go_wp2_with (first|((with_reducible refine gate_callee (f:=69) rfl ?_);refine goesL_ (some 7) rfl rfl Try.func69 (by kernel_rfl) rfl #[.agg #[.int .i64 a0_2,.int .i64 a0_3,.int .i64 a0_4,.slice A0_5 l0_5.length c0_5]] rfl (by (try simp only [mA,mC,mN]);first|done|rfl|(simp only [List.length_drop,List.length_take];rfl)) ?_;(with_reducible refine (spec_PackOk.calls k a0_2 a0_3 a0_4 _ _ l0_5 true _ ?side1 ?side2 A4.out).mono ?_);(case side1=>exact kC (Kd.C_below HR0_5.out HB.out));(case side2=>exact HC0_5.out);rintro e w9 ⟨rfl,hb⟩;refine⟨_,rfl,?_⟩;replace BK427:=mk0 (kK BK427.out hb);replace HB:=mk0 (kS HB.out hb);(try clear hb);obtain⟨hcz10_0,hcz10_1,hcz10_2,hcz10_3,hcz10_4,hcz10_5,hcz10_6,hcz10_7,hfz10_0,hfz10_1,hfz10_2,hfz10_3,hfz10_4,hfz10_5,hfz10_6,hfz10_7⟩:=cz8 BK427.out)|(go_at_call 70;(with_reducible refine (spec_BitsOk.calls k a0_6 _ _ l0_7 true _ ?side1 ?side2 A6.out).mono ?_);(case side1=>exact kC (Kd.C_below HR0_7.out HB.out));(case side2=>exact HC0_7.out);rintro e w11 ⟨rfl,hb⟩;replace BK427:=mk0 (kK BK427.out hb);replace HB:=mk0 (kS HB.out hb);(try clear hb);obtain⟨hcz12_0,hcz12_1,hcz12_2,hcz12_3,hcz12_4,hcz12_5,hcz12_6,hcz12_7,hfz12_0,hfz12_1,hfz12_2,hfz12_3,hfz12_4,hfz12_5,hfz12_6,hfz12_7⟩:=cz8 BK427.out))
  go_meet
  case rel=>exact⟨_,(decide (a0_2 > 20)),(by first|rfl|(simp;done)|(simp [*];done)),H',⟨by first|omega|exact Nat.le_refl _⟩,⟨kN BK427.out⟩,⟨kB HB.out⟩⟩
 case rest =>
  clear HC2
  try clear p2
  try clear c4
  try clear c5
  try clear c6
  try clear c7
  try clear hcz10_0
  try clear hcz10_1
  try clear hcz10_2
  try clear hcz10_3
  try clear hcz10_4
  try clear hcz10_5
  try clear hcz10_6
  try clear hcz10_7
  try clear hcz12_0
  try clear hcz12_1
  try clear hcz12_2
  try clear hcz12_3
  try clear hcz12_4
  try clear hcz12_5
  try clear hcz12_6
  try clear hcz12_7
  try clear hcz13_0
  try clear hcz13_1
  try clear hcz13_2
  try clear hcz13_3
  try clear hcz13_4
  try clear hcz13_5
  try clear hcz13_6
  try clear hcz13_7
  try clear hcz15_0
  try clear hcz15_1
  try clear hcz15_2
  try clear hcz15_3
  try clear hcz15_4
  try clear hcz15_5
  try clear hcz15_6
  try clear hcz15_7
  try clear hcz17_0
  try clear hcz17_1
  try clear hcz17_2
  try clear hcz17_3
  try clear hcz17_4
  try clear hcz17_5
  try clear hcz17_6
  try clear hcz17_7
  try clear hcz8_0
  try clear hcz8_1
  try clear hcz8_2
  try clear hcz8_3
  try clear hcz8_4
  try clear hcz8_5
  try clear hcz8_6
  try clear hcz8_7
  try clear hfz10_0
  try clear hfz10_1
  try clear hfz10_2
  try clear hfz10_3
  try clear hfz10_4
  try clear hfz10_5
  try clear hfz10_6
  try clear hfz10_7
  try clear hfz12_0
  try clear hfz12_1
  try clear hfz12_2
  try clear hfz12_3
  try clear hfz12_4
  try clear hfz12_5
  try clear hfz12_6
  try clear hfz12_7
  try clear hfz13_0
  try clear hfz13_1
  try clear hfz13_2
  try clear hfz13_3
  try clear hfz13_4
  try clear hfz13_5
  try clear hfz13_6
  try clear hfz13_7
  try clear hfz15_0
  try clear hfz15_1
  try clear hfz15_2
  try clear hfz15_3
  try clear hfz15_4
  try clear hfz15_5
  try clear hfz15_6
  try clear hfz15_7
  try clear hfz17_0
  try clear hfz17_1
  try clear hfz17_2
  try clear hfz17_3
  try clear hfz17_4
  try clear hfz17_5
  try clear hfz17_6
  try clear hfz17_7
  try clear hfz8_0
  try clear hfz8_1
  try clear hfz8_2
  try clear hfz8_3
  try clear hfz8_4
  try clear hfz8_5
  try clear hfz8_6
  try clear hfz8_7
  obtain⟨kq,x20_1,rfl,HA,HJ1,BK427,HB⟩:=hcut
  cases kq with
  | zero=>exact absurd HA.out (by simp [spec_SparseOk.j0])
  | succ kj1 =>
   have H:=HA.out
   clear HA
   simp only [spec_SparseOk.j0] at H
   by_cases c19:x20_1 = true
   ·subst c19
    have H1:(some false) = some r:=by rw [if_pos rfl] at H;exact H
    clear H
    have H:=H1
    clear H1
    obtain rfl:=Option.some.inj H
    go_wp2
    go_ret
    exact⟨by first|rfl|(simp [errW_none,errW_some] <;> rfl)|(simp [*,errW_none,errW_some] <;> rfl),kB HB.out⟩
   replace c19:=Bool.eq_false_iff.mpr c19
   subst c19
   have H1:((spec_l03List.f kj1 a0_0 a0_1 a0_2 a0_3 a0_4 l0_5 a0_6 l0_7).bind fun t430=>((spec_SparseOf.f kj1 t430 a0_0).bind fun bt433=>(if bt433.2.2.2.2.2.2.2.2 = true then (if bt433.2.1 = a0_1 then (if bt433.2.2.1 = a0_2 then (if bt433.2.2.2.1 = a0_3 then ((spec_l03Same.f kj1 bt433.2.2.2.2.1 bt433.2.2.2.2.2.1 a0_4 l0_5).bind fun t447=>(if t447 = true then ((spec_l03Same.f kj1 bt433.2.2.2.2.2.2.1 bt433.2.2.2.2.2.2.2.1 a0_6 l0_7).bind fun t448=>(some t448)) else (some false))) else (some false)) else (some false)) else (some false)) else (some false)))) = some r:=by rw [if_neg (show ¬ (false = true) by decide)] at H;exact H
   clear H
   have H:=H1
   clear H1
   replace H:=Option.bind_eq_some_iff.mp H
   obtain⟨t430,A200,H⟩:=H
   replace H:((spec_SparseOf.f kj1 t430 a0_0).bind fun bt433=>(if bt433.2.2.2.2.2.2.2.2 = true then (if bt433.2.1 = a0_1 then (if bt433.2.2.1 = a0_2 then (if bt433.2.2.2.1 = a0_3 then ((spec_l03Same.f kj1 bt433.2.2.2.2.1 bt433.2.2.2.2.2.1 a0_4 l0_5).bind fun t447=>(if t447 = true then ((spec_l03Same.f kj1 bt433.2.2.2.2.2.2.1 bt433.2.2.2.2.2.2.2.1 a0_6 l0_7).bind fun t448=>(some t448)) else (some false))) else (some false)) else (some false)) else (some false)) else (some false))) = some r:=H
   have A20:=mk0 A200
   clear A200
   replace H:=Option.bind_eq_some_iff.mp H
   obtain⟨⟨t433,t434,t435,t436,t437,t438,t441,t442,t445⟩,A210,H⟩:=H
   replace H:(if t445 = true then (if t434 = a0_1 then (if t435 = a0_2 then (if t436 = a0_3 then ((spec_l03Same.f kj1 t437 t438 a0_4 l0_5).bind fun t447=>(if t447 = true then ((spec_l03Same.f kj1 t441 t442 a0_6 l0_7).bind fun t448=>(some t448)) else (some false))) else (some false)) else (some false)) else (some false)) else (some false)) = some r:=H
   have A21:=mk0 A210
   clear A210
   by_cases c22:t445 = true
   rotate_left
   ·replace c22:=Bool.eq_false_iff.mpr c22
    subst c22
    have H1:(some false) = some r:=by rw [if_neg (show ¬ (false = true) by decide)] at H;exact H
    clear H
    have H:=H1
    clear H1
    obtain rfl:=Option.some.inj H
    try go_wp2
    replace BK427:=mk0 (dB BK427.out)
    replace HB:=mk0 (dZ HB.out)
    refine start_ (n:=11) (S:=fun w'=>w'.cell? ⟨gb427,0,none⟩ = some (.int .i64 a0_0) ∧ w'.cell? ⟨gb427,1,none⟩ = some (.int .i64 a0_1) ∧ w'.cell? ⟨gb427,2,none⟩ = some (.int .i64 a0_2) ∧ w'.cell? ⟨gb427,3,none⟩ = some (.int .i64 a0_3) ∧ w'.cell? ⟨gb427,4,none⟩ = some (.int .i64 a0_4) ∧ w'.cell? ⟨gb427,5,none⟩ = some (.slice A0_5 l0_5.length c0_5) ∧ w'.cell? ⟨gb427,6,none⟩ = some (.int .i64 a0_6) ∧ w'.cell? ⟨gb427,7,none⟩ = some (.slice A0_7 l0_7.length c0_7)) (ds:=[]) spec_SparseOk.m0 (by kernel_rfl) rfl rfl (ck8 BK427.out) (fun hHeld=>?_);refine with_tabW spec_SparseOk.tab3 spec_SparseOk.bits3 (fun HT_ HW_=>?_)
    generalize wc.drew = w129 at BK427 HB hHeld ⊢
    refine pure_ (i:=2) (N:=some 24) (v:=?_) (a':=?_) spec_SparseOk.m1 rfl rfl (any_of HT_.out (by kernel_rfl)) (fun _ _ _ h=>h) (Or.inl ⟨by rfl,?_⟩) ?_ ?_
    rotate_left
    ·intro w'
     go_simp
     with_reducible rfl
    rotate_left
    ·simp only [Act.put,sA,sO,sS,i64_w,i32_w]
     rfl
    refine take_ (i:=0) (N:=some 22) (v:=?_) (a':=?_) spec_SparseOk.m2 rfl rfl (take_ofW HT_.out HW_.out (by kernel_rfl)) (fun _ _ _ h=>h) (Or.inl ⟨by rfl,?_⟩) hHeld ?_ ?_
    rotate_left
    ·rintro w' ⟨s0,s1,s2,s3,s4,s5,s6,s7⟩
     go_simp
     with_reducible rfl
    rotate_left
    ·simp only [Act.put,sA,sO,sS,i64_w,i32_w]
     rfl
    refine take_ (i:=3) (N:=some 25) (v:=?_) (a':=?_) spec_SparseOk.m3 rfl rfl (take_ofW HT_.out HW_.out (by kernel_rfl)) (fun _ _ _ h=>h) (Or.inl ⟨by rfl,?_⟩) hHeld ?_ ?_
    rotate_left
    ·rintro w' ⟨s0,s1,s2,s3,s4,s5,s6,s7⟩
     go_simp
     with_reducible rfl
    rotate_left
    ·simp only [Act.put,sA,sO,sS,i64_w,i32_w]
     rfl
    refine join_ (σ:=Value × Value × Value × Nat) 2 spec_SparseOk.m4 (fun s_=>[(23,s_.1),(26,.tuple #[.agg #[.int .i64 t433,.int .i64 t434,.int .i64 t435,.int .i64 t436,.int .i64 t437,s_.2.1,.int .i64 t441,s_.2.2.1],.bool false]),(3,.pointer (some ⟨s_.2.2.2,0,none⟩)),(21,.tuple #[.agg #[.int .i64 t433,.int .i64 t434,.int .i64 t435,.int .i64 t436,.int .i64 t437,s_.2.1,.int .i64 t441,s_.2.2.1],.bool false]),(27,.agg #[.int .i64 t433,.int .i64 t434,.int .i64 t435,.int .i64 t436,.int .i64 t437,s_.2.1,.int .i64 t441,s_.2.2.1]),(28,.bool false)]) (fun s_ w'=>(w'.cell? ⟨gb427,0,none⟩ = some (.int .i64 a0_0) ∧ w'.cell? ⟨gb427,1,none⟩ = some (.int .i64 a0_1) ∧ w'.cell? ⟨gb427,2,none⟩ = some (.int .i64 a0_2) ∧ w'.cell? ⟨gb427,3,none⟩ = some (.int .i64 a0_3) ∧ w'.cell? ⟨gb427,4,none⟩ = some (.int .i64 a0_4) ∧ w'.cell? ⟨gb427,5,none⟩ = some (.slice A0_5 l0_5.length c0_5) ∧ w'.cell? ⟨gb427,6,none⟩ = some (.int .i64 a0_6) ∧ w'.cell? ⟨gb427,7,none⟩ = some (.slice A0_7 l0_7.length c0_7)) ∧ (Kd.R (Kd.int .i64) 3 w' w.heap.size (fun _=>True) s_.1 t430) ∧ (Kd.R (Kd.int .u64) 78 w' w.heap.size (fun k_=>some k_ ≠ (s_.2.2.1:Value).ownBlock) s_.2.1 t438) ∧ (Kd.R (Kd.int .u64) 78 w' w.heap.size (fun k_=>some k_ ≠ (s_.2.1:Value).ownBlock) s_.2.2.1 t442) ∧ (w'.heap[gb427]? = some (.cells #[.int .i64 a0_0,.int .i64 a0_1,.int .i64 a0_2,.int .i64 a0_3,.int .i64 a0_4,.slice A0_5 l0_5.length c0_5,.int .i64 a0_6,.slice A0_7 l0_7.length c0_7] 33 (0,0))) ∧ (w'.heap[s_.2.2.2]? = some (.cells #[.int .i64 0,.int .i64 0,.int .i64 0,.int .i64 0,.int .i64 0,.slice none 0 0,.int .i64 0,.slice none 0 0] 33 (0,0))) ∧ (w.heap.size ≤ s_.2.2.2) ∧ (w.heap.size ≤ s_.2.2.2) ∧ (gb427 ≠ s_.2.2.2) ∧ (s_.2.2.2 ≠ gb427) ∧ (Below w.heap.size w w')) ?_ ?_
    rotate_left
    ·intro hCont
     refine two_ (i:=1) (j:=8) (Ni:=some 23) (Nj:=some 3) spec_SparseOk.m5 spec_SparseOk.m6 rfl rfl rfl rfl (two_of HT_.out (by kernel_rfl)) (by decide) (by decide) (fun K hK=>?_) (fun K hK=>?_)
     ·skip
      refine goes_ Try.func49 (by kernel_rfl) rfl #[.agg #[.int .i64 a0_0,.int .i64 a0_1,.int .i64 a0_2,.int .i64 a0_3,.int .i64 a0_4,.slice A0_5 l0_5.length c0_5,.int .i64 a0_6,.slice A0_7 l0_7.length c0_7]] (by rfl) rfl rfl (by (try simp only [mA,mC,mN]);first|done|rfl|(simp only [List.length_drop,List.length_take];rfl)) ?_
      with_reducible refine (spec_l03List.calls kj1 a0_0 a0_1 a0_2 a0_3 a0_4 _ _ l0_5 a0_6 _ _ l0_7 t430 _ ?side1 ?side2 ?side3 ?side4 A20.out).mono ?_
      (case side1=>exact kC (Kd.C_below HR0_5.out HB.out))
      (case side2=>exact HC0_5.out)
      (case side3=>exact kC (Kd.C_below HR0_7.out HB.out))
      (case side4=>exact HC0_7.out)
      rintro e w130 ⟨v431,rfl,ho0,hb⟩
      refine⟨_,rfl,?_⟩
      have HO432:=mk0 (Kd.R_lower ho0 (kZ HB.out))
      replace BK427:=mk0 (kK BK427.out hb)
      replace HB:=mk0 (kS HB.out hb)
      (try clear hb)
      (try clear ho0)
      obtain⟨Ao131,co131,eo131⟩:=Kd.R_slice HO432.out
      (first|subst eo131|(injection eo131 with f1_ f2_ f3_;have f4_:=f1_.symm;have f5_:=f3_.symm;clear f1_ f2_ f3_;subst f4_;subst f5_))
      refine hK.out _ _ (ck8 BK427.out) (fun hHeld=>?_)
      clear hK K
      refine norm_ (a':=?_) ?_ ?_
      rotate_left
      ·show Act.put _ (some 23) _ = _
       simp only [Act.put,sA,sO,sS,i64_w,i32_w]
       rfl
      refine two_ (i:=4) (j:=8) (Ni:=some 26) (Nj:=some 3) spec_SparseOk.m7 spec_SparseOk.m8 rfl rfl rfl rfl (two_of HT_.out (by kernel_rfl)) (by decide) (by decide) (fun K hK=>?_) (fun K hK=>?_)
      ·skip
       refine goes_ Try.func9 (by kernel_rfl) rfl #[.slice Ao131 t430.length co131,.int .i64 a0_0] (by rfl) rfl rfl (by (try simp only [mA,mC,mN]);first|done|rfl|(simp only [List.length_drop,List.length_take];rfl)) ?_
       with_reducible refine (spec_SparseOf.calls kj1 _ _ t430 a0_0 t433 t434 t435 t436 t437 t438 t441 t442 false _ ?side1 ?side2 A21.out).mono ?_
       (case side1=>exact kC (Kd.R_reads' HO432.out).2.2)
       (case side2=>exact (Kd.R_reads' HO432.out).2.1)
       rintro e w132 ⟨v439,v443,rfl,ho0,ho1,hb⟩
       refine⟨_,rfl,?_⟩
       replace HO432:=mk0 (bR HO432.out hb)
       have HO440:=mk0 (Kd.R_lower ho0 (kZ HB.out))
       have HO444:=mk0 (Kd.R_lower ho1 (kZ HB.out))
       replace BK427:=mk0 (kK BK427.out hb)
       replace HB:=mk0 (kS HB.out hb)
       (try clear hb)
       (try clear ho0)
       (try clear ho1)
       refine hK.out _ _ (ck8 BK427.out) (fun hHeld=>?_)
       clear hK K
       refine norm_ (a':=?_) ?_ ?_
       rotate_left
       ·show Act.put _ (some 26) _ = _
        simp only [Act.put,sA,sO,sS,i64_w,i32_w]
        rfl
       refine pure_ (i:=5) (N:=some 21) (v:=?_) (a':=?_) spec_SparseOk.m9 rfl rfl (any_of HT_.out (by kernel_rfl)) (fun _ _ _ h=>h) (Or.inl ⟨by rfl,?_⟩) ?_ ?_
       rotate_left
       ·intro w'
        go_simp
        with_reducible rfl
       rotate_left
       ·simp only [Act.put,sA,sO,sS,i64_w,i32_w]
        rfl
       refine pure_ (i:=6) (N:=some 27) (v:=?_) (a':=?_) spec_SparseOk.m10 rfl rfl (any_of HT_.out (by kernel_rfl)) (fun _ _ _ h=>h) (Or.inl ⟨by rfl,?_⟩) ?_ ?_
       rotate_left
       ·intro w'
        go_simp
        with_reducible rfl
       rotate_left
       ·simp only [Act.put,sA,sO,sS,i64_w,i32_w]
        rfl
       refine pure_ (i:=7) (N:=some 28) (v:=?_) (a':=?_) spec_SparseOk.m11 rfl rfl (any_of HT_.out (by kernel_rfl)) (fun _ _ _ h=>h) (Or.inl ⟨by rfl,?_⟩) ?_ ?_
       rotate_left
       ·intro w'
        go_simp
        with_reducible rfl
       rotate_left
       ·simp only [Act.put,sA,sO,sS,i64_w,i32_w]
        rfl
       refine one_ (i:=8) (N:=some 3) spec_SparseOk.m4 rfl rfl (one_of HT_.out (by kernel_rfl)) (by decide) (fun K hK=>?_)
       refine box_step ?hg (N:=3) ?hd (cs:=#[.int .i64 0,.int .i64 0,.int .i64 0,.int .i64 0,.int .i64 0,.slice none 0 0,.int .i64 0,.slice none 0 0]) (t:=33) ?hr ?_;(case hd=>rfl);(case hg=>rfl);(case hr=>first|(go_simp;done)|(go_simp;rfl))
       intro gb446 hg w133 hbox hb
       replace HO432:=mk0 (bR HO432.out hb)
       replace HO440:=mk0 (bR HO440.out hb)
       replace HO444:=mk0 (bR HO444.out hb)
       have BK446:=mk0 (hbox)
       have GW446:=mk0 ((by rw [hg];exact (kZ HB.out):w.heap.size ≤ gb446))
       have GE446:=mk0 ((by rw [hg];exact (kZ HB.out):w.heap.size ≤ gb446))
       replace HB:=mk0 (kS HB.out hb)
       have NB427_446:=mk0 ((by rw [hg];exact Nat.ne_of_lt (kL BK427.out):gb427 ≠ gb446))
       have NB446_427:=mk0 ((by rw [hg];exact Nat.ne_of_gt (kL BK427.out):gb446 ≠ gb427))
       replace BK427:=mk0 (kK BK427.out hb)
       clear hb hbox hg
       refine hK.out _ _ (ck8 BK427.out) (fun hHeld=>?_)
       clear hK K
       refine norm_ (a':=?_) ?_ ?_
       rotate_left
       ·show Act.put _ (some 3) _ = _
        simp only [Act.put,sA,sO,sS,i64_w,i32_w]
        rfl
       exact norm_ (by simp only [putAll,Act.put,sA,sO,sS]) (hCont (.slice Ao131 t430.length co131,v439,v443,gb446) _ ⟨hHeld,(rR HO432.out),(rR HO440.out),(rR HO444.out),(kN BK427.out),(kN BK446.out),GW446.out,GE446.out,NB427_446.out,NB446_427.out,(kB HB.out)⟩)
      ·skip
       refine box_step ?hg (N:=3) ?hd (cs:=#[.int .i64 0,.int .i64 0,.int .i64 0,.int .i64 0,.int .i64 0,.slice none 0 0,.int .i64 0,.slice none 0 0]) (t:=33) ?hr ?_;(case hd=>rfl);(case hg=>rfl);(case hr=>first|(go_simp;done)|(go_simp;rfl))
       intro gb446 hg w131 hbox hb
       replace HO432:=mk0 (bR HO432.out hb)
       have BK446:=mk0 (hbox)
       have GW446:=mk0 ((by rw [hg];exact (kZ HB.out):w.heap.size ≤ gb446))
       have GE446:=mk0 ((by rw [hg];exact (kZ HB.out):w.heap.size ≤ gb446))
       replace HB:=mk0 (kS HB.out hb)
       have NB427_446:=mk0 ((by rw [hg];exact Nat.ne_of_lt (kL BK427.out):gb427 ≠ gb446))
       have NB446_427:=mk0 ((by rw [hg];exact Nat.ne_of_gt (kL BK427.out):gb446 ≠ gb427))
       replace BK427:=mk0 (kK BK427.out hb)
       clear hb hbox hg
       obtain⟨Ao132,co132,eo132⟩:=Kd.R_slice HO432.out
       (first|subst eo132|(injection eo132 with f1_ f2_ f3_;have f4_:=f1_.symm;have f5_:=f3_.symm;clear f1_ f2_ f3_;subst f4_;subst f5_))
       refine hK.out _ _ (ck8 BK427.out) (fun hHeld=>?_)
       clear hK K
       refine norm_ (a':=?_) ?_ ?_
       rotate_left
       ·show Act.put _ (some 3) _ = _
        simp only [Act.put,sA,sO,sS,i64_w,i32_w]
        rfl
       refine one_ (i:=4) (N:=some 26) spec_SparseOk.m12 rfl rfl (one_of HT_.out (by kernel_rfl)) (by decide) (fun K hK=>?_)
       refine goes_ Try.func9 (by kernel_rfl) rfl #[.slice Ao132 t430.length co132,.int .i64 a0_0] (by rfl) rfl rfl (by (try simp only [mA,mC,mN]);first|done|rfl|(simp only [List.length_drop,List.length_take];rfl)) ?_
       with_reducible refine (spec_SparseOf.calls kj1 _ _ t430 a0_0 t433 t434 t435 t436 t437 t438 t441 t442 false _ ?side1 ?side2 A21.out).mono ?_
       (case side1=>exact kC (Kd.R_reads' HO432.out).2.2)
       (case side2=>exact (Kd.R_reads' HO432.out).2.1)
       rintro e w133 ⟨v439,v443,rfl,ho0,ho1,hb⟩
       refine⟨_,rfl,?_⟩
       replace HO432:=mk0 (bR HO432.out hb)
       have HO440:=mk0 (Kd.R_lower ho0 (kZ HB.out))
       have HO444:=mk0 (Kd.R_lower ho1 (kZ HB.out))
       replace BK427:=mk0 (kK BK427.out hb)
       replace BK446:=mk0 (kK BK446.out hb)
       replace HB:=mk0 (kS HB.out hb)
       (try clear hb)
       (try clear ho0)
       (try clear ho1)
       refine hK.out _ _ (ck8 BK427.out) (fun hHeld=>?_)
       clear hK K
       refine norm_ (a':=?_) ?_ ?_
       rotate_left
       ·show Act.put _ (some 26) _ = _
        simp only [Act.put,sA,sO,sS,i64_w,i32_w]
        rfl
       refine pure_ (i:=5) (N:=some 21) (v:=?_) (a':=?_) spec_SparseOk.m13 rfl rfl (any_of HT_.out (by kernel_rfl)) (fun _ _ _ h=>h) (Or.inl ⟨by rfl,?_⟩) ?_ ?_
       rotate_left
       ·intro w'
        go_simp
        with_reducible rfl
       rotate_left
       ·simp only [Act.put,sA,sO,sS,i64_w,i32_w]
        rfl
       refine pure_ (i:=6) (N:=some 27) (v:=?_) (a':=?_) spec_SparseOk.m14 rfl rfl (any_of HT_.out (by kernel_rfl)) (fun _ _ _ h=>h) (Or.inl ⟨by rfl,?_⟩) ?_ ?_
       rotate_left
       ·intro w'
        go_simp
        with_reducible rfl
       rotate_left
       ·simp only [Act.put,sA,sO,sS,i64_w,i32_w]
        rfl
       refine pure_ (i:=7) (N:=some 28) (v:=?_) (a':=?_) spec_SparseOk.m4 rfl rfl (any_of HT_.out (by kernel_rfl)) (fun _ _ _ h=>h) (Or.inl ⟨by rfl,?_⟩) ?_ ?_
       rotate_left
       ·intro w'
        go_simp
        with_reducible rfl
       rotate_left
       ·simp only [Act.put,sA,sO,sS,i64_w,i32_w]
        rfl
       exact norm_ (by simp only [putAll,Act.put,sA,sO,sS]) (hCont (.slice Ao132 t430.length co132,v439,v443,gb446) _ ⟨hHeld,(rR HO432.out),(rR HO440.out),(rR HO444.out),(kN BK427.out),(kN BK446.out),GW446.out,GE446.out,NB427_446.out,NB446_427.out,(kB HB.out)⟩)
     ·skip
      refine box_step ?hg (N:=3) ?hd (cs:=#[.int .i64 0,.int .i64 0,.int .i64 0,.int .i64 0,.int .i64 0,.slice none 0 0,.int .i64 0,.slice none 0 0]) (t:=33) ?hr ?_;(case hd=>rfl);(case hg=>rfl);(case hr=>first|(go_simp;done)|(go_simp;rfl))
      intro gb446 hg w130 hbox hb
      have BK446:=mk0 (hbox)
      have GW446:=mk0 ((by rw [hg];exact (kZ HB.out):w.heap.size ≤ gb446))
      have GE446:=mk0 ((by rw [hg];exact (kZ HB.out):w.heap.size ≤ gb446))
      replace HB:=mk0 (kS HB.out hb)
      have NB427_446:=mk0 ((by rw [hg];exact Nat.ne_of_lt (kL BK427.out):gb427 ≠ gb446))
      have NB446_427:=mk0 ((by rw [hg];exact Nat.ne_of_gt (kL BK427.out):gb446 ≠ gb427))
      replace BK427:=mk0 (kK BK427.out hb)
      clear hb hbox hg
      refine hK.out _ _ (ck8 BK427.out) (fun hHeld=>?_)
      clear hK K
      refine norm_ (a':=?_) ?_ ?_
      rotate_left
      ·show Act.put _ (some 3) _ = _
       simp only [Act.put,sA,sO,sS,i64_w,i32_w]
       rfl
      refine one_ (i:=1) (N:=some 23) spec_SparseOk.m8 rfl rfl (one_of HT_.out (by kernel_rfl)) (by decide) (fun K hK=>?_)
      refine goes_ Try.func49 (by kernel_rfl) rfl #[.agg #[.int .i64 a0_0,.int .i64 a0_1,.int .i64 a0_2,.int .i64 a0_3,.int .i64 a0_4,.slice A0_5 l0_5.length c0_5,.int .i64 a0_6,.slice A0_7 l0_7.length c0_7]] (by rfl) rfl rfl (by (try simp only [mA,mC,mN]);first|done|rfl|(simp only [List.length_drop,List.length_take];rfl)) ?_
      with_reducible refine (spec_l03List.calls kj1 a0_0 a0_1 a0_2 a0_3 a0_4 _ _ l0_5 a0_6 _ _ l0_7 t430 _ ?side1 ?side2 ?side3 ?side4 A20.out).mono ?_
      (case side1=>exact kC (Kd.C_below HR0_5.out HB.out))
      (case side2=>exact HC0_5.out)
      (case side3=>exact kC (Kd.C_below HR0_7.out HB.out))
      (case side4=>exact HC0_7.out)
      rintro e w131 ⟨v431,rfl,ho0,hb⟩
      refine⟨_,rfl,?_⟩
      have HO432:=mk0 (Kd.R_lower ho0 (kZ HB.out))
      replace BK427:=mk0 (kK BK427.out hb)
      replace BK446:=mk0 (kK BK446.out hb)
      replace HB:=mk0 (kS HB.out hb)
      (try clear hb)
      (try clear ho0)
      obtain⟨Ao132,co132,eo132⟩:=Kd.R_slice HO432.out
      (first|subst eo132|(injection eo132 with f1_ f2_ f3_;have f4_:=f1_.symm;have f5_:=f3_.symm;clear f1_ f2_ f3_;subst f4_;subst f5_))
      refine hK.out _ _ (ck8 BK427.out) (fun hHeld=>?_)
      clear hK K
      refine norm_ (a':=?_) ?_ ?_
      rotate_left
      ·show Act.put _ (some 23) _ = _
       simp only [Act.put,sA,sO,sS,i64_w,i32_w]
       rfl
      refine one_ (i:=4) (N:=some 26) spec_SparseOk.m12 rfl rfl (one_of HT_.out (by kernel_rfl)) (by decide) (fun K hK=>?_)
      refine goes_ Try.func9 (by kernel_rfl) rfl #[.slice Ao132 t430.length co132,.int .i64 a0_0] (by rfl) rfl rfl (by (try simp only [mA,mC,mN]);first|done|rfl|(simp only [List.length_drop,List.length_take];rfl)) ?_
      with_reducible refine (spec_SparseOf.calls kj1 _ _ t430 a0_0 t433 t434 t435 t436 t437 t438 t441 t442 false _ ?side1 ?side2 A21.out).mono ?_
      (case side1=>exact kC (Kd.R_reads' HO432.out).2.2)
      (case side2=>exact (Kd.R_reads' HO432.out).2.1)
      rintro e w133 ⟨v439,v443,rfl,ho0,ho1,hb⟩
      refine⟨_,rfl,?_⟩
      replace HO432:=mk0 (bR HO432.out hb)
      have HO440:=mk0 (Kd.R_lower ho0 (kZ HB.out))
      have HO444:=mk0 (Kd.R_lower ho1 (kZ HB.out))
      replace BK427:=mk0 (kK BK427.out hb)
      replace BK446:=mk0 (kK BK446.out hb)
      replace HB:=mk0 (kS HB.out hb)
      (try clear hb)
      (try clear ho0)
      (try clear ho1)
      refine hK.out _ _ (ck8 BK427.out) (fun hHeld=>?_)
      clear hK K
      refine norm_ (a':=?_) ?_ ?_
      rotate_left
      ·show Act.put _ (some 26) _ = _
       simp only [Act.put,sA,sO,sS,i64_w,i32_w]
       rfl
      refine pure_ (i:=5) (N:=some 21) (v:=?_) (a':=?_) spec_SparseOk.m13 rfl rfl (any_of HT_.out (by kernel_rfl)) (fun _ _ _ h=>h) (Or.inl ⟨by rfl,?_⟩) ?_ ?_
      rotate_left
      ·intro w'
       go_simp
       with_reducible rfl
      rotate_left
      ·simp only [Act.put,sA,sO,sS,i64_w,i32_w]
       rfl
      refine pure_ (i:=6) (N:=some 27) (v:=?_) (a':=?_) spec_SparseOk.m14 rfl rfl (any_of HT_.out (by kernel_rfl)) (fun _ _ _ h=>h) (Or.inl ⟨by rfl,?_⟩) ?_ ?_
      rotate_left
      ·intro w'
       go_simp
       with_reducible rfl
      rotate_left
      ·simp only [Act.put,sA,sO,sS,i64_w,i32_w]
       rfl
      refine pure_ (i:=7) (N:=some 28) (v:=?_) (a':=?_) spec_SparseOk.m4 rfl rfl (any_of HT_.out (by kernel_rfl)) (fun _ _ _ h=>h) (Or.inl ⟨by rfl,?_⟩) ?_ ?_
      rotate_left
      ·intro w'
       go_simp
       with_reducible rfl
      rotate_left
      ·simp only [Act.put,sA,sO,sS,i64_w,i32_w]
       rfl
      exact norm_ (by simp only [putAll,Act.put,sA,sO,sS]) (hCont (.slice Ao132 t430.length co132,v439,v443,gb446) _ ⟨hHeld,(rR HO432.out),(rR HO440.out),(rR HO444.out),(kN BK427.out),(kN BK446.out),GW446.out,GE446.out,NB427_446.out,NB446_427.out,(kB HB.out)⟩)
    rintro⟨v431,v439,v443,gb446⟩ w134 ⟨hS_,h0_,h1_,h2_,h3_,h4_,h5_,h6_,h7_,h8_,h9_⟩
    have n0_:Aside0 (Kd.R (Kd.int .i64) 3 w134 w.heap.size (fun _=>True) v431 t430):=⟨h0_⟩
    have n1_:Aside0 (Kd.R (Kd.int .u64) 78 w134 w.heap.size (fun k_=>some k_ ≠ (v443:Value).ownBlock) v439 t438):=⟨h1_⟩
    have n2_:Aside0 (Kd.R (Kd.int .u64) 78 w134 w.heap.size (fun k_=>some k_ ≠ (v439:Value).ownBlock) v443 t442):=⟨h2_⟩
    have n3_:Aside0 (w134.heap[gb427]? = some (.cells #[.int .i64 a0_0,.int .i64 a0_1,.int .i64 a0_2,.int .i64 a0_3,.int .i64 a0_4,.slice A0_5 l0_5.length c0_5,.int .i64 a0_6,.slice A0_7 l0_7.length c0_7] 33 (0,0))):=⟨h3_⟩
    have n4_:Aside0 (w134.heap[gb446]? = some (.cells #[.int .i64 0,.int .i64 0,.int .i64 0,.int .i64 0,.int .i64 0,.slice none 0 0,.int .i64 0,.slice none 0 0] 33 (0,0))):=⟨h4_⟩
    have n5_:Aside0 (w.heap.size ≤ gb446):=⟨h5_⟩
    have n6_:Aside0 (w.heap.size ≤ gb446):=⟨h6_⟩
    have n7_:Aside0 (gb427 ≠ gb446):=⟨h7_⟩
    have n8_:Aside0 (gb446 ≠ gb427):=⟨h8_⟩
    have n9_:Aside0 (Below w.heap.size w w134):=⟨h9_⟩
    clear BK427
    clear HB
    clear h0_ h1_ h2_ h3_ h4_ h5_ h6_ h7_ h8_ h9_
    have HO432:=n0_
    have HO440:=n1_
    have HO444:=n2_
    have BK427:=n3_
    have BK446:=n4_
    have GW446:=n5_
    have GE446:=n6_
    have NB427_446:=n7_
    have NB446_427:=n8_
    have HB:=n9_
    clear n0_ n1_ n2_ n3_ n4_ n5_ n6_ n7_ n8_ n9_
    have hHeld:w134.cell? ⟨gb427,0,none⟩ = some (.int .i64 a0_0) ∧ w134.cell? ⟨gb427,1,none⟩ = some (.int .i64 a0_1) ∧ w134.cell? ⟨gb427,2,none⟩ = some (.int .i64 a0_2) ∧ w134.cell? ⟨gb427,3,none⟩ = some (.int .i64 a0_3) ∧ w134.cell? ⟨gb427,4,none⟩ = some (.int .i64 a0_4) ∧ w134.cell? ⟨gb427,5,none⟩ = some (.slice A0_5 l0_5.length c0_5) ∧ w134.cell? ⟨gb427,6,none⟩ = some (.int .i64 a0_6) ∧ w134.cell? ⟨gb427,7,none⟩ = some (.slice A0_7 l0_7.length c0_7):=hS_
    obtain⟨Ao140,co140,eo140⟩:=Kd.R_slice HO440.out
    (first|subst eo140|(injection eo140 with f1_ f2_ f3_;have f4_:=f1_.symm;have f5_:=f3_.symm;clear f1_ f2_ f3_;subst f4_;subst f5_))
    obtain⟨Ao143,co143,eo143⟩:=Kd.R_slice HO444.out
    (first|subst eo143|(injection eo143 with f1_ f2_ f3_;have f4_:=f1_.symm;have f5_:=f3_.symm;clear f1_ f2_ f3_;subst f4_;subst f5_))
    refine norm_ (a':=?_) ?_ ?_
    rotate_left
    ·simp only [putAll,Act.put,sA,sO,sS]
     rfl
    refine one_ (i:=9) (N:=none) spec_SparseOk.m15 rfl rfl (one_of HT_.out (by kernel_rfl)) (by decide) (fun K hK=>?_)
    have hs135:w134.cell? ⟨gb446,0,none⟩ = some (.int .i64 0):=(blk_cell BK446.out 0).trans rfl
    have hfs135:=blk_frozen BK446.out 0
    have hns135_0:=NB427_446.out
    have hms135_0:=NB446_427.out
    have hs136:w134.cell? ⟨gb446,1,none⟩ = some (.int .i64 0):=(blk_cell BK446.out 1).trans rfl
    have hfs136:=blk_frozen BK446.out 1
    have hns136_0:=NB427_446.out
    have hms136_0:=NB446_427.out
    have hs137:w134.cell? ⟨gb446,2,none⟩ = some (.int .i64 0):=(blk_cell BK446.out 2).trans rfl
    have hfs137:=blk_frozen BK446.out 2
    have hns137_0:=NB427_446.out
    have hms137_0:=NB446_427.out
    have hs138:w134.cell? ⟨gb446,3,none⟩ = some (.int .i64 0):=(blk_cell BK446.out 3).trans rfl
    have hfs138:=blk_frozen BK446.out 3
    have hns138_0:=NB427_446.out
    have hms138_0:=NB446_427.out
    have hs139:w134.cell? ⟨gb446,4,none⟩ = some (.int .i64 0):=(blk_cell BK446.out 4).trans rfl
    have hfs139:=blk_frozen BK446.out 4
    have hns139_0:=NB427_446.out
    have hms139_0:=NB446_427.out
    have hs141:w134.cell? ⟨gb446,5,none⟩ = some (.slice none 0 0):=(blk_cell BK446.out 5).trans rfl
    have hfs141:=blk_frozen BK446.out 5
    have hns141_0:=NB427_446.out
    have hms141_0:=NB446_427.out
    have hs142:w134.cell? ⟨gb446,6,none⟩ = some (.int .i64 0):=(blk_cell BK446.out 6).trans rfl
    have hfs142:=blk_frozen BK446.out 6
    have hns142_0:=NB427_446.out
    have hms142_0:=NB446_427.out
    have hs144:w134.cell? ⟨gb446,7,none⟩ = some (.slice none 0 0):=(blk_cell BK446.out 7).trans rfl
    have hfs144:=blk_frozen BK446.out 7
    have hns144_0:=NB427_446.out
    have hms144_0:=NB446_427.out
    refine skip_ (w1:=?_) (by rfl) rfl ?_ ?_
    rotate_left
    ·go_simp
     rfl
    refine hK.out _ _ ⟨((cell_far (p:=⟨gb446,_,none⟩) NB427_446.out _).trans (((cell_far (p:=⟨gb446,_,none⟩) NB427_446.out _).trans (((cell_far (p:=⟨gb446,_,none⟩) NB427_446.out _).trans (((cell_far (p:=⟨gb446,_,none⟩) NB427_446.out _).trans (((cell_far (p:=⟨gb446,_,none⟩) NB427_446.out _).trans (((cell_far (p:=⟨gb446,_,none⟩) NB427_446.out _).trans (((cell_far (p:=⟨gb446,_,none⟩) NB427_446.out _).trans (((cell_far (p:=⟨gb446,_,none⟩) NB427_446.out _).trans (hHeld.1)))))))))))))))),((cell_far (p:=⟨gb446,_,none⟩) NB427_446.out _).trans (((cell_far (p:=⟨gb446,_,none⟩) NB427_446.out _).trans (((cell_far (p:=⟨gb446,_,none⟩) NB427_446.out _).trans (((cell_far (p:=⟨gb446,_,none⟩) NB427_446.out _).trans (((cell_far (p:=⟨gb446,_,none⟩) NB427_446.out _).trans (((cell_far (p:=⟨gb446,_,none⟩) NB427_446.out _).trans (((cell_far (p:=⟨gb446,_,none⟩) NB427_446.out _).trans (((cell_far (p:=⟨gb446,_,none⟩) NB427_446.out _).trans (hHeld.2.1)))))))))))))))),((cell_far (p:=⟨gb446,_,none⟩) NB427_446.out _).trans (((cell_far (p:=⟨gb446,_,none⟩) NB427_446.out _).trans (((cell_far (p:=⟨gb446,_,none⟩) NB427_446.out _).trans (((cell_far (p:=⟨gb446,_,none⟩) NB427_446.out _).trans (((cell_far (p:=⟨gb446,_,none⟩) NB427_446.out _).trans (((cell_far (p:=⟨gb446,_,none⟩) NB427_446.out _).trans (((cell_far (p:=⟨gb446,_,none⟩) NB427_446.out _).trans (((cell_far (p:=⟨gb446,_,none⟩) NB427_446.out _).trans (hHeld.2.2.1)))))))))))))))),((cell_far (p:=⟨gb446,_,none⟩) NB427_446.out _).trans (((cell_far (p:=⟨gb446,_,none⟩) NB427_446.out _).trans (((cell_far (p:=⟨gb446,_,none⟩) NB427_446.out _).trans (((cell_far (p:=⟨gb446,_,none⟩) NB427_446.out _).trans (((cell_far (p:=⟨gb446,_,none⟩) NB427_446.out _).trans (((cell_far (p:=⟨gb446,_,none⟩) NB427_446.out _).trans (((cell_far (p:=⟨gb446,_,none⟩) NB427_446.out _).trans (((cell_far (p:=⟨gb446,_,none⟩) NB427_446.out _).trans (hHeld.2.2.2.1)))))))))))))))),((cell_far (p:=⟨gb446,_,none⟩) NB427_446.out _).trans (((cell_far (p:=⟨gb446,_,none⟩) NB427_446.out _).trans (((cell_far (p:=⟨gb446,_,none⟩) NB427_446.out _).trans (((cell_far (p:=⟨gb446,_,none⟩) NB427_446.out _).trans (((cell_far (p:=⟨gb446,_,none⟩) NB427_446.out _).trans (((cell_far (p:=⟨gb446,_,none⟩) NB427_446.out _).trans (((cell_far (p:=⟨gb446,_,none⟩) NB427_446.out _).trans (((cell_far (p:=⟨gb446,_,none⟩) NB427_446.out _).trans (hHeld.2.2.2.2.1)))))))))))))))),((cell_far (p:=⟨gb446,_,none⟩) NB427_446.out _).trans (((cell_far (p:=⟨gb446,_,none⟩) NB427_446.out _).trans (((cell_far (p:=⟨gb446,_,none⟩) NB427_446.out _).trans (((cell_far (p:=⟨gb446,_,none⟩) NB427_446.out _).trans (((cell_far (p:=⟨gb446,_,none⟩) NB427_446.out _).trans (((cell_far (p:=⟨gb446,_,none⟩) NB427_446.out _).trans (((cell_far (p:=⟨gb446,_,none⟩) NB427_446.out _).trans (((cell_far (p:=⟨gb446,_,none⟩) NB427_446.out _).trans (hHeld.2.2.2.2.2.1)))))))))))))))),((cell_far (p:=⟨gb446,_,none⟩) NB427_446.out _).trans (((cell_far (p:=⟨gb446,_,none⟩) NB427_446.out _).trans (((cell_far (p:=⟨gb446,_,none⟩) NB427_446.out _).trans (((cell_far (p:=⟨gb446,_,none⟩) NB427_446.out _).trans (((cell_far (p:=⟨gb446,_,none⟩) NB427_446.out _).trans (((cell_far (p:=⟨gb446,_,none⟩) NB427_446.out _).trans (((cell_far (p:=⟨gb446,_,none⟩) NB427_446.out _).trans (((cell_far (p:=⟨gb446,_,none⟩) NB427_446.out _).trans (hHeld.2.2.2.2.2.2.1)))))))))))))))),((cell_far (p:=⟨gb446,_,none⟩) NB427_446.out _).trans (((cell_far (p:=⟨gb446,_,none⟩) NB427_446.out _).trans (((cell_far (p:=⟨gb446,_,none⟩) NB427_446.out _).trans (((cell_far (p:=⟨gb446,_,none⟩) NB427_446.out _).trans (((cell_far (p:=⟨gb446,_,none⟩) NB427_446.out _).trans (((cell_far (p:=⟨gb446,_,none⟩) NB427_446.out _).trans (((cell_far (p:=⟨gb446,_,none⟩) NB427_446.out _).trans (((cell_far (p:=⟨gb446,_,none⟩) NB427_446.out _).trans (hHeld.2.2.2.2.2.2.2))))))))))))))))⟩ (fun hHeld=>?_)
    clear hK K
    refine pure_ (i:=10) (N:=some 4) (v:=?_) (a':=?_) spec_SparseOk.m16 rfl rfl (any_of HT_.out (by kernel_rfl)) (fun _ _ _ h=>h) (Or.inl ⟨by rfl,?_⟩) ?_ ?_
    rotate_left
    ·intro w'
     go_simp
     with_reducible rfl
    rotate_left
    ·simp only [Act.put,sA,sO,sS,i64_w,i32_w]
     rfl
    refine done_ (done_of HT_.out (by kernel_rfl)) ?_
    try go_wp2
    go_ret
    exact⟨by first|rfl|(simp [errW_none,errW_some] <;> rfl)|(simp [*,errW_none,errW_some] <;> rfl),kB HB.out⟩

   subst c22
   have H1:(if t434 = a0_1 then (if t435 = a0_2 then (if t436 = a0_3 then ((spec_l03Same.f kj1 t437 t438 a0_4 l0_5).bind fun t447=>(if t447 = true then ((spec_l03Same.f kj1 t441 t442 a0_6 l0_7).bind fun t448=>(some t448)) else (some false))) else (some false)) else (some false)) else (some false)) = some r:=by rw [if_pos rfl] at H;exact H
   clear H
   have H:=H1
   clear H1
   by_cases c23:t434 = a0_1
   rotate_left
   ·rw [if_neg c23] at H
    have c23b0:(t434 == a0_1) = false:=beq_eq_false_iff_ne.mpr c23
    have c23b1:(t434 != a0_1) = true:=bne_iff_ne.mpr c23
    obtain rfl:=Option.some.inj H
    try go_wp2
    replace BK427:=mk0 (dB BK427.out)
    replace HB:=mk0 (dZ HB.out)
    refine start_ (n:=11) (S:=fun w'=>w'.cell? ⟨gb427,0,none⟩ = some (.int .i64 a0_0) ∧ w'.cell? ⟨gb427,1,none⟩ = some (.int .i64 a0_1) ∧ w'.cell? ⟨gb427,2,none⟩ = some (.int .i64 a0_2) ∧ w'.cell? ⟨gb427,3,none⟩ = some (.int .i64 a0_3) ∧ w'.cell? ⟨gb427,4,none⟩ = some (.int .i64 a0_4) ∧ w'.cell? ⟨gb427,5,none⟩ = some (.slice A0_5 l0_5.length c0_5) ∧ w'.cell? ⟨gb427,6,none⟩ = some (.int .i64 a0_6) ∧ w'.cell? ⟨gb427,7,none⟩ = some (.slice A0_7 l0_7.length c0_7)) (ds:=[]) spec_SparseOk.m0 (by kernel_rfl) rfl rfl (ck8 BK427.out) (fun hHeld=>?_);refine with_tabW spec_SparseOk.tab3 spec_SparseOk.bits3 (fun HT_ HW_=>?_)
    generalize wc.drew = w110 at BK427 HB hHeld ⊢
    refine pure_ (i:=2) (N:=some 24) (v:=?_) (a':=?_) spec_SparseOk.m1 rfl rfl (any_of HT_.out (by kernel_rfl)) (fun _ _ _ h=>h) (Or.inl ⟨by rfl,?_⟩) ?_ ?_
    rotate_left
    ·intro w'
     go_simp
     with_reducible rfl
    rotate_left
    ·simp only [Act.put,sA,sO,sS,i64_w,i32_w]
     rfl
    refine take_ (i:=0) (N:=some 22) (v:=?_) (a':=?_) spec_SparseOk.m2 rfl rfl (take_ofW HT_.out HW_.out (by kernel_rfl)) (fun _ _ _ h=>h) (Or.inl ⟨by rfl,?_⟩) hHeld ?_ ?_
    rotate_left
    ·rintro w' ⟨s0,s1,s2,s3,s4,s5,s6,s7⟩
     go_simp
     with_reducible rfl
    rotate_left
    ·simp only [Act.put,sA,sO,sS,i64_w,i32_w]
     rfl
    refine take_ (i:=3) (N:=some 25) (v:=?_) (a':=?_) spec_SparseOk.m3 rfl rfl (take_ofW HT_.out HW_.out (by kernel_rfl)) (fun _ _ _ h=>h) (Or.inl ⟨by rfl,?_⟩) hHeld ?_ ?_
    rotate_left
    ·rintro w' ⟨s0,s1,s2,s3,s4,s5,s6,s7⟩
     go_simp
     with_reducible rfl
    rotate_left
    ·simp only [Act.put,sA,sO,sS,i64_w,i32_w]
     rfl
    refine join_ (σ:=Value × Value × Value × Nat) 2 spec_SparseOk.m4 (fun s_=>[(23,s_.1),(26,.tuple #[.agg #[.int .i64 t433,.int .i64 t434,.int .i64 t435,.int .i64 t436,.int .i64 t437,s_.2.1,.int .i64 t441,s_.2.2.1],.bool true]),(3,.pointer (some ⟨s_.2.2.2,0,none⟩)),(21,.tuple #[.agg #[.int .i64 t433,.int .i64 t434,.int .i64 t435,.int .i64 t436,.int .i64 t437,s_.2.1,.int .i64 t441,s_.2.2.1],.bool true]),(27,.agg #[.int .i64 t433,.int .i64 t434,.int .i64 t435,.int .i64 t436,.int .i64 t437,s_.2.1,.int .i64 t441,s_.2.2.1]),(28,.bool true)]) (fun s_ w'=>(w'.cell? ⟨gb427,0,none⟩ = some (.int .i64 a0_0) ∧ w'.cell? ⟨gb427,1,none⟩ = some (.int .i64 a0_1) ∧ w'.cell? ⟨gb427,2,none⟩ = some (.int .i64 a0_2) ∧ w'.cell? ⟨gb427,3,none⟩ = some (.int .i64 a0_3) ∧ w'.cell? ⟨gb427,4,none⟩ = some (.int .i64 a0_4) ∧ w'.cell? ⟨gb427,5,none⟩ = some (.slice A0_5 l0_5.length c0_5) ∧ w'.cell? ⟨gb427,6,none⟩ = some (.int .i64 a0_6) ∧ w'.cell? ⟨gb427,7,none⟩ = some (.slice A0_7 l0_7.length c0_7)) ∧ (Kd.R (Kd.int .i64) 3 w' w.heap.size (fun _=>True) s_.1 t430) ∧ (Kd.R (Kd.int .u64) 78 w' w.heap.size (fun k_=>some k_ ≠ (s_.2.2.1:Value).ownBlock) s_.2.1 t438) ∧ (Kd.R (Kd.int .u64) 78 w' w.heap.size (fun k_=>some k_ ≠ (s_.2.1:Value).ownBlock) s_.2.2.1 t442) ∧ (w'.heap[gb427]? = some (.cells #[.int .i64 a0_0,.int .i64 a0_1,.int .i64 a0_2,.int .i64 a0_3,.int .i64 a0_4,.slice A0_5 l0_5.length c0_5,.int .i64 a0_6,.slice A0_7 l0_7.length c0_7] 33 (0,0))) ∧ (w'.heap[s_.2.2.2]? = some (.cells #[.int .i64 0,.int .i64 0,.int .i64 0,.int .i64 0,.int .i64 0,.slice none 0 0,.int .i64 0,.slice none 0 0] 33 (0,0))) ∧ (w.heap.size ≤ s_.2.2.2) ∧ (w.heap.size ≤ s_.2.2.2) ∧ (gb427 ≠ s_.2.2.2) ∧ (s_.2.2.2 ≠ gb427) ∧ (Below w.heap.size w w')) ?_ ?_
    rotate_left
    ·intro hCont
     refine two_ (i:=1) (j:=8) (Ni:=some 23) (Nj:=some 3) spec_SparseOk.m5 spec_SparseOk.m6 rfl rfl rfl rfl (two_of HT_.out (by kernel_rfl)) (by decide) (by decide) (fun K hK=>?_) (fun K hK=>?_)
     ·skip
      refine goes_ Try.func49 (by kernel_rfl) rfl #[.agg #[.int .i64 a0_0,.int .i64 a0_1,.int .i64 a0_2,.int .i64 a0_3,.int .i64 a0_4,.slice A0_5 l0_5.length c0_5,.int .i64 a0_6,.slice A0_7 l0_7.length c0_7]] (by rfl) rfl rfl (by (try simp only [mA,mC,mN]);first|done|rfl|(simp only [List.length_drop,List.length_take];rfl)) ?_
      with_reducible refine (spec_l03List.calls kj1 a0_0 a0_1 a0_2 a0_3 a0_4 _ _ l0_5 a0_6 _ _ l0_7 t430 _ ?side1 ?side2 ?side3 ?side4 A20.out).mono ?_
      (case side1=>exact kC (Kd.C_below HR0_5.out HB.out))
      (case side2=>exact HC0_5.out)
      (case side3=>exact kC (Kd.C_below HR0_7.out HB.out))
      (case side4=>exact HC0_7.out)
      rintro e w111 ⟨v431,rfl,ho0,hb⟩
      refine⟨_,rfl,?_⟩
      have HO432:=mk0 (Kd.R_lower ho0 (kZ HB.out))
      replace BK427:=mk0 (kK BK427.out hb)
      replace HB:=mk0 (kS HB.out hb)
      (try clear hb)
      (try clear ho0)
      obtain⟨Ao112,co112,eo112⟩:=Kd.R_slice HO432.out
      (first|subst eo112|(injection eo112 with f1_ f2_ f3_;have f4_:=f1_.symm;have f5_:=f3_.symm;clear f1_ f2_ f3_;subst f4_;subst f5_))
      refine hK.out _ _ (ck8 BK427.out) (fun hHeld=>?_)
      clear hK K
      refine norm_ (a':=?_) ?_ ?_
      rotate_left
      ·show Act.put _ (some 23) _ = _
       simp only [Act.put,sA,sO,sS,i64_w,i32_w]
       rfl
      refine two_ (i:=4) (j:=8) (Ni:=some 26) (Nj:=some 3) spec_SparseOk.m7 spec_SparseOk.m8 rfl rfl rfl rfl (two_of HT_.out (by kernel_rfl)) (by decide) (by decide) (fun K hK=>?_) (fun K hK=>?_)
      ·skip
       refine goes_ Try.func9 (by kernel_rfl) rfl #[.slice Ao112 t430.length co112,.int .i64 a0_0] (by rfl) rfl rfl (by (try simp only [mA,mC,mN]);first|done|rfl|(simp only [List.length_drop,List.length_take];rfl)) ?_
       with_reducible refine (spec_SparseOf.calls kj1 _ _ t430 a0_0 t433 t434 t435 t436 t437 t438 t441 t442 true _ ?side1 ?side2 A21.out).mono ?_
       (case side1=>exact kC (Kd.R_reads' HO432.out).2.2)
       (case side2=>exact (Kd.R_reads' HO432.out).2.1)
       rintro e w113 ⟨v439,v443,rfl,ho0,ho1,hb⟩
       refine⟨_,rfl,?_⟩
       replace HO432:=mk0 (bR HO432.out hb)
       have HO440:=mk0 (Kd.R_lower ho0 (kZ HB.out))
       have HO444:=mk0 (Kd.R_lower ho1 (kZ HB.out))
       replace BK427:=mk0 (kK BK427.out hb)
       replace HB:=mk0 (kS HB.out hb)
       (try clear hb)
       (try clear ho0)
       (try clear ho1)
       refine hK.out _ _ (ck8 BK427.out) (fun hHeld=>?_)
       clear hK K
       refine norm_ (a':=?_) ?_ ?_
       rotate_left
       ·show Act.put _ (some 26) _ = _
        simp only [Act.put,sA,sO,sS,i64_w,i32_w]
        rfl
       refine pure_ (i:=5) (N:=some 21) (v:=?_) (a':=?_) spec_SparseOk.m9 rfl rfl (any_of HT_.out (by kernel_rfl)) (fun _ _ _ h=>h) (Or.inl ⟨by rfl,?_⟩) ?_ ?_
       rotate_left
       ·intro w'
        go_simp
        with_reducible rfl
       rotate_left
       ·simp only [Act.put,sA,sO,sS,i64_w,i32_w]
        rfl
       refine pure_ (i:=6) (N:=some 27) (v:=?_) (a':=?_) spec_SparseOk.m10 rfl rfl (any_of HT_.out (by kernel_rfl)) (fun _ _ _ h=>h) (Or.inl ⟨by rfl,?_⟩) ?_ ?_
       rotate_left
       ·intro w'
        go_simp
        with_reducible rfl
       rotate_left
       ·simp only [Act.put,sA,sO,sS,i64_w,i32_w]
        rfl
       refine pure_ (i:=7) (N:=some 28) (v:=?_) (a':=?_) spec_SparseOk.m11 rfl rfl (any_of HT_.out (by kernel_rfl)) (fun _ _ _ h=>h) (Or.inl ⟨by rfl,?_⟩) ?_ ?_
       rotate_left
       ·intro w'
        go_simp
        with_reducible rfl
       rotate_left
       ·simp only [Act.put,sA,sO,sS,i64_w,i32_w]
        rfl
       refine one_ (i:=8) (N:=some 3) spec_SparseOk.m4 rfl rfl (one_of HT_.out (by kernel_rfl)) (by decide) (fun K hK=>?_)
       refine box_step ?hg (N:=3) ?hd (cs:=#[.int .i64 0,.int .i64 0,.int .i64 0,.int .i64 0,.int .i64 0,.slice none 0 0,.int .i64 0,.slice none 0 0]) (t:=33) ?hr ?_;(case hd=>rfl);(case hg=>rfl);(case hr=>first|(go_simp;done)|(go_simp;rfl))
       intro gb446 hg w114 hbox hb
       replace HO432:=mk0 (bR HO432.out hb)
       replace HO440:=mk0 (bR HO440.out hb)
       replace HO444:=mk0 (bR HO444.out hb)
       have BK446:=mk0 (hbox)
       have GW446:=mk0 ((by rw [hg];exact (kZ HB.out):w.heap.size ≤ gb446))
       have GE446:=mk0 ((by rw [hg];exact (kZ HB.out):w.heap.size ≤ gb446))
       replace HB:=mk0 (kS HB.out hb)
       have NB427_446:=mk0 ((by rw [hg];exact Nat.ne_of_lt (kL BK427.out):gb427 ≠ gb446))
       have NB446_427:=mk0 ((by rw [hg];exact Nat.ne_of_gt (kL BK427.out):gb446 ≠ gb427))
       replace BK427:=mk0 (kK BK427.out hb)
       clear hb hbox hg
       refine hK.out _ _ (ck8 BK427.out) (fun hHeld=>?_)
       clear hK K
       refine norm_ (a':=?_) ?_ ?_
       rotate_left
       ·show Act.put _ (some 3) _ = _
        simp only [Act.put,sA,sO,sS,i64_w,i32_w]
        rfl
       exact norm_ (by simp only [putAll,Act.put,sA,sO,sS]) (hCont (.slice Ao112 t430.length co112,v439,v443,gb446) _ ⟨hHeld,(rR HO432.out),(rR HO440.out),(rR HO444.out),(kN BK427.out),(kN BK446.out),GW446.out,GE446.out,NB427_446.out,NB446_427.out,(kB HB.out)⟩)
      ·skip
       refine box_step ?hg (N:=3) ?hd (cs:=#[.int .i64 0,.int .i64 0,.int .i64 0,.int .i64 0,.int .i64 0,.slice none 0 0,.int .i64 0,.slice none 0 0]) (t:=33) ?hr ?_;(case hd=>rfl);(case hg=>rfl);(case hr=>first|(go_simp;done)|(go_simp;rfl))
       intro gb446 hg w112 hbox hb
       replace HO432:=mk0 (bR HO432.out hb)
       have BK446:=mk0 (hbox)
       have GW446:=mk0 ((by rw [hg];exact (kZ HB.out):w.heap.size ≤ gb446))
       have GE446:=mk0 ((by rw [hg];exact (kZ HB.out):w.heap.size ≤ gb446))
       replace HB:=mk0 (kS HB.out hb)
       have NB427_446:=mk0 ((by rw [hg];exact Nat.ne_of_lt (kL BK427.out):gb427 ≠ gb446))
       have NB446_427:=mk0 ((by rw [hg];exact Nat.ne_of_gt (kL BK427.out):gb446 ≠ gb427))
       replace BK427:=mk0 (kK BK427.out hb)
       clear hb hbox hg
       obtain⟨Ao113,co113,eo113⟩:=Kd.R_slice HO432.out
       (first|subst eo113|(injection eo113 with f1_ f2_ f3_;have f4_:=f1_.symm;have f5_:=f3_.symm;clear f1_ f2_ f3_;subst f4_;subst f5_))
       refine hK.out _ _ (ck8 BK427.out) (fun hHeld=>?_)
       clear hK K
       refine norm_ (a':=?_) ?_ ?_
       rotate_left
       ·show Act.put _ (some 3) _ = _
        simp only [Act.put,sA,sO,sS,i64_w,i32_w]
        rfl
       refine one_ (i:=4) (N:=some 26) spec_SparseOk.m12 rfl rfl (one_of HT_.out (by kernel_rfl)) (by decide) (fun K hK=>?_)
       refine goes_ Try.func9 (by kernel_rfl) rfl #[.slice Ao113 t430.length co113,.int .i64 a0_0] (by rfl) rfl rfl (by (try simp only [mA,mC,mN]);first|done|rfl|(simp only [List.length_drop,List.length_take];rfl)) ?_
       with_reducible refine (spec_SparseOf.calls kj1 _ _ t430 a0_0 t433 t434 t435 t436 t437 t438 t441 t442 true _ ?side1 ?side2 A21.out).mono ?_
       (case side1=>exact kC (Kd.R_reads' HO432.out).2.2)
       (case side2=>exact (Kd.R_reads' HO432.out).2.1)
       rintro e w114 ⟨v439,v443,rfl,ho0,ho1,hb⟩
       refine⟨_,rfl,?_⟩
       replace HO432:=mk0 (bR HO432.out hb)
       have HO440:=mk0 (Kd.R_lower ho0 (kZ HB.out))
       have HO444:=mk0 (Kd.R_lower ho1 (kZ HB.out))
       replace BK427:=mk0 (kK BK427.out hb)
       replace BK446:=mk0 (kK BK446.out hb)
       replace HB:=mk0 (kS HB.out hb)
       (try clear hb)
       (try clear ho0)
       (try clear ho1)
       refine hK.out _ _ (ck8 BK427.out) (fun hHeld=>?_)
       clear hK K
       refine norm_ (a':=?_) ?_ ?_
       rotate_left
       ·show Act.put _ (some 26) _ = _
        simp only [Act.put,sA,sO,sS,i64_w,i32_w]
        rfl
       refine pure_ (i:=5) (N:=some 21) (v:=?_) (a':=?_) spec_SparseOk.m13 rfl rfl (any_of HT_.out (by kernel_rfl)) (fun _ _ _ h=>h) (Or.inl ⟨by rfl,?_⟩) ?_ ?_
       rotate_left
       ·intro w'
        go_simp
        with_reducible rfl
       rotate_left
       ·simp only [Act.put,sA,sO,sS,i64_w,i32_w]
        rfl
       refine pure_ (i:=6) (N:=some 27) (v:=?_) (a':=?_) spec_SparseOk.m14 rfl rfl (any_of HT_.out (by kernel_rfl)) (fun _ _ _ h=>h) (Or.inl ⟨by rfl,?_⟩) ?_ ?_
       rotate_left
       ·intro w'
        go_simp
        with_reducible rfl
       rotate_left
       ·simp only [Act.put,sA,sO,sS,i64_w,i32_w]
        rfl
       refine pure_ (i:=7) (N:=some 28) (v:=?_) (a':=?_) spec_SparseOk.m4 rfl rfl (any_of HT_.out (by kernel_rfl)) (fun _ _ _ h=>h) (Or.inl ⟨by rfl,?_⟩) ?_ ?_
       rotate_left
       ·intro w'
        go_simp
        with_reducible rfl
       rotate_left
       ·simp only [Act.put,sA,sO,sS,i64_w,i32_w]
        rfl
       exact norm_ (by simp only [putAll,Act.put,sA,sO,sS]) (hCont (.slice Ao113 t430.length co113,v439,v443,gb446) _ ⟨hHeld,(rR HO432.out),(rR HO440.out),(rR HO444.out),(kN BK427.out),(kN BK446.out),GW446.out,GE446.out,NB427_446.out,NB446_427.out,(kB HB.out)⟩)
     ·skip
      refine box_step ?hg (N:=3) ?hd (cs:=#[.int .i64 0,.int .i64 0,.int .i64 0,.int .i64 0,.int .i64 0,.slice none 0 0,.int .i64 0,.slice none 0 0]) (t:=33) ?hr ?_;(case hd=>rfl);(case hg=>rfl);(case hr=>first|(go_simp;done)|(go_simp;rfl))
      intro gb446 hg w111 hbox hb
      have BK446:=mk0 (hbox)
      have GW446:=mk0 ((by rw [hg];exact (kZ HB.out):w.heap.size ≤ gb446))
      have GE446:=mk0 ((by rw [hg];exact (kZ HB.out):w.heap.size ≤ gb446))
      replace HB:=mk0 (kS HB.out hb)
      have NB427_446:=mk0 ((by rw [hg];exact Nat.ne_of_lt (kL BK427.out):gb427 ≠ gb446))
      have NB446_427:=mk0 ((by rw [hg];exact Nat.ne_of_gt (kL BK427.out):gb446 ≠ gb427))
      replace BK427:=mk0 (kK BK427.out hb)
      clear hb hbox hg
      refine hK.out _ _ (ck8 BK427.out) (fun hHeld=>?_)
      clear hK K
      refine norm_ (a':=?_) ?_ ?_
      rotate_left
      ·show Act.put _ (some 3) _ = _
       simp only [Act.put,sA,sO,sS,i64_w,i32_w]
       rfl
      refine one_ (i:=1) (N:=some 23) spec_SparseOk.m8 rfl rfl (one_of HT_.out (by kernel_rfl)) (by decide) (fun K hK=>?_)
      refine goes_ Try.func49 (by kernel_rfl) rfl #[.agg #[.int .i64 a0_0,.int .i64 a0_1,.int .i64 a0_2,.int .i64 a0_3,.int .i64 a0_4,.slice A0_5 l0_5.length c0_5,.int .i64 a0_6,.slice A0_7 l0_7.length c0_7]] (by rfl) rfl rfl (by (try simp only [mA,mC,mN]);first|done|rfl|(simp only [List.length_drop,List.length_take];rfl)) ?_
      with_reducible refine (spec_l03List.calls kj1 a0_0 a0_1 a0_2 a0_3 a0_4 _ _ l0_5 a0_6 _ _ l0_7 t430 _ ?side1 ?side2 ?side3 ?side4 A20.out).mono ?_
      (case side1=>exact kC (Kd.C_below HR0_5.out HB.out))
      (case side2=>exact HC0_5.out)
      (case side3=>exact kC (Kd.C_below HR0_7.out HB.out))
      (case side4=>exact HC0_7.out)
      rintro e w112 ⟨v431,rfl,ho0,hb⟩
      refine⟨_,rfl,?_⟩
      have HO432:=mk0 (Kd.R_lower ho0 (kZ HB.out))
      replace BK427:=mk0 (kK BK427.out hb)
      replace BK446:=mk0 (kK BK446.out hb)
      replace HB:=mk0 (kS HB.out hb)
      (try clear hb)
      (try clear ho0)
      obtain⟨Ao113,co113,eo113⟩:=Kd.R_slice HO432.out
      (first|subst eo113|(injection eo113 with f1_ f2_ f3_;have f4_:=f1_.symm;have f5_:=f3_.symm;clear f1_ f2_ f3_;subst f4_;subst f5_))
      refine hK.out _ _ (ck8 BK427.out) (fun hHeld=>?_)
      clear hK K
      refine norm_ (a':=?_) ?_ ?_
      rotate_left
      ·show Act.put _ (some 23) _ = _
       simp only [Act.put,sA,sO,sS,i64_w,i32_w]
       rfl
      refine one_ (i:=4) (N:=some 26) spec_SparseOk.m12 rfl rfl (one_of HT_.out (by kernel_rfl)) (by decide) (fun K hK=>?_)
      refine goes_ Try.func9 (by kernel_rfl) rfl #[.slice Ao113 t430.length co113,.int .i64 a0_0] (by rfl) rfl rfl (by (try simp only [mA,mC,mN]);first|done|rfl|(simp only [List.length_drop,List.length_take];rfl)) ?_
      with_reducible refine (spec_SparseOf.calls kj1 _ _ t430 a0_0 t433 t434 t435 t436 t437 t438 t441 t442 true _ ?side1 ?side2 A21.out).mono ?_
      (case side1=>exact kC (Kd.R_reads' HO432.out).2.2)
      (case side2=>exact (Kd.R_reads' HO432.out).2.1)
      rintro e w114 ⟨v439,v443,rfl,ho0,ho1,hb⟩
      refine⟨_,rfl,?_⟩
      replace HO432:=mk0 (bR HO432.out hb)
      have HO440:=mk0 (Kd.R_lower ho0 (kZ HB.out))
      have HO444:=mk0 (Kd.R_lower ho1 (kZ HB.out))
      replace BK427:=mk0 (kK BK427.out hb)
      replace BK446:=mk0 (kK BK446.out hb)
      replace HB:=mk0 (kS HB.out hb)
      (try clear hb)
      (try clear ho0)
      (try clear ho1)
      refine hK.out _ _ (ck8 BK427.out) (fun hHeld=>?_)
      clear hK K
      refine norm_ (a':=?_) ?_ ?_
      rotate_left
      ·show Act.put _ (some 26) _ = _
       simp only [Act.put,sA,sO,sS,i64_w,i32_w]
       rfl
      refine pure_ (i:=5) (N:=some 21) (v:=?_) (a':=?_) spec_SparseOk.m13 rfl rfl (any_of HT_.out (by kernel_rfl)) (fun _ _ _ h=>h) (Or.inl ⟨by rfl,?_⟩) ?_ ?_
      rotate_left
      ·intro w'
       go_simp
       with_reducible rfl
      rotate_left
      ·simp only [Act.put,sA,sO,sS,i64_w,i32_w]
       rfl
      refine pure_ (i:=6) (N:=some 27) (v:=?_) (a':=?_) spec_SparseOk.m14 rfl rfl (any_of HT_.out (by kernel_rfl)) (fun _ _ _ h=>h) (Or.inl ⟨by rfl,?_⟩) ?_ ?_
      rotate_left
      ·intro w'
       go_simp
       with_reducible rfl
      rotate_left
      ·simp only [Act.put,sA,sO,sS,i64_w,i32_w]
       rfl
      refine pure_ (i:=7) (N:=some 28) (v:=?_) (a':=?_) spec_SparseOk.m4 rfl rfl (any_of HT_.out (by kernel_rfl)) (fun _ _ _ h=>h) (Or.inl ⟨by rfl,?_⟩) ?_ ?_
      rotate_left
      ·intro w'
       go_simp
       with_reducible rfl
      rotate_left
      ·simp only [Act.put,sA,sO,sS,i64_w,i32_w]
       rfl
      exact norm_ (by simp only [putAll,Act.put,sA,sO,sS]) (hCont (.slice Ao113 t430.length co113,v439,v443,gb446) _ ⟨hHeld,(rR HO432.out),(rR HO440.out),(rR HO444.out),(kN BK427.out),(kN BK446.out),GW446.out,GE446.out,NB427_446.out,NB446_427.out,(kB HB.out)⟩)
    rintro⟨v431,v439,v443,gb446⟩ w115 ⟨hS_,h0_,h1_,h2_,h3_,h4_,h5_,h6_,h7_,h8_,h9_⟩
    have n0_:Aside0 (Kd.R (Kd.int .i64) 3 w115 w.heap.size (fun _=>True) v431 t430):=⟨h0_⟩
    have n1_:Aside0 (Kd.R (Kd.int .u64) 78 w115 w.heap.size (fun k_=>some k_ ≠ (v443:Value).ownBlock) v439 t438):=⟨h1_⟩
    have n2_:Aside0 (Kd.R (Kd.int .u64) 78 w115 w.heap.size (fun k_=>some k_ ≠ (v439:Value).ownBlock) v443 t442):=⟨h2_⟩
    have n3_:Aside0 (w115.heap[gb427]? = some (.cells #[.int .i64 a0_0,.int .i64 a0_1,.int .i64 a0_2,.int .i64 a0_3,.int .i64 a0_4,.slice A0_5 l0_5.length c0_5,.int .i64 a0_6,.slice A0_7 l0_7.length c0_7] 33 (0,0))):=⟨h3_⟩
    have n4_:Aside0 (w115.heap[gb446]? = some (.cells #[.int .i64 0,.int .i64 0,.int .i64 0,.int .i64 0,.int .i64 0,.slice none 0 0,.int .i64 0,.slice none 0 0] 33 (0,0))):=⟨h4_⟩
    have n5_:Aside0 (w.heap.size ≤ gb446):=⟨h5_⟩
    have n6_:Aside0 (w.heap.size ≤ gb446):=⟨h6_⟩
    have n7_:Aside0 (gb427 ≠ gb446):=⟨h7_⟩
    have n8_:Aside0 (gb446 ≠ gb427):=⟨h8_⟩
    have n9_:Aside0 (Below w.heap.size w w115):=⟨h9_⟩
    clear BK427
    clear HB
    clear h0_ h1_ h2_ h3_ h4_ h5_ h6_ h7_ h8_ h9_
    have HO432:=n0_
    have HO440:=n1_
    have HO444:=n2_
    have BK427:=n3_
    have BK446:=n4_
    have GW446:=n5_
    have GE446:=n6_
    have NB427_446:=n7_
    have NB446_427:=n8_
    have HB:=n9_
    clear n0_ n1_ n2_ n3_ n4_ n5_ n6_ n7_ n8_ n9_
    have hHeld:w115.cell? ⟨gb427,0,none⟩ = some (.int .i64 a0_0) ∧ w115.cell? ⟨gb427,1,none⟩ = some (.int .i64 a0_1) ∧ w115.cell? ⟨gb427,2,none⟩ = some (.int .i64 a0_2) ∧ w115.cell? ⟨gb427,3,none⟩ = some (.int .i64 a0_3) ∧ w115.cell? ⟨gb427,4,none⟩ = some (.int .i64 a0_4) ∧ w115.cell? ⟨gb427,5,none⟩ = some (.slice A0_5 l0_5.length c0_5) ∧ w115.cell? ⟨gb427,6,none⟩ = some (.int .i64 a0_6) ∧ w115.cell? ⟨gb427,7,none⟩ = some (.slice A0_7 l0_7.length c0_7):=hS_
    obtain⟨Ao121,co121,eo121⟩:=Kd.R_slice HO440.out
    (first|subst eo121|(injection eo121 with f1_ f2_ f3_;have f4_:=f1_.symm;have f5_:=f3_.symm;clear f1_ f2_ f3_;subst f4_;subst f5_))
    obtain⟨Ao124,co124,eo124⟩:=Kd.R_slice HO444.out
    (first|subst eo124|(injection eo124 with f1_ f2_ f3_;have f4_:=f1_.symm;have f5_:=f3_.symm;clear f1_ f2_ f3_;subst f4_;subst f5_))
    refine norm_ (a':=?_) ?_ ?_
    rotate_left
    ·simp only [putAll,Act.put,sA,sO,sS]
     rfl
    refine one_ (i:=9) (N:=none) spec_SparseOk.m15 rfl rfl (one_of HT_.out (by kernel_rfl)) (by decide) (fun K hK=>?_)
    have hs116:w115.cell? ⟨gb446,0,none⟩ = some (.int .i64 0):=(blk_cell BK446.out 0).trans rfl
    have hfs116:=blk_frozen BK446.out 0
    have hns116_0:=NB427_446.out
    have hms116_0:=NB446_427.out
    have hs117:w115.cell? ⟨gb446,1,none⟩ = some (.int .i64 0):=(blk_cell BK446.out 1).trans rfl
    have hfs117:=blk_frozen BK446.out 1
    have hns117_0:=NB427_446.out
    have hms117_0:=NB446_427.out
    have hs118:w115.cell? ⟨gb446,2,none⟩ = some (.int .i64 0):=(blk_cell BK446.out 2).trans rfl
    have hfs118:=blk_frozen BK446.out 2
    have hns118_0:=NB427_446.out
    have hms118_0:=NB446_427.out
    have hs119:w115.cell? ⟨gb446,3,none⟩ = some (.int .i64 0):=(blk_cell BK446.out 3).trans rfl
    have hfs119:=blk_frozen BK446.out 3
    have hns119_0:=NB427_446.out
    have hms119_0:=NB446_427.out
    have hs120:w115.cell? ⟨gb446,4,none⟩ = some (.int .i64 0):=(blk_cell BK446.out 4).trans rfl
    have hfs120:=blk_frozen BK446.out 4
    have hns120_0:=NB427_446.out
    have hms120_0:=NB446_427.out
    have hs122:w115.cell? ⟨gb446,5,none⟩ = some (.slice none 0 0):=(blk_cell BK446.out 5).trans rfl
    have hfs122:=blk_frozen BK446.out 5
    have hns122_0:=NB427_446.out
    have hms122_0:=NB446_427.out
    have hs123:w115.cell? ⟨gb446,6,none⟩ = some (.int .i64 0):=(blk_cell BK446.out 6).trans rfl
    have hfs123:=blk_frozen BK446.out 6
    have hns123_0:=NB427_446.out
    have hms123_0:=NB446_427.out
    have hs125:w115.cell? ⟨gb446,7,none⟩ = some (.slice none 0 0):=(blk_cell BK446.out 7).trans rfl
    have hfs125:=blk_frozen BK446.out 7
    have hns125_0:=NB427_446.out
    have hms125_0:=NB446_427.out
    refine skip_ (w1:=?_) (by rfl) rfl ?_ ?_
    rotate_left
    ·go_simp
     rfl
    refine hK.out _ _ ⟨((cell_far (p:=⟨gb446,_,none⟩) NB427_446.out _).trans (((cell_far (p:=⟨gb446,_,none⟩) NB427_446.out _).trans (((cell_far (p:=⟨gb446,_,none⟩) NB427_446.out _).trans (((cell_far (p:=⟨gb446,_,none⟩) NB427_446.out _).trans (((cell_far (p:=⟨gb446,_,none⟩) NB427_446.out _).trans (((cell_far (p:=⟨gb446,_,none⟩) NB427_446.out _).trans (((cell_far (p:=⟨gb446,_,none⟩) NB427_446.out _).trans (((cell_far (p:=⟨gb446,_,none⟩) NB427_446.out _).trans (hHeld.1)))))))))))))))),((cell_far (p:=⟨gb446,_,none⟩) NB427_446.out _).trans (((cell_far (p:=⟨gb446,_,none⟩) NB427_446.out _).trans (((cell_far (p:=⟨gb446,_,none⟩) NB427_446.out _).trans (((cell_far (p:=⟨gb446,_,none⟩) NB427_446.out _).trans (((cell_far (p:=⟨gb446,_,none⟩) NB427_446.out _).trans (((cell_far (p:=⟨gb446,_,none⟩) NB427_446.out _).trans (((cell_far (p:=⟨gb446,_,none⟩) NB427_446.out _).trans (((cell_far (p:=⟨gb446,_,none⟩) NB427_446.out _).trans (hHeld.2.1)))))))))))))))),((cell_far (p:=⟨gb446,_,none⟩) NB427_446.out _).trans (((cell_far (p:=⟨gb446,_,none⟩) NB427_446.out _).trans (((cell_far (p:=⟨gb446,_,none⟩) NB427_446.out _).trans (((cell_far (p:=⟨gb446,_,none⟩) NB427_446.out _).trans (((cell_far (p:=⟨gb446,_,none⟩) NB427_446.out _).trans (((cell_far (p:=⟨gb446,_,none⟩) NB427_446.out _).trans (((cell_far (p:=⟨gb446,_,none⟩) NB427_446.out _).trans (((cell_far (p:=⟨gb446,_,none⟩) NB427_446.out _).trans (hHeld.2.2.1)))))))))))))))),((cell_far (p:=⟨gb446,_,none⟩) NB427_446.out _).trans (((cell_far (p:=⟨gb446,_,none⟩) NB427_446.out _).trans (((cell_far (p:=⟨gb446,_,none⟩) NB427_446.out _).trans (((cell_far (p:=⟨gb446,_,none⟩) NB427_446.out _).trans (((cell_far (p:=⟨gb446,_,none⟩) NB427_446.out _).trans (((cell_far (p:=⟨gb446,_,none⟩) NB427_446.out _).trans (((cell_far (p:=⟨gb446,_,none⟩) NB427_446.out _).trans (((cell_far (p:=⟨gb446,_,none⟩) NB427_446.out _).trans (hHeld.2.2.2.1)))))))))))))))),((cell_far (p:=⟨gb446,_,none⟩) NB427_446.out _).trans (((cell_far (p:=⟨gb446,_,none⟩) NB427_446.out _).trans (((cell_far (p:=⟨gb446,_,none⟩) NB427_446.out _).trans (((cell_far (p:=⟨gb446,_,none⟩) NB427_446.out _).trans (((cell_far (p:=⟨gb446,_,none⟩) NB427_446.out _).trans (((cell_far (p:=⟨gb446,_,none⟩) NB427_446.out _).trans (((cell_far (p:=⟨gb446,_,none⟩) NB427_446.out _).trans (((cell_far (p:=⟨gb446,_,none⟩) NB427_446.out _).trans (hHeld.2.2.2.2.1)))))))))))))))),((cell_far (p:=⟨gb446,_,none⟩) NB427_446.out _).trans (((cell_far (p:=⟨gb446,_,none⟩) NB427_446.out _).trans (((cell_far (p:=⟨gb446,_,none⟩) NB427_446.out _).trans (((cell_far (p:=⟨gb446,_,none⟩) NB427_446.out _).trans (((cell_far (p:=⟨gb446,_,none⟩) NB427_446.out _).trans (((cell_far (p:=⟨gb446,_,none⟩) NB427_446.out _).trans (((cell_far (p:=⟨gb446,_,none⟩) NB427_446.out _).trans (((cell_far (p:=⟨gb446,_,none⟩) NB427_446.out _).trans (hHeld.2.2.2.2.2.1)))))))))))))))),((cell_far (p:=⟨gb446,_,none⟩) NB427_446.out _).trans (((cell_far (p:=⟨gb446,_,none⟩) NB427_446.out _).trans (((cell_far (p:=⟨gb446,_,none⟩) NB427_446.out _).trans (((cell_far (p:=⟨gb446,_,none⟩) NB427_446.out _).trans (((cell_far (p:=⟨gb446,_,none⟩) NB427_446.out _).trans (((cell_far (p:=⟨gb446,_,none⟩) NB427_446.out _).trans (((cell_far (p:=⟨gb446,_,none⟩) NB427_446.out _).trans (((cell_far (p:=⟨gb446,_,none⟩) NB427_446.out _).trans (hHeld.2.2.2.2.2.2.1)))))))))))))))),((cell_far (p:=⟨gb446,_,none⟩) NB427_446.out _).trans (((cell_far (p:=⟨gb446,_,none⟩) NB427_446.out _).trans (((cell_far (p:=⟨gb446,_,none⟩) NB427_446.out _).trans (((cell_far (p:=⟨gb446,_,none⟩) NB427_446.out _).trans (((cell_far (p:=⟨gb446,_,none⟩) NB427_446.out _).trans (((cell_far (p:=⟨gb446,_,none⟩) NB427_446.out _).trans (((cell_far (p:=⟨gb446,_,none⟩) NB427_446.out _).trans (((cell_far (p:=⟨gb446,_,none⟩) NB427_446.out _).trans (hHeld.2.2.2.2.2.2.2))))))))))))))))⟩ (fun hHeld=>?_)
    clear hK K
    refine pure_ (i:=10) (N:=some 4) (v:=?_) (a':=?_) spec_SparseOk.m16 rfl rfl (any_of HT_.out (by kernel_rfl)) (fun _ _ _ h=>h) (Or.inl ⟨by rfl,?_⟩) ?_ ?_
    rotate_left
    ·intro w'
     go_simp
     with_reducible rfl
    rotate_left
    ·simp only [Act.put,sA,sO,sS,i64_w,i32_w]
     rfl
    refine done_ (done_of HT_.out (by kernel_rfl)) ?_
    have hnb126:=NB446_427.out
    have hnc126:=NB427_446.out
    obtain⟨hcz127_0,hcz127_1,hcz127_2,hcz127_3,hcz127_4,hcz127_5,hcz127_6,hcz127_7,hfz127_0,hfz127_1,hfz127_2,hfz127_3,hfz127_4,hfz127_5,hfz127_6,hfz127_7⟩:=cz8 BK446.out
    obtain⟨hcz128_0,hcz128_1,hcz128_2,hcz128_3,hcz128_4,hcz128_5,hcz128_6,hcz128_7,hfz128_0,hfz128_1,hfz128_2,hfz128_3,hfz128_4,hfz128_5,hfz128_6,hfz128_7⟩:=cz8 BK427.out
    try go_wp2
    go_ret
    exact⟨by first|rfl|(simp [errW_none,errW_some] <;> rfl)|(simp [*,errW_none,errW_some] <;> rfl),kB HB.out⟩
   rw [if_pos c23] at H
   have c23b0:(t434 == a0_1) = true:=beq_iff_eq.mpr c23
   have c23b1:(t434 != a0_1) = false:=bne_eq_false_iff_eq.mpr c23
   clear c23
   by_cases c24:t435 = a0_2
   rotate_left
   ·rw [if_neg c24] at H
    have c24b0:(t435 == a0_2) = false:=beq_eq_false_iff_ne.mpr c24
    have c24b1:(t435 != a0_2) = true:=bne_iff_ne.mpr c24
    obtain rfl:=Option.some.inj H
    try go_wp2
    replace BK427:=mk0 (dB BK427.out)
    replace HB:=mk0 (dZ HB.out)
    refine start_ (n:=11) (S:=fun w'=>w'.cell? ⟨gb427,0,none⟩ = some (.int .i64 a0_0) ∧ w'.cell? ⟨gb427,1,none⟩ = some (.int .i64 a0_1) ∧ w'.cell? ⟨gb427,2,none⟩ = some (.int .i64 a0_2) ∧ w'.cell? ⟨gb427,3,none⟩ = some (.int .i64 a0_3) ∧ w'.cell? ⟨gb427,4,none⟩ = some (.int .i64 a0_4) ∧ w'.cell? ⟨gb427,5,none⟩ = some (.slice A0_5 l0_5.length c0_5) ∧ w'.cell? ⟨gb427,6,none⟩ = some (.int .i64 a0_6) ∧ w'.cell? ⟨gb427,7,none⟩ = some (.slice A0_7 l0_7.length c0_7)) (ds:=[]) spec_SparseOk.m0 (by kernel_rfl) rfl rfl (ck8 BK427.out) (fun hHeld=>?_);refine with_tabW spec_SparseOk.tab3 spec_SparseOk.bits3 (fun HT_ HW_=>?_)
    generalize wc.drew = w91 at BK427 HB hHeld ⊢
    refine pure_ (i:=2) (N:=some 24) (v:=?_) (a':=?_) spec_SparseOk.m1 rfl rfl (any_of HT_.out (by kernel_rfl)) (fun _ _ _ h=>h) (Or.inl ⟨by rfl,?_⟩) ?_ ?_
    rotate_left
    ·intro w'
     go_simp
     with_reducible rfl
    rotate_left
    ·simp only [Act.put,sA,sO,sS,i64_w,i32_w]
     rfl
    refine take_ (i:=0) (N:=some 22) (v:=?_) (a':=?_) spec_SparseOk.m2 rfl rfl (take_ofW HT_.out HW_.out (by kernel_rfl)) (fun _ _ _ h=>h) (Or.inl ⟨by rfl,?_⟩) hHeld ?_ ?_
    rotate_left
    ·rintro w' ⟨s0,s1,s2,s3,s4,s5,s6,s7⟩
     go_simp
     with_reducible rfl
    rotate_left
    ·simp only [Act.put,sA,sO,sS,i64_w,i32_w]
     rfl
    refine take_ (i:=3) (N:=some 25) (v:=?_) (a':=?_) spec_SparseOk.m3 rfl rfl (take_ofW HT_.out HW_.out (by kernel_rfl)) (fun _ _ _ h=>h) (Or.inl ⟨by rfl,?_⟩) hHeld ?_ ?_
    rotate_left
    ·rintro w' ⟨s0,s1,s2,s3,s4,s5,s6,s7⟩
     go_simp
     with_reducible rfl
    rotate_left
    ·simp only [Act.put,sA,sO,sS,i64_w,i32_w]
     rfl
    refine join_ (σ:=Value × Value × Value × Nat) 2 spec_SparseOk.m4 (fun s_=>[(23,s_.1),(26,.tuple #[.agg #[.int .i64 t433,.int .i64 t434,.int .i64 t435,.int .i64 t436,.int .i64 t437,s_.2.1,.int .i64 t441,s_.2.2.1],.bool true]),(3,.pointer (some ⟨s_.2.2.2,0,none⟩)),(21,.tuple #[.agg #[.int .i64 t433,.int .i64 t434,.int .i64 t435,.int .i64 t436,.int .i64 t437,s_.2.1,.int .i64 t441,s_.2.2.1],.bool true]),(27,.agg #[.int .i64 t433,.int .i64 t434,.int .i64 t435,.int .i64 t436,.int .i64 t437,s_.2.1,.int .i64 t441,s_.2.2.1]),(28,.bool true)]) (fun s_ w'=>(w'.cell? ⟨gb427,0,none⟩ = some (.int .i64 a0_0) ∧ w'.cell? ⟨gb427,1,none⟩ = some (.int .i64 a0_1) ∧ w'.cell? ⟨gb427,2,none⟩ = some (.int .i64 a0_2) ∧ w'.cell? ⟨gb427,3,none⟩ = some (.int .i64 a0_3) ∧ w'.cell? ⟨gb427,4,none⟩ = some (.int .i64 a0_4) ∧ w'.cell? ⟨gb427,5,none⟩ = some (.slice A0_5 l0_5.length c0_5) ∧ w'.cell? ⟨gb427,6,none⟩ = some (.int .i64 a0_6) ∧ w'.cell? ⟨gb427,7,none⟩ = some (.slice A0_7 l0_7.length c0_7)) ∧ (Kd.R (Kd.int .i64) 3 w' w.heap.size (fun _=>True) s_.1 t430) ∧ (Kd.R (Kd.int .u64) 78 w' w.heap.size (fun k_=>some k_ ≠ (s_.2.2.1:Value).ownBlock) s_.2.1 t438) ∧ (Kd.R (Kd.int .u64) 78 w' w.heap.size (fun k_=>some k_ ≠ (s_.2.1:Value).ownBlock) s_.2.2.1 t442) ∧ (w'.heap[gb427]? = some (.cells #[.int .i64 a0_0,.int .i64 a0_1,.int .i64 a0_2,.int .i64 a0_3,.int .i64 a0_4,.slice A0_5 l0_5.length c0_5,.int .i64 a0_6,.slice A0_7 l0_7.length c0_7] 33 (0,0))) ∧ (w'.heap[s_.2.2.2]? = some (.cells #[.int .i64 0,.int .i64 0,.int .i64 0,.int .i64 0,.int .i64 0,.slice none 0 0,.int .i64 0,.slice none 0 0] 33 (0,0))) ∧ (w.heap.size ≤ s_.2.2.2) ∧ (w.heap.size ≤ s_.2.2.2) ∧ (gb427 ≠ s_.2.2.2) ∧ (s_.2.2.2 ≠ gb427) ∧ (Below w.heap.size w w')) ?_ ?_
    rotate_left
    ·intro hCont
     refine two_ (i:=1) (j:=8) (Ni:=some 23) (Nj:=some 3) spec_SparseOk.m5 spec_SparseOk.m6 rfl rfl rfl rfl (two_of HT_.out (by kernel_rfl)) (by decide) (by decide) (fun K hK=>?_) (fun K hK=>?_)
     ·skip
      refine goes_ Try.func49 (by kernel_rfl) rfl #[.agg #[.int .i64 a0_0,.int .i64 a0_1,.int .i64 a0_2,.int .i64 a0_3,.int .i64 a0_4,.slice A0_5 l0_5.length c0_5,.int .i64 a0_6,.slice A0_7 l0_7.length c0_7]] (by rfl) rfl rfl (by (try simp only [mA,mC,mN]);first|done|rfl|(simp only [List.length_drop,List.length_take];rfl)) ?_
      with_reducible refine (spec_l03List.calls kj1 a0_0 a0_1 a0_2 a0_3 a0_4 _ _ l0_5 a0_6 _ _ l0_7 t430 _ ?side1 ?side2 ?side3 ?side4 A20.out).mono ?_
      (case side1=>exact kC (Kd.C_below HR0_5.out HB.out))
      (case side2=>exact HC0_5.out)
      (case side3=>exact kC (Kd.C_below HR0_7.out HB.out))
      (case side4=>exact HC0_7.out)
      rintro e w92 ⟨v431,rfl,ho0,hb⟩
      refine⟨_,rfl,?_⟩
      have HO432:=mk0 (Kd.R_lower ho0 (kZ HB.out))
      replace BK427:=mk0 (kK BK427.out hb)
      replace HB:=mk0 (kS HB.out hb)
      (try clear hb)
      (try clear ho0)
      obtain⟨Ao93,co93,eo93⟩:=Kd.R_slice HO432.out
      (first|subst eo93|(injection eo93 with f1_ f2_ f3_;have f4_:=f1_.symm;have f5_:=f3_.symm;clear f1_ f2_ f3_;subst f4_;subst f5_))
      refine hK.out _ _ (ck8 BK427.out) (fun hHeld=>?_)
      clear hK K
      refine norm_ (a':=?_) ?_ ?_
      rotate_left
      ·show Act.put _ (some 23) _ = _
       simp only [Act.put,sA,sO,sS,i64_w,i32_w]
       rfl
      refine two_ (i:=4) (j:=8) (Ni:=some 26) (Nj:=some 3) spec_SparseOk.m7 spec_SparseOk.m8 rfl rfl rfl rfl (two_of HT_.out (by kernel_rfl)) (by decide) (by decide) (fun K hK=>?_) (fun K hK=>?_)
      ·skip
       refine goes_ Try.func9 (by kernel_rfl) rfl #[.slice Ao93 t430.length co93,.int .i64 a0_0] (by rfl) rfl rfl (by (try simp only [mA,mC,mN]);first|done|rfl|(simp only [List.length_drop,List.length_take];rfl)) ?_
       with_reducible refine (spec_SparseOf.calls kj1 _ _ t430 a0_0 t433 t434 t435 t436 t437 t438 t441 t442 true _ ?side1 ?side2 A21.out).mono ?_
       (case side1=>exact kC (Kd.R_reads' HO432.out).2.2)
       (case side2=>exact (Kd.R_reads' HO432.out).2.1)
       rintro e w94 ⟨v439,v443,rfl,ho0,ho1,hb⟩
       refine⟨_,rfl,?_⟩
       replace HO432:=mk0 (bR HO432.out hb)
       have HO440:=mk0 (Kd.R_lower ho0 (kZ HB.out))
       have HO444:=mk0 (Kd.R_lower ho1 (kZ HB.out))
       replace BK427:=mk0 (kK BK427.out hb)
       replace HB:=mk0 (kS HB.out hb)
       (try clear hb)
       (try clear ho0)
       (try clear ho1)
       refine hK.out _ _ (ck8 BK427.out) (fun hHeld=>?_)
       clear hK K
       refine norm_ (a':=?_) ?_ ?_
       rotate_left
       ·show Act.put _ (some 26) _ = _
        simp only [Act.put,sA,sO,sS,i64_w,i32_w]
        rfl
       refine pure_ (i:=5) (N:=some 21) (v:=?_) (a':=?_) spec_SparseOk.m9 rfl rfl (any_of HT_.out (by kernel_rfl)) (fun _ _ _ h=>h) (Or.inl ⟨by rfl,?_⟩) ?_ ?_
       rotate_left
       ·intro w'
        go_simp
        with_reducible rfl
       rotate_left
       ·simp only [Act.put,sA,sO,sS,i64_w,i32_w]
        rfl
       refine pure_ (i:=6) (N:=some 27) (v:=?_) (a':=?_) spec_SparseOk.m10 rfl rfl (any_of HT_.out (by kernel_rfl)) (fun _ _ _ h=>h) (Or.inl ⟨by rfl,?_⟩) ?_ ?_
       rotate_left
       ·intro w'
        go_simp
        with_reducible rfl
       rotate_left
       ·simp only [Act.put,sA,sO,sS,i64_w,i32_w]
        rfl
       refine pure_ (i:=7) (N:=some 28) (v:=?_) (a':=?_) spec_SparseOk.m11 rfl rfl (any_of HT_.out (by kernel_rfl)) (fun _ _ _ h=>h) (Or.inl ⟨by rfl,?_⟩) ?_ ?_
       rotate_left
       ·intro w'
        go_simp
        with_reducible rfl
       rotate_left
       ·simp only [Act.put,sA,sO,sS,i64_w,i32_w]
        rfl
       refine one_ (i:=8) (N:=some 3) spec_SparseOk.m4 rfl rfl (one_of HT_.out (by kernel_rfl)) (by decide) (fun K hK=>?_)
       refine box_step ?hg (N:=3) ?hd (cs:=#[.int .i64 0,.int .i64 0,.int .i64 0,.int .i64 0,.int .i64 0,.slice none 0 0,.int .i64 0,.slice none 0 0]) (t:=33) ?hr ?_;(case hd=>rfl);(case hg=>rfl);(case hr=>first|(go_simp;done)|(go_simp;rfl))
       intro gb446 hg w95 hbox hb
       replace HO432:=mk0 (bR HO432.out hb)
       replace HO440:=mk0 (bR HO440.out hb)
       replace HO444:=mk0 (bR HO444.out hb)
       have BK446:=mk0 (hbox)
       have GW446:=mk0 ((by rw [hg];exact (kZ HB.out):w.heap.size ≤ gb446))
       have GE446:=mk0 ((by rw [hg];exact (kZ HB.out):w.heap.size ≤ gb446))
       replace HB:=mk0 (kS HB.out hb)
       have NB427_446:=mk0 ((by rw [hg];exact Nat.ne_of_lt (kL BK427.out):gb427 ≠ gb446))
       have NB446_427:=mk0 ((by rw [hg];exact Nat.ne_of_gt (kL BK427.out):gb446 ≠ gb427))
       replace BK427:=mk0 (kK BK427.out hb)
       clear hb hbox hg
       refine hK.out _ _ (ck8 BK427.out) (fun hHeld=>?_)
       clear hK K
       refine norm_ (a':=?_) ?_ ?_
       rotate_left
       ·show Act.put _ (some 3) _ = _
        simp only [Act.put,sA,sO,sS,i64_w,i32_w]
        rfl
       exact norm_ (by simp only [putAll,Act.put,sA,sO,sS]) (hCont (.slice Ao93 t430.length co93,v439,v443,gb446) _ ⟨hHeld,(rR HO432.out),(rR HO440.out),(rR HO444.out),(kN BK427.out),(kN BK446.out),GW446.out,GE446.out,NB427_446.out,NB446_427.out,(kB HB.out)⟩)
      ·skip
       refine box_step ?hg (N:=3) ?hd (cs:=#[.int .i64 0,.int .i64 0,.int .i64 0,.int .i64 0,.int .i64 0,.slice none 0 0,.int .i64 0,.slice none 0 0]) (t:=33) ?hr ?_;(case hd=>rfl);(case hg=>rfl);(case hr=>first|(go_simp;done)|(go_simp;rfl))
       intro gb446 hg w93 hbox hb
       replace HO432:=mk0 (bR HO432.out hb)
       have BK446:=mk0 (hbox)
       have GW446:=mk0 ((by rw [hg];exact (kZ HB.out):w.heap.size ≤ gb446))
       have GE446:=mk0 ((by rw [hg];exact (kZ HB.out):w.heap.size ≤ gb446))
       replace HB:=mk0 (kS HB.out hb)
       have NB427_446:=mk0 ((by rw [hg];exact Nat.ne_of_lt (kL BK427.out):gb427 ≠ gb446))
       have NB446_427:=mk0 ((by rw [hg];exact Nat.ne_of_gt (kL BK427.out):gb446 ≠ gb427))
       replace BK427:=mk0 (kK BK427.out hb)
       clear hb hbox hg
       obtain⟨Ao94,co94,eo94⟩:=Kd.R_slice HO432.out
       (first|subst eo94|(injection eo94 with f1_ f2_ f3_;have f4_:=f1_.symm;have f5_:=f3_.symm;clear f1_ f2_ f3_;subst f4_;subst f5_))
       refine hK.out _ _ (ck8 BK427.out) (fun hHeld=>?_)
       clear hK K
       refine norm_ (a':=?_) ?_ ?_
       rotate_left
       ·show Act.put _ (some 3) _ = _
        simp only [Act.put,sA,sO,sS,i64_w,i32_w]
        rfl
       refine one_ (i:=4) (N:=some 26) spec_SparseOk.m12 rfl rfl (one_of HT_.out (by kernel_rfl)) (by decide) (fun K hK=>?_)
       refine goes_ Try.func9 (by kernel_rfl) rfl #[.slice Ao94 t430.length co94,.int .i64 a0_0] (by rfl) rfl rfl (by (try simp only [mA,mC,mN]);first|done|rfl|(simp only [List.length_drop,List.length_take];rfl)) ?_
       with_reducible refine (spec_SparseOf.calls kj1 _ _ t430 a0_0 t433 t434 t435 t436 t437 t438 t441 t442 true _ ?side1 ?side2 A21.out).mono ?_
       (case side1=>exact kC (Kd.R_reads' HO432.out).2.2)
       (case side2=>exact (Kd.R_reads' HO432.out).2.1)
       rintro e w95 ⟨v439,v443,rfl,ho0,ho1,hb⟩
       refine⟨_,rfl,?_⟩
       replace HO432:=mk0 (bR HO432.out hb)
       have HO440:=mk0 (Kd.R_lower ho0 (kZ HB.out))
       have HO444:=mk0 (Kd.R_lower ho1 (kZ HB.out))
       replace BK427:=mk0 (kK BK427.out hb)
       replace BK446:=mk0 (kK BK446.out hb)
       replace HB:=mk0 (kS HB.out hb)
       (try clear hb)
       (try clear ho0)
       (try clear ho1)
       refine hK.out _ _ (ck8 BK427.out) (fun hHeld=>?_)
       clear hK K
       refine norm_ (a':=?_) ?_ ?_
       rotate_left
       ·show Act.put _ (some 26) _ = _
        simp only [Act.put,sA,sO,sS,i64_w,i32_w]
        rfl
       refine pure_ (i:=5) (N:=some 21) (v:=?_) (a':=?_) spec_SparseOk.m13 rfl rfl (any_of HT_.out (by kernel_rfl)) (fun _ _ _ h=>h) (Or.inl ⟨by rfl,?_⟩) ?_ ?_
       rotate_left
       ·intro w'
        go_simp
        with_reducible rfl
       rotate_left
       ·simp only [Act.put,sA,sO,sS,i64_w,i32_w]
        rfl
       refine pure_ (i:=6) (N:=some 27) (v:=?_) (a':=?_) spec_SparseOk.m14 rfl rfl (any_of HT_.out (by kernel_rfl)) (fun _ _ _ h=>h) (Or.inl ⟨by rfl,?_⟩) ?_ ?_
       rotate_left
       ·intro w'
        go_simp
        with_reducible rfl
       rotate_left
       ·simp only [Act.put,sA,sO,sS,i64_w,i32_w]
        rfl
       refine pure_ (i:=7) (N:=some 28) (v:=?_) (a':=?_) spec_SparseOk.m4 rfl rfl (any_of HT_.out (by kernel_rfl)) (fun _ _ _ h=>h) (Or.inl ⟨by rfl,?_⟩) ?_ ?_
       rotate_left
       ·intro w'
        go_simp
        with_reducible rfl
       rotate_left
       ·simp only [Act.put,sA,sO,sS,i64_w,i32_w]
        rfl
       exact norm_ (by simp only [putAll,Act.put,sA,sO,sS]) (hCont (.slice Ao94 t430.length co94,v439,v443,gb446) _ ⟨hHeld,(rR HO432.out),(rR HO440.out),(rR HO444.out),(kN BK427.out),(kN BK446.out),GW446.out,GE446.out,NB427_446.out,NB446_427.out,(kB HB.out)⟩)
     ·skip
      refine box_step ?hg (N:=3) ?hd (cs:=#[.int .i64 0,.int .i64 0,.int .i64 0,.int .i64 0,.int .i64 0,.slice none 0 0,.int .i64 0,.slice none 0 0]) (t:=33) ?hr ?_;(case hd=>rfl);(case hg=>rfl);(case hr=>first|(go_simp;done)|(go_simp;rfl))
      intro gb446 hg w92 hbox hb
      have BK446:=mk0 (hbox)
      have GW446:=mk0 ((by rw [hg];exact (kZ HB.out):w.heap.size ≤ gb446))
      have GE446:=mk0 ((by rw [hg];exact (kZ HB.out):w.heap.size ≤ gb446))
      replace HB:=mk0 (kS HB.out hb)
      have NB427_446:=mk0 ((by rw [hg];exact Nat.ne_of_lt (kL BK427.out):gb427 ≠ gb446))
      have NB446_427:=mk0 ((by rw [hg];exact Nat.ne_of_gt (kL BK427.out):gb446 ≠ gb427))
      replace BK427:=mk0 (kK BK427.out hb)
      clear hb hbox hg
      refine hK.out _ _ (ck8 BK427.out) (fun hHeld=>?_)
      clear hK K
      refine norm_ (a':=?_) ?_ ?_
      rotate_left
      ·show Act.put _ (some 3) _ = _
       simp only [Act.put,sA,sO,sS,i64_w,i32_w]
       rfl
      refine one_ (i:=1) (N:=some 23) spec_SparseOk.m8 rfl rfl (one_of HT_.out (by kernel_rfl)) (by decide) (fun K hK=>?_)
      refine goes_ Try.func49 (by kernel_rfl) rfl #[.agg #[.int .i64 a0_0,.int .i64 a0_1,.int .i64 a0_2,.int .i64 a0_3,.int .i64 a0_4,.slice A0_5 l0_5.length c0_5,.int .i64 a0_6,.slice A0_7 l0_7.length c0_7]] (by rfl) rfl rfl (by (try simp only [mA,mC,mN]);first|done|rfl|(simp only [List.length_drop,List.length_take];rfl)) ?_
      with_reducible refine (spec_l03List.calls kj1 a0_0 a0_1 a0_2 a0_3 a0_4 _ _ l0_5 a0_6 _ _ l0_7 t430 _ ?side1 ?side2 ?side3 ?side4 A20.out).mono ?_
      (case side1=>exact kC (Kd.C_below HR0_5.out HB.out))
      (case side2=>exact HC0_5.out)
      (case side3=>exact kC (Kd.C_below HR0_7.out HB.out))
      (case side4=>exact HC0_7.out)
      rintro e w93 ⟨v431,rfl,ho0,hb⟩
      refine⟨_,rfl,?_⟩
      have HO432:=mk0 (Kd.R_lower ho0 (kZ HB.out))
      replace BK427:=mk0 (kK BK427.out hb)
      replace BK446:=mk0 (kK BK446.out hb)
      replace HB:=mk0 (kS HB.out hb)
      (try clear hb)
      (try clear ho0)
      obtain⟨Ao94,co94,eo94⟩:=Kd.R_slice HO432.out
      (first|subst eo94|(injection eo94 with f1_ f2_ f3_;have f4_:=f1_.symm;have f5_:=f3_.symm;clear f1_ f2_ f3_;subst f4_;subst f5_))
      refine hK.out _ _ (ck8 BK427.out) (fun hHeld=>?_)
      clear hK K
      refine norm_ (a':=?_) ?_ ?_
      rotate_left
      ·show Act.put _ (some 23) _ = _
       simp only [Act.put,sA,sO,sS,i64_w,i32_w]
       rfl
      refine one_ (i:=4) (N:=some 26) spec_SparseOk.m12 rfl rfl (one_of HT_.out (by kernel_rfl)) (by decide) (fun K hK=>?_)
      refine goes_ Try.func9 (by kernel_rfl) rfl #[.slice Ao94 t430.length co94,.int .i64 a0_0] (by rfl) rfl rfl (by (try simp only [mA,mC,mN]);first|done|rfl|(simp only [List.length_drop,List.length_take];rfl)) ?_
      with_reducible refine (spec_SparseOf.calls kj1 _ _ t430 a0_0 t433 t434 t435 t436 t437 t438 t441 t442 true _ ?side1 ?side2 A21.out).mono ?_
      (case side1=>exact kC (Kd.R_reads' HO432.out).2.2)
      (case side2=>exact (Kd.R_reads' HO432.out).2.1)
      rintro e w95 ⟨v439,v443,rfl,ho0,ho1,hb⟩
      refine⟨_,rfl,?_⟩
      replace HO432:=mk0 (bR HO432.out hb)
      have HO440:=mk0 (Kd.R_lower ho0 (kZ HB.out))
      have HO444:=mk0 (Kd.R_lower ho1 (kZ HB.out))
      replace BK427:=mk0 (kK BK427.out hb)
      replace BK446:=mk0 (kK BK446.out hb)
      replace HB:=mk0 (kS HB.out hb)
      (try clear hb)
      (try clear ho0)
      (try clear ho1)
      refine hK.out _ _ (ck8 BK427.out) (fun hHeld=>?_)
      clear hK K
      refine norm_ (a':=?_) ?_ ?_
      rotate_left
      ·show Act.put _ (some 26) _ = _
       simp only [Act.put,sA,sO,sS,i64_w,i32_w]
       rfl
      refine pure_ (i:=5) (N:=some 21) (v:=?_) (a':=?_) spec_SparseOk.m13 rfl rfl (any_of HT_.out (by kernel_rfl)) (fun _ _ _ h=>h) (Or.inl ⟨by rfl,?_⟩) ?_ ?_
      rotate_left
      ·intro w'
       go_simp
       with_reducible rfl
      rotate_left
      ·simp only [Act.put,sA,sO,sS,i64_w,i32_w]
       rfl
      refine pure_ (i:=6) (N:=some 27) (v:=?_) (a':=?_) spec_SparseOk.m14 rfl rfl (any_of HT_.out (by kernel_rfl)) (fun _ _ _ h=>h) (Or.inl ⟨by rfl,?_⟩) ?_ ?_
      rotate_left
      ·intro w'
       go_simp
       with_reducible rfl
      rotate_left
      ·simp only [Act.put,sA,sO,sS,i64_w,i32_w]
       rfl
      refine pure_ (i:=7) (N:=some 28) (v:=?_) (a':=?_) spec_SparseOk.m4 rfl rfl (any_of HT_.out (by kernel_rfl)) (fun _ _ _ h=>h) (Or.inl ⟨by rfl,?_⟩) ?_ ?_
      rotate_left
      ·intro w'
       go_simp
       with_reducible rfl
      rotate_left
      ·simp only [Act.put,sA,sO,sS,i64_w,i32_w]
       rfl
      exact norm_ (by simp only [putAll,Act.put,sA,sO,sS]) (hCont (.slice Ao94 t430.length co94,v439,v443,gb446) _ ⟨hHeld,(rR HO432.out),(rR HO440.out),(rR HO444.out),(kN BK427.out),(kN BK446.out),GW446.out,GE446.out,NB427_446.out,NB446_427.out,(kB HB.out)⟩)
    rintro⟨v431,v439,v443,gb446⟩ w96 ⟨hS_,h0_,h1_,h2_,h3_,h4_,h5_,h6_,h7_,h8_,h9_⟩
    have n0_:Aside0 (Kd.R (Kd.int .i64) 3 w96 w.heap.size (fun _=>True) v431 t430):=⟨h0_⟩
    have n1_:Aside0 (Kd.R (Kd.int .u64) 78 w96 w.heap.size (fun k_=>some k_ ≠ (v443:Value).ownBlock) v439 t438):=⟨h1_⟩
    have n2_:Aside0 (Kd.R (Kd.int .u64) 78 w96 w.heap.size (fun k_=>some k_ ≠ (v439:Value).ownBlock) v443 t442):=⟨h2_⟩
    have n3_:Aside0 (w96.heap[gb427]? = some (.cells #[.int .i64 a0_0,.int .i64 a0_1,.int .i64 a0_2,.int .i64 a0_3,.int .i64 a0_4,.slice A0_5 l0_5.length c0_5,.int .i64 a0_6,.slice A0_7 l0_7.length c0_7] 33 (0,0))):=⟨h3_⟩
    have n4_:Aside0 (w96.heap[gb446]? = some (.cells #[.int .i64 0,.int .i64 0,.int .i64 0,.int .i64 0,.int .i64 0,.slice none 0 0,.int .i64 0,.slice none 0 0] 33 (0,0))):=⟨h4_⟩
    have n5_:Aside0 (w.heap.size ≤ gb446):=⟨h5_⟩
    have n6_:Aside0 (w.heap.size ≤ gb446):=⟨h6_⟩
    have n7_:Aside0 (gb427 ≠ gb446):=⟨h7_⟩
    have n8_:Aside0 (gb446 ≠ gb427):=⟨h8_⟩
    have n9_:Aside0 (Below w.heap.size w w96):=⟨h9_⟩
    clear BK427
    clear HB
    clear h0_ h1_ h2_ h3_ h4_ h5_ h6_ h7_ h8_ h9_
    have HO432:=n0_
    have HO440:=n1_
    have HO444:=n2_
    have BK427:=n3_
    have BK446:=n4_
    have GW446:=n5_
    have GE446:=n6_
    have NB427_446:=n7_
    have NB446_427:=n8_
    have HB:=n9_
    clear n0_ n1_ n2_ n3_ n4_ n5_ n6_ n7_ n8_ n9_
    have hHeld:w96.cell? ⟨gb427,0,none⟩ = some (.int .i64 a0_0) ∧ w96.cell? ⟨gb427,1,none⟩ = some (.int .i64 a0_1) ∧ w96.cell? ⟨gb427,2,none⟩ = some (.int .i64 a0_2) ∧ w96.cell? ⟨gb427,3,none⟩ = some (.int .i64 a0_3) ∧ w96.cell? ⟨gb427,4,none⟩ = some (.int .i64 a0_4) ∧ w96.cell? ⟨gb427,5,none⟩ = some (.slice A0_5 l0_5.length c0_5) ∧ w96.cell? ⟨gb427,6,none⟩ = some (.int .i64 a0_6) ∧ w96.cell? ⟨gb427,7,none⟩ = some (.slice A0_7 l0_7.length c0_7):=hS_
    obtain⟨Ao102,co102,eo102⟩:=Kd.R_slice HO440.out
    (first|subst eo102|(injection eo102 with f1_ f2_ f3_;have f4_:=f1_.symm;have f5_:=f3_.symm;clear f1_ f2_ f3_;subst f4_;subst f5_))
    obtain⟨Ao105,co105,eo105⟩:=Kd.R_slice HO444.out
    (first|subst eo105|(injection eo105 with f1_ f2_ f3_;have f4_:=f1_.symm;have f5_:=f3_.symm;clear f1_ f2_ f3_;subst f4_;subst f5_))
    refine norm_ (a':=?_) ?_ ?_
    rotate_left
    ·simp only [putAll,Act.put,sA,sO,sS]
     rfl
    refine one_ (i:=9) (N:=none) spec_SparseOk.m15 rfl rfl (one_of HT_.out (by kernel_rfl)) (by decide) (fun K hK=>?_)
    have hs97:w96.cell? ⟨gb446,0,none⟩ = some (.int .i64 0):=(blk_cell BK446.out 0).trans rfl
    have hfs97:=blk_frozen BK446.out 0
    have hns97_0:=NB427_446.out
    have hms97_0:=NB446_427.out
    have hs98:w96.cell? ⟨gb446,1,none⟩ = some (.int .i64 0):=(blk_cell BK446.out 1).trans rfl
    have hfs98:=blk_frozen BK446.out 1
    have hns98_0:=NB427_446.out
    have hms98_0:=NB446_427.out
    have hs99:w96.cell? ⟨gb446,2,none⟩ = some (.int .i64 0):=(blk_cell BK446.out 2).trans rfl
    have hfs99:=blk_frozen BK446.out 2
    have hns99_0:=NB427_446.out
    have hms99_0:=NB446_427.out
    have hs100:w96.cell? ⟨gb446,3,none⟩ = some (.int .i64 0):=(blk_cell BK446.out 3).trans rfl
    have hfs100:=blk_frozen BK446.out 3
    have hns100_0:=NB427_446.out
    have hms100_0:=NB446_427.out
    have hs101:w96.cell? ⟨gb446,4,none⟩ = some (.int .i64 0):=(blk_cell BK446.out 4).trans rfl
    have hfs101:=blk_frozen BK446.out 4
    have hns101_0:=NB427_446.out
    have hms101_0:=NB446_427.out
    have hs103:w96.cell? ⟨gb446,5,none⟩ = some (.slice none 0 0):=(blk_cell BK446.out 5).trans rfl
    have hfs103:=blk_frozen BK446.out 5
    have hns103_0:=NB427_446.out
    have hms103_0:=NB446_427.out
    have hs104:w96.cell? ⟨gb446,6,none⟩ = some (.int .i64 0):=(blk_cell BK446.out 6).trans rfl
    have hfs104:=blk_frozen BK446.out 6
    have hns104_0:=NB427_446.out
    have hms104_0:=NB446_427.out
    have hs106:w96.cell? ⟨gb446,7,none⟩ = some (.slice none 0 0):=(blk_cell BK446.out 7).trans rfl
    have hfs106:=blk_frozen BK446.out 7
    have hns106_0:=NB427_446.out
    have hms106_0:=NB446_427.out
    refine skip_ (w1:=?_) (by rfl) rfl ?_ ?_
    rotate_left
    ·go_simp
     rfl
    refine hK.out _ _ ⟨((cell_far (p:=⟨gb446,_,none⟩) NB427_446.out _).trans (((cell_far (p:=⟨gb446,_,none⟩) NB427_446.out _).trans (((cell_far (p:=⟨gb446,_,none⟩) NB427_446.out _).trans (((cell_far (p:=⟨gb446,_,none⟩) NB427_446.out _).trans (((cell_far (p:=⟨gb446,_,none⟩) NB427_446.out _).trans (((cell_far (p:=⟨gb446,_,none⟩) NB427_446.out _).trans (((cell_far (p:=⟨gb446,_,none⟩) NB427_446.out _).trans (((cell_far (p:=⟨gb446,_,none⟩) NB427_446.out _).trans (hHeld.1)))))))))))))))),((cell_far (p:=⟨gb446,_,none⟩) NB427_446.out _).trans (((cell_far (p:=⟨gb446,_,none⟩) NB427_446.out _).trans (((cell_far (p:=⟨gb446,_,none⟩) NB427_446.out _).trans (((cell_far (p:=⟨gb446,_,none⟩) NB427_446.out _).trans (((cell_far (p:=⟨gb446,_,none⟩) NB427_446.out _).trans (((cell_far (p:=⟨gb446,_,none⟩) NB427_446.out _).trans (((cell_far (p:=⟨gb446,_,none⟩) NB427_446.out _).trans (((cell_far (p:=⟨gb446,_,none⟩) NB427_446.out _).trans (hHeld.2.1)))))))))))))))),((cell_far (p:=⟨gb446,_,none⟩) NB427_446.out _).trans (((cell_far (p:=⟨gb446,_,none⟩) NB427_446.out _).trans (((cell_far (p:=⟨gb446,_,none⟩) NB427_446.out _).trans (((cell_far (p:=⟨gb446,_,none⟩) NB427_446.out _).trans (((cell_far (p:=⟨gb446,_,none⟩) NB427_446.out _).trans (((cell_far (p:=⟨gb446,_,none⟩) NB427_446.out _).trans (((cell_far (p:=⟨gb446,_,none⟩) NB427_446.out _).trans (((cell_far (p:=⟨gb446,_,none⟩) NB427_446.out _).trans (hHeld.2.2.1)))))))))))))))),((cell_far (p:=⟨gb446,_,none⟩) NB427_446.out _).trans (((cell_far (p:=⟨gb446,_,none⟩) NB427_446.out _).trans (((cell_far (p:=⟨gb446,_,none⟩) NB427_446.out _).trans (((cell_far (p:=⟨gb446,_,none⟩) NB427_446.out _).trans (((cell_far (p:=⟨gb446,_,none⟩) NB427_446.out _).trans (((cell_far (p:=⟨gb446,_,none⟩) NB427_446.out _).trans (((cell_far (p:=⟨gb446,_,none⟩) NB427_446.out _).trans (((cell_far (p:=⟨gb446,_,none⟩) NB427_446.out _).trans (hHeld.2.2.2.1)))))))))))))))),((cell_far (p:=⟨gb446,_,none⟩) NB427_446.out _).trans (((cell_far (p:=⟨gb446,_,none⟩) NB427_446.out _).trans (((cell_far (p:=⟨gb446,_,none⟩) NB427_446.out _).trans (((cell_far (p:=⟨gb446,_,none⟩) NB427_446.out _).trans (((cell_far (p:=⟨gb446,_,none⟩) NB427_446.out _).trans (((cell_far (p:=⟨gb446,_,none⟩) NB427_446.out _).trans (((cell_far (p:=⟨gb446,_,none⟩) NB427_446.out _).trans (((cell_far (p:=⟨gb446,_,none⟩) NB427_446.out _).trans (hHeld.2.2.2.2.1)))))))))))))))),((cell_far (p:=⟨gb446,_,none⟩) NB427_446.out _).trans (((cell_far (p:=⟨gb446,_,none⟩) NB427_446.out _).trans (((cell_far (p:=⟨gb446,_,none⟩) NB427_446.out _).trans (((cell_far (p:=⟨gb446,_,none⟩) NB427_446.out _).trans (((cell_far (p:=⟨gb446,_,none⟩) NB427_446.out _).trans (((cell_far (p:=⟨gb446,_,none⟩) NB427_446.out _).trans (((cell_far (p:=⟨gb446,_,none⟩) NB427_446.out _).trans (((cell_far (p:=⟨gb446,_,none⟩) NB427_446.out _).trans (hHeld.2.2.2.2.2.1)))))))))))))))),((cell_far (p:=⟨gb446,_,none⟩) NB427_446.out _).trans (((cell_far (p:=⟨gb446,_,none⟩) NB427_446.out _).trans (((cell_far (p:=⟨gb446,_,none⟩) NB427_446.out _).trans (((cell_far (p:=⟨gb446,_,none⟩) NB427_446.out _).trans (((cell_far (p:=⟨gb446,_,none⟩) NB427_446.out _).trans (((cell_far (p:=⟨gb446,_,none⟩) NB427_446.out _).trans (((cell_far (p:=⟨gb446,_,none⟩) NB427_446.out _).trans (((cell_far (p:=⟨gb446,_,none⟩) NB427_446.out _).trans (hHeld.2.2.2.2.2.2.1)))))))))))))))),((cell_far (p:=⟨gb446,_,none⟩) NB427_446.out _).trans (((cell_far (p:=⟨gb446,_,none⟩) NB427_446.out _).trans (((cell_far (p:=⟨gb446,_,none⟩) NB427_446.out _).trans (((cell_far (p:=⟨gb446,_,none⟩) NB427_446.out _).trans (((cell_far (p:=⟨gb446,_,none⟩) NB427_446.out _).trans (((cell_far (p:=⟨gb446,_,none⟩) NB427_446.out _).trans (((cell_far (p:=⟨gb446,_,none⟩) NB427_446.out _).trans (((cell_far (p:=⟨gb446,_,none⟩) NB427_446.out _).trans (hHeld.2.2.2.2.2.2.2))))))))))))))))⟩ (fun hHeld=>?_)
    clear hK K
    refine pure_ (i:=10) (N:=some 4) (v:=?_) (a':=?_) spec_SparseOk.m16 rfl rfl (any_of HT_.out (by kernel_rfl)) (fun _ _ _ h=>h) (Or.inl ⟨by rfl,?_⟩) ?_ ?_
    rotate_left
    ·intro w'
     go_simp
     with_reducible rfl
    rotate_left
    ·simp only [Act.put,sA,sO,sS,i64_w,i32_w]
     rfl
    refine done_ (done_of HT_.out (by kernel_rfl)) ?_
    have hnb107:=NB446_427.out
    have hnc107:=NB427_446.out
    obtain⟨hcz108_0,hcz108_1,hcz108_2,hcz108_3,hcz108_4,hcz108_5,hcz108_6,hcz108_7,hfz108_0,hfz108_1,hfz108_2,hfz108_3,hfz108_4,hfz108_5,hfz108_6,hfz108_7⟩:=cz8 BK446.out
    obtain⟨hcz109_0,hcz109_1,hcz109_2,hcz109_3,hcz109_4,hcz109_5,hcz109_6,hcz109_7,hfz109_0,hfz109_1,hfz109_2,hfz109_3,hfz109_4,hfz109_5,hfz109_6,hfz109_7⟩:=cz8 BK427.out
    try go_wp2
    go_ret
    exact⟨by first|rfl|(simp [errW_none,errW_some] <;> rfl)|(simp [*,errW_none,errW_some] <;> rfl),kB HB.out⟩
   rw [if_pos c24] at H
   have c24b0:(t435 == a0_2) = true:=beq_iff_eq.mpr c24
   have c24b1:(t435 != a0_2) = false:=bne_eq_false_iff_eq.mpr c24
   clear c24
   by_cases c25:t436 = a0_3
   rotate_left
   ·rw [if_neg c25] at H
    have c25b0:(t436 == a0_3) = false:=beq_eq_false_iff_ne.mpr c25
    have c25b1:(t436 != a0_3) = true:=bne_iff_ne.mpr c25
    obtain rfl:=Option.some.inj H
    try go_wp2
    replace BK427:=mk0 (dB BK427.out)
    replace HB:=mk0 (dZ HB.out)
    refine start_ (n:=11) (S:=fun w'=>w'.cell? ⟨gb427,0,none⟩ = some (.int .i64 a0_0) ∧ w'.cell? ⟨gb427,1,none⟩ = some (.int .i64 a0_1) ∧ w'.cell? ⟨gb427,2,none⟩ = some (.int .i64 a0_2) ∧ w'.cell? ⟨gb427,3,none⟩ = some (.int .i64 a0_3) ∧ w'.cell? ⟨gb427,4,none⟩ = some (.int .i64 a0_4) ∧ w'.cell? ⟨gb427,5,none⟩ = some (.slice A0_5 l0_5.length c0_5) ∧ w'.cell? ⟨gb427,6,none⟩ = some (.int .i64 a0_6) ∧ w'.cell? ⟨gb427,7,none⟩ = some (.slice A0_7 l0_7.length c0_7)) (ds:=[]) spec_SparseOk.m0 (by kernel_rfl) rfl rfl (ck8 BK427.out) (fun hHeld=>?_);refine with_tabW spec_SparseOk.tab3 spec_SparseOk.bits3 (fun HT_ HW_=>?_)
    generalize wc.drew = w72 at BK427 HB hHeld ⊢
    refine pure_ (i:=2) (N:=some 24) (v:=?_) (a':=?_) spec_SparseOk.m1 rfl rfl (any_of HT_.out (by kernel_rfl)) (fun _ _ _ h=>h) (Or.inl ⟨by rfl,?_⟩) ?_ ?_
    rotate_left
    ·intro w'
     go_simp
     with_reducible rfl
    rotate_left
    ·simp only [Act.put,sA,sO,sS,i64_w,i32_w]
     rfl
    refine take_ (i:=0) (N:=some 22) (v:=?_) (a':=?_) spec_SparseOk.m2 rfl rfl (take_ofW HT_.out HW_.out (by kernel_rfl)) (fun _ _ _ h=>h) (Or.inl ⟨by rfl,?_⟩) hHeld ?_ ?_
    rotate_left
    ·rintro w' ⟨s0,s1,s2,s3,s4,s5,s6,s7⟩
     go_simp
     with_reducible rfl
    rotate_left
    ·simp only [Act.put,sA,sO,sS,i64_w,i32_w]
     rfl
    refine take_ (i:=3) (N:=some 25) (v:=?_) (a':=?_) spec_SparseOk.m3 rfl rfl (take_ofW HT_.out HW_.out (by kernel_rfl)) (fun _ _ _ h=>h) (Or.inl ⟨by rfl,?_⟩) hHeld ?_ ?_
    rotate_left
    ·rintro w' ⟨s0,s1,s2,s3,s4,s5,s6,s7⟩
     go_simp
     with_reducible rfl
    rotate_left
    ·simp only [Act.put,sA,sO,sS,i64_w,i32_w]
     rfl
    refine join_ (σ:=Value × Value × Value × Nat) 2 spec_SparseOk.m4 (fun s_=>[(23,s_.1),(26,.tuple #[.agg #[.int .i64 t433,.int .i64 t434,.int .i64 t435,.int .i64 t436,.int .i64 t437,s_.2.1,.int .i64 t441,s_.2.2.1],.bool true]),(3,.pointer (some ⟨s_.2.2.2,0,none⟩)),(21,.tuple #[.agg #[.int .i64 t433,.int .i64 t434,.int .i64 t435,.int .i64 t436,.int .i64 t437,s_.2.1,.int .i64 t441,s_.2.2.1],.bool true]),(27,.agg #[.int .i64 t433,.int .i64 t434,.int .i64 t435,.int .i64 t436,.int .i64 t437,s_.2.1,.int .i64 t441,s_.2.2.1]),(28,.bool true)]) (fun s_ w'=>(w'.cell? ⟨gb427,0,none⟩ = some (.int .i64 a0_0) ∧ w'.cell? ⟨gb427,1,none⟩ = some (.int .i64 a0_1) ∧ w'.cell? ⟨gb427,2,none⟩ = some (.int .i64 a0_2) ∧ w'.cell? ⟨gb427,3,none⟩ = some (.int .i64 a0_3) ∧ w'.cell? ⟨gb427,4,none⟩ = some (.int .i64 a0_4) ∧ w'.cell? ⟨gb427,5,none⟩ = some (.slice A0_5 l0_5.length c0_5) ∧ w'.cell? ⟨gb427,6,none⟩ = some (.int .i64 a0_6) ∧ w'.cell? ⟨gb427,7,none⟩ = some (.slice A0_7 l0_7.length c0_7)) ∧ (Kd.R (Kd.int .i64) 3 w' w.heap.size (fun _=>True) s_.1 t430) ∧ (Kd.R (Kd.int .u64) 78 w' w.heap.size (fun k_=>some k_ ≠ (s_.2.2.1:Value).ownBlock) s_.2.1 t438) ∧ (Kd.R (Kd.int .u64) 78 w' w.heap.size (fun k_=>some k_ ≠ (s_.2.1:Value).ownBlock) s_.2.2.1 t442) ∧ (w'.heap[gb427]? = some (.cells #[.int .i64 a0_0,.int .i64 a0_1,.int .i64 a0_2,.int .i64 a0_3,.int .i64 a0_4,.slice A0_5 l0_5.length c0_5,.int .i64 a0_6,.slice A0_7 l0_7.length c0_7] 33 (0,0))) ∧ (w'.heap[s_.2.2.2]? = some (.cells #[.int .i64 0,.int .i64 0,.int .i64 0,.int .i64 0,.int .i64 0,.slice none 0 0,.int .i64 0,.slice none 0 0] 33 (0,0))) ∧ (w.heap.size ≤ s_.2.2.2) ∧ (w.heap.size ≤ s_.2.2.2) ∧ (gb427 ≠ s_.2.2.2) ∧ (s_.2.2.2 ≠ gb427) ∧ (Below w.heap.size w w')) ?_ ?_
    rotate_left
    ·intro hCont
     refine two_ (i:=1) (j:=8) (Ni:=some 23) (Nj:=some 3) spec_SparseOk.m5 spec_SparseOk.m6 rfl rfl rfl rfl (two_of HT_.out (by kernel_rfl)) (by decide) (by decide) (fun K hK=>?_) (fun K hK=>?_)
     ·skip
      refine goes_ Try.func49 (by kernel_rfl) rfl #[.agg #[.int .i64 a0_0,.int .i64 a0_1,.int .i64 a0_2,.int .i64 a0_3,.int .i64 a0_4,.slice A0_5 l0_5.length c0_5,.int .i64 a0_6,.slice A0_7 l0_7.length c0_7]] (by rfl) rfl rfl (by (try simp only [mA,mC,mN]);first|done|rfl|(simp only [List.length_drop,List.length_take];rfl)) ?_
      with_reducible refine (spec_l03List.calls kj1 a0_0 a0_1 a0_2 a0_3 a0_4 _ _ l0_5 a0_6 _ _ l0_7 t430 _ ?side1 ?side2 ?side3 ?side4 A20.out).mono ?_
      (case side1=>exact kC (Kd.C_below HR0_5.out HB.out))
      (case side2=>exact HC0_5.out)
      (case side3=>exact kC (Kd.C_below HR0_7.out HB.out))
      (case side4=>exact HC0_7.out)
      rintro e w73 ⟨v431,rfl,ho0,hb⟩
      refine⟨_,rfl,?_⟩
      have HO432:=mk0 (Kd.R_lower ho0 (kZ HB.out))
      replace BK427:=mk0 (kK BK427.out hb)
      replace HB:=mk0 (kS HB.out hb)
      (try clear hb)
      (try clear ho0)
      obtain⟨Ao74,co74,eo74⟩:=Kd.R_slice HO432.out
      (first|subst eo74|(injection eo74 with f1_ f2_ f3_;have f4_:=f1_.symm;have f5_:=f3_.symm;clear f1_ f2_ f3_;subst f4_;subst f5_))
      refine hK.out _ _ (ck8 BK427.out) (fun hHeld=>?_)
      clear hK K
      refine norm_ (a':=?_) ?_ ?_
      rotate_left
      ·show Act.put _ (some 23) _ = _
       simp only [Act.put,sA,sO,sS,i64_w,i32_w]
       rfl
      refine two_ (i:=4) (j:=8) (Ni:=some 26) (Nj:=some 3) spec_SparseOk.m7 spec_SparseOk.m8 rfl rfl rfl rfl (two_of HT_.out (by kernel_rfl)) (by decide) (by decide) (fun K hK=>?_) (fun K hK=>?_)
      ·skip
       refine goes_ Try.func9 (by kernel_rfl) rfl #[.slice Ao74 t430.length co74,.int .i64 a0_0] (by rfl) rfl rfl (by (try simp only [mA,mC,mN]);first|done|rfl|(simp only [List.length_drop,List.length_take];rfl)) ?_
       with_reducible refine (spec_SparseOf.calls kj1 _ _ t430 a0_0 t433 t434 t435 t436 t437 t438 t441 t442 true _ ?side1 ?side2 A21.out).mono ?_
       (case side1=>exact kC (Kd.R_reads' HO432.out).2.2)
       (case side2=>exact (Kd.R_reads' HO432.out).2.1)
       rintro e w75 ⟨v439,v443,rfl,ho0,ho1,hb⟩
       refine⟨_,rfl,?_⟩
       replace HO432:=mk0 (bR HO432.out hb)
       have HO440:=mk0 (Kd.R_lower ho0 (kZ HB.out))
       have HO444:=mk0 (Kd.R_lower ho1 (kZ HB.out))
       replace BK427:=mk0 (kK BK427.out hb)
       replace HB:=mk0 (kS HB.out hb)
       (try clear hb)
       (try clear ho0)
       (try clear ho1)
       refine hK.out _ _ (ck8 BK427.out) (fun hHeld=>?_)
       clear hK K
       refine norm_ (a':=?_) ?_ ?_
       rotate_left
       ·show Act.put _ (some 26) _ = _
        simp only [Act.put,sA,sO,sS,i64_w,i32_w]
        rfl
       refine pure_ (i:=5) (N:=some 21) (v:=?_) (a':=?_) spec_SparseOk.m9 rfl rfl (any_of HT_.out (by kernel_rfl)) (fun _ _ _ h=>h) (Or.inl ⟨by rfl,?_⟩) ?_ ?_
       rotate_left
       ·intro w'
        go_simp
        with_reducible rfl
       rotate_left
       ·simp only [Act.put,sA,sO,sS,i64_w,i32_w]
        rfl
       refine pure_ (i:=6) (N:=some 27) (v:=?_) (a':=?_) spec_SparseOk.m10 rfl rfl (any_of HT_.out (by kernel_rfl)) (fun _ _ _ h=>h) (Or.inl ⟨by rfl,?_⟩) ?_ ?_
       rotate_left
       ·intro w'
        go_simp
        with_reducible rfl
       rotate_left
       ·simp only [Act.put,sA,sO,sS,i64_w,i32_w]
        rfl
       refine pure_ (i:=7) (N:=some 28) (v:=?_) (a':=?_) spec_SparseOk.m11 rfl rfl (any_of HT_.out (by kernel_rfl)) (fun _ _ _ h=>h) (Or.inl ⟨by rfl,?_⟩) ?_ ?_
       rotate_left
       ·intro w'
        go_simp
        with_reducible rfl
       rotate_left
       ·simp only [Act.put,sA,sO,sS,i64_w,i32_w]
        rfl
       refine one_ (i:=8) (N:=some 3) spec_SparseOk.m4 rfl rfl (one_of HT_.out (by kernel_rfl)) (by decide) (fun K hK=>?_)
       refine box_step ?hg (N:=3) ?hd (cs:=#[.int .i64 0,.int .i64 0,.int .i64 0,.int .i64 0,.int .i64 0,.slice none 0 0,.int .i64 0,.slice none 0 0]) (t:=33) ?hr ?_;(case hd=>rfl);(case hg=>rfl);(case hr=>first|(go_simp;done)|(go_simp;rfl))
       intro gb446 hg w76 hbox hb
       replace HO432:=mk0 (bR HO432.out hb)
       replace HO440:=mk0 (bR HO440.out hb)
       replace HO444:=mk0 (bR HO444.out hb)
       have BK446:=mk0 (hbox)
       have GW446:=mk0 ((by rw [hg];exact (kZ HB.out):w.heap.size ≤ gb446))
       have GE446:=mk0 ((by rw [hg];exact (kZ HB.out):w.heap.size ≤ gb446))
       replace HB:=mk0 (kS HB.out hb)
       have NB427_446:=mk0 ((by rw [hg];exact Nat.ne_of_lt (kL BK427.out):gb427 ≠ gb446))
       have NB446_427:=mk0 ((by rw [hg];exact Nat.ne_of_gt (kL BK427.out):gb446 ≠ gb427))
       replace BK427:=mk0 (kK BK427.out hb)
       clear hb hbox hg
       refine hK.out _ _ (ck8 BK427.out) (fun hHeld=>?_)
       clear hK K
       refine norm_ (a':=?_) ?_ ?_
       rotate_left
       ·show Act.put _ (some 3) _ = _
        simp only [Act.put,sA,sO,sS,i64_w,i32_w]
        rfl
       exact norm_ (by simp only [putAll,Act.put,sA,sO,sS]) (hCont (.slice Ao74 t430.length co74,v439,v443,gb446) _ ⟨hHeld,(rR HO432.out),(rR HO440.out),(rR HO444.out),(kN BK427.out),(kN BK446.out),GW446.out,GE446.out,NB427_446.out,NB446_427.out,(kB HB.out)⟩)
      ·skip
       refine box_step ?hg (N:=3) ?hd (cs:=#[.int .i64 0,.int .i64 0,.int .i64 0,.int .i64 0,.int .i64 0,.slice none 0 0,.int .i64 0,.slice none 0 0]) (t:=33) ?hr ?_;(case hd=>rfl);(case hg=>rfl);(case hr=>first|(go_simp;done)|(go_simp;rfl))
       intro gb446 hg w74 hbox hb
       replace HO432:=mk0 (bR HO432.out hb)
       have BK446:=mk0 (hbox)
       have GW446:=mk0 ((by rw [hg];exact (kZ HB.out):w.heap.size ≤ gb446))
       have GE446:=mk0 ((by rw [hg];exact (kZ HB.out):w.heap.size ≤ gb446))
       replace HB:=mk0 (kS HB.out hb)
       have NB427_446:=mk0 ((by rw [hg];exact Nat.ne_of_lt (kL BK427.out):gb427 ≠ gb446))
       have NB446_427:=mk0 ((by rw [hg];exact Nat.ne_of_gt (kL BK427.out):gb446 ≠ gb427))
       replace BK427:=mk0 (kK BK427.out hb)
       clear hb hbox hg
       obtain⟨Ao75,co75,eo75⟩:=Kd.R_slice HO432.out
       (first|subst eo75|(injection eo75 with f1_ f2_ f3_;have f4_:=f1_.symm;have f5_:=f3_.symm;clear f1_ f2_ f3_;subst f4_;subst f5_))
       refine hK.out _ _ (ck8 BK427.out) (fun hHeld=>?_)
       clear hK K
       refine norm_ (a':=?_) ?_ ?_
       rotate_left
       ·show Act.put _ (some 3) _ = _
        simp only [Act.put,sA,sO,sS,i64_w,i32_w]
        rfl
       refine one_ (i:=4) (N:=some 26) spec_SparseOk.m12 rfl rfl (one_of HT_.out (by kernel_rfl)) (by decide) (fun K hK=>?_)
       refine goes_ Try.func9 (by kernel_rfl) rfl #[.slice Ao75 t430.length co75,.int .i64 a0_0] (by rfl) rfl rfl (by (try simp only [mA,mC,mN]);first|done|rfl|(simp only [List.length_drop,List.length_take];rfl)) ?_
       with_reducible refine (spec_SparseOf.calls kj1 _ _ t430 a0_0 t433 t434 t435 t436 t437 t438 t441 t442 true _ ?side1 ?side2 A21.out).mono ?_
       (case side1=>exact kC (Kd.R_reads' HO432.out).2.2)
       (case side2=>exact (Kd.R_reads' HO432.out).2.1)
       rintro e w76 ⟨v439,v443,rfl,ho0,ho1,hb⟩
       refine⟨_,rfl,?_⟩
       replace HO432:=mk0 (bR HO432.out hb)
       have HO440:=mk0 (Kd.R_lower ho0 (kZ HB.out))
       have HO444:=mk0 (Kd.R_lower ho1 (kZ HB.out))
       replace BK427:=mk0 (kK BK427.out hb)
       replace BK446:=mk0 (kK BK446.out hb)
       replace HB:=mk0 (kS HB.out hb)
       (try clear hb)
       (try clear ho0)
       (try clear ho1)
       refine hK.out _ _ (ck8 BK427.out) (fun hHeld=>?_)
       clear hK K
       refine norm_ (a':=?_) ?_ ?_
       rotate_left
       ·show Act.put _ (some 26) _ = _
        simp only [Act.put,sA,sO,sS,i64_w,i32_w]
        rfl
       refine pure_ (i:=5) (N:=some 21) (v:=?_) (a':=?_) spec_SparseOk.m13 rfl rfl (any_of HT_.out (by kernel_rfl)) (fun _ _ _ h=>h) (Or.inl ⟨by rfl,?_⟩) ?_ ?_
       rotate_left
       ·intro w'
        go_simp
        with_reducible rfl
       rotate_left
       ·simp only [Act.put,sA,sO,sS,i64_w,i32_w]
        rfl
       refine pure_ (i:=6) (N:=some 27) (v:=?_) (a':=?_) spec_SparseOk.m14 rfl rfl (any_of HT_.out (by kernel_rfl)) (fun _ _ _ h=>h) (Or.inl ⟨by rfl,?_⟩) ?_ ?_
       rotate_left
       ·intro w'
        go_simp
        with_reducible rfl
       rotate_left
       ·simp only [Act.put,sA,sO,sS,i64_w,i32_w]
        rfl
       refine pure_ (i:=7) (N:=some 28) (v:=?_) (a':=?_) spec_SparseOk.m4 rfl rfl (any_of HT_.out (by kernel_rfl)) (fun _ _ _ h=>h) (Or.inl ⟨by rfl,?_⟩) ?_ ?_
       rotate_left
       ·intro w'
        go_simp
        with_reducible rfl
       rotate_left
       ·simp only [Act.put,sA,sO,sS,i64_w,i32_w]
        rfl
       exact norm_ (by simp only [putAll,Act.put,sA,sO,sS]) (hCont (.slice Ao75 t430.length co75,v439,v443,gb446) _ ⟨hHeld,(rR HO432.out),(rR HO440.out),(rR HO444.out),(kN BK427.out),(kN BK446.out),GW446.out,GE446.out,NB427_446.out,NB446_427.out,(kB HB.out)⟩)
     ·skip
      refine box_step ?hg (N:=3) ?hd (cs:=#[.int .i64 0,.int .i64 0,.int .i64 0,.int .i64 0,.int .i64 0,.slice none 0 0,.int .i64 0,.slice none 0 0]) (t:=33) ?hr ?_;(case hd=>rfl);(case hg=>rfl);(case hr=>first|(go_simp;done)|(go_simp;rfl))
      intro gb446 hg w73 hbox hb
      have BK446:=mk0 (hbox)
      have GW446:=mk0 ((by rw [hg];exact (kZ HB.out):w.heap.size ≤ gb446))
      have GE446:=mk0 ((by rw [hg];exact (kZ HB.out):w.heap.size ≤ gb446))
      replace HB:=mk0 (kS HB.out hb)
      have NB427_446:=mk0 ((by rw [hg];exact Nat.ne_of_lt (kL BK427.out):gb427 ≠ gb446))
      have NB446_427:=mk0 ((by rw [hg];exact Nat.ne_of_gt (kL BK427.out):gb446 ≠ gb427))
      replace BK427:=mk0 (kK BK427.out hb)
      clear hb hbox hg
      refine hK.out _ _ (ck8 BK427.out) (fun hHeld=>?_)
      clear hK K
      refine norm_ (a':=?_) ?_ ?_
      rotate_left
      ·show Act.put _ (some 3) _ = _
       simp only [Act.put,sA,sO,sS,i64_w,i32_w]
       rfl
      refine one_ (i:=1) (N:=some 23) spec_SparseOk.m8 rfl rfl (one_of HT_.out (by kernel_rfl)) (by decide) (fun K hK=>?_)
      refine goes_ Try.func49 (by kernel_rfl) rfl #[.agg #[.int .i64 a0_0,.int .i64 a0_1,.int .i64 a0_2,.int .i64 a0_3,.int .i64 a0_4,.slice A0_5 l0_5.length c0_5,.int .i64 a0_6,.slice A0_7 l0_7.length c0_7]] (by rfl) rfl rfl (by (try simp only [mA,mC,mN]);first|done|rfl|(simp only [List.length_drop,List.length_take];rfl)) ?_
      with_reducible refine (spec_l03List.calls kj1 a0_0 a0_1 a0_2 a0_3 a0_4 _ _ l0_5 a0_6 _ _ l0_7 t430 _ ?side1 ?side2 ?side3 ?side4 A20.out).mono ?_
      (case side1=>exact kC (Kd.C_below HR0_5.out HB.out))
      (case side2=>exact HC0_5.out)
      (case side3=>exact kC (Kd.C_below HR0_7.out HB.out))
      (case side4=>exact HC0_7.out)
      rintro e w74 ⟨v431,rfl,ho0,hb⟩
      refine⟨_,rfl,?_⟩
      have HO432:=mk0 (Kd.R_lower ho0 (kZ HB.out))
      replace BK427:=mk0 (kK BK427.out hb)
      replace BK446:=mk0 (kK BK446.out hb)
      replace HB:=mk0 (kS HB.out hb)
      (try clear hb)
      (try clear ho0)
      obtain⟨Ao75,co75,eo75⟩:=Kd.R_slice HO432.out
      (first|subst eo75|(injection eo75 with f1_ f2_ f3_;have f4_:=f1_.symm;have f5_:=f3_.symm;clear f1_ f2_ f3_;subst f4_;subst f5_))
      refine hK.out _ _ (ck8 BK427.out) (fun hHeld=>?_)
      clear hK K
      refine norm_ (a':=?_) ?_ ?_
      rotate_left
      ·show Act.put _ (some 23) _ = _
       simp only [Act.put,sA,sO,sS,i64_w,i32_w]
       rfl
      refine one_ (i:=4) (N:=some 26) spec_SparseOk.m12 rfl rfl (one_of HT_.out (by kernel_rfl)) (by decide) (fun K hK=>?_)
      refine goes_ Try.func9 (by kernel_rfl) rfl #[.slice Ao75 t430.length co75,.int .i64 a0_0] (by rfl) rfl rfl (by (try simp only [mA,mC,mN]);first|done|rfl|(simp only [List.length_drop,List.length_take];rfl)) ?_
      with_reducible refine (spec_SparseOf.calls kj1 _ _ t430 a0_0 t433 t434 t435 t436 t437 t438 t441 t442 true _ ?side1 ?side2 A21.out).mono ?_
      (case side1=>exact kC (Kd.R_reads' HO432.out).2.2)
      (case side2=>exact (Kd.R_reads' HO432.out).2.1)
      rintro e w76 ⟨v439,v443,rfl,ho0,ho1,hb⟩
      refine⟨_,rfl,?_⟩
      replace HO432:=mk0 (bR HO432.out hb)
      have HO440:=mk0 (Kd.R_lower ho0 (kZ HB.out))
      have HO444:=mk0 (Kd.R_lower ho1 (kZ HB.out))
      replace BK427:=mk0 (kK BK427.out hb)
      replace BK446:=mk0 (kK BK446.out hb)
      replace HB:=mk0 (kS HB.out hb)
      (try clear hb)
      (try clear ho0)
      (try clear ho1)
      refine hK.out _ _ (ck8 BK427.out) (fun hHeld=>?_)
      clear hK K
      refine norm_ (a':=?_) ?_ ?_
      rotate_left
      ·show Act.put _ (some 26) _ = _
       simp only [Act.put,sA,sO,sS,i64_w,i32_w]
       rfl
      refine pure_ (i:=5) (N:=some 21) (v:=?_) (a':=?_) spec_SparseOk.m13 rfl rfl (any_of HT_.out (by kernel_rfl)) (fun _ _ _ h=>h) (Or.inl ⟨by rfl,?_⟩) ?_ ?_
      rotate_left
      ·intro w'
       go_simp
       with_reducible rfl
      rotate_left
      ·simp only [Act.put,sA,sO,sS,i64_w,i32_w]
       rfl
      refine pure_ (i:=6) (N:=some 27) (v:=?_) (a':=?_) spec_SparseOk.m14 rfl rfl (any_of HT_.out (by kernel_rfl)) (fun _ _ _ h=>h) (Or.inl ⟨by rfl,?_⟩) ?_ ?_
      rotate_left
      ·intro w'
       go_simp
       with_reducible rfl
      rotate_left
      ·simp only [Act.put,sA,sO,sS,i64_w,i32_w]
       rfl
      refine pure_ (i:=7) (N:=some 28) (v:=?_) (a':=?_) spec_SparseOk.m4 rfl rfl (any_of HT_.out (by kernel_rfl)) (fun _ _ _ h=>h) (Or.inl ⟨by rfl,?_⟩) ?_ ?_
      rotate_left
      ·intro w'
       go_simp
       with_reducible rfl
      rotate_left
      ·simp only [Act.put,sA,sO,sS,i64_w,i32_w]
       rfl
      exact norm_ (by simp only [putAll,Act.put,sA,sO,sS]) (hCont (.slice Ao75 t430.length co75,v439,v443,gb446) _ ⟨hHeld,(rR HO432.out),(rR HO440.out),(rR HO444.out),(kN BK427.out),(kN BK446.out),GW446.out,GE446.out,NB427_446.out,NB446_427.out,(kB HB.out)⟩)
    rintro⟨v431,v439,v443,gb446⟩ w77 ⟨hS_,h0_,h1_,h2_,h3_,h4_,h5_,h6_,h7_,h8_,h9_⟩
    have n0_:Aside0 (Kd.R (Kd.int .i64) 3 w77 w.heap.size (fun _=>True) v431 t430):=⟨h0_⟩
    have n1_:Aside0 (Kd.R (Kd.int .u64) 78 w77 w.heap.size (fun k_=>some k_ ≠ (v443:Value).ownBlock) v439 t438):=⟨h1_⟩
    have n2_:Aside0 (Kd.R (Kd.int .u64) 78 w77 w.heap.size (fun k_=>some k_ ≠ (v439:Value).ownBlock) v443 t442):=⟨h2_⟩
    have n3_:Aside0 (w77.heap[gb427]? = some (.cells #[.int .i64 a0_0,.int .i64 a0_1,.int .i64 a0_2,.int .i64 a0_3,.int .i64 a0_4,.slice A0_5 l0_5.length c0_5,.int .i64 a0_6,.slice A0_7 l0_7.length c0_7] 33 (0,0))):=⟨h3_⟩
    have n4_:Aside0 (w77.heap[gb446]? = some (.cells #[.int .i64 0,.int .i64 0,.int .i64 0,.int .i64 0,.int .i64 0,.slice none 0 0,.int .i64 0,.slice none 0 0] 33 (0,0))):=⟨h4_⟩
    have n5_:Aside0 (w.heap.size ≤ gb446):=⟨h5_⟩
    have n6_:Aside0 (w.heap.size ≤ gb446):=⟨h6_⟩
    have n7_:Aside0 (gb427 ≠ gb446):=⟨h7_⟩
    have n8_:Aside0 (gb446 ≠ gb427):=⟨h8_⟩
    have n9_:Aside0 (Below w.heap.size w w77):=⟨h9_⟩
    clear BK427
    clear HB
    clear h0_ h1_ h2_ h3_ h4_ h5_ h6_ h7_ h8_ h9_
    have HO432:=n0_
    have HO440:=n1_
    have HO444:=n2_
    have BK427:=n3_
    have BK446:=n4_
    have GW446:=n5_
    have GE446:=n6_
    have NB427_446:=n7_
    have NB446_427:=n8_
    have HB:=n9_
    clear n0_ n1_ n2_ n3_ n4_ n5_ n6_ n7_ n8_ n9_
    have hHeld:w77.cell? ⟨gb427,0,none⟩ = some (.int .i64 a0_0) ∧ w77.cell? ⟨gb427,1,none⟩ = some (.int .i64 a0_1) ∧ w77.cell? ⟨gb427,2,none⟩ = some (.int .i64 a0_2) ∧ w77.cell? ⟨gb427,3,none⟩ = some (.int .i64 a0_3) ∧ w77.cell? ⟨gb427,4,none⟩ = some (.int .i64 a0_4) ∧ w77.cell? ⟨gb427,5,none⟩ = some (.slice A0_5 l0_5.length c0_5) ∧ w77.cell? ⟨gb427,6,none⟩ = some (.int .i64 a0_6) ∧ w77.cell? ⟨gb427,7,none⟩ = some (.slice A0_7 l0_7.length c0_7):=hS_
    obtain⟨Ao83,co83,eo83⟩:=Kd.R_slice HO440.out
    (first|subst eo83|(injection eo83 with f1_ f2_ f3_;have f4_:=f1_.symm;have f5_:=f3_.symm;clear f1_ f2_ f3_;subst f4_;subst f5_))
    obtain⟨Ao86,co86,eo86⟩:=Kd.R_slice HO444.out
    (first|subst eo86|(injection eo86 with f1_ f2_ f3_;have f4_:=f1_.symm;have f5_:=f3_.symm;clear f1_ f2_ f3_;subst f4_;subst f5_))
    refine norm_ (a':=?_) ?_ ?_
    rotate_left
    ·simp only [putAll,Act.put,sA,sO,sS]
     rfl
    refine one_ (i:=9) (N:=none) spec_SparseOk.m15 rfl rfl (one_of HT_.out (by kernel_rfl)) (by decide) (fun K hK=>?_)
    have hs78:w77.cell? ⟨gb446,0,none⟩ = some (.int .i64 0):=(blk_cell BK446.out 0).trans rfl
    have hfs78:=blk_frozen BK446.out 0
    have hns78_0:=NB427_446.out
    have hms78_0:=NB446_427.out
    have hs79:w77.cell? ⟨gb446,1,none⟩ = some (.int .i64 0):=(blk_cell BK446.out 1).trans rfl
    have hfs79:=blk_frozen BK446.out 1
    have hns79_0:=NB427_446.out
    have hms79_0:=NB446_427.out
    have hs80:w77.cell? ⟨gb446,2,none⟩ = some (.int .i64 0):=(blk_cell BK446.out 2).trans rfl
    have hfs80:=blk_frozen BK446.out 2
    have hns80_0:=NB427_446.out
    have hms80_0:=NB446_427.out
    have hs81:w77.cell? ⟨gb446,3,none⟩ = some (.int .i64 0):=(blk_cell BK446.out 3).trans rfl
    have hfs81:=blk_frozen BK446.out 3
    have hns81_0:=NB427_446.out
    have hms81_0:=NB446_427.out
    have hs82:w77.cell? ⟨gb446,4,none⟩ = some (.int .i64 0):=(blk_cell BK446.out 4).trans rfl
    have hfs82:=blk_frozen BK446.out 4
    have hns82_0:=NB427_446.out
    have hms82_0:=NB446_427.out
    have hs84:w77.cell? ⟨gb446,5,none⟩ = some (.slice none 0 0):=(blk_cell BK446.out 5).trans rfl
    have hfs84:=blk_frozen BK446.out 5
    have hns84_0:=NB427_446.out
    have hms84_0:=NB446_427.out
    have hs85:w77.cell? ⟨gb446,6,none⟩ = some (.int .i64 0):=(blk_cell BK446.out 6).trans rfl
    have hfs85:=blk_frozen BK446.out 6
    have hns85_0:=NB427_446.out
    have hms85_0:=NB446_427.out
    have hs87:w77.cell? ⟨gb446,7,none⟩ = some (.slice none 0 0):=(blk_cell BK446.out 7).trans rfl
    have hfs87:=blk_frozen BK446.out 7
    have hns87_0:=NB427_446.out
    have hms87_0:=NB446_427.out
    refine skip_ (w1:=?_) (by rfl) rfl ?_ ?_
    rotate_left
    ·go_simp
     rfl
    refine hK.out _ _ ⟨((cell_far (p:=⟨gb446,_,none⟩) NB427_446.out _).trans (((cell_far (p:=⟨gb446,_,none⟩) NB427_446.out _).trans (((cell_far (p:=⟨gb446,_,none⟩) NB427_446.out _).trans (((cell_far (p:=⟨gb446,_,none⟩) NB427_446.out _).trans (((cell_far (p:=⟨gb446,_,none⟩) NB427_446.out _).trans (((cell_far (p:=⟨gb446,_,none⟩) NB427_446.out _).trans (((cell_far (p:=⟨gb446,_,none⟩) NB427_446.out _).trans (((cell_far (p:=⟨gb446,_,none⟩) NB427_446.out _).trans (hHeld.1)))))))))))))))),((cell_far (p:=⟨gb446,_,none⟩) NB427_446.out _).trans (((cell_far (p:=⟨gb446,_,none⟩) NB427_446.out _).trans (((cell_far (p:=⟨gb446,_,none⟩) NB427_446.out _).trans (((cell_far (p:=⟨gb446,_,none⟩) NB427_446.out _).trans (((cell_far (p:=⟨gb446,_,none⟩) NB427_446.out _).trans (((cell_far (p:=⟨gb446,_,none⟩) NB427_446.out _).trans (((cell_far (p:=⟨gb446,_,none⟩) NB427_446.out _).trans (((cell_far (p:=⟨gb446,_,none⟩) NB427_446.out _).trans (hHeld.2.1)))))))))))))))),((cell_far (p:=⟨gb446,_,none⟩) NB427_446.out _).trans (((cell_far (p:=⟨gb446,_,none⟩) NB427_446.out _).trans (((cell_far (p:=⟨gb446,_,none⟩) NB427_446.out _).trans (((cell_far (p:=⟨gb446,_,none⟩) NB427_446.out _).trans (((cell_far (p:=⟨gb446,_,none⟩) NB427_446.out _).trans (((cell_far (p:=⟨gb446,_,none⟩) NB427_446.out _).trans (((cell_far (p:=⟨gb446,_,none⟩) NB427_446.out _).trans (((cell_far (p:=⟨gb446,_,none⟩) NB427_446.out _).trans (hHeld.2.2.1)))))))))))))))),((cell_far (p:=⟨gb446,_,none⟩) NB427_446.out _).trans (((cell_far (p:=⟨gb446,_,none⟩) NB427_446.out _).trans (((cell_far (p:=⟨gb446,_,none⟩) NB427_446.out _).trans (((cell_far (p:=⟨gb446,_,none⟩) NB427_446.out _).trans (((cell_far (p:=⟨gb446,_,none⟩) NB427_446.out _).trans (((cell_far (p:=⟨gb446,_,none⟩) NB427_446.out _).trans (((cell_far (p:=⟨gb446,_,none⟩) NB427_446.out _).trans (((cell_far (p:=⟨gb446,_,none⟩) NB427_446.out _).trans (hHeld.2.2.2.1)))))))))))))))),((cell_far (p:=⟨gb446,_,none⟩) NB427_446.out _).trans (((cell_far (p:=⟨gb446,_,none⟩) NB427_446.out _).trans (((cell_far (p:=⟨gb446,_,none⟩) NB427_446.out _).trans (((cell_far (p:=⟨gb446,_,none⟩) NB427_446.out _).trans (((cell_far (p:=⟨gb446,_,none⟩) NB427_446.out _).trans (((cell_far (p:=⟨gb446,_,none⟩) NB427_446.out _).trans (((cell_far (p:=⟨gb446,_,none⟩) NB427_446.out _).trans (((cell_far (p:=⟨gb446,_,none⟩) NB427_446.out _).trans (hHeld.2.2.2.2.1)))))))))))))))),((cell_far (p:=⟨gb446,_,none⟩) NB427_446.out _).trans (((cell_far (p:=⟨gb446,_,none⟩) NB427_446.out _).trans (((cell_far (p:=⟨gb446,_,none⟩) NB427_446.out _).trans (((cell_far (p:=⟨gb446,_,none⟩) NB427_446.out _).trans (((cell_far (p:=⟨gb446,_,none⟩) NB427_446.out _).trans (((cell_far (p:=⟨gb446,_,none⟩) NB427_446.out _).trans (((cell_far (p:=⟨gb446,_,none⟩) NB427_446.out _).trans (((cell_far (p:=⟨gb446,_,none⟩) NB427_446.out _).trans (hHeld.2.2.2.2.2.1)))))))))))))))),((cell_far (p:=⟨gb446,_,none⟩) NB427_446.out _).trans (((cell_far (p:=⟨gb446,_,none⟩) NB427_446.out _).trans (((cell_far (p:=⟨gb446,_,none⟩) NB427_446.out _).trans (((cell_far (p:=⟨gb446,_,none⟩) NB427_446.out _).trans (((cell_far (p:=⟨gb446,_,none⟩) NB427_446.out _).trans (((cell_far (p:=⟨gb446,_,none⟩) NB427_446.out _).trans (((cell_far (p:=⟨gb446,_,none⟩) NB427_446.out _).trans (((cell_far (p:=⟨gb446,_,none⟩) NB427_446.out _).trans (hHeld.2.2.2.2.2.2.1)))))))))))))))),((cell_far (p:=⟨gb446,_,none⟩) NB427_446.out _).trans (((cell_far (p:=⟨gb446,_,none⟩) NB427_446.out _).trans (((cell_far (p:=⟨gb446,_,none⟩) NB427_446.out _).trans (((cell_far (p:=⟨gb446,_,none⟩) NB427_446.out _).trans (((cell_far (p:=⟨gb446,_,none⟩) NB427_446.out _).trans (((cell_far (p:=⟨gb446,_,none⟩) NB427_446.out _).trans (((cell_far (p:=⟨gb446,_,none⟩) NB427_446.out _).trans (((cell_far (p:=⟨gb446,_,none⟩) NB427_446.out _).trans (hHeld.2.2.2.2.2.2.2))))))))))))))))⟩ (fun hHeld=>?_)
    clear hK K
    refine pure_ (i:=10) (N:=some 4) (v:=?_) (a':=?_) spec_SparseOk.m16 rfl rfl (any_of HT_.out (by kernel_rfl)) (fun _ _ _ h=>h) (Or.inl ⟨by rfl,?_⟩) ?_ ?_
    rotate_left
    ·intro w'
     go_simp
     with_reducible rfl
    rotate_left
    ·simp only [Act.put,sA,sO,sS,i64_w,i32_w]
     rfl
    refine done_ (done_of HT_.out (by kernel_rfl)) ?_
    have hnb88:=NB446_427.out
    have hnc88:=NB427_446.out
    obtain⟨hcz89_0,hcz89_1,hcz89_2,hcz89_3,hcz89_4,hcz89_5,hcz89_6,hcz89_7,hfz89_0,hfz89_1,hfz89_2,hfz89_3,hfz89_4,hfz89_5,hfz89_6,hfz89_7⟩:=cz8 BK446.out
    obtain⟨hcz90_0,hcz90_1,hcz90_2,hcz90_3,hcz90_4,hcz90_5,hcz90_6,hcz90_7,hfz90_0,hfz90_1,hfz90_2,hfz90_3,hfz90_4,hfz90_5,hfz90_6,hfz90_7⟩:=cz8 BK427.out
    try go_wp2
    go_ret
    exact⟨by first|rfl|(simp [errW_none,errW_some] <;> rfl)|(simp [*,errW_none,errW_some] <;> rfl),kB HB.out⟩
   rw [if_pos c25] at H
   have c25b0:(t436 == a0_3) = true:=beq_iff_eq.mpr c25
   have c25b1:(t436 != a0_3) = false:=bne_eq_false_iff_eq.mpr c25
   clear c25
   replace H:=Option.bind_eq_some_iff.mp H
   obtain⟨t447,A260,H⟩:=H
   replace H:(if t447 = true then ((spec_l03Same.f kj1 t441 t442 a0_6 l0_7).bind fun t448=>(some t448)) else (some false)) = some r:=H
   have A26:=mk0 A260
   clear A260
   by_cases c27:t447 = true
   rotate_left
   ·replace c27:=Bool.eq_false_iff.mpr c27
    subst c27
    have H1:(some false) = some r:=by rw [if_neg (show ¬ (false = true) by decide)] at H;exact H
    clear H
    have H:=H1
    clear H1
    obtain rfl:=Option.some.inj H
    try go_wp2
    replace BK427:=mk0 (dB BK427.out)
    replace HB:=mk0 (dZ HB.out)
    refine start_ (n:=11) (S:=fun w'=>w'.cell? ⟨gb427,0,none⟩ = some (.int .i64 a0_0) ∧ w'.cell? ⟨gb427,1,none⟩ = some (.int .i64 a0_1) ∧ w'.cell? ⟨gb427,2,none⟩ = some (.int .i64 a0_2) ∧ w'.cell? ⟨gb427,3,none⟩ = some (.int .i64 a0_3) ∧ w'.cell? ⟨gb427,4,none⟩ = some (.int .i64 a0_4) ∧ w'.cell? ⟨gb427,5,none⟩ = some (.slice A0_5 l0_5.length c0_5) ∧ w'.cell? ⟨gb427,6,none⟩ = some (.int .i64 a0_6) ∧ w'.cell? ⟨gb427,7,none⟩ = some (.slice A0_7 l0_7.length c0_7)) (ds:=[]) spec_SparseOk.m0 (by kernel_rfl) rfl rfl (ck8 BK427.out) (fun hHeld=>?_);refine with_tabW spec_SparseOk.tab3 spec_SparseOk.bits3 (fun HT_ HW_=>?_)
    generalize wc.drew = w52 at BK427 HB hHeld ⊢
    refine pure_ (i:=2) (N:=some 24) (v:=?_) (a':=?_) spec_SparseOk.m1 rfl rfl (any_of HT_.out (by kernel_rfl)) (fun _ _ _ h=>h) (Or.inl ⟨by rfl,?_⟩) ?_ ?_
    rotate_left
    ·intro w'
     go_simp
     with_reducible rfl
    rotate_left
    ·simp only [Act.put,sA,sO,sS,i64_w,i32_w]
     rfl
    refine take_ (i:=0) (N:=some 22) (v:=?_) (a':=?_) spec_SparseOk.m2 rfl rfl (take_ofW HT_.out HW_.out (by kernel_rfl)) (fun _ _ _ h=>h) (Or.inl ⟨by rfl,?_⟩) hHeld ?_ ?_
    rotate_left
    ·rintro w' ⟨s0,s1,s2,s3,s4,s5,s6,s7⟩
     go_simp
     with_reducible rfl
    rotate_left
    ·simp only [Act.put,sA,sO,sS,i64_w,i32_w]
     rfl
    refine take_ (i:=3) (N:=some 25) (v:=?_) (a':=?_) spec_SparseOk.m3 rfl rfl (take_ofW HT_.out HW_.out (by kernel_rfl)) (fun _ _ _ h=>h) (Or.inl ⟨by rfl,?_⟩) hHeld ?_ ?_
    rotate_left
    ·rintro w' ⟨s0,s1,s2,s3,s4,s5,s6,s7⟩
     go_simp
     with_reducible rfl
    rotate_left
    ·simp only [Act.put,sA,sO,sS,i64_w,i32_w]
     rfl
    refine join_ (σ:=Value × Value × Value × Nat) 2 spec_SparseOk.m4 (fun s_=>[(23,s_.1),(26,.tuple #[.agg #[.int .i64 t433,.int .i64 t434,.int .i64 t435,.int .i64 t436,.int .i64 t437,s_.2.1,.int .i64 t441,s_.2.2.1],.bool true]),(3,.pointer (some ⟨s_.2.2.2,0,none⟩)),(21,.tuple #[.agg #[.int .i64 t433,.int .i64 t434,.int .i64 t435,.int .i64 t436,.int .i64 t437,s_.2.1,.int .i64 t441,s_.2.2.1],.bool true]),(27,.agg #[.int .i64 t433,.int .i64 t434,.int .i64 t435,.int .i64 t436,.int .i64 t437,s_.2.1,.int .i64 t441,s_.2.2.1]),(28,.bool true)]) (fun s_ w'=>(w'.cell? ⟨gb427,0,none⟩ = some (.int .i64 a0_0) ∧ w'.cell? ⟨gb427,1,none⟩ = some (.int .i64 a0_1) ∧ w'.cell? ⟨gb427,2,none⟩ = some (.int .i64 a0_2) ∧ w'.cell? ⟨gb427,3,none⟩ = some (.int .i64 a0_3) ∧ w'.cell? ⟨gb427,4,none⟩ = some (.int .i64 a0_4) ∧ w'.cell? ⟨gb427,5,none⟩ = some (.slice A0_5 l0_5.length c0_5) ∧ w'.cell? ⟨gb427,6,none⟩ = some (.int .i64 a0_6) ∧ w'.cell? ⟨gb427,7,none⟩ = some (.slice A0_7 l0_7.length c0_7)) ∧ (Kd.R (Kd.int .i64) 3 w' w.heap.size (fun _=>True) s_.1 t430) ∧ (Kd.R (Kd.int .u64) 78 w' w.heap.size (fun k_=>some k_ ≠ (s_.2.2.1:Value).ownBlock) s_.2.1 t438) ∧ (Kd.R (Kd.int .u64) 78 w' w.heap.size (fun k_=>some k_ ≠ (s_.2.1:Value).ownBlock) s_.2.2.1 t442) ∧ (w'.heap[gb427]? = some (.cells #[.int .i64 a0_0,.int .i64 a0_1,.int .i64 a0_2,.int .i64 a0_3,.int .i64 a0_4,.slice A0_5 l0_5.length c0_5,.int .i64 a0_6,.slice A0_7 l0_7.length c0_7] 33 (0,0))) ∧ (w'.heap[s_.2.2.2]? = some (.cells #[.int .i64 0,.int .i64 0,.int .i64 0,.int .i64 0,.int .i64 0,.slice none 0 0,.int .i64 0,.slice none 0 0] 33 (0,0))) ∧ (w.heap.size ≤ s_.2.2.2) ∧ (w.heap.size ≤ s_.2.2.2) ∧ (gb427 ≠ s_.2.2.2) ∧ (s_.2.2.2 ≠ gb427) ∧ (Below w.heap.size w w')) ?_ ?_
    rotate_left
    ·intro hCont
     refine two_ (i:=1) (j:=8) (Ni:=some 23) (Nj:=some 3) spec_SparseOk.m5 spec_SparseOk.m6 rfl rfl rfl rfl (two_of HT_.out (by kernel_rfl)) (by decide) (by decide) (fun K hK=>?_) (fun K hK=>?_)
     ·skip
      refine goes_ Try.func49 (by kernel_rfl) rfl #[.agg #[.int .i64 a0_0,.int .i64 a0_1,.int .i64 a0_2,.int .i64 a0_3,.int .i64 a0_4,.slice A0_5 l0_5.length c0_5,.int .i64 a0_6,.slice A0_7 l0_7.length c0_7]] (by rfl) rfl rfl (by (try simp only [mA,mC,mN]);first|done|rfl|(simp only [List.length_drop,List.length_take];rfl)) ?_
      with_reducible refine (spec_l03List.calls kj1 a0_0 a0_1 a0_2 a0_3 a0_4 _ _ l0_5 a0_6 _ _ l0_7 t430 _ ?side1 ?side2 ?side3 ?side4 A20.out).mono ?_
      (case side1=>exact kC (Kd.C_below HR0_5.out HB.out))
      (case side2=>exact HC0_5.out)
      (case side3=>exact kC (Kd.C_below HR0_7.out HB.out))
      (case side4=>exact HC0_7.out)
      rintro e w53 ⟨v431,rfl,ho0,hb⟩
      refine⟨_,rfl,?_⟩
      have HO432:=mk0 (Kd.R_lower ho0 (kZ HB.out))
      replace BK427:=mk0 (kK BK427.out hb)
      replace HB:=mk0 (kS HB.out hb)
      (try clear hb)
      (try clear ho0)
      obtain⟨Ao54,co54,eo54⟩:=Kd.R_slice HO432.out
      (first|subst eo54|(injection eo54 with f1_ f2_ f3_;have f4_:=f1_.symm;have f5_:=f3_.symm;clear f1_ f2_ f3_;subst f4_;subst f5_))
      refine hK.out _ _ (ck8 BK427.out) (fun hHeld=>?_)
      clear hK K
      refine norm_ (a':=?_) ?_ ?_
      rotate_left
      ·show Act.put _ (some 23) _ = _
       simp only [Act.put,sA,sO,sS,i64_w,i32_w]
       rfl
      refine two_ (i:=4) (j:=8) (Ni:=some 26) (Nj:=some 3) spec_SparseOk.m7 spec_SparseOk.m8 rfl rfl rfl rfl (two_of HT_.out (by kernel_rfl)) (by decide) (by decide) (fun K hK=>?_) (fun K hK=>?_)
      ·skip
       refine goes_ Try.func9 (by kernel_rfl) rfl #[.slice Ao54 t430.length co54,.int .i64 a0_0] (by rfl) rfl rfl (by (try simp only [mA,mC,mN]);first|done|rfl|(simp only [List.length_drop,List.length_take];rfl)) ?_
       with_reducible refine (spec_SparseOf.calls kj1 _ _ t430 a0_0 t433 t434 t435 t436 t437 t438 t441 t442 true _ ?side1 ?side2 A21.out).mono ?_
       (case side1=>exact kC (Kd.R_reads' HO432.out).2.2)
       (case side2=>exact (Kd.R_reads' HO432.out).2.1)
       rintro e w55 ⟨v439,v443,rfl,ho0,ho1,hb⟩
       refine⟨_,rfl,?_⟩
       replace HO432:=mk0 (bR HO432.out hb)
       have HO440:=mk0 (Kd.R_lower ho0 (kZ HB.out))
       have HO444:=mk0 (Kd.R_lower ho1 (kZ HB.out))
       replace BK427:=mk0 (kK BK427.out hb)
       replace HB:=mk0 (kS HB.out hb)
       (try clear hb)
       (try clear ho0)
       (try clear ho1)
       refine hK.out _ _ (ck8 BK427.out) (fun hHeld=>?_)
       clear hK K
       refine norm_ (a':=?_) ?_ ?_
       rotate_left
       ·show Act.put _ (some 26) _ = _
        simp only [Act.put,sA,sO,sS,i64_w,i32_w]
        rfl
       refine pure_ (i:=5) (N:=some 21) (v:=?_) (a':=?_) spec_SparseOk.m9 rfl rfl (any_of HT_.out (by kernel_rfl)) (fun _ _ _ h=>h) (Or.inl ⟨by rfl,?_⟩) ?_ ?_
       rotate_left
       ·intro w'
        go_simp
        with_reducible rfl
       rotate_left
       ·simp only [Act.put,sA,sO,sS,i64_w,i32_w]
        rfl
       refine pure_ (i:=6) (N:=some 27) (v:=?_) (a':=?_) spec_SparseOk.m10 rfl rfl (any_of HT_.out (by kernel_rfl)) (fun _ _ _ h=>h) (Or.inl ⟨by rfl,?_⟩) ?_ ?_
       rotate_left
       ·intro w'
        go_simp
        with_reducible rfl
       rotate_left
       ·simp only [Act.put,sA,sO,sS,i64_w,i32_w]
        rfl
       refine pure_ (i:=7) (N:=some 28) (v:=?_) (a':=?_) spec_SparseOk.m11 rfl rfl (any_of HT_.out (by kernel_rfl)) (fun _ _ _ h=>h) (Or.inl ⟨by rfl,?_⟩) ?_ ?_
       rotate_left
       ·intro w'
        go_simp
        with_reducible rfl
       rotate_left
       ·simp only [Act.put,sA,sO,sS,i64_w,i32_w]
        rfl
       refine one_ (i:=8) (N:=some 3) spec_SparseOk.m4 rfl rfl (one_of HT_.out (by kernel_rfl)) (by decide) (fun K hK=>?_)
       refine box_step ?hg (N:=3) ?hd (cs:=#[.int .i64 0,.int .i64 0,.int .i64 0,.int .i64 0,.int .i64 0,.slice none 0 0,.int .i64 0,.slice none 0 0]) (t:=33) ?hr ?_;(case hd=>rfl);(case hg=>rfl);(case hr=>first|(go_simp;done)|(go_simp;rfl))
       intro gb446 hg w56 hbox hb
       replace HO432:=mk0 (bR HO432.out hb)
       replace HO440:=mk0 (bR HO440.out hb)
       replace HO444:=mk0 (bR HO444.out hb)
       have BK446:=mk0 (hbox)
       have GW446:=mk0 ((by rw [hg];exact (kZ HB.out):w.heap.size ≤ gb446))
       have GE446:=mk0 ((by rw [hg];exact (kZ HB.out):w.heap.size ≤ gb446))
       replace HB:=mk0 (kS HB.out hb)
       have NB427_446:=mk0 ((by rw [hg];exact Nat.ne_of_lt (kL BK427.out):gb427 ≠ gb446))
       have NB446_427:=mk0 ((by rw [hg];exact Nat.ne_of_gt (kL BK427.out):gb446 ≠ gb427))
       replace BK427:=mk0 (kK BK427.out hb)
       clear hb hbox hg
       refine hK.out _ _ (ck8 BK427.out) (fun hHeld=>?_)
       clear hK K
       refine norm_ (a':=?_) ?_ ?_
       rotate_left
       ·show Act.put _ (some 3) _ = _
        simp only [Act.put,sA,sO,sS,i64_w,i32_w]
        rfl
       exact norm_ (by simp only [putAll,Act.put,sA,sO,sS]) (hCont (.slice Ao54 t430.length co54,v439,v443,gb446) _ ⟨hHeld,(rR HO432.out),(rR HO440.out),(rR HO444.out),(kN BK427.out),(kN BK446.out),GW446.out,GE446.out,NB427_446.out,NB446_427.out,(kB HB.out)⟩)
      ·skip
       refine box_step ?hg (N:=3) ?hd (cs:=#[.int .i64 0,.int .i64 0,.int .i64 0,.int .i64 0,.int .i64 0,.slice none 0 0,.int .i64 0,.slice none 0 0]) (t:=33) ?hr ?_;(case hd=>rfl);(case hg=>rfl);(case hr=>first|(go_simp;done)|(go_simp;rfl))
       intro gb446 hg w54 hbox hb
       replace HO432:=mk0 (bR HO432.out hb)
       have BK446:=mk0 (hbox)
       have GW446:=mk0 ((by rw [hg];exact (kZ HB.out):w.heap.size ≤ gb446))
       have GE446:=mk0 ((by rw [hg];exact (kZ HB.out):w.heap.size ≤ gb446))
       replace HB:=mk0 (kS HB.out hb)
       have NB427_446:=mk0 ((by rw [hg];exact Nat.ne_of_lt (kL BK427.out):gb427 ≠ gb446))
       have NB446_427:=mk0 ((by rw [hg];exact Nat.ne_of_gt (kL BK427.out):gb446 ≠ gb427))
       replace BK427:=mk0 (kK BK427.out hb)
       clear hb hbox hg
       obtain⟨Ao55,co55,eo55⟩:=Kd.R_slice HO432.out
       (first|subst eo55|(injection eo55 with f1_ f2_ f3_;have f4_:=f1_.symm;have f5_:=f3_.symm;clear f1_ f2_ f3_;subst f4_;subst f5_))
       refine hK.out _ _ (ck8 BK427.out) (fun hHeld=>?_)
       clear hK K
       refine norm_ (a':=?_) ?_ ?_
       rotate_left
       ·show Act.put _ (some 3) _ = _
        simp only [Act.put,sA,sO,sS,i64_w,i32_w]
        rfl
       refine one_ (i:=4) (N:=some 26) spec_SparseOk.m12 rfl rfl (one_of HT_.out (by kernel_rfl)) (by decide) (fun K hK=>?_)
       refine goes_ Try.func9 (by kernel_rfl) rfl #[.slice Ao55 t430.length co55,.int .i64 a0_0] (by rfl) rfl rfl (by (try simp only [mA,mC,mN]);first|done|rfl|(simp only [List.length_drop,List.length_take];rfl)) ?_
       with_reducible refine (spec_SparseOf.calls kj1 _ _ t430 a0_0 t433 t434 t435 t436 t437 t438 t441 t442 true _ ?side1 ?side2 A21.out).mono ?_
       (case side1=>exact kC (Kd.R_reads' HO432.out).2.2)
       (case side2=>exact (Kd.R_reads' HO432.out).2.1)
       rintro e w56 ⟨v439,v443,rfl,ho0,ho1,hb⟩
       refine⟨_,rfl,?_⟩
       replace HO432:=mk0 (bR HO432.out hb)
       have HO440:=mk0 (Kd.R_lower ho0 (kZ HB.out))
       have HO444:=mk0 (Kd.R_lower ho1 (kZ HB.out))
       replace BK427:=mk0 (kK BK427.out hb)
       replace BK446:=mk0 (kK BK446.out hb)
       replace HB:=mk0 (kS HB.out hb)
       (try clear hb)
       (try clear ho0)
       (try clear ho1)
       refine hK.out _ _ (ck8 BK427.out) (fun hHeld=>?_)
       clear hK K
       refine norm_ (a':=?_) ?_ ?_
       rotate_left
       ·show Act.put _ (some 26) _ = _
        simp only [Act.put,sA,sO,sS,i64_w,i32_w]
        rfl
       refine pure_ (i:=5) (N:=some 21) (v:=?_) (a':=?_) spec_SparseOk.m13 rfl rfl (any_of HT_.out (by kernel_rfl)) (fun _ _ _ h=>h) (Or.inl ⟨by rfl,?_⟩) ?_ ?_
       rotate_left
       ·intro w'
        go_simp
        with_reducible rfl
       rotate_left
       ·simp only [Act.put,sA,sO,sS,i64_w,i32_w]
        rfl
       refine pure_ (i:=6) (N:=some 27) (v:=?_) (a':=?_) spec_SparseOk.m14 rfl rfl (any_of HT_.out (by kernel_rfl)) (fun _ _ _ h=>h) (Or.inl ⟨by rfl,?_⟩) ?_ ?_
       rotate_left
       ·intro w'
        go_simp
        with_reducible rfl
       rotate_left
       ·simp only [Act.put,sA,sO,sS,i64_w,i32_w]
        rfl
       refine pure_ (i:=7) (N:=some 28) (v:=?_) (a':=?_) spec_SparseOk.m4 rfl rfl (any_of HT_.out (by kernel_rfl)) (fun _ _ _ h=>h) (Or.inl ⟨by rfl,?_⟩) ?_ ?_
       rotate_left
       ·intro w'
        go_simp
        with_reducible rfl
       rotate_left
       ·simp only [Act.put,sA,sO,sS,i64_w,i32_w]
        rfl
       exact norm_ (by simp only [putAll,Act.put,sA,sO,sS]) (hCont (.slice Ao55 t430.length co55,v439,v443,gb446) _ ⟨hHeld,(rR HO432.out),(rR HO440.out),(rR HO444.out),(kN BK427.out),(kN BK446.out),GW446.out,GE446.out,NB427_446.out,NB446_427.out,(kB HB.out)⟩)
     ·skip
      refine box_step ?hg (N:=3) ?hd (cs:=#[.int .i64 0,.int .i64 0,.int .i64 0,.int .i64 0,.int .i64 0,.slice none 0 0,.int .i64 0,.slice none 0 0]) (t:=33) ?hr ?_;(case hd=>rfl);(case hg=>rfl);(case hr=>first|(go_simp;done)|(go_simp;rfl))
      intro gb446 hg w53 hbox hb
      have BK446:=mk0 (hbox)
      have GW446:=mk0 ((by rw [hg];exact (kZ HB.out):w.heap.size ≤ gb446))
      have GE446:=mk0 ((by rw [hg];exact (kZ HB.out):w.heap.size ≤ gb446))
      replace HB:=mk0 (kS HB.out hb)
      have NB427_446:=mk0 ((by rw [hg];exact Nat.ne_of_lt (kL BK427.out):gb427 ≠ gb446))
      have NB446_427:=mk0 ((by rw [hg];exact Nat.ne_of_gt (kL BK427.out):gb446 ≠ gb427))
      replace BK427:=mk0 (kK BK427.out hb)
      clear hb hbox hg
      refine hK.out _ _ (ck8 BK427.out) (fun hHeld=>?_)
      clear hK K
      refine norm_ (a':=?_) ?_ ?_
      rotate_left
      ·show Act.put _ (some 3) _ = _
       simp only [Act.put,sA,sO,sS,i64_w,i32_w]
       rfl
      refine one_ (i:=1) (N:=some 23) spec_SparseOk.m8 rfl rfl (one_of HT_.out (by kernel_rfl)) (by decide) (fun K hK=>?_)
      refine goes_ Try.func49 (by kernel_rfl) rfl #[.agg #[.int .i64 a0_0,.int .i64 a0_1,.int .i64 a0_2,.int .i64 a0_3,.int .i64 a0_4,.slice A0_5 l0_5.length c0_5,.int .i64 a0_6,.slice A0_7 l0_7.length c0_7]] (by rfl) rfl rfl (by (try simp only [mA,mC,mN]);first|done|rfl|(simp only [List.length_drop,List.length_take];rfl)) ?_
      with_reducible refine (spec_l03List.calls kj1 a0_0 a0_1 a0_2 a0_3 a0_4 _ _ l0_5 a0_6 _ _ l0_7 t430 _ ?side1 ?side2 ?side3 ?side4 A20.out).mono ?_
      (case side1=>exact kC (Kd.C_below HR0_5.out HB.out))
      (case side2=>exact HC0_5.out)
      (case side3=>exact kC (Kd.C_below HR0_7.out HB.out))
      (case side4=>exact HC0_7.out)
      rintro e w54 ⟨v431,rfl,ho0,hb⟩
      refine⟨_,rfl,?_⟩
      have HO432:=mk0 (Kd.R_lower ho0 (kZ HB.out))
      replace BK427:=mk0 (kK BK427.out hb)
      replace BK446:=mk0 (kK BK446.out hb)
      replace HB:=mk0 (kS HB.out hb)
      (try clear hb)
      (try clear ho0)
      obtain⟨Ao55,co55,eo55⟩:=Kd.R_slice HO432.out
      (first|subst eo55|(injection eo55 with f1_ f2_ f3_;have f4_:=f1_.symm;have f5_:=f3_.symm;clear f1_ f2_ f3_;subst f4_;subst f5_))
      refine hK.out _ _ (ck8 BK427.out) (fun hHeld=>?_)
      clear hK K
      refine norm_ (a':=?_) ?_ ?_
      rotate_left
      ·show Act.put _ (some 23) _ = _
       simp only [Act.put,sA,sO,sS,i64_w,i32_w]
       rfl
      refine one_ (i:=4) (N:=some 26) spec_SparseOk.m12 rfl rfl (one_of HT_.out (by kernel_rfl)) (by decide) (fun K hK=>?_)
      refine goes_ Try.func9 (by kernel_rfl) rfl #[.slice Ao55 t430.length co55,.int .i64 a0_0] (by rfl) rfl rfl (by (try simp only [mA,mC,mN]);first|done|rfl|(simp only [List.length_drop,List.length_take];rfl)) ?_
      with_reducible refine (spec_SparseOf.calls kj1 _ _ t430 a0_0 t433 t434 t435 t436 t437 t438 t441 t442 true _ ?side1 ?side2 A21.out).mono ?_
      (case side1=>exact kC (Kd.R_reads' HO432.out).2.2)
      (case side2=>exact (Kd.R_reads' HO432.out).2.1)
      rintro e w56 ⟨v439,v443,rfl,ho0,ho1,hb⟩
      refine⟨_,rfl,?_⟩
      replace HO432:=mk0 (bR HO432.out hb)
      have HO440:=mk0 (Kd.R_lower ho0 (kZ HB.out))
      have HO444:=mk0 (Kd.R_lower ho1 (kZ HB.out))
      replace BK427:=mk0 (kK BK427.out hb)
      replace BK446:=mk0 (kK BK446.out hb)
      replace HB:=mk0 (kS HB.out hb)
      (try clear hb)
      (try clear ho0)
      (try clear ho1)
      refine hK.out _ _ (ck8 BK427.out) (fun hHeld=>?_)
      clear hK K
      refine norm_ (a':=?_) ?_ ?_
      rotate_left
      ·show Act.put _ (some 26) _ = _
       simp only [Act.put,sA,sO,sS,i64_w,i32_w]
       rfl
      refine pure_ (i:=5) (N:=some 21) (v:=?_) (a':=?_) spec_SparseOk.m13 rfl rfl (any_of HT_.out (by kernel_rfl)) (fun _ _ _ h=>h) (Or.inl ⟨by rfl,?_⟩) ?_ ?_
      rotate_left
      ·intro w'
       go_simp
       with_reducible rfl
      rotate_left
      ·simp only [Act.put,sA,sO,sS,i64_w,i32_w]
       rfl
      refine pure_ (i:=6) (N:=some 27) (v:=?_) (a':=?_) spec_SparseOk.m14 rfl rfl (any_of HT_.out (by kernel_rfl)) (fun _ _ _ h=>h) (Or.inl ⟨by rfl,?_⟩) ?_ ?_
      rotate_left
      ·intro w'
       go_simp
       with_reducible rfl
      rotate_left
      ·simp only [Act.put,sA,sO,sS,i64_w,i32_w]
       rfl
      refine pure_ (i:=7) (N:=some 28) (v:=?_) (a':=?_) spec_SparseOk.m4 rfl rfl (any_of HT_.out (by kernel_rfl)) (fun _ _ _ h=>h) (Or.inl ⟨by rfl,?_⟩) ?_ ?_
      rotate_left
      ·intro w'
       go_simp
       with_reducible rfl
      rotate_left
      ·simp only [Act.put,sA,sO,sS,i64_w,i32_w]
       rfl
      exact norm_ (by simp only [putAll,Act.put,sA,sO,sS]) (hCont (.slice Ao55 t430.length co55,v439,v443,gb446) _ ⟨hHeld,(rR HO432.out),(rR HO440.out),(rR HO444.out),(kN BK427.out),(kN BK446.out),GW446.out,GE446.out,NB427_446.out,NB446_427.out,(kB HB.out)⟩)
    rintro⟨v431,v439,v443,gb446⟩ w57 ⟨hS_,h0_,h1_,h2_,h3_,h4_,h5_,h6_,h7_,h8_,h9_⟩
    have n0_:Aside0 (Kd.R (Kd.int .i64) 3 w57 w.heap.size (fun _=>True) v431 t430):=⟨h0_⟩
    have n1_:Aside0 (Kd.R (Kd.int .u64) 78 w57 w.heap.size (fun k_=>some k_ ≠ (v443:Value).ownBlock) v439 t438):=⟨h1_⟩
    have n2_:Aside0 (Kd.R (Kd.int .u64) 78 w57 w.heap.size (fun k_=>some k_ ≠ (v439:Value).ownBlock) v443 t442):=⟨h2_⟩
    have n3_:Aside0 (w57.heap[gb427]? = some (.cells #[.int .i64 a0_0,.int .i64 a0_1,.int .i64 a0_2,.int .i64 a0_3,.int .i64 a0_4,.slice A0_5 l0_5.length c0_5,.int .i64 a0_6,.slice A0_7 l0_7.length c0_7] 33 (0,0))):=⟨h3_⟩
    have n4_:Aside0 (w57.heap[gb446]? = some (.cells #[.int .i64 0,.int .i64 0,.int .i64 0,.int .i64 0,.int .i64 0,.slice none 0 0,.int .i64 0,.slice none 0 0] 33 (0,0))):=⟨h4_⟩
    have n5_:Aside0 (w.heap.size ≤ gb446):=⟨h5_⟩
    have n6_:Aside0 (w.heap.size ≤ gb446):=⟨h6_⟩
    have n7_:Aside0 (gb427 ≠ gb446):=⟨h7_⟩
    have n8_:Aside0 (gb446 ≠ gb427):=⟨h8_⟩
    have n9_:Aside0 (Below w.heap.size w w57):=⟨h9_⟩
    clear BK427
    clear HB
    clear h0_ h1_ h2_ h3_ h4_ h5_ h6_ h7_ h8_ h9_
    have HO432:=n0_
    have HO440:=n1_
    have HO444:=n2_
    have BK427:=n3_
    have BK446:=n4_
    have GW446:=n5_
    have GE446:=n6_
    have NB427_446:=n7_
    have NB446_427:=n8_
    have HB:=n9_
    clear n0_ n1_ n2_ n3_ n4_ n5_ n6_ n7_ n8_ n9_
    have hHeld:w57.cell? ⟨gb427,0,none⟩ = some (.int .i64 a0_0) ∧ w57.cell? ⟨gb427,1,none⟩ = some (.int .i64 a0_1) ∧ w57.cell? ⟨gb427,2,none⟩ = some (.int .i64 a0_2) ∧ w57.cell? ⟨gb427,3,none⟩ = some (.int .i64 a0_3) ∧ w57.cell? ⟨gb427,4,none⟩ = some (.int .i64 a0_4) ∧ w57.cell? ⟨gb427,5,none⟩ = some (.slice A0_5 l0_5.length c0_5) ∧ w57.cell? ⟨gb427,6,none⟩ = some (.int .i64 a0_6) ∧ w57.cell? ⟨gb427,7,none⟩ = some (.slice A0_7 l0_7.length c0_7):=hS_
    obtain⟨Ao63,co63,eo63⟩:=Kd.R_slice HO440.out
    (first|subst eo63|(injection eo63 with f1_ f2_ f3_;have f4_:=f1_.symm;have f5_:=f3_.symm;clear f1_ f2_ f3_;subst f4_;subst f5_))
    obtain⟨Ao66,co66,eo66⟩:=Kd.R_slice HO444.out
    (first|subst eo66|(injection eo66 with f1_ f2_ f3_;have f4_:=f1_.symm;have f5_:=f3_.symm;clear f1_ f2_ f3_;subst f4_;subst f5_))
    refine norm_ (a':=?_) ?_ ?_
    rotate_left
    ·simp only [putAll,Act.put,sA,sO,sS]
     rfl
    refine one_ (i:=9) (N:=none) spec_SparseOk.m15 rfl rfl (one_of HT_.out (by kernel_rfl)) (by decide) (fun K hK=>?_)
    have hs58:w57.cell? ⟨gb446,0,none⟩ = some (.int .i64 0):=(blk_cell BK446.out 0).trans rfl
    have hfs58:=blk_frozen BK446.out 0
    have hns58_0:=NB427_446.out
    have hms58_0:=NB446_427.out
    have hs59:w57.cell? ⟨gb446,1,none⟩ = some (.int .i64 0):=(blk_cell BK446.out 1).trans rfl
    have hfs59:=blk_frozen BK446.out 1
    have hns59_0:=NB427_446.out
    have hms59_0:=NB446_427.out
    have hs60:w57.cell? ⟨gb446,2,none⟩ = some (.int .i64 0):=(blk_cell BK446.out 2).trans rfl
    have hfs60:=blk_frozen BK446.out 2
    have hns60_0:=NB427_446.out
    have hms60_0:=NB446_427.out
    have hs61:w57.cell? ⟨gb446,3,none⟩ = some (.int .i64 0):=(blk_cell BK446.out 3).trans rfl
    have hfs61:=blk_frozen BK446.out 3
    have hns61_0:=NB427_446.out
    have hms61_0:=NB446_427.out
    have hs62:w57.cell? ⟨gb446,4,none⟩ = some (.int .i64 0):=(blk_cell BK446.out 4).trans rfl
    have hfs62:=blk_frozen BK446.out 4
    have hns62_0:=NB427_446.out
    have hms62_0:=NB446_427.out
    have hs64:w57.cell? ⟨gb446,5,none⟩ = some (.slice none 0 0):=(blk_cell BK446.out 5).trans rfl
    have hfs64:=blk_frozen BK446.out 5
    have hns64_0:=NB427_446.out
    have hms64_0:=NB446_427.out
    have hs65:w57.cell? ⟨gb446,6,none⟩ = some (.int .i64 0):=(blk_cell BK446.out 6).trans rfl
    have hfs65:=blk_frozen BK446.out 6
    have hns65_0:=NB427_446.out
    have hms65_0:=NB446_427.out
    have hs67:w57.cell? ⟨gb446,7,none⟩ = some (.slice none 0 0):=(blk_cell BK446.out 7).trans rfl
    have hfs67:=blk_frozen BK446.out 7
    have hns67_0:=NB427_446.out
    have hms67_0:=NB446_427.out
    refine skip_ (w1:=?_) (by rfl) rfl ?_ ?_
    rotate_left
    ·go_simp
     rfl
    refine hK.out _ _ ⟨((cell_far (p:=⟨gb446,_,none⟩) NB427_446.out _).trans (((cell_far (p:=⟨gb446,_,none⟩) NB427_446.out _).trans (((cell_far (p:=⟨gb446,_,none⟩) NB427_446.out _).trans (((cell_far (p:=⟨gb446,_,none⟩) NB427_446.out _).trans (((cell_far (p:=⟨gb446,_,none⟩) NB427_446.out _).trans (((cell_far (p:=⟨gb446,_,none⟩) NB427_446.out _).trans (((cell_far (p:=⟨gb446,_,none⟩) NB427_446.out _).trans (((cell_far (p:=⟨gb446,_,none⟩) NB427_446.out _).trans (hHeld.1)))))))))))))))),((cell_far (p:=⟨gb446,_,none⟩) NB427_446.out _).trans (((cell_far (p:=⟨gb446,_,none⟩) NB427_446.out _).trans (((cell_far (p:=⟨gb446,_,none⟩) NB427_446.out _).trans (((cell_far (p:=⟨gb446,_,none⟩) NB427_446.out _).trans (((cell_far (p:=⟨gb446,_,none⟩) NB427_446.out _).trans (((cell_far (p:=⟨gb446,_,none⟩) NB427_446.out _).trans (((cell_far (p:=⟨gb446,_,none⟩) NB427_446.out _).trans (((cell_far (p:=⟨gb446,_,none⟩) NB427_446.out _).trans (hHeld.2.1)))))))))))))))),((cell_far (p:=⟨gb446,_,none⟩) NB427_446.out _).trans (((cell_far (p:=⟨gb446,_,none⟩) NB427_446.out _).trans (((cell_far (p:=⟨gb446,_,none⟩) NB427_446.out _).trans (((cell_far (p:=⟨gb446,_,none⟩) NB427_446.out _).trans (((cell_far (p:=⟨gb446,_,none⟩) NB427_446.out _).trans (((cell_far (p:=⟨gb446,_,none⟩) NB427_446.out _).trans (((cell_far (p:=⟨gb446,_,none⟩) NB427_446.out _).trans (((cell_far (p:=⟨gb446,_,none⟩) NB427_446.out _).trans (hHeld.2.2.1)))))))))))))))),((cell_far (p:=⟨gb446,_,none⟩) NB427_446.out _).trans (((cell_far (p:=⟨gb446,_,none⟩) NB427_446.out _).trans (((cell_far (p:=⟨gb446,_,none⟩) NB427_446.out _).trans (((cell_far (p:=⟨gb446,_,none⟩) NB427_446.out _).trans (((cell_far (p:=⟨gb446,_,none⟩) NB427_446.out _).trans (((cell_far (p:=⟨gb446,_,none⟩) NB427_446.out _).trans (((cell_far (p:=⟨gb446,_,none⟩) NB427_446.out _).trans (((cell_far (p:=⟨gb446,_,none⟩) NB427_446.out _).trans (hHeld.2.2.2.1)))))))))))))))),((cell_far (p:=⟨gb446,_,none⟩) NB427_446.out _).trans (((cell_far (p:=⟨gb446,_,none⟩) NB427_446.out _).trans (((cell_far (p:=⟨gb446,_,none⟩) NB427_446.out _).trans (((cell_far (p:=⟨gb446,_,none⟩) NB427_446.out _).trans (((cell_far (p:=⟨gb446,_,none⟩) NB427_446.out _).trans (((cell_far (p:=⟨gb446,_,none⟩) NB427_446.out _).trans (((cell_far (p:=⟨gb446,_,none⟩) NB427_446.out _).trans (((cell_far (p:=⟨gb446,_,none⟩) NB427_446.out _).trans (hHeld.2.2.2.2.1)))))))))))))))),((cell_far (p:=⟨gb446,_,none⟩) NB427_446.out _).trans (((cell_far (p:=⟨gb446,_,none⟩) NB427_446.out _).trans (((cell_far (p:=⟨gb446,_,none⟩) NB427_446.out _).trans (((cell_far (p:=⟨gb446,_,none⟩) NB427_446.out _).trans (((cell_far (p:=⟨gb446,_,none⟩) NB427_446.out _).trans (((cell_far (p:=⟨gb446,_,none⟩) NB427_446.out _).trans (((cell_far (p:=⟨gb446,_,none⟩) NB427_446.out _).trans (((cell_far (p:=⟨gb446,_,none⟩) NB427_446.out _).trans (hHeld.2.2.2.2.2.1)))))))))))))))),((cell_far (p:=⟨gb446,_,none⟩) NB427_446.out _).trans (((cell_far (p:=⟨gb446,_,none⟩) NB427_446.out _).trans (((cell_far (p:=⟨gb446,_,none⟩) NB427_446.out _).trans (((cell_far (p:=⟨gb446,_,none⟩) NB427_446.out _).trans (((cell_far (p:=⟨gb446,_,none⟩) NB427_446.out _).trans (((cell_far (p:=⟨gb446,_,none⟩) NB427_446.out _).trans (((cell_far (p:=⟨gb446,_,none⟩) NB427_446.out _).trans (((cell_far (p:=⟨gb446,_,none⟩) NB427_446.out _).trans (hHeld.2.2.2.2.2.2.1)))))))))))))))),((cell_far (p:=⟨gb446,_,none⟩) NB427_446.out _).trans (((cell_far (p:=⟨gb446,_,none⟩) NB427_446.out _).trans (((cell_far (p:=⟨gb446,_,none⟩) NB427_446.out _).trans (((cell_far (p:=⟨gb446,_,none⟩) NB427_446.out _).trans (((cell_far (p:=⟨gb446,_,none⟩) NB427_446.out _).trans (((cell_far (p:=⟨gb446,_,none⟩) NB427_446.out _).trans (((cell_far (p:=⟨gb446,_,none⟩) NB427_446.out _).trans (((cell_far (p:=⟨gb446,_,none⟩) NB427_446.out _).trans (hHeld.2.2.2.2.2.2.2))))))))))))))))⟩ (fun hHeld=>?_)
    clear hK K
    refine pure_ (i:=10) (N:=some 4) (v:=?_) (a':=?_) spec_SparseOk.m16 rfl rfl (any_of HT_.out (by kernel_rfl)) (fun _ _ _ h=>h) (Or.inl ⟨by rfl,?_⟩) ?_ ?_
    rotate_left
    ·intro w'
     go_simp
     with_reducible rfl
    rotate_left
    ·simp only [Act.put,sA,sO,sS,i64_w,i32_w]
     rfl
    refine done_ (done_of HT_.out (by kernel_rfl)) ?_
    have hnb68:=NB446_427.out
    have hnc68:=NB427_446.out
    obtain⟨hcz69_0,hcz69_1,hcz69_2,hcz69_3,hcz69_4,hcz69_5,hcz69_6,hcz69_7,hfz69_0,hfz69_1,hfz69_2,hfz69_3,hfz69_4,hfz69_5,hfz69_6,hfz69_7⟩:=cz8 BK446.out
    obtain⟨hcz70_0,hcz70_1,hcz70_2,hcz70_3,hcz70_4,hcz70_5,hcz70_6,hcz70_7,hfz70_0,hfz70_1,hfz70_2,hfz70_3,hfz70_4,hfz70_5,hfz70_6,hfz70_7⟩:=cz8 BK427.out
    try go_wp2_with (first|(go_at_call 71;(with_reducible refine (spec_l03Same.calls kj1 t437 _ _ t438 a0_4 _ _ l0_5 false _ ?side1 ?side2 ?side3 ?side4 A26.out).mono ?_);(case side1=>refine (Kd.R_reads' (e:=78) (base:=w.heap.size) (ok:=fun k_=>some k_ ≠ (.slice Ao66 t442.length co66:Value).ownBlock) (n:=t438.length) (c:=co63) ?_).2.2;exact (by (with_reducible repeat (first|apply aR|apply nR|apply dR));exact (Kd.R_mono (Kd.R_far (p:=⟨gb446,7,none⟩) (Kd.R_far (p:=⟨gb446,6,none⟩) (Kd.R_far (p:=⟨gb446,5,none⟩) (Kd.R_far (p:=⟨gb446,4,none⟩) (Kd.R_far (p:=⟨gb446,3,none⟩) (Kd.R_far (p:=⟨gb446,2,none⟩) (Kd.R_far (p:=⟨gb446,1,none⟩) (Kd.R_far (p:=⟨gb446,0,none⟩) (Kd.R_types HO440.out BK446.out (by decide)) (fun _ hk=>hk.2) (.int .i64 t433)) (fun _ hk=>hk.2) (.int .i64 t434)) (fun _ hk=>hk.2) (.int .i64 t435)) (fun _ hk=>hk.2) (.int .i64 t436)) (fun _ hk=>hk.2) (.int .i64 t437)) (fun _ hk=>hk.2) (.slice Ao63 t438.length co63)) (fun _ hk=>hk.2) (.int .i64 t441)) (fun _ hk=>hk.2) (.slice Ao66 t442.length co66)) (fun _ h_=>h_.1))));(case side2=>exact (Kd.R_reads' HO440.out).2.1);(case side3=>exact Kd.C_below HR0_5.out (kB HB.out));(case side4=>exact HC0_5.out);rintro e w71 ⟨rfl,hb⟩;replace HO432:=mk0 (Kd.R_below (by (with_reducible repeat (first|apply aR|apply nR|apply dR));exact (Kd.R_mono (Kd.R_far (p:=⟨gb446,7,none⟩) (Kd.R_far (p:=⟨gb446,6,none⟩) (Kd.R_far (p:=⟨gb446,5,none⟩) (Kd.R_far (p:=⟨gb446,4,none⟩) (Kd.R_far (p:=⟨gb446,3,none⟩) (Kd.R_far (p:=⟨gb446,2,none⟩) (Kd.R_far (p:=⟨gb446,1,none⟩) (Kd.R_far (p:=⟨gb446,0,none⟩) (Kd.R_types HO432.out BK446.out (by decide)) (fun _ hk=>hk.2) (.int .i64 t433)) (fun _ hk=>hk.2) (.int .i64 t434)) (fun _ hk=>hk.2) (.int .i64 t435)) (fun _ hk=>hk.2) (.int .i64 t436)) (fun _ hk=>hk.2) (.int .i64 t437)) (fun _ hk=>hk.2) (.slice Ao63 t438.length co63)) (fun _ hk=>hk.2) (.int .i64 t441)) (fun _ hk=>hk.2) (.slice Ao66 t442.length co66)) (fun _ h_=>h_.1))) hb);replace HO440:=mk0 (Kd.R_below (by (with_reducible repeat (first|apply aR|apply nR|apply dR));exact (Kd.R_mono (Kd.R_far (p:=⟨gb446,7,none⟩) (Kd.R_far (p:=⟨gb446,6,none⟩) (Kd.R_far (p:=⟨gb446,5,none⟩) (Kd.R_far (p:=⟨gb446,4,none⟩) (Kd.R_far (p:=⟨gb446,3,none⟩) (Kd.R_far (p:=⟨gb446,2,none⟩) (Kd.R_far (p:=⟨gb446,1,none⟩) (Kd.R_far (p:=⟨gb446,0,none⟩) (Kd.R_types HO440.out BK446.out (by decide)) (fun _ hk=>hk.2) (.int .i64 t433)) (fun _ hk=>hk.2) (.int .i64 t434)) (fun _ hk=>hk.2) (.int .i64 t435)) (fun _ hk=>hk.2) (.int .i64 t436)) (fun _ hk=>hk.2) (.int .i64 t437)) (fun _ hk=>hk.2) (.slice Ao63 t438.length co63)) (fun _ hk=>hk.2) (.int .i64 t441)) (fun _ hk=>hk.2) (.slice Ao66 t442.length co66)) (fun _ h_=>h_.1))) hb);replace HO444:=mk0 (Kd.R_below (by (with_reducible repeat (first|apply aR|apply nR|apply dR));exact (Kd.R_mono (Kd.R_far (p:=⟨gb446,7,none⟩) (Kd.R_far (p:=⟨gb446,6,none⟩) (Kd.R_far (p:=⟨gb446,5,none⟩) (Kd.R_far (p:=⟨gb446,4,none⟩) (Kd.R_far (p:=⟨gb446,3,none⟩) (Kd.R_far (p:=⟨gb446,2,none⟩) (Kd.R_far (p:=⟨gb446,1,none⟩) (Kd.R_far (p:=⟨gb446,0,none⟩) (Kd.R_types HO444.out BK446.out (by decide)) (fun _ hk=>hk.2) (.int .i64 t433)) (fun _ hk=>hk.2) (.int .i64 t434)) (fun _ hk=>hk.2) (.int .i64 t435)) (fun _ hk=>hk.2) (.int .i64 t436)) (fun _ hk=>hk.2) (.int .i64 t437)) (fun _ hk=>hk.2) (.slice Ao63 t438.length co63)) (fun _ hk=>hk.2) (.int .i64 t441)) (fun _ hk=>hk.2) (.slice Ao66 t442.length co66)) (fun _ h_=>h_.1))) hb);replace BK427:=mk0 (blk_below (g:=gb427) (o:=.cells #[.int .i64 a0_0,.int .i64 a0_1,.int .i64 a0_2,.int .i64 a0_3,.int .i64 a0_4,.slice A0_5 l0_5.length c0_5,.int .i64 a0_6,.slice A0_7 l0_7.length c0_7] 33 (0,0)) (by (with_reducible repeat (first|apply nB|apply dB|apply aB));refine blk_far ?_ NB427_446.out _;(with_reducible repeat (first|apply nB|apply dB|apply aB));refine blk_far ?_ NB427_446.out _;(with_reducible repeat (first|apply nB|apply dB|apply aB));refine blk_far ?_ NB427_446.out _;(with_reducible repeat (first|apply nB|apply dB|apply aB));refine blk_far ?_ NB427_446.out _;(with_reducible repeat (first|apply nB|apply dB|apply aB));refine blk_far ?_ NB427_446.out _;(with_reducible repeat (first|apply nB|apply dB|apply aB));refine blk_far ?_ NB427_446.out _;(with_reducible repeat (first|apply nB|apply dB|apply aB));refine blk_far ?_ NB427_446.out _;(with_reducible repeat (first|apply nB|apply dB|apply aB));refine blk_far ?_ NB427_446.out _;(with_reducible repeat (first|apply nB|apply dB|apply aB));exact BK427.out) hb);replace BK446:=mk0 (blk_below (g:=gb446) (o:=.cells #[.int .i64 t433,.int .i64 t434,.int .i64 t435,.int .i64 t436,.int .i64 t437,.slice Ao63 t438.length co63,.int .i64 t441,.slice Ao66 t442.length co66] 33 (0,0)) (by (with_reducible repeat (first|apply nB|apply dB|apply aB));refine blk_put (cs:=#[.int .i64 t433,.int .i64 t434,.int .i64 t435,.int .i64 t436,.int .i64 t437,.slice Ao63 t438.length co63,.int .i64 t441,.slice none 0 0]) ?_ 7 _ rfl;(with_reducible repeat (first|apply nB|apply dB|apply aB));refine blk_put (cs:=#[.int .i64 t433,.int .i64 t434,.int .i64 t435,.int .i64 t436,.int .i64 t437,.slice Ao63 t438.length co63,.int .i64 0,.slice none 0 0]) ?_ 6 _ rfl;(with_reducible repeat (first|apply nB|apply dB|apply aB));refine blk_put (cs:=#[.int .i64 t433,.int .i64 t434,.int .i64 t435,.int .i64 t436,.int .i64 t437,.slice none 0 0,.int .i64 0,.slice none 0 0]) ?_ 5 _ rfl;(with_reducible repeat (first|apply nB|apply dB|apply aB));refine blk_put (cs:=#[.int .i64 t433,.int .i64 t434,.int .i64 t435,.int .i64 t436,.int .i64 0,.slice none 0 0,.int .i64 0,.slice none 0 0]) ?_ 4 _ rfl;(with_reducible repeat (first|apply nB|apply dB|apply aB));refine blk_put (cs:=#[.int .i64 t433,.int .i64 t434,.int .i64 t435,.int .i64 0,.int .i64 0,.slice none 0 0,.int .i64 0,.slice none 0 0]) ?_ 3 _ rfl;(with_reducible repeat (first|apply nB|apply dB|apply aB));refine blk_put (cs:=#[.int .i64 t433,.int .i64 t434,.int .i64 0,.int .i64 0,.int .i64 0,.slice none 0 0,.int .i64 0,.slice none 0 0]) ?_ 2 _ rfl;(with_reducible repeat (first|apply nB|apply dB|apply aB));refine blk_put (cs:=#[.int .i64 t433,.int .i64 0,.int .i64 0,.int .i64 0,.int .i64 0,.slice none 0 0,.int .i64 0,.slice none 0 0]) ?_ 1 _ rfl;(with_reducible repeat (first|apply nB|apply dB|apply aB));refine blk_put (cs:=#[.int .i64 0,.int .i64 0,.int .i64 0,.int .i64 0,.int .i64 0,.slice none 0 0,.int .i64 0,.slice none 0 0]) ?_ 0 _ rfl;(with_reducible repeat (first|apply nB|apply dB|apply aB));exact BK446.out) hb);replace HB:=mk0 (kS HB.out hb);(try clear hb)))
    go_ret
    exact⟨by first|rfl|(simp [errW_none,errW_some] <;> rfl)|(simp [*,errW_none,errW_some] <;> rfl),kB HB.out⟩
   subst c27
   have H1:((spec_l03Same.f kj1 t441 t442 a0_6 l0_7).bind fun t448=>(some t448)) = some r:=by rw [if_pos rfl] at H;exact H
   clear H
   have H:=H1
   clear H1
   replace H:=Option.bind_eq_some_iff.mp H
   obtain⟨t448,A280,H⟩:=H
   replace H:(some t448) = some r:=H
   have A28:=mk0 A280
   clear A280
   obtain rfl:=Option.some.inj H
   try go_wp2
   replace BK427:=mk0 (dB BK427.out)
   replace HB:=mk0 (dZ HB.out)
   refine start_ (n:=11) (S:=fun w'=>w'.cell? ⟨gb427,0,none⟩ = some (.int .i64 a0_0) ∧ w'.cell? ⟨gb427,1,none⟩ = some (.int .i64 a0_1) ∧ w'.cell? ⟨gb427,2,none⟩ = some (.int .i64 a0_2) ∧ w'.cell? ⟨gb427,3,none⟩ = some (.int .i64 a0_3) ∧ w'.cell? ⟨gb427,4,none⟩ = some (.int .i64 a0_4) ∧ w'.cell? ⟨gb427,5,none⟩ = some (.slice A0_5 l0_5.length c0_5) ∧ w'.cell? ⟨gb427,6,none⟩ = some (.int .i64 a0_6) ∧ w'.cell? ⟨gb427,7,none⟩ = some (.slice A0_7 l0_7.length c0_7)) (ds:=[]) spec_SparseOk.m0 (by kernel_rfl) rfl rfl (ck8 BK427.out) (fun hHeld=>?_);refine with_tabW spec_SparseOk.tab3 spec_SparseOk.bits3 (fun HT_ HW_=>?_)
   generalize wc.drew = w29 at BK427 HB hHeld ⊢
   refine pure_ (i:=2) (N:=some 24) (v:=?_) (a':=?_) spec_SparseOk.m1 rfl rfl (any_of HT_.out (by kernel_rfl)) (fun _ _ _ h=>h) (Or.inl ⟨by rfl,?_⟩) ?_ ?_
   rotate_left
   ·intro w'
    go_simp
    with_reducible rfl
   rotate_left
   ·simp only [Act.put,sA,sO,sS,i64_w,i32_w]
    rfl
   refine take_ (i:=0) (N:=some 22) (v:=?_) (a':=?_) spec_SparseOk.m2 rfl rfl (take_ofW HT_.out HW_.out (by kernel_rfl)) (fun _ _ _ h=>h) (Or.inl ⟨by rfl,?_⟩) hHeld ?_ ?_
   rotate_left
   ·rintro w' ⟨s0,s1,s2,s3,s4,s5,s6,s7⟩
    go_simp
    with_reducible rfl
   rotate_left
   ·simp only [Act.put,sA,sO,sS,i64_w,i32_w]
    rfl
   refine take_ (i:=3) (N:=some 25) (v:=?_) (a':=?_) spec_SparseOk.m3 rfl rfl (take_ofW HT_.out HW_.out (by kernel_rfl)) (fun _ _ _ h=>h) (Or.inl ⟨by rfl,?_⟩) hHeld ?_ ?_
   rotate_left
   ·rintro w' ⟨s0,s1,s2,s3,s4,s5,s6,s7⟩
    go_simp
    with_reducible rfl
   rotate_left
   ·simp only [Act.put,sA,sO,sS,i64_w,i32_w]
    rfl
   refine join_ (σ:=Value × Value × Value × Nat) 2 spec_SparseOk.m4 (fun s_=>[(23,s_.1),(26,.tuple #[.agg #[.int .i64 t433,.int .i64 t434,.int .i64 t435,.int .i64 t436,.int .i64 t437,s_.2.1,.int .i64 t441,s_.2.2.1],.bool true]),(3,.pointer (some ⟨s_.2.2.2,0,none⟩)),(21,.tuple #[.agg #[.int .i64 t433,.int .i64 t434,.int .i64 t435,.int .i64 t436,.int .i64 t437,s_.2.1,.int .i64 t441,s_.2.2.1],.bool true]),(27,.agg #[.int .i64 t433,.int .i64 t434,.int .i64 t435,.int .i64 t436,.int .i64 t437,s_.2.1,.int .i64 t441,s_.2.2.1]),(28,.bool true)]) (fun s_ w'=>(w'.cell? ⟨gb427,0,none⟩ = some (.int .i64 a0_0) ∧ w'.cell? ⟨gb427,1,none⟩ = some (.int .i64 a0_1) ∧ w'.cell? ⟨gb427,2,none⟩ = some (.int .i64 a0_2) ∧ w'.cell? ⟨gb427,3,none⟩ = some (.int .i64 a0_3) ∧ w'.cell? ⟨gb427,4,none⟩ = some (.int .i64 a0_4) ∧ w'.cell? ⟨gb427,5,none⟩ = some (.slice A0_5 l0_5.length c0_5) ∧ w'.cell? ⟨gb427,6,none⟩ = some (.int .i64 a0_6) ∧ w'.cell? ⟨gb427,7,none⟩ = some (.slice A0_7 l0_7.length c0_7)) ∧ (Kd.R (Kd.int .i64) 3 w' w.heap.size (fun _=>True) s_.1 t430) ∧ (Kd.R (Kd.int .u64) 78 w' w.heap.size (fun k_=>some k_ ≠ (s_.2.2.1:Value).ownBlock) s_.2.1 t438) ∧ (Kd.R (Kd.int .u64) 78 w' w.heap.size (fun k_=>some k_ ≠ (s_.2.1:Value).ownBlock) s_.2.2.1 t442) ∧ (w'.heap[gb427]? = some (.cells #[.int .i64 a0_0,.int .i64 a0_1,.int .i64 a0_2,.int .i64 a0_3,.int .i64 a0_4,.slice A0_5 l0_5.length c0_5,.int .i64 a0_6,.slice A0_7 l0_7.length c0_7] 33 (0,0))) ∧ (w'.heap[s_.2.2.2]? = some (.cells #[.int .i64 0,.int .i64 0,.int .i64 0,.int .i64 0,.int .i64 0,.slice none 0 0,.int .i64 0,.slice none 0 0] 33 (0,0))) ∧ (w.heap.size ≤ s_.2.2.2) ∧ (w.heap.size ≤ s_.2.2.2) ∧ (gb427 ≠ s_.2.2.2) ∧ (s_.2.2.2 ≠ gb427) ∧ (Below w.heap.size w w')) ?_ ?_
   rotate_left
   ·intro hCont
    refine two_ (i:=1) (j:=8) (Ni:=some 23) (Nj:=some 3) spec_SparseOk.m5 spec_SparseOk.m6 rfl rfl rfl rfl (two_of HT_.out (by kernel_rfl)) (by decide) (by decide) (fun K hK=>?_) (fun K hK=>?_)
    ·skip
     refine goes_ Try.func49 (by kernel_rfl) rfl #[.agg #[.int .i64 a0_0,.int .i64 a0_1,.int .i64 a0_2,.int .i64 a0_3,.int .i64 a0_4,.slice A0_5 l0_5.length c0_5,.int .i64 a0_6,.slice A0_7 l0_7.length c0_7]] (by rfl) rfl rfl (by (try simp only [mA,mC,mN]);first|done|rfl|(simp only [List.length_drop,List.length_take];rfl)) ?_
     with_reducible refine (spec_l03List.calls kj1 a0_0 a0_1 a0_2 a0_3 a0_4 _ _ l0_5 a0_6 _ _ l0_7 t430 _ ?side1 ?side2 ?side3 ?side4 A20.out).mono ?_
     (case side1=>exact kC (Kd.C_below HR0_5.out HB.out))
     (case side2=>exact HC0_5.out)
     (case side3=>exact kC (Kd.C_below HR0_7.out HB.out))
     (case side4=>exact HC0_7.out)
     rintro e w30 ⟨v431,rfl,ho0,hb⟩
     refine⟨_,rfl,?_⟩
     have HO432:=mk0 (Kd.R_lower ho0 (kZ HB.out))
     replace BK427:=mk0 (kK BK427.out hb)
     replace HB:=mk0 (kS HB.out hb)
     (try clear hb)
     (try clear ho0)
     obtain⟨Ao31,co31,eo31⟩:=Kd.R_slice HO432.out
     (first|subst eo31|(injection eo31 with f1_ f2_ f3_;have f4_:=f1_.symm;have f5_:=f3_.symm;clear f1_ f2_ f3_;subst f4_;subst f5_))
     refine hK.out _ _ (ck8 BK427.out) (fun hHeld=>?_)
     clear hK K
     refine norm_ (a':=?_) ?_ ?_
     rotate_left
     ·show Act.put _ (some 23) _ = _
      simp only [Act.put,sA,sO,sS,i64_w,i32_w]
      rfl
     refine two_ (i:=4) (j:=8) (Ni:=some 26) (Nj:=some 3) spec_SparseOk.m7 spec_SparseOk.m8 rfl rfl rfl rfl (two_of HT_.out (by kernel_rfl)) (by decide) (by decide) (fun K hK=>?_) (fun K hK=>?_)
     ·skip
      refine goes_ Try.func9 (by kernel_rfl) rfl #[.slice Ao31 t430.length co31,.int .i64 a0_0] (by rfl) rfl rfl (by (try simp only [mA,mC,mN]);first|done|rfl|(simp only [List.length_drop,List.length_take];rfl)) ?_
      with_reducible refine (spec_SparseOf.calls kj1 _ _ t430 a0_0 t433 t434 t435 t436 t437 t438 t441 t442 true _ ?side1 ?side2 A21.out).mono ?_
      (case side1=>exact kC (Kd.R_reads' HO432.out).2.2)
      (case side2=>exact (Kd.R_reads' HO432.out).2.1)
      rintro e w32 ⟨v439,v443,rfl,ho0,ho1,hb⟩
      refine⟨_,rfl,?_⟩
      replace HO432:=mk0 (bR HO432.out hb)
      have HO440:=mk0 (Kd.R_lower ho0 (kZ HB.out))
      have HO444:=mk0 (Kd.R_lower ho1 (kZ HB.out))
      replace BK427:=mk0 (kK BK427.out hb)
      replace HB:=mk0 (kS HB.out hb)
      (try clear hb)
      (try clear ho0)
      (try clear ho1)
      refine hK.out _ _ (ck8 BK427.out) (fun hHeld=>?_)
      clear hK K
      refine norm_ (a':=?_) ?_ ?_
      rotate_left
      ·show Act.put _ (some 26) _ = _
       simp only [Act.put,sA,sO,sS,i64_w,i32_w]
       rfl
      refine pure_ (i:=5) (N:=some 21) (v:=?_) (a':=?_) spec_SparseOk.m9 rfl rfl (any_of HT_.out (by kernel_rfl)) (fun _ _ _ h=>h) (Or.inl ⟨by rfl,?_⟩) ?_ ?_
      rotate_left
      ·intro w'
       go_simp
       with_reducible rfl
      rotate_left
      ·simp only [Act.put,sA,sO,sS,i64_w,i32_w]
       rfl
      refine pure_ (i:=6) (N:=some 27) (v:=?_) (a':=?_) spec_SparseOk.m10 rfl rfl (any_of HT_.out (by kernel_rfl)) (fun _ _ _ h=>h) (Or.inl ⟨by rfl,?_⟩) ?_ ?_
      rotate_left
      ·intro w'
       go_simp
       with_reducible rfl
      rotate_left
      ·simp only [Act.put,sA,sO,sS,i64_w,i32_w]
       rfl
      refine pure_ (i:=7) (N:=some 28) (v:=?_) (a':=?_) spec_SparseOk.m11 rfl rfl (any_of HT_.out (by kernel_rfl)) (fun _ _ _ h=>h) (Or.inl ⟨by rfl,?_⟩) ?_ ?_
      rotate_left
      ·intro w'
       go_simp
       with_reducible rfl
      rotate_left
      ·simp only [Act.put,sA,sO,sS,i64_w,i32_w]
       rfl
      refine one_ (i:=8) (N:=some 3) spec_SparseOk.m4 rfl rfl (one_of HT_.out (by kernel_rfl)) (by decide) (fun K hK=>?_)
      refine box_step ?hg (N:=3) ?hd (cs:=#[.int .i64 0,.int .i64 0,.int .i64 0,.int .i64 0,.int .i64 0,.slice none 0 0,.int .i64 0,.slice none 0 0]) (t:=33) ?hr ?_;(case hd=>rfl);(case hg=>rfl);(case hr=>first|(go_simp;done)|(go_simp;rfl))
      intro gb446 hg w33 hbox hb
      replace HO432:=mk0 (bR HO432.out hb)
      replace HO440:=mk0 (bR HO440.out hb)
      replace HO444:=mk0 (bR HO444.out hb)
      have BK446:=mk0 (hbox)
      have GW446:=mk0 ((by rw [hg];exact (kZ HB.out):w.heap.size ≤ gb446))
      have GE446:=mk0 ((by rw [hg];exact (kZ HB.out):w.heap.size ≤ gb446))
      replace HB:=mk0 (kS HB.out hb)
      have NB427_446:=mk0 ((by rw [hg];exact Nat.ne_of_lt (kL BK427.out):gb427 ≠ gb446))
      have NB446_427:=mk0 ((by rw [hg];exact Nat.ne_of_gt (kL BK427.out):gb446 ≠ gb427))
      replace BK427:=mk0 (kK BK427.out hb)
      clear hb hbox hg
      refine hK.out _ _ (ck8 BK427.out) (fun hHeld=>?_)
      clear hK K
      refine norm_ (a':=?_) ?_ ?_
      rotate_left
      ·show Act.put _ (some 3) _ = _
       simp only [Act.put,sA,sO,sS,i64_w,i32_w]
       rfl
      exact norm_ (by simp only [putAll,Act.put,sA,sO,sS]) (hCont (.slice Ao31 t430.length co31,v439,v443,gb446) _ ⟨hHeld,(rR HO432.out),(rR HO440.out),(rR HO444.out),(kN BK427.out),(kN BK446.out),GW446.out,GE446.out,NB427_446.out,NB446_427.out,(kB HB.out)⟩)
     ·skip
      refine box_step ?hg (N:=3) ?hd (cs:=#[.int .i64 0,.int .i64 0,.int .i64 0,.int .i64 0,.int .i64 0,.slice none 0 0,.int .i64 0,.slice none 0 0]) (t:=33) ?hr ?_;(case hd=>rfl);(case hg=>rfl);(case hr=>first|(go_simp;done)|(go_simp;rfl))
      intro gb446 hg w31 hbox hb
      replace HO432:=mk0 (bR HO432.out hb)
      have BK446:=mk0 (hbox)
      have GW446:=mk0 ((by rw [hg];exact (kZ HB.out):w.heap.size ≤ gb446))
      have GE446:=mk0 ((by rw [hg];exact (kZ HB.out):w.heap.size ≤ gb446))
      replace HB:=mk0 (kS HB.out hb)
      have NB427_446:=mk0 ((by rw [hg];exact Nat.ne_of_lt (kL BK427.out):gb427 ≠ gb446))
      have NB446_427:=mk0 ((by rw [hg];exact Nat.ne_of_gt (kL BK427.out):gb446 ≠ gb427))
      replace BK427:=mk0 (kK BK427.out hb)
      clear hb hbox hg
      obtain⟨Ao32,co32,eo32⟩:=Kd.R_slice HO432.out
      (first|subst eo32|(injection eo32 with f1_ f2_ f3_;have f4_:=f1_.symm;have f5_:=f3_.symm;clear f1_ f2_ f3_;subst f4_;subst f5_))
      refine hK.out _ _ (ck8 BK427.out) (fun hHeld=>?_)
      clear hK K
      refine norm_ (a':=?_) ?_ ?_
      rotate_left
      ·show Act.put _ (some 3) _ = _
       simp only [Act.put,sA,sO,sS,i64_w,i32_w]
       rfl
      refine one_ (i:=4) (N:=some 26) spec_SparseOk.m12 rfl rfl (one_of HT_.out (by kernel_rfl)) (by decide) (fun K hK=>?_)
      refine goes_ Try.func9 (by kernel_rfl) rfl #[.slice Ao32 t430.length co32,.int .i64 a0_0] (by rfl) rfl rfl (by (try simp only [mA,mC,mN]);first|done|rfl|(simp only [List.length_drop,List.length_take];rfl)) ?_
      with_reducible refine (spec_SparseOf.calls kj1 _ _ t430 a0_0 t433 t434 t435 t436 t437 t438 t441 t442 true _ ?side1 ?side2 A21.out).mono ?_
      (case side1=>exact kC (Kd.R_reads' HO432.out).2.2)
      (case side2=>exact (Kd.R_reads' HO432.out).2.1)
      rintro e w33 ⟨v439,v443,rfl,ho0,ho1,hb⟩
      refine⟨_,rfl,?_⟩
      replace HO432:=mk0 (bR HO432.out hb)
      have HO440:=mk0 (Kd.R_lower ho0 (kZ HB.out))
      have HO444:=mk0 (Kd.R_lower ho1 (kZ HB.out))
      replace BK427:=mk0 (kK BK427.out hb)
      replace BK446:=mk0 (kK BK446.out hb)
      replace HB:=mk0 (kS HB.out hb)
      (try clear hb)
      (try clear ho0)
      (try clear ho1)
      refine hK.out _ _ (ck8 BK427.out) (fun hHeld=>?_)
      clear hK K
      refine norm_ (a':=?_) ?_ ?_
      rotate_left
      ·show Act.put _ (some 26) _ = _
       simp only [Act.put,sA,sO,sS,i64_w,i32_w]
       rfl
      refine pure_ (i:=5) (N:=some 21) (v:=?_) (a':=?_) spec_SparseOk.m13 rfl rfl (any_of HT_.out (by kernel_rfl)) (fun _ _ _ h=>h) (Or.inl ⟨by rfl,?_⟩) ?_ ?_
      rotate_left
      ·intro w'
       go_simp
       with_reducible rfl
      rotate_left
      ·simp only [Act.put,sA,sO,sS,i64_w,i32_w]
       rfl
      refine pure_ (i:=6) (N:=some 27) (v:=?_) (a':=?_) spec_SparseOk.m14 rfl rfl (any_of HT_.out (by kernel_rfl)) (fun _ _ _ h=>h) (Or.inl ⟨by rfl,?_⟩) ?_ ?_
      rotate_left
      ·intro w'
       go_simp
       with_reducible rfl
      rotate_left
      ·simp only [Act.put,sA,sO,sS,i64_w,i32_w]
       rfl
      refine pure_ (i:=7) (N:=some 28) (v:=?_) (a':=?_) spec_SparseOk.m4 rfl rfl (any_of HT_.out (by kernel_rfl)) (fun _ _ _ h=>h) (Or.inl ⟨by rfl,?_⟩) ?_ ?_
      rotate_left
      ·intro w'
       go_simp
       with_reducible rfl
      rotate_left
      ·simp only [Act.put,sA,sO,sS,i64_w,i32_w]
       rfl
      exact norm_ (by simp only [putAll,Act.put,sA,sO,sS]) (hCont (.slice Ao32 t430.length co32,v439,v443,gb446) _ ⟨hHeld,(rR HO432.out),(rR HO440.out),(rR HO444.out),(kN BK427.out),(kN BK446.out),GW446.out,GE446.out,NB427_446.out,NB446_427.out,(kB HB.out)⟩)
    ·skip
     refine box_step ?hg (N:=3) ?hd (cs:=#[.int .i64 0,.int .i64 0,.int .i64 0,.int .i64 0,.int .i64 0,.slice none 0 0,.int .i64 0,.slice none 0 0]) (t:=33) ?hr ?_;(case hd=>rfl);(case hg=>rfl);(case hr=>first|(go_simp;done)|(go_simp;rfl))
     intro gb446 hg w30 hbox hb
     have BK446:=mk0 (hbox)
     have GW446:=mk0 ((by rw [hg];exact (kZ HB.out):w.heap.size ≤ gb446))
     have GE446:=mk0 ((by rw [hg];exact (kZ HB.out):w.heap.size ≤ gb446))
     replace HB:=mk0 (kS HB.out hb)
     have NB427_446:=mk0 ((by rw [hg];exact Nat.ne_of_lt (kL BK427.out):gb427 ≠ gb446))
     have NB446_427:=mk0 ((by rw [hg];exact Nat.ne_of_gt (kL BK427.out):gb446 ≠ gb427))
     replace BK427:=mk0 (kK BK427.out hb)
     clear hb hbox hg
     refine hK.out _ _ (ck8 BK427.out) (fun hHeld=>?_)
     clear hK K
     refine norm_ (a':=?_) ?_ ?_
     rotate_left
     ·show Act.put _ (some 3) _ = _
      simp only [Act.put,sA,sO,sS,i64_w,i32_w]
      rfl
     refine one_ (i:=1) (N:=some 23) spec_SparseOk.m8 rfl rfl (one_of HT_.out (by kernel_rfl)) (by decide) (fun K hK=>?_)
     refine goes_ Try.func49 (by kernel_rfl) rfl #[.agg #[.int .i64 a0_0,.int .i64 a0_1,.int .i64 a0_2,.int .i64 a0_3,.int .i64 a0_4,.slice A0_5 l0_5.length c0_5,.int .i64 a0_6,.slice A0_7 l0_7.length c0_7]] (by rfl) rfl rfl (by (try simp only [mA,mC,mN]);first|done|rfl|(simp only [List.length_drop,List.length_take];rfl)) ?_
     with_reducible refine (spec_l03List.calls kj1 a0_0 a0_1 a0_2 a0_3 a0_4 _ _ l0_5 a0_6 _ _ l0_7 t430 _ ?side1 ?side2 ?side3 ?side4 A20.out).mono ?_
     (case side1=>exact kC (Kd.C_below HR0_5.out HB.out))
     (case side2=>exact HC0_5.out)
     (case side3=>exact kC (Kd.C_below HR0_7.out HB.out))
     (case side4=>exact HC0_7.out)
     rintro e w31 ⟨v431,rfl,ho0,hb⟩
     refine⟨_,rfl,?_⟩
     have HO432:=mk0 (Kd.R_lower ho0 (kZ HB.out))
     replace BK427:=mk0 (kK BK427.out hb)
     replace BK446:=mk0 (kK BK446.out hb)
     replace HB:=mk0 (kS HB.out hb)
     (try clear hb)
     (try clear ho0)
     obtain⟨Ao32,co32,eo32⟩:=Kd.R_slice HO432.out
     (first|subst eo32|(injection eo32 with f1_ f2_ f3_;have f4_:=f1_.symm;have f5_:=f3_.symm;clear f1_ f2_ f3_;subst f4_;subst f5_))
     refine hK.out _ _ (ck8 BK427.out) (fun hHeld=>?_)
     clear hK K
     refine norm_ (a':=?_) ?_ ?_
     rotate_left
     ·show Act.put _ (some 23) _ = _
      simp only [Act.put,sA,sO,sS,i64_w,i32_w]
      rfl
     refine one_ (i:=4) (N:=some 26) spec_SparseOk.m12 rfl rfl (one_of HT_.out (by kernel_rfl)) (by decide) (fun K hK=>?_)
     refine goes_ Try.func9 (by kernel_rfl) rfl #[.slice Ao32 t430.length co32,.int .i64 a0_0] (by rfl) rfl rfl (by (try simp only [mA,mC,mN]);first|done|rfl|(simp only [List.length_drop,List.length_take];rfl)) ?_
     with_reducible refine (spec_SparseOf.calls kj1 _ _ t430 a0_0 t433 t434 t435 t436 t437 t438 t441 t442 true _ ?side1 ?side2 A21.out).mono ?_
     (case side1=>exact kC (Kd.R_reads' HO432.out).2.2)
     (case side2=>exact (Kd.R_reads' HO432.out).2.1)
     rintro e w33 ⟨v439,v443,rfl,ho0,ho1,hb⟩
     refine⟨_,rfl,?_⟩
     replace HO432:=mk0 (bR HO432.out hb)
     have HO440:=mk0 (Kd.R_lower ho0 (kZ HB.out))
     have HO444:=mk0 (Kd.R_lower ho1 (kZ HB.out))
     replace BK427:=mk0 (kK BK427.out hb)
     replace BK446:=mk0 (kK BK446.out hb)
     replace HB:=mk0 (kS HB.out hb)
     (try clear hb)
     (try clear ho0)
     (try clear ho1)
     refine hK.out _ _ (ck8 BK427.out) (fun hHeld=>?_)
     clear hK K
     refine norm_ (a':=?_) ?_ ?_
     rotate_left
     ·show Act.put _ (some 26) _ = _
      simp only [Act.put,sA,sO,sS,i64_w,i32_w]
      rfl
     refine pure_ (i:=5) (N:=some 21) (v:=?_) (a':=?_) spec_SparseOk.m13 rfl rfl (any_of HT_.out (by kernel_rfl)) (fun _ _ _ h=>h) (Or.inl ⟨by rfl,?_⟩) ?_ ?_
     rotate_left
     ·intro w'
      go_simp
      with_reducible rfl
     rotate_left
     ·simp only [Act.put,sA,sO,sS,i64_w,i32_w]
      rfl
     refine pure_ (i:=6) (N:=some 27) (v:=?_) (a':=?_) spec_SparseOk.m14 rfl rfl (any_of HT_.out (by kernel_rfl)) (fun _ _ _ h=>h) (Or.inl ⟨by rfl,?_⟩) ?_ ?_
     rotate_left
     ·intro w'
      go_simp
      with_reducible rfl
     rotate_left
     ·simp only [Act.put,sA,sO,sS,i64_w,i32_w]
      rfl
     refine pure_ (i:=7) (N:=some 28) (v:=?_) (a':=?_) spec_SparseOk.m4 rfl rfl (any_of HT_.out (by kernel_rfl)) (fun _ _ _ h=>h) (Or.inl ⟨by rfl,?_⟩) ?_ ?_
     rotate_left
     ·intro w'
      go_simp
      with_reducible rfl
     rotate_left
     ·simp only [Act.put,sA,sO,sS,i64_w,i32_w]
      rfl
     exact norm_ (by simp only [putAll,Act.put,sA,sO,sS]) (hCont (.slice Ao32 t430.length co32,v439,v443,gb446) _ ⟨hHeld,(rR HO432.out),(rR HO440.out),(rR HO444.out),(kN BK427.out),(kN BK446.out),GW446.out,GE446.out,NB427_446.out,NB446_427.out,(kB HB.out)⟩)
   rintro⟨v431,v439,v443,gb446⟩ w34 ⟨hS_,h0_,h1_,h2_,h3_,h4_,h5_,h6_,h7_,h8_,h9_⟩
   have n0_:Aside0 (Kd.R (Kd.int .i64) 3 w34 w.heap.size (fun _=>True) v431 t430):=⟨h0_⟩
   have n1_:Aside0 (Kd.R (Kd.int .u64) 78 w34 w.heap.size (fun k_=>some k_ ≠ (v443:Value).ownBlock) v439 t438):=⟨h1_⟩
   have n2_:Aside0 (Kd.R (Kd.int .u64) 78 w34 w.heap.size (fun k_=>some k_ ≠ (v439:Value).ownBlock) v443 t442):=⟨h2_⟩
   have n3_:Aside0 (w34.heap[gb427]? = some (.cells #[.int .i64 a0_0,.int .i64 a0_1,.int .i64 a0_2,.int .i64 a0_3,.int .i64 a0_4,.slice A0_5 l0_5.length c0_5,.int .i64 a0_6,.slice A0_7 l0_7.length c0_7] 33 (0,0))):=⟨h3_⟩
   have n4_:Aside0 (w34.heap[gb446]? = some (.cells #[.int .i64 0,.int .i64 0,.int .i64 0,.int .i64 0,.int .i64 0,.slice none 0 0,.int .i64 0,.slice none 0 0] 33 (0,0))):=⟨h4_⟩
   have n5_:Aside0 (w.heap.size ≤ gb446):=⟨h5_⟩
   have n6_:Aside0 (w.heap.size ≤ gb446):=⟨h6_⟩
   have n7_:Aside0 (gb427 ≠ gb446):=⟨h7_⟩
   have n8_:Aside0 (gb446 ≠ gb427):=⟨h8_⟩
   have n9_:Aside0 (Below w.heap.size w w34):=⟨h9_⟩
   clear BK427
   clear HB
   clear h0_ h1_ h2_ h3_ h4_ h5_ h6_ h7_ h8_ h9_
   have HO432:=n0_
   have HO440:=n1_
   have HO444:=n2_
   have BK427:=n3_
   have BK446:=n4_
   have GW446:=n5_
   have GE446:=n6_
   have NB427_446:=n7_
   have NB446_427:=n8_
   have HB:=n9_
   clear n0_ n1_ n2_ n3_ n4_ n5_ n6_ n7_ n8_ n9_
   have hHeld:w34.cell? ⟨gb427,0,none⟩ = some (.int .i64 a0_0) ∧ w34.cell? ⟨gb427,1,none⟩ = some (.int .i64 a0_1) ∧ w34.cell? ⟨gb427,2,none⟩ = some (.int .i64 a0_2) ∧ w34.cell? ⟨gb427,3,none⟩ = some (.int .i64 a0_3) ∧ w34.cell? ⟨gb427,4,none⟩ = some (.int .i64 a0_4) ∧ w34.cell? ⟨gb427,5,none⟩ = some (.slice A0_5 l0_5.length c0_5) ∧ w34.cell? ⟨gb427,6,none⟩ = some (.int .i64 a0_6) ∧ w34.cell? ⟨gb427,7,none⟩ = some (.slice A0_7 l0_7.length c0_7):=hS_
   obtain⟨Ao40,co40,eo40⟩:=Kd.R_slice HO440.out
   (first|subst eo40|(injection eo40 with f1_ f2_ f3_;have f4_:=f1_.symm;have f5_:=f3_.symm;clear f1_ f2_ f3_;subst f4_;subst f5_))
   obtain⟨Ao43,co43,eo43⟩:=Kd.R_slice HO444.out
   (first|subst eo43|(injection eo43 with f1_ f2_ f3_;have f4_:=f1_.symm;have f5_:=f3_.symm;clear f1_ f2_ f3_;subst f4_;subst f5_))
   refine norm_ (a':=?_) ?_ ?_
   rotate_left
   ·simp only [putAll,Act.put,sA,sO,sS]
    rfl
   refine one_ (i:=9) (N:=none) spec_SparseOk.m15 rfl rfl (one_of HT_.out (by kernel_rfl)) (by decide) (fun K hK=>?_)
   have hs35:w34.cell? ⟨gb446,0,none⟩ = some (.int .i64 0):=(blk_cell BK446.out 0).trans rfl
   have hfs35:=blk_frozen BK446.out 0
   have hns35_0:=NB427_446.out
   have hms35_0:=NB446_427.out
   have hs36:w34.cell? ⟨gb446,1,none⟩ = some (.int .i64 0):=(blk_cell BK446.out 1).trans rfl
   have hfs36:=blk_frozen BK446.out 1
   have hns36_0:=NB427_446.out
   have hms36_0:=NB446_427.out
   have hs37:w34.cell? ⟨gb446,2,none⟩ = some (.int .i64 0):=(blk_cell BK446.out 2).trans rfl
   have hfs37:=blk_frozen BK446.out 2
   have hns37_0:=NB427_446.out
   have hms37_0:=NB446_427.out
   have hs38:w34.cell? ⟨gb446,3,none⟩ = some (.int .i64 0):=(blk_cell BK446.out 3).trans rfl
   have hfs38:=blk_frozen BK446.out 3
   have hns38_0:=NB427_446.out
   have hms38_0:=NB446_427.out
   have hs39:w34.cell? ⟨gb446,4,none⟩ = some (.int .i64 0):=(blk_cell BK446.out 4).trans rfl
   have hfs39:=blk_frozen BK446.out 4
   have hns39_0:=NB427_446.out
   have hms39_0:=NB446_427.out
   have hs41:w34.cell? ⟨gb446,5,none⟩ = some (.slice none 0 0):=(blk_cell BK446.out 5).trans rfl
   have hfs41:=blk_frozen BK446.out 5
   have hns41_0:=NB427_446.out
   have hms41_0:=NB446_427.out
   have hs42:w34.cell? ⟨gb446,6,none⟩ = some (.int .i64 0):=(blk_cell BK446.out 6).trans rfl
   have hfs42:=blk_frozen BK446.out 6
   have hns42_0:=NB427_446.out
   have hms42_0:=NB446_427.out
   have hs44:w34.cell? ⟨gb446,7,none⟩ = some (.slice none 0 0):=(blk_cell BK446.out 7).trans rfl
   have hfs44:=blk_frozen BK446.out 7
   have hns44_0:=NB427_446.out
   have hms44_0:=NB446_427.out
   refine skip_ (w1:=?_) (by rfl) rfl ?_ ?_
   rotate_left
   ·go_simp
    rfl
   refine hK.out _ _ ⟨((cell_far (p:=⟨gb446,_,none⟩) NB427_446.out _).trans (((cell_far (p:=⟨gb446,_,none⟩) NB427_446.out _).trans (((cell_far (p:=⟨gb446,_,none⟩) NB427_446.out _).trans (((cell_far (p:=⟨gb446,_,none⟩) NB427_446.out _).trans (((cell_far (p:=⟨gb446,_,none⟩) NB427_446.out _).trans (((cell_far (p:=⟨gb446,_,none⟩) NB427_446.out _).trans (((cell_far (p:=⟨gb446,_,none⟩) NB427_446.out _).trans (((cell_far (p:=⟨gb446,_,none⟩) NB427_446.out _).trans (hHeld.1)))))))))))))))),((cell_far (p:=⟨gb446,_,none⟩) NB427_446.out _).trans (((cell_far (p:=⟨gb446,_,none⟩) NB427_446.out _).trans (((cell_far (p:=⟨gb446,_,none⟩) NB427_446.out _).trans (((cell_far (p:=⟨gb446,_,none⟩) NB427_446.out _).trans (((cell_far (p:=⟨gb446,_,none⟩) NB427_446.out _).trans (((cell_far (p:=⟨gb446,_,none⟩) NB427_446.out _).trans (((cell_far (p:=⟨gb446,_,none⟩) NB427_446.out _).trans (((cell_far (p:=⟨gb446,_,none⟩) NB427_446.out _).trans (hHeld.2.1)))))))))))))))),((cell_far (p:=⟨gb446,_,none⟩) NB427_446.out _).trans (((cell_far (p:=⟨gb446,_,none⟩) NB427_446.out _).trans (((cell_far (p:=⟨gb446,_,none⟩) NB427_446.out _).trans (((cell_far (p:=⟨gb446,_,none⟩) NB427_446.out _).trans (((cell_far (p:=⟨gb446,_,none⟩) NB427_446.out _).trans (((cell_far (p:=⟨gb446,_,none⟩) NB427_446.out _).trans (((cell_far (p:=⟨gb446,_,none⟩) NB427_446.out _).trans (((cell_far (p:=⟨gb446,_,none⟩) NB427_446.out _).trans (hHeld.2.2.1)))))))))))))))),((cell_far (p:=⟨gb446,_,none⟩) NB427_446.out _).trans (((cell_far (p:=⟨gb446,_,none⟩) NB427_446.out _).trans (((cell_far (p:=⟨gb446,_,none⟩) NB427_446.out _).trans (((cell_far (p:=⟨gb446,_,none⟩) NB427_446.out _).trans (((cell_far (p:=⟨gb446,_,none⟩) NB427_446.out _).trans (((cell_far (p:=⟨gb446,_,none⟩) NB427_446.out _).trans (((cell_far (p:=⟨gb446,_,none⟩) NB427_446.out _).trans (((cell_far (p:=⟨gb446,_,none⟩) NB427_446.out _).trans (hHeld.2.2.2.1)))))))))))))))),((cell_far (p:=⟨gb446,_,none⟩) NB427_446.out _).trans (((cell_far (p:=⟨gb446,_,none⟩) NB427_446.out _).trans (((cell_far (p:=⟨gb446,_,none⟩) NB427_446.out _).trans (((cell_far (p:=⟨gb446,_,none⟩) NB427_446.out _).trans (((cell_far (p:=⟨gb446,_,none⟩) NB427_446.out _).trans (((cell_far (p:=⟨gb446,_,none⟩) NB427_446.out _).trans (((cell_far (p:=⟨gb446,_,none⟩) NB427_446.out _).trans (((cell_far (p:=⟨gb446,_,none⟩) NB427_446.out _).trans (hHeld.2.2.2.2.1)))))))))))))))),((cell_far (p:=⟨gb446,_,none⟩) NB427_446.out _).trans (((cell_far (p:=⟨gb446,_,none⟩) NB427_446.out _).trans (((cell_far (p:=⟨gb446,_,none⟩) NB427_446.out _).trans (((cell_far (p:=⟨gb446,_,none⟩) NB427_446.out _).trans (((cell_far (p:=⟨gb446,_,none⟩) NB427_446.out _).trans (((cell_far (p:=⟨gb446,_,none⟩) NB427_446.out _).trans (((cell_far (p:=⟨gb446,_,none⟩) NB427_446.out _).trans (((cell_far (p:=⟨gb446,_,none⟩) NB427_446.out _).trans (hHeld.2.2.2.2.2.1)))))))))))))))),((cell_far (p:=⟨gb446,_,none⟩) NB427_446.out _).trans (((cell_far (p:=⟨gb446,_,none⟩) NB427_446.out _).trans (((cell_far (p:=⟨gb446,_,none⟩) NB427_446.out _).trans (((cell_far (p:=⟨gb446,_,none⟩) NB427_446.out _).trans (((cell_far (p:=⟨gb446,_,none⟩) NB427_446.out _).trans (((cell_far (p:=⟨gb446,_,none⟩) NB427_446.out _).trans (((cell_far (p:=⟨gb446,_,none⟩) NB427_446.out _).trans (((cell_far (p:=⟨gb446,_,none⟩) NB427_446.out _).trans (hHeld.2.2.2.2.2.2.1)))))))))))))))),((cell_far (p:=⟨gb446,_,none⟩) NB427_446.out _).trans (((cell_far (p:=⟨gb446,_,none⟩) NB427_446.out _).trans (((cell_far (p:=⟨gb446,_,none⟩) NB427_446.out _).trans (((cell_far (p:=⟨gb446,_,none⟩) NB427_446.out _).trans (((cell_far (p:=⟨gb446,_,none⟩) NB427_446.out _).trans (((cell_far (p:=⟨gb446,_,none⟩) NB427_446.out _).trans (((cell_far (p:=⟨gb446,_,none⟩) NB427_446.out _).trans (((cell_far (p:=⟨gb446,_,none⟩) NB427_446.out _).trans (hHeld.2.2.2.2.2.2.2))))))))))))))))⟩ (fun hHeld=>?_)
   clear hK K
   refine pure_ (i:=10) (N:=some 4) (v:=?_) (a':=?_) spec_SparseOk.m16 rfl rfl (any_of HT_.out (by kernel_rfl)) (fun _ _ _ h=>h) (Or.inl ⟨by rfl,?_⟩) ?_ ?_
   rotate_left
   ·intro w'
    go_simp
    with_reducible rfl
   rotate_left
   ·simp only [Act.put,sA,sO,sS,i64_w,i32_w]
    rfl
   refine done_ (done_of HT_.out (by kernel_rfl)) ?_
   have hnb45:=NB446_427.out
   have hnc45:=NB427_446.out
   obtain⟨hcz46_0,hcz46_1,hcz46_2,hcz46_3,hcz46_4,hcz46_5,hcz46_6,hcz46_7,hfz46_0,hfz46_1,hfz46_2,hfz46_3,hfz46_4,hfz46_5,hfz46_6,hfz46_7⟩:=cz8 BK446.out
   obtain⟨hcz47_0,hcz47_1,hcz47_2,hcz47_3,hcz47_4,hcz47_5,hcz47_6,hcz47_7,hfz47_0,hfz47_1,hfz47_2,hfz47_3,hfz47_4,hfz47_5,hfz47_6,hfz47_7⟩:=cz8 BK427.out
   try go_wp2_with (first|(go_at_call 71;(with_reducible refine (spec_l03Same.calls kj1 t437 _ _ t438 a0_4 _ _ l0_5 true _ ?side1 ?side2 ?side3 ?side4 A26.out).mono ?_);(case side1=>refine (Kd.R_reads' (e:=78) (base:=w.heap.size) (ok:=fun k_=>some k_ ≠ (.slice Ao43 t442.length co43:Value).ownBlock) (n:=t438.length) (c:=co40) ?_).2.2;exact (by (with_reducible repeat (first|apply aR|apply nR|apply dR));exact (Kd.R_mono (Kd.R_far (p:=⟨gb446,7,none⟩) (Kd.R_far (p:=⟨gb446,6,none⟩) (Kd.R_far (p:=⟨gb446,5,none⟩) (Kd.R_far (p:=⟨gb446,4,none⟩) (Kd.R_far (p:=⟨gb446,3,none⟩) (Kd.R_far (p:=⟨gb446,2,none⟩) (Kd.R_far (p:=⟨gb446,1,none⟩) (Kd.R_far (p:=⟨gb446,0,none⟩) (Kd.R_types HO440.out BK446.out (by decide)) (fun _ hk=>hk.2) (.int .i64 t433)) (fun _ hk=>hk.2) (.int .i64 t434)) (fun _ hk=>hk.2) (.int .i64 t435)) (fun _ hk=>hk.2) (.int .i64 t436)) (fun _ hk=>hk.2) (.int .i64 t437)) (fun _ hk=>hk.2) (.slice Ao40 t438.length co40)) (fun _ hk=>hk.2) (.int .i64 t441)) (fun _ hk=>hk.2) (.slice Ao43 t442.length co43)) (fun _ h_=>h_.1))));(case side2=>exact (Kd.R_reads' HO440.out).2.1);(case side3=>exact Kd.C_below HR0_5.out (kB HB.out));(case side4=>exact HC0_5.out);rintro e w48 ⟨rfl,hb⟩;replace HO432:=mk0 (Kd.R_below (by (with_reducible repeat (first|apply aR|apply nR|apply dR));exact (Kd.R_mono (Kd.R_far (p:=⟨gb446,7,none⟩) (Kd.R_far (p:=⟨gb446,6,none⟩) (Kd.R_far (p:=⟨gb446,5,none⟩) (Kd.R_far (p:=⟨gb446,4,none⟩) (Kd.R_far (p:=⟨gb446,3,none⟩) (Kd.R_far (p:=⟨gb446,2,none⟩) (Kd.R_far (p:=⟨gb446,1,none⟩) (Kd.R_far (p:=⟨gb446,0,none⟩) (Kd.R_types HO432.out BK446.out (by decide)) (fun _ hk=>hk.2) (.int .i64 t433)) (fun _ hk=>hk.2) (.int .i64 t434)) (fun _ hk=>hk.2) (.int .i64 t435)) (fun _ hk=>hk.2) (.int .i64 t436)) (fun _ hk=>hk.2) (.int .i64 t437)) (fun _ hk=>hk.2) (.slice Ao40 t438.length co40)) (fun _ hk=>hk.2) (.int .i64 t441)) (fun _ hk=>hk.2) (.slice Ao43 t442.length co43)) (fun _ h_=>h_.1))) hb);replace HO440:=mk0 (Kd.R_below (by (with_reducible repeat (first|apply aR|apply nR|apply dR));exact (Kd.R_mono (Kd.R_far (p:=⟨gb446,7,none⟩) (Kd.R_far (p:=⟨gb446,6,none⟩) (Kd.R_far (p:=⟨gb446,5,none⟩) (Kd.R_far (p:=⟨gb446,4,none⟩) (Kd.R_far (p:=⟨gb446,3,none⟩) (Kd.R_far (p:=⟨gb446,2,none⟩) (Kd.R_far (p:=⟨gb446,1,none⟩) (Kd.R_far (p:=⟨gb446,0,none⟩) (Kd.R_types HO440.out BK446.out (by decide)) (fun _ hk=>hk.2) (.int .i64 t433)) (fun _ hk=>hk.2) (.int .i64 t434)) (fun _ hk=>hk.2) (.int .i64 t435)) (fun _ hk=>hk.2) (.int .i64 t436)) (fun _ hk=>hk.2) (.int .i64 t437)) (fun _ hk=>hk.2) (.slice Ao40 t438.length co40)) (fun _ hk=>hk.2) (.int .i64 t441)) (fun _ hk=>hk.2) (.slice Ao43 t442.length co43)) (fun _ h_=>h_.1))) hb);replace HO444:=mk0 (Kd.R_below (by (with_reducible repeat (first|apply aR|apply nR|apply dR));exact (Kd.R_mono (Kd.R_far (p:=⟨gb446,7,none⟩) (Kd.R_far (p:=⟨gb446,6,none⟩) (Kd.R_far (p:=⟨gb446,5,none⟩) (Kd.R_far (p:=⟨gb446,4,none⟩) (Kd.R_far (p:=⟨gb446,3,none⟩) (Kd.R_far (p:=⟨gb446,2,none⟩) (Kd.R_far (p:=⟨gb446,1,none⟩) (Kd.R_far (p:=⟨gb446,0,none⟩) (Kd.R_types HO444.out BK446.out (by decide)) (fun _ hk=>hk.2) (.int .i64 t433)) (fun _ hk=>hk.2) (.int .i64 t434)) (fun _ hk=>hk.2) (.int .i64 t435)) (fun _ hk=>hk.2) (.int .i64 t436)) (fun _ hk=>hk.2) (.int .i64 t437)) (fun _ hk=>hk.2) (.slice Ao40 t438.length co40)) (fun _ hk=>hk.2) (.int .i64 t441)) (fun _ hk=>hk.2) (.slice Ao43 t442.length co43)) (fun _ h_=>h_.1))) hb);replace BK427:=mk0 (blk_below (g:=gb427) (o:=.cells #[.int .i64 a0_0,.int .i64 a0_1,.int .i64 a0_2,.int .i64 a0_3,.int .i64 a0_4,.slice A0_5 l0_5.length c0_5,.int .i64 a0_6,.slice A0_7 l0_7.length c0_7] 33 (0,0)) (by (with_reducible repeat (first|apply nB|apply dB|apply aB));refine blk_far ?_ NB427_446.out _;(with_reducible repeat (first|apply nB|apply dB|apply aB));refine blk_far ?_ NB427_446.out _;(with_reducible repeat (first|apply nB|apply dB|apply aB));refine blk_far ?_ NB427_446.out _;(with_reducible repeat (first|apply nB|apply dB|apply aB));refine blk_far ?_ NB427_446.out _;(with_reducible repeat (first|apply nB|apply dB|apply aB));refine blk_far ?_ NB427_446.out _;(with_reducible repeat (first|apply nB|apply dB|apply aB));refine blk_far ?_ NB427_446.out _;(with_reducible repeat (first|apply nB|apply dB|apply aB));refine blk_far ?_ NB427_446.out _;(with_reducible repeat (first|apply nB|apply dB|apply aB));refine blk_far ?_ NB427_446.out _;(with_reducible repeat (first|apply nB|apply dB|apply aB));exact BK427.out) hb);replace BK446:=mk0 (blk_below (g:=gb446) (o:=.cells #[.int .i64 t433,.int .i64 t434,.int .i64 t435,.int .i64 t436,.int .i64 t437,.slice Ao40 t438.length co40,.int .i64 t441,.slice Ao43 t442.length co43] 33 (0,0)) (by (with_reducible repeat (first|apply nB|apply dB|apply aB));refine blk_put (cs:=#[.int .i64 t433,.int .i64 t434,.int .i64 t435,.int .i64 t436,.int .i64 t437,.slice Ao40 t438.length co40,.int .i64 t441,.slice none 0 0]) ?_ 7 _ rfl;(with_reducible repeat (first|apply nB|apply dB|apply aB));refine blk_put (cs:=#[.int .i64 t433,.int .i64 t434,.int .i64 t435,.int .i64 t436,.int .i64 t437,.slice Ao40 t438.length co40,.int .i64 0,.slice none 0 0]) ?_ 6 _ rfl;(with_reducible repeat (first|apply nB|apply dB|apply aB));refine blk_put (cs:=#[.int .i64 t433,.int .i64 t434,.int .i64 t435,.int .i64 t436,.int .i64 t437,.slice none 0 0,.int .i64 0,.slice none 0 0]) ?_ 5 _ rfl;(with_reducible repeat (first|apply nB|apply dB|apply aB));refine blk_put (cs:=#[.int .i64 t433,.int .i64 t434,.int .i64 t435,.int .i64 t436,.int .i64 0,.slice none 0 0,.int .i64 0,.slice none 0 0]) ?_ 4 _ rfl;(with_reducible repeat (first|apply nB|apply dB|apply aB));refine blk_put (cs:=#[.int .i64 t433,.int .i64 t434,.int .i64 t435,.int .i64 0,.int .i64 0,.slice none 0 0,.int .i64 0,.slice none 0 0]) ?_ 3 _ rfl;(with_reducible repeat (first|apply nB|apply dB|apply aB));refine blk_put (cs:=#[.int .i64 t433,.int .i64 t434,.int .i64 0,.int .i64 0,.int .i64 0,.slice none 0 0,.int .i64 0,.slice none 0 0]) ?_ 2 _ rfl;(with_reducible repeat (first|apply nB|apply dB|apply aB));refine blk_put (cs:=#[.int .i64 t433,.int .i64 0,.int .i64 0,.int .i64 0,.int .i64 0,.slice none 0 0,.int .i64 0,.slice none 0 0]) ?_ 1 _ rfl;(with_reducible repeat (first|apply nB|apply dB|apply aB));refine blk_put (cs:=#[.int .i64 0,.int .i64 0,.int .i64 0,.int .i64 0,.int .i64 0,.slice none 0 0,.int .i64 0,.slice none 0 0]) ?_ 0 _ rfl;(with_reducible repeat (first|apply nB|apply dB|apply aB));exact BK446.out) hb);replace HB:=mk0 (kS HB.out hb);(try clear hb);obtain⟨hcz49_0,hcz49_1,hcz49_2,hcz49_3,hcz49_4,hcz49_5,hcz49_6,hcz49_7,hfz49_0,hfz49_1,hfz49_2,hfz49_3,hfz49_4,hfz49_5,hfz49_6,hfz49_7⟩:=cz8 BK446.out;obtain⟨hcz50_0,hcz50_1,hcz50_2,hcz50_3,hcz50_4,hcz50_5,hcz50_6,hcz50_7,hfz50_0,hfz50_1,hfz50_2,hfz50_3,hfz50_4,hfz50_5,hfz50_6,hfz50_7⟩:=cz8 BK427.out)|(go_at_call 71;(with_reducible refine (spec_l03Same.calls kj1 t441 _ _ t442 a0_6 _ _ l0_7 t448 _ ?side1 ?side2 ?side3 ?side4 A28.out).mono ?_);(case side1=>exact kC (Kd.R_reads' HO444.out).2.2);(case side2=>exact (Kd.R_reads' HO444.out).2.1);(case side3=>exact kC (Kd.C_below HR0_7.out HB.out));(case side4=>exact HC0_7.out);rintro e w51 ⟨rfl,hb⟩;replace HO432:=mk0 (bR HO432.out hb);replace HO440:=mk0 (bR HO440.out hb);replace HO444:=mk0 (bR HO444.out hb);replace BK427:=mk0 (kK BK427.out hb);replace BK446:=mk0 (kK BK446.out hb);replace HB:=mk0 (kS HB.out hb);(try clear hb)))
   go_ret
   exact⟨by first|rfl|(simp [errW_none,errW_some] <;> rfl)|(simp [*,errW_none,errW_some] <;> rfl),kB HB.out⟩
end Go.Proofs.Ytmohfjfgpeapfaa.QFnExactSparseRank
