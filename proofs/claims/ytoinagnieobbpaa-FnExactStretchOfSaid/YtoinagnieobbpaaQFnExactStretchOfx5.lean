-- A walk, made by walk.py, a program of this session's.
import Derived.Test.YtoinagnieobbpaaQFnExactStretchOfx0
import Derived.Test.YtoinagnieobbpaaQFnExactStretchOfx1
import Derived.Test.YtoinagnieobbpaaQFnExactStretchOfx3
import Derived.Test.YtoinagnieobbpaaQFnExactStretchOfx4
namespace Go.Proofs.Ytoinagnieobbpaa.QFnExactStretchOf
open Go.RowKit Go.Proofs.YtoinagnieobbpaaW.PrintWords Go.Proofs.YtoinagnieobbpaaW.PrintLast Go.Proofs.YtoinagnieobbpaaW.PrintMore
attribute [local go_sem] max2_int min2_int max_two min_two max_three min_three max_four min_four   -- for this text's walks alone
set_option linter.unusedVariables false
set_option linter.unusedSimpArgs false

/-! ### laws_eqStretch: function 22 -/
def laws_eqStretch.f (a0_0 : Int) (a0_1 : Int) (a0_2 : Int) (a1_0 : Int) (a1_1 : Int) (a1_2 : Int) : Option (Bool) := if a0_0 = a1_0 then (if a0_1 = a1_1 then (if a0_2 = a1_2 then (some true) else (some false)) else (some false)) else (some false)
set_option maxHeartbeats 8000000 in
set_option maxRecDepth 100000 in
theorem laws_eqStretch.calls (a0_0 : Int) (a0_1 : Int) (a0_2 : Int) (a1_0 : Int) (a1_1 : Int) (a1_2 : Int) (r : Bool) (w : World) (h : laws_eqStretch.f a0_0 a0_1 a0_2 a1_0 a1_1 a1_2 = some r) :
  Calls Try.prog 22 #[.agg #[.int .i64 a0_0, .int .i64 a0_1, .int .i64 a0_2], .agg #[.int .i64 a1_0, .int .i64 a1_1, .int .i64 a1_2]] w fun e w' => e = .returned (.bool r) ∧ Below w.heap.size w w' := by
 have hu27:=Try.underlying27
 have HB:=mk0 (Below.refl w.heap.size w)
 have H:(if a0_0 = a1_0 then (if a0_1 = a1_1 then (if a0_2 = a1_2 then (some true) else (some false)) else (some false)) else (some false)) = some r:=h
 clear h
 by_cases c3:a0_0 = a1_0
 ·rw [if_pos c3] at H
  have c3b0:(a0_0 == a1_0) = true:=beq_iff_eq.mpr c3
  have c3b1:(a0_0 != a1_0) = false:=bne_eq_false_iff_eq.mpr c3
  clear c3
  by_cases c4:a0_1 = a1_1
  ·rw [if_pos c4] at H
   have c4b0:(a0_1 == a1_1) = true:=beq_iff_eq.mpr c4
   have c4b1:(a0_1 != a1_1) = false:=bne_eq_false_iff_eq.mpr c4
   clear c4
   by_cases c5:a0_2 = a1_2
   ·rw [if_pos c5] at H
    have c5b0:(a0_2 == a1_2) = true:=beq_iff_eq.mpr c5
    have c5b1:(a0_2 != a1_2) = false:=bne_eq_false_iff_eq.mpr c5
    clear c5
    obtain rfl:=Option.some.inj H
    go_enter Try.func22,Try.ntmps22
    go_wp2_with (first|((with_reducible refine gate_dst (N:=2) rfl ?_);refine box_event ?hg (N:=2) ?hd (cs:=#[.int .i64 a0_0,.int .i64 a0_1,.int .i64 a0_2]) (t:=27) ?hr ?_;(case hd=>rfl);(case hg=>rfl);(case hr=>first|(go_simp;done)|(go_simp;rfl));intro gb229 hg w6 hbox hb;have BK229:=mk0 (hbox);have GW229:=mk0 ((by rw [hg];exact (kZ HB.out):w.heap.size ≤ gb229));have GE229:=mk0 ((by rw [hg];exact (kZ HB.out):w.heap.size ≤ gb229));replace HB:=mk0 (kS HB.out hb);clear hb hbox hg)|((with_reducible refine gate_dst (N:=3) rfl ?_);refine box_event ?hg (N:=3) ?hd (cs:=#[.int .i64 a1_0,.int .i64 a1_1,.int .i64 a1_2]) (t:=27) ?hr ?_;(case hd=>rfl);(case hg=>rfl);(case hr=>first|(go_simp;done)|(go_simp;rfl));intro gb230 hg w7 hbox hb;have BK230:=mk0 (hbox);have GW230:=mk0 ((by rw [hg];exact (kZ HB.out):w.heap.size ≤ gb230));have GE230:=mk0 ((by rw [hg];exact (kZ HB.out):w.heap.size ≤ gb230));replace HB:=mk0 (kS HB.out hb);have NB229_230:=mk0 ((by rw [hg];exact Nat.ne_of_lt (kL BK229.out):gb229 ≠ gb230));have NB230_229:=mk0 ((by rw [hg];exact Nat.ne_of_gt (kL BK229.out):gb230 ≠ gb229));replace BK229:=mk0 (kK BK229.out hb);clear hb hbox hg;have hnb8:=NB229_230.out;have hnc8:=NB230_229.out;obtain⟨hcz9_0,hcz9_1,hcz9_2,hfz9_0,hfz9_1,hfz9_2⟩:=cz3 BK229.out;obtain⟨hcz10_0,hcz10_1,hcz10_2,hfz10_0,hfz10_1,hfz10_2⟩:=cz3 BK230.out))
    go_ret
    exact⟨by first|rfl|(simp [errW_none,errW_some] <;> rfl)|(simp [*,errW_none,errW_some] <;> rfl),kB HB.out⟩
   ·rw [if_neg c5] at H
    have c5b0:(a0_2 == a1_2) = false:=beq_eq_false_iff_ne.mpr c5
    have c5b1:(a0_2 != a1_2) = true:=bne_iff_ne.mpr c5
    obtain rfl:=Option.some.inj H
    go_enter Try.func22,Try.ntmps22
    go_wp2_with (first|((with_reducible refine gate_dst (N:=2) rfl ?_);refine box_event ?hg (N:=2) ?hd (cs:=#[.int .i64 a0_0,.int .i64 a0_1,.int .i64 a0_2]) (t:=27) ?hr ?_;(case hd=>rfl);(case hg=>rfl);(case hr=>first|(go_simp;done)|(go_simp;rfl));intro gb229 hg w11 hbox hb;have BK229:=mk0 (hbox);have GW229:=mk0 ((by rw [hg];exact (kZ HB.out):w.heap.size ≤ gb229));have GE229:=mk0 ((by rw [hg];exact (kZ HB.out):w.heap.size ≤ gb229));replace HB:=mk0 (kS HB.out hb);clear hb hbox hg)|((with_reducible refine gate_dst (N:=3) rfl ?_);refine box_event ?hg (N:=3) ?hd (cs:=#[.int .i64 a1_0,.int .i64 a1_1,.int .i64 a1_2]) (t:=27) ?hr ?_;(case hd=>rfl);(case hg=>rfl);(case hr=>first|(go_simp;done)|(go_simp;rfl));intro gb230 hg w12 hbox hb;have BK230:=mk0 (hbox);have GW230:=mk0 ((by rw [hg];exact (kZ HB.out):w.heap.size ≤ gb230));have GE230:=mk0 ((by rw [hg];exact (kZ HB.out):w.heap.size ≤ gb230));replace HB:=mk0 (kS HB.out hb);have NB229_230:=mk0 ((by rw [hg];exact Nat.ne_of_lt (kL BK229.out):gb229 ≠ gb230));have NB230_229:=mk0 ((by rw [hg];exact Nat.ne_of_gt (kL BK229.out):gb230 ≠ gb229));replace BK229:=mk0 (kK BK229.out hb);clear hb hbox hg;have hnb13:=NB229_230.out;have hnc13:=NB230_229.out;obtain⟨hcz14_0,hcz14_1,hcz14_2,hfz14_0,hfz14_1,hfz14_2⟩:=cz3 BK229.out;obtain⟨hcz15_0,hcz15_1,hcz15_2,hfz15_0,hfz15_1,hfz15_2⟩:=cz3 BK230.out))
    go_ret
    exact⟨by first|rfl|(simp [errW_none,errW_some] <;> rfl)|(simp [*,errW_none,errW_some] <;> rfl),kB HB.out⟩
  ·rw [if_neg c4] at H
   have c4b0:(a0_1 == a1_1) = false:=beq_eq_false_iff_ne.mpr c4
   have c4b1:(a0_1 != a1_1) = true:=bne_iff_ne.mpr c4
   obtain rfl:=Option.some.inj H
   go_enter Try.func22,Try.ntmps22
   go_wp2_with (first|((with_reducible refine gate_dst (N:=2) rfl ?_);refine box_event ?hg (N:=2) ?hd (cs:=#[.int .i64 a0_0,.int .i64 a0_1,.int .i64 a0_2]) (t:=27) ?hr ?_;(case hd=>rfl);(case hg=>rfl);(case hr=>first|(go_simp;done)|(go_simp;rfl));intro gb229 hg w16 hbox hb;have BK229:=mk0 (hbox);have GW229:=mk0 ((by rw [hg];exact (kZ HB.out):w.heap.size ≤ gb229));have GE229:=mk0 ((by rw [hg];exact (kZ HB.out):w.heap.size ≤ gb229));replace HB:=mk0 (kS HB.out hb);clear hb hbox hg)|((with_reducible refine gate_dst (N:=3) rfl ?_);refine box_event ?hg (N:=3) ?hd (cs:=#[.int .i64 a1_0,.int .i64 a1_1,.int .i64 a1_2]) (t:=27) ?hr ?_;(case hd=>rfl);(case hg=>rfl);(case hr=>first|(go_simp;done)|(go_simp;rfl));intro gb230 hg w17 hbox hb;have BK230:=mk0 (hbox);have GW230:=mk0 ((by rw [hg];exact (kZ HB.out):w.heap.size ≤ gb230));have GE230:=mk0 ((by rw [hg];exact (kZ HB.out):w.heap.size ≤ gb230));replace HB:=mk0 (kS HB.out hb);have NB229_230:=mk0 ((by rw [hg];exact Nat.ne_of_lt (kL BK229.out):gb229 ≠ gb230));have NB230_229:=mk0 ((by rw [hg];exact Nat.ne_of_gt (kL BK229.out):gb230 ≠ gb229));replace BK229:=mk0 (kK BK229.out hb);clear hb hbox hg;have hnb18:=NB229_230.out;have hnc18:=NB230_229.out;obtain⟨hcz19_0,hcz19_1,hcz19_2,hfz19_0,hfz19_1,hfz19_2⟩:=cz3 BK229.out;obtain⟨hcz20_0,hcz20_1,hcz20_2,hfz20_0,hfz20_1,hfz20_2⟩:=cz3 BK230.out))
   go_ret
   exact⟨by first|rfl|(simp [errW_none,errW_some] <;> rfl)|(simp [*,errW_none,errW_some] <;> rfl),kB HB.out⟩
 ·rw [if_neg c3] at H
  have c3b0:(a0_0 == a1_0) = false:=beq_eq_false_iff_ne.mpr c3
  have c3b1:(a0_0 != a1_0) = true:=bne_iff_ne.mpr c3
  obtain rfl:=Option.some.inj H
  go_enter Try.func22,Try.ntmps22
  go_wp2_with (first|((with_reducible refine gate_dst (N:=2) rfl ?_);refine box_event ?hg (N:=2) ?hd (cs:=#[.int .i64 a0_0,.int .i64 a0_1,.int .i64 a0_2]) (t:=27) ?hr ?_;(case hd=>rfl);(case hg=>rfl);(case hr=>first|(go_simp;done)|(go_simp;rfl));intro gb229 hg w21 hbox hb;have BK229:=mk0 (hbox);have GW229:=mk0 ((by rw [hg];exact (kZ HB.out):w.heap.size ≤ gb229));have GE229:=mk0 ((by rw [hg];exact (kZ HB.out):w.heap.size ≤ gb229));replace HB:=mk0 (kS HB.out hb);clear hb hbox hg)|((with_reducible refine gate_dst (N:=3) rfl ?_);refine box_event ?hg (N:=3) ?hd (cs:=#[.int .i64 a1_0,.int .i64 a1_1,.int .i64 a1_2]) (t:=27) ?hr ?_;(case hd=>rfl);(case hg=>rfl);(case hr=>first|(go_simp;done)|(go_simp;rfl));intro gb230 hg w22 hbox hb;have BK230:=mk0 (hbox);have GW230:=mk0 ((by rw [hg];exact (kZ HB.out):w.heap.size ≤ gb230));have GE230:=mk0 ((by rw [hg];exact (kZ HB.out):w.heap.size ≤ gb230));replace HB:=mk0 (kS HB.out hb);have NB229_230:=mk0 ((by rw [hg];exact Nat.ne_of_lt (kL BK229.out):gb229 ≠ gb230));have NB230_229:=mk0 ((by rw [hg];exact Nat.ne_of_gt (kL BK229.out):gb230 ≠ gb229));replace BK229:=mk0 (kK BK229.out hb);clear hb hbox hg;have hnb23:=NB229_230.out;have hnc23:=NB230_229.out;obtain⟨hcz24_0,hcz24_1,hcz24_2,hfz24_0,hfz24_1,hfz24_2⟩:=cz3 BK229.out;obtain⟨hcz25_0,hcz25_1,hcz25_2,hfz25_0,hfz25_1,hfz25_2⟩:=cz3 BK230.out))
  go_ret
  exact⟨by first|rfl|(simp [errW_none,errW_some] <;> rfl)|(simp [*,errW_none,errW_some] <;> rfl),kB HB.out⟩

/-! ### laws_FnExactStretchOf: function 5 -/
def laws_FnExactStretchOf.j0 : Nat → List Int → List Int → List Int → List Int → Bool → Option (Bool)
 | 0, _, _, _, _, _ => none
 | k + 1, x0, x1, x7, x8, x43 => if x43 = true then (some false) else ((laws_toByteS.f k x0).bind fun t254 => ((laws_eqByteS.f k x7 t254).bind fun t257 => (if t257 = true then ((laws_toByteS.f k x1).bind fun t258 => ((laws_eqByteS.f k x8 t258).bind fun t261 => (if t261 = true then (some true) else (some false)))) else (some false))))
def laws_FnExactStretchOf.f (k : Nat) (l0 : List Int) (l1 : List Int) : Option (Bool) := if (l0.length : Int) > 1048576 then (some true) else (if (l1.length : Int) > 1048576 then (some true) else ((laws_toByteS.f k l0).bind fun t231 => ((laws_toByteS.f k l1).bind fun t234 => ((spec_StretchOf.f k t231 t234).bind fun bt237 => ((laws_toByteS.f k l0).bind fun t242 => ((laws_toByteS.f k l1).bind fun t245 => ((impl_StretchOf.f k t242 t245).bind fun bt248 => ((laws_eqStretch.f bt248.1 bt248.2.1 bt248.2.2.1 bt237.1 bt237.2.1 bt237.2.2.1).bind fun t253 => (if t253 = true then (laws_FnExactStretchOf.j0 k l0 l1 t242 t245 (bt248.2.2.2 != bt237.2.2.2)) else (laws_FnExactStretchOf.j0 k l0 l1 t242 t245 true))))))))))
theorem laws_FnExactStretchOf.mono_l : ∀ k, (∀ y0 y1 y2 y3 y4, LeO (laws_FnExactStretchOf.j0 k y0 y1 y2 y3 y4) (laws_FnExactStretchOf.j0 (k + 1) y0 y1 y2 y3 y4))
 | 0 => fun _ _ _ _ _ r h => by simp [laws_FnExactStretchOf.j0] at h
 | k + 1 => by
  have ih0 := laws_FnExactStretchOf.mono_l k
  ·intro y0 y1 y2 y3 y4
   unfold laws_FnExactStretchOf.j0
   repeat' first|(with_reducible first|exact ih0 _ _ _ _ _|exact impl_StretchOf.mono _ _ _|exact laws_eqByteS.mono _ _ _|exact laws_toByteS.mono _ _|exact spec_StretchOf.mono _ _ _|exact LeO.refl _|exact LeO.none _|refine LeO.ite ?_ ?_|refine LeO.bind ?_ (fun _ => ?_))|exact LeO.none _|refine LeO.ite ?_ ?_|refine LeO.bind ?_ (fun _ => ?_)
theorem laws_FnExactStretchOf.mono : ∀ a0 a1 k, LeO (laws_FnExactStretchOf.f k a0 a1) (laws_FnExactStretchOf.f (k + 1) a0 a1) := by
 intro a0 a1 k
 have ih0 := laws_FnExactStretchOf.mono_l k
 unfold laws_FnExactStretchOf.f
 repeat' first|(with_reducible first|exact ih0 _ _ _ _ _|exact impl_StretchOf.mono _ _ _|exact laws_eqByteS.mono _ _ _|exact laws_toByteS.mono _ _|exact spec_StretchOf.mono _ _ _|exact LeO.refl _|exact LeO.none _|refine LeO.ite ?_ ?_|refine LeO.bind ?_ (fun _ => ?_))|exact LeO.none _|refine LeO.ite ?_ ?_|refine LeO.bind ?_ (fun _ => ?_)
set_option maxHeartbeats 8000000 in
set_option maxRecDepth 100000 in
theorem laws_FnExactStretchOf.calls (k : Nat) (A0 : Option Addr) (c0 : Nat) (l0 : List Int) (A1 : Option Addr) (c1 : Nat) (l1 : List Int) (r : Bool) (w : World) (hr0 : Kd.C (Kd.int .u8) w A0 l0.length l0) (hc0 : l0.length ≤ c0) (hr1 : Kd.C (Kd.int .u8) w A1 l1.length l1) (hc1 : l1.length ≤ c1) (h : laws_FnExactStretchOf.f k l0 l1 = some r) :
  Calls Try.prog 5 #[.slice A0 l0.length c0, .slice A1 l1.length c1] w fun e w' => e = .returned (.bool r) ∧ Below w.heap.size w w' := by
 have hu27:=Try.underlying27
 have HR0:=mk0 hr0
 have HC0:=mk0 hc0
 clear hr0 hc0
 have HR1:=mk0 hr1
 have HC1:=mk0 hc1
 clear hr1 hc1
 have HB:=mk0 (Below.refl w.heap.size w)
 have H:(if (l0.length:Int) > 1048576 then (some true) else (if (l1.length:Int) > 1048576 then (some true) else ((laws_toByteS.f k l0).bind fun t231=>((laws_toByteS.f k l1).bind fun t234=>((spec_StretchOf.f k t231 t234).bind fun bt237=>((laws_toByteS.f k l0).bind fun t242=>((laws_toByteS.f k l1).bind fun t245=>((impl_StretchOf.f k t242 t245).bind fun bt248=>((laws_eqStretch.f bt248.1 bt248.2.1 bt248.2.2.1 bt237.1 bt237.2.1 bt237.2.2.1).bind fun t253=>(if t253 = true then (laws_FnExactStretchOf.j0 k l0 l1 t242 t245 (bt248.2.2.2 != bt237.2.2.2)) else (laws_FnExactStretchOf.j0 k l0 l1 t242 t245 true))))))))))) = some r:=h
 clear h
 by_cases c3:(l0.length:Int) > 1048576
 ·rw [if_pos c3] at H
  have c3b0:decide (1048576 < (l0.length:Int)) = true:=decide_eq_true c3
  have c3b1:decide (1048576 < l0.length) = true:=decide_eq_true (by omega)
  clear c3
  obtain rfl:=Option.some.inj H
  go_enter Try.func5,Try.ntmps5
  go_wp2
  go_ret
  exact⟨by first|rfl|(simp [errW_none,errW_some] <;> rfl)|(simp [*,errW_none,errW_some] <;> rfl),kB HB.out⟩
 rw [if_neg c3] at H
 have c3b0:decide (1048576 < (l0.length:Int)) = false:=decide_eq_false c3
 have c3b1:decide (1048576 < l0.length) = false:=decide_eq_false (by omega)
 clear c3
 by_cases c4:(l1.length:Int) > 1048576
 ·rw [if_pos c4] at H
  have c4b0:decide (1048576 < (l1.length:Int)) = true:=decide_eq_true c4
  have c4b1:decide (1048576 < l1.length) = true:=decide_eq_true (by omega)
  clear c4
  obtain rfl:=Option.some.inj H
  go_enter Try.func5,Try.ntmps5
  go_wp2
  go_ret
  exact⟨by first|rfl|(simp [errW_none,errW_some] <;> rfl)|(simp [*,errW_none,errW_some] <;> rfl),kB HB.out⟩
 rw [if_neg c4] at H
 have c4b0:decide (1048576 < (l1.length:Int)) = false:=decide_eq_false c4
 have c4b1:decide (1048576 < l1.length) = false:=decide_eq_false (by omega)
 clear c4
 replace H:=Option.bind_eq_some_iff.mp H
 obtain⟨t231,A50,H⟩:=H
 replace H:((laws_toByteS.f k l1).bind fun t234=>((spec_StretchOf.f k t231 t234).bind fun bt237=>((laws_toByteS.f k l0).bind fun t242=>((laws_toByteS.f k l1).bind fun t245=>((impl_StretchOf.f k t242 t245).bind fun bt248=>((laws_eqStretch.f bt248.1 bt248.2.1 bt248.2.2.1 bt237.1 bt237.2.1 bt237.2.2.1).bind fun t253=>(if t253 = true then (laws_FnExactStretchOf.j0 k l0 l1 t242 t245 (bt248.2.2.2 != bt237.2.2.2)) else (laws_FnExactStretchOf.j0 k l0 l1 t242 t245 true)))))))) = some r:=H
 have A5:=mk0 A50
 clear A50
 replace H:=Option.bind_eq_some_iff.mp H
 obtain⟨t234,A60,H⟩:=H
 replace H:((spec_StretchOf.f k t231 t234).bind fun bt237=>((laws_toByteS.f k l0).bind fun t242=>((laws_toByteS.f k l1).bind fun t245=>((impl_StretchOf.f k t242 t245).bind fun bt248=>((laws_eqStretch.f bt248.1 bt248.2.1 bt248.2.2.1 bt237.1 bt237.2.1 bt237.2.2.1).bind fun t253=>(if t253 = true then (laws_FnExactStretchOf.j0 k l0 l1 t242 t245 (bt248.2.2.2 != bt237.2.2.2)) else (laws_FnExactStretchOf.j0 k l0 l1 t242 t245 true))))))) = some r:=H
 have A6:=mk0 A60
 clear A60
 replace H:=Option.bind_eq_some_iff.mp H
 obtain⟨⟨t237,t238,t239,t240⟩,A70,H⟩:=H
 replace H:((laws_toByteS.f k l0).bind fun t242=>((laws_toByteS.f k l1).bind fun t245=>((impl_StretchOf.f k t242 t245).bind fun bt248=>((laws_eqStretch.f bt248.1 bt248.2.1 bt248.2.2.1 t237 t238 t239).bind fun t253=>(if t253 = true then (laws_FnExactStretchOf.j0 k l0 l1 t242 t245 (bt248.2.2.2 != t240)) else (laws_FnExactStretchOf.j0 k l0 l1 t242 t245 true)))))) = some r:=H
 have A7:=mk0 A70
 clear A70
 replace H:=Option.bind_eq_some_iff.mp H
 obtain⟨t242,A80,H⟩:=H
 replace H:((laws_toByteS.f k l1).bind fun t245=>((impl_StretchOf.f k t242 t245).bind fun bt248=>((laws_eqStretch.f bt248.1 bt248.2.1 bt248.2.2.1 t237 t238 t239).bind fun t253=>(if t253 = true then (laws_FnExactStretchOf.j0 k l0 l1 t242 t245 (bt248.2.2.2 != t240)) else (laws_FnExactStretchOf.j0 k l0 l1 t242 t245 true))))) = some r:=H
 have A8:=mk0 A80
 clear A80
 replace H:=Option.bind_eq_some_iff.mp H
 obtain⟨t245,A90,H⟩:=H
 replace H:((impl_StretchOf.f k t242 t245).bind fun bt248=>((laws_eqStretch.f bt248.1 bt248.2.1 bt248.2.2.1 t237 t238 t239).bind fun t253=>(if t253 = true then (laws_FnExactStretchOf.j0 k l0 l1 t242 t245 (bt248.2.2.2 != t240)) else (laws_FnExactStretchOf.j0 k l0 l1 t242 t245 true)))) = some r:=H
 have A9:=mk0 A90
 clear A90
 replace H:=Option.bind_eq_some_iff.mp H
 obtain⟨⟨t248,t249,t250,t251⟩,A100,H⟩:=H
 replace H:((laws_eqStretch.f t248 t249 t250 t237 t238 t239).bind fun t253=>(if t253 = true then (laws_FnExactStretchOf.j0 k l0 l1 t242 t245 (t251 != t240)) else (laws_FnExactStretchOf.j0 k l0 l1 t242 t245 true))) = some r:=H
 have A10:=mk0 A100
 clear A100
 have HC11:=mk0 H
 clear H
 go_enter Try.func5,Try.ntmps5
 go_upto_region 9 with (first|((with_reducible refine gate_callee (f:=12) rfl ?_);refine goesL_ (some 19) rfl rfl Try.func12 (by kernel_rfl) rfl #[.slice A0 l0.length c0] rfl (by (try simp only [mA,mC,mN]);first|done|rfl|(simp only [List.length_drop,List.length_take];done)|(simp only [List.length_drop,List.length_take];rfl)) ?_;(with_reducible refine (laws_toByteS.calls k _ _ l0 t231 _ ?side1 ?side2 A5.out).mono ?_);(case side1=>repeat (first|exact HR0.out|(with_reducible first|apply aC|apply nC|apply dC)));(case side2=>exact HC0.out);rintro e w12 ⟨v232,rfl,ho0,hb⟩;refine⟨_,rfl,?_⟩;have HO233:=mk0 (Kd.R_lower ho0 (kZ HB.out));replace HB:=mk0 (kS HB.out hb);(try clear hb);(try clear ho0))|((with_reducible refine gate_callee (f:=12) rfl ?_);refine goesL_ (some 21) rfl rfl Try.func12 (by kernel_rfl) rfl #[.slice A1 l1.length c1] rfl (by (try simp only [mA,mC,mN]);first|done|rfl|(simp only [List.length_drop,List.length_take];done)|(simp only [List.length_drop,List.length_take];rfl)) ?_;(with_reducible refine (laws_toByteS.calls k _ _ l1 t234 _ ?side1 ?side2 A6.out).mono ?_);(case side1=>exact kC (Kd.C_below HR1.out HB.out));(case side2=>exact HC1.out);rintro e w13 ⟨v235,rfl,ho0,hb⟩;refine⟨_,rfl,?_⟩;have HO236:=mk0 (Kd.R_lower (Kd.R_new' ho0 (Kd.R_lt (rR HO233.out))) (kZ HB.out));replace HO233:=mk0 (Kd.R_elder' (rR HO233.out) (Kd.R_base ho0) hb);replace HB:=mk0 (kS HB.out hb);(try clear hb);(try clear ho0);obtain⟨Ao14,co14,eo14⟩:=Kd.R_slice HO233.out;subst eo14;obtain⟨Ao15,co15,eo15⟩:=Kd.R_slice HO236.out;subst eo15)|((with_reducible refine gate_callee (f:=20) rfl ?_);refine goesL_ (some 22) rfl rfl Try.func20 (by kernel_rfl) rfl #[.slice Ao14 t231.length co14,.slice Ao15 t234.length co15] rfl (by (try simp only [mA,mC,mN]);first|done|rfl|(simp only [List.length_drop,List.length_take];done)|(simp only [List.length_drop,List.length_take];rfl)) ?_;(with_reducible refine (spec_StretchOf.calls k _ _ t231 _ _ t234 t237 t238 t239 t240 _ ?side1 ?side2 ?side3 ?side4 A7.out).mono ?_);(case side1=>exact kC (Kd.R_reads' HO233.out).2.2);(case side2=>exact (Kd.R_reads' HO233.out).2.1);(case side3=>exact kC (Kd.R_reads' HO236.out).2.2);(case side4=>exact (Kd.R_reads' HO236.out).2.1);rintro e w16 ⟨rfl,hb⟩;refine⟨_,rfl,?_⟩;replace HO233:=mk0 (bR HO233.out hb);replace HO236:=mk0 (bR HO236.out hb);replace HB:=mk0 (kS HB.out hb);(try clear hb))|((with_reducible refine gate_dst (N:=5) rfl ?_);refine box_event ?hg (N:=5) ?hd (cs:=#[.int .i64 0,.int .i64 0,.int .i64 0]) (t:=27) ?hr ?_;(case hd=>rfl);(case hg=>rfl);(case hr=>first|(go_simp;done)|(go_simp;rfl));intro gb241 hg w17 hbox hb;replace HO233:=mk0 (bR HO233.out hb);replace HO236:=mk0 (bR HO236.out hb);have BK241:=mk0 (hbox);have GW241:=mk0 ((by rw [hg];exact (kZ HB.out):w.heap.size ≤ gb241));have GE241:=mk0 ((by rw [hg];exact (kZ HB.out):w.heap.size ≤ gb241));replace HB:=mk0 (kS HB.out hb);clear hb hbox hg;obtain⟨hcz18_0,hcz18_1,hcz18_2,hfz18_0,hfz18_1,hfz18_2⟩:=cz3 BK241.out)|((with_reducible refine gate_callee (f:=12) rfl ?_);refine goesL_ (some 26) rfl rfl Try.func12 (by kernel_rfl) rfl #[.slice A0 l0.length c0] rfl (by (try simp only [mA,mC,mN]);first|done|rfl|(simp only [List.length_drop,List.length_take];done)|(simp only [List.length_drop,List.length_take];rfl)) ?_;(with_reducible refine (laws_toByteS.calls k _ _ l0 t242 _ ?side1 ?side2 A8.out).mono ?_);(case side1=>exact Kd.C_below HR0.out (kB HB.out));(case side2=>exact HC0.out);rintro e w19 ⟨v243,rfl,ho0,hb⟩;refine⟨_,rfl,?_⟩;have HO244:=mk0 (Kd.R_lower (Kd.R_new' (Kd.R_new' ho0 (Kd.R_lt (by (with_reducible repeat (first|apply aR|apply nR|apply dR));exact (Kd.R_mono (Kd.R_far (p:=⟨gb241,2,none⟩) (Kd.R_far (p:=⟨gb241,1,none⟩) (Kd.R_far (p:=⟨gb241,0,none⟩) (Kd.R_types HO233.out BK241.out (by decide)) (fun _ hk=>hk.2) (.int .i64 t237)) (fun _ hk=>hk.2) (.int .i64 t238)) (fun _ hk=>hk.2) (.int .i64 t239)) (fun _ h_=>h_.1))))) (Kd.R_lt (by (with_reducible repeat (first|apply aR|apply nR|apply dR));exact (Kd.R_mono (Kd.R_far (p:=⟨gb241,2,none⟩) (Kd.R_far (p:=⟨gb241,1,none⟩) (Kd.R_far (p:=⟨gb241,0,none⟩) (Kd.R_types HO236.out BK241.out (by decide)) (fun _ hk=>hk.2) (.int .i64 t237)) (fun _ hk=>hk.2) (.int .i64 t238)) (fun _ hk=>hk.2) (.int .i64 t239)) (fun _ h_=>h_.1))))) (kZ HB.out));replace HO233:=mk0 (Kd.R_elder' (by (with_reducible repeat (first|apply aR|apply nR|apply dR));exact (Kd.R_mono (Kd.R_far (p:=⟨gb241,2,none⟩) (Kd.R_far (p:=⟨gb241,1,none⟩) (Kd.R_far (p:=⟨gb241,0,none⟩) (Kd.R_types HO233.out BK241.out (by decide)) (fun _ hk=>hk.2) (.int .i64 t237)) (fun _ hk=>hk.2) (.int .i64 t238)) (fun _ hk=>hk.2) (.int .i64 t239)) (fun _ h_=>h_.1))) (Kd.R_base ho0) hb);replace HO236:=mk0 (Kd.R_elder' (by (with_reducible repeat (first|apply aR|apply nR|apply dR));exact (Kd.R_mono (Kd.R_far (p:=⟨gb241,2,none⟩) (Kd.R_far (p:=⟨gb241,1,none⟩) (Kd.R_far (p:=⟨gb241,0,none⟩) (Kd.R_types HO236.out BK241.out (by decide)) (fun _ hk=>hk.2) (.int .i64 t237)) (fun _ hk=>hk.2) (.int .i64 t238)) (fun _ hk=>hk.2) (.int .i64 t239)) (fun _ h_=>h_.1))) (Kd.R_base ho0) hb);replace BK241:=mk0 (blk_below (g:=gb241) (o:=.cells #[.int .i64 t237,.int .i64 t238,.int .i64 t239] 27 (0,0)) (by (with_reducible repeat (first|apply nB|apply dB|apply aB));refine blk_put (cs:=#[.int .i64 t237,.int .i64 t238,.int .i64 0]) ?_ 2 _ rfl;(with_reducible repeat (first|apply nB|apply dB|apply aB));refine blk_put (cs:=#[.int .i64 t237,.int .i64 0,.int .i64 0]) ?_ 1 _ rfl;(with_reducible repeat (first|apply nB|apply dB|apply aB));refine blk_put (cs:=#[.int .i64 0,.int .i64 0,.int .i64 0]) ?_ 0 _ rfl;(with_reducible repeat (first|apply nB|apply dB|apply aB));exact BK241.out) hb);replace HB:=mk0 (kS HB.out hb);(try clear hb);(try clear ho0))|((with_reducible refine gate_callee (f:=12) rfl ?_);refine goesL_ (some 28) rfl rfl Try.func12 (by kernel_rfl) rfl #[.slice A1 l1.length c1] rfl (by (try simp only [mA,mC,mN]);first|done|rfl|(simp only [List.length_drop,List.length_take];done)|(simp only [List.length_drop,List.length_take];rfl)) ?_;(with_reducible refine (laws_toByteS.calls k _ _ l1 t245 _ ?side1 ?side2 A9.out).mono ?_);(case side1=>exact kC (Kd.C_below HR1.out HB.out));(case side2=>exact HC1.out);rintro e w20 ⟨v246,rfl,ho0,hb⟩;refine⟨_,rfl,?_⟩;have HO247:=mk0 (Kd.R_lower (Kd.R_new' (Kd.R_new' (Kd.R_new' ho0 (Kd.R_lt (rR HO233.out))) (Kd.R_lt (rR HO236.out))) (Kd.R_lt (rR HO244.out))) (kZ HB.out));replace HO233:=mk0 (Kd.R_elder' (rR HO233.out) (Kd.R_base ho0) hb);replace HO236:=mk0 (Kd.R_elder' (rR HO236.out) (Kd.R_base ho0) hb);replace HO244:=mk0 (Kd.R_elder' (rR HO244.out) (Kd.R_base ho0) hb);replace BK241:=mk0 (kK BK241.out hb);replace HB:=mk0 (kS HB.out hb);(try clear hb);(try clear ho0);obtain⟨Ao21,co21,eo21⟩:=Kd.R_slice HO244.out;subst eo21;obtain⟨Ao22,co22,eo22⟩:=Kd.R_slice HO247.out;subst eo22)|((with_reducible refine gate_callee (f:=21) rfl ?_);refine goesL_ (some 32) rfl rfl Try.func21 (by kernel_rfl) rfl #[.slice Ao21 t242.length co21,.slice Ao22 t245.length co22] rfl (by (try simp only [mA,mC,mN]);first|done|rfl|(simp only [List.length_drop,List.length_take];done)|(simp only [List.length_drop,List.length_take];rfl)) ?_;(with_reducible refine (impl_StretchOf.calls k _ _ t242 _ _ t245 t248 t249 t250 t251 _ ?side1 ?side2 ?side3 ?side4 A10.out).mono ?_);(case side1=>exact kC (Kd.R_reads' HO244.out).2.2);(case side2=>exact (Kd.R_reads' HO244.out).2.1);(case side3=>exact kC (Kd.R_reads' HO247.out).2.2);(case side4=>exact (Kd.R_reads' HO247.out).2.1);rintro e w23 ⟨rfl,hb⟩;refine⟨_,rfl,?_⟩;replace HO233:=mk0 (bR HO233.out hb);replace HO236:=mk0 (bR HO236.out hb);replace HO244:=mk0 (bR HO244.out hb);replace HO247:=mk0 (bR HO247.out hb);replace BK241:=mk0 (kK BK241.out hb);replace HB:=mk0 (kS HB.out hb);(try clear hb))|((with_reducible refine gate_dst (N:=9) rfl ?_);refine box_event ?hg (N:=9) ?hd (cs:=#[.int .i64 0,.int .i64 0,.int .i64 0]) (t:=27) ?hr ?_;(case hd=>rfl);(case hg=>rfl);(case hr=>first|(go_simp;done)|(go_simp;rfl));intro gb252 hg w24 hbox hb;replace HO233:=mk0 (bR HO233.out hb);replace HO236:=mk0 (bR HO236.out hb);replace HO244:=mk0 (bR HO244.out hb);replace HO247:=mk0 (bR HO247.out hb);have BK252:=mk0 (hbox);have GW252:=mk0 ((by rw [hg];exact (kZ HB.out):w.heap.size ≤ gb252));have GE252:=mk0 ((by rw [hg];exact (kZ HB.out):w.heap.size ≤ gb252));replace HB:=mk0 (kS HB.out hb);have NB241_252:=mk0 ((by rw [hg];exact Nat.ne_of_lt (kL BK241.out):gb241 ≠ gb252));have NB252_241:=mk0 ((by rw [hg];exact Nat.ne_of_gt (kL BK241.out):gb252 ≠ gb241));replace BK241:=mk0 (kK BK241.out hb);clear hb hbox hg;have hnb25:=NB252_241.out;have hnc25:=NB241_252.out;obtain⟨hcz26_0,hcz26_1,hcz26_2,hfz26_0,hfz26_1,hfz26_2⟩:=cz3 BK252.out))
 (try simp only [Act.put,sA,sO,sS])
 go_cut [43] (fun v43 wc=>∃ (kq:Nat) (x43_10:Bool),v43 = .bool x43_10 ∧ Aside0 (laws_FnExactStretchOf.j0 kq l0 l1 t242 t245 x43_10 = some r) ∧ Aside0 (kq ≤ k) ∧ Aside0 (Kd.R (Kd.int .u8) 5 wc w.heap.size (fun k_=>some k_ ≠ ((.slice Ao22 t245.length co22):Value).ownBlock) (.slice Ao21 t242.length co21) t242) ∧ Aside0 (Kd.R (Kd.int .u8) 5 wc w.heap.size (fun k_=>some k_ ≠ ((.slice Ao21 t242.length co21):Value).ownBlock) (.slice Ao22 t245.length co22) t245) ∧ Aside0 (wc.heap[gb241]? = some (.cells #[.int .i64 t237,.int .i64 t238,.int .i64 t239] 27 (0,0))) ∧ Aside0 (wc.heap[gb252]? = some (.cells #[.int .i64 t248,.int .i64 t249,.int .i64 t250] 27 (0,0))) ∧ Aside0 (Below w.heap.size w wc))
 case first =>
  have H:=HC11.out
  clear HC11
  replace H:=Option.bind_eq_some_iff.mp H
  obtain⟨t253,A270,H⟩:=H
  replace H:(if t253 = true then (laws_FnExactStretchOf.j0 k l0 l1 t242 t245 (t251 != t240)) else (laws_FnExactStretchOf.j0 k l0 l1 t242 t245 true)) = some r:=H
  have A27:=mk0 A270
  clear A270
  by_cases c28:t253 = true
  ·subst c28
   have H1:(laws_FnExactStretchOf.j0 k l0 l1 t242 t245 (t251 != t240)) = some r:=by rw [if_pos rfl] at H;exact H
   clear H
   have H:=H1
   clear H1
   have H':=mk0 H
   clear H
   have hnb29:=NB252_241.out
   have hnc29:=NB241_252.out
   obtain⟨hcz30_0,hcz30_1,hcz30_2,hfz30_0,hfz30_1,hfz30_2⟩:=cz3 BK252.out
   obtain⟨hcz31_0,hcz31_1,hcz31_2,hfz31_0,hfz31_1,hfz31_2⟩:=cz3 BK241.out
   go_wp2_with (first|((with_reducible refine gate_callee (f:=22) rfl ?_);refine goesL_ (some 37) rfl rfl Try.func22 (by kernel_rfl) rfl #[.agg #[.int .i64 t248,.int .i64 t249,.int .i64 t250],.agg #[.int .i64 t237,.int .i64 t238,.int .i64 t239]] rfl (by (try simp only [mA,mC,mN]);first|done|rfl|(simp only [List.length_drop,List.length_take];done)|(simp only [List.length_drop,List.length_take];rfl)) ?_;(with_reducible refine (laws_eqStretch.calls t248 t249 t250 t237 t238 t239 true _ A27.out).mono ?_);rintro e w32 ⟨rfl,hb⟩;refine⟨_,rfl,?_⟩;replace HO233:=mk0 (Kd.R_below (by (with_reducible repeat (first|apply aR|apply nR|apply dR));exact (Kd.R_mono (Kd.R_far (p:=⟨gb252,2,none⟩) (Kd.R_far (p:=⟨gb252,1,none⟩) (Kd.R_far (p:=⟨gb252,0,none⟩) (Kd.R_types HO233.out BK252.out (by decide)) (fun _ hk=>hk.2) (.int .i64 t248)) (fun _ hk=>hk.2) (.int .i64 t249)) (fun _ hk=>hk.2) (.int .i64 t250)) (fun _ h_=>h_.1))) hb);replace HO236:=mk0 (Kd.R_below (by (with_reducible repeat (first|apply aR|apply nR|apply dR));exact (Kd.R_mono (Kd.R_far (p:=⟨gb252,2,none⟩) (Kd.R_far (p:=⟨gb252,1,none⟩) (Kd.R_far (p:=⟨gb252,0,none⟩) (Kd.R_types HO236.out BK252.out (by decide)) (fun _ hk=>hk.2) (.int .i64 t248)) (fun _ hk=>hk.2) (.int .i64 t249)) (fun _ hk=>hk.2) (.int .i64 t250)) (fun _ h_=>h_.1))) hb);replace HO244:=mk0 (Kd.R_below (by (with_reducible repeat (first|apply aR|apply nR|apply dR));exact (Kd.R_mono (Kd.R_far (p:=⟨gb252,2,none⟩) (Kd.R_far (p:=⟨gb252,1,none⟩) (Kd.R_far (p:=⟨gb252,0,none⟩) (Kd.R_types HO244.out BK252.out (by decide)) (fun _ hk=>hk.2) (.int .i64 t248)) (fun _ hk=>hk.2) (.int .i64 t249)) (fun _ hk=>hk.2) (.int .i64 t250)) (fun _ h_=>h_.1))) hb);replace HO247:=mk0 (Kd.R_below (by (with_reducible repeat (first|apply aR|apply nR|apply dR));exact (Kd.R_mono (Kd.R_far (p:=⟨gb252,2,none⟩) (Kd.R_far (p:=⟨gb252,1,none⟩) (Kd.R_far (p:=⟨gb252,0,none⟩) (Kd.R_types HO247.out BK252.out (by decide)) (fun _ hk=>hk.2) (.int .i64 t248)) (fun _ hk=>hk.2) (.int .i64 t249)) (fun _ hk=>hk.2) (.int .i64 t250)) (fun _ h_=>h_.1))) hb);replace BK241:=mk0 (blk_below (g:=gb241) (o:=.cells #[.int .i64 t237,.int .i64 t238,.int .i64 t239] 27 (0,0)) (by (with_reducible repeat (first|apply nB|apply dB|apply aB));refine blk_far ?_ NB241_252.out _;(with_reducible repeat (first|apply nB|apply dB|apply aB));refine blk_far ?_ NB241_252.out _;(with_reducible repeat (first|apply nB|apply dB|apply aB));refine blk_far ?_ NB241_252.out _;(with_reducible repeat (first|apply nB|apply dB|apply aB));exact BK241.out) hb);replace BK252:=mk0 (blk_below (g:=gb252) (o:=.cells #[.int .i64 t248,.int .i64 t249,.int .i64 t250] 27 (0,0)) (by (with_reducible repeat (first|apply nB|apply dB|apply aB));refine blk_put (cs:=#[.int .i64 t248,.int .i64 t249,.int .i64 0]) ?_ 2 _ rfl;(with_reducible repeat (first|apply nB|apply dB|apply aB));refine blk_put (cs:=#[.int .i64 t248,.int .i64 0,.int .i64 0]) ?_ 1 _ rfl;(with_reducible repeat (first|apply nB|apply dB|apply aB));refine blk_put (cs:=#[.int .i64 0,.int .i64 0,.int .i64 0]) ?_ 0 _ rfl;(with_reducible repeat (first|apply nB|apply dB|apply aB));exact BK252.out) hb);replace HB:=mk0 (kS HB.out hb);(try clear hb)))
   go_meet
   case rel=>exact⟨_,((t251 != t240)),(by first|rfl|(simp;done)|(simp [*];done)),H',⟨by first|omega|exact Nat.le_refl _⟩,⟨rR (Kd.R_mono HO244.out (fun _ hk=>hk.2))⟩,⟨rR (Kd.R_mono HO247.out (fun _ hk=>hk.2))⟩,⟨kN BK241.out⟩,⟨kN BK252.out⟩,⟨kB HB.out⟩⟩
  replace c28:=Bool.eq_false_iff.mpr c28
  subst c28
  have H1:(laws_FnExactStretchOf.j0 k l0 l1 t242 t245 true) = some r:=by rw [if_neg (show ¬ (false = true) by decide)] at H;exact H
  clear H
  have H:=H1
  clear H1
  have H':=mk0 H
  clear H
  have hnb33:=NB252_241.out
  have hnc33:=NB241_252.out
  obtain⟨hcz34_0,hcz34_1,hcz34_2,hfz34_0,hfz34_1,hfz34_2⟩:=cz3 BK252.out
  obtain⟨hcz35_0,hcz35_1,hcz35_2,hfz35_0,hfz35_1,hfz35_2⟩:=cz3 BK241.out
  go_wp2_with (first|((with_reducible refine gate_callee (f:=22) rfl ?_);refine goesL_ (some 37) rfl rfl Try.func22 (by kernel_rfl) rfl #[.agg #[.int .i64 t248,.int .i64 t249,.int .i64 t250],.agg #[.int .i64 t237,.int .i64 t238,.int .i64 t239]] rfl (by (try simp only [mA,mC,mN]);first|done|rfl|(simp only [List.length_drop,List.length_take];done)|(simp only [List.length_drop,List.length_take];rfl)) ?_;(with_reducible refine (laws_eqStretch.calls t248 t249 t250 t237 t238 t239 false _ A27.out).mono ?_);rintro e w36 ⟨rfl,hb⟩;refine⟨_,rfl,?_⟩;replace HO233:=mk0 (Kd.R_below (by (with_reducible repeat (first|apply aR|apply nR|apply dR));exact (Kd.R_mono (Kd.R_far (p:=⟨gb252,2,none⟩) (Kd.R_far (p:=⟨gb252,1,none⟩) (Kd.R_far (p:=⟨gb252,0,none⟩) (Kd.R_types HO233.out BK252.out (by decide)) (fun _ hk=>hk.2) (.int .i64 t248)) (fun _ hk=>hk.2) (.int .i64 t249)) (fun _ hk=>hk.2) (.int .i64 t250)) (fun _ h_=>h_.1))) hb);replace HO236:=mk0 (Kd.R_below (by (with_reducible repeat (first|apply aR|apply nR|apply dR));exact (Kd.R_mono (Kd.R_far (p:=⟨gb252,2,none⟩) (Kd.R_far (p:=⟨gb252,1,none⟩) (Kd.R_far (p:=⟨gb252,0,none⟩) (Kd.R_types HO236.out BK252.out (by decide)) (fun _ hk=>hk.2) (.int .i64 t248)) (fun _ hk=>hk.2) (.int .i64 t249)) (fun _ hk=>hk.2) (.int .i64 t250)) (fun _ h_=>h_.1))) hb);replace HO244:=mk0 (Kd.R_below (by (with_reducible repeat (first|apply aR|apply nR|apply dR));exact (Kd.R_mono (Kd.R_far (p:=⟨gb252,2,none⟩) (Kd.R_far (p:=⟨gb252,1,none⟩) (Kd.R_far (p:=⟨gb252,0,none⟩) (Kd.R_types HO244.out BK252.out (by decide)) (fun _ hk=>hk.2) (.int .i64 t248)) (fun _ hk=>hk.2) (.int .i64 t249)) (fun _ hk=>hk.2) (.int .i64 t250)) (fun _ h_=>h_.1))) hb);replace HO247:=mk0 (Kd.R_below (by (with_reducible repeat (first|apply aR|apply nR|apply dR));exact (Kd.R_mono (Kd.R_far (p:=⟨gb252,2,none⟩) (Kd.R_far (p:=⟨gb252,1,none⟩) (Kd.R_far (p:=⟨gb252,0,none⟩) (Kd.R_types HO247.out BK252.out (by decide)) (fun _ hk=>hk.2) (.int .i64 t248)) (fun _ hk=>hk.2) (.int .i64 t249)) (fun _ hk=>hk.2) (.int .i64 t250)) (fun _ h_=>h_.1))) hb);replace BK241:=mk0 (blk_below (g:=gb241) (o:=.cells #[.int .i64 t237,.int .i64 t238,.int .i64 t239] 27 (0,0)) (by (with_reducible repeat (first|apply nB|apply dB|apply aB));refine blk_far ?_ NB241_252.out _;(with_reducible repeat (first|apply nB|apply dB|apply aB));refine blk_far ?_ NB241_252.out _;(with_reducible repeat (first|apply nB|apply dB|apply aB));refine blk_far ?_ NB241_252.out _;(with_reducible repeat (first|apply nB|apply dB|apply aB));exact BK241.out) hb);replace BK252:=mk0 (blk_below (g:=gb252) (o:=.cells #[.int .i64 t248,.int .i64 t249,.int .i64 t250] 27 (0,0)) (by (with_reducible repeat (first|apply nB|apply dB|apply aB));refine blk_put (cs:=#[.int .i64 t248,.int .i64 t249,.int .i64 0]) ?_ 2 _ rfl;(with_reducible repeat (first|apply nB|apply dB|apply aB));refine blk_put (cs:=#[.int .i64 t248,.int .i64 0,.int .i64 0]) ?_ 1 _ rfl;(with_reducible repeat (first|apply nB|apply dB|apply aB));refine blk_put (cs:=#[.int .i64 0,.int .i64 0,.int .i64 0]) ?_ 0 _ rfl;(with_reducible repeat (first|apply nB|apply dB|apply aB));exact BK252.out) hb);replace HB:=mk0 (kS HB.out hb);(try clear hb)))
  go_meet
  case rel=>exact⟨_,(true),(by first|rfl|(simp;done)|(simp [*];done)),H',⟨by first|omega|exact Nat.le_refl _⟩,⟨rR (Kd.R_mono HO244.out (fun _ hk=>hk.2))⟩,⟨rR (Kd.R_mono HO247.out (fun _ hk=>hk.2))⟩,⟨kN BK241.out⟩,⟨kN BK252.out⟩,⟨kB HB.out⟩⟩
 case rest =>
  clear HC11
  try clear c1
  try clear c2
  try clear p2
  try clear c3
  try clear c3b0
  try clear c3b1
  try clear c4
  try clear c4b0
  try clear c4b1
  try clear c5
  try clear c12
  try clear c20
  try clear c21
  try clear c22
  try clear c25
  try clear c28
  try clear c29
  try clear c33
  try clear hcz18_0
  try clear hcz18_1
  try clear hcz18_2
  try clear hcz26_0
  try clear hcz26_1
  try clear hcz26_2
  try clear hcz30_0
  try clear hcz30_1
  try clear hcz30_2
  try clear hcz31_0
  try clear hcz31_1
  try clear hcz31_2
  try clear hcz34_0
  try clear hcz34_1
  try clear hcz34_2
  try clear hcz35_0
  try clear hcz35_1
  try clear hcz35_2
  try clear hfz18_0
  try clear hfz18_1
  try clear hfz18_2
  try clear hfz26_0
  try clear hfz26_1
  try clear hfz26_2
  try clear hfz30_0
  try clear hfz30_1
  try clear hfz30_2
  try clear hfz31_0
  try clear hfz31_1
  try clear hfz31_2
  try clear hfz34_0
  try clear hfz34_1
  try clear hfz34_2
  try clear hfz35_0
  try clear hfz35_1
  try clear hfz35_2
  obtain⟨kq,x43_10,rfl,HA,HJ10,HO_7,HO_8,BK241,BK252,HB⟩:=hcut
  cases kq with
  | zero=>exact absurd HA.out (by simp [laws_FnExactStretchOf.j0])
  | succ kj10 =>
   have H:=HA.out
   clear HA
   simp only [laws_FnExactStretchOf.j0] at H
   by_cases c37:x43_10 = true
   ·subst c37
    have H1:(some false) = some r:=by rw [if_pos rfl] at H;exact H
    clear H
    have H:=H1
    clear H1
    obtain rfl:=Option.some.inj H
    go_wp2
    go_ret
    exact⟨by first|rfl|(simp [errW_none,errW_some] <;> rfl)|(simp [*,errW_none,errW_some] <;> rfl),kB HB.out⟩
   replace c37:=Bool.eq_false_iff.mpr c37
   subst c37
   have H1:((laws_toByteS.f kj10 l0).bind fun t254=>((laws_eqByteS.f kj10 t242 t254).bind fun t257=>(if t257 = true then ((laws_toByteS.f kj10 l1).bind fun t258=>((laws_eqByteS.f kj10 t245 t258).bind fun t261=>(if t261 = true then (some true) else (some false)))) else (some false)))) = some r:=by rw [if_neg (show ¬ (false = true) by decide)] at H;exact H
   clear H
   have H:=H1
   clear H1
   replace H:=Option.bind_eq_some_iff.mp H
   obtain⟨t254,A380,H⟩:=H
   replace H:((laws_eqByteS.f kj10 t242 t254).bind fun t257=>(if t257 = true then ((laws_toByteS.f kj10 l1).bind fun t258=>((laws_eqByteS.f kj10 t245 t258).bind fun t261=>(if t261 = true then (some true) else (some false)))) else (some false))) = some r:=H
   have A38:=mk0 A380
   clear A380
   replace H:=Option.bind_eq_some_iff.mp H
   obtain⟨t257,A390,H⟩:=H
   replace H:(if t257 = true then ((laws_toByteS.f kj10 l1).bind fun t258=>((laws_eqByteS.f kj10 t245 t258).bind fun t261=>(if t261 = true then (some true) else (some false)))) else (some false)) = some r:=H
   have A39:=mk0 A390
   clear A390
   by_cases c40:t257 = true
   rotate_left
   ·replace c40:=Bool.eq_false_iff.mpr c40
    subst c40
    have H1:(some false) = some r:=by rw [if_neg (show ¬ (false = true) by decide)] at H;exact H
    clear H
    have H:=H1
    clear H1
    obtain rfl:=Option.some.inj H
    go_wp2_with (first|((with_reducible refine gate_callee (f:=12) rfl ?_);refine goesL_ (some 46) rfl rfl Try.func12 (by kernel_rfl) rfl #[.slice A0 l0.length c0] rfl (by (try simp only [mA,mC,mN]);first|done|rfl|(simp only [List.length_drop,List.length_take];done)|(simp only [List.length_drop,List.length_take];rfl)) ?_;(with_reducible refine (laws_toByteS.calls kj10 _ _ l0 t254 _ ?side1 ?side2 A38.out).mono ?_);(case side1=>exact kC (Kd.C_below HR0.out HB.out));(case side2=>exact HC0.out);rintro e w52 ⟨v255,rfl,ho0,hb⟩;refine⟨_,rfl,?_⟩;have HO256:=mk0 (Kd.R_lower (Kd.R_new' (Kd.R_new' ho0 (Kd.R_lt (rR HO_7.out))) (Kd.R_lt (rR HO_8.out))) (kZ HB.out));replace HO_7:=mk0 (Kd.R_elder' (rR HO_7.out) (Kd.R_base ho0) hb);replace HO_8:=mk0 (Kd.R_elder' (rR HO_8.out) (Kd.R_base ho0) hb);replace BK241:=mk0 (kK BK241.out hb);replace BK252:=mk0 (kK BK252.out hb);replace HB:=mk0 (kS HB.out hb);(try clear hb);(try clear ho0);obtain⟨Ao53,co53,eo53⟩:=Kd.R_slice HO256.out;subst eo53)|((with_reducible refine gate_callee (f:=15) rfl ?_);refine goesL_ (some 47) rfl rfl Try.func15 (by kernel_rfl) rfl #[.slice Ao21 t242.length co21,.slice Ao53 t254.length co53] rfl (by (try simp only [mA,mC,mN]);first|done|rfl|(simp only [List.length_drop,List.length_take];done)|(simp only [List.length_drop,List.length_take];rfl)) ?_;(with_reducible refine (laws_eqByteS.calls kj10 _ _ t242 _ _ t254 false _ ?side1 ?side2 ?side3 ?side4 A39.out).mono ?_);(case side1=>exact kC (Kd.R_reads' HO_7.out).2.2);(case side2=>exact (Kd.R_reads' HO_7.out).2.1);(case side3=>exact kC (Kd.R_reads' HO256.out).2.2);(case side4=>exact (Kd.R_reads' HO256.out).2.1);rintro e w' ⟨rfl,⟨nd,rfl⟩⟩;refine⟨_,rfl,?_⟩))
    go_ret
    exact⟨by first|rfl|(simp [errW_none,errW_some] <;> rfl)|(simp [*,errW_none,errW_some] <;> rfl),kB HB.out⟩

   subst c40
   have H1:((laws_toByteS.f kj10 l1).bind fun t258=>((laws_eqByteS.f kj10 t245 t258).bind fun t261=>(if t261 = true then (some true) else (some false)))) = some r:=by rw [if_pos rfl] at H;exact H
   clear H
   have H:=H1
   clear H1
   replace H:=Option.bind_eq_some_iff.mp H
   obtain⟨t258,A410,H⟩:=H
   replace H:((laws_eqByteS.f kj10 t245 t258).bind fun t261=>(if t261 = true then (some true) else (some false))) = some r:=H
   have A41:=mk0 A410
   clear A410
   replace H:=Option.bind_eq_some_iff.mp H
   obtain⟨t261,A420,H⟩:=H
   replace H:(if t261 = true then (some true) else (some false)) = some r:=H
   have A42:=mk0 A420
   clear A420
   by_cases c43:t261 = true
   ·subst c43
    have H1:(some true) = some r:=by rw [if_pos rfl] at H;exact H
    clear H
    have H:=H1
    clear H1
    obtain rfl:=Option.some.inj H
    go_wp2_with (first|((with_reducible refine gate_callee (f:=12) rfl ?_);refine goesL_ (some 46) rfl rfl Try.func12 (by kernel_rfl) rfl #[.slice A0 l0.length c0] rfl (by (try simp only [mA,mC,mN]);first|done|rfl|(simp only [List.length_drop,List.length_take];done)|(simp only [List.length_drop,List.length_take];rfl)) ?_;(with_reducible refine (laws_toByteS.calls kj10 _ _ l0 t254 _ ?side1 ?side2 A38.out).mono ?_);(case side1=>exact kC (Kd.C_below HR0.out HB.out));(case side2=>exact HC0.out);rintro e w44 ⟨v255,rfl,ho0,hb⟩;refine⟨_,rfl,?_⟩;have HO256:=mk0 (Kd.R_lower (Kd.R_new' (Kd.R_new' ho0 (Kd.R_lt (rR HO_7.out))) (Kd.R_lt (rR HO_8.out))) (kZ HB.out));replace HO_7:=mk0 (Kd.R_elder' (rR HO_7.out) (Kd.R_base ho0) hb);replace HO_8:=mk0 (Kd.R_elder' (rR HO_8.out) (Kd.R_base ho0) hb);replace BK241:=mk0 (kK BK241.out hb);replace BK252:=mk0 (kK BK252.out hb);replace HB:=mk0 (kS HB.out hb);(try clear hb);(try clear ho0);obtain⟨Ao45,co45,eo45⟩:=Kd.R_slice HO256.out;subst eo45)|((with_reducible refine gate_callee (f:=15) rfl ?_);refine goesL_ (some 47) rfl rfl Try.func15 (by kernel_rfl) rfl #[.slice Ao21 t242.length co21,.slice Ao45 t254.length co45] rfl (by (try simp only [mA,mC,mN]);first|done|rfl|(simp only [List.length_drop,List.length_take];done)|(simp only [List.length_drop,List.length_take];rfl)) ?_;(with_reducible refine (laws_eqByteS.calls kj10 _ _ t242 _ _ t254 true _ ?side1 ?side2 ?side3 ?side4 A39.out).mono ?_);(case side1=>exact kC (Kd.R_reads' HO_7.out).2.2);(case side2=>exact (Kd.R_reads' HO_7.out).2.1);(case side3=>exact kC (Kd.R_reads' HO256.out).2.2);(case side4=>exact (Kd.R_reads' HO256.out).2.1);rintro e w' ⟨rfl,⟨nd,rfl⟩⟩;refine⟨_,rfl,?_⟩)|((with_reducible refine gate_callee (f:=12) rfl ?_);refine goesL_ (some 51) rfl rfl Try.func12 (by kernel_rfl) rfl #[.slice A1 l1.length c1] rfl (by (try simp only [mA,mC,mN]);first|done|rfl|(simp only [List.length_drop,List.length_take];done)|(simp only [List.length_drop,List.length_take];rfl)) ?_;(with_reducible refine (laws_toByteS.calls kj10 _ _ l1 t258 _ ?side1 ?side2 A41.out).mono ?_);(case side1=>repeat (first|exact (Kd.C_below HR1.out (kB HB.out))|(with_reducible first|apply aC|apply nC|apply dC)));(case side2=>exact HC1.out);rintro e w46 ⟨v259,rfl,ho0,hb⟩;refine⟨_,rfl,?_⟩;have HO260:=mk0 (Kd.R_lower (Kd.R_new' (Kd.R_new' (Kd.R_new' ho0 (Kd.R_lt (rR HO_7.out))) (Kd.R_lt (rR HO_8.out))) (Kd.R_lt (rR HO256.out))) (kZ HB.out));replace HO_7:=mk0 (Kd.R_elder' (rR HO_7.out) (Kd.R_base ho0) hb);replace HO_8:=mk0 (Kd.R_elder' (rR HO_8.out) (Kd.R_base ho0) hb);replace HO256:=mk0 (Kd.R_elder' (rR HO256.out) (Kd.R_base ho0) hb);replace BK241:=mk0 (kK BK241.out hb);replace BK252:=mk0 (kK BK252.out hb);replace HB:=mk0 (kS HB.out hb);(try clear hb);(try clear ho0);obtain⟨Ao47,co47,eo47⟩:=Kd.R_slice HO260.out;subst eo47)|((with_reducible refine gate_callee (f:=15) rfl ?_);refine goesL_ (some 52) rfl rfl Try.func15 (by kernel_rfl) rfl #[.slice Ao22 t245.length co22,.slice Ao47 t258.length co47] rfl (by (try simp only [mA,mC,mN]);first|done|rfl|(simp only [List.length_drop,List.length_take];done)|(simp only [List.length_drop,List.length_take];rfl)) ?_;(with_reducible refine (laws_eqByteS.calls kj10 _ _ t245 _ _ t258 true _ ?side1 ?side2 ?side3 ?side4 A42.out).mono ?_);(case side1=>exact kC (Kd.R_reads' HO_8.out).2.2);(case side2=>exact (Kd.R_reads' HO_8.out).2.1);(case side3=>exact kC (Kd.R_reads' HO260.out).2.2);(case side4=>exact (Kd.R_reads' HO260.out).2.1);rintro e w' ⟨rfl,⟨nd,rfl⟩⟩;refine⟨_,rfl,?_⟩))
    go_ret
    exact⟨by first|rfl|(simp [errW_none,errW_some] <;> rfl)|(simp [*,errW_none,errW_some] <;> rfl),kB HB.out⟩
   replace c43:=Bool.eq_false_iff.mpr c43
   subst c43
   have H1:(some false) = some r:=by rw [if_neg (show ¬ (false = true) by decide)] at H;exact H
   clear H
   have H:=H1
   clear H1
   obtain rfl:=Option.some.inj H
   go_wp2_with (first|((with_reducible refine gate_callee (f:=12) rfl ?_);refine goesL_ (some 46) rfl rfl Try.func12 (by kernel_rfl) rfl #[.slice A0 l0.length c0] rfl (by (try simp only [mA,mC,mN]);first|done|rfl|(simp only [List.length_drop,List.length_take];done)|(simp only [List.length_drop,List.length_take];rfl)) ?_;(with_reducible refine (laws_toByteS.calls kj10 _ _ l0 t254 _ ?side1 ?side2 A38.out).mono ?_);(case side1=>exact kC (Kd.C_below HR0.out HB.out));(case side2=>exact HC0.out);rintro e w48 ⟨v255,rfl,ho0,hb⟩;refine⟨_,rfl,?_⟩;have HO256:=mk0 (Kd.R_lower (Kd.R_new' (Kd.R_new' ho0 (Kd.R_lt (rR HO_7.out))) (Kd.R_lt (rR HO_8.out))) (kZ HB.out));replace HO_7:=mk0 (Kd.R_elder' (rR HO_7.out) (Kd.R_base ho0) hb);replace HO_8:=mk0 (Kd.R_elder' (rR HO_8.out) (Kd.R_base ho0) hb);replace BK241:=mk0 (kK BK241.out hb);replace BK252:=mk0 (kK BK252.out hb);replace HB:=mk0 (kS HB.out hb);(try clear hb);(try clear ho0);obtain⟨Ao49,co49,eo49⟩:=Kd.R_slice HO256.out;subst eo49)|((with_reducible refine gate_callee (f:=15) rfl ?_);refine goesL_ (some 47) rfl rfl Try.func15 (by kernel_rfl) rfl #[.slice Ao21 t242.length co21,.slice Ao49 t254.length co49] rfl (by (try simp only [mA,mC,mN]);first|done|rfl|(simp only [List.length_drop,List.length_take];done)|(simp only [List.length_drop,List.length_take];rfl)) ?_;(with_reducible refine (laws_eqByteS.calls kj10 _ _ t242 _ _ t254 true _ ?side1 ?side2 ?side3 ?side4 A39.out).mono ?_);(case side1=>exact kC (Kd.R_reads' HO_7.out).2.2);(case side2=>exact (Kd.R_reads' HO_7.out).2.1);(case side3=>exact kC (Kd.R_reads' HO256.out).2.2);(case side4=>exact (Kd.R_reads' HO256.out).2.1);rintro e w' ⟨rfl,⟨nd,rfl⟩⟩;refine⟨_,rfl,?_⟩)|((with_reducible refine gate_callee (f:=12) rfl ?_);refine goesL_ (some 51) rfl rfl Try.func12 (by kernel_rfl) rfl #[.slice A1 l1.length c1] rfl (by (try simp only [mA,mC,mN]);first|done|rfl|(simp only [List.length_drop,List.length_take];done)|(simp only [List.length_drop,List.length_take];rfl)) ?_;(with_reducible refine (laws_toByteS.calls kj10 _ _ l1 t258 _ ?side1 ?side2 A41.out).mono ?_);(case side1=>repeat (first|exact (Kd.C_below HR1.out (kB HB.out))|(with_reducible first|apply aC|apply nC|apply dC)));(case side2=>exact HC1.out);rintro e w50 ⟨v259,rfl,ho0,hb⟩;refine⟨_,rfl,?_⟩;have HO260:=mk0 (Kd.R_lower (Kd.R_new' (Kd.R_new' (Kd.R_new' ho0 (Kd.R_lt (rR HO_7.out))) (Kd.R_lt (rR HO_8.out))) (Kd.R_lt (rR HO256.out))) (kZ HB.out));replace HO_7:=mk0 (Kd.R_elder' (rR HO_7.out) (Kd.R_base ho0) hb);replace HO_8:=mk0 (Kd.R_elder' (rR HO_8.out) (Kd.R_base ho0) hb);replace HO256:=mk0 (Kd.R_elder' (rR HO256.out) (Kd.R_base ho0) hb);replace BK241:=mk0 (kK BK241.out hb);replace BK252:=mk0 (kK BK252.out hb);replace HB:=mk0 (kS HB.out hb);(try clear hb);(try clear ho0);obtain⟨Ao51,co51,eo51⟩:=Kd.R_slice HO260.out;subst eo51)|((with_reducible refine gate_callee (f:=15) rfl ?_);refine goesL_ (some 52) rfl rfl Try.func15 (by kernel_rfl) rfl #[.slice Ao22 t245.length co22,.slice Ao51 t258.length co51] rfl (by (try simp only [mA,mC,mN]);first|done|rfl|(simp only [List.length_drop,List.length_take];done)|(simp only [List.length_drop,List.length_take];rfl)) ?_;(with_reducible refine (laws_eqByteS.calls kj10 _ _ t245 _ _ t258 false _ ?side1 ?side2 ?side3 ?side4 A42.out).mono ?_);(case side1=>exact kC (Kd.R_reads' HO_8.out).2.2);(case side2=>exact (Kd.R_reads' HO_8.out).2.1);(case side3=>exact kC (Kd.R_reads' HO260.out).2.2);(case side4=>exact (Kd.R_reads' HO260.out).2.1);rintro e w' ⟨rfl,⟨nd,rfl⟩⟩;refine⟨_,rfl,?_⟩))
   go_ret
   exact⟨by first|rfl|(simp [errW_none,errW_some] <;> rfl)|(simp [*,errW_none,errW_some] <;> rfl),kB HB.out⟩
/-- THE ONE PURE STATEMENT of laws_FnExactStretchOf: yours. -/
def laws_FnExactStretchOf.Pure : Prop := ∀ (l0 : List Int) (l1 : List Int), l0.length ≤ maxLen → l0.length * 1 ≤ 140737488351232 → (∀ x ∈ l0, (Lit.int .u8 x).wf = true) → l1.length ≤ maxLen → l1.length * 1 ≤ 140737488351232 → (∀ x ∈ l1, (Lit.int .u8 x).wf = true) → ∃ k, laws_FnExactStretchOf.f k l0 l1 = some true
theorem laws_FnExactStretchOf.walk (P : laws_FnExactStretchOf.Pure) (a0 : Option Addr) (len0 cap0 : Nat) (z0 : List Int) (a1 : Option Addr) (len1 cap1 : Nat) (z1 : List Int) (w : World) (w0 : (a0 = none ∧ len0 = 0 ∧ cap0 = 0 ∧ z0 = []) ∨ ∃ x, a0 = some x ∧ len0 ≤ cap0 ∧ cap0 ≤ maxLen ∧ z0.length = cap0 ∧ (∀ i, i < z0.length → w.cell? (x.add i) = some (.int .u8 (z0.getD i 0))) ∧ ∀ n ∈ z0, (Lit.int .u8 n).wf = true) (y0 : len0 * 1 ≤ 140737488351232) (w1 : (a1 = none ∧ len1 = 0 ∧ cap1 = 0 ∧ z1 = []) ∨ ∃ x, a1 = some x ∧ len1 ≤ cap1 ∧ cap1 ≤ maxLen ∧ z1.length = cap1 ∧ (∀ i, i < z1.length → w.cell? (x.add i) = some (.int .u8 (z1.getD i 0))) ∧ ∀ n ∈ z1, (Lit.int .u8 n).wf = true) (y1 : len1 * 1 ≤ 140737488351232) :
    Calls Try.prog 5 #[.slice a0 len0 cap0, .slice a1 len1 cap1] w fun e w' => e = .returned (.bool true) ∧ Below w.heap.size w w' := by
  obtain ⟨l0, rfl, hr0, hm0, hw0, hc0⟩ := ReadsInt.ofRowC w0
  obtain ⟨l1, rfl, hr1, hm1, hw1, hc1⟩ := ReadsInt.ofRowC w1
  obtain ⟨k, h⟩ := P l0 l1 hm0 y0 hw0 hm1 y1 hw1
  refine (laws_FnExactStretchOf.calls k _ _ l0 _ _ l1 true w (Kd.C_of_reads (d := (0 : Int)) (h1 := fun _ => rfl) hr0) hc0 (Kd.C_of_reads (d := (0 : Int)) (h1 := fun _ => rfl) hr1) hc1 h).mono ?_
  rintro e w' ⟨rfl, hd⟩
  exact ⟨rfl, hd⟩

end Go.Proofs.Ytoinagnieobbpaa.QFnExactStretchOf
