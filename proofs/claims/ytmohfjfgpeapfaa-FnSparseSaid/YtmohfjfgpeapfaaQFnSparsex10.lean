-- A walk, made by walk.py, a program of this session's.
import Derived.Test.YtmohfjfgpeapfaaQFnSparsex0
import Derived.Test.YtmohfjfgpeapfaaQFnSparsex5
import Derived.Test.YtmohfjfgpeapfaaQFnSparsex9
namespace Go.Proofs.Ytmohfjfgpeapfaa.QFnSparse
open Go.RowKit Go.Proofs.YtmohfjfgpeapfaaW.PrintWords Go.Proofs.YtmohfjfgpeapfaaW.PrintLast Go.Proofs.YtmohfjfgpeapfaaW.PrintMore
attribute [local go_sem] max2_int min2_int max_two min_two max_three min_three max_four min_four   -- for this text's walks alone
set_option linter.unusedVariables false
set_option linter.unusedSimpArgs false

/-! ### impl_SparseRank: function 14 -/
def impl_SparseRank.f (k : Nat) (a0_0 : Int) (a0_1 : Int) (a0_2 : Int) (a0_3 : Int) (a0_4 : Int) (l0_5 : List Int) (a0_6 : Int) (l0_7 : List Int) (a1 : Int) : Option (Int) := (impl_Sparse_read.f k a0_0 a0_1 a0_2 a0_3 a0_4 l0_5 a0_6 l0_7).bind fun bt414 => (if bt414.2 = true then ((slices_BinarySearch_int_int.f k bt414.1 a1).bind fun bt418 => (some bt418.1)) else (some (-1)))
theorem impl_SparseRank.mono : ∀ a0 a1 a2 a3 a4 a5 a6 a7 a8 k, LeO (impl_SparseRank.f k a0 a1 a2 a3 a4 a5 a6 a7 a8) (impl_SparseRank.f (k + 1) a0 a1 a2 a3 a4 a5 a6 a7 a8) := by
 intro a0 a1 a2 a3 a4 a5 a6 a7 a8 k
 unfold impl_SparseRank.f
 repeat' first|(with_reducible first|exact impl_Sparse_read.mono _ _ _ _ _ _ _ _ _|exact slices_BinarySearch_int_int.mono _ _ _|exact LeO.refl _|exact LeO.none _|refine LeO.ite ?_ ?_|refine LeO.bind ?_ (fun _ => ?_))|exact LeO.none _|refine LeO.ite ?_ ?_|refine LeO.bind ?_ (fun _ => ?_)
set_option maxHeartbeats 8000000 in
set_option maxRecDepth 100000 in
theorem impl_SparseRank.calls (k : Nat) (a0_0 : Int) (a0_1 : Int) (a0_2 : Int) (a0_3 : Int) (a0_4 : Int) (A0_5 : Option Addr) (c0_5 : Nat) (l0_5 : List Int) (a0_6 : Int) (A0_7 : Option Addr) (c0_7 : Nat) (l0_7 : List Int) (a1 : Int) (r : Int) (w : World) (hr0_5 : Kd.C (Kd.int .u64) w A0_5 l0_5.length l0_5) (hc0_5 : l0_5.length ≤ c0_5) (hr0_7 : Kd.C (Kd.int .u64) w A0_7 l0_7.length l0_7) (hc0_7 : l0_7.length ≤ c0_7) (h : impl_SparseRank.f k a0_0 a0_1 a0_2 a0_3 a0_4 l0_5 a0_6 l0_7 a1 = some r) :
  Calls Try.prog 14 #[.agg #[.int .i64 a0_0, .int .i64 a0_1, .int .i64 a0_2, .int .i64 a0_3, .int .i64 a0_4, .slice A0_5 l0_5.length c0_5, .int .i64 a0_6, .slice A0_7 l0_7.length c0_7], .int .i64 a1] w fun e w' => e = .returned (.int .i64 r) ∧ Below w.heap.size w w' := by
 have hu33:=Try.underlying33
 have HR0_5:=mk0 hr0_5
 have HC0_5:=mk0 hc0_5
 clear hr0_5 hc0_5
 have HR0_7:=mk0 hr0_7
 have HC0_7:=mk0 hc0_7
 clear hr0_7 hc0_7
 have HB:=mk0 (Below.refl w.heap.size w)
 have H:((impl_Sparse_read.f k a0_0 a0_1 a0_2 a0_3 a0_4 l0_5 a0_6 l0_7).bind fun bt414=>(if bt414.2 = true then ((slices_BinarySearch_int_int.f k bt414.1 a1).bind fun bt418=>(some bt418.1)) else (some (-1)))) = some r:=h
 clear h
 replace H:=Option.bind_eq_some_iff.mp H
 obtain⟨⟨t414,t417⟩,A30,H⟩:=H
 replace H:(if t417 = true then ((slices_BinarySearch_int_int.f k t414 a1).bind fun bt418=>(some bt418.1)) else (some (-1))) = some r:=H
 have A3:=mk0 A30
 clear A30
 by_cases c4:t417 = true
 ·subst c4
  have H1:((slices_BinarySearch_int_int.f k t414 a1).bind fun bt418=>(some bt418.1)) = some r:=by rw [if_pos rfl] at H;exact H
  clear H
  have H:=H1
  clear H1
  replace H:=Option.bind_eq_some_iff.mp H
  obtain⟨⟨t418,t419⟩,A50,H⟩:=H
  replace H:(some t418) = some r:=H
  have A5:=mk0 A50
  clear A50
  obtain rfl:=Option.some.inj H
  go_enter Try.func14,Try.ntmps14
  go_wp2_with (first|((with_reducible refine gate_dst (N:=2) rfl ?_);refine box_event ?hg (N:=2) ?hd (cs:=#[.int .i64 a0_0,.int .i64 a0_1,.int .i64 a0_2,.int .i64 a0_3,.int .i64 a0_4,.slice A0_5 l0_5.length c0_5,.int .i64 a0_6,.slice A0_7 l0_7.length c0_7]) (t:=33) ?hr ?_;(case hd=>rfl);(case hg=>rfl);(case hr=>first|(go_simp;done)|(go_simp;rfl));intro gb413 hg w6 hbox hb;have BK413:=mk0 (hbox);have GW413:=mk0 ((by rw [hg];exact (kZ HB.out):w.heap.size ≤ gb413));have GE413:=mk0 ((by rw [hg];exact (kZ HB.out):w.heap.size ≤ gb413));replace HB:=mk0 (kS HB.out hb);clear hb hbox hg;obtain⟨hcz7_0,hcz7_1,hcz7_2,hcz7_3,hcz7_4,hcz7_5,hcz7_6,hcz7_7,hfz7_0,hfz7_1,hfz7_2,hfz7_3,hfz7_4,hfz7_5,hfz7_6,hfz7_7⟩:=cz8 BK413.out)|((with_reducible refine gate_callee (f:=38) rfl ?_);refine goesL_ (some 11) rfl rfl Try.func38 (by kernel_rfl) rfl #[.agg #[.int .i64 a0_0,.int .i64 a0_1,.int .i64 a0_2,.int .i64 a0_3,.int .i64 a0_4,.slice A0_5 l0_5.length c0_5,.int .i64 a0_6,.slice A0_7 l0_7.length c0_7]] rfl (by (try simp only [mA,mC,mN]);first|done|rfl|(simp only [List.length_drop,List.length_take];done)|(simp only [List.length_drop,List.length_take];rfl)) ?_;(with_reducible refine (impl_Sparse_read.calls k a0_0 a0_1 a0_2 a0_3 a0_4 _ _ l0_5 a0_6 _ _ l0_7 t414 true _ ?side1 ?side2 ?side3 ?side4 A3.out).mono ?_);(case side1=>exact kC (Kd.C_below HR0_5.out HB.out));(case side2=>exact HC0_5.out);(case side3=>exact kC (Kd.C_below HR0_7.out HB.out));(case side4=>exact HC0_7.out);rintro e w8 ⟨v415,rfl,ho0,hb⟩;refine⟨_,rfl,?_⟩;have HO416:=mk0 (Kd.R_lower ho0 (kZ HB.out));replace BK413:=mk0 (kK BK413.out hb);replace HB:=mk0 (kS HB.out hb);(try clear hb);(try clear ho0);obtain⟨Ao9,co9,eo9⟩:=Kd.R_slice HO416.out;subst eo9)|((with_reducible refine gate_callee (f:=39) rfl ?_);refine goesL_ (some 19) rfl rfl Try.func39 (by kernel_rfl) rfl #[.slice Ao9 t414.length co9,.int .i64 a1] rfl (by (try simp only [mA,mC,mN]);first|done|rfl|(simp only [List.length_drop,List.length_take];done)|(simp only [List.length_drop,List.length_take];rfl)) ?_;(with_reducible refine (slices_BinarySearch_int_int.calls k _ _ t414 a1 t418 t419 _ ?side1 ?side2 A5.out).mono ?_);(case side1=>exact kC (Kd.R_reads' HO416.out).2.2);(case side2=>exact (Kd.R_reads' HO416.out).2.1);rintro e w' ⟨rfl,⟨nd,rfl⟩⟩;refine⟨_,rfl,?_⟩))
  go_ret
  exact⟨by first|rfl|(simp [errW_none,errW_some] <;> rfl)|(simp [*,errW_none,errW_some] <;> rfl),kB HB.out⟩
 ·replace c4:=Bool.eq_false_iff.mpr c4
  subst c4
  have H1:(some (-1)) = some r:=by rw [if_neg (show ¬ (false = true) by decide)] at H;exact H
  clear H
  have H:=H1
  clear H1
  obtain rfl:=Option.some.inj H
  go_enter Try.func14,Try.ntmps14
  go_wp2_with (first|((with_reducible refine gate_dst (N:=2) rfl ?_);refine box_event ?hg (N:=2) ?hd (cs:=#[.int .i64 a0_0,.int .i64 a0_1,.int .i64 a0_2,.int .i64 a0_3,.int .i64 a0_4,.slice A0_5 l0_5.length c0_5,.int .i64 a0_6,.slice A0_7 l0_7.length c0_7]) (t:=33) ?hr ?_;(case hd=>rfl);(case hg=>rfl);(case hr=>first|(go_simp;done)|(go_simp;rfl));intro gb413 hg w10 hbox hb;have BK413:=mk0 (hbox);have GW413:=mk0 ((by rw [hg];exact (kZ HB.out):w.heap.size ≤ gb413));have GE413:=mk0 ((by rw [hg];exact (kZ HB.out):w.heap.size ≤ gb413));replace HB:=mk0 (kS HB.out hb);clear hb hbox hg;obtain⟨hcz11_0,hcz11_1,hcz11_2,hcz11_3,hcz11_4,hcz11_5,hcz11_6,hcz11_7,hfz11_0,hfz11_1,hfz11_2,hfz11_3,hfz11_4,hfz11_5,hfz11_6,hfz11_7⟩:=cz8 BK413.out)|((with_reducible refine gate_callee (f:=38) rfl ?_);refine goesL_ (some 11) rfl rfl Try.func38 (by kernel_rfl) rfl #[.agg #[.int .i64 a0_0,.int .i64 a0_1,.int .i64 a0_2,.int .i64 a0_3,.int .i64 a0_4,.slice A0_5 l0_5.length c0_5,.int .i64 a0_6,.slice A0_7 l0_7.length c0_7]] rfl (by (try simp only [mA,mC,mN]);first|done|rfl|(simp only [List.length_drop,List.length_take];done)|(simp only [List.length_drop,List.length_take];rfl)) ?_;(with_reducible refine (impl_Sparse_read.calls k a0_0 a0_1 a0_2 a0_3 a0_4 _ _ l0_5 a0_6 _ _ l0_7 t414 false _ ?side1 ?side2 ?side3 ?side4 A3.out).mono ?_);(case side1=>exact kC (Kd.C_below HR0_5.out HB.out));(case side2=>exact HC0_5.out);(case side3=>exact kC (Kd.C_below HR0_7.out HB.out));(case side4=>exact HC0_7.out);rintro e w12 ⟨v415,rfl,ho0,hb⟩;refine⟨_,rfl,?_⟩;have HO416:=mk0 (Kd.R_lower ho0 (kZ HB.out));replace BK413:=mk0 (kK BK413.out hb);replace HB:=mk0 (kS HB.out hb);(try clear hb);(try clear ho0)))
  go_ret
  exact⟨by first|rfl|(simp [errW_none,errW_some] <;> rfl)|(simp [*,errW_none,errW_some] <;> rfl),kB HB.out⟩

/-! ### impl_SparseAt: function 15 -/
def impl_SparseAt.f (k : Nat) (a0_0 : Int) (a0_1 : Int) (a0_2 : Int) (a0_3 : Int) (a0_4 : Int) (l0_5 : List Int) (a0_6 : Int) (l0_7 : List Int) (a1 : Int) : Option (Int) := (impl_Sparse_read.f k a0_0 a0_1 a0_2 a0_3 a0_4 l0_5 a0_6 l0_7).bind fun bt421 => (if bt421.2 = true then ((impl_within.f a1 0 (wrap64 ((bt421.1.length : Int) - 1))).bind fun t425 => (if t425 = true then (if 0 ≤ a1 then (if a1 < (bt421.1.length : Int) then (some (rd bt421.1 a1)) else (none)) else (none)) else (some (-1)))) else (some (-1)))
theorem impl_SparseAt.mono : ∀ a0 a1 a2 a3 a4 a5 a6 a7 a8 k, LeO (impl_SparseAt.f k a0 a1 a2 a3 a4 a5 a6 a7 a8) (impl_SparseAt.f (k + 1) a0 a1 a2 a3 a4 a5 a6 a7 a8) := by
 intro a0 a1 a2 a3 a4 a5 a6 a7 a8 k
 unfold impl_SparseAt.f
 repeat' first|(with_reducible first|exact impl_Sparse_read.mono _ _ _ _ _ _ _ _ _|exact LeO.refl _|exact LeO.none _|refine LeO.ite ?_ ?_|refine LeO.bind ?_ (fun _ => ?_))|exact LeO.none _|refine LeO.ite ?_ ?_|refine LeO.bind ?_ (fun _ => ?_)
set_option maxHeartbeats 8000000 in
set_option maxRecDepth 100000 in
theorem impl_SparseAt.calls (k : Nat) (a0_0 : Int) (a0_1 : Int) (a0_2 : Int) (a0_3 : Int) (a0_4 : Int) (A0_5 : Option Addr) (c0_5 : Nat) (l0_5 : List Int) (a0_6 : Int) (A0_7 : Option Addr) (c0_7 : Nat) (l0_7 : List Int) (a1 : Int) (r : Int) (w : World) (hr0_5 : Kd.C (Kd.int .u64) w A0_5 l0_5.length l0_5) (hc0_5 : l0_5.length ≤ c0_5) (hr0_7 : Kd.C (Kd.int .u64) w A0_7 l0_7.length l0_7) (hc0_7 : l0_7.length ≤ c0_7) (h : impl_SparseAt.f k a0_0 a0_1 a0_2 a0_3 a0_4 l0_5 a0_6 l0_7 a1 = some r) :
  Calls Try.prog 15 #[.agg #[.int .i64 a0_0, .int .i64 a0_1, .int .i64 a0_2, .int .i64 a0_3, .int .i64 a0_4, .slice A0_5 l0_5.length c0_5, .int .i64 a0_6, .slice A0_7 l0_7.length c0_7], .int .i64 a1] w fun e w' => e = .returned (.int .i64 r) ∧ Below w.heap.size w w' := by
 have hu33:=Try.underlying33
 have HR0_5:=mk0 hr0_5
 have HC0_5:=mk0 hc0_5
 clear hr0_5 hc0_5
 have HR0_7:=mk0 hr0_7
 have HC0_7:=mk0 hc0_7
 clear hr0_7 hc0_7
 have HB:=mk0 (Below.refl w.heap.size w)
 have H:((impl_Sparse_read.f k a0_0 a0_1 a0_2 a0_3 a0_4 l0_5 a0_6 l0_7).bind fun bt421=>(if bt421.2 = true then ((impl_within.f a1 0 (wrap64 ((bt421.1.length:Int) - 1))).bind fun t425=>(if t425 = true then (if 0 ≤ a1 then (if a1 < (bt421.1.length:Int) then (some (rd bt421.1 a1)) else (none)) else (none)) else (some (-1)))) else (some (-1)))) = some r:=h
 clear h
 replace H:=Option.bind_eq_some_iff.mp H
 obtain⟨⟨t421,t424⟩,A30,H⟩:=H
 replace H:(if t424 = true then ((impl_within.f a1 0 (wrap64 ((t421.length:Int) - 1))).bind fun t425=>(if t425 = true then (if 0 ≤ a1 then (if a1 < (t421.length:Int) then (some (rd t421 a1)) else (none)) else (none)) else (some (-1)))) else (some (-1))) = some r:=H
 have A3:=mk0 A30
 clear A30
 by_cases c4:t424 = true
 ·subst c4
  have H1:((impl_within.f a1 0 (wrap64 ((t421.length:Int) - 1))).bind fun t425=>(if t425 = true then (if 0 ≤ a1 then (if a1 < (t421.length:Int) then (some (rd t421 a1)) else (none)) else (none)) else (some (-1)))) = some r:=by rw [if_pos rfl] at H;exact H
  clear H
  have H:=H1
  clear H1
  replace H:=Option.bind_eq_some_iff.mp H
  obtain⟨t425,A50,H⟩:=H
  replace H:(if t425 = true then (if 0 ≤ a1 then (if a1 < (t421.length:Int) then (some (rd t421 a1)) else (none)) else (none)) else (some (-1))) = some r:=H
  have A5:=mk0 A50
  clear A50
  by_cases c6:t425 = true
  ·subst c6
   have H1:(if 0 ≤ a1 then (if a1 < (t421.length:Int) then (some (rd t421 a1)) else (none)) else (none)) = some r:=by rw [if_pos rfl] at H;exact H
   clear H
   have H:=H1
   clear H1
   by_cases c7:0 ≤ a1
   ·rw [if_pos c7] at H
    have c7b0:decide (0 ≤ a1) = true:=decide_eq_true c7
    clear c7
    by_cases c8:a1 < (t421.length:Int)
    ·rw [if_pos c8] at H
     have c8b0:decide (a1 < (t421.length:Int)) = true:=decide_eq_true c8
     clear c8
     obtain rfl:=Option.some.inj H
     go_enter Try.func15,Try.ntmps15
     go_wp2_with (first|((with_reducible refine gate_dst (N:=2) rfl ?_);(try (refine gate_guard (by rfl) ?_;dsimp only));refine box_event ?hg (N:=2) ?hd (cs:=#[.int .i64 a0_0,.int .i64 a0_1,.int .i64 a0_2,.int .i64 a0_3,.int .i64 a0_4,.slice A0_5 l0_5.length c0_5,.int .i64 a0_6,.slice A0_7 l0_7.length c0_7]) (t:=33) ?hr ?_;(case hd=>rfl);(case hg=>rfl);(case hr=>first|(go_simp;done)|(go_simp;rfl));intro gb420 hg w9 hbox hb;have BK420:=mk0 (hbox);have GW420:=mk0 ((by rw [hg];exact (kZ HB.out):w.heap.size ≤ gb420));have GE420:=mk0 ((by rw [hg];exact (kZ HB.out):w.heap.size ≤ gb420));replace HB:=mk0 (kS HB.out hb);clear hb hbox hg;obtain⟨hcz10_0,hcz10_1,hcz10_2,hcz10_3,hcz10_4,hcz10_5,hcz10_6,hcz10_7,hfz10_0,hfz10_1,hfz10_2,hfz10_3,hfz10_4,hfz10_5,hfz10_6,hfz10_7⟩:=cz8 BK420.out)|((with_reducible refine gate_callee (f:=38) rfl ?_);refine goesL_ (some 9) rfl rfl Try.func38 (by kernel_rfl) rfl #[.agg #[.int .i64 a0_0,.int .i64 a0_1,.int .i64 a0_2,.int .i64 a0_3,.int .i64 a0_4,.slice A0_5 l0_5.length c0_5,.int .i64 a0_6,.slice A0_7 l0_7.length c0_7]] rfl (by (try simp only [mA,mC,mN]);first|done|rfl|(simp only [List.length_drop,List.length_take];done)|(simp only [List.length_drop,List.length_take];rfl)) ?_;(with_reducible refine (impl_Sparse_read.calls k a0_0 a0_1 a0_2 a0_3 a0_4 _ _ l0_5 a0_6 _ _ l0_7 t421 true _ ?side1 ?side2 ?side3 ?side4 A3.out).mono ?_);(case side1=>exact kC (Kd.C_below HR0_5.out HB.out));(case side2=>exact HC0_5.out);(case side3=>exact kC (Kd.C_below HR0_7.out HB.out));(case side4=>exact HC0_7.out);rintro e w11 ⟨v422,rfl,ho0,hb⟩;refine⟨_,rfl,?_⟩;have HO423:=mk0 (Kd.R_lower ho0 (kZ HB.out));replace BK420:=mk0 (kK BK420.out hb);replace HB:=mk0 (kS HB.out hb);(try clear hb);(try clear ho0);obtain⟨Ao12,co12,eo12⟩:=Kd.R_slice HO423.out;subst eo12)|(go_at_call 31;(with_reducible refine (impl_within.calls a1 0 (wrap64 ((t421.length:Int) - 1)) true _ A5.out).mono ?_);rintro e w' ⟨rfl,⟨nd,rfl⟩⟩;have p426:0 ≤ (a1:Int):=of_decide_eq_true (by first|(with_reducible assumption)|assumption);have q426:a1 < (t421.length:Int):=of_decide_eq_true (by first|(with_reducible assumption)|assumption);obtain⟨ad426,e426,hx426_0⟩:=Kd.at_int (Kd.R_reads' HO423.out).2.2 a1 p426 q426;cases e426;replace p426:=eq_true p426;replace q426:=eq_true q426))
     go_ret
     exact⟨by first|rfl|(simp [errW_none,errW_some] <;> rfl)|(simp [*,errW_none,errW_some] <;> rfl),kB HB.out⟩
    ·rw [if_neg c8] at H
     exact absurd H (by simp)
   ·rw [if_neg c7] at H
    exact absurd H (by simp)
  ·replace c6:=Bool.eq_false_iff.mpr c6
   subst c6
   have H1:(some (-1)) = some r:=by rw [if_neg (show ¬ (false = true) by decide)] at H;exact H
   clear H
   have H:=H1
   clear H1
   obtain rfl:=Option.some.inj H
   go_enter Try.func15,Try.ntmps15
   go_wp2_with (first|((with_reducible refine gate_dst (N:=2) rfl ?_);(try (refine gate_guard (by rfl) ?_;dsimp only));refine box_event ?hg (N:=2) ?hd (cs:=#[.int .i64 a0_0,.int .i64 a0_1,.int .i64 a0_2,.int .i64 a0_3,.int .i64 a0_4,.slice A0_5 l0_5.length c0_5,.int .i64 a0_6,.slice A0_7 l0_7.length c0_7]) (t:=33) ?hr ?_;(case hd=>rfl);(case hg=>rfl);(case hr=>first|(go_simp;done)|(go_simp;rfl));intro gb420 hg w13 hbox hb;have BK420:=mk0 (hbox);have GW420:=mk0 ((by rw [hg];exact (kZ HB.out):w.heap.size ≤ gb420));have GE420:=mk0 ((by rw [hg];exact (kZ HB.out):w.heap.size ≤ gb420));replace HB:=mk0 (kS HB.out hb);clear hb hbox hg;obtain⟨hcz14_0,hcz14_1,hcz14_2,hcz14_3,hcz14_4,hcz14_5,hcz14_6,hcz14_7,hfz14_0,hfz14_1,hfz14_2,hfz14_3,hfz14_4,hfz14_5,hfz14_6,hfz14_7⟩:=cz8 BK420.out)|((with_reducible refine gate_callee (f:=38) rfl ?_);refine goesL_ (some 9) rfl rfl Try.func38 (by kernel_rfl) rfl #[.agg #[.int .i64 a0_0,.int .i64 a0_1,.int .i64 a0_2,.int .i64 a0_3,.int .i64 a0_4,.slice A0_5 l0_5.length c0_5,.int .i64 a0_6,.slice A0_7 l0_7.length c0_7]] rfl (by (try simp only [mA,mC,mN]);first|done|rfl|(simp only [List.length_drop,List.length_take];done)|(simp only [List.length_drop,List.length_take];rfl)) ?_;(with_reducible refine (impl_Sparse_read.calls k a0_0 a0_1 a0_2 a0_3 a0_4 _ _ l0_5 a0_6 _ _ l0_7 t421 true _ ?side1 ?side2 ?side3 ?side4 A3.out).mono ?_);(case side1=>exact kC (Kd.C_below HR0_5.out HB.out));(case side2=>exact HC0_5.out);(case side3=>exact kC (Kd.C_below HR0_7.out HB.out));(case side4=>exact HC0_7.out);rintro e w15 ⟨v422,rfl,ho0,hb⟩;refine⟨_,rfl,?_⟩;have HO423:=mk0 (Kd.R_lower ho0 (kZ HB.out));replace BK420:=mk0 (kK BK420.out hb);replace HB:=mk0 (kS HB.out hb);(try clear hb);(try clear ho0);obtain⟨Ao16,co16,eo16⟩:=Kd.R_slice HO423.out;subst eo16)|(go_at_call 31;(with_reducible refine (impl_within.calls a1 0 (wrap64 ((t421.length:Int) - 1)) false _ A5.out).mono ?_);rintro e w' ⟨rfl,⟨nd,rfl⟩⟩))
   go_ret
   exact⟨by first|rfl|(simp [errW_none,errW_some] <;> rfl)|(simp [*,errW_none,errW_some] <;> rfl),kB HB.out⟩
 ·replace c4:=Bool.eq_false_iff.mpr c4
  subst c4
  have H1:(some (-1)) = some r:=by rw [if_neg (show ¬ (false = true) by decide)] at H;exact H
  clear H
  have H:=H1
  clear H1
  obtain rfl:=Option.some.inj H
  go_enter Try.func15,Try.ntmps15
  go_wp2_with (first|((with_reducible refine gate_dst (N:=2) rfl ?_);(try (refine gate_guard (by rfl) ?_;dsimp only));refine box_event ?hg (N:=2) ?hd (cs:=#[.int .i64 a0_0,.int .i64 a0_1,.int .i64 a0_2,.int .i64 a0_3,.int .i64 a0_4,.slice A0_5 l0_5.length c0_5,.int .i64 a0_6,.slice A0_7 l0_7.length c0_7]) (t:=33) ?hr ?_;(case hd=>rfl);(case hg=>rfl);(case hr=>first|(go_simp;done)|(go_simp;rfl));intro gb420 hg w17 hbox hb;have BK420:=mk0 (hbox);have GW420:=mk0 ((by rw [hg];exact (kZ HB.out):w.heap.size ≤ gb420));have GE420:=mk0 ((by rw [hg];exact (kZ HB.out):w.heap.size ≤ gb420));replace HB:=mk0 (kS HB.out hb);clear hb hbox hg;obtain⟨hcz18_0,hcz18_1,hcz18_2,hcz18_3,hcz18_4,hcz18_5,hcz18_6,hcz18_7,hfz18_0,hfz18_1,hfz18_2,hfz18_3,hfz18_4,hfz18_5,hfz18_6,hfz18_7⟩:=cz8 BK420.out)|((with_reducible refine gate_callee (f:=38) rfl ?_);refine goesL_ (some 9) rfl rfl Try.func38 (by kernel_rfl) rfl #[.agg #[.int .i64 a0_0,.int .i64 a0_1,.int .i64 a0_2,.int .i64 a0_3,.int .i64 a0_4,.slice A0_5 l0_5.length c0_5,.int .i64 a0_6,.slice A0_7 l0_7.length c0_7]] rfl (by (try simp only [mA,mC,mN]);first|done|rfl|(simp only [List.length_drop,List.length_take];done)|(simp only [List.length_drop,List.length_take];rfl)) ?_;(with_reducible refine (impl_Sparse_read.calls k a0_0 a0_1 a0_2 a0_3 a0_4 _ _ l0_5 a0_6 _ _ l0_7 t421 false _ ?side1 ?side2 ?side3 ?side4 A3.out).mono ?_);(case side1=>exact kC (Kd.C_below HR0_5.out HB.out));(case side2=>exact HC0_5.out);(case side3=>exact kC (Kd.C_below HR0_7.out HB.out));(case side4=>exact HC0_7.out);rintro e w19 ⟨v422,rfl,ho0,hb⟩;refine⟨_,rfl,?_⟩;have HO423:=mk0 (Kd.R_lower ho0 (kZ HB.out));replace BK420:=mk0 (kK BK420.out hb);replace HB:=mk0 (kS HB.out hb);(try clear hb);(try clear ho0)))
  go_ret
  exact⟨by first|rfl|(simp [errW_none,errW_some] <;> rfl)|(simp [*,errW_none,errW_some] <;> rfl),kB HB.out⟩

/-! ### slices_Index_int_int: function 65 -/
def slices_Index_int_int.l0 : Nat → List Int → Int → Int → Int → Option (Int)
 | 0, _, _, _, _ => none
 | k + 1, x0, x1, x7, x8 => if x8 < x7 then (if 0 ≤ x8 then (if x8 < (x0.length : Int) then (if x1 = (rd x0 x8) then (some x8) else (slices_Index_int_int.l0 k x0 x1 x7 (wrap64 (x8 + 1)))) else (none)) else (none)) else (some (-1))
def slices_Index_int_int.f (k : Nat) (l0 : List Int) (a1 : Int) : Option (Int) := slices_Index_int_int.l0 k l0 a1 (l0.length : Int) 0
theorem slices_Index_int_int.mono_l : ∀ k, (∀ y0 y1 y2 y3, LeO (slices_Index_int_int.l0 k y0 y1 y2 y3) (slices_Index_int_int.l0 (k + 1) y0 y1 y2 y3))
 | 0 => fun _ _ _ _ r h => by simp [slices_Index_int_int.l0] at h
 | k + 1 => by
  have ih0 := slices_Index_int_int.mono_l k
  ·intro y0 y1 y2 y3
   unfold slices_Index_int_int.l0
   repeat' first|(with_reducible first|exact ih0 _ _ _ _|exact LeO.refl _|exact LeO.none _|refine LeO.ite ?_ ?_|refine LeO.bind ?_ (fun _ => ?_))|exact LeO.none _|refine LeO.ite ?_ ?_|refine LeO.bind ?_ (fun _ => ?_)
theorem slices_Index_int_int.mono : ∀ a0 a1 k, LeO (slices_Index_int_int.f k a0 a1) (slices_Index_int_int.f (k + 1) a0 a1) := by
 intro a0 a1 k
 have ih0 := slices_Index_int_int.mono_l k
 unfold slices_Index_int_int.f
 repeat' first|(with_reducible first|exact ih0 _ _ _ _|exact LeO.refl _|exact LeO.none _|refine LeO.ite ?_ ?_|refine LeO.bind ?_ (fun _ => ?_))|exact LeO.none _|refine LeO.ite ?_ ?_|refine LeO.bind ?_ (fun _ => ?_)
set_option maxHeartbeats 8000000 in
set_option maxRecDepth 100000 in
theorem slices_Index_int_int.calls (k : Nat) (A0 : Option Addr) (c0 : Nat) (l0 : List Int) (a1 : Int) (r : Int) (w : World) (hr0 : Kd.C (Kd.int .i64) w A0 l0.length l0) (hc0 : l0.length ≤ c0) (h : slices_Index_int_int.f k l0 a1 = some r) :
  Calls Try.prog 65 #[.slice A0 l0.length c0, .int .i64 a1] w fun e w' => e = .returned (.int .i64 r) ∧ Drawn0 w w' := by
 have HR0:=mk0 hr0
 have HC0:=mk0 hc0
 clear hr0 hc0
 have H:(slices_Index_int_int.l0 k l0 a1 (l0.length:Int) 0) = some r:=h
 clear h
 have H':=mk0 H
 clear H
 go_enter Try.func65,Try.ntmps65
 go_wp2
 go_loopg [8] k (fun kq v8 w'=>∃ (x8_1:Int),v8 = .int .i64 x8_1 ∧ Aside0 (slices_Index_int_int.l0 kq l0 a1 (l0.length:Int) x8_1 = some r) ∧ Aside0 (kq ≤ k) ∧ Drawn0 w w')
 case atStart=>exact⟨(0),(by first|rfl|(simp;done)|(simp [*];done)),H',⟨Nat.le_refl _⟩,by repeat (first|exact Drawn0.refl _|apply Drawn0.step)⟩
 case round =>
  clear H'
  try clear p2
  obtain⟨x8_1,rfl,HA,HK1,⟨m1,rfl⟩⟩:=hrel
  cases gk with
  | zero=>exact absurd HA.out (by simp [slices_Index_int_int.l0])
  | succ k1 =>
   have H:=HA.out
   clear HA
   simp only [slices_Index_int_int.l0] at H
   by_cases c3:x8_1 < (l0.length:Int)
   ·rw [if_pos c3] at H
    have c3b0:decide (x8_1 < (l0.length:Int)) = true:=decide_eq_true c3
    clear c3
    by_cases c4:0 ≤ x8_1
    ·rw [if_pos c4] at H
     have c4b0:decide (0 ≤ x8_1) = true:=decide_eq_true c4
     clear c4
     by_cases c5:x8_1 < (l0.length:Int)
     ·rw [if_pos c5] at H
      have c5b0:decide (x8_1 < (l0.length:Int)) = true:=decide_eq_true c5
      clear c5
      by_cases c6:a1 = (rd l0 x8_1)
      ·rw [if_pos c6] at H
       have c6b0:(a1 == (rd l0 x8_1)) = true:=beq_iff_eq.mpr c6
       have c6b1:(a1 != (rd l0 x8_1)) = false:=bne_eq_false_iff_eq.mpr c6
       clear c6
       obtain rfl:=Option.some.inj H
       have p427:0 ≤ (x8_1:Int):=of_decide_eq_true (by first|(with_reducible assumption)|assumption)
       have q427:x8_1 < (l0.length:Int):=of_decide_eq_true (by first|(with_reducible assumption)|assumption)
       obtain⟨ad427,e427,hx427_0⟩:=Kd.at_int HR0.out x8_1 p427 q427
       cases e427
       replace p427:=eq_true p427
       replace q427:=eq_true q427
       go_wp2
       go_ret
       exact⟨by first|rfl|(simp;done)|(simp [*];done),by repeat (first|exact Drawn0.refl _|apply Drawn0.step)⟩
      ·rw [if_neg c6] at H
       have c6b0:(a1 == (rd l0 x8_1)) = false:=beq_eq_false_iff_ne.mpr c6
       have c6b1:(a1 != (rd l0 x8_1)) = true:=bne_iff_ne.mpr c6
       have H':=mk0 H
       clear H
       have p427:0 ≤ (x8_1:Int):=of_decide_eq_true (by first|(with_reducible assumption)|assumption)
       have q427:x8_1 < (l0.length:Int):=of_decide_eq_true (by first|(with_reducible assumption)|assumption)
       obtain⟨ad427,e427,hx427_0⟩:=Kd.at_int HR0.out x8_1 p427 q427
       cases e427
       replace p427:=eq_true p427
       replace q427:=eq_true q427
       go_wp2
       go_roundg k1
       case measure=>have:=HK1.out;omega
       case rel=>exact⟨(wrap64 (x8_1 + 1)),(by first|rfl|(simp;done)|(simp [*];done)),H',⟨by have:=HK1.out;omega⟩,by repeat (first|exact Drawn0.refl _|apply Drawn0.step)⟩
     ·rw [if_neg c5] at H
      exact absurd H (by simp)
    ·rw [if_neg c4] at H
     exact absurd H (by simp)
   ·rw [if_neg c3] at H
    have c3b0:decide (x8_1 < (l0.length:Int)) = false:=decide_eq_false c3
    clear c3
    obtain rfl:=Option.some.inj H
    go_wp2
    go_ret
    exact⟨by first|rfl|(simp;done)|(simp [*];done),by repeat (first|exact Drawn0.refl _|apply Drawn0.step)⟩

/-! ### slices_Contains_int_int: function 40 -/
def slices_Contains_int_int.f (k : Nat) (l0 : List Int) (a1 : Int) : Option (Bool) := (slices_Index_int_int.f k l0 a1).bind fun t428 => (some (decide (t428 ≥ 0)))
theorem slices_Contains_int_int.mono : ∀ a0 a1 k, LeO (slices_Contains_int_int.f k a0 a1) (slices_Contains_int_int.f (k + 1) a0 a1) := by
 intro a0 a1 k
 unfold slices_Contains_int_int.f
 repeat' first|(with_reducible first|exact slices_Index_int_int.mono _ _ _|exact LeO.refl _|exact LeO.none _|refine LeO.ite ?_ ?_|refine LeO.bind ?_ (fun _ => ?_))|exact LeO.none _|refine LeO.ite ?_ ?_|refine LeO.bind ?_ (fun _ => ?_)
set_option maxHeartbeats 8000000 in
set_option maxRecDepth 100000 in
theorem slices_Contains_int_int.calls (k : Nat) (A0 : Option Addr) (c0 : Nat) (l0 : List Int) (a1 : Int) (r : Bool) (w : World) (hr0 : Kd.C (Kd.int .i64) w A0 l0.length l0) (hc0 : l0.length ≤ c0) (h : slices_Contains_int_int.f k l0 a1 = some r) :
  Calls Try.prog 40 #[.slice A0 l0.length c0, .int .i64 a1] w fun e w' => e = .returned (.bool r) ∧ Drawn0 w w' := by
 have HR0:=mk0 hr0
 have HC0:=mk0 hc0
 clear hr0 hc0
 have H:((slices_Index_int_int.f k l0 a1).bind fun t428=>(some (decide (t428 ≥ 0)))) = some r:=h
 clear h
 replace H:=Option.bind_eq_some_iff.mp H
 obtain⟨t428,A30,H⟩:=H
 replace H:(some (decide (t428 ≥ 0))) = some r:=H
 have A3:=mk0 A30
 clear A30
 obtain rfl:=Option.some.inj H
 go_enter Try.func40,Try.ntmps40
 go_wp2_with (first|((with_reducible refine gate_callee (f:=65) rfl ?_);refine goesL_ (some 7) rfl rfl Try.func65 (by kernel_rfl) rfl #[.slice A0 l0.length c0,.int .i64 a1] rfl (by (try simp only [mA,mC,mN]);first|done|rfl|(simp only [List.length_drop,List.length_take];done)|(simp only [List.length_drop,List.length_take];rfl)) ?_;(with_reducible refine (slices_Index_int_int.calls k _ _ l0 a1 t428 _ ?side1 ?side2 A3.out).mono ?_);(case side1=>repeat (first|exact HR0.out|(with_reducible first|apply aC|apply nC|apply dC)));(case side2=>exact HC0.out);rintro e w' ⟨rfl,⟨nd,rfl⟩⟩;refine⟨_,rfl,?_⟩))
 go_ret
 exact⟨by first|rfl|(simp;done)|(simp [*];done),by repeat (first|exact Drawn0.refl _|apply Drawn0.step)⟩

/-! ### impl_SparseHas: function 16 -/
def impl_SparseHas.f (k : Nat) (a0_0 : Int) (a0_1 : Int) (a0_2 : Int) (a0_3 : Int) (a0_4 : Int) (l0_5 : List Int) (a0_6 : Int) (l0_7 : List Int) (a1 : Int) : Option (Bool) := (impl_Sparse_read.f k a0_0 a0_1 a0_2 a0_3 a0_4 l0_5 a0_6 l0_7).bind fun bt430 => (if bt430.2 = true then ((slices_Contains_int_int.f k bt430.1 a1).bind fun t434 => (some t434)) else (some false))
theorem impl_SparseHas.mono : ∀ a0 a1 a2 a3 a4 a5 a6 a7 a8 k, LeO (impl_SparseHas.f k a0 a1 a2 a3 a4 a5 a6 a7 a8) (impl_SparseHas.f (k + 1) a0 a1 a2 a3 a4 a5 a6 a7 a8) := by
 intro a0 a1 a2 a3 a4 a5 a6 a7 a8 k
 unfold impl_SparseHas.f
 repeat' first|(with_reducible first|exact impl_Sparse_read.mono _ _ _ _ _ _ _ _ _|exact slices_Contains_int_int.mono _ _ _|exact LeO.refl _|exact LeO.none _|refine LeO.ite ?_ ?_|refine LeO.bind ?_ (fun _ => ?_))|exact LeO.none _|refine LeO.ite ?_ ?_|refine LeO.bind ?_ (fun _ => ?_)
set_option maxHeartbeats 8000000 in
set_option maxRecDepth 100000 in
theorem impl_SparseHas.calls (k : Nat) (a0_0 : Int) (a0_1 : Int) (a0_2 : Int) (a0_3 : Int) (a0_4 : Int) (A0_5 : Option Addr) (c0_5 : Nat) (l0_5 : List Int) (a0_6 : Int) (A0_7 : Option Addr) (c0_7 : Nat) (l0_7 : List Int) (a1 : Int) (r : Bool) (w : World) (hr0_5 : Kd.C (Kd.int .u64) w A0_5 l0_5.length l0_5) (hc0_5 : l0_5.length ≤ c0_5) (hr0_7 : Kd.C (Kd.int .u64) w A0_7 l0_7.length l0_7) (hc0_7 : l0_7.length ≤ c0_7) (h : impl_SparseHas.f k a0_0 a0_1 a0_2 a0_3 a0_4 l0_5 a0_6 l0_7 a1 = some r) :
  Calls Try.prog 16 #[.agg #[.int .i64 a0_0, .int .i64 a0_1, .int .i64 a0_2, .int .i64 a0_3, .int .i64 a0_4, .slice A0_5 l0_5.length c0_5, .int .i64 a0_6, .slice A0_7 l0_7.length c0_7], .int .i64 a1] w fun e w' => e = .returned (.bool r) ∧ Below w.heap.size w w' := by
 have hu33:=Try.underlying33
 have HR0_5:=mk0 hr0_5
 have HC0_5:=mk0 hc0_5
 clear hr0_5 hc0_5
 have HR0_7:=mk0 hr0_7
 have HC0_7:=mk0 hc0_7
 clear hr0_7 hc0_7
 have HB:=mk0 (Below.refl w.heap.size w)
 have H:((impl_Sparse_read.f k a0_0 a0_1 a0_2 a0_3 a0_4 l0_5 a0_6 l0_7).bind fun bt430=>(if bt430.2 = true then ((slices_Contains_int_int.f k bt430.1 a1).bind fun t434=>(some t434)) else (some false))) = some r:=h
 clear h
 replace H:=Option.bind_eq_some_iff.mp H
 obtain⟨⟨t430,t433⟩,A30,H⟩:=H
 replace H:(if t433 = true then ((slices_Contains_int_int.f k t430 a1).bind fun t434=>(some t434)) else (some false)) = some r:=H
 have A3:=mk0 A30
 clear A30
 by_cases c4:t433 = true
 ·subst c4
  have H1:((slices_Contains_int_int.f k t430 a1).bind fun t434=>(some t434)) = some r:=by rw [if_pos rfl] at H;exact H
  clear H
  have H:=H1
  clear H1
  replace H:=Option.bind_eq_some_iff.mp H
  obtain⟨t434,A50,H⟩:=H
  replace H:(some t434) = some r:=H
  have A5:=mk0 A50
  clear A50
  obtain rfl:=Option.some.inj H
  go_enter Try.func16,Try.ntmps16
  go_wp2_with (first|((with_reducible refine gate_dst (N:=2) rfl ?_);refine box_event ?hg (N:=2) ?hd (cs:=#[.int .i64 a0_0,.int .i64 a0_1,.int .i64 a0_2,.int .i64 a0_3,.int .i64 a0_4,.slice A0_5 l0_5.length c0_5,.int .i64 a0_6,.slice A0_7 l0_7.length c0_7]) (t:=33) ?hr ?_;(case hd=>rfl);(case hg=>rfl);(case hr=>first|(go_simp;done)|(go_simp;rfl));intro gb429 hg w6 hbox hb;have BK429:=mk0 (hbox);have GW429:=mk0 ((by rw [hg];exact (kZ HB.out):w.heap.size ≤ gb429));have GE429:=mk0 ((by rw [hg];exact (kZ HB.out):w.heap.size ≤ gb429));replace HB:=mk0 (kS HB.out hb);clear hb hbox hg;obtain⟨hcz7_0,hcz7_1,hcz7_2,hcz7_3,hcz7_4,hcz7_5,hcz7_6,hcz7_7,hfz7_0,hfz7_1,hfz7_2,hfz7_3,hfz7_4,hfz7_5,hfz7_6,hfz7_7⟩:=cz8 BK429.out)|((with_reducible refine gate_callee (f:=38) rfl ?_);refine goesL_ (some 9) rfl rfl Try.func38 (by kernel_rfl) rfl #[.agg #[.int .i64 a0_0,.int .i64 a0_1,.int .i64 a0_2,.int .i64 a0_3,.int .i64 a0_4,.slice A0_5 l0_5.length c0_5,.int .i64 a0_6,.slice A0_7 l0_7.length c0_7]] rfl (by (try simp only [mA,mC,mN]);first|done|rfl|(simp only [List.length_drop,List.length_take];done)|(simp only [List.length_drop,List.length_take];rfl)) ?_;(with_reducible refine (impl_Sparse_read.calls k a0_0 a0_1 a0_2 a0_3 a0_4 _ _ l0_5 a0_6 _ _ l0_7 t430 true _ ?side1 ?side2 ?side3 ?side4 A3.out).mono ?_);(case side1=>exact kC (Kd.C_below HR0_5.out HB.out));(case side2=>exact HC0_5.out);(case side3=>exact kC (Kd.C_below HR0_7.out HB.out));(case side4=>exact HC0_7.out);rintro e w8 ⟨v431,rfl,ho0,hb⟩;refine⟨_,rfl,?_⟩;have HO432:=mk0 (Kd.R_lower ho0 (kZ HB.out));replace BK429:=mk0 (kK BK429.out hb);replace HB:=mk0 (kS HB.out hb);(try clear hb);(try clear ho0);obtain⟨Ao9,co9,eo9⟩:=Kd.R_slice HO432.out;subst eo9)|(go_at_call 40;(with_reducible refine (slices_Contains_int_int.calls k _ _ t430 a1 t434 _ ?side1 ?side2 A5.out).mono ?_);(case side1=>exact kC (Kd.R_reads' HO432.out).2.2);(case side2=>exact (Kd.R_reads' HO432.out).2.1);rintro e w' ⟨rfl,⟨nd,rfl⟩⟩))
  go_ret
  exact⟨by first|rfl|(simp [errW_none,errW_some] <;> rfl)|(simp [*,errW_none,errW_some] <;> rfl),kB HB.out⟩
 ·replace c4:=Bool.eq_false_iff.mpr c4
  subst c4
  have H1:(some false) = some r:=by rw [if_neg (show ¬ (false = true) by decide)] at H;exact H
  clear H
  have H:=H1
  clear H1
  obtain rfl:=Option.some.inj H
  go_enter Try.func16,Try.ntmps16
  go_wp2_with (first|((with_reducible refine gate_dst (N:=2) rfl ?_);refine box_event ?hg (N:=2) ?hd (cs:=#[.int .i64 a0_0,.int .i64 a0_1,.int .i64 a0_2,.int .i64 a0_3,.int .i64 a0_4,.slice A0_5 l0_5.length c0_5,.int .i64 a0_6,.slice A0_7 l0_7.length c0_7]) (t:=33) ?hr ?_;(case hd=>rfl);(case hg=>rfl);(case hr=>first|(go_simp;done)|(go_simp;rfl));intro gb429 hg w10 hbox hb;have BK429:=mk0 (hbox);have GW429:=mk0 ((by rw [hg];exact (kZ HB.out):w.heap.size ≤ gb429));have GE429:=mk0 ((by rw [hg];exact (kZ HB.out):w.heap.size ≤ gb429));replace HB:=mk0 (kS HB.out hb);clear hb hbox hg;obtain⟨hcz11_0,hcz11_1,hcz11_2,hcz11_3,hcz11_4,hcz11_5,hcz11_6,hcz11_7,hfz11_0,hfz11_1,hfz11_2,hfz11_3,hfz11_4,hfz11_5,hfz11_6,hfz11_7⟩:=cz8 BK429.out)|((with_reducible refine gate_callee (f:=38) rfl ?_);refine goesL_ (some 9) rfl rfl Try.func38 (by kernel_rfl) rfl #[.agg #[.int .i64 a0_0,.int .i64 a0_1,.int .i64 a0_2,.int .i64 a0_3,.int .i64 a0_4,.slice A0_5 l0_5.length c0_5,.int .i64 a0_6,.slice A0_7 l0_7.length c0_7]] rfl (by (try simp only [mA,mC,mN]);first|done|rfl|(simp only [List.length_drop,List.length_take];done)|(simp only [List.length_drop,List.length_take];rfl)) ?_;(with_reducible refine (impl_Sparse_read.calls k a0_0 a0_1 a0_2 a0_3 a0_4 _ _ l0_5 a0_6 _ _ l0_7 t430 false _ ?side1 ?side2 ?side3 ?side4 A3.out).mono ?_);(case side1=>exact kC (Kd.C_below HR0_5.out HB.out));(case side2=>exact HC0_5.out);(case side3=>exact kC (Kd.C_below HR0_7.out HB.out));(case side4=>exact HC0_7.out);rintro e w12 ⟨v431,rfl,ho0,hb⟩;refine⟨_,rfl,?_⟩;have HO432:=mk0 (Kd.R_lower ho0 (kZ HB.out));replace BK429:=mk0 (kK BK429.out hb);replace HB:=mk0 (kS HB.out hb);(try clear hb);(try clear ho0)))
  go_ret
  exact⟨by first|rfl|(simp [errW_none,errW_some] <;> rfl)|(simp [*,errW_none,errW_some] <;> rfl),kB HB.out⟩

end Go.Proofs.Ytmohfjfgpeapfaa.QFnSparse
