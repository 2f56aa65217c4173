-- A walk, made by walk.py, a program of this session's.
import Derived.Test.YtmohfjfgpeapfaaQFnExactSparseHasx0
import Derived.Test.YtmohfjfgpeapfaaQFnExactSparseHasx5
import Derived.Test.YtmohfjfgpeapfaaQFnExactSparseHasx6
import Derived.Test.YtmohfjfgpeapfaaQFnExactSparseHasx11
import Derived.Test.YtmohfjfgpeapfaaQFnExactSparseHasx12
namespace Go.Proofs.Ytmohfjfgpeapfaa.QFnExactSparseHas
open Go.RowKit Go.Proofs.YtmohfjfgpeapfaaW.PrintWords Go.Proofs.YtmohfjfgpeapfaaW.PrintLast Go.Proofs.YtmohfjfgpeapfaaW.PrintMore
attribute [local go_sem] max2_int min2_int max_two min_two max_three min_three max_four min_four   -- for this text's walks alone
set_option linter.unusedVariables false
set_option linter.unusedSimpArgs false

/-! ### spec_SparseList: function 43 -/
def spec_SparseList.f (k : Nat) (a0_0 : Int) (a0_1 : Int) (a0_2 : Int) (a0_3 : Int) (a0_4 : Int) (l0_5 : List Int) (a0_6 : Int) (l0_7 : List Int) : Option (List Int) := (spec_SparseOk.f k a0_0 a0_1 a0_2 a0_3 a0_4 l0_5 a0_6 l0_7).bind fun t445 => (if t445 = true then ((spec_l03List.f k a0_0 a0_1 a0_2 a0_3 a0_4 l0_5 a0_6 l0_7).bind fun t446 => (some t446)) else (some ([] : List Int)))
theorem spec_SparseList.mono : ∀ a0 a1 a2 a3 a4 a5 a6 a7 k, LeO (spec_SparseList.f k a0 a1 a2 a3 a4 a5 a6 a7) (spec_SparseList.f (k + 1) a0 a1 a2 a3 a4 a5 a6 a7) := by
 intro a0 a1 a2 a3 a4 a5 a6 a7 k
 unfold spec_SparseList.f
 repeat' first|(with_reducible first|exact spec_SparseOk.mono _ _ _ _ _ _ _ _ _|exact spec_l03List.mono _ _ _ _ _ _ _ _ _|exact LeO.refl _|exact LeO.none _|refine LeO.ite ?_ ?_|refine LeO.bind ?_ (fun _ => ?_))|exact LeO.none _|refine LeO.ite ?_ ?_|refine LeO.bind ?_ (fun _ => ?_)
set_option maxHeartbeats 8000000 in
set_option maxRecDepth 100000 in
theorem spec_SparseList.calls (k : Nat) (a0_0 : Int) (a0_1 : Int) (a0_2 : Int) (a0_3 : Int) (a0_4 : Int) (A0_5 : Option Addr) (c0_5 : Nat) (l0_5 : List Int) (a0_6 : Int) (A0_7 : Option Addr) (c0_7 : Nat) (l0_7 : List Int) (r : List Int) (w : World) (hr0_5 : Kd.C (Kd.int .u64) w A0_5 l0_5.length l0_5) (hc0_5 : l0_5.length ≤ c0_5) (hr0_7 : Kd.C (Kd.int .u64) w A0_7 l0_7.length l0_7) (hc0_7 : l0_7.length ≤ c0_7) (h : spec_SparseList.f k a0_0 a0_1 a0_2 a0_3 a0_4 l0_5 a0_6 l0_7 = some r) :
  Calls Try.prog 43 #[.agg #[.int .i64 a0_0, .int .i64 a0_1, .int .i64 a0_2, .int .i64 a0_3, .int .i64 a0_4, .slice A0_5 l0_5.length c0_5, .int .i64 a0_6, .slice A0_7 l0_7.length c0_7]] w fun e w' => ∃ v0_ : Value, e = .returned (v0_) ∧ Kd.R (Kd.int .i64) 3 w' w.heap.size (fun _ => True) v0_ r ∧ Below w.heap.size w w' := by
 have hu33:=Try.underlying33
 have HR0_5:=mk0 hr0_5
 have HC0_5:=mk0 hc0_5
 clear hr0_5 hc0_5
 have HR0_7:=mk0 hr0_7
 have HC0_7:=mk0 hc0_7
 clear hr0_7 hc0_7
 have HB:=mk0 (Below.refl w.heap.size w)
 have H:((spec_SparseOk.f k a0_0 a0_1 a0_2 a0_3 a0_4 l0_5 a0_6 l0_7).bind fun t445=>(if t445 = true then ((spec_l03List.f k a0_0 a0_1 a0_2 a0_3 a0_4 l0_5 a0_6 l0_7).bind fun t446=>(some t446)) else (some ([]:List Int)))) = some r:=h
 clear h
 replace H:=Option.bind_eq_some_iff.mp H
 obtain⟨t445,A20,H⟩:=H
 replace H:(if t445 = true then ((spec_l03List.f k a0_0 a0_1 a0_2 a0_3 a0_4 l0_5 a0_6 l0_7).bind fun t446=>(some t446)) else (some ([]:List Int))) = some r:=H
 have A2:=mk0 A20
 clear A20
 by_cases c3:t445 = true
 ·subst c3
  have H1:((spec_l03List.f k a0_0 a0_1 a0_2 a0_3 a0_4 l0_5 a0_6 l0_7).bind fun t446=>(some t446)) = some r:=by rw [if_pos rfl] at H;exact H
  clear H
  have H:=H1
  clear H1
  replace H:=Option.bind_eq_some_iff.mp H
  obtain⟨t446,A40,H⟩:=H
  replace H:(some t446) = some r:=H
  have A4:=mk0 A40
  clear A40
  obtain rfl:=Option.some.inj H
  go_enter Try.func43,Try.ntmps43
  go_wp2_with (first|((with_reducible refine gate_dst (N:=1) rfl ?_);refine box_event ?hg (N:=1) ?hd (cs:=#[.int .i64 a0_0,.int .i64 a0_1,.int .i64 a0_2,.int .i64 a0_3,.int .i64 a0_4,.slice A0_5 l0_5.length c0_5,.int .i64 a0_6,.slice A0_7 l0_7.length c0_7]) (t:=33) ?hr ?_;(case hd=>rfl);(case hg=>rfl);(case hr=>first|(go_simp;done)|(go_simp;rfl));intro gb444 hg w5 hbox hb;have BK444:=mk0 (hbox);have GW444:=mk0 ((by rw [hg];exact (kZ HB.out):w.heap.size ≤ gb444));have GE444:=mk0 ((by rw [hg];exact (kZ HB.out):w.heap.size ≤ gb444));replace HB:=mk0 (kS HB.out hb);clear hb hbox hg;obtain⟨hcz6_0,hcz6_1,hcz6_2,hcz6_3,hcz6_4,hcz6_5,hcz6_6,hcz6_7,hfz6_0,hfz6_1,hfz6_2,hfz6_3,hfz6_4,hfz6_5,hfz6_6,hfz6_7⟩:=cz8 BK444.out)|((with_reducible refine gate_callee (f:=48) rfl ?_);refine goesL_ (some 4) rfl rfl Try.func48 (by kernel_rfl) rfl #[.agg #[.int .i64 a0_0,.int .i64 a0_1,.int .i64 a0_2,.int .i64 a0_3,.int .i64 a0_4,.slice A0_5 l0_5.length c0_5,.int .i64 a0_6,.slice A0_7 l0_7.length c0_7]] rfl (by (try simp only [mA,mC,mN]);first|done|rfl|(simp only [List.length_drop,List.length_take];rfl)) ?_;(with_reducible refine (spec_SparseOk.calls k a0_0 a0_1 a0_2 a0_3 a0_4 _ _ l0_5 a0_6 _ _ l0_7 true _ ?side1 ?side2 ?side3 ?side4 A2.out).mono ?_);(case side1=>exact kC (Kd.C_below HR0_5.out HB.out));(case side2=>exact HC0_5.out);(case side3=>exact kC (Kd.C_below HR0_7.out HB.out));(case side4=>exact HC0_7.out);rintro e w7 ⟨rfl,hb⟩;refine⟨_,rfl,?_⟩;replace BK444:=mk0 (kK BK444.out hb);replace HB:=mk0 (kS HB.out hb);(try clear hb);(try clear hb2);(try clear hk);(try clear hi);obtain⟨hcz8_0,hcz8_1,hcz8_2,hcz8_3,hcz8_4,hcz8_5,hcz8_6,hcz8_7,hfz8_0,hfz8_1,hfz8_2,hfz8_3,hfz8_4,hfz8_5,hfz8_6,hfz8_7⟩:=cz8 BK444.out)|((with_reducible refine gate_callee (f:=49) rfl ?_);refine goesL_ (some 7) rfl rfl Try.func49 (by kernel_rfl) rfl #[.agg #[.int .i64 a0_0,.int .i64 a0_1,.int .i64 a0_2,.int .i64 a0_3,.int .i64 a0_4,.slice A0_5 l0_5.length c0_5,.int .i64 a0_6,.slice A0_7 l0_7.length c0_7]] rfl (by (try simp only [mA,mC,mN]);first|done|rfl|(simp only [List.length_drop,List.length_take];rfl)) ?_;(with_reducible refine (spec_l03List.calls k a0_0 a0_1 a0_2 a0_3 a0_4 _ _ l0_5 a0_6 _ _ l0_7 t446 _ ?side1 ?side2 ?side3 ?side4 A4.out).mono ?_);(case side1=>exact kC (Kd.C_below HR0_5.out HB.out));(case side2=>exact HC0_5.out);(case side3=>exact kC (Kd.C_below HR0_7.out HB.out));(case side4=>exact HC0_7.out);rintro e w9 ⟨v447,rfl,ho0,hb⟩;refine⟨_,rfl,?_⟩;have HO448:=mk0 (Kd.R_lower ho0 (kZ HB.out));replace BK444:=mk0 (kK BK444.out hb);replace HB:=mk0 (kS HB.out hb);(try clear hb);(try clear hb2);(try clear hk);(try clear hi);(try clear ho0)))
  go_ret
  exact⟨_,by first|rfl|(simp [errW_none,errW_some] <;> rfl)|(simp [*,errW_none,errW_some] <;> rfl),rR HO448.out,kB HB.out⟩
 ·replace c3:=Bool.eq_false_iff.mpr c3
  subst c3
  have H1:(some ([]:List Int)) = some r:=by rw [if_neg (show ¬ (false = true) by decide)] at H;exact H
  clear H
  have H:=H1
  clear H1
  obtain rfl:=Option.some.inj H
  go_enter Try.func43,Try.ntmps43
  go_wp2_with (first|((with_reducible refine gate_dst (N:=1) rfl ?_);refine box_event ?hg (N:=1) ?hd (cs:=#[.int .i64 a0_0,.int .i64 a0_1,.int .i64 a0_2,.int .i64 a0_3,.int .i64 a0_4,.slice A0_5 l0_5.length c0_5,.int .i64 a0_6,.slice A0_7 l0_7.length c0_7]) (t:=33) ?hr ?_;(case hd=>rfl);(case hg=>rfl);(case hr=>first|(go_simp;done)|(go_simp;rfl));intro gb444 hg w10 hbox hb;have BK444:=mk0 (hbox);have GW444:=mk0 ((by rw [hg];exact (kZ HB.out):w.heap.size ≤ gb444));have GE444:=mk0 ((by rw [hg];exact (kZ HB.out):w.heap.size ≤ gb444));replace HB:=mk0 (kS HB.out hb);clear hb hbox hg;obtain⟨hcz11_0,hcz11_1,hcz11_2,hcz11_3,hcz11_4,hcz11_5,hcz11_6,hcz11_7,hfz11_0,hfz11_1,hfz11_2,hfz11_3,hfz11_4,hfz11_5,hfz11_6,hfz11_7⟩:=cz8 BK444.out)|((with_reducible refine gate_callee (f:=48) rfl ?_);refine goesL_ (some 4) rfl rfl Try.func48 (by kernel_rfl) rfl #[.agg #[.int .i64 a0_0,.int .i64 a0_1,.int .i64 a0_2,.int .i64 a0_3,.int .i64 a0_4,.slice A0_5 l0_5.length c0_5,.int .i64 a0_6,.slice A0_7 l0_7.length c0_7]] rfl (by (try simp only [mA,mC,mN]);first|done|rfl|(simp only [List.length_drop,List.length_take];rfl)) ?_;(with_reducible refine (spec_SparseOk.calls k a0_0 a0_1 a0_2 a0_3 a0_4 _ _ l0_5 a0_6 _ _ l0_7 false _ ?side1 ?side2 ?side3 ?side4 A2.out).mono ?_);(case side1=>exact kC (Kd.C_below HR0_5.out HB.out));(case side2=>exact HC0_5.out);(case side3=>exact kC (Kd.C_below HR0_7.out HB.out));(case side4=>exact HC0_7.out);rintro e w12 ⟨rfl,hb⟩;refine⟨_,rfl,?_⟩;replace BK444:=mk0 (kK BK444.out hb);replace HB:=mk0 (kS HB.out hb);(try clear hb);(try clear hb2);(try clear hk);(try clear hi)))
  go_ret
  exact⟨_,by first|rfl|(simp [errW_none,errW_some] <;> rfl)|(simp [*,errW_none,errW_some] <;> rfl),by first|exact Kd.R_nil _ _ _ _ _|exact Kd.N_nil _ _ _ _ _|exact Kd.V_nil _ _ _ _ _|exact Kd.Q_nil _ _ _ _ _|exact Kd.S_nil _ _ _ _ _,kB HB.out⟩

/-! ### spec_SparseHas: function 21 -/
def spec_SparseHas.l0 : Nat → Int → Int → List Int → Option (Bool)
 | 0, _, _, _ => none
 | k + 1, x1, x6, x8 => if x6 < (x8.length : Int) then (if 0 ≤ x6 then (if (rd x8 x6) = x1 then (some true) else (spec_SparseHas.l0 k x1 (wrap64 (x6 + 1)) x8)) else (none)) else (some false)
def spec_SparseHas.f (k : Nat) (a0_0 : Int) (a0_1 : Int) (a0_2 : Int) (a0_3 : Int) (a0_4 : Int) (l0_5 : List Int) (a0_6 : Int) (l0_7 : List Int) (a1 : Int) : Option (Bool) := (spec_SparseList.f k a0_0 a0_1 a0_2 a0_3 a0_4 l0_5 a0_6 l0_7).bind fun t450 => (spec_SparseHas.l0 k a1 0 t450)
theorem spec_SparseHas.mono_l : ∀ k, (∀ y0 y1 y2, LeO (spec_SparseHas.l0 k y0 y1 y2) (spec_SparseHas.l0 (k + 1) y0 y1 y2))
 | 0 => fun _ _ _ r h => by simp [spec_SparseHas.l0] at h
 | k + 1 => by
  have ih0 := spec_SparseHas.mono_l k
  ·intro y0 y1 y2
   unfold spec_SparseHas.l0
   repeat' first|(with_reducible first|exact ih0 _ _ _|exact spec_SparseList.mono _ _ _ _ _ _ _ _ _|exact LeO.refl _|exact LeO.none _|refine LeO.ite ?_ ?_|refine LeO.bind ?_ (fun _ => ?_))|exact LeO.none _|refine LeO.ite ?_ ?_|refine LeO.bind ?_ (fun _ => ?_)
theorem spec_SparseHas.mono : ∀ a0 a1 a2 a3 a4 a5 a6 a7 a8 k, LeO (spec_SparseHas.f k a0 a1 a2 a3 a4 a5 a6 a7 a8) (spec_SparseHas.f (k + 1) a0 a1 a2 a3 a4 a5 a6 a7 a8) := by
 intro a0 a1 a2 a3 a4 a5 a6 a7 a8 k
 have ih0 := spec_SparseHas.mono_l k
 unfold spec_SparseHas.f
 repeat' first|(with_reducible first|exact ih0 _ _ _|exact spec_SparseList.mono _ _ _ _ _ _ _ _ _|exact LeO.refl _|exact LeO.none _|refine LeO.ite ?_ ?_|refine LeO.bind ?_ (fun _ => ?_))|exact LeO.none _|refine LeO.ite ?_ ?_|refine LeO.bind ?_ (fun _ => ?_)
set_option maxHeartbeats 8000000 in
set_option maxRecDepth 100000 in
theorem spec_SparseHas.calls (k : Nat) (a0_0 : Int) (a0_1 : Int) (a0_2 : Int) (a0_3 : Int) (a0_4 : Int) (A0_5 : Option Addr) (c0_5 : Nat) (l0_5 : List Int) (a0_6 : Int) (A0_7 : Option Addr) (c0_7 : Nat) (l0_7 : List Int) (a1 : Int) (r : Bool) (w : World) (hr0_5 : Kd.C (Kd.int .u64) w A0_5 l0_5.length l0_5) (hc0_5 : l0_5.length ≤ c0_5) (hr0_7 : Kd.C (Kd.int .u64) w A0_7 l0_7.length l0_7) (hc0_7 : l0_7.length ≤ c0_7) (h : spec_SparseHas.f k a0_0 a0_1 a0_2 a0_3 a0_4 l0_5 a0_6 l0_7 a1 = some r) :
  Calls Try.prog 21 #[.agg #[.int .i64 a0_0, .int .i64 a0_1, .int .i64 a0_2, .int .i64 a0_3, .int .i64 a0_4, .slice A0_5 l0_5.length c0_5, .int .i64 a0_6, .slice A0_7 l0_7.length c0_7], .int .i64 a1] w fun e w' => e = .returned (.bool r) ∧ Below w.heap.size w w' := by
 have hu33:=Try.underlying33
 have HR0_5:=mk0 hr0_5
 have HC0_5:=mk0 hc0_5
 clear hr0_5 hc0_5
 have HR0_7:=mk0 hr0_7
 have HC0_7:=mk0 hc0_7
 clear hr0_7 hc0_7
 have HB:=mk0 (Below.refl w.heap.size w)
 have H:((spec_SparseList.f k a0_0 a0_1 a0_2 a0_3 a0_4 l0_5 a0_6 l0_7).bind fun t450=>(spec_SparseHas.l0 k a1 0 t450)) = some r:=h
 clear h
 replace H:=Option.bind_eq_some_iff.mp H
 obtain⟨t450,A30,H⟩:=H
 replace H:(spec_SparseHas.l0 k a1 0 t450) = some r:=H
 have A3:=mk0 A30
 clear A30
 have H':=mk0 H
 clear H
 go_enter Try.func21,Try.ntmps21
 go_wp2_with (first|((with_reducible refine gate_dst (N:=2) rfl ?_);refine box_event ?hg (N:=2) ?hd (cs:=#[.int .i64 a0_0,.int .i64 a0_1,.int .i64 a0_2,.int .i64 a0_3,.int .i64 a0_4,.slice A0_5 l0_5.length c0_5,.int .i64 a0_6,.slice A0_7 l0_7.length c0_7]) (t:=33) ?hr ?_;(case hd=>rfl);(case hg=>rfl);(case hr=>first|(go_simp;done)|(go_simp;rfl));intro gb449 hg w4 hbox hb;have BK449:=mk0 (hbox);have GW449:=mk0 ((by rw [hg];exact (kZ HB.out):w.heap.size ≤ gb449));have GE449:=mk0 ((by rw [hg];exact (kZ HB.out):w.heap.size ≤ gb449));replace HB:=mk0 (kS HB.out hb);clear hb hbox hg;obtain⟨hcz5_0,hcz5_1,hcz5_2,hcz5_3,hcz5_4,hcz5_5,hcz5_6,hcz5_7,hfz5_0,hfz5_1,hfz5_2,hfz5_3,hfz5_4,hfz5_5,hfz5_6,hfz5_7⟩:=cz8 BK449.out)|((with_reducible refine gate_callee (f:=43) rfl ?_);refine goesL_ (some 8) rfl rfl Try.func43 (by kernel_rfl) rfl #[.agg #[.int .i64 a0_0,.int .i64 a0_1,.int .i64 a0_2,.int .i64 a0_3,.int .i64 a0_4,.slice A0_5 l0_5.length c0_5,.int .i64 a0_6,.slice A0_7 l0_7.length c0_7]] rfl (by (try simp only [mA,mC,mN]);first|done|rfl|(simp only [List.length_drop,List.length_take];rfl)) ?_;(with_reducible refine (spec_SparseList.calls k a0_0 a0_1 a0_2 a0_3 a0_4 _ _ l0_5 a0_6 _ _ l0_7 t450 _ ?side1 ?side2 ?side3 ?side4 A3.out).mono ?_);(case side1=>exact kC (Kd.C_below HR0_5.out HB.out));(case side2=>exact HC0_5.out);(case side3=>exact kC (Kd.C_below HR0_7.out HB.out));(case side4=>exact HC0_7.out);rintro e w6 ⟨v451,rfl,ho0,hb⟩;refine⟨_,rfl,?_⟩;have HO452:=mk0 (Kd.R_lower ho0 (kZ HB.out));replace BK449:=mk0 (kK BK449.out hb);replace HB:=mk0 (kS HB.out hb);(try clear hb);(try clear hb2);(try clear hk);(try clear hi);(try clear ho0)))
 go_loopg [6] k (fun kq v6 w'=>∃ (x6_1:Int),v6 = .int .i64 x6_1 ∧ Aside0 (spec_SparseHas.l0 kq a1 x6_1 t450 = some r) ∧ Aside0 (kq ≤ k) ∧ Aside0 (Kd.R (Kd.int .i64) 3 w' w.heap.size (fun _=>True) v451 t450) ∧ Aside0 (w'.heap[gb449]? = some (.cells #[.int .i64 a0_0,.int .i64 a0_1,.int .i64 a0_2,.int .i64 a0_3,.int .i64 a0_4,(.slice A0_5 l0_5.length c0_5),.int .i64 a0_6,(.slice A0_7 l0_7.length c0_7)] 33 (0,0))) ∧ Aside0 (Below w.heap.size w w'))
 case atStart=>exact⟨(0),(by first|rfl|(simp;done)|(simp [*];done)),H',⟨Nat.le_refl _⟩,⟨rR HO452.out⟩,⟨kN BK449.out⟩,⟨kB HB.out⟩⟩
 case round =>
  clear H'
  try clear c2
  try clear p2
  try clear c4
  try clear hcz5_0
  try clear hcz5_1
  try clear hcz5_2
  try clear hcz5_3
  try clear hcz5_4
  try clear hcz5_5
  try clear hcz5_6
  try clear hcz5_7
  try clear hfz5_0
  try clear hfz5_1
  try clear hfz5_2
  try clear hfz5_3
  try clear hfz5_4
  try clear hfz5_5
  try clear hfz5_6
  try clear hfz5_7
  obtain⟨x6_1,rfl,HA,HK1,HO_8,BK449,HB⟩:=hrel
  cases gk with
  | zero=>exact absurd HA.out (by simp [spec_SparseHas.l0])
  | succ k1 =>
   have H:=HA.out
   clear HA
   simp only [spec_SparseHas.l0] at H
   by_cases c7:x6_1 < (t450.length:Int)
   ·rw [if_pos c7] at H
    have c7b0:decide (x6_1 < (t450.length:Int)) = true:=decide_eq_true c7
    clear c7
    by_cases c8:0 ≤ x6_1
    ·rw [if_pos c8] at H
     have c8b0:decide (0 ≤ x6_1) = true:=decide_eq_true c8
     clear c8
     by_cases c9:(rd t450 x6_1) = a1
     ·rw [if_pos c9] at H
      have c9b0:((rd t450 x6_1) == a1) = true:=beq_iff_eq.mpr c9
      have c9b1:((rd t450 x6_1) != a1) = false:=bne_eq_false_iff_eq.mpr c9
      clear c9
      obtain rfl:=Option.some.inj H
      obtain⟨Ao10,co10,eo10⟩:=Kd.R_slice HO_8.out
      subst eo10
      have p453:0 ≤ (x6_1:Int):=of_decide_eq_true (by first|(with_reducible assumption)|assumption)
      have q453:x6_1 < (t450.length:Int):=of_decide_eq_true (by first|(with_reducible assumption)|assumption)
      obtain⟨ad453,e453,hx453_0⟩:=Kd.at_int (Kd.R_reads' HO_8.out).2.2 x6_1 p453 q453
      cases e453
      replace p453:=eq_true p453
      replace q453:=eq_true q453
      go_wp2
      go_ret
      exact⟨by first|rfl|(simp [errW_none,errW_some] <;> rfl)|(simp [*,errW_none,errW_some] <;> rfl),kB HB.out⟩
     ·rw [if_neg c9] at H
      have c9b0:((rd t450 x6_1) == a1) = false:=beq_eq_false_iff_ne.mpr c9
      have c9b1:((rd t450 x6_1) != a1) = true:=bne_iff_ne.mpr c9
      have H':=mk0 H
      clear H
      obtain⟨Ao11,co11,eo11⟩:=Kd.R_slice HO_8.out
      subst eo11
      have p453:0 ≤ (x6_1:Int):=of_decide_eq_true (by first|(with_reducible assumption)|assumption)
      have q453:x6_1 < (t450.length:Int):=of_decide_eq_true (by first|(with_reducible assumption)|assumption)
      obtain⟨ad453,e453,hx453_0⟩:=Kd.at_int (Kd.R_reads' HO_8.out).2.2 x6_1 p453 q453
      cases e453
      replace p453:=eq_true p453
      replace q453:=eq_true q453
      go_wp2
      go_roundg k1
      case measure=>have:=HK1.out;omega
      case rel=>exact⟨(wrap64 (x6_1 + 1)),(by first|rfl|(simp;done)|(simp [*];done)),H',⟨by have:=HK1.out;omega⟩,⟨rR HO_8.out⟩,⟨kN BK449.out⟩,⟨kB HB.out⟩⟩
    ·rw [if_neg c8] at H
     exact absurd H (by simp)
   ·rw [if_neg c7] at H
    have c7b0:decide (x6_1 < (t450.length:Int)) = false:=decide_eq_false c7
    clear c7
    obtain rfl:=Option.some.inj H
    obtain⟨Ao12,co12,eo12⟩:=Kd.R_slice HO_8.out
    subst eo12
    go_wp2
    go_ret
    exact⟨by first|rfl|(simp [errW_none,errW_some] <;> rfl)|(simp [*,errW_none,errW_some] <;> rfl),kB HB.out⟩

/-! ### laws_FnExactSparseHas: function 5 -/
def laws_FnExactSparseHas.f (k : Nat) (a0_0 : Int) (a0_1 : Int) (a0_2 : Int) (a0_3 : Int) (a0_4 : Int) (l0_5 : List Int) (a0_6 : Int) (l0_7 : List Int) (a1 : Int) : Option (Bool) := (laws_szSparse.f a0_0 a0_1 a0_2 a0_3 a0_4 l0_5 a0_6 l0_7 1048576).bind fun t455 => (if t455 < 0 then (some true) else ((laws_toSparse.f k a0_0 a0_1 a0_2 a0_3 a0_4 l0_5 a0_6 l0_7).bind fun bt456 => ((spec_SparseHas.f k bt456.1 bt456.2.1 bt456.2.2.1 bt456.2.2.2.1 bt456.2.2.2.2.1 bt456.2.2.2.2.2.1 bt456.2.2.2.2.2.2.1 bt456.2.2.2.2.2.2.2 a1).bind fun t468 => ((laws_toSparse.f k a0_0 a0_1 a0_2 a0_3 a0_4 l0_5 a0_6 l0_7).bind fun bt469 => ((impl_SparseHas.f k bt469.1 bt469.2.1 bt469.2.2.1 bt469.2.2.2.1 bt469.2.2.2.2.1 bt469.2.2.2.2.2.1 bt469.2.2.2.2.2.2.1 bt469.2.2.2.2.2.2.2 a1).bind fun t482 => (if (t482 != t468) = true then (some false) else ((laws_toSparse.f k a0_0 a0_1 a0_2 a0_3 a0_4 l0_5 a0_6 l0_7).bind fun bt483 => ((laws_eqSparse.f k bt469.1 bt469.2.1 bt469.2.2.1 bt469.2.2.2.1 bt469.2.2.2.2.1 bt469.2.2.2.2.2.1 bt469.2.2.2.2.2.2.1 bt469.2.2.2.2.2.2.2 bt483.1 bt483.2.1 bt483.2.2.1 bt483.2.2.2.1 bt483.2.2.2.2.1 bt483.2.2.2.2.2.1 bt483.2.2.2.2.2.2.1 bt483.2.2.2.2.2.2.2).bind fun t495 => (if t495 = true then (some true) else (some false))))))))))
theorem laws_FnExactSparseHas.mono : ∀ a0 a1 a2 a3 a4 a5 a6 a7 a8 k, LeO (laws_FnExactSparseHas.f k a0 a1 a2 a3 a4 a5 a6 a7 a8) (laws_FnExactSparseHas.f (k + 1) a0 a1 a2 a3 a4 a5 a6 a7 a8) := by
 intro a0 a1 a2 a3 a4 a5 a6 a7 a8 k
 unfold laws_FnExactSparseHas.f
 repeat' first|(with_reducible first|exact impl_SparseHas.mono _ _ _ _ _ _ _ _ _ _|exact laws_eqSparse.mono _ _ _ _ _ _ _ _ _ _ _ _ _ _ _ _ _|exact laws_toSparse.mono _ _ _ _ _ _ _ _ _|exact spec_SparseHas.mono _ _ _ _ _ _ _ _ _ _|exact LeO.refl _|exact LeO.none _|refine LeO.ite ?_ ?_|refine LeO.bind ?_ (fun _ => ?_))|exact LeO.none _|refine LeO.ite ?_ ?_|refine LeO.bind ?_ (fun _ => ?_)
set_option maxHeartbeats 8000000 in
set_option maxRecDepth 100000 in
theorem laws_FnExactSparseHas.calls (k : Nat) (a0_0 : Int) (a0_1 : Int) (a0_2 : Int) (a0_3 : Int) (a0_4 : Int) (A0_5 : Option Addr) (c0_5 : Nat) (l0_5 : List Int) (a0_6 : Int) (A0_7 : Option Addr) (c0_7 : Nat) (l0_7 : List Int) (a1 : Int) (r : Bool) (w : World) (hr0_5 : Kd.C (Kd.int .u64) w A0_5 l0_5.length l0_5) (hc0_5 : l0_5.length ≤ c0_5) (hr0_7 : Kd.C (Kd.int .u64) w A0_7 l0_7.length l0_7) (hc0_7 : l0_7.length ≤ c0_7) (h : laws_FnExactSparseHas.f k a0_0 a0_1 a0_2 a0_3 a0_4 l0_5 a0_6 l0_7 a1 = some r) :
  Calls Try.prog 5 #[.agg #[.int .i64 a0_0, .int .i64 a0_1, .int .i64 a0_2, .int .i64 a0_3, .int .i64 a0_4, .slice A0_5 l0_5.length c0_5, .int .i64 a0_6, .slice A0_7 l0_7.length c0_7], .int .i64 a1] w fun e w' => e = .returned (.bool r) ∧ Below w.heap.size w w' := by
 have hu45:=Try.underlying45
 have hu33:=Try.underlying33
 have HR0_5:=mk0 hr0_5
 have HC0_5:=mk0 hc0_5
 clear hr0_5 hc0_5
 have HR0_7:=mk0 hr0_7
 have HC0_7:=mk0 hc0_7
 clear hr0_7 hc0_7
 have HB:=mk0 (Below.refl w.heap.size w)
 have H:((laws_szSparse.f a0_0 a0_1 a0_2 a0_3 a0_4 l0_5 a0_6 l0_7 1048576).bind fun t455=>(if t455 < 0 then (some true) else ((laws_toSparse.f k a0_0 a0_1 a0_2 a0_3 a0_4 l0_5 a0_6 l0_7).bind fun bt456=>((spec_SparseHas.f k bt456.1 bt456.2.1 bt456.2.2.1 bt456.2.2.2.1 bt456.2.2.2.2.1 bt456.2.2.2.2.2.1 bt456.2.2.2.2.2.2.1 bt456.2.2.2.2.2.2.2 a1).bind fun t468=>((laws_toSparse.f k a0_0 a0_1 a0_2 a0_3 a0_4 l0_5 a0_6 l0_7).bind fun bt469=>((impl_SparseHas.f k bt469.1 bt469.2.1 bt469.2.2.1 bt469.2.2.2.1 bt469.2.2.2.2.1 bt469.2.2.2.2.2.1 bt469.2.2.2.2.2.2.1 bt469.2.2.2.2.2.2.2 a1).bind fun t482=>(if (t482 != t468) = true then (some false) else ((laws_toSparse.f k a0_0 a0_1 a0_2 a0_3 a0_4 l0_5 a0_6 l0_7).bind fun bt483=>((laws_eqSparse.f k bt469.1 bt469.2.1 bt469.2.2.1 bt469.2.2.2.1 bt469.2.2.2.2.1 bt469.2.2.2.2.2.1 bt469.2.2.2.2.2.2.1 bt469.2.2.2.2.2.2.2 bt483.1 bt483.2.1 bt483.2.2.1 bt483.2.2.2.1 bt483.2.2.2.2.1 bt483.2.2.2.2.2.1 bt483.2.2.2.2.2.2.1 bt483.2.2.2.2.2.2.2).bind fun t495=>(if t495 = true then (some true) else (some false))))))))))) = some r:=h
 clear h
 replace H:=Option.bind_eq_some_iff.mp H
 obtain⟨t455,A30,H⟩:=H
 replace H:(if t455 < 0 then (some true) else ((laws_toSparse.f k a0_0 a0_1 a0_2 a0_3 a0_4 l0_5 a0_6 l0_7).bind fun bt456=>((spec_SparseHas.f k bt456.1 bt456.2.1 bt456.2.2.1 bt456.2.2.2.1 bt456.2.2.2.2.1 bt456.2.2.2.2.2.1 bt456.2.2.2.2.2.2.1 bt456.2.2.2.2.2.2.2 a1).bind fun t468=>((laws_toSparse.f k a0_0 a0_1 a0_2 a0_3 a0_4 l0_5 a0_6 l0_7).bind fun bt469=>((impl_SparseHas.f k bt469.1 bt469.2.1 bt469.2.2.1 bt469.2.2.2.1 bt469.2.2.2.2.1 bt469.2.2.2.2.2.1 bt469.2.2.2.2.2.2.1 bt469.2.2.2.2.2.2.2 a1).bind fun t482=>(if (t482 != t468) = true then (some false) else ((laws_toSparse.f k a0_0 a0_1 a0_2 a0_3 a0_4 l0_5 a0_6 l0_7).bind fun bt483=>((laws_eqSparse.f k bt469.1 bt469.2.1 bt469.2.2.1 bt469.2.2.2.1 bt469.2.2.2.2.1 bt469.2.2.2.2.2.1 bt469.2.2.2.2.2.2.1 bt469.2.2.2.2.2.2.2 bt483.1 bt483.2.1 bt483.2.2.1 bt483.2.2.2.1 bt483.2.2.2.2.1 bt483.2.2.2.2.2.1 bt483.2.2.2.2.2.2.1 bt483.2.2.2.2.2.2.2).bind fun t495=>(if t495 = true then (some true) else (some false)))))))))) = some r:=H
 have A3:=mk0 A30
 clear A30
 by_cases c4:t455 < 0
 ·rw [if_pos c4] at H
  have c4b0:decide (t455 < 0) = true:=decide_eq_true c4
  clear c4
  obtain rfl:=Option.some.inj H
  go_enter Try.func5,Try.ntmps5
  go_wp2_with (first|((with_reducible refine gate_dst (N:=2) rfl ?_);refine box_event ?hg (N:=2) ?hd (cs:=#[.int .i64 a0_0,.int .i64 a0_1,.int .i64 a0_2,.int .i64 a0_3,.int .i64 a0_4,.slice A0_5 l0_5.length c0_5,.int .i64 a0_6,.slice A0_7 l0_7.length c0_7]) (t:=45) ?hr ?_;(case hd=>rfl);(case hg=>rfl);(case hr=>first|(go_simp;done)|(go_simp;rfl));intro gb454 hg w5 hbox hb;have BK454:=mk0 (hbox);have GW454:=mk0 ((by rw [hg];exact (kZ HB.out):w.heap.size ≤ gb454));have GE454:=mk0 ((by rw [hg];exact (kZ HB.out):w.heap.size ≤ gb454));replace HB:=mk0 (kS HB.out hb);clear hb hbox hg;obtain⟨hcz6_0,hcz6_1,hcz6_2,hcz6_3,hcz6_4,hcz6_5,hcz6_6,hcz6_7,hfz6_0,hfz6_1,hfz6_2,hfz6_3,hfz6_4,hfz6_5,hfz6_6,hfz6_7⟩:=cz8 BK454.out)|((with_reducible refine gate_callee (f:=17) rfl ?_);refine goesL_ (some 11) rfl rfl Try.func17 (by kernel_rfl) rfl #[.agg #[.int .i64 a0_0,.int .i64 a0_1,.int .i64 a0_2,.int .i64 a0_3,.int .i64 a0_4,.slice A0_5 l0_5.length c0_5,.int .i64 a0_6,.slice A0_7 l0_7.length c0_7],.int .i64 1048576] rfl (by (try simp only [mA,mC,mN]);first|done|rfl|(simp only [List.length_drop,List.length_take];rfl)) ?_;(with_reducible refine (laws_szSparse.calls a0_0 a0_1 a0_2 a0_3 a0_4 _ _ l0_5 a0_6 _ _ l0_7 1048576 t455 _ ?side1 ?side2 ?side3 ?side4 A3.out).mono ?_);(case side1=>exact kC (Kd.C_below HR0_5.out HB.out));(case side2=>exact HC0_5.out);(case side3=>exact kC (Kd.C_below HR0_7.out HB.out));(case side4=>exact HC0_7.out);rintro e w7 ⟨rfl,hb⟩;refine⟨_,rfl,?_⟩;replace BK454:=mk0 (kK BK454.out hb);replace HB:=mk0 (kS HB.out hb);(try clear hb);(try clear hb2);(try clear hk);(try clear hi)))
  go_ret
  exact⟨by first|rfl|(simp [errW_none,errW_some] <;> rfl)|(simp [*,errW_none,errW_some] <;> rfl),kB HB.out⟩
 rw [if_neg c4] at H
 have c4b0:decide (t455 < 0) = false:=decide_eq_false c4
 clear c4
 replace H:=Option.bind_eq_some_iff.mp H
 obtain⟨⟨t456,t457,t458,t459,t460,t461,t464,t465⟩,A80,H⟩:=H
 replace H:((spec_SparseHas.f k t456 t457 t458 t459 t460 t461 t464 t465 a1).bind fun t468=>((laws_toSparse.f k a0_0 a0_1 a0_2 a0_3 a0_4 l0_5 a0_6 l0_7).bind fun bt469=>((impl_SparseHas.f k bt469.1 bt469.2.1 bt469.2.2.1 bt469.2.2.2.1 bt469.2.2.2.2.1 bt469.2.2.2.2.2.1 bt469.2.2.2.2.2.2.1 bt469.2.2.2.2.2.2.2 a1).bind fun t482=>(if (t482 != t468) = true then (some false) else ((laws_toSparse.f k a0_0 a0_1 a0_2 a0_3 a0_4 l0_5 a0_6 l0_7).bind fun bt483=>((laws_eqSparse.f k bt469.1 bt469.2.1 bt469.2.2.1 bt469.2.2.2.1 bt469.2.2.2.2.1 bt469.2.2.2.2.2.1 bt469.2.2.2.2.2.2.1 bt469.2.2.2.2.2.2.2 bt483.1 bt483.2.1 bt483.2.2.1 bt483.2.2.2.1 bt483.2.2.2.2.1 bt483.2.2.2.2.2.1 bt483.2.2.2.2.2.2.1 bt483.2.2.2.2.2.2.2).bind fun t495=>(if t495 = true then (some true) else (some false)))))))) = some r:=H
 have A8:=mk0 A80
 clear A80
 replace H:=Option.bind_eq_some_iff.mp H
 obtain⟨t468,A90,H⟩:=H
 replace H:((laws_toSparse.f k a0_0 a0_1 a0_2 a0_3 a0_4 l0_5 a0_6 l0_7).bind fun bt469=>((impl_SparseHas.f k bt469.1 bt469.2.1 bt469.2.2.1 bt469.2.2.2.1 bt469.2.2.2.2.1 bt469.2.2.2.2.2.1 bt469.2.2.2.2.2.2.1 bt469.2.2.2.2.2.2.2 a1).bind fun t482=>(if (t482 != t468) = true then (some false) else ((laws_toSparse.f k a0_0 a0_1 a0_2 a0_3 a0_4 l0_5 a0_6 l0_7).bind fun bt483=>((laws_eqSparse.f k bt469.1 bt469.2.1 bt469.2.2.1 bt469.2.2.2.1 bt469.2.2.2.2.1 bt469.2.2.2.2.2.1 bt469.2.2.2.2.2.2.1 bt469.2.2.2.2.2.2.2 bt483.1 bt483.2.1 bt483.2.2.1 bt483.2.2.2.1 bt483.2.2.2.2.1 bt483.2.2.2.2.2.1 bt483.2.2.2.2.2.2.1 bt483.2.2.2.2.2.2.2).bind fun t495=>(if t495 = true then (some true) else (some false))))))) = some r:=H
 have A9:=mk0 A90
 clear A90
 replace H:=Option.bind_eq_some_iff.mp H
 obtain⟨⟨t469,t470,t471,t472,t473,t474,t477,t478⟩,A100,H⟩:=H
 replace H:((impl_SparseHas.f k t469 t470 t471 t472 t473 t474 t477 t478 a1).bind fun t482=>(if (t482 != t468) = true then (some false) else ((laws_toSparse.f k a0_0 a0_1 a0_2 a0_3 a0_4 l0_5 a0_6 l0_7).bind fun bt483=>((laws_eqSparse.f k t469 t470 t471 t472 t473 t474 t477 t478 bt483.1 bt483.2.1 bt483.2.2.1 bt483.2.2.2.1 bt483.2.2.2.2.1 bt483.2.2.2.2.2.1 bt483.2.2.2.2.2.2.1 bt483.2.2.2.2.2.2.2).bind fun t495=>(if t495 = true then (some true) else (some false)))))) = some r:=H
 have A10:=mk0 A100
 clear A100
 replace H:=Option.bind_eq_some_iff.mp H
 obtain⟨t482,A110,H⟩:=H
 replace H:(if (t482 != t468) = true then (some false) else ((laws_toSparse.f k a0_0 a0_1 a0_2 a0_3 a0_4 l0_5 a0_6 l0_7).bind fun bt483=>((laws_eqSparse.f k t469 t470 t471 t472 t473 t474 t477 t478 bt483.1 bt483.2.1 bt483.2.2.1 bt483.2.2.2.1 bt483.2.2.2.2.1 bt483.2.2.2.2.2.1 bt483.2.2.2.2.2.2.1 bt483.2.2.2.2.2.2.2).bind fun t495=>(if t495 = true then (some true) else (some false))))) = some r:=H
 have A11:=mk0 A110
 clear A110
 by_cases c12:(t482 != t468) = true
 ·rw [if_pos c12] at H
  have c12b0:(t482 != t468) = true:=c12
  (try (have c12b1:decide (t482 = t468) = false:=by simpa using c12))
  (try (have c12b2:(t482 == t468) = false:=by simpa using c12))
  (try (have c12b3:¬ (t482 = t468):=by simpa using c12))
  clear c12
  obtain rfl:=Option.some.inj H
  go_enter Try.func5,Try.ntmps5
  go_wp2_with (first|((with_reducible refine gate_dst (N:=2) rfl ?_);refine box_event ?hg (N:=2) ?hd (cs:=#[.int .i64 a0_0,.int .i64 a0_1,.int .i64 a0_2,.int .i64 a0_3,.int .i64 a0_4,.slice A0_5 l0_5.length c0_5,.int .i64 a0_6,.slice A0_7 l0_7.length c0_7]) (t:=45) ?hr ?_;(case hd=>rfl);(case hg=>rfl);(case hr=>first|(go_simp;done)|(go_simp;rfl));intro gb454 hg w13 hbox hb;have BK454:=mk0 (hbox);have GW454:=mk0 ((by rw [hg];exact (kZ HB.out):w.heap.size ≤ gb454));have GE454:=mk0 ((by rw [hg];exact (kZ HB.out):w.heap.size ≤ gb454));replace HB:=mk0 (kS HB.out hb);clear hb hbox hg;obtain⟨hcz14_0,hcz14_1,hcz14_2,hcz14_3,hcz14_4,hcz14_5,hcz14_6,hcz14_7,hfz14_0,hfz14_1,hfz14_2,hfz14_3,hfz14_4,hfz14_5,hfz14_6,hfz14_7⟩:=cz8 BK454.out)|((with_reducible refine gate_callee (f:=17) rfl ?_);refine goesL_ (some 11) rfl rfl Try.func17 (by kernel_rfl) rfl #[.agg #[.int .i64 a0_0,.int .i64 a0_1,.int .i64 a0_2,.int .i64 a0_3,.int .i64 a0_4,.slice A0_5 l0_5.length c0_5,.int .i64 a0_6,.slice A0_7 l0_7.length c0_7],.int .i64 1048576] rfl (by (try simp only [mA,mC,mN]);first|done|rfl|(simp only [List.length_drop,List.length_take];rfl)) ?_;(with_reducible refine (laws_szSparse.calls a0_0 a0_1 a0_2 a0_3 a0_4 _ _ l0_5 a0_6 _ _ l0_7 1048576 t455 _ ?side1 ?side2 ?side3 ?side4 A3.out).mono ?_);(case side1=>exact kC (Kd.C_below HR0_5.out HB.out));(case side2=>exact HC0_5.out);(case side3=>exact kC (Kd.C_below HR0_7.out HB.out));(case side4=>exact HC0_7.out);rintro e w15 ⟨rfl,hb⟩;refine⟨_,rfl,?_⟩;replace BK454:=mk0 (kK BK454.out hb);replace HB:=mk0 (kS HB.out hb);(try clear hb);(try clear hb2);(try clear hk);(try clear hi);obtain⟨hcz16_0,hcz16_1,hcz16_2,hcz16_3,hcz16_4,hcz16_5,hcz16_6,hcz16_7,hfz16_0,hfz16_1,hfz16_2,hfz16_3,hfz16_4,hfz16_5,hfz16_6,hfz16_7⟩:=cz8 BK454.out)|((with_reducible refine gate_callee (f:=19) rfl ?_);refine goesL_ (some 15) rfl rfl Try.func19 (by kernel_rfl) rfl #[.agg #[.int .i64 a0_0,.int .i64 a0_1,.int .i64 a0_2,.int .i64 a0_3,.int .i64 a0_4,.slice A0_5 l0_5.length c0_5,.int .i64 a0_6,.slice A0_7 l0_7.length c0_7]] rfl (by (try simp only [mA,mC,mN]);first|done|rfl|(simp only [List.length_drop,List.length_take];rfl)) ?_;(with_reducible refine (laws_toSparse.calls k a0_0 a0_1 a0_2 a0_3 a0_4 _ _ l0_5 a0_6 _ _ l0_7 t456 t457 t458 t459 t460 t461 t464 t465 _ ?side1 ?side2 ?side3 ?side4 A8.out).mono ?_);(case side1=>exact kC (Kd.C_below HR0_5.out HB.out));(case side2=>exact HC0_5.out);(case side3=>exact kC (Kd.C_below HR0_7.out HB.out));(case side4=>exact HC0_7.out);rintro e w17 ⟨v462,v466,rfl,ho0,ho1,hb⟩;refine⟨_,rfl,?_⟩;have HO463:=mk0 (Kd.R_lower ho0 (kZ HB.out));have HO467:=mk0 (Kd.R_lower ho1 (kZ HB.out));replace BK454:=mk0 (kK BK454.out hb);replace HB:=mk0 (kS HB.out hb);(try clear hb);(try clear hb2);(try clear hk);(try clear hi);(try clear ho0);(try clear ho1);obtain⟨Ao18,co18,eo18⟩:=Kd.R_slice HO463.out;subst eo18;obtain⟨Ao19,co19,eo19⟩:=Kd.R_slice HO467.out;subst eo19)|((with_reducible refine gate_callee (f:=21) rfl ?_);refine goesL_ (some 17) rfl rfl Try.func21 (by kernel_rfl) rfl #[.agg #[.int .i64 t456,.int .i64 t457,.int .i64 t458,.int .i64 t459,.int .i64 t460,.slice Ao18 t461.length co18,.int .i64 t464,.slice Ao19 t465.length co19],.int .i64 a1] rfl (by (try simp only [mA,mC,mN]);first|done|rfl|(simp only [List.length_drop,List.length_take];rfl)) ?_;(with_reducible refine (spec_SparseHas.calls k t456 t457 t458 t459 t460 _ _ t461 t464 _ _ t465 a1 t468 _ ?side1 ?side2 ?side3 ?side4 A9.out).mono ?_);(case side1=>exact kC (Kd.R_reads' HO463.out).2.2);(case side2=>exact (Kd.R_reads' HO463.out).2.1);(case side3=>exact kC (Kd.R_reads' HO467.out).2.2);(case side4=>exact (Kd.R_reads' HO467.out).2.1);rintro e w20 ⟨rfl,hb⟩;refine⟨_,rfl,?_⟩;replace HO463:=mk0 (bR HO463.out hb);replace HO467:=mk0 (bR HO467.out hb);replace BK454:=mk0 (kK BK454.out hb);replace HB:=mk0 (kS HB.out hb);(try clear hb);(try clear hb2);(try clear hk);(try clear hi);obtain⟨hcz21_0,hcz21_1,hcz21_2,hcz21_3,hcz21_4,hcz21_5,hcz21_6,hcz21_7,hfz21_0,hfz21_1,hfz21_2,hfz21_3,hfz21_4,hfz21_5,hfz21_6,hfz21_7⟩:=cz8 BK454.out)|((with_reducible refine gate_callee (f:=19) rfl ?_);refine goesL_ (some 19) rfl rfl Try.func19 (by kernel_rfl) rfl #[.agg #[.int .i64 a0_0,.int .i64 a0_1,.int .i64 a0_2,.int .i64 a0_3,.int .i64 a0_4,.slice A0_5 l0_5.length c0_5,.int .i64 a0_6,.slice A0_7 l0_7.length c0_7]] rfl (by (try simp only [mA,mC,mN]);first|done|rfl|(simp only [List.length_drop,List.length_take];rfl)) ?_;(with_reducible refine (laws_toSparse.calls k a0_0 a0_1 a0_2 a0_3 a0_4 _ _ l0_5 a0_6 _ _ l0_7 t469 t470 t471 t472 t473 t474 t477 t478 _ ?side1 ?side2 ?side3 ?side4 A10.out).mono ?_);(case side1=>exact kC (Kd.C_below HR0_5.out HB.out));(case side2=>exact HC0_5.out);(case side3=>exact kC (Kd.C_below HR0_7.out HB.out));(case side4=>exact HC0_7.out);rintro e w22 ⟨v475,v479,rfl,ho0,ho1,hb⟩;refine⟨_,rfl,?_⟩;have HO476:=mk0 (Kd.R_lower (Kd.R_new' (Kd.R_new' ho0 (Kd.R_lt (rR HO463.out))) (Kd.R_lt (rR HO467.out))) (kZ HB.out));have HO480:=mk0 (Kd.R_lower (Kd.R_new' (Kd.R_new' ho1 (Kd.R_lt (rR HO463.out))) (Kd.R_lt (rR HO467.out))) (kZ HB.out));replace HO463:=mk0 (Kd.R_mono (Kd.R_told (Kd.R_told (Kd.R_old (rR HO463.out) hb) (Kd.R_base ho0)) (Kd.R_base ho1)) (fun _ h_=>h_.1));replace HO467:=mk0 (Kd.R_mono (Kd.R_told (Kd.R_told (Kd.R_old (rR HO467.out) hb) (Kd.R_base ho0)) (Kd.R_base ho1)) (fun _ h_=>h_.1));replace BK454:=mk0 (kK BK454.out hb);replace HB:=mk0 (kS HB.out hb);(try clear hb);(try clear hb2);(try clear hk);(try clear hi);(try clear ho0);(try clear ho1))|((with_reducible refine gate_dst (N:=7) rfl ?_);refine box_event ?hg (N:=7) ?hd (cs:=#[.int .i64 0,.int .i64 0,.int .i64 0,.int .i64 0,.int .i64 0,.slice none 0 0,.int .i64 0,.slice none 0 0]) (t:=33) ?hr ?_;(case hd=>rfl);(case hg=>rfl);(case hr=>first|(go_simp;done)|(go_simp;rfl));intro gb481 hg w23 hbox hb;replace HO463:=mk0 (bR HO463.out hb);replace HO467:=mk0 (bR HO467.out hb);replace HO476:=mk0 (bR HO476.out hb);replace HO480:=mk0 (bR HO480.out hb);have BK481:=mk0 (hbox);have GW481:=mk0 ((by rw [hg];exact (kZ HB.out):w.heap.size ≤ gb481));have GE481:=mk0 ((by rw [hg];exact (kZ HB.out):w.heap.size ≤ gb481));replace HB:=mk0 (kS HB.out hb);have NB454_481:=mk0 ((by rw [hg];exact Nat.ne_of_lt (kL BK454.out):gb454 ≠ gb481));have NB481_454:=mk0 ((by rw [hg];exact Nat.ne_of_gt (kL BK454.out):gb481 ≠ gb454));replace BK454:=mk0 (kK BK454.out hb);clear hb hbox hg;have hnb24:=NB481_454.out;have hnc24:=NB454_481.out;obtain⟨hcz25_0,hcz25_1,hcz25_2,hcz25_3,hcz25_4,hcz25_5,hcz25_6,hcz25_7,hfz25_0,hfz25_1,hfz25_2,hfz25_3,hfz25_4,hfz25_5,hfz25_6,hfz25_7⟩:=cz8 BK481.out;obtain⟨Ao26,co26,eo26⟩:=Kd.R_slice HO476.out;subst eo26;obtain⟨Ao27,co27,eo27⟩:=Kd.R_slice HO480.out;subst eo27)|((with_reducible refine gate_callee (f:=16) rfl ?_);refine goesL_ (some 22) rfl rfl Try.func16 (by kernel_rfl) rfl #[.agg #[.int .i64 t469,.int .i64 t470,.int .i64 t471,.int .i64 t472,.int .i64 t473,.slice Ao26 t474.length co26,.int .i64 t477,.slice Ao27 t478.length co27],.int .i64 a1] rfl (by (try simp only [mA,mC,mN]);first|done|rfl|(simp only [List.length_drop,List.length_take];rfl)) ?_;(with_reducible refine (impl_SparseHas.calls k t469 t470 t471 t472 t473 _ _ t474 t477 _ _ t478 a1 t482 _ ?side1 ?side2 ?side3 ?side4 A11.out).mono ?_);(case side1=>refine (Kd.R_reads' (e:=78) (base:=w.heap.size) (ok:=fun k_=>((some k_ ≠ (.slice Ao27 t478.length co27:Value).ownBlock ∧ some k_ ≠ (.slice Ao18 t461.length co18:Value).ownBlock) ∧ some k_ ≠ (.slice Ao19 t465.length co19:Value).ownBlock)) (n:=t474.length) (c:=co26) ?_).2.2;exact (by (with_reducible repeat (first|apply aR|apply nR|apply dR));exact (Kd.R_mono (Kd.R_far (p:=⟨gb481,7,none⟩) (Kd.R_far (p:=⟨gb481,6,none⟩) (Kd.R_far (p:=⟨gb481,5,none⟩) (Kd.R_far (p:=⟨gb481,4,none⟩) (Kd.R_far (p:=⟨gb481,3,none⟩) (Kd.R_far (p:=⟨gb481,2,none⟩) (Kd.R_far (p:=⟨gb481,1,none⟩) (Kd.R_far (p:=⟨gb481,0,none⟩) (Kd.R_types HO476.out BK481.out (by decide)) (fun _ hk=>hk.2) (.int .i64 t469)) (fun _ hk=>hk.2) (.int .i64 t470)) (fun _ hk=>hk.2) (.int .i64 t471)) (fun _ hk=>hk.2) (.int .i64 t472)) (fun _ hk=>hk.2) (.int .i64 t473)) (fun _ hk=>hk.2) (.slice Ao26 t474.length co26)) (fun _ hk=>hk.2) (.int .i64 t477)) (fun _ hk=>hk.2) (.slice Ao27 t478.length co27)) (fun _ h_=>h_.1))));(case side2=>exact (Kd.R_reads' HO476.out).2.1);(case side3=>refine (Kd.R_reads' (e:=78) (base:=w.heap.size) (ok:=fun k_=>((some k_ ≠ (.slice Ao26 t474.length co26:Value).ownBlock ∧ some k_ ≠ (.slice Ao18 t461.length co18:Value).ownBlock) ∧ some k_ ≠ (.slice Ao19 t465.length co19:Value).ownBlock)) (n:=t478.length) (c:=co27) ?_).2.2;exact (by (with_reducible repeat (first|apply aR|apply nR|apply dR));exact (Kd.R_mono (Kd.R_far (p:=⟨gb481,7,none⟩) (Kd.R_far (p:=⟨gb481,6,none⟩) (Kd.R_far (p:=⟨gb481,5,none⟩) (Kd.R_far (p:=⟨gb481,4,none⟩) (Kd.R_far (p:=⟨gb481,3,none⟩) (Kd.R_far (p:=⟨gb481,2,none⟩) (Kd.R_far (p:=⟨gb481,1,none⟩) (Kd.R_far (p:=⟨gb481,0,none⟩) (Kd.R_types HO480.out BK481.out (by decide)) (fun _ hk=>hk.2) (.int .i64 t469)) (fun _ hk=>hk.2) (.int .i64 t470)) (fun _ hk=>hk.2) (.int .i64 t471)) (fun _ hk=>hk.2) (.int .i64 t472)) (fun _ hk=>hk.2) (.int .i64 t473)) (fun _ hk=>hk.2) (.slice Ao26 t474.length co26)) (fun _ hk=>hk.2) (.int .i64 t477)) (fun _ hk=>hk.2) (.slice Ao27 t478.length co27)) (fun _ h_=>h_.1))));(case side4=>exact (Kd.R_reads' HO480.out).2.1);rintro e w28 ⟨rfl,hb⟩;refine⟨_,rfl,?_⟩;replace HO463:=mk0 (Kd.R_below (by (with_reducible repeat (first|apply aR|apply nR|apply dR));exact (Kd.R_mono (Kd.R_far (p:=⟨gb481,7,none⟩) (Kd.R_far (p:=⟨gb481,6,none⟩) (Kd.R_far (p:=⟨gb481,5,none⟩) (Kd.R_far (p:=⟨gb481,4,none⟩) (Kd.R_far (p:=⟨gb481,3,none⟩) (Kd.R_far (p:=⟨gb481,2,none⟩) (Kd.R_far (p:=⟨gb481,1,none⟩) (Kd.R_far (p:=⟨gb481,0,none⟩) (Kd.R_types HO463.out BK481.out (by decide)) (fun _ hk=>hk.2) (.int .i64 t469)) (fun _ hk=>hk.2) (.int .i64 t470)) (fun _ hk=>hk.2) (.int .i64 t471)) (fun _ hk=>hk.2) (.int .i64 t472)) (fun _ hk=>hk.2) (.int .i64 t473)) (fun _ hk=>hk.2) (.slice Ao26 t474.length co26)) (fun _ hk=>hk.2) (.int .i64 t477)) (fun _ hk=>hk.2) (.slice Ao27 t478.length co27)) (fun _ h_=>h_.1))) hb);replace HO467:=mk0 (Kd.R_below (by (with_reducible repeat (first|apply aR|apply nR|apply dR));exact (Kd.R_mono (Kd.R_far (p:=⟨gb481,7,none⟩) (Kd.R_far (p:=⟨gb481,6,none⟩) (Kd.R_far (p:=⟨gb481,5,none⟩) (Kd.R_far (p:=⟨gb481,4,none⟩) (Kd.R_far (p:=⟨gb481,3,none⟩) (Kd.R_far (p:=⟨gb481,2,none⟩) (Kd.R_far (p:=⟨gb481,1,none⟩) (Kd.R_far (p:=⟨gb481,0,none⟩) (Kd.R_types HO467.out BK481.out (by decide)) (fun _ hk=>hk.2) (.int .i64 t469)) (fun _ hk=>hk.2) (.int .i64 t470)) (fun _ hk=>hk.2) (.int .i64 t471)) (fun _ hk=>hk.2) (.int .i64 t472)) (fun _ hk=>hk.2) (.int .i64 t473)) (fun _ hk=>hk.2) (.slice Ao26 t474.length co26)) (fun _ hk=>hk.2) (.int .i64 t477)) (fun _ hk=>hk.2) (.slice Ao27 t478.length co27)) (fun _ h_=>h_.1))) hb);replace HO476:=mk0 (Kd.R_below (by (with_reducible repeat (first|apply aR|apply nR|apply dR));exact (Kd.R_mono (Kd.R_far (p:=⟨gb481,7,none⟩) (Kd.R_far (p:=⟨gb481,6,none⟩) (Kd.R_far (p:=⟨gb481,5,none⟩) (Kd.R_far (p:=⟨gb481,4,none⟩) (Kd.R_far (p:=⟨gb481,3,none⟩) (Kd.R_far (p:=⟨gb481,2,none⟩) (Kd.R_far (p:=⟨gb481,1,none⟩) (Kd.R_far (p:=⟨gb481,0,none⟩) (Kd.R_types HO476.out BK481.out (by decide)) (fun _ hk=>hk.2) (.int .i64 t469)) (fun _ hk=>hk.2) (.int .i64 t470)) (fun _ hk=>hk.2) (.int .i64 t471)) (fun _ hk=>hk.2) (.int .i64 t472)) (fun _ hk=>hk.2) (.int .i64 t473)) (fun _ hk=>hk.2) (.slice Ao26 t474.length co26)) (fun _ hk=>hk.2) (.int .i64 t477)) (fun _ hk=>hk.2) (.slice Ao27 t478.length co27)) (fun _ h_=>h_.1))) hb);replace HO480:=mk0 (Kd.R_below (by (with_reducible repeat (first|apply aR|apply nR|apply dR));exact (Kd.R_mono (Kd.R_far (p:=⟨gb481,7,none⟩) (Kd.R_far (p:=⟨gb481,6,none⟩) (Kd.R_far (p:=⟨gb481,5,none⟩) (Kd.R_far (p:=⟨gb481,4,none⟩) (Kd.R_far (p:=⟨gb481,3,none⟩) (Kd.R_far (p:=⟨gb481,2,none⟩) (Kd.R_far (p:=⟨gb481,1,none⟩) (Kd.R_far (p:=⟨gb481,0,none⟩) (Kd.R_types HO480.out BK481.out (by decide)) (fun _ hk=>hk.2) (.int .i64 t469)) (fun _ hk=>hk.2) (.int .i64 t470)) (fun _ hk=>hk.2) (.int .i64 t471)) (fun _ hk=>hk.2) (.int .i64 t472)) (fun _ hk=>hk.2) (.int .i64 t473)) (fun _ hk=>hk.2) (.slice Ao26 t474.length co26)) (fun _ hk=>hk.2) (.int .i64 t477)) (fun _ hk=>hk.2) (.slice Ao27 t478.length co27)) (fun _ h_=>h_.1))) hb);replace BK454:=mk0 (blk_below (g:=gb454) (o:=.cells #[.int .i64 a0_0,.int .i64 a0_1,.int .i64 a0_2,.int .i64 a0_3,.int .i64 a0_4,.slice A0_5 l0_5.length c0_5,.int .i64 a0_6,.slice A0_7 l0_7.length c0_7] 45 (0,0)) (by (with_reducible repeat (first|apply nB|apply dB|apply aB));refine blk_far ?_ NB454_481.out _;(with_reducible repeat (first|apply nB|apply dB|apply aB));refine blk_far ?_ NB454_481.out _;(with_reducible repeat (first|apply nB|apply dB|apply aB));refine blk_far ?_ NB454_481.out _;(with_reducible repeat (first|apply nB|apply dB|apply aB));refine blk_far ?_ NB454_481.out _;(with_reducible repeat (first|apply nB|apply dB|apply aB));refine blk_far ?_ NB454_481.out _;(with_reducible repeat (first|apply nB|apply dB|apply aB));refine blk_far ?_ NB454_481.out _;(with_reducible repeat (first|apply nB|apply dB|apply aB));refine blk_far ?_ NB454_481.out _;(with_reducible repeat (first|apply nB|apply dB|apply aB));refine blk_far ?_ NB454_481.out _;(with_reducible repeat (first|apply nB|apply dB|apply aB));exact BK454.out) hb);replace BK481:=mk0 (blk_below (g:=gb481) (o:=.cells #[.int .i64 t469,.int .i64 t470,.int .i64 t471,.int .i64 t472,.int .i64 t473,.slice Ao26 t474.length co26,.int .i64 t477,.slice Ao27 t478.length co27] 33 (0,0)) (by (with_reducible repeat (first|apply nB|apply dB|apply aB));refine blk_put (cs:=#[.int .i64 t469,.int .i64 t470,.int .i64 t471,.int .i64 t472,.int .i64 t473,.slice Ao26 t474.length co26,.int .i64 t477,.slice none 0 0]) ?_ 7 _ rfl;(with_reducible repeat (first|apply nB|apply dB|apply aB));refine blk_put (cs:=#[.int .i64 t469,.int .i64 t470,.int .i64 t471,.int .i64 t472,.int .i64 t473,.slice Ao26 t474.length co26,.int .i64 0,.slice none 0 0]) ?_ 6 _ rfl;(with_reducible repeat (first|apply nB|apply dB|apply aB));refine blk_put (cs:=#[.int .i64 t469,.int .i64 t470,.int .i64 t471,.int .i64 t472,.int .i64 t473,.slice none 0 0,.int .i64 0,.slice none 0 0]) ?_ 5 _ rfl;(with_reducible repeat (first|apply nB|apply dB|apply aB));refine blk_put (cs:=#[.int .i64 t469,.int .i64 t470,.int .i64 t471,.int .i64 t472,.int .i64 0,.slice none 0 0,.int .i64 0,.slice none 0 0]) ?_ 4 _ rfl;(with_reducible repeat (first|apply nB|apply dB|apply aB));refine blk_put (cs:=#[.int .i64 t469,.int .i64 t470,.int .i64 t471,.int .i64 0,.int .i64 0,.slice none 0 0,.int .i64 0,.slice none 0 0]) ?_ 3 _ rfl;(with_reducible repeat (first|apply nB|apply dB|apply aB));refine blk_put (cs:=#[.int .i64 t469,.int .i64 t470,.int .i64 0,.int .i64 0,.int .i64 0,.slice none 0 0,.int .i64 0,.slice none 0 0]) ?_ 2 _ rfl;(with_reducible repeat (first|apply nB|apply dB|apply aB));refine blk_put (cs:=#[.int .i64 t469,.int .i64 0,.int .i64 0,.int .i64 0,.int .i64 0,.slice none 0 0,.int .i64 0,.slice none 0 0]) ?_ 1 _ rfl;(with_reducible repeat (first|apply nB|apply dB|apply aB));refine blk_put (cs:=#[.int .i64 0,.int .i64 0,.int .i64 0,.int .i64 0,.int .i64 0,.slice none 0 0,.int .i64 0,.slice none 0 0]) ?_ 0 _ rfl;(with_reducible repeat (first|apply nB|apply dB|apply aB));exact BK481.out) hb);replace HB:=mk0 (kS HB.out hb);(try clear hb);(try clear hb2);(try clear hk);(try clear hi)))
  go_ret
  exact⟨by first|rfl|(simp [errW_none,errW_some] <;> rfl)|(simp [*,errW_none,errW_some] <;> rfl),kB HB.out⟩
 rw [if_neg c12] at H
 have c12b0:(t482 != t468) = false:=by simpa using c12
 (try (have c12b1:decide (t482 = t468) = true:=by simpa using c12))
 (try (have c12b2:(t482 == t468) = true:=by simpa using c12))
 clear c12
 replace H:=Option.bind_eq_some_iff.mp H
 obtain⟨⟨t483,t484,t485,t486,t487,t488,t491,t492⟩,A290,H⟩:=H
 replace H:((laws_eqSparse.f k t469 t470 t471 t472 t473 t474 t477 t478 t483 t484 t485 t486 t487 t488 t491 t492).bind fun t495=>(if t495 = true then (some true) else (some false))) = some r:=H
 have A29:=mk0 A290
 clear A290
 replace H:=Option.bind_eq_some_iff.mp H
 obtain⟨t495,A300,H⟩:=H
 replace H:(if t495 = true then (some true) else (some false)) = some r:=H
 have A30:=mk0 A300
 clear A300
 by_cases c31:t495 = true
 ·subst c31
  have H1:(some true) = some r:=by rw [if_pos rfl] at H;exact H
  clear H
  have H:=H1
  clear H1
  obtain rfl:=Option.some.inj H
  go_enter Try.func5,Try.ntmps5
  try go_wp2_with (first|((with_reducible refine gate_dst (N:=2) rfl ?_);refine box_event ?hg (N:=2) ?hd (cs:=#[.int .i64 a0_0,.int .i64 a0_1,.int .i64 a0_2,.int .i64 a0_3,.int .i64 a0_4,.slice A0_5 l0_5.length c0_5,.int .i64 a0_6,.slice A0_7 l0_7.length c0_7]) (t:=45) ?hr ?_;(case hd=>rfl);(case hg=>rfl);(case hr=>first|(go_simp;done)|(go_simp;rfl));intro gb454 hg w32 hbox hb;have BK454:=mk0 (hbox);have GW454:=mk0 ((by rw [hg];exact (kZ HB.out):w.heap.size ≤ gb454));have GE454:=mk0 ((by rw [hg];exact (kZ HB.out):w.heap.size ≤ gb454));replace HB:=mk0 (kS HB.out hb);clear hb hbox hg;obtain⟨hcz33_0,hcz33_1,hcz33_2,hcz33_3,hcz33_4,hcz33_5,hcz33_6,hcz33_7,hfz33_0,hfz33_1,hfz33_2,hfz33_3,hfz33_4,hfz33_5,hfz33_6,hfz33_7⟩:=cz8 BK454.out)|((with_reducible refine gate_callee (f:=17) rfl ?_);refine goesL_ (some 11) rfl rfl Try.func17 (by kernel_rfl) rfl #[.agg #[.int .i64 a0_0,.int .i64 a0_1,.int .i64 a0_2,.int .i64 a0_3,.int .i64 a0_4,.slice A0_5 l0_5.length c0_5,.int .i64 a0_6,.slice A0_7 l0_7.length c0_7],.int .i64 1048576] rfl (by (try simp only [mA,mC,mN]);first|done|rfl|(simp only [List.length_drop,List.length_take];rfl)) ?_;(with_reducible refine (laws_szSparse.calls a0_0 a0_1 a0_2 a0_3 a0_4 _ _ l0_5 a0_6 _ _ l0_7 1048576 t455 _ ?side1 ?side2 ?side3 ?side4 A3.out).mono ?_);(case side1=>exact kC (Kd.C_below HR0_5.out HB.out));(case side2=>exact HC0_5.out);(case side3=>exact kC (Kd.C_below HR0_7.out HB.out));(case side4=>exact HC0_7.out);rintro e w34 ⟨rfl,hb⟩;refine⟨_,rfl,?_⟩;replace BK454:=mk0 (kK BK454.out hb);replace HB:=mk0 (kS HB.out hb);(try clear hb);(try clear hb2);(try clear hk);(try clear hi);obtain⟨hcz35_0,hcz35_1,hcz35_2,hcz35_3,hcz35_4,hcz35_5,hcz35_6,hcz35_7,hfz35_0,hfz35_1,hfz35_2,hfz35_3,hfz35_4,hfz35_5,hfz35_6,hfz35_7⟩:=cz8 BK454.out)|((with_reducible refine gate_callee (f:=19) rfl ?_);refine goesL_ (some 15) rfl rfl Try.func19 (by kernel_rfl) rfl #[.agg #[.int .i64 a0_0,.int .i64 a0_1,.int .i64 a0_2,.int .i64 a0_3,.int .i64 a0_4,.slice A0_5 l0_5.length c0_5,.int .i64 a0_6,.slice A0_7 l0_7.length c0_7]] rfl (by (try simp only [mA,mC,mN]);first|done|rfl|(simp only [List.length_drop,List.length_take];rfl)) ?_;(with_reducible refine (laws_toSparse.calls k a0_0 a0_1 a0_2 a0_3 a0_4 _ _ l0_5 a0_6 _ _ l0_7 t456 t457 t458 t459 t460 t461 t464 t465 _ ?side1 ?side2 ?side3 ?side4 A8.out).mono ?_);(case side1=>exact kC (Kd.C_below HR0_5.out HB.out));(case side2=>exact HC0_5.out);(case side3=>exact kC (Kd.C_below HR0_7.out HB.out));(case side4=>exact HC0_7.out);rintro e w36 ⟨v462,v466,rfl,ho0,ho1,hb⟩;refine⟨_,rfl,?_⟩;have HO463:=mk0 (Kd.R_lower ho0 (kZ HB.out));have HO467:=mk0 (Kd.R_lower ho1 (kZ HB.out));replace BK454:=mk0 (kK BK454.out hb);replace HB:=mk0 (kS HB.out hb);(try clear hb);(try clear hb2);(try clear hk);(try clear hi);(try clear ho0);(try clear ho1);obtain⟨Ao37,co37,eo37⟩:=Kd.R_slice HO463.out;subst eo37;obtain⟨Ao38,co38,eo38⟩:=Kd.R_slice HO467.out;subst eo38)|((with_reducible refine gate_callee (f:=21) rfl ?_);refine goesL_ (some 17) rfl rfl Try.func21 (by kernel_rfl) rfl #[.agg #[.int .i64 t456,.int .i64 t457,.int .i64 t458,.int .i64 t459,.int .i64 t460,.slice Ao37 t461.length co37,.int .i64 t464,.slice Ao38 t465.length co38],.int .i64 a1] rfl (by (try simp only [mA,mC,mN]);first|done|rfl|(simp only [List.length_drop,List.length_take];rfl)) ?_;(with_reducible refine (spec_SparseHas.calls k t456 t457 t458 t459 t460 _ _ t461 t464 _ _ t465 a1 t468 _ ?side1 ?side2 ?side3 ?side4 A9.out).mono ?_);(case side1=>exact kC (Kd.R_reads' HO463.out).2.2);(case side2=>exact (Kd.R_reads' HO463.out).2.1);(case side3=>exact kC (Kd.R_reads' HO467.out).2.2);(case side4=>exact (Kd.R_reads' HO467.out).2.1);rintro e w39 ⟨rfl,hb⟩;refine⟨_,rfl,?_⟩;replace HO463:=mk0 (bR HO463.out hb);replace HO467:=mk0 (bR HO467.out hb);replace BK454:=mk0 (kK BK454.out hb);replace HB:=mk0 (kS HB.out hb);(try clear hb);(try clear hb2);(try clear hk);(try clear hi);obtain⟨hcz40_0,hcz40_1,hcz40_2,hcz40_3,hcz40_4,hcz40_5,hcz40_6,hcz40_7,hfz40_0,hfz40_1,hfz40_2,hfz40_3,hfz40_4,hfz40_5,hfz40_6,hfz40_7⟩:=cz8 BK454.out)|((with_reducible refine gate_callee (f:=19) rfl ?_);refine goesL_ (some 19) rfl rfl Try.func19 (by kernel_rfl) rfl #[.agg #[.int .i64 a0_0,.int .i64 a0_1,.int .i64 a0_2,.int .i64 a0_3,.int .i64 a0_4,.slice A0_5 l0_5.length c0_5,.int .i64 a0_6,.slice A0_7 l0_7.length c0_7]] rfl (by (try simp only [mA,mC,mN]);first|done|rfl|(simp only [List.length_drop,List.length_take];rfl)) ?_;(with_reducible refine (laws_toSparse.calls k a0_0 a0_1 a0_2 a0_3 a0_4 _ _ l0_5 a0_6 _ _ l0_7 t469 t470 t471 t472 t473 t474 t477 t478 _ ?side1 ?side2 ?side3 ?side4 A10.out).mono ?_);(case side1=>exact kC (Kd.C_below HR0_5.out HB.out));(case side2=>exact HC0_5.out);(case side3=>exact kC (Kd.C_below HR0_7.out HB.out));(case side4=>exact HC0_7.out);rintro e w41 ⟨v475,v479,rfl,ho0,ho1,hb⟩;refine⟨_,rfl,?_⟩;have HO476:=mk0 (Kd.R_lower (Kd.R_new' (Kd.R_new' ho0 (Kd.R_lt (rR HO463.out))) (Kd.R_lt (rR HO467.out))) (kZ HB.out));have HO480:=mk0 (Kd.R_lower (Kd.R_new' (Kd.R_new' ho1 (Kd.R_lt (rR HO463.out))) (Kd.R_lt (rR HO467.out))) (kZ HB.out));replace HO463:=mk0 (Kd.R_mono (Kd.R_told (Kd.R_told (Kd.R_old (rR HO463.out) hb) (Kd.R_base ho0)) (Kd.R_base ho1)) (fun _ h_=>h_.1));replace HO467:=mk0 (Kd.R_mono (Kd.R_told (Kd.R_told (Kd.R_old (rR HO467.out) hb) (Kd.R_base ho0)) (Kd.R_base ho1)) (fun _ h_=>h_.1));replace BK454:=mk0 (kK BK454.out hb);replace HB:=mk0 (kS HB.out hb);(try clear hb);(try clear hb2);(try clear hk);(try clear hi);(try clear ho0);(try clear ho1))|((with_reducible refine gate_dst (N:=7) rfl ?_);refine box_event ?hg (N:=7) ?hd (cs:=#[.int .i64 0,.int .i64 0,.int .i64 0,.int .i64 0,.int .i64 0,.slice none 0 0,.int .i64 0,.slice none 0 0]) (t:=33) ?hr ?_;(case hd=>rfl);(case hg=>rfl);(case hr=>first|(go_simp;done)|(go_simp;rfl));intro gb481 hg w42 hbox hb;replace HO463:=mk0 (bR HO463.out hb);replace HO467:=mk0 (bR HO467.out hb);replace HO476:=mk0 (bR HO476.out hb);replace HO480:=mk0 (bR HO480.out hb);have BK481:=mk0 (hbox);have GW481:=mk0 ((by rw [hg];exact (kZ HB.out):w.heap.size ≤ gb481));have GE481:=mk0 ((by rw [hg];exact (kZ HB.out):w.heap.size ≤ gb481));replace HB:=mk0 (kS HB.out hb);have NB454_481:=mk0 ((by rw [hg];exact Nat.ne_of_lt (kL BK454.out):gb454 ≠ gb481));have NB481_454:=mk0 ((by rw [hg];exact Nat.ne_of_gt (kL BK454.out):gb481 ≠ gb454));replace BK454:=mk0 (kK BK454.out hb);clear hb hbox hg;have hnb43:=NB481_454.out;have hnc43:=NB454_481.out;obtain⟨hcz44_0,hcz44_1,hcz44_2,hcz44_3,hcz44_4,hcz44_5,hcz44_6,hcz44_7,hfz44_0,hfz44_1,hfz44_2,hfz44_3,hfz44_4,hfz44_5,hfz44_6,hfz44_7⟩:=cz8 BK481.out;obtain⟨Ao45,co45,eo45⟩:=Kd.R_slice HO476.out;subst eo45;obtain⟨Ao46,co46,eo46⟩:=Kd.R_slice HO480.out;subst eo46)|((with_reducible refine gate_callee (f:=16) rfl ?_);refine goesL_ (some 22) rfl rfl Try.func16 (by kernel_rfl) rfl #[.agg #[.int .i64 t469,.int .i64 t470,.int .i64 t471,.int .i64 t472,.int .i64 t473,.slice Ao45 t474.length co45,.int .i64 t477,.slice Ao46 t478.length co46],.int .i64 a1] rfl (by (try simp only [mA,mC,mN]);first|done|rfl|(simp only [List.length_drop,List.length_take];rfl)) ?_;(with_reducible refine (impl_SparseHas.calls k t469 t470 t471 t472 t473 _ _ t474 t477 _ _ t478 a1 t482 _ ?side1 ?side2 ?side3 ?side4 A11.out).mono ?_);(case side1=>refine (Kd.R_reads' (e:=78) (base:=w.heap.size) (ok:=fun k_=>((some k_ ≠ (.slice Ao46 t478.length co46:Value).ownBlock ∧ some k_ ≠ (.slice Ao37 t461.length co37:Value).ownBlock) ∧ some k_ ≠ (.slice Ao38 t465.length co38:Value).ownBlock)) (n:=t474.length) (c:=co45) ?_).2.2;exact (by (with_reducible repeat (first|apply aR|apply nR|apply dR));exact (Kd.R_mono (Kd.R_far (p:=⟨gb481,7,none⟩) (Kd.R_far (p:=⟨gb481,6,none⟩) (Kd.R_far (p:=⟨gb481,5,none⟩) (Kd.R_far (p:=⟨gb481,4,none⟩) (Kd.R_far (p:=⟨gb481,3,none⟩) (Kd.R_far (p:=⟨gb481,2,none⟩) (Kd.R_far (p:=⟨gb481,1,none⟩) (Kd.R_far (p:=⟨gb481,0,none⟩) (Kd.R_types HO476.out BK481.out (by decide)) (fun _ hk=>hk.2) (.int .i64 t469)) (fun _ hk=>hk.2) (.int .i64 t470)) (fun _ hk=>hk.2) (.int .i64 t471)) (fun _ hk=>hk.2) (.int .i64 t472)) (fun _ hk=>hk.2) (.int .i64 t473)) (fun _ hk=>hk.2) (.slice Ao45 t474.length co45)) (fun _ hk=>hk.2) (.int .i64 t477)) (fun _ hk=>hk.2) (.slice Ao46 t478.length co46)) (fun _ h_=>h_.1))));(case side2=>exact (Kd.R_reads' HO476.out).2.1);(case side3=>refine (Kd.R_reads' (e:=78) (base:=w.heap.size) (ok:=fun k_=>((some k_ ≠ (.slice Ao45 t474.length co45:Value).ownBlock ∧ some k_ ≠ (.slice Ao37 t461.length co37:Value).ownBlock) ∧ some k_ ≠ (.slice Ao38 t465.length co38:Value).ownBlock)) (n:=t478.length) (c:=co46) ?_).2.2;exact (by (with_reducible repeat (first|apply aR|apply nR|apply dR));exact (Kd.R_mono (Kd.R_far (p:=⟨gb481,7,none⟩) (Kd.R_far (p:=⟨gb481,6,none⟩) (Kd.R_far (p:=⟨gb481,5,none⟩) (Kd.R_far (p:=⟨gb481,4,none⟩) (Kd.R_far (p:=⟨gb481,3,none⟩) (Kd.R_far (p:=⟨gb481,2,none⟩) (Kd.R_far (p:=⟨gb481,1,none⟩) (Kd.R_far (p:=⟨gb481,0,none⟩) (Kd.R_types HO480.out BK481.out (by decide)) (fun _ hk=>hk.2) (.int .i64 t469)) (fun _ hk=>hk.2) (.int .i64 t470)) (fun _ hk=>hk.2) (.int .i64 t471)) (fun _ hk=>hk.2) (.int .i64 t472)) (fun _ hk=>hk.2) (.int .i64 t473)) (fun _ hk=>hk.2) (.slice Ao45 t474.length co45)) (fun _ hk=>hk.2) (.int .i64 t477)) (fun _ hk=>hk.2) (.slice Ao46 t478.length co46)) (fun _ h_=>h_.1))));(case side4=>exact (Kd.R_reads' HO480.out).2.1);rintro e w47 ⟨rfl,hb⟩;refine⟨_,rfl,?_⟩;replace HO463:=mk0 (Kd.R_below (by (with_reducible repeat (first|apply aR|apply nR|apply dR));exact (Kd.R_mono (Kd.R_far (p:=⟨gb481,7,none⟩) (Kd.R_far (p:=⟨gb481,6,none⟩) (Kd.R_far (p:=⟨gb481,5,none⟩) (Kd.R_far (p:=⟨gb481,4,none⟩) (Kd.R_far (p:=⟨gb481,3,none⟩) (Kd.R_far (p:=⟨gb481,2,none⟩) (Kd.R_far (p:=⟨gb481,1,none⟩) (Kd.R_far (p:=⟨gb481,0,none⟩) (Kd.R_types HO463.out BK481.out (by decide)) (fun _ hk=>hk.2) (.int .i64 t469)) (fun _ hk=>hk.2) (.int .i64 t470)) (fun _ hk=>hk.2) (.int .i64 t471)) (fun _ hk=>hk.2) (.int .i64 t472)) (fun _ hk=>hk.2) (.int .i64 t473)) (fun _ hk=>hk.2) (.slice Ao45 t474.length co45)) (fun _ hk=>hk.2) (.int .i64 t477)) (fun _ hk=>hk.2) (.slice Ao46 t478.length co46)) (fun _ h_=>h_.1))) hb);replace HO467:=mk0 (Kd.R_below (by (with_reducible repeat (first|apply aR|apply nR|apply dR));exact (Kd.R_mono (Kd.R_far (p:=⟨gb481,7,none⟩) (Kd.R_far (p:=⟨gb481,6,none⟩) (Kd.R_far (p:=⟨gb481,5,none⟩) (Kd.R_far (p:=⟨gb481,4,none⟩) (Kd.R_far (p:=⟨gb481,3,none⟩) (Kd.R_far (p:=⟨gb481,2,none⟩) (Kd.R_far (p:=⟨gb481,1,none⟩) (Kd.R_far (p:=⟨gb481,0,none⟩) (Kd.R_types HO467.out BK481.out (by decide)) (fun _ hk=>hk.2) (.int .i64 t469)) (fun _ hk=>hk.2) (.int .i64 t470)) (fun _ hk=>hk.2) (.int .i64 t471)) (fun _ hk=>hk.2) (.int .i64 t472)) (fun _ hk=>hk.2) (.int .i64 t473)) (fun _ hk=>hk.2) (.slice Ao45 t474.length co45)) (fun _ hk=>hk.2) (.int .i64 t477)) (fun _ hk=>hk.2) (.slice Ao46 t478.length co46)) (fun _ h_=>h_.1))) hb);replace HO476:=mk0 (Kd.R_below (by (with_reducible repeat (first|apply aR|apply nR|apply dR));exact (Kd.R_mono (Kd.R_far (p:=⟨gb481,7,none⟩) (Kd.R_far (p:=⟨gb481,6,none⟩) (Kd.R_far (p:=⟨gb481,5,none⟩) (Kd.R_far (p:=⟨gb481,4,none⟩) (Kd.R_far (p:=⟨gb481,3,none⟩) (Kd.R_far (p:=⟨gb481,2,none⟩) (Kd.R_far (p:=⟨gb481,1,none⟩) (Kd.R_far (p:=⟨gb481,0,none⟩) (Kd.R_types HO476.out BK481.out (by decide)) (fun _ hk=>hk.2) (.int .i64 t469)) (fun _ hk=>hk.2) (.int .i64 t470)) (fun _ hk=>hk.2) (.int .i64 t471)) (fun _ hk=>hk.2) (.int .i64 t472)) (fun _ hk=>hk.2) (.int .i64 t473)) (fun _ hk=>hk.2) (.slice Ao45 t474.length co45)) (fun _ hk=>hk.2) (.int .i64 t477)) (fun _ hk=>hk.2) (.slice Ao46 t478.length co46)) (fun _ h_=>h_.1))) hb);replace HO480:=mk0 (Kd.R_below (by (with_reducible repeat (first|apply aR|apply nR|apply dR));exact (Kd.R_mono (Kd.R_far (p:=⟨gb481,7,none⟩) (Kd.R_far (p:=⟨gb481,6,none⟩) (Kd.R_far (p:=⟨gb481,5,none⟩) (Kd.R_far (p:=⟨gb481,4,none⟩) (Kd.R_far (p:=⟨gb481,3,none⟩) (Kd.R_far (p:=⟨gb481,2,none⟩) (Kd.R_far (p:=⟨gb481,1,none⟩) (Kd.R_far (p:=⟨gb481,0,none⟩) (Kd.R_types HO480.out BK481.out (by decide)) (fun _ hk=>hk.2) (.int .i64 t469)) (fun _ hk=>hk.2) (.int .i64 t470)) (fun _ hk=>hk.2) (.int .i64 t471)) (fun _ hk=>hk.2) (.int .i64 t472)) (fun _ hk=>hk.2) (.int .i64 t473)) (fun _ hk=>hk.2) (.slice Ao45 t474.length co45)) (fun _ hk=>hk.2) (.int .i64 t477)) (fun _ hk=>hk.2) (.slice Ao46 t478.length co46)) (fun _ h_=>h_.1))) hb);replace BK454:=mk0 (blk_below (g:=gb454) (o:=.cells #[.int .i64 a0_0,.int .i64 a0_1,.int .i64 a0_2,.int .i64 a0_3,.int .i64 a0_4,.slice A0_5 l0_5.length c0_5,.int .i64 a0_6,.slice A0_7 l0_7.length c0_7] 45 (0,0)) (by (with_reducible repeat (first|apply nB|apply dB|apply aB));refine blk_far ?_ NB454_481.out _;(with_reducible repeat (first|apply nB|apply dB|apply aB));refine blk_far ?_ NB454_481.out _;(with_reducible repeat (first|apply nB|apply dB|apply aB));refine blk_far ?_ NB454_481.out _;(with_reducible repeat (first|apply nB|apply dB|apply aB));refine blk_far ?_ NB454_481.out _;(with_reducible repeat (first|apply nB|apply dB|apply aB));refine blk_far ?_ NB454_481.out _;(with_reducible repeat (first|apply nB|apply dB|apply aB));refine blk_far ?_ NB454_481.out _;(with_reducible repeat (first|apply nB|apply dB|apply aB));refine blk_far ?_ NB454_481.out _;(with_reducible repeat (first|apply nB|apply dB|apply aB));refine blk_far ?_ NB454_481.out _;(with_reducible repeat (first|apply nB|apply dB|apply aB));exact BK454.out) hb);replace BK481:=mk0 (blk_below (g:=gb481) (o:=.cells #[.int .i64 t469,.int .i64 t470,.int .i64 t471,.int .i64 t472,.int .i64 t473,.slice Ao45 t474.length co45,.int .i64 t477,.slice Ao46 t478.length co46] 33 (0,0)) (by (with_reducible repeat (first|apply nB|apply dB|apply aB));refine blk_put (cs:=#[.int .i64 t469,.int .i64 t470,.int .i64 t471,.int .i64 t472,.int .i64 t473,.slice Ao45 t474.length co45,.int .i64 t477,.slice none 0 0]) ?_ 7 _ rfl;(with_reducible repeat (first|apply nB|apply dB|apply aB));refine blk_put (cs:=#[.int .i64 t469,.int .i64 t470,.int .i64 t471,.int .i64 t472,.int .i64 t473,.slice Ao45 t474.length co45,.int .i64 0,.slice none 0 0]) ?_ 6 _ rfl;(with_reducible repeat (first|apply nB|apply dB|apply aB));refine blk_put (cs:=#[.int .i64 t469,.int .i64 t470,.int .i64 t471,.int .i64 t472,.int .i64 t473,.slice none 0 0,.int .i64 0,.slice none 0 0]) ?_ 5 _ rfl;(with_reducible repeat (first|apply nB|apply dB|apply aB));refine blk_put (cs:=#[.int .i64 t469,.int .i64 t470,.int .i64 t471,.int .i64 t472,.int .i64 0,.slice none 0 0,.int .i64 0,.slice none 0 0]) ?_ 4 _ rfl;(with_reducible repeat (first|apply nB|apply dB|apply aB));refine blk_put (cs:=#[.int .i64 t469,.int .i64 t470,.int .i64 t471,.int .i64 0,.int .i64 0,.slice none 0 0,.int .i64 0,.slice none 0 0]) ?_ 3 _ rfl;(with_reducible repeat (first|apply nB|apply dB|apply aB));refine blk_put (cs:=#[.int .i64 t469,.int .i64 t470,.int .i64 0,.int .i64 0,.int .i64 0,.slice none 0 0,.int .i64 0,.slice none 0 0]) ?_ 2 _ rfl;(with_reducible repeat (first|apply nB|apply dB|apply aB));refine blk_put (cs:=#[.int .i64 t469,.int .i64 0,.int .i64 0,.int .i64 0,.int .i64 0,.slice none 0 0,.int .i64 0,.slice none 0 0]) ?_ 1 _ rfl;(with_reducible repeat (first|apply nB|apply dB|apply aB));refine blk_put (cs:=#[.int .i64 0,.int .i64 0,.int .i64 0,.int .i64 0,.int .i64 0,.slice none 0 0,.int .i64 0,.slice none 0 0]) ?_ 0 _ rfl;(with_reducible repeat (first|apply nB|apply dB|apply aB));exact BK481.out) hb);replace HB:=mk0 (kS HB.out hb);(try clear hb);(try clear hb2);(try clear hk);(try clear hi)))
  replace HO463:=mk0 (dR HO463.out)
  replace HO467:=mk0 (dR HO467.out)
  replace HO476:=mk0 (dR HO476.out)
  replace HO480:=mk0 (dR HO480.out)
  replace BK454:=mk0 (dB BK454.out)
  replace BK481:=mk0 (dB BK481.out)
  replace HB:=mk0 (dZ HB.out)
  refine start_ (n:=5) (S:=fun w'=>w'.cell? ⟨gb481,0,none⟩ = some (.int .i64 t469) ∧ w'.cell? ⟨gb481,1,none⟩ = some (.int .i64 t470) ∧ w'.cell? ⟨gb481,2,none⟩ = some (.int .i64 t471) ∧ w'.cell? ⟨gb481,3,none⟩ = some (.int .i64 t472) ∧ w'.cell? ⟨gb481,4,none⟩ = some (.int .i64 t473) ∧ w'.cell? ⟨gb481,5,none⟩ = some (.slice Ao45 t474.length co45) ∧ w'.cell? ⟨gb481,6,none⟩ = some (.int .i64 t477) ∧ w'.cell? ⟨gb481,7,none⟩ = some (.slice Ao46 t478.length co46) ∧ w'.cell? ⟨gb454,0,none⟩ = some (.int .i64 a0_0) ∧ w'.cell? ⟨gb454,1,none⟩ = some (.int .i64 a0_1) ∧ w'.cell? ⟨gb454,2,none⟩ = some (.int .i64 a0_2) ∧ w'.cell? ⟨gb454,3,none⟩ = some (.int .i64 a0_3) ∧ w'.cell? ⟨gb454,4,none⟩ = some (.int .i64 a0_4) ∧ w'.cell? ⟨gb454,5,none⟩ = some (.slice A0_5 l0_5.length c0_5) ∧ w'.cell? ⟨gb454,6,none⟩ = some (.int .i64 a0_6) ∧ w'.cell? ⟨gb454,7,none⟩ = some (.slice A0_7 l0_7.length c0_7)) (ds:=[]) #[false,false,false,false,false] (by kernel_rfl) rfl rfl ⟨(blk_cell BK481.out 0).trans rfl,(blk_cell BK481.out 1).trans rfl,(blk_cell BK481.out 2).trans rfl,(blk_cell BK481.out 3).trans rfl,(blk_cell BK481.out 4).trans rfl,(blk_cell BK481.out 5).trans rfl,(blk_cell BK481.out 6).trans rfl,(blk_cell BK481.out 7).trans rfl,(blk_cell BK454.out 0).trans rfl,(blk_cell BK454.out 1).trans rfl,(blk_cell BK454.out 2).trans rfl,(blk_cell BK454.out 3).trans rfl,(blk_cell BK454.out 4).trans rfl,(blk_cell BK454.out 5).trans rfl,(blk_cell BK454.out 6).trans rfl,(blk_cell BK454.out 7).trans rfl⟩ (fun hHeld=>?_)
  generalize w47.drew = w48 at HO463 HO467 HO476 HO480 BK454 BK481 HB hHeld ⊢
  refine take_ (i:=0) (N:=some 26) (v:=?_) (a':=?_) #[true,false,false,false,false] rfl rfl (by kernel_rfl) (fun _ _ _ h=>h) (Or.inl ⟨by rfl,?_⟩) hHeld ?_ ?_
  rotate_left
  ·rintro w' ⟨s0,s1,s2,s3,s4,s5,s6,s7,s8,s9,s10,s11,s12,s13,s14,s15⟩
   go_simp
   with_reducible rfl
  rotate_left
  ·simp only [Act.put,sA,sO,sS,i64_w,i32_w]
   rfl
  refine take_ (i:=1) (N:=some 27) (v:=?_) (a':=?_) #[true,true,false,false,false] rfl rfl (by kernel_rfl) (fun _ _ _ h=>h) (Or.inl ⟨by rfl,?_⟩) hHeld ?_ ?_
  rotate_left
  ·rintro w' ⟨s0,s1,s2,s3,s4,s5,s6,s7,s8,s9,s10,s11,s12,s13,s14,s15⟩
   go_simp
   with_reducible rfl
  rotate_left
  ·simp only [Act.put,sA,sO,sS,i64_w,i32_w]
   rfl
  refine one_ (i:=2) (N:=some 28) #[true,true,true,false,false] rfl rfl (by kernel_rfl) (by decide) (fun K hK=>?_)
  refine goes_ Try.func19 (by kernel_rfl) rfl #[.agg #[.int .i64 a0_0,.int .i64 a0_1,.int .i64 a0_2,.int .i64 a0_3,.int .i64 a0_4,.slice A0_5 l0_5.length c0_5,.int .i64 a0_6,.slice A0_7 l0_7.length c0_7]] (by rfl) rfl rfl (by (try simp only [mA,mC,mN]);first|done|rfl|(simp only [List.length_drop,List.length_take];rfl)) ?_
  with_reducible refine (laws_toSparse.calls k a0_0 a0_1 a0_2 a0_3 a0_4 _ _ l0_5 a0_6 _ _ l0_7 t483 t484 t485 t486 t487 t488 t491 t492 _ ?side1 ?side2 ?side3 ?side4 A29.out).mono ?_
  (case side1=>exact kC (Kd.C_below HR0_5.out HB.out))
  (case side2=>exact HC0_5.out)
  (case side3=>exact kC (Kd.C_below HR0_7.out HB.out))
  (case side4=>exact HC0_7.out)
  rintro e w49 ⟨v489,v493,rfl,ho0,ho1,hb⟩
  refine⟨_,rfl,?_⟩
  have HO490:=mk0 (Kd.R_lower (Kd.R_new' (Kd.R_new' (Kd.R_new' (Kd.R_new' ho0 (Kd.R_lt (rR HO463.out))) (Kd.R_lt (rR HO467.out))) (Kd.R_lt (rR HO476.out))) (Kd.R_lt (rR HO480.out))) (kZ HB.out))
  have HO494:=mk0 (Kd.R_lower (Kd.R_new' (Kd.R_new' (Kd.R_new' (Kd.R_new' ho1 (Kd.R_lt (rR HO463.out))) (Kd.R_lt (rR HO467.out))) (Kd.R_lt (rR HO476.out))) (Kd.R_lt (rR HO480.out))) (kZ HB.out))
  replace HO463:=mk0 (Kd.R_mono (Kd.R_told (Kd.R_told (Kd.R_old (rR HO463.out) hb) (Kd.R_base ho0)) (Kd.R_base ho1)) (fun _ h_=>h_.1))
  replace HO467:=mk0 (Kd.R_mono (Kd.R_told (Kd.R_told (Kd.R_old (rR HO467.out) hb) (Kd.R_base ho0)) (Kd.R_base ho1)) (fun _ h_=>h_.1))
  replace HO476:=mk0 (Kd.R_mono (Kd.R_told (Kd.R_told (Kd.R_old (rR HO476.out) hb) (Kd.R_base ho0)) (Kd.R_base ho1)) (fun _ h_=>h_.1))
  replace HO480:=mk0 (Kd.R_mono (Kd.R_told (Kd.R_told (Kd.R_old (rR HO480.out) hb) (Kd.R_base ho0)) (Kd.R_base ho1)) (fun _ h_=>h_.1))
  replace BK454:=mk0 (kK BK454.out hb)
  replace BK481:=mk0 (kK BK481.out hb)
  replace HB:=mk0 (kS HB.out hb)
  (try clear hb)
  (try clear hb2)
  (try clear hk)
  (try clear hi)
  (try clear ho0)
  (try clear ho1)
  obtain⟨Ao50,co50,eo50⟩:=Kd.R_slice HO490.out
  (first|subst eo50|(injection eo50 with f1_ f2_ f3_;have f4_:=f1_.symm;have f5_:=f3_.symm;clear f1_ f2_ f3_;subst f4_;subst f5_))
  obtain⟨Ao51,co51,eo51⟩:=Kd.R_slice HO494.out
  (first|subst eo51|(injection eo51 with f1_ f2_ f3_;have f4_:=f1_.symm;have f5_:=f3_.symm;clear f1_ f2_ f3_;subst f4_;subst f5_))
  refine hK.out _ _ ⟨(blk_cell BK481.out 0).trans rfl,(blk_cell BK481.out 1).trans rfl,(blk_cell BK481.out 2).trans rfl,(blk_cell BK481.out 3).trans rfl,(blk_cell BK481.out 4).trans rfl,(blk_cell BK481.out 5).trans rfl,(blk_cell BK481.out 6).trans rfl,(blk_cell BK481.out 7).trans rfl,(blk_cell BK454.out 0).trans rfl,(blk_cell BK454.out 1).trans rfl,(blk_cell BK454.out 2).trans rfl,(blk_cell BK454.out 3).trans rfl,(blk_cell BK454.out 4).trans rfl,(blk_cell BK454.out 5).trans rfl,(blk_cell BK454.out 6).trans rfl,(blk_cell BK454.out 7).trans rfl⟩ (fun hHeld=>?_)
  clear hK K
  refine norm_ (a':=?_) ?_ ?_
  rotate_left
  ·show Act.put _ (some 28) _ = _
   simp only [Act.put,sA,sO,sS,i64_w,i32_w]
   rfl
  refine one_ (i:=3) (N:=some 29) #[true,true,true,true,false] rfl rfl (by kernel_rfl) (by decide) (fun K hK=>?_)
  refine goes_ Try.func20 (by kernel_rfl) rfl #[.agg #[.int .i64 t469,.int .i64 t470,.int .i64 t471,.int .i64 t472,.int .i64 t473,.slice Ao45 t474.length co45,.int .i64 t477,.slice Ao46 t478.length co46],.agg #[.int .i64 t483,.int .i64 t484,.int .i64 t485,.int .i64 t486,.int .i64 t487,.slice Ao50 t488.length co50,.int .i64 t491,.slice Ao51 t492.length co51]] (by rfl) rfl rfl (by (try simp only [mA,mC,mN]);first|done|rfl|(simp only [List.length_drop,List.length_take];rfl)) ?_
  with_reducible refine (laws_eqSparse.calls k t469 t470 t471 t472 t473 _ _ t474 t477 _ _ t478 t483 t484 t485 t486 t487 _ _ t488 t491 _ _ t492 true _ ?side1 ?side2 ?side3 ?side4 ?side5 ?side6 ?side7 ?side8 A30.out).mono ?_
  (case side1=>exact kC (Kd.R_reads' HO476.out).2.2)
  (case side2=>exact (Kd.R_reads' HO476.out).2.1)
  (case side3=>exact kC (Kd.R_reads' HO480.out).2.2)
  (case side4=>exact (Kd.R_reads' HO480.out).2.1)
  (case side5=>exact kC (Kd.R_reads' HO490.out).2.2)
  (case side6=>exact (Kd.R_reads' HO490.out).2.1)
  (case side7=>exact kC (Kd.R_reads' HO494.out).2.2)
  (case side8=>exact (Kd.R_reads' HO494.out).2.1)
  rintro e w52 ⟨rfl,hb⟩
  refine⟨_,rfl,?_⟩
  replace HO463:=mk0 (bR HO463.out hb)
  replace HO467:=mk0 (bR HO467.out hb)
  replace HO476:=mk0 (bR HO476.out hb)
  replace HO480:=mk0 (bR HO480.out hb)
  replace HO490:=mk0 (bR HO490.out hb)
  replace HO494:=mk0 (bR HO494.out hb)
  replace BK454:=mk0 (kK BK454.out hb)
  replace BK481:=mk0 (kK BK481.out hb)
  replace HB:=mk0 (kS HB.out hb)
  (try clear hb)
  (try clear hb2)
  (try clear hk)
  (try clear hi)
  refine hK.out _ _ ⟨(blk_cell BK481.out 0).trans rfl,(blk_cell BK481.out 1).trans rfl,(blk_cell BK481.out 2).trans rfl,(blk_cell BK481.out 3).trans rfl,(blk_cell BK481.out 4).trans rfl,(blk_cell BK481.out 5).trans rfl,(blk_cell BK481.out 6).trans rfl,(blk_cell BK481.out 7).trans rfl,(blk_cell BK454.out 0).trans rfl,(blk_cell BK454.out 1).trans rfl,(blk_cell BK454.out 2).trans rfl,(blk_cell BK454.out 3).trans rfl,(blk_cell BK454.out 4).trans rfl,(blk_cell BK454.out 5).trans rfl,(blk_cell BK454.out 6).trans rfl,(blk_cell BK454.out 7).trans rfl⟩ (fun hHeld=>?_)
  clear hK K
  refine norm_ (a':=?_) ?_ ?_
  rotate_left
  ·show Act.put _ (some 29) _ = _
   simp only [Act.put,sA,sO,sS,i64_w,i32_w]
   rfl
  refine pure_ (i:=4) (N:=some 30) (v:=?_) (a':=?_) #[true,true,true,true,true] rfl rfl (by kernel_rfl) (fun _ _ _ h=>h) (Or.inl ⟨by rfl,?_⟩) ?_ ?_
  rotate_left
  ·intro w'
   go_simp
   with_reducible rfl
  rotate_left
  ·simp only [Act.put,sA,sO,sS,i64_w,i32_w]
   rfl
  refine done_ (by kernel_rfl) ?_
  try go_wp2
  go_ret
  exact⟨by first|rfl|(simp [errW_none,errW_some] <;> rfl)|(simp [*,errW_none,errW_some] <;> rfl),kB HB.out⟩
 replace c31:=Bool.eq_false_iff.mpr c31
 subst c31
 have H1:(some false) = some r:=by rw [if_neg (show ¬ (false = true) by decide)] at H;exact H
 clear H
 have H:=H1
 clear H1
 obtain rfl:=Option.some.inj H
 go_enter Try.func5,Try.ntmps5
 try go_wp2_with (first|((with_reducible refine gate_dst (N:=2) rfl ?_);refine box_event ?hg (N:=2) ?hd (cs:=#[.int .i64 a0_0,.int .i64 a0_1,.int .i64 a0_2,.int .i64 a0_3,.int .i64 a0_4,.slice A0_5 l0_5.length c0_5,.int .i64 a0_6,.slice A0_7 l0_7.length c0_7]) (t:=45) ?hr ?_;(case hd=>rfl);(case hg=>rfl);(case hr=>first|(go_simp;done)|(go_simp;rfl));intro gb454 hg w53 hbox hb;have BK454:=mk0 (hbox);have GW454:=mk0 ((by rw [hg];exact (kZ HB.out):w.heap.size ≤ gb454));have GE454:=mk0 ((by rw [hg];exact (kZ HB.out):w.heap.size ≤ gb454));replace HB:=mk0 (kS HB.out hb);clear hb hbox hg;obtain⟨hcz54_0,hcz54_1,hcz54_2,hcz54_3,hcz54_4,hcz54_5,hcz54_6,hcz54_7,hfz54_0,hfz54_1,hfz54_2,hfz54_3,hfz54_4,hfz54_5,hfz54_6,hfz54_7⟩:=cz8 BK454.out)|((with_reducible refine gate_callee (f:=17) rfl ?_);refine goesL_ (some 11) rfl rfl Try.func17 (by kernel_rfl) rfl #[.agg #[.int .i64 a0_0,.int .i64 a0_1,.int .i64 a0_2,.int .i64 a0_3,.int .i64 a0_4,.slice A0_5 l0_5.length c0_5,.int .i64 a0_6,.slice A0_7 l0_7.length c0_7],.int .i64 1048576] rfl (by (try simp only [mA,mC,mN]);first|done|rfl|(simp only [List.length_drop,List.length_take];rfl)) ?_;(with_reducible refine (laws_szSparse.calls a0_0 a0_1 a0_2 a0_3 a0_4 _ _ l0_5 a0_6 _ _ l0_7 1048576 t455 _ ?side1 ?side2 ?side3 ?side4 A3.out).mono ?_);(case side1=>exact kC (Kd.C_below HR0_5.out HB.out));(case side2=>exact HC0_5.out);(case side3=>exact kC (Kd.C_below HR0_7.out HB.out));(case side4=>exact HC0_7.out);rintro e w55 ⟨rfl,hb⟩;refine⟨_,rfl,?_⟩;replace BK454:=mk0 (kK BK454.out hb);replace HB:=mk0 (kS HB.out hb);(try clear hb);(try clear hb2);(try clear hk);(try clear hi);obtain⟨hcz56_0,hcz56_1,hcz56_2,hcz56_3,hcz56_4,hcz56_5,hcz56_6,hcz56_7,hfz56_0,hfz56_1,hfz56_2,hfz56_3,hfz56_4,hfz56_5,hfz56_6,hfz56_7⟩:=cz8 BK454.out)|((with_reducible refine gate_callee (f:=19) rfl ?_);refine goesL_ (some 15) rfl rfl Try.func19 (by kernel_rfl) rfl #[.agg #[.int .i64 a0_0,.int .i64 a0_1,.int .i64 a0_2,.int .i64 a0_3,.int .i64 a0_4,.slice A0_5 l0_5.length c0_5,.int .i64 a0_6,.slice A0_7 l0_7.length c0_7]] rfl (by (try simp only [mA,mC,mN]);first|done|rfl|(simp only [List.length_drop,List.length_take];rfl)) ?_;(with_reducible refine (laws_toSparse.calls k a0_0 a0_1 a0_2 a0_3 a0_4 _ _ l0_5 a0_6 _ _ l0_7 t456 t457 t458 t459 t460 t461 t464 t465 _ ?side1 ?side2 ?side3 ?side4 A8.out).mono ?_);(case side1=>exact kC (Kd.C_below HR0_5.out HB.out));(case side2=>exact HC0_5.out);(case side3=>exact kC (Kd.C_below HR0_7.out HB.out));(case side4=>exact HC0_7.out);rintro e w57 ⟨v462,v466,rfl,ho0,ho1,hb⟩;refine⟨_,rfl,?_⟩;have HO463:=mk0 (Kd.R_lower ho0 (kZ HB.out));have HO467:=mk0 (Kd.R_lower ho1 (kZ HB.out));replace BK454:=mk0 (kK BK454.out hb);replace HB:=mk0 (kS HB.out hb);(try clear hb);(try clear hb2);(try clear hk);(try clear hi);(try clear ho0);(try clear ho1);obtain⟨Ao58,co58,eo58⟩:=Kd.R_slice HO463.out;subst eo58;obtain⟨Ao59,co59,eo59⟩:=Kd.R_slice HO467.out;subst eo59)|((with_reducible refine gate_callee (f:=21) rfl ?_);refine goesL_ (some 17) rfl rfl Try.func21 (by kernel_rfl) rfl #[.agg #[.int .i64 t456,.int .i64 t457,.int .i64 t458,.int .i64 t459,.int .i64 t460,.slice Ao58 t461.length co58,.int .i64 t464,.slice Ao59 t465.length co59],.int .i64 a1] rfl (by (try simp only [mA,mC,mN]);first|done|rfl|(simp only [List.length_drop,List.length_take];rfl)) ?_;(with_reducible refine (spec_SparseHas.calls k t456 t457 t458 t459 t460 _ _ t461 t464 _ _ t465 a1 t468 _ ?side1 ?side2 ?side3 ?side4 A9.out).mono ?_);(case side1=>exact kC (Kd.R_reads' HO463.out).2.2);(case side2=>exact (Kd.R_reads' HO463.out).2.1);(case side3=>exact kC (Kd.R_reads' HO467.out).2.2);(case side4=>exact (Kd.R_reads' HO467.out).2.1);rintro e w60 ⟨rfl,hb⟩;refine⟨_,rfl,?_⟩;replace HO463:=mk0 (bR HO463.out hb);replace HO467:=mk0 (bR HO467.out hb);replace BK454:=mk0 (kK BK454.out hb);replace HB:=mk0 (kS HB.out hb);(try clear hb);(try clear hb2);(try clear hk);(try clear hi);obtain⟨hcz61_0,hcz61_1,hcz61_2,hcz61_3,hcz61_4,hcz61_5,hcz61_6,hcz61_7,hfz61_0,hfz61_1,hfz61_2,hfz61_3,hfz61_4,hfz61_5,hfz61_6,hfz61_7⟩:=cz8 BK454.out)|((with_reducible refine gate_callee (f:=19) rfl ?_);refine goesL_ (some 19) rfl rfl Try.func19 (by kernel_rfl) rfl #[.agg #[.int .i64 a0_0,.int .i64 a0_1,.int .i64 a0_2,.int .i64 a0_3,.int .i64 a0_4,.slice A0_5 l0_5.length c0_5,.int .i64 a0_6,.slice A0_7 l0_7.length c0_7]] rfl (by (try simp only [mA,mC,mN]);first|done|rfl|(simp only [List.length_drop,List.length_take];rfl)) ?_;(with_reducible refine (laws_toSparse.calls k a0_0 a0_1 a0_2 a0_3 a0_4 _ _ l0_5 a0_6 _ _ l0_7 t469 t470 t471 t472 t473 t474 t477 t478 _ ?side1 ?side2 ?side3 ?side4 A10.out).mono ?_);(case side1=>exact kC (Kd.C_below HR0_5.out HB.out));(case side2=>exact HC0_5.out);(case side3=>exact kC (Kd.C_below HR0_7.out HB.out));(case side4=>exact HC0_7.out);rintro e w62 ⟨v475,v479,rfl,ho0,ho1,hb⟩;refine⟨_,rfl,?_⟩;have HO476:=mk0 (Kd.R_lower (Kd.R_new' (Kd.R_new' ho0 (Kd.R_lt (rR HO463.out))) (Kd.R_lt (rR HO467.out))) (kZ HB.out));have HO480:=mk0 (Kd.R_lower (Kd.R_new' (Kd.R_new' ho1 (Kd.R_lt (rR HO463.out))) (Kd.R_lt (rR HO467.out))) (kZ HB.out));replace HO463:=mk0 (Kd.R_mono (Kd.R_told (Kd.R_told (Kd.R_old (rR HO463.out) hb) (Kd.R_base ho0)) (Kd.R_base ho1)) (fun _ h_=>h_.1));replace HO467:=mk0 (Kd.R_mono (Kd.R_told (Kd.R_told (Kd.R_old (rR HO467.out) hb) (Kd.R_base ho0)) (Kd.R_base ho1)) (fun _ h_=>h_.1));replace BK454:=mk0 (kK BK454.out hb);replace HB:=mk0 (kS HB.out hb);(try clear hb);(try clear hb2);(try clear hk);(try clear hi);(try clear ho0);(try clear ho1))|((with_reducible refine gate_dst (N:=7) rfl ?_);refine box_event ?hg (N:=7) ?hd (cs:=#[.int .i64 0,.int .i64 0,.int .i64 0,.int .i64 0,.int .i64 0,.slice none 0 0,.int .i64 0,.slice none 0 0]) (t:=33) ?hr ?_;(case hd=>rfl);(case hg=>rfl);(case hr=>first|(go_simp;done)|(go_simp;rfl));intro gb481 hg w63 hbox hb;replace HO463:=mk0 (bR HO463.out hb);replace HO467:=mk0 (bR HO467.out hb);replace HO476:=mk0 (bR HO476.out hb);replace HO480:=mk0 (bR HO480.out hb);have BK481:=mk0 (hbox);have GW481:=mk0 ((by rw [hg];exact (kZ HB.out):w.heap.size ≤ gb481));have GE481:=mk0 ((by rw [hg];exact (kZ HB.out):w.heap.size ≤ gb481));replace HB:=mk0 (kS HB.out hb);have NB454_481:=mk0 ((by rw [hg];exact Nat.ne_of_lt (kL BK454.out):gb454 ≠ gb481));have NB481_454:=mk0 ((by rw [hg];exact Nat.ne_of_gt (kL BK454.out):gb481 ≠ gb454));replace BK454:=mk0 (kK BK454.out hb);clear hb hbox hg;have hnb64:=NB481_454.out;have hnc64:=NB454_481.out;obtain⟨hcz65_0,hcz65_1,hcz65_2,hcz65_3,hcz65_4,hcz65_5,hcz65_6,hcz65_7,hfz65_0,hfz65_1,hfz65_2,hfz65_3,hfz65_4,hfz65_5,hfz65_6,hfz65_7⟩:=cz8 BK481.out;obtain⟨Ao66,co66,eo66⟩:=Kd.R_slice HO476.out;subst eo66;obtain⟨Ao67,co67,eo67⟩:=Kd.R_slice HO480.out;subst eo67)|((with_reducible refine gate_callee (f:=16) rfl ?_);refine goesL_ (some 22) rfl rfl Try.func16 (by kernel_rfl) rfl #[.agg #[.int .i64 t469,.int .i64 t470,.int .i64 t471,.int .i64 t472,.int .i64 t473,.slice Ao66 t474.length co66,.int .i64 t477,.slice Ao67 t478.length co67],.int .i64 a1] rfl (by (try simp only [mA,mC,mN]);first|done|rfl|(simp only [List.length_drop,List.length_take];rfl)) ?_;(with_reducible refine (impl_SparseHas.calls k t469 t470 t471 t472 t473 _ _ t474 t477 _ _ t478 a1 t482 _ ?side1 ?side2 ?side3 ?side4 A11.out).mono ?_);(case side1=>refine (Kd.R_reads' (e:=78) (base:=w.heap.size) (ok:=fun k_=>((some k_ ≠ (.slice Ao67 t478.length co67:Value).ownBlock ∧ some k_ ≠ (.slice Ao58 t461.length co58:Value).ownBlock) ∧ some k_ ≠ (.slice Ao59 t465.length co59:Value).ownBlock)) (n:=t474.length) (c:=co66) ?_).2.2;exact (by (with_reducible repeat (first|apply aR|apply nR|apply dR));exact (Kd.R_mono (Kd.R_far (p:=⟨gb481,7,none⟩) (Kd.R_far (p:=⟨gb481,6,none⟩) (Kd.R_far (p:=⟨gb481,5,none⟩) (Kd.R_far (p:=⟨gb481,4,none⟩) (Kd.R_far (p:=⟨gb481,3,none⟩) (Kd.R_far (p:=⟨gb481,2,none⟩) (Kd.R_far (p:=⟨gb481,1,none⟩) (Kd.R_far (p:=⟨gb481,0,none⟩) (Kd.R_types HO476.out BK481.out (by decide)) (fun _ hk=>hk.2) (.int .i64 t469)) (fun _ hk=>hk.2) (.int .i64 t470)) (fun _ hk=>hk.2) (.int .i64 t471)) (fun _ hk=>hk.2) (.int .i64 t472)) (fun _ hk=>hk.2) (.int .i64 t473)) (fun _ hk=>hk.2) (.slice Ao66 t474.length co66)) (fun _ hk=>hk.2) (.int .i64 t477)) (fun _ hk=>hk.2) (.slice Ao67 t478.length co67)) (fun _ h_=>h_.1))));(case side2=>exact (Kd.R_reads' HO476.out).2.1);(case side3=>refine (Kd.R_reads' (e:=78) (base:=w.heap.size) (ok:=fun k_=>((some k_ ≠ (.slice Ao66 t474.length co66:Value).ownBlock ∧ some k_ ≠ (.slice Ao58 t461.length co58:Value).ownBlock) ∧ some k_ ≠ (.slice Ao59 t465.length co59:Value).ownBlock)) (n:=t478.length) (c:=co67) ?_).2.2;exact (by (with_reducible repeat (first|apply aR|apply nR|apply dR));exact (Kd.R_mono (Kd.R_far (p:=⟨gb481,7,none⟩) (Kd.R_far (p:=⟨gb481,6,none⟩) (Kd.R_far (p:=⟨gb481,5,none⟩) (Kd.R_far (p:=⟨gb481,4,none⟩) (Kd.R_far (p:=⟨gb481,3,none⟩) (Kd.R_far (p:=⟨gb481,2,none⟩) (Kd.R_far (p:=⟨gb481,1,none⟩) (Kd.R_far (p:=⟨gb481,0,none⟩) (Kd.R_types HO480.out BK481.out (by decide)) (fun _ hk=>hk.2) (.int .i64 t469)) (fun _ hk=>hk.2) (.int .i64 t470)) (fun _ hk=>hk.2) (.int .i64 t471)) (fun _ hk=>hk.2) (.int .i64 t472)) (fun _ hk=>hk.2) (.int .i64 t473)) (fun _ hk=>hk.2) (.slice Ao66 t474.length co66)) (fun _ hk=>hk.2) (.int .i64 t477)) (fun _ hk=>hk.2) (.slice Ao67 t478.length co67)) (fun _ h_=>h_.1))));(case side4=>exact (Kd.R_reads' HO480.out).2.1);rintro e w68 ⟨rfl,hb⟩;refine⟨_,rfl,?_⟩;replace HO463:=mk0 (Kd.R_below (by (with_reducible repeat (first|apply aR|apply nR|apply dR));exact (Kd.R_mono (Kd.R_far (p:=⟨gb481,7,none⟩) (Kd.R_far (p:=⟨gb481,6,none⟩) (Kd.R_far (p:=⟨gb481,5,none⟩) (Kd.R_far (p:=⟨gb481,4,none⟩) (Kd.R_far (p:=⟨gb481,3,none⟩) (Kd.R_far (p:=⟨gb481,2,none⟩) (Kd.R_far (p:=⟨gb481,1,none⟩) (Kd.R_far (p:=⟨gb481,0,none⟩) (Kd.R_types HO463.out BK481.out (by decide)) (fun _ hk=>hk.2) (.int .i64 t469)) (fun _ hk=>hk.2) (.int .i64 t470)) (fun _ hk=>hk.2) (.int .i64 t471)) (fun _ hk=>hk.2) (.int .i64 t472)) (fun _ hk=>hk.2) (.int .i64 t473)) (fun _ hk=>hk.2) (.slice Ao66 t474.length co66)) (fun _ hk=>hk.2) (.int .i64 t477)) (fun _ hk=>hk.2) (.slice Ao67 t478.length co67)) (fun _ h_=>h_.1))) hb);replace HO467:=mk0 (Kd.R_below (by (with_reducible repeat (first|apply aR|apply nR|apply dR));exact (Kd.R_mono (Kd.R_far (p:=⟨gb481,7,none⟩) (Kd.R_far (p:=⟨gb481,6,none⟩) (Kd.R_far (p:=⟨gb481,5,none⟩) (Kd.R_far (p:=⟨gb481,4,none⟩) (Kd.R_far (p:=⟨gb481,3,none⟩) (Kd.R_far (p:=⟨gb481,2,none⟩) (Kd.R_far (p:=⟨gb481,1,none⟩) (Kd.R_far (p:=⟨gb481,0,none⟩) (Kd.R_types HO467.out BK481.out (by decide)) (fun _ hk=>hk.2) (.int .i64 t469)) (fun _ hk=>hk.2) (.int .i64 t470)) (fun _ hk=>hk.2) (.int .i64 t471)) (fun _ hk=>hk.2) (.int .i64 t472)) (fun _ hk=>hk.2) (.int .i64 t473)) (fun _ hk=>hk.2) (.slice Ao66 t474.length co66)) (fun _ hk=>hk.2) (.int .i64 t477)) (fun _ hk=>hk.2) (.slice Ao67 t478.length co67)) (fun _ h_=>h_.1))) hb);replace HO476:=mk0 (Kd.R_below (by (with_reducible repeat (first|apply aR|apply nR|apply dR));exact (Kd.R_mono (Kd.R_far (p:=⟨gb481,7,none⟩) (Kd.R_far (p:=⟨gb481,6,none⟩) (Kd.R_far (p:=⟨gb481,5,none⟩) (Kd.R_far (p:=⟨gb481,4,none⟩) (Kd.R_far (p:=⟨gb481,3,none⟩) (Kd.R_far (p:=⟨gb481,2,none⟩) (Kd.R_far (p:=⟨gb481,1,none⟩) (Kd.R_far (p:=⟨gb481,0,none⟩) (Kd.R_types HO476.out BK481.out (by decide)) (fun _ hk=>hk.2) (.int .i64 t469)) (fun _ hk=>hk.2) (.int .i64 t470)) (fun _ hk=>hk.2) (.int .i64 t471)) (fun _ hk=>hk.2) (.int .i64 t472)) (fun _ hk=>hk.2) (.int .i64 t473)) (fun _ hk=>hk.2) (.slice Ao66 t474.length co66)) (fun _ hk=>hk.2) (.int .i64 t477)) (fun _ hk=>hk.2) (.slice Ao67 t478.length co67)) (fun _ h_=>h_.1))) hb);replace HO480:=mk0 (Kd.R_below (by (with_reducible repeat (first|apply aR|apply nR|apply dR));exact (Kd.R_mono (Kd.R_far (p:=⟨gb481,7,none⟩) (Kd.R_far (p:=⟨gb481,6,none⟩) (Kd.R_far (p:=⟨gb481,5,none⟩) (Kd.R_far (p:=⟨gb481,4,none⟩) (Kd.R_far (p:=⟨gb481,3,none⟩) (Kd.R_far (p:=⟨gb481,2,none⟩) (Kd.R_far (p:=⟨gb481,1,none⟩) (Kd.R_far (p:=⟨gb481,0,none⟩) (Kd.R_types HO480.out BK481.out (by decide)) (fun _ hk=>hk.2) (.int .i64 t469)) (fun _ hk=>hk.2) (.int .i64 t470)) (fun _ hk=>hk.2) (.int .i64 t471)) (fun _ hk=>hk.2) (.int .i64 t472)) (fun _ hk=>hk.2) (.int .i64 t473)) (fun _ hk=>hk.2) (.slice Ao66 t474.length co66)) (fun _ hk=>hk.2) (.int .i64 t477)) (fun _ hk=>hk.2) (.slice Ao67 t478.length co67)) (fun _ h_=>h_.1))) hb);replace BK454:=mk0 (blk_below (g:=gb454) (o:=.cells #[.int .i64 a0_0,.int .i64 a0_1,.int .i64 a0_2,.int .i64 a0_3,.int .i64 a0_4,.slice A0_5 l0_5.length c0_5,.int .i64 a0_6,.slice A0_7 l0_7.length c0_7] 45 (0,0)) (by (with_reducible repeat (first|apply nB|apply dB|apply aB));refine blk_far ?_ NB454_481.out _;(with_reducible repeat (first|apply nB|apply dB|apply aB));refine blk_far ?_ NB454_481.out _;(with_reducible repeat (first|apply nB|apply dB|apply aB));refine blk_far ?_ NB454_481.out _;(with_reducible repeat (first|apply nB|apply dB|apply aB));refine blk_far ?_ NB454_481.out _;(with_reducible repeat (first|apply nB|apply dB|apply aB));refine blk_far ?_ NB454_481.out _;(with_reducible repeat (first|apply nB|apply dB|apply aB));refine blk_far ?_ NB454_481.out _;(with_reducible repeat (first|apply nB|apply dB|apply aB));refine blk_far ?_ NB454_481.out _;(with_reducible repeat (first|apply nB|apply dB|apply aB));refine blk_far ?_ NB454_481.out _;(with_reducible repeat (first|apply nB|apply dB|apply aB));exact BK454.out) hb);replace BK481:=mk0 (blk_below (g:=gb481) (o:=.cells #[.int .i64 t469,.int .i64 t470,.int .i64 t471,.int .i64 t472,.int .i64 t473,.slice Ao66 t474.length co66,.int .i64 t477,.slice Ao67 t478.length co67] 33 (0,0)) (by (with_reducible repeat (first|apply nB|apply dB|apply aB));refine blk_put (cs:=#[.int .i64 t469,.int .i64 t470,.int .i64 t471,.int .i64 t472,.int .i64 t473,.slice Ao66 t474.length co66,.int .i64 t477,.slice none 0 0]) ?_ 7 _ rfl;(with_reducible repeat (first|apply nB|apply dB|apply aB));refine blk_put (cs:=#[.int .i64 t469,.int .i64 t470,.int .i64 t471,.int .i64 t472,.int .i64 t473,.slice Ao66 t474.length co66,.int .i64 0,.slice none 0 0]) ?_ 6 _ rfl;(with_reducible repeat (first|apply nB|apply dB|apply aB));refine blk_put (cs:=#[.int .i64 t469,.int .i64 t470,.int .i64 t471,.int .i64 t472,.int .i64 t473,.slice none 0 0,.int .i64 0,.slice none 0 0]) ?_ 5 _ rfl;(with_reducible repeat (first|apply nB|apply dB|apply aB));refine blk_put (cs:=#[.int .i64 t469,.int .i64 t470,.int .i64 t471,.int .i64 t472,.int .i64 0,.slice none 0 0,.int .i64 0,.slice none 0 0]) ?_ 4 _ rfl;(with_reducible repeat (first|apply nB|apply dB|apply aB));refine blk_put (cs:=#[.int .i64 t469,.int .i64 t470,.int .i64 t471,.int .i64 0,.int .i64 0,.slice none 0 0,.int .i64 0,.slice none 0 0]) ?_ 3 _ rfl;(with_reducible repeat (first|apply nB|apply dB|apply aB));refine blk_put (cs:=#[.int .i64 t469,.int .i64 t470,.int .i64 0,.int .i64 0,.int .i64 0,.slice none 0 0,.int .i64 0,.slice none 0 0]) ?_ 2 _ rfl;(with_reducible repeat (first|apply nB|apply dB|apply aB));refine blk_put (cs:=#[.int .i64 t469,.int .i64 0,.int .i64 0,.int .i64 0,.int .i64 0,.slice none 0 0,.int .i64 0,.slice none 0 0]) ?_ 1 _ rfl;(with_reducible repeat (first|apply nB|apply dB|apply aB));refine blk_put (cs:=#[.int .i64 0,.int .i64 0,.int .i64 0,.int .i64 0,.int .i64 0,.slice none 0 0,.int .i64 0,.slice none 0 0]) ?_ 0 _ rfl;(with_reducible repeat (first|apply nB|apply dB|apply aB));exact BK481.out) hb);replace HB:=mk0 (kS HB.out hb);(try clear hb);(try clear hb2);(try clear hk);(try clear hi)))
 replace HO463:=mk0 (dR HO463.out)
 replace HO467:=mk0 (dR HO467.out)
 replace HO476:=mk0 (dR HO476.out)
 replace HO480:=mk0 (dR HO480.out)
 replace BK454:=mk0 (dB BK454.out)
 replace BK481:=mk0 (dB BK481.out)
 replace HB:=mk0 (dZ HB.out)
 refine start_ (n:=5) (S:=fun w'=>w'.cell? ⟨gb481,0,none⟩ = some (.int .i64 t469) ∧ w'.cell? ⟨gb481,1,none⟩ = some (.int .i64 t470) ∧ w'.cell? ⟨gb481,2,none⟩ = some (.int .i64 t471) ∧ w'.cell? ⟨gb481,3,none⟩ = some (.int .i64 t472) ∧ w'.cell? ⟨gb481,4,none⟩ = some (.int .i64 t473) ∧ w'.cell? ⟨gb481,5,none⟩ = some (.slice Ao66 t474.length co66) ∧ w'.cell? ⟨gb481,6,none⟩ = some (.int .i64 t477) ∧ w'.cell? ⟨gb481,7,none⟩ = some (.slice Ao67 t478.length co67) ∧ w'.cell? ⟨gb454,0,none⟩ = some (.int .i64 a0_0) ∧ w'.cell? ⟨gb454,1,none⟩ = some (.int .i64 a0_1) ∧ w'.cell? ⟨gb454,2,none⟩ = some (.int .i64 a0_2) ∧ w'.cell? ⟨gb454,3,none⟩ = some (.int .i64 a0_3) ∧ w'.cell? ⟨gb454,4,none⟩ = some (.int .i64 a0_4) ∧ w'.cell? ⟨gb454,5,none⟩ = some (.slice A0_5 l0_5.length c0_5) ∧ w'.cell? ⟨gb454,6,none⟩ = some (.int .i64 a0_6) ∧ w'.cell? ⟨gb454,7,none⟩ = some (.slice A0_7 l0_7.length c0_7)) (ds:=[]) #[false,false,false,false,false] (by kernel_rfl) rfl rfl ⟨(blk_cell BK481.out 0).trans rfl,(blk_cell BK481.out 1).trans rfl,(blk_cell BK481.out 2).trans rfl,(blk_cell BK481.out 3).trans rfl,(blk_cell BK481.out 4).trans rfl,(blk_cell BK481.out 5).trans rfl,(blk_cell BK481.out 6).trans rfl,(blk_cell BK481.out 7).trans rfl,(blk_cell BK454.out 0).trans rfl,(blk_cell BK454.out 1).trans rfl,(blk_cell BK454.out 2).trans rfl,(blk_cell BK454.out 3).trans rfl,(blk_cell BK454.out 4).trans rfl,(blk_cell BK454.out 5).trans rfl,(blk_cell BK454.out 6).trans rfl,(blk_cell BK454.out 7).trans rfl⟩ (fun hHeld=>?_)
 generalize w68.drew = w69 at HO463 HO467 HO476 HO480 BK454 BK481 HB hHeld ⊢
 refine take_ (i:=0) (N:=some 26) (v:=?_) (a':=?_) #[true,false,false,false,false] rfl rfl (by kernel_rfl) (fun _ _ _ h=>h) (Or.inl ⟨by rfl,?_⟩) hHeld ?_ ?_
 rotate_left
 ·rintro w' ⟨s0,s1,s2,s3,s4,s5,s6,s7,s8,s9,s10,s11,s12,s13,s14,s15⟩
  go_simp
  with_reducible rfl
 rotate_left
 ·simp only [Act.put,sA,sO,sS,i64_w,i32_w]
  rfl
 refine take_ (i:=1) (N:=some 27) (v:=?_) (a':=?_) #[true,true,false,false,false] rfl rfl (by kernel_rfl) (fun _ _ _ h=>h) (Or.inl ⟨by rfl,?_⟩) hHeld ?_ ?_
 rotate_left
 ·rintro w' ⟨s0,s1,s2,s3,s4,s5,s6,s7,s8,s9,s10,s11,s12,s13,s14,s15⟩
  go_simp
  with_reducible rfl
 rotate_left
 ·simp only [Act.put,sA,sO,sS,i64_w,i32_w]
  rfl
 refine one_ (i:=2) (N:=some 28) #[true,true,true,false,false] rfl rfl (by kernel_rfl) (by decide) (fun K hK=>?_)
 refine goes_ Try.func19 (by kernel_rfl) rfl #[.agg #[.int .i64 a0_0,.int .i64 a0_1,.int .i64 a0_2,.int .i64 a0_3,.int .i64 a0_4,.slice A0_5 l0_5.length c0_5,.int .i64 a0_6,.slice A0_7 l0_7.length c0_7]] (by rfl) rfl rfl (by (try simp only [mA,mC,mN]);first|done|rfl|(simp only [List.length_drop,List.length_take];rfl)) ?_
 with_reducible refine (laws_toSparse.calls k a0_0 a0_1 a0_2 a0_3 a0_4 _ _ l0_5 a0_6 _ _ l0_7 t483 t484 t485 t486 t487 t488 t491 t492 _ ?side1 ?side2 ?side3 ?side4 A29.out).mono ?_
 (case side1=>exact kC (Kd.C_below HR0_5.out HB.out))
 (case side2=>exact HC0_5.out)
 (case side3=>exact kC (Kd.C_below HR0_7.out HB.out))
 (case side4=>exact HC0_7.out)
 rintro e w70 ⟨v489,v493,rfl,ho0,ho1,hb⟩
 refine⟨_,rfl,?_⟩
 have HO490:=mk0 (Kd.R_lower (Kd.R_new' (Kd.R_new' (Kd.R_new' (Kd.R_new' ho0 (Kd.R_lt (rR HO463.out))) (Kd.R_lt (rR HO467.out))) (Kd.R_lt (rR HO476.out))) (Kd.R_lt (rR HO480.out))) (kZ HB.out))
 have HO494:=mk0 (Kd.R_lower (Kd.R_new' (Kd.R_new' (Kd.R_new' (Kd.R_new' ho1 (Kd.R_lt (rR HO463.out))) (Kd.R_lt (rR HO467.out))) (Kd.R_lt (rR HO476.out))) (Kd.R_lt (rR HO480.out))) (kZ HB.out))
 replace HO463:=mk0 (Kd.R_mono (Kd.R_told (Kd.R_told (Kd.R_old (rR HO463.out) hb) (Kd.R_base ho0)) (Kd.R_base ho1)) (fun _ h_=>h_.1))
 replace HO467:=mk0 (Kd.R_mono (Kd.R_told (Kd.R_told (Kd.R_old (rR HO467.out) hb) (Kd.R_base ho0)) (Kd.R_base ho1)) (fun _ h_=>h_.1))
 replace HO476:=mk0 (Kd.R_mono (Kd.R_told (Kd.R_told (Kd.R_old (rR HO476.out) hb) (Kd.R_base ho0)) (Kd.R_base ho1)) (fun _ h_=>h_.1))
 replace HO480:=mk0 (Kd.R_mono (Kd.R_told (Kd.R_told (Kd.R_old (rR HO480.out) hb) (Kd.R_base ho0)) (Kd.R_base ho1)) (fun _ h_=>h_.1))
 replace BK454:=mk0 (kK BK454.out hb)
 replace BK481:=mk0 (kK BK481.out hb)
 replace HB:=mk0 (kS HB.out hb)
 (try clear hb)
 (try clear hb2)
 (try clear hk)
 (try clear hi)
 (try clear ho0)
 (try clear ho1)
 obtain⟨Ao71,co71,eo71⟩:=Kd.R_slice HO490.out
 (first|subst eo71|(injection eo71 with f1_ f2_ f3_;have f4_:=f1_.symm;have f5_:=f3_.symm;clear f1_ f2_ f3_;subst f4_;subst f5_))
 obtain⟨Ao72,co72,eo72⟩:=Kd.R_slice HO494.out
 (first|subst eo72|(injection eo72 with f1_ f2_ f3_;have f4_:=f1_.symm;have f5_:=f3_.symm;clear f1_ f2_ f3_;subst f4_;subst f5_))
 refine hK.out _ _ ⟨(blk_cell BK481.out 0).trans rfl,(blk_cell BK481.out 1).trans rfl,(blk_cell BK481.out 2).trans rfl,(blk_cell BK481.out 3).trans rfl,(blk_cell BK481.out 4).trans rfl,(blk_cell BK481.out 5).trans rfl,(blk_cell BK481.out 6).trans rfl,(blk_cell BK481.out 7).trans rfl,(blk_cell BK454.out 0).trans rfl,(blk_cell BK454.out 1).trans rfl,(blk_cell BK454.out 2).trans rfl,(blk_cell BK454.out 3).trans rfl,(blk_cell BK454.out 4).trans rfl,(blk_cell BK454.out 5).trans rfl,(blk_cell BK454.out 6).trans rfl,(blk_cell BK454.out 7).trans rfl⟩ (fun hHeld=>?_)
 clear hK K
 refine norm_ (a':=?_) ?_ ?_
 rotate_left
 ·show Act.put _ (some 28) _ = _
  simp only [Act.put,sA,sO,sS,i64_w,i32_w]
  rfl
 refine one_ (i:=3) (N:=some 29) #[true,true,true,true,false] rfl rfl (by kernel_rfl) (by decide) (fun K hK=>?_)
 refine goes_ Try.func20 (by kernel_rfl) rfl #[.agg #[.int .i64 t469,.int .i64 t470,.int .i64 t471,.int .i64 t472,.int .i64 t473,.slice Ao66 t474.length co66,.int .i64 t477,.slice Ao67 t478.length co67],.agg #[.int .i64 t483,.int .i64 t484,.int .i64 t485,.int .i64 t486,.int .i64 t487,.slice Ao71 t488.length co71,.int .i64 t491,.slice Ao72 t492.length co72]] (by rfl) rfl rfl (by (try simp only [mA,mC,mN]);first|done|rfl|(simp only [List.length_drop,List.length_take];rfl)) ?_
 with_reducible refine (laws_eqSparse.calls k t469 t470 t471 t472 t473 _ _ t474 t477 _ _ t478 t483 t484 t485 t486 t487 _ _ t488 t491 _ _ t492 false _ ?side1 ?side2 ?side3 ?side4 ?side5 ?side6 ?side7 ?side8 A30.out).mono ?_
 (case side1=>exact kC (Kd.R_reads' HO476.out).2.2)
 (case side2=>exact (Kd.R_reads' HO476.out).2.1)
 (case side3=>exact kC (Kd.R_reads' HO480.out).2.2)
 (case side4=>exact (Kd.R_reads' HO480.out).2.1)
 (case side5=>exact kC (Kd.R_reads' HO490.out).2.2)
 (case side6=>exact (Kd.R_reads' HO490.out).2.1)
 (case side7=>exact kC (Kd.R_reads' HO494.out).2.2)
 (case side8=>exact (Kd.R_reads' HO494.out).2.1)
 rintro e w73 ⟨rfl,hb⟩
 refine⟨_,rfl,?_⟩
 replace HO463:=mk0 (bR HO463.out hb)
 replace HO467:=mk0 (bR HO467.out hb)
 replace HO476:=mk0 (bR HO476.out hb)
 replace HO480:=mk0 (bR HO480.out hb)
 replace HO490:=mk0 (bR HO490.out hb)
 replace HO494:=mk0 (bR HO494.out hb)
 replace BK454:=mk0 (kK BK454.out hb)
 replace BK481:=mk0 (kK BK481.out hb)
 replace HB:=mk0 (kS HB.out hb)
 (try clear hb)
 (try clear hb2)
 (try clear hk)
 (try clear hi)
 refine hK.out _ _ ⟨(blk_cell BK481.out 0).trans rfl,(blk_cell BK481.out 1).trans rfl,(blk_cell BK481.out 2).trans rfl,(blk_cell BK481.out 3).trans rfl,(blk_cell BK481.out 4).trans rfl,(blk_cell BK481.out 5).trans rfl,(blk_cell BK481.out 6).trans rfl,(blk_cell BK481.out 7).trans rfl,(blk_cell BK454.out 0).trans rfl,(blk_cell BK454.out 1).trans rfl,(blk_cell BK454.out 2).trans rfl,(blk_cell BK454.out 3).trans rfl,(blk_cell BK454.out 4).trans rfl,(blk_cell BK454.out 5).trans rfl,(blk_cell BK454.out 6).trans rfl,(blk_cell BK454.out 7).trans rfl⟩ (fun hHeld=>?_)
 clear hK K
 refine norm_ (a':=?_) ?_ ?_
 rotate_left
 ·show Act.put _ (some 29) _ = _
  simp only [Act.put,sA,sO,sS,i64_w,i32_w]
  rfl
 refine pure_ (i:=4) (N:=some 30) (v:=?_) (a':=?_) #[true,true,true,true,true] rfl rfl (by kernel_rfl) (fun _ _ _ h=>h) (Or.inl ⟨by rfl,?_⟩) ?_ ?_
 rotate_left
 ·intro w'
  go_simp
  with_reducible rfl
 rotate_left
 ·simp only [Act.put,sA,sO,sS,i64_w,i32_w]
  rfl
 refine done_ (by kernel_rfl) ?_
 try go_wp2
 go_ret
 exact⟨by first|rfl|(simp [errW_none,errW_some] <;> rfl)|(simp [*,errW_none,errW_some] <;> rfl),kB HB.out⟩

/-- The plain statement of laws_FnExactSparseHas. -/
def laws_FnExactSparseHas.Pure : Prop := ∀ (a0_0 : Int) (a0_1 : Int) (a0_2 : Int) (a0_3 : Int) (a0_4 : Int) (l0_5 : List Int) (a0_6 : Int) (l0_7 : List Int) (a1 : Int), ok45 ((⟨a0_0, a0_1, (⟨a0_2, a0_3, (⟨a0_4, l0_5⟩ : S41)⟩ : S43), (⟨a0_6, l0_7⟩ : S41)⟩ : S45)) → (Fv.OkI .i64) a1 → ∃ k, laws_FnExactSparseHas.f k a0_0 a0_1 a0_2 a0_3 a0_4 l0_5 a0_6 l0_7 a1 = some true

end Go.Proofs.Ytmohfjfgpeapfaa.QFnExactSparseHas
