-- A walk, made by walk.py, a program of this session's.
import Derived.Test.YtmohfjfgpeapfaaQFnExactSparseRankx0
import Derived.Test.YtmohfjfgpeapfaaQFnExactSparseRankx5
import Derived.Test.YtmohfjfgpeapfaaQFnExactSparseRankx6
import Derived.Test.YtmohfjfgpeapfaaQFnExactSparseRankx11
import Derived.Test.YtmohfjfgpeapfaaQFnExactSparseRankx12
namespace Go.Proofs.Ytmohfjfgpeapfaa.QFnExactSparseRank
open Go.RowKit Go.Proofs.YtmohfjfgpeapfaaW.PrintWords Go.Proofs.YtmohfjfgpeapfaaW.PrintLast Go.Proofs.YtmohfjfgpeapfaaW.PrintMore
attribute [local go_sem] max2_int min2_int max_two min_two max_three min_three max_four min_four   -- for this text's walks alone
set_option linter.unusedVariables false
set_option linter.unusedSimpArgs false

/-! ### spec_SparseRank: function 22 -/
def spec_SparseRank.l0 : Nat → Int → Int → Int → List Int → Option (Int)
 | 0, _, _, _, _ => none
 | k + 1, x1, x6, x7, x12 => if x7 < (x12.length : Int) then (if 0 ≤ x7 then (if (rd x12 x7) < x1 then (spec_SparseRank.l0 k x1 (wrap64 (x6 + 1)) (wrap64 (x7 + 1)) x12) else (spec_SparseRank.l0 k x1 x6 (wrap64 (x7 + 1)) x12)) else (none)) else (some x6)
def spec_SparseRank.f (k : Nat) (a0_0 : Int) (a0_1 : Int) (a0_2 : Int) (a0_3 : Int) (a0_4 : Int) (l0_5 : List Int) (a0_6 : Int) (l0_7 : List Int) (a1 : Int) : Option (Int) := (spec_SparseOk.f k a0_0 a0_1 a0_2 a0_3 a0_4 l0_5 a0_6 l0_7).bind fun t450 => (if t450 = true then ((spec_l03List.f k a0_0 a0_1 a0_2 a0_3 a0_4 l0_5 a0_6 l0_7).bind fun t451 => (spec_SparseRank.l0 k a1 0 0 t451)) else (some (-1)))
theorem spec_SparseRank.mono_l : ∀ k, (∀ y0 y1 y2 y3, LeO (spec_SparseRank.l0 k y0 y1 y2 y3) (spec_SparseRank.l0 (k + 1) y0 y1 y2 y3))
 | 0 => fun _ _ _ _ r h => by simp [spec_SparseRank.l0] at h
 | k + 1 => by
  have ih0 := spec_SparseRank.mono_l k
  ·intro y0 y1 y2 y3
   unfold spec_SparseRank.l0
   repeat' first|(with_reducible first|exact ih0 _ _ _ _|exact spec_SparseOk.mono _ _ _ _ _ _ _ _ _|exact spec_l03List.mono _ _ _ _ _ _ _ _ _|exact LeO.refl _|exact LeO.none _|refine LeO.ite ?_ ?_|refine LeO.bind ?_ (fun _ => ?_))|exact LeO.none _|refine LeO.ite ?_ ?_|refine LeO.bind ?_ (fun _ => ?_)
theorem spec_SparseRank.mono : ∀ a0 a1 a2 a3 a4 a5 a6 a7 a8 k, LeO (spec_SparseRank.f k a0 a1 a2 a3 a4 a5 a6 a7 a8) (spec_SparseRank.f (k + 1) a0 a1 a2 a3 a4 a5 a6 a7 a8) := by
 intro a0 a1 a2 a3 a4 a5 a6 a7 a8 k
 have ih0 := spec_SparseRank.mono_l k
 unfold spec_SparseRank.f
 repeat' first|(with_reducible first|exact ih0 _ _ _ _|exact spec_SparseOk.mono _ _ _ _ _ _ _ _ _|exact spec_l03List.mono _ _ _ _ _ _ _ _ _|exact LeO.refl _|exact LeO.none _|refine LeO.ite ?_ ?_|refine LeO.bind ?_ (fun _ => ?_))|exact LeO.none _|refine LeO.ite ?_ ?_|refine LeO.bind ?_ (fun _ => ?_)
set_option maxHeartbeats 8000000 in
set_option maxRecDepth 100000 in
theorem spec_SparseRank.calls (k : Nat) (a0_0 : Int) (a0_1 : Int) (a0_2 : Int) (a0_3 : Int) (a0_4 : Int) (A0_5 : Option Addr) (c0_5 : Nat) (l0_5 : List Int) (a0_6 : Int) (A0_7 : Option Addr) (c0_7 : Nat) (l0_7 : List Int) (a1 : Int) (r : Int) (w : World) (hr0_5 : Kd.C (Kd.int .u64) w A0_5 l0_5.length l0_5) (hc0_5 : l0_5.length ≤ c0_5) (hr0_7 : Kd.C (Kd.int .u64) w A0_7 l0_7.length l0_7) (hc0_7 : l0_7.length ≤ c0_7) (h : spec_SparseRank.f k a0_0 a0_1 a0_2 a0_3 a0_4 l0_5 a0_6 l0_7 a1 = some r) :
  Calls Try.prog 22 #[.agg #[.int .i64 a0_0, .int .i64 a0_1, .int .i64 a0_2, .int .i64 a0_3, .int .i64 a0_4, .slice A0_5 l0_5.length c0_5, .int .i64 a0_6, .slice A0_7 l0_7.length c0_7], .int .i64 a1] w fun e w' => e = .returned (.int .i64 r) ∧ Below w.heap.size w w' := by
 have hu33:=Try.underlying33
 have HR0_5:=mk0 hr0_5
 have HC0_5:=mk0 hc0_5
 clear hr0_5 hc0_5
 have HR0_7:=mk0 hr0_7
 have HC0_7:=mk0 hc0_7
 clear hr0_7 hc0_7
 have HB:=mk0 (Below.refl w.heap.size w)
 have H:((spec_SparseOk.f k a0_0 a0_1 a0_2 a0_3 a0_4 l0_5 a0_6 l0_7).bind fun t450=>(if t450 = true then ((spec_l03List.f k a0_0 a0_1 a0_2 a0_3 a0_4 l0_5 a0_6 l0_7).bind fun t451=>(spec_SparseRank.l0 k a1 0 0 t451)) else (some (-1)))) = some r:=h
 clear h
 replace H:=Option.bind_eq_some_iff.mp H
 obtain⟨t450,A30,H⟩:=H
 replace H:(if t450 = true then ((spec_l03List.f k a0_0 a0_1 a0_2 a0_3 a0_4 l0_5 a0_6 l0_7).bind fun t451=>(spec_SparseRank.l0 k a1 0 0 t451)) else (some (-1))) = some r:=H
 have A3:=mk0 A30
 clear A30
 by_cases c4:t450 = true
 rotate_left
 ·replace c4:=Bool.eq_false_iff.mpr c4
  subst c4
  have H1:(some (-1)) = some r:=by rw [if_neg (show ¬ (false = true) by decide)] at H;exact H
  clear H
  have H:=H1
  clear H1
  obtain rfl:=Option.some.inj H
  go_enter Try.func22,Try.ntmps22
  go_wp2_with (first|((with_reducible refine gate_dst (N:=2) rfl ?_);refine box_event ?hg (N:=2) ?hd (cs:=#[.int .i64 a0_0,.int .i64 a0_1,.int .i64 a0_2,.int .i64 a0_3,.int .i64 a0_4,.slice A0_5 l0_5.length c0_5,.int .i64 a0_6,.slice A0_7 l0_7.length c0_7]) (t:=33) ?hr ?_;(case hd=>rfl);(case hg=>rfl);(case hr=>first|(go_simp;done)|(go_simp;rfl));intro gb449 hg w17 hbox hb;have BK449:=mk0 (hbox);have GW449:=mk0 ((by rw [hg];exact (kZ HB.out):w.heap.size ≤ gb449));have GE449:=mk0 ((by rw [hg];exact (kZ HB.out):w.heap.size ≤ gb449));replace HB:=mk0 (kS HB.out hb);clear hb hbox hg;obtain⟨hcz18_0,hcz18_1,hcz18_2,hcz18_3,hcz18_4,hcz18_5,hcz18_6,hcz18_7,hfz18_0,hfz18_1,hfz18_2,hfz18_3,hfz18_4,hfz18_5,hfz18_6,hfz18_7⟩:=cz8 BK449.out)|((with_reducible refine gate_callee (f:=48) rfl ?_);refine goesL_ (some 9) rfl rfl Try.func48 (by kernel_rfl) rfl #[.agg #[.int .i64 a0_0,.int .i64 a0_1,.int .i64 a0_2,.int .i64 a0_3,.int .i64 a0_4,.slice A0_5 l0_5.length c0_5,.int .i64 a0_6,.slice A0_7 l0_7.length c0_7]] rfl (by (try simp only [mA,mC,mN]);first|done|rfl|(simp only [List.length_drop,List.length_take];rfl)) ?_;(with_reducible refine (spec_SparseOk.calls k a0_0 a0_1 a0_2 a0_3 a0_4 _ _ l0_5 a0_6 _ _ l0_7 false _ ?side1 ?side2 ?side3 ?side4 A3.out).mono ?_);(case side1=>exact kC (Kd.C_below HR0_5.out HB.out));(case side2=>exact HC0_5.out);(case side3=>exact kC (Kd.C_below HR0_7.out HB.out));(case side4=>exact HC0_7.out);rintro e w19 ⟨rfl,hb⟩;refine⟨_,rfl,?_⟩;replace BK449:=mk0 (kK BK449.out hb);replace HB:=mk0 (kS HB.out hb);(try clear hb)))
  go_ret
  exact⟨by first|rfl|(simp [errW_none,errW_some] <;> rfl)|(simp [*,errW_none,errW_some] <;> rfl),kB HB.out⟩

 subst c4
 have H1:((spec_l03List.f k a0_0 a0_1 a0_2 a0_3 a0_4 l0_5 a0_6 l0_7).bind fun t451=>(spec_SparseRank.l0 k a1 0 0 t451)) = some r:=by rw [if_pos rfl] at H;exact H
 clear H
 have H:=H1
 clear H1
 replace H:=Option.bind_eq_some_iff.mp H
 obtain⟨t451,A50,H⟩:=H
 replace H:(spec_SparseRank.l0 k a1 0 0 t451) = some r:=H
 have A5:=mk0 A50
 clear A50
 have H':=mk0 H
 clear H
 go_enter Try.func22,Try.ntmps22
 go_wp2_with (first|((with_reducible refine gate_dst (N:=2) rfl ?_);refine box_event ?hg (N:=2) ?hd (cs:=#[.int .i64 a0_0,.int .i64 a0_1,.int .i64 a0_2,.int .i64 a0_3,.int .i64 a0_4,.slice A0_5 l0_5.length c0_5,.int .i64 a0_6,.slice A0_7 l0_7.length c0_7]) (t:=33) ?hr ?_;(case hd=>rfl);(case hg=>rfl);(case hr=>first|(go_simp;done)|(go_simp;rfl));intro gb449 hg w6 hbox hb;have BK449:=mk0 (hbox);have GW449:=mk0 ((by rw [hg];exact (kZ HB.out):w.heap.size ≤ gb449));have GE449:=mk0 ((by rw [hg];exact (kZ HB.out):w.heap.size ≤ gb449));replace HB:=mk0 (kS HB.out hb);clear hb hbox hg;obtain⟨hcz7_0,hcz7_1,hcz7_2,hcz7_3,hcz7_4,hcz7_5,hcz7_6,hcz7_7,hfz7_0,hfz7_1,hfz7_2,hfz7_3,hfz7_4,hfz7_5,hfz7_6,hfz7_7⟩:=cz8 BK449.out)|((with_reducible refine gate_callee (f:=48) rfl ?_);refine goesL_ (some 9) rfl rfl Try.func48 (by kernel_rfl) rfl #[.agg #[.int .i64 a0_0,.int .i64 a0_1,.int .i64 a0_2,.int .i64 a0_3,.int .i64 a0_4,.slice A0_5 l0_5.length c0_5,.int .i64 a0_6,.slice A0_7 l0_7.length c0_7]] rfl (by (try simp only [mA,mC,mN]);first|done|rfl|(simp only [List.length_drop,List.length_take];rfl)) ?_;(with_reducible refine (spec_SparseOk.calls k a0_0 a0_1 a0_2 a0_3 a0_4 _ _ l0_5 a0_6 _ _ l0_7 true _ ?side1 ?side2 ?side3 ?side4 A3.out).mono ?_);(case side1=>exact kC (Kd.C_below HR0_5.out HB.out));(case side2=>exact HC0_5.out);(case side3=>exact kC (Kd.C_below HR0_7.out HB.out));(case side4=>exact HC0_7.out);rintro e w8 ⟨rfl,hb⟩;refine⟨_,rfl,?_⟩;replace BK449:=mk0 (kK BK449.out hb);replace HB:=mk0 (kS HB.out hb);(try clear hb);obtain⟨hcz9_0,hcz9_1,hcz9_2,hcz9_3,hcz9_4,hcz9_5,hcz9_6,hcz9_7,hfz9_0,hfz9_1,hfz9_2,hfz9_3,hfz9_4,hfz9_5,hfz9_6,hfz9_7⟩:=cz8 BK449.out)|((with_reducible refine gate_callee (f:=49) rfl ?_);refine goesL_ (some 12) rfl rfl Try.func49 (by kernel_rfl) rfl #[.agg #[.int .i64 a0_0,.int .i64 a0_1,.int .i64 a0_2,.int .i64 a0_3,.int .i64 a0_4,.slice A0_5 l0_5.length c0_5,.int .i64 a0_6,.slice A0_7 l0_7.length c0_7]] rfl (by (try simp only [mA,mC,mN]);first|done|rfl|(simp only [List.length_drop,List.length_take];rfl)) ?_;(with_reducible refine (spec_l03List.calls k a0_0 a0_1 a0_2 a0_3 a0_4 _ _ l0_5 a0_6 _ _ l0_7 t451 _ ?side1 ?side2 ?side3 ?side4 A5.out).mono ?_);(case side1=>exact kC (Kd.C_below HR0_5.out HB.out));(case side2=>exact HC0_5.out);(case side3=>exact kC (Kd.C_below HR0_7.out HB.out));(case side4=>exact HC0_7.out);rintro e w10 ⟨v452,rfl,ho0,hb⟩;refine⟨_,rfl,?_⟩;have HO453:=mk0 (Kd.R_lower ho0 (kZ HB.out));replace BK449:=mk0 (kK BK449.out hb);replace HB:=mk0 (kS HB.out hb);(try clear hb);(try clear ho0)))
 go_loopg [6,7] k (fun kq v6 v7 w'=>∃ (x6_1:Int) (x7_1:Int),v6 = .int .i64 x6_1 ∧ v7 = .int .i64 x7_1 ∧ Aside0 (spec_SparseRank.l0 kq a1 x6_1 x7_1 t451 = some r) ∧ Aside0 (kq ≤ k) ∧ Aside0 (Kd.R (Kd.int .i64) 3 w' w.heap.size (fun _=>True) v452 t451) ∧ Aside0 (w'.heap[gb449]? = some (.cells #[.int .i64 a0_0,.int .i64 a0_1,.int .i64 a0_2,.int .i64 a0_3,.int .i64 a0_4,(.slice A0_5 l0_5.length c0_5),.int .i64 a0_6,(.slice A0_7 l0_7.length c0_7)] 33 (0,0))) ∧ Aside0 (Below w.heap.size w w'))
 case atStart=>exact⟨(0),(0),(by first|rfl|(simp;done)|(simp [*];done)),(by first|rfl|(simp;done)|(simp [*];done)),H',⟨Nat.le_refl _⟩,⟨rR HO453.out⟩,⟨kN BK449.out⟩,⟨kB HB.out⟩⟩
 case round =>
  clear H'
  try clear c2
  try clear p2
  try clear c4
  try clear hcz7_0
  try clear hcz7_1
  try clear hcz7_2
  try clear hcz7_3
  try clear hcz7_4
  try clear hcz7_5
  try clear hcz7_6
  try clear hcz7_7
  try clear hcz9_0
  try clear hcz9_1
  try clear hcz9_2
  try clear hcz9_3
  try clear hcz9_4
  try clear hcz9_5
  try clear hcz9_6
  try clear hcz9_7
  try clear hfz7_0
  try clear hfz7_1
  try clear hfz7_2
  try clear hfz7_3
  try clear hfz7_4
  try clear hfz7_5
  try clear hfz7_6
  try clear hfz7_7
  try clear hfz9_0
  try clear hfz9_1
  try clear hfz9_2
  try clear hfz9_3
  try clear hfz9_4
  try clear hfz9_5
  try clear hfz9_6
  try clear hfz9_7
  obtain⟨x6_1,x7_1,rfl,rfl,HA,HK1,HO_12,BK449,HB⟩:=hrel
  cases gk with
  | zero=>exact absurd HA.out (by simp [spec_SparseRank.l0])
  | succ k1 =>
   have H:=HA.out
   clear HA
   simp only [spec_SparseRank.l0] at H
   by_cases c11:x7_1 < (t451.length:Int)
   rotate_left
   ·rw [if_neg c11] at H
    have c11b0:decide (x7_1 < (t451.length:Int)) = false:=decide_eq_false c11
    clear c11
    obtain rfl:=Option.some.inj H
    obtain⟨Ao16,co16,eo16⟩:=Kd.R_slice HO_12.out
    subst eo16
    go_wp2
    go_ret
    exact⟨by first|rfl|(simp [errW_none,errW_some] <;> rfl)|(simp [*,errW_none,errW_some] <;> rfl),kB HB.out⟩
   rw [if_pos c11] at H
   have c11b0:decide (x7_1 < (t451.length:Int)) = true:=decide_eq_true c11
   clear c11
   by_cases c12:0 ≤ x7_1
   rotate_left
   ·rw [if_neg c12] at H
    exact absurd H (by simp)
   rw [if_pos c12] at H
   have c12b0:decide (0 ≤ x7_1) = true:=decide_eq_true c12
   clear c12
   by_cases c13:(rd t451 x7_1) < a1
   rotate_left
   ·rw [if_neg c13] at H
    have c13b0:decide ((rd t451 x7_1) < a1) = false:=decide_eq_false c13
    clear c13
    have H':=mk0 H
    clear H
    obtain⟨Ao15,co15,eo15⟩:=Kd.R_slice HO_12.out
    subst eo15
    have p454:0 ≤ (x7_1:Int):=of_decide_eq_true (by first|(with_reducible assumption)|assumption)
    have q454:x7_1 < (t451.length:Int):=of_decide_eq_true (by first|(with_reducible assumption)|assumption)
    obtain⟨ad454,e454,hx454_0⟩:=Kd.at_int (Kd.R_reads' HO_12.out).2.2 x7_1 p454 q454
    cases e454
    replace p454:=eq_true p454
    replace q454:=eq_true q454
    go_wp2
    go_roundg k1
    case measure=>have:=HK1.out;omega
    case rel=>exact⟨(x6_1),(wrap64 (x7_1 + 1)),(by first|rfl|(simp;done)|(simp [*];done)),(by first|rfl|(simp;done)|(simp [*];done)),H',⟨by have:=HK1.out;omega⟩,⟨rR HO_12.out⟩,⟨kN BK449.out⟩,⟨kB HB.out⟩⟩
   rw [if_pos c13] at H
   have c13b0:decide ((rd t451 x7_1) < a1) = true:=decide_eq_true c13
   clear c13
   have H':=mk0 H
   clear H
   obtain⟨Ao14,co14,eo14⟩:=Kd.R_slice HO_12.out
   subst eo14
   have p454:0 ≤ (x7_1:Int):=of_decide_eq_true (by first|(with_reducible assumption)|assumption)
   have q454:x7_1 < (t451.length:Int):=of_decide_eq_true (by first|(with_reducible assumption)|assumption)
   obtain⟨ad454,e454,hx454_0⟩:=Kd.at_int (Kd.R_reads' HO_12.out).2.2 x7_1 p454 q454
   cases e454
   replace p454:=eq_true p454
   replace q454:=eq_true q454
   go_wp2
   go_roundg k1
   case measure=>have:=HK1.out;omega
   case rel=>exact⟨(wrap64 (x6_1 + 1)),(wrap64 (x7_1 + 1)),(by first|rfl|(simp;done)|(simp [*];done)),(by first|rfl|(simp;done)|(simp [*];done)),H',⟨by have:=HK1.out;omega⟩,⟨rR HO_12.out⟩,⟨kN BK449.out⟩,⟨kB HB.out⟩⟩
/-! ### laws_FnExactSparseRank: function 6 -/
def laws_FnExactSparseRank.f (k : Nat) (a0_0 : Int) (a0_1 : Int) (a0_2 : Int) (a0_3 : Int) (a0_4 : Int) (l0_5 : List Int) (a0_6 : Int) (l0_7 : List Int) (a1 : Int) : Option (Bool) := (laws_szSparse.f a0_0 a0_1 a0_2 a0_3 a0_4 l0_5 a0_6 l0_7 1048576).bind fun t456 => (if t456 < 0 then (some true) else ((laws_toSparse.f k a0_0 a0_1 a0_2 a0_3 a0_4 l0_5 a0_6 l0_7).bind fun bt457 => ((spec_SparseRank.f k bt457.1 bt457.2.1 bt457.2.2.1 bt457.2.2.2.1 bt457.2.2.2.2.1 bt457.2.2.2.2.2.1 bt457.2.2.2.2.2.2.1 bt457.2.2.2.2.2.2.2 a1).bind fun t469 => ((laws_toSparse.f k a0_0 a0_1 a0_2 a0_3 a0_4 l0_5 a0_6 l0_7).bind fun bt470 => ((impl_SparseRank.f k bt470.1 bt470.2.1 bt470.2.2.1 bt470.2.2.2.1 bt470.2.2.2.2.1 bt470.2.2.2.2.2.1 bt470.2.2.2.2.2.2.1 bt470.2.2.2.2.2.2.2 a1).bind fun t483 => (if t483 = t469 then ((laws_toSparse.f k a0_0 a0_1 a0_2 a0_3 a0_4 l0_5 a0_6 l0_7).bind fun bt484 => ((laws_eqSparse.f k bt470.1 bt470.2.1 bt470.2.2.1 bt470.2.2.2.1 bt470.2.2.2.2.1 bt470.2.2.2.2.2.1 bt470.2.2.2.2.2.2.1 bt470.2.2.2.2.2.2.2 bt484.1 bt484.2.1 bt484.2.2.1 bt484.2.2.2.1 bt484.2.2.2.2.1 bt484.2.2.2.2.2.1 bt484.2.2.2.2.2.2.1 bt484.2.2.2.2.2.2.2).bind fun t496 => (if t496 = true then (some true) else (some false)))) else (some false)))))))
theorem laws_FnExactSparseRank.mono : ∀ a0 a1 a2 a3 a4 a5 a6 a7 a8 k, LeO (laws_FnExactSparseRank.f k a0 a1 a2 a3 a4 a5 a6 a7 a8) (laws_FnExactSparseRank.f (k + 1) a0 a1 a2 a3 a4 a5 a6 a7 a8) := by
 intro a0 a1 a2 a3 a4 a5 a6 a7 a8 k
 unfold laws_FnExactSparseRank.f
 repeat' first|(with_reducible first|exact impl_SparseRank.mono _ _ _ _ _ _ _ _ _ _|exact laws_eqSparse.mono _ _ _ _ _ _ _ _ _ _ _ _ _ _ _ _ _|exact laws_toSparse.mono _ _ _ _ _ _ _ _ _|exact spec_SparseRank.mono _ _ _ _ _ _ _ _ _ _|exact LeO.refl _|exact LeO.none _|refine LeO.ite ?_ ?_|refine LeO.bind ?_ (fun _ => ?_))|exact LeO.none _|refine LeO.ite ?_ ?_|refine LeO.bind ?_ (fun _ => ?_)
set_option maxHeartbeats 8000000 in
set_option maxRecDepth 100000 in
theorem laws_FnExactSparseRank.calls (k : Nat) (a0_0 : Int) (a0_1 : Int) (a0_2 : Int) (a0_3 : Int) (a0_4 : Int) (A0_5 : Option Addr) (c0_5 : Nat) (l0_5 : List Int) (a0_6 : Int) (A0_7 : Option Addr) (c0_7 : Nat) (l0_7 : List Int) (a1 : Int) (r : Bool) (w : World) (hr0_5 : Kd.C (Kd.int .u64) w A0_5 l0_5.length l0_5) (hc0_5 : l0_5.length ≤ c0_5) (hr0_7 : Kd.C (Kd.int .u64) w A0_7 l0_7.length l0_7) (hc0_7 : l0_7.length ≤ c0_7) (h : laws_FnExactSparseRank.f k a0_0 a0_1 a0_2 a0_3 a0_4 l0_5 a0_6 l0_7 a1 = some r) :
  Calls Try.prog 6 #[.agg #[.int .i64 a0_0, .int .i64 a0_1, .int .i64 a0_2, .int .i64 a0_3, .int .i64 a0_4, .slice A0_5 l0_5.length c0_5, .int .i64 a0_6, .slice A0_7 l0_7.length c0_7], .int .i64 a1] w fun e w' => e = .returned (.bool r) ∧ Below w.heap.size w w' := by
 have hu45:=Try.underlying45
 have hu33:=Try.underlying33
 have HR0_5:=mk0 hr0_5
 have HC0_5:=mk0 hc0_5
 clear hr0_5 hc0_5
 have HR0_7:=mk0 hr0_7
 have HC0_7:=mk0 hc0_7
 clear hr0_7 hc0_7
 have HB:=mk0 (Below.refl w.heap.size w)
 have H:((laws_szSparse.f a0_0 a0_1 a0_2 a0_3 a0_4 l0_5 a0_6 l0_7 1048576).bind fun t456=>(if t456 < 0 then (some true) else ((laws_toSparse.f k a0_0 a0_1 a0_2 a0_3 a0_4 l0_5 a0_6 l0_7).bind fun bt457=>((spec_SparseRank.f k bt457.1 bt457.2.1 bt457.2.2.1 bt457.2.2.2.1 bt457.2.2.2.2.1 bt457.2.2.2.2.2.1 bt457.2.2.2.2.2.2.1 bt457.2.2.2.2.2.2.2 a1).bind fun t469=>((laws_toSparse.f k a0_0 a0_1 a0_2 a0_3 a0_4 l0_5 a0_6 l0_7).bind fun bt470=>((impl_SparseRank.f k bt470.1 bt470.2.1 bt470.2.2.1 bt470.2.2.2.1 bt470.2.2.2.2.1 bt470.2.2.2.2.2.1 bt470.2.2.2.2.2.2.1 bt470.2.2.2.2.2.2.2 a1).bind fun t483=>(if t483 = t469 then ((laws_toSparse.f k a0_0 a0_1 a0_2 a0_3 a0_4 l0_5 a0_6 l0_7).bind fun bt484=>((laws_eqSparse.f k bt470.1 bt470.2.1 bt470.2.2.1 bt470.2.2.2.1 bt470.2.2.2.2.1 bt470.2.2.2.2.2.1 bt470.2.2.2.2.2.2.1 bt470.2.2.2.2.2.2.2 bt484.1 bt484.2.1 bt484.2.2.1 bt484.2.2.2.1 bt484.2.2.2.2.1 bt484.2.2.2.2.2.1 bt484.2.2.2.2.2.2.1 bt484.2.2.2.2.2.2.2).bind fun t496=>(if t496 = true then (some true) else (some false)))) else (some false)))))))) = some r:=h
 clear h
 replace H:=Option.bind_eq_some_iff.mp H
 obtain⟨t456,A30,H⟩:=H
 replace H:(if t456 < 0 then (some true) else ((laws_toSparse.f k a0_0 a0_1 a0_2 a0_3 a0_4 l0_5 a0_6 l0_7).bind fun bt457=>((spec_SparseRank.f k bt457.1 bt457.2.1 bt457.2.2.1 bt457.2.2.2.1 bt457.2.2.2.2.1 bt457.2.2.2.2.2.1 bt457.2.2.2.2.2.2.1 bt457.2.2.2.2.2.2.2 a1).bind fun t469=>((laws_toSparse.f k a0_0 a0_1 a0_2 a0_3 a0_4 l0_5 a0_6 l0_7).bind fun bt470=>((impl_SparseRank.f k bt470.1 bt470.2.1 bt470.2.2.1 bt470.2.2.2.1 bt470.2.2.2.2.1 bt470.2.2.2.2.2.1 bt470.2.2.2.2.2.2.1 bt470.2.2.2.2.2.2.2 a1).bind fun t483=>(if t483 = t469 then ((laws_toSparse.f k a0_0 a0_1 a0_2 a0_3 a0_4 l0_5 a0_6 l0_7).bind fun bt484=>((laws_eqSparse.f k bt470.1 bt470.2.1 bt470.2.2.1 bt470.2.2.2.1 bt470.2.2.2.2.1 bt470.2.2.2.2.2.1 bt470.2.2.2.2.2.2.1 bt470.2.2.2.2.2.2.2 bt484.1 bt484.2.1 bt484.2.2.1 bt484.2.2.2.1 bt484.2.2.2.2.1 bt484.2.2.2.2.2.1 bt484.2.2.2.2.2.2.1 bt484.2.2.2.2.2.2.2).bind fun t496=>(if t496 = true then (some true) else (some false)))) else (some false))))))) = some r:=H
 have A3:=mk0 A30
 clear A30
 by_cases c4:t456 < 0
 ·rw [if_pos c4] at H
  have c4b0:decide (t456 < 0) = true:=decide_eq_true c4
  clear c4
  obtain rfl:=Option.some.inj H
  go_enter Try.func6,Try.ntmps6
  go_wp2_with (first|((with_reducible refine gate_dst (N:=2) rfl ?_);refine box_event ?hg (N:=2) ?hd (cs:=#[.int .i64 a0_0,.int .i64 a0_1,.int .i64 a0_2,.int .i64 a0_3,.int .i64 a0_4,.slice A0_5 l0_5.length c0_5,.int .i64 a0_6,.slice A0_7 l0_7.length c0_7]) (t:=45) ?hr ?_;(case hd=>rfl);(case hg=>rfl);(case hr=>first|(go_simp;done)|(go_simp;rfl));intro gb455 hg w5 hbox hb;have BK455:=mk0 (hbox);have GW455:=mk0 ((by rw [hg];exact (kZ HB.out):w.heap.size ≤ gb455));have GE455:=mk0 ((by rw [hg];exact (kZ HB.out):w.heap.size ≤ gb455));replace HB:=mk0 (kS HB.out hb);clear hb hbox hg;obtain⟨hcz6_0,hcz6_1,hcz6_2,hcz6_3,hcz6_4,hcz6_5,hcz6_6,hcz6_7,hfz6_0,hfz6_1,hfz6_2,hfz6_3,hfz6_4,hfz6_5,hfz6_6,hfz6_7⟩:=cz8 BK455.out)|((with_reducible refine gate_callee (f:=17) rfl ?_);refine goesL_ (some 11) rfl rfl Try.func17 (by kernel_rfl) rfl #[.agg #[.int .i64 a0_0,.int .i64 a0_1,.int .i64 a0_2,.int .i64 a0_3,.int .i64 a0_4,.slice A0_5 l0_5.length c0_5,.int .i64 a0_6,.slice A0_7 l0_7.length c0_7],.int .i64 1048576] rfl (by (try simp only [mA,mC,mN]);first|done|rfl|(simp only [List.length_drop,List.length_take];rfl)) ?_;(with_reducible refine (laws_szSparse.calls a0_0 a0_1 a0_2 a0_3 a0_4 _ _ l0_5 a0_6 _ _ l0_7 1048576 t456 _ ?side1 ?side2 ?side3 ?side4 A3.out).mono ?_);(case side1=>exact kC (Kd.C_below HR0_5.out HB.out));(case side2=>exact HC0_5.out);(case side3=>exact kC (Kd.C_below HR0_7.out HB.out));(case side4=>exact HC0_7.out);rintro e w7 ⟨rfl,hb⟩;refine⟨_,rfl,?_⟩;replace BK455:=mk0 (kK BK455.out hb);replace HB:=mk0 (kS HB.out hb);(try clear hb)))
  go_ret
  exact⟨by first|rfl|(simp [errW_none,errW_some] <;> rfl)|(simp [*,errW_none,errW_some] <;> rfl),kB HB.out⟩
 rw [if_neg c4] at H
 have c4b0:decide (t456 < 0) = false:=decide_eq_false c4
 clear c4
 replace H:=Option.bind_eq_some_iff.mp H
 obtain⟨⟨t457,t458,t459,t460,t461,t462,t465,t466⟩,A80,H⟩:=H
 replace H:((spec_SparseRank.f k t457 t458 t459 t460 t461 t462 t465 t466 a1).bind fun t469=>((laws_toSparse.f k a0_0 a0_1 a0_2 a0_3 a0_4 l0_5 a0_6 l0_7).bind fun bt470=>((impl_SparseRank.f k bt470.1 bt470.2.1 bt470.2.2.1 bt470.2.2.2.1 bt470.2.2.2.2.1 bt470.2.2.2.2.2.1 bt470.2.2.2.2.2.2.1 bt470.2.2.2.2.2.2.2 a1).bind fun t483=>(if t483 = t469 then ((laws_toSparse.f k a0_0 a0_1 a0_2 a0_3 a0_4 l0_5 a0_6 l0_7).bind fun bt484=>((laws_eqSparse.f k bt470.1 bt470.2.1 bt470.2.2.1 bt470.2.2.2.1 bt470.2.2.2.2.1 bt470.2.2.2.2.2.1 bt470.2.2.2.2.2.2.1 bt470.2.2.2.2.2.2.2 bt484.1 bt484.2.1 bt484.2.2.1 bt484.2.2.2.1 bt484.2.2.2.2.1 bt484.2.2.2.2.2.1 bt484.2.2.2.2.2.2.1 bt484.2.2.2.2.2.2.2).bind fun t496=>(if t496 = true then (some true) else (some false)))) else (some false))))) = some r:=H
 have A8:=mk0 A80
 clear A80
 replace H:=Option.bind_eq_some_iff.mp H
 obtain⟨t469,A90,H⟩:=H
 replace H:((laws_toSparse.f k a0_0 a0_1 a0_2 a0_3 a0_4 l0_5 a0_6 l0_7).bind fun bt470=>((impl_SparseRank.f k bt470.1 bt470.2.1 bt470.2.2.1 bt470.2.2.2.1 bt470.2.2.2.2.1 bt470.2.2.2.2.2.1 bt470.2.2.2.2.2.2.1 bt470.2.2.2.2.2.2.2 a1).bind fun t483=>(if t483 = t469 then ((laws_toSparse.f k a0_0 a0_1 a0_2 a0_3 a0_4 l0_5 a0_6 l0_7).bind fun bt484=>((laws_eqSparse.f k bt470.1 bt470.2.1 bt470.2.2.1 bt470.2.2.2.1 bt470.2.2.2.2.1 bt470.2.2.2.2.2.1 bt470.2.2.2.2.2.2.1 bt470.2.2.2.2.2.2.2 bt484.1 bt484.2.1 bt484.2.2.1 bt484.2.2.2.1 bt484.2.2.2.2.1 bt484.2.2.2.2.2.1 bt484.2.2.2.2.2.2.1 bt484.2.2.2.2.2.2.2).bind fun t496=>(if t496 = true then (some true) else (some false)))) else (some false)))) = some r:=H
 have A9:=mk0 A90
 clear A90
 replace H:=Option.bind_eq_some_iff.mp H
 obtain⟨⟨t470,t471,t472,t473,t474,t475,t478,t479⟩,A100,H⟩:=H
 replace H:((impl_SparseRank.f k t470 t471 t472 t473 t474 t475 t478 t479 a1).bind fun t483=>(if t483 = t469 then ((laws_toSparse.f k a0_0 a0_1 a0_2 a0_3 a0_4 l0_5 a0_6 l0_7).bind fun bt484=>((laws_eqSparse.f k t470 t471 t472 t473 t474 t475 t478 t479 bt484.1 bt484.2.1 bt484.2.2.1 bt484.2.2.2.1 bt484.2.2.2.2.1 bt484.2.2.2.2.2.1 bt484.2.2.2.2.2.2.1 bt484.2.2.2.2.2.2.2).bind fun t496=>(if t496 = true then (some true) else (some false)))) else (some false))) = some r:=H
 have A10:=mk0 A100
 clear A100
 replace H:=Option.bind_eq_some_iff.mp H
 obtain⟨t483,A110,H⟩:=H
 replace H:(if t483 = t469 then ((laws_toSparse.f k a0_0 a0_1 a0_2 a0_3 a0_4 l0_5 a0_6 l0_7).bind fun bt484=>((laws_eqSparse.f k t470 t471 t472 t473 t474 t475 t478 t479 bt484.1 bt484.2.1 bt484.2.2.1 bt484.2.2.2.1 bt484.2.2.2.2.1 bt484.2.2.2.2.2.1 bt484.2.2.2.2.2.2.1 bt484.2.2.2.2.2.2.2).bind fun t496=>(if t496 = true then (some true) else (some false)))) else (some false)) = some r:=H
 have A11:=mk0 A110
 clear A110
 by_cases c12:t483 = t469
 rotate_left
 ·rw [if_neg c12] at H
  have c12b0:(t483 == t469) = false:=beq_eq_false_iff_ne.mpr c12
  have c12b1:(t483 != t469) = true:=bne_iff_ne.mpr c12
  obtain rfl:=Option.some.inj H
  go_enter Try.func6,Try.ntmps6
  go_wp2_with (first|((with_reducible refine gate_dst (N:=2) rfl ?_);refine box_event ?hg (N:=2) ?hd (cs:=#[.int .i64 a0_0,.int .i64 a0_1,.int .i64 a0_2,.int .i64 a0_3,.int .i64 a0_4,.slice A0_5 l0_5.length c0_5,.int .i64 a0_6,.slice A0_7 l0_7.length c0_7]) (t:=45) ?hr ?_;(case hd=>rfl);(case hg=>rfl);(case hr=>first|(go_simp;done)|(go_simp;rfl));intro gb455 hg w58 hbox hb;have BK455:=mk0 (hbox);have GW455:=mk0 ((by rw [hg];exact (kZ HB.out):w.heap.size ≤ gb455));have GE455:=mk0 ((by rw [hg];exact (kZ HB.out):w.heap.size ≤ gb455));replace HB:=mk0 (kS HB.out hb);clear hb hbox hg;obtain⟨hcz59_0,hcz59_1,hcz59_2,hcz59_3,hcz59_4,hcz59_5,hcz59_6,hcz59_7,hfz59_0,hfz59_1,hfz59_2,hfz59_3,hfz59_4,hfz59_5,hfz59_6,hfz59_7⟩:=cz8 BK455.out)|((with_reducible refine gate_callee (f:=17) rfl ?_);refine goesL_ (some 11) rfl rfl Try.func17 (by kernel_rfl) rfl #[.agg #[.int .i64 a0_0,.int .i64 a0_1,.int .i64 a0_2,.int .i64 a0_3,.int .i64 a0_4,.slice A0_5 l0_5.length c0_5,.int .i64 a0_6,.slice A0_7 l0_7.length c0_7],.int .i64 1048576] rfl (by (try simp only [mA,mC,mN]);first|done|rfl|(simp only [List.length_drop,List.length_take];rfl)) ?_;(with_reducible refine (laws_szSparse.calls a0_0 a0_1 a0_2 a0_3 a0_4 _ _ l0_5 a0_6 _ _ l0_7 1048576 t456 _ ?side1 ?side2 ?side3 ?side4 A3.out).mono ?_);(case side1=>exact kC (Kd.C_below HR0_5.out HB.out));(case side2=>exact HC0_5.out);(case side3=>exact kC (Kd.C_below HR0_7.out HB.out));(case side4=>exact HC0_7.out);rintro e w60 ⟨rfl,hb⟩;refine⟨_,rfl,?_⟩;replace BK455:=mk0 (kK BK455.out hb);replace HB:=mk0 (kS HB.out hb);(try clear hb);obtain⟨hcz61_0,hcz61_1,hcz61_2,hcz61_3,hcz61_4,hcz61_5,hcz61_6,hcz61_7,hfz61_0,hfz61_1,hfz61_2,hfz61_3,hfz61_4,hfz61_5,hfz61_6,hfz61_7⟩:=cz8 BK455.out)|((with_reducible refine gate_callee (f:=19) rfl ?_);refine goesL_ (some 15) rfl rfl Try.func19 (by kernel_rfl) rfl #[.agg #[.int .i64 a0_0,.int .i64 a0_1,.int .i64 a0_2,.int .i64 a0_3,.int .i64 a0_4,.slice A0_5 l0_5.length c0_5,.int .i64 a0_6,.slice A0_7 l0_7.length c0_7]] rfl (by (try simp only [mA,mC,mN]);first|done|rfl|(simp only [List.length_drop,List.length_take];rfl)) ?_;(with_reducible refine (laws_toSparse.calls k a0_0 a0_1 a0_2 a0_3 a0_4 _ _ l0_5 a0_6 _ _ l0_7 t457 t458 t459 t460 t461 t462 t465 t466 _ ?side1 ?side2 ?side3 ?side4 A8.out).mono ?_);(case side1=>exact kC (Kd.C_below HR0_5.out HB.out));(case side2=>exact HC0_5.out);(case side3=>exact kC (Kd.C_below HR0_7.out HB.out));(case side4=>exact HC0_7.out);rintro e w62 ⟨v463,v467,rfl,ho0,ho1,hb⟩;refine⟨_,rfl,?_⟩;have HO464:=mk0 (Kd.R_lower ho0 (kZ HB.out));have HO468:=mk0 (Kd.R_lower ho1 (kZ HB.out));replace BK455:=mk0 (kK BK455.out hb);replace HB:=mk0 (kS HB.out hb);(try clear hb);(try clear ho0);(try clear ho1);obtain⟨Ao63,co63,eo63⟩:=Kd.R_slice HO464.out;subst eo63;obtain⟨Ao64,co64,eo64⟩:=Kd.R_slice HO468.out;subst eo64)|((with_reducible refine gate_callee (f:=22) rfl ?_);refine goesL_ (some 17) rfl rfl Try.func22 (by kernel_rfl) rfl #[.agg #[.int .i64 t457,.int .i64 t458,.int .i64 t459,.int .i64 t460,.int .i64 t461,.slice Ao63 t462.length co63,.int .i64 t465,.slice Ao64 t466.length co64],.int .i64 a1] rfl (by (try simp only [mA,mC,mN]);first|done|rfl|(simp only [List.length_drop,List.length_take];rfl)) ?_;(with_reducible refine (spec_SparseRank.calls k t457 t458 t459 t460 t461 _ _ t462 t465 _ _ t466 a1 t469 _ ?side1 ?side2 ?side3 ?side4 A9.out).mono ?_);(case side1=>exact kC (Kd.R_reads' HO464.out).2.2);(case side2=>exact (Kd.R_reads' HO464.out).2.1);(case side3=>exact kC (Kd.R_reads' HO468.out).2.2);(case side4=>exact (Kd.R_reads' HO468.out).2.1);rintro e w65 ⟨rfl,hb⟩;refine⟨_,rfl,?_⟩;replace HO464:=mk0 (bR HO464.out hb);replace HO468:=mk0 (bR HO468.out hb);replace BK455:=mk0 (kK BK455.out hb);replace HB:=mk0 (kS HB.out hb);(try clear hb);obtain⟨hcz66_0,hcz66_1,hcz66_2,hcz66_3,hcz66_4,hcz66_5,hcz66_6,hcz66_7,hfz66_0,hfz66_1,hfz66_2,hfz66_3,hfz66_4,hfz66_5,hfz66_6,hfz66_7⟩:=cz8 BK455.out)|((with_reducible refine gate_callee (f:=19) rfl ?_);refine goesL_ (some 19) rfl rfl Try.func19 (by kernel_rfl) rfl #[.agg #[.int .i64 a0_0,.int .i64 a0_1,.int .i64 a0_2,.int .i64 a0_3,.int .i64 a0_4,.slice A0_5 l0_5.length c0_5,.int .i64 a0_6,.slice A0_7 l0_7.length c0_7]] rfl (by (try simp only [mA,mC,mN]);first|done|rfl|(simp only [List.length_drop,List.length_take];rfl)) ?_;(with_reducible refine (laws_toSparse.calls k a0_0 a0_1 a0_2 a0_3 a0_4 _ _ l0_5 a0_6 _ _ l0_7 t470 t471 t472 t473 t474 t475 t478 t479 _ ?side1 ?side2 ?side3 ?side4 A10.out).mono ?_);(case side1=>exact kC (Kd.C_below HR0_5.out HB.out));(case side2=>exact HC0_5.out);(case side3=>exact kC (Kd.C_below HR0_7.out HB.out));(case side4=>exact HC0_7.out);rintro e w67 ⟨v476,v480,rfl,ho0,ho1,hb⟩;refine⟨_,rfl,?_⟩;have HO477:=mk0 (Kd.R_lower (Kd.R_new' (Kd.R_new' ho0 (Kd.R_lt (rR HO464.out))) (Kd.R_lt (rR HO468.out))) (kZ HB.out));have HO481:=mk0 (Kd.R_lower (Kd.R_new' (Kd.R_new' ho1 (Kd.R_lt (rR HO464.out))) (Kd.R_lt (rR HO468.out))) (kZ HB.out));replace HO464:=mk0 (Kd.R_mono (Kd.R_told (Kd.R_told (Kd.R_old (rR HO464.out) hb) (Kd.R_base ho0)) (Kd.R_base ho1)) (fun _ h_=>h_.1));replace HO468:=mk0 (Kd.R_mono (Kd.R_told (Kd.R_told (Kd.R_old (rR HO468.out) hb) (Kd.R_base ho0)) (Kd.R_base ho1)) (fun _ h_=>h_.1));replace BK455:=mk0 (kK BK455.out hb);replace HB:=mk0 (kS HB.out hb);(try clear hb);(try clear ho0);(try clear ho1))|((with_reducible refine gate_dst (N:=7) rfl ?_);refine box_event ?hg (N:=7) ?hd (cs:=#[.int .i64 0,.int .i64 0,.int .i64 0,.int .i64 0,.int .i64 0,.slice none 0 0,.int .i64 0,.slice none 0 0]) (t:=33) ?hr ?_;(case hd=>rfl);(case hg=>rfl);(case hr=>first|(go_simp;done)|(go_simp;rfl));intro gb482 hg w68 hbox hb;replace HO464:=mk0 (bR HO464.out hb);replace HO468:=mk0 (bR HO468.out hb);replace HO477:=mk0 (bR HO477.out hb);replace HO481:=mk0 (bR HO481.out hb);have BK482:=mk0 (hbox);have GW482:=mk0 ((by rw [hg];exact (kZ HB.out):w.heap.size ≤ gb482));have GE482:=mk0 ((by rw [hg];exact (kZ HB.out):w.heap.size ≤ gb482));replace HB:=mk0 (kS HB.out hb);have NB455_482:=mk0 ((by rw [hg];exact Nat.ne_of_lt (kL BK455.out):gb455 ≠ gb482));have NB482_455:=mk0 ((by rw [hg];exact Nat.ne_of_gt (kL BK455.out):gb482 ≠ gb455));replace BK455:=mk0 (kK BK455.out hb);clear hb hbox hg;have hnb69:=NB482_455.out;have hnc69:=NB455_482.out;obtain⟨hcz70_0,hcz70_1,hcz70_2,hcz70_3,hcz70_4,hcz70_5,hcz70_6,hcz70_7,hfz70_0,hfz70_1,hfz70_2,hfz70_3,hfz70_4,hfz70_5,hfz70_6,hfz70_7⟩:=cz8 BK482.out;obtain⟨Ao71,co71,eo71⟩:=Kd.R_slice HO477.out;subst eo71;obtain⟨Ao72,co72,eo72⟩:=Kd.R_slice HO481.out;subst eo72)|((with_reducible refine gate_callee (f:=14) rfl ?_);refine goesL_ (some 22) rfl rfl Try.func14 (by kernel_rfl) rfl #[.agg #[.int .i64 t470,.int .i64 t471,.int .i64 t472,.int .i64 t473,.int .i64 t474,.slice Ao71 t475.length co71,.int .i64 t478,.slice Ao72 t479.length co72],.int .i64 a1] rfl (by (try simp only [mA,mC,mN]);first|done|rfl|(simp only [List.length_drop,List.length_take];rfl)) ?_;(with_reducible refine (impl_SparseRank.calls k t470 t471 t472 t473 t474 _ _ t475 t478 _ _ t479 a1 t483 _ ?side1 ?side2 ?side3 ?side4 A11.out).mono ?_);(case side1=>refine (Kd.R_reads' (e:=78) (base:=w.heap.size) (ok:=fun k_=>((some k_ ≠ (.slice Ao72 t479.length co72:Value).ownBlock ∧ some k_ ≠ (.slice Ao63 t462.length co63:Value).ownBlock) ∧ some k_ ≠ (.slice Ao64 t466.length co64:Value).ownBlock)) (n:=t475.length) (c:=co71) ?_).2.2;exact (by (with_reducible repeat (first|apply aR|apply nR|apply dR));exact (Kd.R_mono (Kd.R_far (p:=⟨gb482,7,none⟩) (Kd.R_far (p:=⟨gb482,6,none⟩) (Kd.R_far (p:=⟨gb482,5,none⟩) (Kd.R_far (p:=⟨gb482,4,none⟩) (Kd.R_far (p:=⟨gb482,3,none⟩) (Kd.R_far (p:=⟨gb482,2,none⟩) (Kd.R_far (p:=⟨gb482,1,none⟩) (Kd.R_far (p:=⟨gb482,0,none⟩) (Kd.R_types HO477.out BK482.out (by decide)) (fun _ hk=>hk.2) (.int .i64 t470)) (fun _ hk=>hk.2) (.int .i64 t471)) (fun _ hk=>hk.2) (.int .i64 t472)) (fun _ hk=>hk.2) (.int .i64 t473)) (fun _ hk=>hk.2) (.int .i64 t474)) (fun _ hk=>hk.2) (.slice Ao71 t475.length co71)) (fun _ hk=>hk.2) (.int .i64 t478)) (fun _ hk=>hk.2) (.slice Ao72 t479.length co72)) (fun _ h_=>h_.1))));(case side2=>exact (Kd.R_reads' HO477.out).2.1);(case side3=>refine (Kd.R_reads' (e:=78) (base:=w.heap.size) (ok:=fun k_=>((some k_ ≠ (.slice Ao71 t475.length co71:Value).ownBlock ∧ some k_ ≠ (.slice Ao63 t462.length co63:Value).ownBlock) ∧ some k_ ≠ (.slice Ao64 t466.length co64:Value).ownBlock)) (n:=t479.length) (c:=co72) ?_).2.2;exact (by (with_reducible repeat (first|apply aR|apply nR|apply dR));exact (Kd.R_mono (Kd.R_far (p:=⟨gb482,7,none⟩) (Kd.R_far (p:=⟨gb482,6,none⟩) (Kd.R_far (p:=⟨gb482,5,none⟩) (Kd.R_far (p:=⟨gb482,4,none⟩) (Kd.R_far (p:=⟨gb482,3,none⟩) (Kd.R_far (p:=⟨gb482,2,none⟩) (Kd.R_far (p:=⟨gb482,1,none⟩) (Kd.R_far (p:=⟨gb482,0,none⟩) (Kd.R_types HO481.out BK482.out (by decide)) (fun _ hk=>hk.2) (.int .i64 t470)) (fun _ hk=>hk.2) (.int .i64 t471)) (fun _ hk=>hk.2) (.int .i64 t472)) (fun _ hk=>hk.2) (.int .i64 t473)) (fun _ hk=>hk.2) (.int .i64 t474)) (fun _ hk=>hk.2) (.slice Ao71 t475.length co71)) (fun _ hk=>hk.2) (.int .i64 t478)) (fun _ hk=>hk.2) (.slice Ao72 t479.length co72)) (fun _ h_=>h_.1))));(case side4=>exact (Kd.R_reads' HO481.out).2.1);rintro e w73 ⟨rfl,hb⟩;refine⟨_,rfl,?_⟩;replace HO464:=mk0 (Kd.R_below (by (with_reducible repeat (first|apply aR|apply nR|apply dR));exact (Kd.R_mono (Kd.R_far (p:=⟨gb482,7,none⟩) (Kd.R_far (p:=⟨gb482,6,none⟩) (Kd.R_far (p:=⟨gb482,5,none⟩) (Kd.R_far (p:=⟨gb482,4,none⟩) (Kd.R_far (p:=⟨gb482,3,none⟩) (Kd.R_far (p:=⟨gb482,2,none⟩) (Kd.R_far (p:=⟨gb482,1,none⟩) (Kd.R_far (p:=⟨gb482,0,none⟩) (Kd.R_types HO464.out BK482.out (by decide)) (fun _ hk=>hk.2) (.int .i64 t470)) (fun _ hk=>hk.2) (.int .i64 t471)) (fun _ hk=>hk.2) (.int .i64 t472)) (fun _ hk=>hk.2) (.int .i64 t473)) (fun _ hk=>hk.2) (.int .i64 t474)) (fun _ hk=>hk.2) (.slice Ao71 t475.length co71)) (fun _ hk=>hk.2) (.int .i64 t478)) (fun _ hk=>hk.2) (.slice Ao72 t479.length co72)) (fun _ h_=>h_.1))) hb);replace HO468:=mk0 (Kd.R_below (by (with_reducible repeat (first|apply aR|apply nR|apply dR));exact (Kd.R_mono (Kd.R_far (p:=⟨gb482,7,none⟩) (Kd.R_far (p:=⟨gb482,6,none⟩) (Kd.R_far (p:=⟨gb482,5,none⟩) (Kd.R_far (p:=⟨gb482,4,none⟩) (Kd.R_far (p:=⟨gb482,3,none⟩) (Kd.R_far (p:=⟨gb482,2,none⟩) (Kd.R_far (p:=⟨gb482,1,none⟩) (Kd.R_far (p:=⟨gb482,0,none⟩) (Kd.R_types HO468.out BK482.out (by decide)) (fun _ hk=>hk.2) (.int .i64 t470)) (fun _ hk=>hk.2) (.int .i64 t471)) (fun _ hk=>hk.2) (.int .i64 t472)) (fun _ hk=>hk.2) (.int .i64 t473)) (fun _ hk=>hk.2) (.int .i64 t474)) (fun _ hk=>hk.2) (.slice Ao71 t475.length co71)) (fun _ hk=>hk.2) (.int .i64 t478)) (fun _ hk=>hk.2) (.slice Ao72 t479.length co72)) (fun _ h_=>h_.1))) hb);replace HO477:=mk0 (Kd.R_below (by (with_reducible repeat (first|apply aR|apply nR|apply dR));exact (Kd.R_mono (Kd.R_far (p:=⟨gb482,7,none⟩) (Kd.R_far (p:=⟨gb482,6,none⟩) (Kd.R_far (p:=⟨gb482,5,none⟩) (Kd.R_far (p:=⟨gb482,4,none⟩) (Kd.R_far (p:=⟨gb482,3,none⟩) (Kd.R_far (p:=⟨gb482,2,none⟩) (Kd.R_far (p:=⟨gb482,1,none⟩) (Kd.R_far (p:=⟨gb482,0,none⟩) (Kd.R_types HO477.out BK482.out (by decide)) (fun _ hk=>hk.2) (.int .i64 t470)) (fun _ hk=>hk.2) (.int .i64 t471)) (fun _ hk=>hk.2) (.int .i64 t472)) (fun _ hk=>hk.2) (.int .i64 t473)) (fun _ hk=>hk.2) (.int .i64 t474)) (fun _ hk=>hk.2) (.slice Ao71 t475.length co71)) (fun _ hk=>hk.2) (.int .i64 t478)) (fun _ hk=>hk.2) (.slice Ao72 t479.length co72)) (fun _ h_=>h_.1))) hb);replace HO481:=mk0 (Kd.R_below (by (with_reducible repeat (first|apply aR|apply nR|apply dR));exact (Kd.R_mono (Kd.R_far (p:=⟨gb482,7,none⟩) (Kd.R_far (p:=⟨gb482,6,none⟩) (Kd.R_far (p:=⟨gb482,5,none⟩) (Kd.R_far (p:=⟨gb482,4,none⟩) (Kd.R_far (p:=⟨gb482,3,none⟩) (Kd.R_far (p:=⟨gb482,2,none⟩) (Kd.R_far (p:=⟨gb482,1,none⟩) (Kd.R_far (p:=⟨gb482,0,none⟩) (Kd.R_types HO481.out BK482.out (by decide)) (fun _ hk=>hk.2) (.int .i64 t470)) (fun _ hk=>hk.2) (.int .i64 t471)) (fun _ hk=>hk.2) (.int .i64 t472)) (fun _ hk=>hk.2) (.int .i64 t473)) (fun _ hk=>hk.2) (.int .i64 t474)) (fun _ hk=>hk.2) (.slice Ao71 t475.length co71)) (fun _ hk=>hk.2) (.int .i64 t478)) (fun _ hk=>hk.2) (.slice Ao72 t479.length co72)) (fun _ h_=>h_.1))) hb);replace BK455:=mk0 (blk_below (g:=gb455) (o:=.cells #[.int .i64 a0_0,.int .i64 a0_1,.int .i64 a0_2,.int .i64 a0_3,.int .i64 a0_4,.slice A0_5 l0_5.length c0_5,.int .i64 a0_6,.slice A0_7 l0_7.length c0_7] 45 (0,0)) (by (with_reducible repeat (first|apply nB|apply dB|apply aB));refine blk_far ?_ NB455_482.out _;(with_reducible repeat (first|apply nB|apply dB|apply aB));refine blk_far ?_ NB455_482.out _;(with_reducible repeat (first|apply nB|apply dB|apply aB));refine blk_far ?_ NB455_482.out _;(with_reducible repeat (first|apply nB|apply dB|apply aB));refine blk_far ?_ NB455_482.out _;(with_reducible repeat (first|apply nB|apply dB|apply aB));refine blk_far ?_ NB455_482.out _;(with_reducible repeat (first|apply nB|apply dB|apply aB));refine blk_far ?_ NB455_482.out _;(with_reducible repeat (first|apply nB|apply dB|apply aB));refine blk_far ?_ NB455_482.out _;(with_reducible repeat (first|apply nB|apply dB|apply aB));refine blk_far ?_ NB455_482.out _;(with_reducible repeat (first|apply nB|apply dB|apply aB));exact BK455.out) hb);replace BK482:=mk0 (blk_below (g:=gb482) (o:=.cells #[.int .i64 t470,.int .i64 t471,.int .i64 t472,.int .i64 t473,.int .i64 t474,.slice Ao71 t475.length co71,.int .i64 t478,.slice Ao72 t479.length co72] 33 (0,0)) (by (with_reducible repeat (first|apply nB|apply dB|apply aB));refine blk_put (cs:=#[.int .i64 t470,.int .i64 t471,.int .i64 t472,.int .i64 t473,.int .i64 t474,.slice Ao71 t475.length co71,.int .i64 t478,.slice none 0 0]) ?_ 7 _ rfl;(with_reducible repeat (first|apply nB|apply dB|apply aB));refine blk_put (cs:=#[.int .i64 t470,.int .i64 t471,.int .i64 t472,.int .i64 t473,.int .i64 t474,.slice Ao71 t475.length co71,.int .i64 0,.slice none 0 0]) ?_ 6 _ rfl;(with_reducible repeat (first|apply nB|apply dB|apply aB));refine blk_put (cs:=#[.int .i64 t470,.int .i64 t471,.int .i64 t472,.int .i64 t473,.int .i64 t474,.slice none 0 0,.int .i64 0,.slice none 0 0]) ?_ 5 _ rfl;(with_reducible repeat (first|apply nB|apply dB|apply aB));refine blk_put (cs:=#[.int .i64 t470,.int .i64 t471,.int .i64 t472,.int .i64 t473,.int .i64 0,.slice none 0 0,.int .i64 0,.slice none 0 0]) ?_ 4 _ rfl;(with_reducible repeat (first|apply nB|apply dB|apply aB));refine blk_put (cs:=#[.int .i64 t470,.int .i64 t471,.int .i64 t472,.int .i64 0,.int .i64 0,.slice none 0 0,.int .i64 0,.slice none 0 0]) ?_ 3 _ rfl;(with_reducible repeat (first|apply nB|apply dB|apply aB));refine blk_put (cs:=#[.int .i64 t470,.int .i64 t471,.int .i64 0,.int .i64 0,.int .i64 0,.slice none 0 0,.int .i64 0,.slice none 0 0]) ?_ 2 _ rfl;(with_reducible repeat (first|apply nB|apply dB|apply aB));refine blk_put (cs:=#[.int .i64 t470,.int .i64 0,.int .i64 0,.int .i64 0,.int .i64 0,.slice none 0 0,.int .i64 0,.slice none 0 0]) ?_ 1 _ rfl;(with_reducible repeat (first|apply nB|apply dB|apply aB));refine blk_put (cs:=#[.int .i64 0,.int .i64 0,.int .i64 0,.int .i64 0,.int .i64 0,.slice none 0 0,.int .i64 0,.slice none 0 0]) ?_ 0 _ rfl;(with_reducible repeat (first|apply nB|apply dB|apply aB));exact BK482.out) hb);replace HB:=mk0 (kS HB.out hb);(try clear hb);(try clear hb2);(try clear hk);(try clear hi)))
  go_ret
  exact⟨by first|rfl|(simp [errW_none,errW_some] <;> rfl)|(simp [*,errW_none,errW_some] <;> rfl),kB HB.out⟩

 rw [if_pos c12] at H
 have c12b0:(t483 == t469) = true:=beq_iff_eq.mpr c12
 have c12b1:(t483 != t469) = false:=bne_eq_false_iff_eq.mpr c12
 clear c12
 replace H:=Option.bind_eq_some_iff.mp H
 obtain⟨⟨t484,t485,t486,t487,t488,t489,t492,t493⟩,A130,H⟩:=H
 replace H:((laws_eqSparse.f k t470 t471 t472 t473 t474 t475 t478 t479 t484 t485 t486 t487 t488 t489 t492 t493).bind fun t496=>(if t496 = true then (some true) else (some false))) = some r:=H
 have A13:=mk0 A130
 clear A130
 replace H:=Option.bind_eq_some_iff.mp H
 obtain⟨t496,A140,H⟩:=H
 replace H:(if t496 = true then (some true) else (some false)) = some r:=H
 have A14:=mk0 A140
 clear A140
 by_cases c15:t496 = true
 ·subst c15
  have H1:(some true) = some r:=by rw [if_pos rfl] at H;exact H
  clear H
  have H:=H1
  clear H1
  obtain rfl:=Option.some.inj H
  go_enter Try.func6,Try.ntmps6
  try go_wp2_with (first|((with_reducible refine gate_dst (N:=2) rfl ?_);refine box_event ?hg (N:=2) ?hd (cs:=#[.int .i64 a0_0,.int .i64 a0_1,.int .i64 a0_2,.int .i64 a0_3,.int .i64 a0_4,.slice A0_5 l0_5.length c0_5,.int .i64 a0_6,.slice A0_7 l0_7.length c0_7]) (t:=45) ?hr ?_;(case hd=>rfl);(case hg=>rfl);(case hr=>first|(go_simp;done)|(go_simp;rfl));intro gb455 hg w16 hbox hb;have BK455:=mk0 (hbox);have GW455:=mk0 ((by rw [hg];exact (kZ HB.out):w.heap.size ≤ gb455));have GE455:=mk0 ((by rw [hg];exact (kZ HB.out):w.heap.size ≤ gb455));replace HB:=mk0 (kS HB.out hb);clear hb hbox hg;obtain⟨hcz17_0,hcz17_1,hcz17_2,hcz17_3,hcz17_4,hcz17_5,hcz17_6,hcz17_7,hfz17_0,hfz17_1,hfz17_2,hfz17_3,hfz17_4,hfz17_5,hfz17_6,hfz17_7⟩:=cz8 BK455.out)|((with_reducible refine gate_callee (f:=17) rfl ?_);refine goesL_ (some 11) rfl rfl Try.func17 (by kernel_rfl) rfl #[.agg #[.int .i64 a0_0,.int .i64 a0_1,.int .i64 a0_2,.int .i64 a0_3,.int .i64 a0_4,.slice A0_5 l0_5.length c0_5,.int .i64 a0_6,.slice A0_7 l0_7.length c0_7],.int .i64 1048576] rfl (by (try simp only [mA,mC,mN]);first|done|rfl|(simp only [List.length_drop,List.length_take];rfl)) ?_;(with_reducible refine (laws_szSparse.calls a0_0 a0_1 a0_2 a0_3 a0_4 _ _ l0_5 a0_6 _ _ l0_7 1048576 t456 _ ?side1 ?side2 ?side3 ?side4 A3.out).mono ?_);(case side1=>exact kC (Kd.C_below HR0_5.out HB.out));(case side2=>exact HC0_5.out);(case side3=>exact kC (Kd.C_below HR0_7.out HB.out));(case side4=>exact HC0_7.out);rintro e w18 ⟨rfl,hb⟩;refine⟨_,rfl,?_⟩;replace BK455:=mk0 (kK BK455.out hb);replace HB:=mk0 (kS HB.out hb);(try clear hb);obtain⟨hcz19_0,hcz19_1,hcz19_2,hcz19_3,hcz19_4,hcz19_5,hcz19_6,hcz19_7,hfz19_0,hfz19_1,hfz19_2,hfz19_3,hfz19_4,hfz19_5,hfz19_6,hfz19_7⟩:=cz8 BK455.out)|((with_reducible refine gate_callee (f:=19) rfl ?_);refine goesL_ (some 15) rfl rfl Try.func19 (by kernel_rfl) rfl #[.agg #[.int .i64 a0_0,.int .i64 a0_1,.int .i64 a0_2,.int .i64 a0_3,.int .i64 a0_4,.slice A0_5 l0_5.length c0_5,.int .i64 a0_6,.slice A0_7 l0_7.length c0_7]] rfl (by (try simp only [mA,mC,mN]);first|done|rfl|(simp only [List.length_drop,List.length_take];rfl)) ?_;(with_reducible refine (laws_toSparse.calls k a0_0 a0_1 a0_2 a0_3 a0_4 _ _ l0_5 a0_6 _ _ l0_7 t457 t458 t459 t460 t461 t462 t465 t466 _ ?side1 ?side2 ?side3 ?side4 A8.out).mono ?_);(case side1=>exact kC (Kd.C_below HR0_5.out HB.out));(case side2=>exact HC0_5.out);(case side3=>exact kC (Kd.C_below HR0_7.out HB.out));(case side4=>exact HC0_7.out);rintro e w20 ⟨v463,v467,rfl,ho0,ho1,hb⟩;refine⟨_,rfl,?_⟩;have HO464:=mk0 (Kd.R_lower ho0 (kZ HB.out));have HO468:=mk0 (Kd.R_lower ho1 (kZ HB.out));replace BK455:=mk0 (kK BK455.out hb);replace HB:=mk0 (kS HB.out hb);(try clear hb);(try clear ho0);(try clear ho1);obtain⟨Ao21,co21,eo21⟩:=Kd.R_slice HO464.out;subst eo21;obtain⟨Ao22,co22,eo22⟩:=Kd.R_slice HO468.out;subst eo22)|((with_reducible refine gate_callee (f:=22) rfl ?_);refine goesL_ (some 17) rfl rfl Try.func22 (by kernel_rfl) rfl #[.agg #[.int .i64 t457,.int .i64 t458,.int .i64 t459,.int .i64 t460,.int .i64 t461,.slice Ao21 t462.length co21,.int .i64 t465,.slice Ao22 t466.length co22],.int .i64 a1] rfl (by (try simp only [mA,mC,mN]);first|done|rfl|(simp only [List.length_drop,List.length_take];rfl)) ?_;(with_reducible refine (spec_SparseRank.calls k t457 t458 t459 t460 t461 _ _ t462 t465 _ _ t466 a1 t469 _ ?side1 ?side2 ?side3 ?side4 A9.out).mono ?_);(case side1=>exact kC (Kd.R_reads' HO464.out).2.2);(case side2=>exact (Kd.R_reads' HO464.out).2.1);(case side3=>exact kC (Kd.R_reads' HO468.out).2.2);(case side4=>exact (Kd.R_reads' HO468.out).2.1);rintro e w23 ⟨rfl,hb⟩;refine⟨_,rfl,?_⟩;replace HO464:=mk0 (bR HO464.out hb);replace HO468:=mk0 (bR HO468.out hb);replace BK455:=mk0 (kK BK455.out hb);replace HB:=mk0 (kS HB.out hb);(try clear hb);obtain⟨hcz24_0,hcz24_1,hcz24_2,hcz24_3,hcz24_4,hcz24_5,hcz24_6,hcz24_7,hfz24_0,hfz24_1,hfz24_2,hfz24_3,hfz24_4,hfz24_5,hfz24_6,hfz24_7⟩:=cz8 BK455.out)|((with_reducible refine gate_callee (f:=19) rfl ?_);refine goesL_ (some 19) rfl rfl Try.func19 (by kernel_rfl) rfl #[.agg #[.int .i64 a0_0,.int .i64 a0_1,.int .i64 a0_2,.int .i64 a0_3,.int .i64 a0_4,.slice A0_5 l0_5.length c0_5,.int .i64 a0_6,.slice A0_7 l0_7.length c0_7]] rfl (by (try simp only [mA,mC,mN]);first|done|rfl|(simp only [List.length_drop,List.length_take];rfl)) ?_;(with_reducible refine (laws_toSparse.calls k a0_0 a0_1 a0_2 a0_3 a0_4 _ _ l0_5 a0_6 _ _ l0_7 t470 t471 t472 t473 t474 t475 t478 t479 _ ?side1 ?side2 ?side3 ?side4 A10.out).mono ?_);(case side1=>exact kC (Kd.C_below HR0_5.out HB.out));(case side2=>exact HC0_5.out);(case side3=>exact kC (Kd.C_below HR0_7.out HB.out));(case side4=>exact HC0_7.out);rintro e w25 ⟨v476,v480,rfl,ho0,ho1,hb⟩;refine⟨_,rfl,?_⟩;have HO477:=mk0 (Kd.R_lower (Kd.R_new' (Kd.R_new' ho0 (Kd.R_lt (rR HO464.out))) (Kd.R_lt (rR HO468.out))) (kZ HB.out));have HO481:=mk0 (Kd.R_lower (Kd.R_new' (Kd.R_new' ho1 (Kd.R_lt (rR HO464.out))) (Kd.R_lt (rR HO468.out))) (kZ HB.out));replace HO464:=mk0 (Kd.R_mono (Kd.R_told (Kd.R_told (Kd.R_old (rR HO464.out) hb) (Kd.R_base ho0)) (Kd.R_base ho1)) (fun _ h_=>h_.1));replace HO468:=mk0 (Kd.R_mono (Kd.R_told (Kd.R_told (Kd.R_old (rR HO468.out) hb) (Kd.R_base ho0)) (Kd.R_base ho1)) (fun _ h_=>h_.1));replace BK455:=mk0 (kK BK455.out hb);replace HB:=mk0 (kS HB.out hb);(try clear hb);(try clear ho0);(try clear ho1))|((with_reducible refine gate_dst (N:=7) rfl ?_);refine box_event ?hg (N:=7) ?hd (cs:=#[.int .i64 0,.int .i64 0,.int .i64 0,.int .i64 0,.int .i64 0,.slice none 0 0,.int .i64 0,.slice none 0 0]) (t:=33) ?hr ?_;(case hd=>rfl);(case hg=>rfl);(case hr=>first|(go_simp;done)|(go_simp;rfl));intro gb482 hg w26 hbox hb;replace HO464:=mk0 (bR HO464.out hb);replace HO468:=mk0 (bR HO468.out hb);replace HO477:=mk0 (bR HO477.out hb);replace HO481:=mk0 (bR HO481.out hb);have BK482:=mk0 (hbox);have GW482:=mk0 ((by rw [hg];exact (kZ HB.out):w.heap.size ≤ gb482));have GE482:=mk0 ((by rw [hg];exact (kZ HB.out):w.heap.size ≤ gb482));replace HB:=mk0 (kS HB.out hb);have NB455_482:=mk0 ((by rw [hg];exact Nat.ne_of_lt (kL BK455.out):gb455 ≠ gb482));have NB482_455:=mk0 ((by rw [hg];exact Nat.ne_of_gt (kL BK455.out):gb482 ≠ gb455));replace BK455:=mk0 (kK BK455.out hb);clear hb hbox hg;have hnb27:=NB482_455.out;have hnc27:=NB455_482.out;obtain⟨hcz28_0,hcz28_1,hcz28_2,hcz28_3,hcz28_4,hcz28_5,hcz28_6,hcz28_7,hfz28_0,hfz28_1,hfz28_2,hfz28_3,hfz28_4,hfz28_5,hfz28_6,hfz28_7⟩:=cz8 BK482.out;obtain⟨Ao29,co29,eo29⟩:=Kd.R_slice HO477.out;subst eo29;obtain⟨Ao30,co30,eo30⟩:=Kd.R_slice HO481.out;subst eo30)|((with_reducible refine gate_callee (f:=14) rfl ?_);refine goesL_ (some 22) rfl rfl Try.func14 (by kernel_rfl) rfl #[.agg #[.int .i64 t470,.int .i64 t471,.int .i64 t472,.int .i64 t473,.int .i64 t474,.slice Ao29 t475.length co29,.int .i64 t478,.slice Ao30 t479.length co30],.int .i64 a1] rfl (by (try simp only [mA,mC,mN]);first|done|rfl|(simp only [List.length_drop,List.length_take];rfl)) ?_;(with_reducible refine (impl_SparseRank.calls k t470 t471 t472 t473 t474 _ _ t475 t478 _ _ t479 a1 t483 _ ?side1 ?side2 ?side3 ?side4 A11.out).mono ?_);(case side1=>refine (Kd.R_reads' (e:=78) (base:=w.heap.size) (ok:=fun k_=>((some k_ ≠ (.slice Ao30 t479.length co30:Value).ownBlock ∧ some k_ ≠ (.slice Ao21 t462.length co21:Value).ownBlock) ∧ some k_ ≠ (.slice Ao22 t466.length co22:Value).ownBlock)) (n:=t475.length) (c:=co29) ?_).2.2;exact (by (with_reducible repeat (first|apply aR|apply nR|apply dR));exact (Kd.R_mono (Kd.R_far (p:=⟨gb482,7,none⟩) (Kd.R_far (p:=⟨gb482,6,none⟩) (Kd.R_far (p:=⟨gb482,5,none⟩) (Kd.R_far (p:=⟨gb482,4,none⟩) (Kd.R_far (p:=⟨gb482,3,none⟩) (Kd.R_far (p:=⟨gb482,2,none⟩) (Kd.R_far (p:=⟨gb482,1,none⟩) (Kd.R_far (p:=⟨gb482,0,none⟩) (Kd.R_types HO477.out BK482.out (by decide)) (fun _ hk=>hk.2) (.int .i64 t470)) (fun _ hk=>hk.2) (.int .i64 t471)) (fun _ hk=>hk.2) (.int .i64 t472)) (fun _ hk=>hk.2) (.int .i64 t473)) (fun _ hk=>hk.2) (.int .i64 t474)) (fun _ hk=>hk.2) (.slice Ao29 t475.length co29)) (fun _ hk=>hk.2) (.int .i64 t478)) (fun _ hk=>hk.2) (.slice Ao30 t479.length co30)) (fun _ h_=>h_.1))));(case side2=>exact (Kd.R_reads' HO477.out).2.1);(case side3=>refine (Kd.R_reads' (e:=78) (base:=w.heap.size) (ok:=fun k_=>((some k_ ≠ (.slice Ao29 t475.length co29:Value).ownBlock ∧ some k_ ≠ (.slice Ao21 t462.length co21:Value).ownBlock) ∧ some k_ ≠ (.slice Ao22 t466.length co22:Value).ownBlock)) (n:=t479.length) (c:=co30) ?_).2.2;exact (by (with_reducible repeat (first|apply aR|apply nR|apply dR));exact (Kd.R_mono (Kd.R_far (p:=⟨gb482,7,none⟩) (Kd.R_far (p:=⟨gb482,6,none⟩) (Kd.R_far (p:=⟨gb482,5,none⟩) (Kd.R_far (p:=⟨gb482,4,none⟩) (Kd.R_far (p:=⟨gb482,3,none⟩) (Kd.R_far (p:=⟨gb482,2,none⟩) (Kd.R_far (p:=⟨gb482,1,none⟩) (Kd.R_far (p:=⟨gb482,0,none⟩) (Kd.R_types HO481.out BK482.out (by decide)) (fun _ hk=>hk.2) (.int .i64 t470)) (fun _ hk=>hk.2) (.int .i64 t471)) (fun _ hk=>hk.2) (.int .i64 t472)) (fun _ hk=>hk.2) (.int .i64 t473)) (fun _ hk=>hk.2) (.int .i64 t474)) (fun _ hk=>hk.2) (.slice Ao29 t475.length co29)) (fun _ hk=>hk.2) (.int .i64 t478)) (fun _ hk=>hk.2) (.slice Ao30 t479.length co30)) (fun _ h_=>h_.1))));(case side4=>exact (Kd.R_reads' HO481.out).2.1);rintro e w31 ⟨rfl,hb⟩;refine⟨_,rfl,?_⟩;replace HO464:=mk0 (Kd.R_below (by (with_reducible repeat (first|apply aR|apply nR|apply dR));exact (Kd.R_mono (Kd.R_far (p:=⟨gb482,7,none⟩) (Kd.R_far (p:=⟨gb482,6,none⟩) (Kd.R_far (p:=⟨gb482,5,none⟩) (Kd.R_far (p:=⟨gb482,4,none⟩) (Kd.R_far (p:=⟨gb482,3,none⟩) (Kd.R_far (p:=⟨gb482,2,none⟩) (Kd.R_far (p:=⟨gb482,1,none⟩) (Kd.R_far (p:=⟨gb482,0,none⟩) (Kd.R_types HO464.out BK482.out (by decide)) (fun _ hk=>hk.2) (.int .i64 t470)) (fun _ hk=>hk.2) (.int .i64 t471)) (fun _ hk=>hk.2) (.int .i64 t472)) (fun _ hk=>hk.2) (.int .i64 t473)) (fun _ hk=>hk.2) (.int .i64 t474)) (fun _ hk=>hk.2) (.slice Ao29 t475.length co29)) (fun _ hk=>hk.2) (.int .i64 t478)) (fun _ hk=>hk.2) (.slice Ao30 t479.length co30)) (fun _ h_=>h_.1))) hb);replace HO468:=mk0 (Kd.R_below (by (with_reducible repeat (first|apply aR|apply nR|apply dR));exact (Kd.R_mono (Kd.R_far (p:=⟨gb482,7,none⟩) (Kd.R_far (p:=⟨gb482,6,none⟩) (Kd.R_far (p:=⟨gb482,5,none⟩) (Kd.R_far (p:=⟨gb482,4,none⟩) (Kd.R_far (p:=⟨gb482,3,none⟩) (Kd.R_far (p:=⟨gb482,2,none⟩) (Kd.R_far (p:=⟨gb482,1,none⟩) (Kd.R_far (p:=⟨gb482,0,none⟩) (Kd.R_types HO468.out BK482.out (by decide)) (fun _ hk=>hk.2) (.int .i64 t470)) (fun _ hk=>hk.2) (.int .i64 t471)) (fun _ hk=>hk.2) (.int .i64 t472)) (fun _ hk=>hk.2) (.int .i64 t473)) (fun _ hk=>hk.2) (.int .i64 t474)) (fun _ hk=>hk.2) (.slice Ao29 t475.length co29)) (fun _ hk=>hk.2) (.int .i64 t478)) (fun _ hk=>hk.2) (.slice Ao30 t479.length co30)) (fun _ h_=>h_.1))) hb);replace HO477:=mk0 (Kd.R_below (by (with_reducible repeat (first|apply aR|apply nR|apply dR));exact (Kd.R_mono (Kd.R_far (p:=⟨gb482,7,none⟩) (Kd.R_far (p:=⟨gb482,6,none⟩) (Kd.R_far (p:=⟨gb482,5,none⟩) (Kd.R_far (p:=⟨gb482,4,none⟩) (Kd.R_far (p:=⟨gb482,3,none⟩) (Kd.R_far (p:=⟨gb482,2,none⟩) (Kd.R_far (p:=⟨gb482,1,none⟩) (Kd.R_far (p:=⟨gb482,0,none⟩) (Kd.R_types HO477.out BK482.out (by decide)) (fun _ hk=>hk.2) (.int .i64 t470)) (fun _ hk=>hk.2) (.int .i64 t471)) (fun _ hk=>hk.2) (.int .i64 t472)) (fun _ hk=>hk.2) (.int .i64 t473)) (fun _ hk=>hk.2) (.int .i64 t474)) (fun _ hk=>hk.2) (.slice Ao29 t475.length co29)) (fun _ hk=>hk.2) (.int .i64 t478)) (fun _ hk=>hk.2) (.slice Ao30 t479.length co30)) (fun _ h_=>h_.1))) hb);replace HO481:=mk0 (Kd.R_below (by (with_reducible repeat (first|apply aR|apply nR|apply dR));exact (Kd.R_mono (Kd.R_far (p:=⟨gb482,7,none⟩) (Kd.R_far (p:=⟨gb482,6,none⟩) (Kd.R_far (p:=⟨gb482,5,none⟩) (Kd.R_far (p:=⟨gb482,4,none⟩) (Kd.R_far (p:=⟨gb482,3,none⟩) (Kd.R_far (p:=⟨gb482,2,none⟩) (Kd.R_far (p:=⟨gb482,1,none⟩) (Kd.R_far (p:=⟨gb482,0,none⟩) (Kd.R_types HO481.out BK482.out (by decide)) (fun _ hk=>hk.2) (.int .i64 t470)) (fun _ hk=>hk.2) (.int .i64 t471)) (fun _ hk=>hk.2) (.int .i64 t472)) (fun _ hk=>hk.2) (.int .i64 t473)) (fun _ hk=>hk.2) (.int .i64 t474)) (fun _ hk=>hk.2) (.slice Ao29 t475.length co29)) (fun _ hk=>hk.2) (.int .i64 t478)) (fun _ hk=>hk.2) (.slice Ao30 t479.length co30)) (fun _ h_=>h_.1))) hb);replace BK455:=mk0 (blk_below (g:=gb455) (o:=.cells #[.int .i64 a0_0,.int .i64 a0_1,.int .i64 a0_2,.int .i64 a0_3,.int .i64 a0_4,.slice A0_5 l0_5.length c0_5,.int .i64 a0_6,.slice A0_7 l0_7.length c0_7] 45 (0,0)) (by (with_reducible repeat (first|apply nB|apply dB|apply aB));refine blk_far ?_ NB455_482.out _;(with_reducible repeat (first|apply nB|apply dB|apply aB));refine blk_far ?_ NB455_482.out _;(with_reducible repeat (first|apply nB|apply dB|apply aB));refine blk_far ?_ NB455_482.out _;(with_reducible repeat (first|apply nB|apply dB|apply aB));refine blk_far ?_ NB455_482.out _;(with_reducible repeat (first|apply nB|apply dB|apply aB));refine blk_far ?_ NB455_482.out _;(with_reducible repeat (first|apply nB|apply dB|apply aB));refine blk_far ?_ NB455_482.out _;(with_reducible repeat (first|apply nB|apply dB|apply aB));refine blk_far ?_ NB455_482.out _;(with_reducible repeat (first|apply nB|apply dB|apply aB));refine blk_far ?_ NB455_482.out _;(with_reducible repeat (first|apply nB|apply dB|apply aB));exact BK455.out) hb);replace BK482:=mk0 (blk_below (g:=gb482) (o:=.cells #[.int .i64 t470,.int .i64 t471,.int .i64 t472,.int .i64 t473,.int .i64 t474,.slice Ao29 t475.length co29,.int .i64 t478,.slice Ao30 t479.length co30] 33 (0,0)) (by (with_reducible repeat (first|apply nB|apply dB|apply aB));refine blk_put (cs:=#[.int .i64 t470,.int .i64 t471,.int .i64 t472,.int .i64 t473,.int .i64 t474,.slice Ao29 t475.length co29,.int .i64 t478,.slice none 0 0]) ?_ 7 _ rfl;(with_reducible repeat (first|apply nB|apply dB|apply aB));refine blk_put (cs:=#[.int .i64 t470,.int .i64 t471,.int .i64 t472,.int .i64 t473,.int .i64 t474,.slice Ao29 t475.length co29,.int .i64 0,.slice none 0 0]) ?_ 6 _ rfl;(with_reducible repeat (first|apply nB|apply dB|apply aB));refine blk_put (cs:=#[.int .i64 t470,.int .i64 t471,.int .i64 t472,.int .i64 t473,.int .i64 t474,.slice none 0 0,.int .i64 0,.slice none 0 0]) ?_ 5 _ rfl;(with_reducible repeat (first|apply nB|apply dB|apply aB));refine blk_put (cs:=#[.int .i64 t470,.int .i64 t471,.int .i64 t472,.int .i64 t473,.int .i64 0,.slice none 0 0,.int .i64 0,.slice none 0 0]) ?_ 4 _ rfl;(with_reducible repeat (first|apply nB|apply dB|apply aB));refine blk_put (cs:=#[.int .i64 t470,.int .i64 t471,.int .i64 t472,.int .i64 0,.int .i64 0,.slice none 0 0,.int .i64 0,.slice none 0 0]) ?_ 3 _ rfl;(with_reducible repeat (first|apply nB|apply dB|apply aB));refine blk_put (cs:=#[.int .i64 t470,.int .i64 t471,.int .i64 0,.int .i64 0,.int .i64 0,.slice none 0 0,.int .i64 0,.slice none 0 0]) ?_ 2 _ rfl;(with_reducible repeat (first|apply nB|apply dB|apply aB));refine blk_put (cs:=#[.int .i64 t470,.int .i64 0,.int .i64 0,.int .i64 0,.int .i64 0,.slice none 0 0,.int .i64 0,.slice none 0 0]) ?_ 1 _ rfl;(with_reducible repeat (first|apply nB|apply dB|apply aB));refine blk_put (cs:=#[.int .i64 0,.int .i64 0,.int .i64 0,.int .i64 0,.int .i64 0,.slice none 0 0,.int .i64 0,.slice none 0 0]) ?_ 0 _ rfl;(with_reducible repeat (first|apply nB|apply dB|apply aB));exact BK482.out) hb);replace HB:=mk0 (kS HB.out hb);(try clear hb);(try clear hb2);(try clear hk);(try clear hi)))
  replace HO464:=mk0 (dR HO464.out)
  replace HO468:=mk0 (dR HO468.out)
  replace HO477:=mk0 (dR HO477.out)
  replace HO481:=mk0 (dR HO481.out)
  replace BK455:=mk0 (dB BK455.out)
  replace BK482:=mk0 (dB BK482.out)
  replace HB:=mk0 (dZ HB.out)
  refine start_ (n:=5) (S:=fun w'=>w'.cell? ⟨gb482,0,none⟩ = some (.int .i64 t470) ∧ w'.cell? ⟨gb482,1,none⟩ = some (.int .i64 t471) ∧ w'.cell? ⟨gb482,2,none⟩ = some (.int .i64 t472) ∧ w'.cell? ⟨gb482,3,none⟩ = some (.int .i64 t473) ∧ w'.cell? ⟨gb482,4,none⟩ = some (.int .i64 t474) ∧ w'.cell? ⟨gb482,5,none⟩ = some (.slice Ao29 t475.length co29) ∧ w'.cell? ⟨gb482,6,none⟩ = some (.int .i64 t478) ∧ w'.cell? ⟨gb482,7,none⟩ = some (.slice Ao30 t479.length co30) ∧ w'.cell? ⟨gb455,0,none⟩ = some (.int .i64 a0_0) ∧ w'.cell? ⟨gb455,1,none⟩ = some (.int .i64 a0_1) ∧ w'.cell? ⟨gb455,2,none⟩ = some (.int .i64 a0_2) ∧ w'.cell? ⟨gb455,3,none⟩ = some (.int .i64 a0_3) ∧ w'.cell? ⟨gb455,4,none⟩ = some (.int .i64 a0_4) ∧ w'.cell? ⟨gb455,5,none⟩ = some (.slice A0_5 l0_5.length c0_5) ∧ w'.cell? ⟨gb455,6,none⟩ = some (.int .i64 a0_6) ∧ w'.cell? ⟨gb455,7,none⟩ = some (.slice A0_7 l0_7.length c0_7)) (ds:=[]) #[false,false,false,false,false] (by kernel_rfl) rfl rfl ⟨(blk_cell BK482.out 0).trans rfl,(blk_cell BK482.out 1).trans rfl,(blk_cell BK482.out 2).trans rfl,(blk_cell BK482.out 3).trans rfl,(blk_cell BK482.out 4).trans rfl,(blk_cell BK482.out 5).trans rfl,(blk_cell BK482.out 6).trans rfl,(blk_cell BK482.out 7).trans rfl,(blk_cell BK455.out 0).trans rfl,(blk_cell BK455.out 1).trans rfl,(blk_cell BK455.out 2).trans rfl,(blk_cell BK455.out 3).trans rfl,(blk_cell BK455.out 4).trans rfl,(blk_cell BK455.out 5).trans rfl,(blk_cell BK455.out 6).trans rfl,(blk_cell BK455.out 7).trans rfl⟩ (fun hHeld=>?_)
  generalize w31.drew = w32 at HO464 HO468 HO477 HO481 BK455 BK482 HB hHeld ⊢
  refine take_ (i:=0) (N:=some 26) (v:=?_) (a':=?_) #[true,false,false,false,false] rfl rfl (by kernel_rfl) (fun _ _ _ h=>h) (Or.inl ⟨by rfl,?_⟩) hHeld ?_ ?_
  rotate_left
  ·rintro w' ⟨s0,s1,s2,s3,s4,s5,s6,s7,s8,s9,s10,s11,s12,s13,s14,s15⟩
   go_simp
   with_reducible rfl
  rotate_left
  ·simp only [Act.put,sA,sO,sS,i64_w,i32_w]
   rfl
  refine take_ (i:=1) (N:=some 27) (v:=?_) (a':=?_) #[true,true,false,false,false] rfl rfl (by kernel_rfl) (fun _ _ _ h=>h) (Or.inl ⟨by rfl,?_⟩) hHeld ?_ ?_
  rotate_left
  ·rintro w' ⟨s0,s1,s2,s3,s4,s5,s6,s7,s8,s9,s10,s11,s12,s13,s14,s15⟩
   go_simp
   with_reducible rfl
  rotate_left
  ·simp only [Act.put,sA,sO,sS,i64_w,i32_w]
   rfl
  refine one_ (i:=2) (N:=some 28) #[true,true,true,false,false] rfl rfl (by kernel_rfl) (by decide) (fun K hK=>?_)
  refine goes_ Try.func19 (by kernel_rfl) rfl #[.agg #[.int .i64 a0_0,.int .i64 a0_1,.int .i64 a0_2,.int .i64 a0_3,.int .i64 a0_4,.slice A0_5 l0_5.length c0_5,.int .i64 a0_6,.slice A0_7 l0_7.length c0_7]] (by rfl) rfl rfl (by (try simp only [mA,mC,mN]);first|done|rfl|(simp only [List.length_drop,List.length_take];rfl)) ?_
  with_reducible refine (laws_toSparse.calls k a0_0 a0_1 a0_2 a0_3 a0_4 _ _ l0_5 a0_6 _ _ l0_7 t484 t485 t486 t487 t488 t489 t492 t493 _ ?side1 ?side2 ?side3 ?side4 A13.out).mono ?_
  (case side1=>exact kC (Kd.C_below HR0_5.out HB.out))
  (case side2=>exact HC0_5.out)
  (case side3=>exact kC (Kd.C_below HR0_7.out HB.out))
  (case side4=>exact HC0_7.out)
  rintro e w33 ⟨v490,v494,rfl,ho0,ho1,hb⟩
  refine⟨_,rfl,?_⟩
  have HO491:=mk0 (Kd.R_lower (Kd.R_new' (Kd.R_new' (Kd.R_new' (Kd.R_new' ho0 (Kd.R_lt (rR HO464.out))) (Kd.R_lt (rR HO468.out))) (Kd.R_lt (rR HO477.out))) (Kd.R_lt (rR HO481.out))) (kZ HB.out))
  have HO495:=mk0 (Kd.R_lower (Kd.R_new' (Kd.R_new' (Kd.R_new' (Kd.R_new' ho1 (Kd.R_lt (rR HO464.out))) (Kd.R_lt (rR HO468.out))) (Kd.R_lt (rR HO477.out))) (Kd.R_lt (rR HO481.out))) (kZ HB.out))
  replace HO464:=mk0 (Kd.R_mono (Kd.R_told (Kd.R_told (Kd.R_old (rR HO464.out) hb) (Kd.R_base ho0)) (Kd.R_base ho1)) (fun _ h_=>h_.1))
  replace HO468:=mk0 (Kd.R_mono (Kd.R_told (Kd.R_told (Kd.R_old (rR HO468.out) hb) (Kd.R_base ho0)) (Kd.R_base ho1)) (fun _ h_=>h_.1))
  replace HO477:=mk0 (Kd.R_mono (Kd.R_told (Kd.R_told (Kd.R_old (rR HO477.out) hb) (Kd.R_base ho0)) (Kd.R_base ho1)) (fun _ h_=>h_.1))
  replace HO481:=mk0 (Kd.R_mono (Kd.R_told (Kd.R_told (Kd.R_old (rR HO481.out) hb) (Kd.R_base ho0)) (Kd.R_base ho1)) (fun _ h_=>h_.1))
  replace BK455:=mk0 (kK BK455.out hb)
  replace BK482:=mk0 (kK BK482.out hb)
  replace HB:=mk0 (kS HB.out hb)
  (try clear hb)
  (try clear ho0)
  (try clear ho1)
  obtain⟨Ao34,co34,eo34⟩:=Kd.R_slice HO491.out
  (first|subst eo34|(injection eo34 with f1_ f2_ f3_;have f4_:=f1_.symm;have f5_:=f3_.symm;clear f1_ f2_ f3_;subst f4_;subst f5_))
  obtain⟨Ao35,co35,eo35⟩:=Kd.R_slice HO495.out
  (first|subst eo35|(injection eo35 with f1_ f2_ f3_;have f4_:=f1_.symm;have f5_:=f3_.symm;clear f1_ f2_ f3_;subst f4_;subst f5_))
  refine hK.out _ _ ⟨(blk_cell BK482.out 0).trans rfl,(blk_cell BK482.out 1).trans rfl,(blk_cell BK482.out 2).trans rfl,(blk_cell BK482.out 3).trans rfl,(blk_cell BK482.out 4).trans rfl,(blk_cell BK482.out 5).trans rfl,(blk_cell BK482.out 6).trans rfl,(blk_cell BK482.out 7).trans rfl,(blk_cell BK455.out 0).trans rfl,(blk_cell BK455.out 1).trans rfl,(blk_cell BK455.out 2).trans rfl,(blk_cell BK455.out 3).trans rfl,(blk_cell BK455.out 4).trans rfl,(blk_cell BK455.out 5).trans rfl,(blk_cell BK455.out 6).trans rfl,(blk_cell BK455.out 7).trans rfl⟩ (fun hHeld=>?_)
  clear hK K
  refine norm_ (a':=?_) ?_ ?_
  rotate_left
  ·show Act.put _ (some 28) _ = _
   simp only [Act.put,sA,sO,sS,i64_w,i32_w]
   rfl
  refine one_ (i:=3) (N:=some 29) #[true,true,true,true,false] rfl rfl (by kernel_rfl) (by decide) (fun K hK=>?_)
  refine goes_ Try.func20 (by kernel_rfl) rfl #[.agg #[.int .i64 t470,.int .i64 t471,.int .i64 t472,.int .i64 t473,.int .i64 t474,.slice Ao29 t475.length co29,.int .i64 t478,.slice Ao30 t479.length co30],.agg #[.int .i64 t484,.int .i64 t485,.int .i64 t486,.int .i64 t487,.int .i64 t488,.slice Ao34 t489.length co34,.int .i64 t492,.slice Ao35 t493.length co35]] (by rfl) rfl rfl (by (try simp only [mA,mC,mN]);first|done|rfl|(simp only [List.length_drop,List.length_take];rfl)) ?_
  with_reducible refine (laws_eqSparse.calls k t470 t471 t472 t473 t474 _ _ t475 t478 _ _ t479 t484 t485 t486 t487 t488 _ _ t489 t492 _ _ t493 true _ ?side1 ?side2 ?side3 ?side4 ?side5 ?side6 ?side7 ?side8 A14.out).mono ?_
  (case side1=>exact kC (Kd.R_reads' HO477.out).2.2)
  (case side2=>exact (Kd.R_reads' HO477.out).2.1)
  (case side3=>exact kC (Kd.R_reads' HO481.out).2.2)
  (case side4=>exact (Kd.R_reads' HO481.out).2.1)
  (case side5=>exact kC (Kd.R_reads' HO491.out).2.2)
  (case side6=>exact (Kd.R_reads' HO491.out).2.1)
  (case side7=>exact kC (Kd.R_reads' HO495.out).2.2)
  (case side8=>exact (Kd.R_reads' HO495.out).2.1)
  rintro e w36 ⟨rfl,hb⟩
  refine⟨_,rfl,?_⟩
  replace HO464:=mk0 (bR HO464.out hb)
  replace HO468:=mk0 (bR HO468.out hb)
  replace HO477:=mk0 (bR HO477.out hb)
  replace HO481:=mk0 (bR HO481.out hb)
  replace HO491:=mk0 (bR HO491.out hb)
  replace HO495:=mk0 (bR HO495.out hb)
  replace BK455:=mk0 (kK BK455.out hb)
  replace BK482:=mk0 (kK BK482.out hb)
  replace HB:=mk0 (kS HB.out hb)
  (try clear hb)
  refine hK.out _ _ ⟨(blk_cell BK482.out 0).trans rfl,(blk_cell BK482.out 1).trans rfl,(blk_cell BK482.out 2).trans rfl,(blk_cell BK482.out 3).trans rfl,(blk_cell BK482.out 4).trans rfl,(blk_cell BK482.out 5).trans rfl,(blk_cell BK482.out 6).trans rfl,(blk_cell BK482.out 7).trans rfl,(blk_cell BK455.out 0).trans rfl,(blk_cell BK455.out 1).trans rfl,(blk_cell BK455.out 2).trans rfl,(blk_cell BK455.out 3).trans rfl,(blk_cell BK455.out 4).trans rfl,(blk_cell BK455.out 5).trans rfl,(blk_cell BK455.out 6).trans rfl,(blk_cell BK455.out 7).trans rfl⟩ (fun hHeld=>?_)
  clear hK K
  refine norm_ (a':=?_) ?_ ?_
  rotate_left
  ·show Act.put _ (some 29) _ = _
   simp only [Act.put,sA,sO,sS,i64_w,i32_w]
   rfl
  refine pure_ (i:=4) (N:=some 30) (v:=?_) (a':=?_) #[true,true,true,true,true] rfl rfl (by kernel_rfl) (fun _ _ _ h=>h) (Or.inl ⟨by rfl,?_⟩) ?_ ?_
  rotate_left
  ·intro w'
   go_simp
   with_reducible rfl
  rotate_left
  ·simp only [Act.put,sA,sO,sS,i64_w,i32_w]
   rfl
  refine done_ (by kernel_rfl) ?_
  try go_wp2
  go_ret
  exact⟨by first|rfl|(simp [errW_none,errW_some] <;> rfl)|(simp [*,errW_none,errW_some] <;> rfl),kB HB.out⟩
 replace c15:=Bool.eq_false_iff.mpr c15
 subst c15
 have H1:(some false) = some r:=by rw [if_neg (show ¬ (false = true) by decide)] at H;exact H
 clear H
 have H:=H1
 clear H1
 obtain rfl:=Option.some.inj H
 go_enter Try.func6,Try.ntmps6
 try go_wp2_with (first|((with_reducible refine gate_dst (N:=2) rfl ?_);refine box_event ?hg (N:=2) ?hd (cs:=#[.int .i64 a0_0,.int .i64 a0_1,.int .i64 a0_2,.int .i64 a0_3,.int .i64 a0_4,.slice A0_5 l0_5.length c0_5,.int .i64 a0_6,.slice A0_7 l0_7.length c0_7]) (t:=45) ?hr ?_;(case hd=>rfl);(case hg=>rfl);(case hr=>first|(go_simp;done)|(go_simp;rfl));intro gb455 hg w37 hbox hb;have BK455:=mk0 (hbox);have GW455:=mk0 ((by rw [hg];exact (kZ HB.out):w.heap.size ≤ gb455));have GE455:=mk0 ((by rw [hg];exact (kZ HB.out):w.heap.size ≤ gb455));replace HB:=mk0 (kS HB.out hb);clear hb hbox hg;obtain⟨hcz38_0,hcz38_1,hcz38_2,hcz38_3,hcz38_4,hcz38_5,hcz38_6,hcz38_7,hfz38_0,hfz38_1,hfz38_2,hfz38_3,hfz38_4,hfz38_5,hfz38_6,hfz38_7⟩:=cz8 BK455.out)|((with_reducible refine gate_callee (f:=17) rfl ?_);refine goesL_ (some 11) rfl rfl Try.func17 (by kernel_rfl) rfl #[.agg #[.int .i64 a0_0,.int .i64 a0_1,.int .i64 a0_2,.int .i64 a0_3,.int .i64 a0_4,.slice A0_5 l0_5.length c0_5,.int .i64 a0_6,.slice A0_7 l0_7.length c0_7],.int .i64 1048576] rfl (by (try simp only [mA,mC,mN]);first|done|rfl|(simp only [List.length_drop,List.length_take];rfl)) ?_;(with_reducible refine (laws_szSparse.calls a0_0 a0_1 a0_2 a0_3 a0_4 _ _ l0_5 a0_6 _ _ l0_7 1048576 t456 _ ?side1 ?side2 ?side3 ?side4 A3.out).mono ?_);(case side1=>exact kC (Kd.C_below HR0_5.out HB.out));(case side2=>exact HC0_5.out);(case side3=>exact kC (Kd.C_below HR0_7.out HB.out));(case side4=>exact HC0_7.out);rintro e w39 ⟨rfl,hb⟩;refine⟨_,rfl,?_⟩;replace BK455:=mk0 (kK BK455.out hb);replace HB:=mk0 (kS HB.out hb);(try clear hb);obtain⟨hcz40_0,hcz40_1,hcz40_2,hcz40_3,hcz40_4,hcz40_5,hcz40_6,hcz40_7,hfz40_0,hfz40_1,hfz40_2,hfz40_3,hfz40_4,hfz40_5,hfz40_6,hfz40_7⟩:=cz8 BK455.out)|((with_reducible refine gate_callee (f:=19) rfl ?_);refine goesL_ (some 15) rfl rfl Try.func19 (by kernel_rfl) rfl #[.agg #[.int .i64 a0_0,.int .i64 a0_1,.int .i64 a0_2,.int .i64 a0_3,.int .i64 a0_4,.slice A0_5 l0_5.length c0_5,.int .i64 a0_6,.slice A0_7 l0_7.length c0_7]] rfl (by (try simp only [mA,mC,mN]);first|done|rfl|(simp only [List.length_drop,List.length_take];rfl)) ?_;(with_reducible refine (laws_toSparse.calls k a0_0 a0_1 a0_2 a0_3 a0_4 _ _ l0_5 a0_6 _ _ l0_7 t457 t458 t459 t460 t461 t462 t465 t466 _ ?side1 ?side2 ?side3 ?side4 A8.out).mono ?_);(case side1=>exact kC (Kd.C_below HR0_5.out HB.out));(case side2=>exact HC0_5.out);(case side3=>exact kC (Kd.C_below HR0_7.out HB.out));(case side4=>exact HC0_7.out);rintro e w41 ⟨v463,v467,rfl,ho0,ho1,hb⟩;refine⟨_,rfl,?_⟩;have HO464:=mk0 (Kd.R_lower ho0 (kZ HB.out));have HO468:=mk0 (Kd.R_lower ho1 (kZ HB.out));replace BK455:=mk0 (kK BK455.out hb);replace HB:=mk0 (kS HB.out hb);(try clear hb);(try clear ho0);(try clear ho1);obtain⟨Ao42,co42,eo42⟩:=Kd.R_slice HO464.out;subst eo42;obtain⟨Ao43,co43,eo43⟩:=Kd.R_slice HO468.out;subst eo43)|((with_reducible refine gate_callee (f:=22) rfl ?_);refine goesL_ (some 17) rfl rfl Try.func22 (by kernel_rfl) rfl #[.agg #[.int .i64 t457,.int .i64 t458,.int .i64 t459,.int .i64 t460,.int .i64 t461,.slice Ao42 t462.length co42,.int .i64 t465,.slice Ao43 t466.length co43],.int .i64 a1] rfl (by (try simp only [mA,mC,mN]);first|done|rfl|(simp only [List.length_drop,List.length_take];rfl)) ?_;(with_reducible refine (spec_SparseRank.calls k t457 t458 t459 t460 t461 _ _ t462 t465 _ _ t466 a1 t469 _ ?side1 ?side2 ?side3 ?side4 A9.out).mono ?_);(case side1=>exact kC (Kd.R_reads' HO464.out).2.2);(case side2=>exact (Kd.R_reads' HO464.out).2.1);(case side3=>exact kC (Kd.R_reads' HO468.out).2.2);(case side4=>exact (Kd.R_reads' HO468.out).2.1);rintro e w44 ⟨rfl,hb⟩;refine⟨_,rfl,?_⟩;replace HO464:=mk0 (bR HO464.out hb);replace HO468:=mk0 (bR HO468.out hb);replace BK455:=mk0 (kK BK455.out hb);replace HB:=mk0 (kS HB.out hb);(try clear hb);obtain⟨hcz45_0,hcz45_1,hcz45_2,hcz45_3,hcz45_4,hcz45_5,hcz45_6,hcz45_7,hfz45_0,hfz45_1,hfz45_2,hfz45_3,hfz45_4,hfz45_5,hfz45_6,hfz45_7⟩:=cz8 BK455.out)|((with_reducible refine gate_callee (f:=19) rfl ?_);refine goesL_ (some 19) rfl rfl Try.func19 (by kernel_rfl) rfl #[.agg #[.int .i64 a0_0,.int .i64 a0_1,.int .i64 a0_2,.int .i64 a0_3,.int .i64 a0_4,.slice A0_5 l0_5.length c0_5,.int .i64 a0_6,.slice A0_7 l0_7.length c0_7]] rfl (by (try simp only [mA,mC,mN]);first|done|rfl|(simp only [List.length_drop,List.length_take];rfl)) ?_;(with_reducible refine (laws_toSparse.calls k a0_0 a0_1 a0_2 a0_3 a0_4 _ _ l0_5 a0_6 _ _ l0_7 t470 t471 t472 t473 t474 t475 t478 t479 _ ?side1 ?side2 ?side3 ?side4 A10.out).mono ?_);(case side1=>exact kC (Kd.C_below HR0_5.out HB.out));(case side2=>exact HC0_5.out);(case side3=>exact kC (Kd.C_below HR0_7.out HB.out));(case side4=>exact HC0_7.out);rintro e w46 ⟨v476,v480,rfl,ho0,ho1,hb⟩;refine⟨_,rfl,?_⟩;have HO477:=mk0 (Kd.R_lower (Kd.R_new' (Kd.R_new' ho0 (Kd.R_lt (rR HO464.out))) (Kd.R_lt (rR HO468.out))) (kZ HB.out));have HO481:=mk0 (Kd.R_lower (Kd.R_new' (Kd.R_new' ho1 (Kd.R_lt (rR HO464.out))) (Kd.R_lt (rR HO468.out))) (kZ HB.out));replace HO464:=mk0 (Kd.R_mono (Kd.R_told (Kd.R_told (Kd.R_old (rR HO464.out) hb) (Kd.R_base ho0)) (Kd.R_base ho1)) (fun _ h_=>h_.1));replace HO468:=mk0 (Kd.R_mono (Kd.R_told (Kd.R_told (Kd.R_old (rR HO468.out) hb) (Kd.R_base ho0)) (Kd.R_base ho1)) (fun _ h_=>h_.1));replace BK455:=mk0 (kK BK455.out hb);replace HB:=mk0 (kS HB.out hb);(try clear hb);(try clear ho0);(try clear ho1))|((with_reducible refine gate_dst (N:=7) rfl ?_);refine box_event ?hg (N:=7) ?hd (cs:=#[.int .i64 0,.int .i64 0,.int .i64 0,.int .i64 0,.int .i64 0,.slice none 0 0,.int .i64 0,.slice none 0 0]) (t:=33) ?hr ?_;(case hd=>rfl);(case hg=>rfl);(case hr=>first|(go_simp;done)|(go_simp;rfl));intro gb482 hg w47 hbox hb;replace HO464:=mk0 (bR HO464.out hb);replace HO468:=mk0 (bR HO468.out hb);replace HO477:=mk0 (bR HO477.out hb);replace HO481:=mk0 (bR HO481.out hb);have BK482:=mk0 (hbox);have GW482:=mk0 ((by rw [hg];exact (kZ HB.out):w.heap.size ≤ gb482));have GE482:=mk0 ((by rw [hg];exact (kZ HB.out):w.heap.size ≤ gb482));replace HB:=mk0 (kS HB.out hb);have NB455_482:=mk0 ((by rw [hg];exact Nat.ne_of_lt (kL BK455.out):gb455 ≠ gb482));have NB482_455:=mk0 ((by rw [hg];exact Nat.ne_of_gt (kL BK455.out):gb482 ≠ gb455));replace BK455:=mk0 (kK BK455.out hb);clear hb hbox hg;have hnb48:=NB482_455.out;have hnc48:=NB455_482.out;obtain⟨hcz49_0,hcz49_1,hcz49_2,hcz49_3,hcz49_4,hcz49_5,hcz49_6,hcz49_7,hfz49_0,hfz49_1,hfz49_2,hfz49_3,hfz49_4,hfz49_5,hfz49_6,hfz49_7⟩:=cz8 BK482.out;obtain⟨Ao50,co50,eo50⟩:=Kd.R_slice HO477.out;subst eo50;obtain⟨Ao51,co51,eo51⟩:=Kd.R_slice HO481.out;subst eo51)|((with_reducible refine gate_callee (f:=14) rfl ?_);refine goesL_ (some 22) rfl rfl Try.func14 (by kernel_rfl) rfl #[.agg #[.int .i64 t470,.int .i64 t471,.int .i64 t472,.int .i64 t473,.int .i64 t474,.slice Ao50 t475.length co50,.int .i64 t478,.slice Ao51 t479.length co51],.int .i64 a1] rfl (by (try simp only [mA,mC,mN]);first|done|rfl|(simp only [List.length_drop,List.length_take];rfl)) ?_;(with_reducible refine (impl_SparseRank.calls k t470 t471 t472 t473 t474 _ _ t475 t478 _ _ t479 a1 t483 _ ?side1 ?side2 ?side3 ?side4 A11.out).mono ?_);(case side1=>refine (Kd.R_reads' (e:=78) (base:=w.heap.size) (ok:=fun k_=>((some k_ ≠ (.slice Ao51 t479.length co51:Value).ownBlock ∧ some k_ ≠ (.slice Ao42 t462.length co42:Value).ownBlock) ∧ some k_ ≠ (.slice Ao43 t466.length co43:Value).ownBlock)) (n:=t475.length) (c:=co50) ?_).2.2;exact (by (with_reducible repeat (first|apply aR|apply nR|apply dR));exact (Kd.R_mono (Kd.R_far (p:=⟨gb482,7,none⟩) (Kd.R_far (p:=⟨gb482,6,none⟩) (Kd.R_far (p:=⟨gb482,5,none⟩) (Kd.R_far (p:=⟨gb482,4,none⟩) (Kd.R_far (p:=⟨gb482,3,none⟩) (Kd.R_far (p:=⟨gb482,2,none⟩) (Kd.R_far (p:=⟨gb482,1,none⟩) (Kd.R_far (p:=⟨gb482,0,none⟩) (Kd.R_types HO477.out BK482.out (by decide)) (fun _ hk=>hk.2) (.int .i64 t470)) (fun _ hk=>hk.2) (.int .i64 t471)) (fun _ hk=>hk.2) (.int .i64 t472)) (fun _ hk=>hk.2) (.int .i64 t473)) (fun _ hk=>hk.2) (.int .i64 t474)) (fun _ hk=>hk.2) (.slice Ao50 t475.length co50)) (fun _ hk=>hk.2) (.int .i64 t478)) (fun _ hk=>hk.2) (.slice Ao51 t479.length co51)) (fun _ h_=>h_.1))));(case side2=>exact (Kd.R_reads' HO477.out).2.1);(case side3=>refine (Kd.R_reads' (e:=78) (base:=w.heap.size) (ok:=fun k_=>((some k_ ≠ (.slice Ao50 t475.length co50:Value).ownBlock ∧ some k_ ≠ (.slice Ao42 t462.length co42:Value).ownBlock) ∧ some k_ ≠ (.slice Ao43 t466.length co43:Value).ownBlock)) (n:=t479.length) (c:=co51) ?_).2.2;exact (by (with_reducible repeat (first|apply aR|apply nR|apply dR));exact (Kd.R_mono (Kd.R_far (p:=⟨gb482,7,none⟩) (Kd.R_far (p:=⟨gb482,6,none⟩) (Kd.R_far (p:=⟨gb482,5,none⟩) (Kd.R_far (p:=⟨gb482,4,none⟩) (Kd.R_far (p:=⟨gb482,3,none⟩) (Kd.R_far (p:=⟨gb482,2,none⟩) (Kd.R_far (p:=⟨gb482,1,none⟩) (Kd.R_far (p:=⟨gb482,0,none⟩) (Kd.R_types HO481.out BK482.out (by decide)) (fun _ hk=>hk.2) (.int .i64 t470)) (fun _ hk=>hk.2) (.int .i64 t471)) (fun _ hk=>hk.2) (.int .i64 t472)) (fun _ hk=>hk.2) (.int .i64 t473)) (fun _ hk=>hk.2) (.int .i64 t474)) (fun _ hk=>hk.2) (.slice Ao50 t475.length co50)) (fun _ hk=>hk.2) (.int .i64 t478)) (fun _ hk=>hk.2) (.slice Ao51 t479.length co51)) (fun _ h_=>h_.1))));(case side4=>exact (Kd.R_reads' HO481.out).2.1);rintro e w52 ⟨rfl,hb⟩;refine⟨_,rfl,?_⟩;replace HO464:=mk0 (Kd.R_below (by (with_reducible repeat (first|apply aR|apply nR|apply dR));exact (Kd.R_mono (Kd.R_far (p:=⟨gb482,7,none⟩) (Kd.R_far (p:=⟨gb482,6,none⟩) (Kd.R_far (p:=⟨gb482,5,none⟩) (Kd.R_far (p:=⟨gb482,4,none⟩) (Kd.R_far (p:=⟨gb482,3,none⟩) (Kd.R_far (p:=⟨gb482,2,none⟩) (Kd.R_far (p:=⟨gb482,1,none⟩) (Kd.R_far (p:=⟨gb482,0,none⟩) (Kd.R_types HO464.out BK482.out (by decide)) (fun _ hk=>hk.2) (.int .i64 t470)) (fun _ hk=>hk.2) (.int .i64 t471)) (fun _ hk=>hk.2) (.int .i64 t472)) (fun _ hk=>hk.2) (.int .i64 t473)) (fun _ hk=>hk.2) (.int .i64 t474)) (fun _ hk=>hk.2) (.slice Ao50 t475.length co50)) (fun _ hk=>hk.2) (.int .i64 t478)) (fun _ hk=>hk.2) (.slice Ao51 t479.length co51)) (fun _ h_=>h_.1))) hb);replace HO468:=mk0 (Kd.R_below (by (with_reducible repeat (first|apply aR|apply nR|apply dR));exact (Kd.R_mono (Kd.R_far (p:=⟨gb482,7,none⟩) (Kd.R_far (p:=⟨gb482,6,none⟩) (Kd.R_far (p:=⟨gb482,5,none⟩) (Kd.R_far (p:=⟨gb482,4,none⟩) (Kd.R_far (p:=⟨gb482,3,none⟩) (Kd.R_far (p:=⟨gb482,2,none⟩) (Kd.R_far (p:=⟨gb482,1,none⟩) (Kd.R_far (p:=⟨gb482,0,none⟩) (Kd.R_types HO468.out BK482.out (by decide)) (fun _ hk=>hk.2) (.int .i64 t470)) (fun _ hk=>hk.2) (.int .i64 t471)) (fun _ hk=>hk.2) (.int .i64 t472)) (fun _ hk=>hk.2) (.int .i64 t473)) (fun _ hk=>hk.2) (.int .i64 t474)) (fun _ hk=>hk.2) (.slice Ao50 t475.length co50)) (fun _ hk=>hk.2) (.int .i64 t478)) (fun _ hk=>hk.2) (.slice Ao51 t479.length co51)) (fun _ h_=>h_.1))) hb);replace HO477:=mk0 (Kd.R_below (by (with_reducible repeat (first|apply aR|apply nR|apply dR));exact (Kd.R_mono (Kd.R_far (p:=⟨gb482,7,none⟩) (Kd.R_far (p:=⟨gb482,6,none⟩) (Kd.R_far (p:=⟨gb482,5,none⟩) (Kd.R_far (p:=⟨gb482,4,none⟩) (Kd.R_far (p:=⟨gb482,3,none⟩) (Kd.R_far (p:=⟨gb482,2,none⟩) (Kd.R_far (p:=⟨gb482,1,none⟩) (Kd.R_far (p:=⟨gb482,0,none⟩) (Kd.R_types HO477.out BK482.out (by decide)) (fun _ hk=>hk.2) (.int .i64 t470)) (fun _ hk=>hk.2) (.int .i64 t471)) (fun _ hk=>hk.2) (.int .i64 t472)) (fun _ hk=>hk.2) (.int .i64 t473)) (fun _ hk=>hk.2) (.int .i64 t474)) (fun _ hk=>hk.2) (.slice Ao50 t475.length co50)) (fun _ hk=>hk.2) (.int .i64 t478)) (fun _ hk=>hk.2) (.slice Ao51 t479.length co51)) (fun _ h_=>h_.1))) hb);replace HO481:=mk0 (Kd.R_below (by (with_reducible repeat (first|apply aR|apply nR|apply dR));exact (Kd.R_mono (Kd.R_far (p:=⟨gb482,7,none⟩) (Kd.R_far (p:=⟨gb482,6,none⟩) (Kd.R_far (p:=⟨gb482,5,none⟩) (Kd.R_far (p:=⟨gb482,4,none⟩) (Kd.R_far (p:=⟨gb482,3,none⟩) (Kd.R_far (p:=⟨gb482,2,none⟩) (Kd.R_far (p:=⟨gb482,1,none⟩) (Kd.R_far (p:=⟨gb482,0,none⟩) (Kd.R_types HO481.out BK482.out (by decide)) (fun _ hk=>hk.2) (.int .i64 t470)) (fun _ hk=>hk.2) (.int .i64 t471)) (fun _ hk=>hk.2) (.int .i64 t472)) (fun _ hk=>hk.2) (.int .i64 t473)) (fun _ hk=>hk.2) (.int .i64 t474)) (fun _ hk=>hk.2) (.slice Ao50 t475.length co50)) (fun _ hk=>hk.2) (.int .i64 t478)) (fun _ hk=>hk.2) (.slice Ao51 t479.length co51)) (fun _ h_=>h_.1))) hb);replace BK455:=mk0 (blk_below (g:=gb455) (o:=.cells #[.int .i64 a0_0,.int .i64 a0_1,.int .i64 a0_2,.int .i64 a0_3,.int .i64 a0_4,.slice A0_5 l0_5.length c0_5,.int .i64 a0_6,.slice A0_7 l0_7.length c0_7] 45 (0,0)) (by (with_reducible repeat (first|apply nB|apply dB|apply aB));refine blk_far ?_ NB455_482.out _;(with_reducible repeat (first|apply nB|apply dB|apply aB));refine blk_far ?_ NB455_482.out _;(with_reducible repeat (first|apply nB|apply dB|apply aB));refine blk_far ?_ NB455_482.out _;(with_reducible repeat (first|apply nB|apply dB|apply aB));refine blk_far ?_ NB455_482.out _;(with_reducible repeat (first|apply nB|apply dB|apply aB));refine blk_far ?_ NB455_482.out _;(with_reducible repeat (first|apply nB|apply dB|apply aB));refine blk_far ?_ NB455_482.out _;(with_reducible repeat (first|apply nB|apply dB|apply aB));refine blk_far ?_ NB455_482.out _;(with_reducible repeat (first|apply nB|apply dB|apply aB));refine blk_far ?_ NB455_482.out _;(with_reducible repeat (first|apply nB|apply dB|apply aB));exact BK455.out) hb);replace BK482:=mk0 (blk_below (g:=gb482) (o:=.cells #[.int .i64 t470,.int .i64 t471,.int .i64 t472,.int .i64 t473,.int .i64 t474,.slice Ao50 t475.length co50,.int .i64 t478,.slice Ao51 t479.length co51] 33 (0,0)) (by (with_reducible repeat (first|apply nB|apply dB|apply aB));refine blk_put (cs:=#[.int .i64 t470,.int .i64 t471,.int .i64 t472,.int .i64 t473,.int .i64 t474,.slice Ao50 t475.length co50,.int .i64 t478,.slice none 0 0]) ?_ 7 _ rfl;(with_reducible repeat (first|apply nB|apply dB|apply aB));refine blk_put (cs:=#[.int .i64 t470,.int .i64 t471,.int .i64 t472,.int .i64 t473,.int .i64 t474,.slice Ao50 t475.length co50,.int .i64 0,.slice none 0 0]) ?_ 6 _ rfl;(with_reducible repeat (first|apply nB|apply dB|apply aB));refine blk_put (cs:=#[.int .i64 t470,.int .i64 t471,.int .i64 t472,.int .i64 t473,.int .i64 t474,.slice none 0 0,.int .i64 0,.slice none 0 0]) ?_ 5 _ rfl;(with_reducible repeat (first|apply nB|apply dB|apply aB));refine blk_put (cs:=#[.int .i64 t470,.int .i64 t471,.int .i64 t472,.int .i64 t473,.int .i64 0,.slice none 0 0,.int .i64 0,.slice none 0 0]) ?_ 4 _ rfl;(with_reducible repeat (first|apply nB|apply dB|apply aB));refine blk_put (cs:=#[.int .i64 t470,.int .i64 t471,.int .i64 t472,.int .i64 0,.int .i64 0,.slice none 0 0,.int .i64 0,.slice none 0 0]) ?_ 3 _ rfl;(with_reducible repeat (first|apply nB|apply dB|apply aB));refine blk_put (cs:=#[.int .i64 t470,.int .i64 t471,.int .i64 0,.int .i64 0,.int .i64 0,.slice none 0 0,.int .i64 0,.slice none 0 0]) ?_ 2 _ rfl;(with_reducible repeat (first|apply nB|apply dB|apply aB));refine blk_put (cs:=#[.int .i64 t470,.int .i64 0,.int .i64 0,.int .i64 0,.int .i64 0,.slice none 0 0,.int .i64 0,.slice none 0 0]) ?_ 1 _ rfl;(with_reducible repeat (first|apply nB|apply dB|apply aB));refine blk_put (cs:=#[.int .i64 0,.int .i64 0,.int .i64 0,.int .i64 0,.int .i64 0,.slice none 0 0,.int .i64 0,.slice none 0 0]) ?_ 0 _ rfl;(with_reducible repeat (first|apply nB|apply dB|apply aB));exact BK482.out) hb);replace HB:=mk0 (kS HB.out hb);(try clear hb);(try clear hb2);(try clear hk);(try clear hi)))
 replace HO464:=mk0 (dR HO464.out)
 replace HO468:=mk0 (dR HO468.out)
 replace HO477:=mk0 (dR HO477.out)
 replace HO481:=mk0 (dR HO481.out)
 replace BK455:=mk0 (dB BK455.out)
 replace BK482:=mk0 (dB BK482.out)
 replace HB:=mk0 (dZ HB.out)
 refine start_ (n:=5) (S:=fun w'=>w'.cell? ⟨gb482,0,none⟩ = some (.int .i64 t470) ∧ w'.cell? ⟨gb482,1,none⟩ = some (.int .i64 t471) ∧ w'.cell? ⟨gb482,2,none⟩ = some (.int .i64 t472) ∧ w'.cell? ⟨gb482,3,none⟩ = some (.int .i64 t473) ∧ w'.cell? ⟨gb482,4,none⟩ = some (.int .i64 t474) ∧ w'.cell? ⟨gb482,5,none⟩ = some (.slice Ao50 t475.length co50) ∧ w'.cell? ⟨gb482,6,none⟩ = some (.int .i64 t478) ∧ w'.cell? ⟨gb482,7,none⟩ = some (.slice Ao51 t479.length co51) ∧ w'.cell? ⟨gb455,0,none⟩ = some (.int .i64 a0_0) ∧ w'.cell? ⟨gb455,1,none⟩ = some (.int .i64 a0_1) ∧ w'.cell? ⟨gb455,2,none⟩ = some (.int .i64 a0_2) ∧ w'.cell? ⟨gb455,3,none⟩ = some (.int .i64 a0_3) ∧ w'.cell? ⟨gb455,4,none⟩ = some (.int .i64 a0_4) ∧ w'.cell? ⟨gb455,5,none⟩ = some (.slice A0_5 l0_5.length c0_5) ∧ w'.cell? ⟨gb455,6,none⟩ = some (.int .i64 a0_6) ∧ w'.cell? ⟨gb455,7,none⟩ = some (.slice A0_7 l0_7.length c0_7)) (ds:=[]) #[false,false,false,false,false] (by kernel_rfl) rfl rfl ⟨(blk_cell BK482.out 0).trans rfl,(blk_cell BK482.out 1).trans rfl,(blk_cell BK482.out 2).trans rfl,(blk_cell BK482.out 3).trans rfl,(blk_cell BK482.out 4).trans rfl,(blk_cell BK482.out 5).trans rfl,(blk_cell BK482.out 6).trans rfl,(blk_cell BK482.out 7).trans rfl,(blk_cell BK455.out 0).trans rfl,(blk_cell BK455.out 1).trans rfl,(blk_cell BK455.out 2).trans rfl,(blk_cell BK455.out 3).trans rfl,(blk_cell BK455.out 4).trans rfl,(blk_cell BK455.out 5).trans rfl,(blk_cell BK455.out 6).trans rfl,(blk_cell BK455.out 7).trans rfl⟩ (fun hHeld=>?_)
 generalize w52.drew = w53 at HO464 HO468 HO477 HO481 BK455 BK482 HB hHeld ⊢
 refine take_ (i:=0) (N:=some 26) (v:=?_) (a':=?_) #[true,false,false,false,false] rfl rfl (by kernel_rfl) (fun _ _ _ h=>h) (Or.inl ⟨by rfl,?_⟩) hHeld ?_ ?_
 rotate_left
 ·rintro w' ⟨s0,s1,s2,s3,s4,s5,s6,s7,s8,s9,s10,s11,s12,s13,s14,s15⟩
  go_simp
  with_reducible rfl
 rotate_left
 ·simp only [Act.put,sA,sO,sS,i64_w,i32_w]
  rfl
 refine take_ (i:=1) (N:=some 27) (v:=?_) (a':=?_) #[true,true,false,false,false] rfl rfl (by kernel_rfl) (fun _ _ _ h=>h) (Or.inl ⟨by rfl,?_⟩) hHeld ?_ ?_
 rotate_left
 ·rintro w' ⟨s0,s1,s2,s3,s4,s5,s6,s7,s8,s9,s10,s11,s12,s13,s14,s15⟩
  go_simp
  with_reducible rfl
 rotate_left
 ·simp only [Act.put,sA,sO,sS,i64_w,i32_w]
  rfl
 refine one_ (i:=2) (N:=some 28) #[true,true,true,false,false] rfl rfl (by kernel_rfl) (by decide) (fun K hK=>?_)
 refine goes_ Try.func19 (by kernel_rfl) rfl #[.agg #[.int .i64 a0_0,.int .i64 a0_1,.int .i64 a0_2,.int .i64 a0_3,.int .i64 a0_4,.slice A0_5 l0_5.length c0_5,.int .i64 a0_6,.slice A0_7 l0_7.length c0_7]] (by rfl) rfl rfl (by (try simp only [mA,mC,mN]);first|done|rfl|(simp only [List.length_drop,List.length_take];rfl)) ?_
 with_reducible refine (laws_toSparse.calls k a0_0 a0_1 a0_2 a0_3 a0_4 _ _ l0_5 a0_6 _ _ l0_7 t484 t485 t486 t487 t488 t489 t492 t493 _ ?side1 ?side2 ?side3 ?side4 A13.out).mono ?_
 (case side1=>exact kC (Kd.C_below HR0_5.out HB.out))
 (case side2=>exact HC0_5.out)
 (case side3=>exact kC (Kd.C_below HR0_7.out HB.out))
 (case side4=>exact HC0_7.out)
 rintro e w54 ⟨v490,v494,rfl,ho0,ho1,hb⟩
 refine⟨_,rfl,?_⟩
 have HO491:=mk0 (Kd.R_lower (Kd.R_new' (Kd.R_new' (Kd.R_new' (Kd.R_new' ho0 (Kd.R_lt (rR HO464.out))) (Kd.R_lt (rR HO468.out))) (Kd.R_lt (rR HO477.out))) (Kd.R_lt (rR HO481.out))) (kZ HB.out))
 have HO495:=mk0 (Kd.R_lower (Kd.R_new' (Kd.R_new' (Kd.R_new' (Kd.R_new' ho1 (Kd.R_lt (rR HO464.out))) (Kd.R_lt (rR HO468.out))) (Kd.R_lt (rR HO477.out))) (Kd.R_lt (rR HO481.out))) (kZ HB.out))
 replace HO464:=mk0 (Kd.R_mono (Kd.R_told (Kd.R_told (Kd.R_old (rR HO464.out) hb) (Kd.R_base ho0)) (Kd.R_base ho1)) (fun _ h_=>h_.1))
 replace HO468:=mk0 (Kd.R_mono (Kd.R_told (Kd.R_told (Kd.R_old (rR HO468.out) hb) (Kd.R_base ho0)) (Kd.R_base ho1)) (fun _ h_=>h_.1))
 replace HO477:=mk0 (Kd.R_mono (Kd.R_told (Kd.R_told (Kd.R_old (rR HO477.out) hb) (Kd.R_base ho0)) (Kd.R_base ho1)) (fun _ h_=>h_.1))
 replace HO481:=mk0 (Kd.R_mono (Kd.R_told (Kd.R_told (Kd.R_old (rR HO481.out) hb) (Kd.R_base ho0)) (Kd.R_base ho1)) (fun _ h_=>h_.1))
 replace BK455:=mk0 (kK BK455.out hb)
 replace BK482:=mk0 (kK BK482.out hb)
 replace HB:=mk0 (kS HB.out hb)
 (try clear hb)
 (try clear ho0)
 (try clear ho1)
 obtain⟨Ao55,co55,eo55⟩:=Kd.R_slice HO491.out
 (first|subst eo55|(injection eo55 with f1_ f2_ f3_;have f4_:=f1_.symm;have f5_:=f3_.symm;clear f1_ f2_ f3_;subst f4_;subst f5_))
 obtain⟨Ao56,co56,eo56⟩:=Kd.R_slice HO495.out
 (first|subst eo56|(injection eo56 with f1_ f2_ f3_;have f4_:=f1_.symm;have f5_:=f3_.symm;clear f1_ f2_ f3_;subst f4_;subst f5_))
 refine hK.out _ _ ⟨(blk_cell BK482.out 0).trans rfl,(blk_cell BK482.out 1).trans rfl,(blk_cell BK482.out 2).trans rfl,(blk_cell BK482.out 3).trans rfl,(blk_cell BK482.out 4).trans rfl,(blk_cell BK482.out 5).trans rfl,(blk_cell BK482.out 6).trans rfl,(blk_cell BK482.out 7).trans rfl,(blk_cell BK455.out 0).trans rfl,(blk_cell BK455.out 1).trans rfl,(blk_cell BK455.out 2).trans rfl,(blk_cell BK455.out 3).trans rfl,(blk_cell BK455.out 4).trans rfl,(blk_cell BK455.out 5).trans rfl,(blk_cell BK455.out 6).trans rfl,(blk_cell BK455.out 7).trans rfl⟩ (fun hHeld=>?_)
 clear hK K
 refine norm_ (a':=?_) ?_ ?_
 rotate_left
 ·show Act.put _ (some 28) _ = _
  simp only [Act.put,sA,sO,sS,i64_w,i32_w]
  rfl
 refine one_ (i:=3) (N:=some 29) #[true,true,true,true,false] rfl rfl (by kernel_rfl) (by decide) (fun K hK=>?_)
 refine goes_ Try.func20 (by kernel_rfl) rfl #[.agg #[.int .i64 t470,.int .i64 t471,.int .i64 t472,.int .i64 t473,.int .i64 t474,.slice Ao50 t475.length co50,.int .i64 t478,.slice Ao51 t479.length co51],.agg #[.int .i64 t484,.int .i64 t485,.int .i64 t486,.int .i64 t487,.int .i64 t488,.slice Ao55 t489.length co55,.int .i64 t492,.slice Ao56 t493.length co56]] (by rfl) rfl rfl (by (try simp only [mA,mC,mN]);first|done|rfl|(simp only [List.length_drop,List.length_take];rfl)) ?_
 with_reducible refine (laws_eqSparse.calls k t470 t471 t472 t473 t474 _ _ t475 t478 _ _ t479 t484 t485 t486 t487 t488 _ _ t489 t492 _ _ t493 false _ ?side1 ?side2 ?side3 ?side4 ?side5 ?side6 ?side7 ?side8 A14.out).mono ?_
 (case side1=>exact kC (Kd.R_reads' HO477.out).2.2)
 (case side2=>exact (Kd.R_reads' HO477.out).2.1)
 (case side3=>exact kC (Kd.R_reads' HO481.out).2.2)
 (case side4=>exact (Kd.R_reads' HO481.out).2.1)
 (case side5=>exact kC (Kd.R_reads' HO491.out).2.2)
 (case side6=>exact (Kd.R_reads' HO491.out).2.1)
 (case side7=>exact kC (Kd.R_reads' HO495.out).2.2)
 (case side8=>exact (Kd.R_reads' HO495.out).2.1)
 rintro e w57 ⟨rfl,hb⟩
 refine⟨_,rfl,?_⟩
 replace HO464:=mk0 (bR HO464.out hb)
 replace HO468:=mk0 (bR HO468.out hb)
 replace HO477:=mk0 (bR HO477.out hb)
 replace HO481:=mk0 (bR HO481.out hb)
 replace HO491:=mk0 (bR HO491.out hb)
 replace HO495:=mk0 (bR HO495.out hb)
 replace BK455:=mk0 (kK BK455.out hb)
 replace BK482:=mk0 (kK BK482.out hb)
 replace HB:=mk0 (kS HB.out hb)
 (try clear hb)
 refine hK.out _ _ ⟨(blk_cell BK482.out 0).trans rfl,(blk_cell BK482.out 1).trans rfl,(blk_cell BK482.out 2).trans rfl,(blk_cell BK482.out 3).trans rfl,(blk_cell BK482.out 4).trans rfl,(blk_cell BK482.out 5).trans rfl,(blk_cell BK482.out 6).trans rfl,(blk_cell BK482.out 7).trans rfl,(blk_cell BK455.out 0).trans rfl,(blk_cell BK455.out 1).trans rfl,(blk_cell BK455.out 2).trans rfl,(blk_cell BK455.out 3).trans rfl,(blk_cell BK455.out 4).trans rfl,(blk_cell BK455.out 5).trans rfl,(blk_cell BK455.out 6).trans rfl,(blk_cell BK455.out 7).trans rfl⟩ (fun hHeld=>?_)
 clear hK K
 refine norm_ (a':=?_) ?_ ?_
 rotate_left
 ·show Act.put _ (some 29) _ = _
  simp only [Act.put,sA,sO,sS,i64_w,i32_w]
  rfl
 refine pure_ (i:=4) (N:=some 30) (v:=?_) (a':=?_) #[true,true,true,true,true] rfl rfl (by kernel_rfl) (fun _ _ _ h=>h) (Or.inl ⟨by rfl,?_⟩) ?_ ?_
 rotate_left
 ·intro w'
  go_simp
  with_reducible rfl
 rotate_left
 ·simp only [Act.put,sA,sO,sS,i64_w,i32_w]
  rfl
 refine done_ (by kernel_rfl) ?_
 try go_wp2
 go_ret
 exact⟨by first|rfl|(simp [errW_none,errW_some] <;> rfl)|(simp [*,errW_none,errW_some] <;> rfl),kB HB.out⟩
/-- The plain statement of laws_FnExactSparseRank. -/
def laws_FnExactSparseRank.Pure : Prop := ∀ (a0_0 : Int) (a0_1 : Int) (a0_2 : Int) (a0_3 : Int) (a0_4 : Int) (l0_5 : List Int) (a0_6 : Int) (l0_7 : List Int) (a1 : Int), ok45 ((⟨a0_0, a0_1, (⟨a0_2, a0_3, (⟨a0_4, l0_5⟩ : S41)⟩ : S43), (⟨a0_6, l0_7⟩ : S41)⟩ : S45)) → (Fv.OkI .i64) a1 → ∃ k, laws_FnExactSparseRank.f k a0_0 a0_1 a0_2 a0_3 a0_4 l0_5 a0_6 l0_7 a1 = some true

end Go.Proofs.Ytmohfjfgpeapfaa.QFnExactSparseRank
