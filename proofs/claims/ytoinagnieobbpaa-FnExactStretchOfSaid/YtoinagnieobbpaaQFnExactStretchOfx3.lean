-- A walk, made by walk.py, a program of this session's.
import Derived.Test.YtoinagnieobbpaaQFnExactStretchOfx0
import Derived.Test.YtoinagnieobbpaaQFnExactStretchOfx1
import Derived.Test.YtoinagnieobbpaaQFnExactStretchOfx2
namespace Go.Proofs.Ytoinagnieobbpaa.QFnExactStretchOf
open Go.RowKit Go.Proofs.YtoinagnieobbpaaW.PrintWords Go.Proofs.YtoinagnieobbpaaW.PrintLast Go.Proofs.YtoinagnieobbpaaW.PrintMore
attribute [local go_sem] max2_int min2_int max_two min_two max_three min_three max_four min_four   -- for this text's walks alone
set_option linter.unusedVariables false
set_option linter.unusedSimpArgs false

/-! ### spec_RowsOf: function 45 -/
def spec_RowsOf.l0 : Nat → List Int → List Int → Int → Int → Option (Int × Int)
 | 0, _, _, _, _ => none
 | k + 1, x0, x1, x6, x7 => if x7 ≤ (x0.length : Int) then (if 0 ≤ x7 then ((spec_l05Cmp.f k (x0.drop (x7 : Int).toNat) x1).bind fun t174 => (if t174 < 0 then (spec_RowsOf.l0 k x0 x1 (wrap64 (x6 + 1)) (wrap64 (x7 + 1))) else (spec_RowsOf.l0 k x0 x1 x6 (wrap64 (x7 + 1))))) else (none)) else ((spec_Occurs.f k x0 x1).bind fun t175 => (some (x6, wrap64 (x6 + (t175.length : Int)))))
def spec_RowsOf.f (k : Nat) (l0 : List Int) (l1 : List Int) : Option (Int × Int) := (spec_TextOk.f l0).bind fun t172 => (if t172 = true then (spec_RowsOf.l0 k l0 l1 0 0) else (some (0, 0)))
theorem spec_RowsOf.mono_l : ∀ k, (∀ y0 y1 y2 y3, LeO (spec_RowsOf.l0 k y0 y1 y2 y3) (spec_RowsOf.l0 (k + 1) y0 y1 y2 y3))
 | 0 => fun _ _ _ _ r h => by simp [spec_RowsOf.l0] at h
 | k + 1 => by
  have ih0 := spec_RowsOf.mono_l k
  ·intro y0 y1 y2 y3
   unfold spec_RowsOf.l0
   repeat' first|(with_reducible first|exact ih0 _ _ _ _|exact spec_Occurs.mono _ _ _|exact spec_l05Cmp.mono _ _ _|exact LeO.refl _|exact LeO.none _|refine LeO.ite ?_ ?_|refine LeO.bind ?_ (fun _ => ?_))|exact LeO.none _|refine LeO.ite ?_ ?_|refine LeO.bind ?_ (fun _ => ?_)
theorem spec_RowsOf.mono : ∀ a0 a1 k, LeO (spec_RowsOf.f k a0 a1) (spec_RowsOf.f (k + 1) a0 a1) := by
 intro a0 a1 k
 have ih0 := spec_RowsOf.mono_l k
 unfold spec_RowsOf.f
 repeat' first|(with_reducible first|exact ih0 _ _ _ _|exact spec_Occurs.mono _ _ _|exact spec_l05Cmp.mono _ _ _|exact LeO.refl _|exact LeO.none _|refine LeO.ite ?_ ?_|refine LeO.bind ?_ (fun _ => ?_))|exact LeO.none _|refine LeO.ite ?_ ?_|refine LeO.bind ?_ (fun _ => ?_)
set_option maxHeartbeats 8000000 in
set_option maxRecDepth 100000 in
theorem spec_RowsOf.calls (k : Nat) (A0 : Option Addr) (c0 : Nat) (l0 : List Int) (A1 : Option Addr) (c1 : Nat) (l1 : List Int) (r1 : Int) (r2 : Int) (w : World) (hr0 : Kd.C (Kd.int .u8) w A0 l0.length l0) (hc0 : l0.length ≤ c0) (hr1 : Kd.C (Kd.int .u8) w A1 l1.length l1) (hc1 : l1.length ≤ c1) (h : spec_RowsOf.f k l0 l1 = some (r1, r2)) :
  Calls Try.prog 45 #[.slice A0 l0.length c0, .slice A1 l1.length c1] w fun e w' => e = .returned (.tuple #[.int .i64 r1, .int .i64 r2]) ∧ Below w.heap.size w w' := by
 have HR0:=mk0 hr0
 have HC0:=mk0 hc0
 clear hr0 hc0
 have HR1:=mk0 hr1
 have HC1:=mk0 hc1
 clear hr1 hc1
 have HB:=mk0 (Below.refl w.heap.size w)
 have H:((spec_TextOk.f l0).bind fun t172=>(if t172 = true then (spec_RowsOf.l0 k l0 l1 0 0) else (some (0,0)))) = some (r1,r2):=h
 clear h
 replace H:=Option.bind_eq_some_iff.mp H
 obtain⟨t172,A30,H⟩:=H
 replace H:(if t172 = true then (spec_RowsOf.l0 k l0 l1 0 0) else (some (0,0))) = some (r1,r2):=H
 have A3:=mk0 A30
 clear A30
 by_cases c4:t172 = true
 ·subst c4
  have H1:(spec_RowsOf.l0 k l0 l1 0 0) = some (r1,r2):=by rw [if_pos rfl] at H;exact H
  clear H
  have H:=H1
  clear H1
  have H':=mk0 H
  clear H
  go_enter Try.func45,Try.ntmps45
  go_wp2_with (first|((with_reducible refine gate_callee (f:=36) rfl ?_);refine goesL_ (some 9) rfl rfl Try.func36 (by kernel_rfl) rfl #[.slice A0 l0.length c0] rfl (by (try simp only [mA,mC,mN]);first|done|rfl|(simp only [List.length_drop,List.length_take];done)|(simp only [List.length_drop,List.length_take];rfl)) ?_;(with_reducible refine (spec_TextOk.calls _ _ l0 true _ ?side1 ?side2 A3.out).mono ?_);(case side1=>repeat (first|exact HR0.out|(with_reducible first|apply aC|apply nC|apply dC)));(case side2=>exact HC0.out);rintro e w' ⟨rfl,⟨nd,rfl⟩⟩;refine⟨_,rfl,?_⟩))
  go_loopg [6,7] k (fun kq v6 v7 w'=>∃ (x6_1:Int) (x7_1:Int),v6 = .int .i64 x6_1 ∧ v7 = .int .i64 x7_1 ∧ Aside0 (spec_RowsOf.l0 kq l0 l1 x6_1 x7_1 = some (r1,r2)) ∧ Aside0 (kq ≤ k) ∧ Aside0 (Below w.heap.size w w'))
  case atStart=>exact⟨(0),(0),(by first|rfl|(simp;done)|(simp [*];done)),(by first|rfl|(simp;done)|(simp [*];done)),H',⟨Nat.le_refl _⟩,⟨kB HB.out⟩⟩
  case round =>
   clear H'
   try clear c1
   try clear p2
   try clear c3
   try clear c4
   obtain⟨x6_1,x7_1,rfl,rfl,HA,HK1,HB⟩:=hrel
   cases gk with
   | zero=>exact absurd HA.out (by simp [spec_RowsOf.l0])
   | succ k1 =>
    have H:=HA.out
    clear HA
    simp only [spec_RowsOf.l0] at H
    by_cases c5:x7_1 ≤ (l0.length:Int)
    ·rw [if_pos c5] at H
     have c5b0:decide (x7_1 ≤ (l0.length:Int)) = true:=decide_eq_true c5
     clear c5
     by_cases c6:0 ≤ x7_1
     ·rw [if_pos c6] at H
      have c6b0:=eq_true c6
      have c6b1:decide (0 ≤ x7_1) = true:=decide_eq_true c6
      clear c6
      have c7b0:=eq_true (of_decide_eq_true (by first|(with_reducible assumption)|assumption):x7_1 ≤ (l0.length:Int))
      replace H:=Option.bind_eq_some_iff.mp H
      obtain⟨t174,A80,H⟩:=H
      replace H:(if t174 < 0 then (spec_RowsOf.l0 k1 l0 l1 (wrap64 (x6_1 + 1)) (wrap64 (x7_1 + 1))) else (spec_RowsOf.l0 k1 l0 l1 x6_1 (wrap64 (x7_1 + 1)))) = some (r1,r2):=H
      have A8:=mk0 A80
      clear A80
      by_cases c9:t174 < 0
      ·rw [if_pos c9] at H
       have c9b0:decide (t174 < 0) = true:=decide_eq_true c9
       clear c9
       have H':=mk0 H
       clear H
       obtain⟨i010,hi010,_,hsz10,_⟩:=info_parts info5
       obtain⟨A10,hcut10,hA10,hC10⟩:=print_drop_of (P:=Try.prog) (Value.int .u8) 0 22 5 .i64 Try.underlying22 hi010 hsz10 A0 c0 l0 x7_1 (of_decide_eq_true (by first|(with_reducible assumption)|assumption)) (of_decide_eq_true (by first|(with_reducible assumption)|assumption)) HC0.out
       have HR173:=mk0 (Kd.C_of_reads (h1:=fun _=>rfl) (hA10 _ (Kd.reads_of_C HR0.out)))
       have HC173:=mk0 hC10
       clear hA10 hC10 hi010 hsz10
       go_wp2_with (first|((with_reducible refine gate_callee (f:=64) rfl ?_);refine goesL_ (some 21) rfl rfl Try.func64 (by kernel_rfl) rfl #[.slice A10 (l0.drop (x7_1:Int).toNat).length (c0 - x7_1.toNat),.slice A1 l1.length c1] rfl (by (try simp only [mA,mC,mN]);first|done|(rw [show (l0.drop (x7_1:Int).toNat).length = (l0.length - x7_1.toNat) from List.length_drop] <;> rfl)|rfl|(simp only [List.length_drop,List.length_take];done)|(simp only [List.length_drop,List.length_take];rfl)) ?_;(with_reducible refine (spec_l05Cmp.calls k1 _ _ (l0.drop (x7_1:Int).toNat) _ _ l1 t174 _ ?side1 ?side2 ?side3 ?side4 A8.out).mono ?_);(case side1=>exact kC (Kd.C_below HR173.out HB.out));(case side2=>exact HC173.out);(case side3=>exact kC (Kd.C_below HR1.out HB.out));(case side4=>exact HC1.out);rintro e w' ⟨rfl,⟨nd,rfl⟩⟩;refine⟨_,rfl,?_⟩))
       go_roundg k1
       case measure=>have:=HK1.out;omega
       case rel=>exact⟨(wrap64 (x6_1 + 1)),(wrap64 (x7_1 + 1)),(by first|rfl|(simp;done)|(simp [*];done)),(by first|rfl|(simp;done)|(simp [*];done)),H',⟨by have:=HK1.out;omega⟩,⟨kB HB.out⟩⟩
      ·rw [if_neg c9] at H
       have c9b0:decide (t174 < 0) = false:=decide_eq_false c9
       clear c9
       have H':=mk0 H
       clear H
       obtain⟨i011,hi011,_,hsz11,_⟩:=info_parts info5
       obtain⟨A11,hcut11,hA11,hC11⟩:=print_drop_of (P:=Try.prog) (Value.int .u8) 0 22 5 .i64 Try.underlying22 hi011 hsz11 A0 c0 l0 x7_1 (of_decide_eq_true (by first|(with_reducible assumption)|assumption)) (of_decide_eq_true (by first|(with_reducible assumption)|assumption)) HC0.out
       have HR173:=mk0 (Kd.C_of_reads (h1:=fun _=>rfl) (hA11 _ (Kd.reads_of_C HR0.out)))
       have HC173:=mk0 hC11
       clear hA11 hC11 hi011 hsz11
       go_wp2_with (first|((with_reducible refine gate_callee (f:=64) rfl ?_);refine goesL_ (some 21) rfl rfl Try.func64 (by kernel_rfl) rfl #[.slice A11 (l0.drop (x7_1:Int).toNat).length (c0 - x7_1.toNat),.slice A1 l1.length c1] rfl (by (try simp only [mA,mC,mN]);first|done|(rw [show (l0.drop (x7_1:Int).toNat).length = (l0.length - x7_1.toNat) from List.length_drop] <;> rfl)|rfl|(simp only [List.length_drop,List.length_take];done)|(simp only [List.length_drop,List.length_take];rfl)) ?_;(with_reducible refine (spec_l05Cmp.calls k1 _ _ (l0.drop (x7_1:Int).toNat) _ _ l1 t174 _ ?side1 ?side2 ?side3 ?side4 A8.out).mono ?_);(case side1=>exact kC (Kd.C_below HR173.out HB.out));(case side2=>exact HC173.out);(case side3=>exact kC (Kd.C_below HR1.out HB.out));(case side4=>exact HC1.out);rintro e w' ⟨rfl,⟨nd,rfl⟩⟩;refine⟨_,rfl,?_⟩))
       go_roundg k1
       case measure=>have:=HK1.out;omega
       case rel=>exact⟨(x6_1),(wrap64 (x7_1 + 1)),(by first|rfl|(simp;done)|(simp [*];done)),(by first|rfl|(simp;done)|(simp [*];done)),H',⟨by have:=HK1.out;omega⟩,⟨kB HB.out⟩⟩
     ·rw [if_neg c6] at H
      exact absurd H (by simp)
    ·rw [if_neg c5] at H
     have c5b0:decide (x7_1 ≤ (l0.length:Int)) = false:=decide_eq_false c5
     clear c5
     replace H:=Option.bind_eq_some_iff.mp H
     obtain⟨t175,A120,H⟩:=H
     replace H:(some (x6_1,wrap64 (x6_1 + (t175.length:Int)))) = some (r1,r2):=H
     have A12:=mk0 A120
     clear A120
     simp only [Option.some.injEq,Prod.mk.injEq] at H
     obtain⟨rfl,rfl⟩:=H
     go_wp2_with (first|((with_reducible refine gate_callee (f:=68) rfl ?_);refine goesL_ (some 29) rfl rfl Try.func68 (by kernel_rfl) rfl #[.slice A0 l0.length c0,.slice A1 l1.length c1] rfl (by (try simp only [mA,mC,mN]);first|done|rfl|(simp only [List.length_drop,List.length_take];done)|(simp only [List.length_drop,List.length_take];rfl)) ?_;(with_reducible refine (spec_Occurs.calls k1 _ _ l0 _ _ l1 t175 _ ?side1 ?side2 ?side3 ?side4 A12.out).mono ?_);(case side1=>exact kC (Kd.C_below HR0.out HB.out));(case side2=>exact HC0.out);(case side3=>exact kC (Kd.C_below HR1.out HB.out));(case side4=>exact HC1.out);rintro e w13 ⟨v176,rfl,ho0,hb⟩;refine⟨_,rfl,?_⟩;have HO177:=mk0 (Kd.R_lower ho0 (kZ HB.out));replace HB:=mk0 (kS HB.out hb);(try clear hb);(try clear ho0);obtain⟨Ao14,co14,eo14⟩:=Kd.R_slice HO177.out;subst eo14))
     go_ret2
     exact⟨by first|rfl|(simp [errW_none,errW_some] <;> rfl)|(simp [*,errW_none,errW_some] <;> rfl),kB HB.out⟩
 ·replace c4:=Bool.eq_false_iff.mpr c4
  subst c4
  have H1:(some (0,0)) = some (r1,r2):=by rw [if_neg (show ¬ (false = true) by decide)] at H;exact H
  clear H
  have H:=H1
  clear H1
  simp only [Option.some.injEq,Prod.mk.injEq] at H
  obtain⟨rfl,rfl⟩:=H
  go_enter Try.func45,Try.ntmps45
  go_wp2_with (first|((with_reducible refine gate_callee (f:=36) rfl ?_);refine goesL_ (some 9) rfl rfl Try.func36 (by kernel_rfl) rfl #[.slice A0 l0.length c0] rfl (by (try simp only [mA,mC,mN]);first|done|rfl|(simp only [List.length_drop,List.length_take];done)|(simp only [List.length_drop,List.length_take];rfl)) ?_;(with_reducible refine (spec_TextOk.calls _ _ l0 false _ ?side1 ?side2 A3.out).mono ?_);(case side1=>repeat (first|exact HR0.out|(with_reducible first|apply aC|apply nC|apply dC)));(case side2=>exact HC0.out);rintro e w' ⟨rfl,⟨nd,rfl⟩⟩;refine⟨_,rfl,?_⟩))
  go_ret2
  exact⟨by first|rfl|(simp [errW_none,errW_some] <;> rfl)|(simp [*,errW_none,errW_some] <;> rfl),kB HB.out⟩

/-! ### spec_l11Depth: function 46 -/
def spec_l11Depth.l0 : Nat → List Int → Int → Int → Int → Option (Int)
 | 0, _, _, _, _ => none
 | k + 1, x0, x2, x7, x8 => if x8 < x2 then (if 0 ≤ x8 then (if x8 < (x0.length : Int) then (spec_l11Depth.l0 k x0 x2 (mn x7 (rd x0 x8)) (wrap64 (x8 + 1))) else (none)) else (none)) else (some x7)
def spec_l11Depth.f (k : Nat) (l0 : List Int) (a1 : Int) (a2 : Int) : Option (Int) := if 0 ≤ (wrap64 (a1 + 1)) then (if (wrap64 (a1 + 1)) < (l0.length : Int) then (spec_l11Depth.l0 k l0 a2 (rd l0 (wrap64 (a1 + 1))) (wrap64 (a1 + 1))) else (none)) else (none)
theorem spec_l11Depth.mono_l : ∀ k, (∀ y0 y1 y2 y3, LeO (spec_l11Depth.l0 k y0 y1 y2 y3) (spec_l11Depth.l0 (k + 1) y0 y1 y2 y3))
 | 0 => fun _ _ _ _ r h => by simp [spec_l11Depth.l0] at h
 | k + 1 => by
  have ih0 := spec_l11Depth.mono_l k
  ·intro y0 y1 y2 y3
   unfold spec_l11Depth.l0
   repeat' first|(with_reducible first|exact ih0 _ _ _ _|exact LeO.refl _|exact LeO.none _|refine LeO.ite ?_ ?_|refine LeO.bind ?_ (fun _ => ?_))|exact LeO.none _|refine LeO.ite ?_ ?_|refine LeO.bind ?_ (fun _ => ?_)
theorem spec_l11Depth.mono : ∀ a0 a1 a2 k, LeO (spec_l11Depth.f k a0 a1 a2) (spec_l11Depth.f (k + 1) a0 a1 a2) := by
 intro a0 a1 a2 k
 have ih0 := spec_l11Depth.mono_l k
 unfold spec_l11Depth.f
 repeat' first|(with_reducible first|exact ih0 _ _ _ _|exact LeO.refl _|exact LeO.none _|refine LeO.ite ?_ ?_|refine LeO.bind ?_ (fun _ => ?_))|exact LeO.none _|refine LeO.ite ?_ ?_|refine LeO.bind ?_ (fun _ => ?_)
set_option maxHeartbeats 8000000 in
set_option maxRecDepth 100000 in
theorem spec_l11Depth.calls (k : Nat) (A0 : Option Addr) (c0 : Nat) (l0 : List Int) (a1 : Int) (a2 : Int) (r : Int) (w : World) (hr0 : Kd.C (Kd.int .i64) w A0 l0.length l0) (hc0 : l0.length ≤ c0) (h : spec_l11Depth.f k l0 a1 a2 = some r) :
  Calls Try.prog 46 #[.slice A0 l0.length c0, .int .i64 a1, .int .i64 a2] w fun e w' => e = .returned (.int .i64 r) ∧ Below w.heap.size w w' := by
 have HR0:=mk0 hr0
 have HC0:=mk0 hc0
 clear hr0 hc0
 have HB:=mk0 (Below.refl w.heap.size w)
 have H:(if 0 ≤ (wrap64 (a1 + 1)) then (if (wrap64 (a1 + 1)) < (l0.length:Int) then (spec_l11Depth.l0 k l0 a2 (rd l0 (wrap64 (a1 + 1))) (wrap64 (a1 + 1))) else (none)) else (none)) = some r:=h
 clear h
 obtain⟨ji4,hji4⟩:∃ j_:Int,(wrap64 (a1 + 1)) = j_:=⟨_,rfl⟩
 replace H:(if 0 ≤ (ji4) then (if (ji4) < (l0.length:Int) then (spec_l11Depth.l0 k l0 a2 (rd l0 (ji4)) ji4) else (none)) else (none)) = some r:=by first|(rw [hji4] at H;exact H)|(simp only [hji4] at H ⊢;exact H)
 have hji4w:(IntKind.i64.wrap (a1 + 1)) = ji4:=(i64_w _).trans hji4
 by_cases c5:0 ≤ (ji4)
 ·rw [if_pos c5] at H
  have c5b0:decide (0 ≤ (ji4)) = true:=decide_eq_true c5
  clear c5
  by_cases c6:(ji4) < (l0.length:Int)
  ·rw [if_pos c6] at H
   have c6b0:decide ((ji4) < (l0.length:Int)) = true:=decide_eq_true c6
   clear c6
   have H':=mk0 H
   clear H
   have p178:0 ≤ ((ji4):Int):=of_decide_eq_true (by first|(with_reducible assumption)|assumption)
   have q178:(ji4) < (l0.length:Int):=of_decide_eq_true (by first|(with_reducible assumption)|assumption)
   obtain⟨ad178,e178,hx178_0⟩:=Kd.at_int HR0.out (ji4) p178 q178
   cases e178
   replace p178:=eq_true p178
   replace q178:=eq_true q178
   go_enter Try.func46,Try.ntmps46
   go_wp2
   go_loopg [7,8] k (fun kq v7 v8 w'=>∃ (x7_1:Int) (x8_1:Int),v7 = .int .i64 x7_1 ∧ v8 = .int .i64 x8_1 ∧ Aside0 (spec_l11Depth.l0 kq l0 a2 x7_1 x8_1 = some r) ∧ Aside0 (kq ≤ k) ∧ Aside0 (Below w.heap.size w w'))
   case atStart=>exact⟨(rd l0 (ji4)),(ji4),(by first|rfl|(simp;done)|(simp only [← hji4] <;> (first|rfl|simp))|(simp [*];done)),(by first|rfl|(simp;done)|(simp only [← hji4] <;> (first|rfl|simp))|(simp [*];done)),H',⟨Nat.le_refl _⟩,⟨kB HB.out⟩⟩
   case round =>
    clear H'
    try clear p1
    try clear q1
    try clear hx1
    try clear p2
    try clear c4
    try clear c5
    try clear c5b0
    try clear c6
    try clear c6b0
    try clear p6
    try clear hx178_0
    try clear p178
    try clear q178
    obtain⟨x7_1,x8_1,rfl,rfl,HA,HK1,HB⟩:=hrel
    cases gk with
    | zero=>exact absurd HA.out (by simp [spec_l11Depth.l0])
    | succ k1 =>
     have H:=HA.out
     clear HA
     simp only [spec_l11Depth.l0] at H
     by_cases c7:x8_1 < a2
     ·rw [if_pos c7] at H
      have c7b0:decide (x8_1 < a2) = true:=decide_eq_true c7
      clear c7
      by_cases c8:0 ≤ x8_1
      ·rw [if_pos c8] at H
       have c8b0:decide (0 ≤ x8_1) = true:=decide_eq_true c8
       clear c8
       by_cases c9:x8_1 < (l0.length:Int)
       ·rw [if_pos c9] at H
        have c9b0:decide (x8_1 < (l0.length:Int)) = true:=decide_eq_true c9
        clear c9
        obtain⟨ji10,hji10⟩:∃ j_:Int,(mn x7_1 (rd l0 x8_1)) = j_:=⟨_,rfl⟩
        replace H:(spec_l11Depth.l0 k1 l0 a2 ji10 (wrap64 (x8_1 + 1))) = some r:=by first|(rw [hji10] at H;exact H)|(simp only [hji10] at H ⊢;exact H)
        have hji10_:(if (rd l0 x8_1) < x7_1 then (rd l0 x8_1) else x7_1) = ji10:=hji10
        have H':=mk0 H
        clear H
        have p179:0 ≤ (x8_1:Int):=of_decide_eq_true (by first|(with_reducible assumption)|assumption)
        have q179:x8_1 < (l0.length:Int):=of_decide_eq_true (by first|(with_reducible assumption)|assumption)
        obtain⟨ad179,e179,hx179_0⟩:=Kd.at_int HR0.out x8_1 p179 q179
        obtain rfl:ad178 = ad179:=(by injection e179)
        replace hx179_0:=(HB.out.cell (World.block_lt_of_cell? w _ hx179_0)).trans hx179_0
        replace p179:=eq_true p179
        replace q179:=eq_true q179
        go_wp2
        go_roundg k1
        case measure=>have:=HK1.out;omega
        case rel=>exact⟨(ji10),(wrap64 (x8_1 + 1)),(by first|rfl|(simp;done)|(simp only [← hji10] <;> (first|rfl|simp))|(simp [*];done)),(by first|rfl|(simp;done)|(simp [*];done)),H',⟨by have:=HK1.out;omega⟩,⟨kB HB.out⟩⟩
       ·rw [if_neg c9] at H
        exact absurd H (by simp)
      ·rw [if_neg c8] at H
       exact absurd H (by simp)
     ·rw [if_neg c7] at H
      have c7b0:decide (x8_1 < a2) = false:=decide_eq_false c7
      clear c7
      obtain rfl:=Option.some.inj H
      go_wp2
      go_ret
      exact⟨by first|rfl|(simp [errW_none,errW_some] <;> rfl)|(simp only [← hji4];first|rfl|(simp [errW_none,errW_some] <;> rfl))|(simp [*,errW_none,errW_some] <;> rfl),kB HB.out⟩
  ·rw [if_neg c6] at H
   exact absurd H (by simp)
 ·rw [if_neg c5] at H
  exact absurd H (by simp)

/-! ### spec_StretchOf: function 20 -/
def spec_StretchOf.j0 : Nat → List Int → Int → Int → Bool → Option (Int × Int × Int × Bool)
 | 0, _, _, _, _ => none
 | k + 1, x0, x6, x7, x22 => if x22 = true then (some (0, 0, 0, false)) else ((spec_LcpRows.f k x0).bind fun t184 => ((spec_l11Depth.f k t184 x6 x7).bind fun t187 => (some (x6, x7, t187, true))))
def spec_StretchOf.f (k : Nat) (l0 : List Int) (l1 : List Int) : Option (Int × Int × Int × Bool) := (spec_RowsOf.f k l0 l1).bind fun bt181 => ((spec_TextOk.f l0).bind fun t183 => (if t183 = true then (spec_StretchOf.j0 k l0 bt181.1 bt181.2 (decide ((wrap64 (bt181.2 - bt181.1)) < 2))) else (spec_StretchOf.j0 k l0 bt181.1 bt181.2 true)))
theorem spec_StretchOf.mono_l : ∀ k, (∀ y0 y1 y2 y3, LeO (spec_StretchOf.j0 k y0 y1 y2 y3) (spec_StretchOf.j0 (k + 1) y0 y1 y2 y3))
 | 0 => fun _ _ _ _ r h => by simp [spec_StretchOf.j0] at h
 | k + 1 => by
  have ih0 := spec_StretchOf.mono_l k
  ·intro y0 y1 y2 y3
   unfold spec_StretchOf.j0
   repeat' first|(with_reducible first|exact ih0 _ _ _ _|exact spec_LcpRows.mono _ _|exact spec_RowsOf.mono _ _ _|exact spec_l11Depth.mono _ _ _ _|exact LeO.refl _|exact LeO.none _|refine LeO.ite ?_ ?_|refine LeO.bind ?_ (fun _ => ?_))|exact LeO.none _|refine LeO.ite ?_ ?_|refine LeO.bind ?_ (fun _ => ?_)
theorem spec_StretchOf.mono : ∀ a0 a1 k, LeO (spec_StretchOf.f k a0 a1) (spec_StretchOf.f (k + 1) a0 a1) := by
 intro a0 a1 k
 have ih0 := spec_StretchOf.mono_l k
 unfold spec_StretchOf.f
 repeat' first|(with_reducible first|exact ih0 _ _ _ _|exact spec_LcpRows.mono _ _|exact spec_RowsOf.mono _ _ _|exact spec_l11Depth.mono _ _ _ _|exact LeO.refl _|exact LeO.none _|refine LeO.ite ?_ ?_|refine LeO.bind ?_ (fun _ => ?_))|exact LeO.none _|refine LeO.ite ?_ ?_|refine LeO.bind ?_ (fun _ => ?_)
set_option maxHeartbeats 8000000 in
set_option maxRecDepth 100000 in
theorem spec_StretchOf.calls (k : Nat) (A0 : Option Addr) (c0 : Nat) (l0 : List Int) (A1 : Option Addr) (c1 : Nat) (l1 : List Int) (r1 : Int) (r2 : Int) (r3 : Int) (r4 : Bool) (w : World) (hr0 : Kd.C (Kd.int .u8) w A0 l0.length l0) (hc0 : l0.length ≤ c0) (hr1 : Kd.C (Kd.int .u8) w A1 l1.length l1) (hc1 : l1.length ≤ c1) (h : spec_StretchOf.f k l0 l1 = some (r1, r2, r3, r4)) :
  Calls Try.prog 20 #[.slice A0 l0.length c0, .slice A1 l1.length c1] w fun e w' => e = .returned (.tuple #[.agg #[.int .i64 r1, .int .i64 r2, .int .i64 r3], .bool r4]) ∧ Below w.heap.size w w' := by
 have hu27:=Try.underlying27
 have HR0:=mk0 hr0
 have HC0:=mk0 hc0
 clear hr0 hc0
 have HR1:=mk0 hr1
 have HC1:=mk0 hc1
 clear hr1 hc1
 have HB:=mk0 (Below.refl w.heap.size w)
 have H:((spec_RowsOf.f k l0 l1).bind fun bt181=>((spec_TextOk.f l0).bind fun t183=>(if t183 = true then (spec_StretchOf.j0 k l0 bt181.1 bt181.2 (decide ((wrap64 (bt181.2 - bt181.1)) < 2))) else (spec_StretchOf.j0 k l0 bt181.1 bt181.2 true)))) = some (r1,r2,r3,r4):=h
 clear h
 replace H:=Option.bind_eq_some_iff.mp H
 obtain⟨⟨t181,t182⟩,A30,H⟩:=H
 replace H:((spec_TextOk.f l0).bind fun t183=>(if t183 = true then (spec_StretchOf.j0 k l0 t181 t182 (decide ((wrap64 (t182 - t181)) < 2))) else (spec_StretchOf.j0 k l0 t181 t182 true))) = some (r1,r2,r3,r4):=H
 have A3:=mk0 A30
 clear A30
 have HC4:=mk0 H
 clear H
 go_enter Try.func20,Try.ntmps20
 go_upto_region 2 with (first|((with_reducible refine gate_dst (N:=4) rfl ?_);refine box_event ?hg (N:=4) ?hd (cs:=#[.int .i64 0,.int .i64 0,.int .i64 0]) (t:=27) ?hr ?_;(case hd=>rfl);(case hg=>rfl);(case hr=>first|(go_simp;done)|(go_simp;rfl));intro gb180 hg w5 hbox hb;have BK180:=mk0 (hbox);have GW180:=mk0 ((by rw [hg];exact (kZ HB.out):w.heap.size ≤ gb180));have GE180:=mk0 ((by rw [hg];exact (kZ HB.out):w.heap.size ≤ gb180));replace HB:=mk0 (kS HB.out hb);clear hb hbox hg)|((with_reducible refine gate_callee (f:=45) rfl ?_);refine goesL_ (some 11) rfl rfl Try.func45 (by kernel_rfl) rfl #[.slice A0 l0.length c0,.slice A1 l1.length c1] rfl (by (try simp only [mA,mC,mN]);first|done|rfl|(simp only [List.length_drop,List.length_take];done)|(simp only [List.length_drop,List.length_take];rfl)) ?_;(with_reducible refine (spec_RowsOf.calls k _ _ l0 _ _ l1 t181 t182 _ ?side1 ?side2 ?side3 ?side4 A3.out).mono ?_);(case side1=>exact kC (Kd.C_below HR0.out HB.out));(case side2=>exact HC0.out);(case side3=>exact kC (Kd.C_below HR1.out HB.out));(case side4=>exact HC1.out);rintro e w6 ⟨rfl,hb⟩;refine⟨_,rfl,?_⟩;replace BK180:=mk0 (kK BK180.out hb);replace HB:=mk0 (kS HB.out hb);(try clear hb)))
 (try simp only [Act.put,sA,sO,sS])
 go_cut [22] (fun v22 wc=>∃ (kq:Nat) (x22_3:Bool),v22 = .bool x22_3 ∧ Aside0 (spec_StretchOf.j0 kq l0 t181 t182 x22_3 = some (r1,r2,r3,r4)) ∧ Aside0 (kq ≤ k) ∧ Aside0 (wc.heap[gb180]? = some (.cells #[.int .i64 0,.int .i64 0,.int .i64 0] 27 (0,0))) ∧ Aside0 (Below w.heap.size w wc))
 case first =>
  have H:=HC4.out
  clear HC4
  replace H:=Option.bind_eq_some_iff.mp H
  obtain⟨t183,A70,H⟩:=H
  replace H:(if t183 = true then (spec_StretchOf.j0 k l0 t181 t182 (decide ((wrap64 (t182 - t181)) < 2))) else (spec_StretchOf.j0 k l0 t181 t182 true)) = some (r1,r2,r3,r4):=H
  have A7:=mk0 A70
  clear A70
  by_cases c8:t183 = true
  ·subst c8
   have H1:(spec_StretchOf.j0 k l0 t181 t182 (decide ((wrap64 (t182 - t181)) < 2))) = some (r1,r2,r3,r4):=by rw [if_pos rfl] at H;exact H
   clear H
   have H:=H1
   clear H1
   have H':=mk0 H
   clear H
   go_wp2_with (first|((with_reducible refine gate_callee (f:=36) rfl ?_);refine goesL_ (some 15) rfl rfl Try.func36 (by kernel_rfl) rfl #[.slice A0 l0.length c0] rfl (by (try simp only [mA,mC,mN]);first|done|rfl|(simp only [List.length_drop,List.length_take];done)|(simp only [List.length_drop,List.length_take];rfl)) ?_;(with_reducible refine (spec_TextOk.calls _ _ l0 true _ ?side1 ?side2 A7.out).mono ?_);(case side1=>exact kC (Kd.C_below HR0.out HB.out));(case side2=>exact HC0.out);rintro e w' ⟨rfl,⟨nd,rfl⟩⟩;refine⟨_,rfl,?_⟩))
   go_meet
   case rel=>exact⟨_,(decide ((wrap64 (t182 - t181)) < 2)),(by first|rfl|(simp;done)|(simp [*];done)),H',⟨by first|omega|exact Nat.le_refl _⟩,⟨kN BK180.out⟩,⟨kB HB.out⟩⟩
  ·replace c8:=Bool.eq_false_iff.mpr c8
   subst c8
   have H1:(spec_StretchOf.j0 k l0 t181 t182 true) = some (r1,r2,r3,r4):=by rw [if_neg (show ¬ (false = true) by decide)] at H;exact H
   clear H
   have H:=H1
   clear H1
   have H':=mk0 H
   clear H
   go_wp2_with (first|((with_reducible refine gate_callee (f:=36) rfl ?_);refine goesL_ (some 15) rfl rfl Try.func36 (by kernel_rfl) rfl #[.slice A0 l0.length c0] rfl (by (try simp only [mA,mC,mN]);first|done|rfl|(simp only [List.length_drop,List.length_take];done)|(simp only [List.length_drop,List.length_take];rfl)) ?_;(with_reducible refine (spec_TextOk.calls _ _ l0 false _ ?side1 ?side2 A7.out).mono ?_);(case side1=>exact kC (Kd.C_below HR0.out HB.out));(case side2=>exact HC0.out);rintro e w' ⟨rfl,⟨nd,rfl⟩⟩;refine⟨_,rfl,?_⟩))
   go_meet
   case rel=>exact⟨_,(true),(by first|rfl|(simp;done)|(simp [*];done)),H',⟨by first|omega|exact Nat.le_refl _⟩,⟨kN BK180.out⟩,⟨kB HB.out⟩⟩
 case rest =>
  clear HC4
  try clear c1
  try clear c2
  try clear p2
  try clear c3
  try clear c4
  try clear p6
  try clear c8
  obtain⟨kq,x22_3,rfl,HA,HJ3,BK180,HB⟩:=hcut
  cases kq with
  | zero=>exact absurd HA.out (by simp [spec_StretchOf.j0])
  | succ kj3 =>
   have H:=HA.out
   clear HA
   simp only [spec_StretchOf.j0] at H
   by_cases c9:x22_3 = true
   ·subst c9
    have H1:(some (0,0,0,false)) = some (r1,r2,r3,r4):=by rw [if_pos rfl] at H;exact H
    clear H
    have H:=H1
    clear H1
    simp only [Option.some.injEq,Prod.mk.injEq] at H
    obtain⟨rfl,rfl,rfl,rfl⟩:=H
    obtain⟨hcz10_0,hcz10_1,hcz10_2,hfz10_0,hfz10_1,hfz10_2⟩:=cz3 BK180.out
    go_wp2
    refine bodyPost_ret (results_ct rfl _ _ gb180 27 #[.int .i64 0,.int .i64 0,.int .i64 0] (0,0) _ rfl (by (with_reducible repeat (first|apply nB|apply dB|apply aB));refine blk_put (cs:=#[.int .i64 0,.int .i64 0,.int .i64 0]) ?_ 2 _ rfl;(with_reducible repeat (first|apply nB|apply dB|apply aB));refine blk_put (cs:=#[.int .i64 0,.int .i64 0,.int .i64 0]) ?_ 1 _ rfl;(with_reducible repeat (first|apply nB|apply dB|apply aB));refine blk_put (cs:=#[.int .i64 0,.int .i64 0,.int .i64 0]) ?_ 0 _ rfl;(with_reducible repeat (first|apply nB|apply dB|apply aB));exact BK180.out) Try.underlying27 rfl (by kernel_rfl)) rfl ?_
    exact⟨by first|rfl|(simp [errW_none,errW_some] <;> rfl)|(simp [*,errW_none,errW_some] <;> rfl),kB HB.out⟩
   ·replace c9:=Bool.eq_false_iff.mpr c9
    subst c9
    have H1:((spec_LcpRows.f kj3 l0).bind fun t184=>((spec_l11Depth.f kj3 t184 t181 t182).bind fun t187=>(some (t181,t182,t187,true)))) = some (r1,r2,r3,r4):=by rw [if_neg (show ¬ (false = true) by decide)] at H;exact H
    clear H
    have H:=H1
    clear H1
    replace H:=Option.bind_eq_some_iff.mp H
    obtain⟨t184,A110,H⟩:=H
    replace H:((spec_l11Depth.f kj3 t184 t181 t182).bind fun t187=>(some (t181,t182,t187,true))) = some (r1,r2,r3,r4):=H
    have A11:=mk0 A110
    clear A110
    replace H:=Option.bind_eq_some_iff.mp H
    obtain⟨t187,A120,H⟩:=H
    replace H:(some (t181,t182,t187,true)) = some (r1,r2,r3,r4):=H
    have A12:=mk0 A120
    clear A120
    simp only [Option.some.injEq,Prod.mk.injEq] at H
    obtain⟨rfl,rfl,rfl,rfl⟩:=H
    go_wp2_with (first|((with_reducible refine gate_callee (f:=38) rfl ?_);refine goesL_ (some 27) rfl rfl Try.func38 (by kernel_rfl) rfl #[.slice A0 l0.length c0] rfl (by (try simp only [mA,mC,mN]);first|done|rfl|(simp only [List.length_drop,List.length_take];done)|(simp only [List.length_drop,List.length_take];rfl)) ?_;(with_reducible refine (spec_LcpRows.calls kj3 _ _ l0 t184 _ ?side1 ?side2 A11.out).mono ?_);(case side1=>exact kC (Kd.C_below HR0.out HB.out));(case side2=>exact HC0.out);rintro e w13 ⟨v185,rfl,ho0,hb⟩;refine⟨_,rfl,?_⟩;have HO186:=mk0 (Kd.R_lower ho0 (kZ HB.out));replace BK180:=mk0 (kK BK180.out hb);replace HB:=mk0 (kS HB.out hb);(try clear hb);(try clear ho0);obtain⟨Ao14,co14,eo14⟩:=Kd.R_slice HO186.out;subst eo14)|((with_reducible refine gate_callee (f:=46) rfl ?_);refine goesL_ (some 30) rfl rfl Try.func46 (by kernel_rfl) rfl #[.slice Ao14 t184.length co14,.int .i64 t181,.int .i64 t182] rfl (by (try simp only [mA,mC,mN]);first|done|rfl|(simp only [List.length_drop,List.length_take];done)|(simp only [List.length_drop,List.length_take];rfl)) ?_;(with_reducible refine (spec_l11Depth.calls kj3 _ _ t184 t181 t182 t187 _ ?side1 ?side2 A12.out).mono ?_);(case side1=>exact kC (Kd.R_reads' HO186.out).2.2);(case side2=>exact (Kd.R_reads' HO186.out).2.1);rintro e w15 ⟨rfl,hb⟩;refine⟨_,rfl,?_⟩;replace HO186:=mk0 (bR HO186.out hb);replace BK180:=mk0 (kK BK180.out hb);replace HB:=mk0 (kS HB.out hb);(try clear hb);obtain⟨hcz16_0,hcz16_1,hcz16_2,hfz16_0,hfz16_1,hfz16_2⟩:=cz3 BK180.out))
    refine bodyPost_ret (results_ct rfl _ _ gb180 27 #[.int .i64 t181,.int .i64 t182,.int .i64 t187] (0,0) _ rfl (by (with_reducible repeat (first|apply nB|apply dB|apply aB));refine blk_put (cs:=#[.int .i64 t181,.int .i64 t182,.int .i64 0]) ?_ 2 _ rfl;(with_reducible repeat (first|apply nB|apply dB|apply aB));refine blk_put (cs:=#[.int .i64 t181,.int .i64 0,.int .i64 0]) ?_ 1 _ rfl;(with_reducible repeat (first|apply nB|apply dB|apply aB));refine blk_put (cs:=#[.int .i64 0,.int .i64 0,.int .i64 0]) ?_ 0 _ rfl;(with_reducible repeat (first|apply nB|apply dB|apply aB));exact BK180.out) Try.underlying27 rfl (by kernel_rfl)) rfl ?_
    exact⟨by first|rfl|(simp [errW_none,errW_some] <;> rfl)|(simp [*,errW_none,errW_some] <;> rfl),kB HB.out⟩

-- NOT PRINTED: function 92 (slices_insertionSortCmpFunc_int)

-- NOT PRINTED: function 113 (slices_siftDownCmpFunc_int)

-- NOT PRINTED: function 93 (slices_heapSortCmpFunc_int)

-- NOT PRINTED: function 100 (bits_Len32)

-- NOT PRINTED: function 101 (bits_Len64)

-- NOT PRINTED: function 80 (bits_Len)

-- NOT PRINTED: function 114 (slices_nextPowerOfTwo)

-- NOT PRINTED: function 115 (slices_xorshift_Next)

-- NOT PRINTED: function 94 (slices_breakPatternsCmpFunc_int)

-- NOT PRINTED: function 121 (slices_order2CmpFunc_int)

-- NOT PRINTED: function 117 (slices_medianCmpFunc_int)

-- NOT PRINTED: function 116 (slices_medianAdjacentCmpFunc_int)

-- NOT PRINTED: function 95 (slices_choosePivotCmpFunc_int)

-- NOT PRINTED: function 96 (slices_reverseRangeCmpFunc_int)

-- NOT PRINTED: function 97 (slices_partialInsertionSortCmpFunc_int)

-- NOT PRINTED: function 98 (slices_partitionEqualCmpFunc_int)

-- NOT PRINTED: function 99 (slices_partitionCmpFunc_int)

-- NOT PRINTED: function 79 (slices_pdqsortCmpFunc_int)

-- NOT PRINTED: function 65 (slices_SortFunc_int_int)


/-! ### slices_SortFunc_66: slices.SortFunc at the literal 66, which compares suffixes of what it captures -/
def slices_SortFunc_66.f (l0 : List Int) (l1 : List Int) : Option (List Int) := if (l1.all Fv.isB && l0.all (fun x => decide (0 ≤ x ∧ x ≤ (l1.length : Int))) && decide (l0.length < 4611686018427387904)) = true then some (l0.mergeSort (Fv.sufLe l1)) else none
theorem slices_SortFunc_66.calls {g : Nat} (P0_ : Nat → Prop) (u9000_ : Value) (l0 : List Int) (A1 : Option Addr) (c1 : Nat) (l1 : List Int) (r : List Int) (w0 w : World) (hB : Below w0.heap.size w0 w) (ho0 : Kd.R (Kd.int .i64) 3 w w0.heap.size P0_ u9000_ l0)
    (hr1 : ∀ W', Kept w W' (fun k_ => P0_ k_) → Kd.C (Kd.int .u8) W' A1 l1.length l1) (hc1 : l1.length ≤ c1) (hb : w.heap[g]? = some (.cells #[.slice A1 l1.length c1] 22 (0, 0))) (h : slices_SortFunc_66.f l0 l1 = some r) :
    Calls Try.prog 65 #[u9000_, .func (.func 66) #[] #[.pointer (some ⟨g, 0, none⟩)]] w fun e w' => e = .returned (.tuple #[]) ∧ Kd.R (Kd.int .i64) 3 w' w0.heap.size (fun k_ => (P0_ k_ ∨ w.heap.size ≤ k_)) u9000_ r ∧ Below w0.heap.size w0 w' ∧ Kept w w' (fun k_ => P0_ k_) := by
  unfold slices_SortFunc_66.f at h
  split at h
  · rename_i hc
    obtain rfl := Option.some.inj h
    simp only [Bool.and_eq_true, List.all_eq_true, decide_eq_true_eq, Fv.isB] at hc
    exact Fv.sortSuf P0_ u9000_ l0 A1 c1 l1 w0 w hB ho0 hr1 hc1 hb hc.1.1 hc.1.2 hc.2
  · exact absurd h (by simp)

/-! ### impl_suffixRows: function 44 -/
def impl_suffixRows.l0 : Nat → List Int → Int → Int → List Int → Option (List Int)
 | 0, _, _, _, _ => none
 | k + 1, x3, x7, x8, x189000 => if x8 < x7 then (if x3.length < 17592186044416 then (impl_suffixRows.l0 k (x3 ++ [x8]) x7 (wrap64 (x8 + 1)) x189000) else (none)) else ((slices_SortFunc_66.f x3 x189000).bind fun t192 => (some t192))
def impl_suffixRows.f (k : Nat) (l0 : List Int) : Option (List Int) := impl_suffixRows.l0 k ([] : List Int) (wrap64 ((l0.length : Int) + 1)) 0 l0
theorem impl_suffixRows.mono_l : ∀ k, (∀ y0 y1 y2 y3, LeO (impl_suffixRows.l0 k y0 y1 y2 y3) (impl_suffixRows.l0 (k + 1) y0 y1 y2 y3))
 | 0 => fun _ _ _ _ r h => by simp [impl_suffixRows.l0] at h
 | k + 1 => by
  have ih0 := impl_suffixRows.mono_l k
  ·intro y0 y1 y2 y3
   unfold impl_suffixRows.l0
   repeat' first|(with_reducible first|exact ih0 _ _ _ _|exact LeO.refl _|exact LeO.none _|refine LeO.ite ?_ ?_|refine LeO.bind ?_ (fun _ => ?_))|exact LeO.none _|refine LeO.ite ?_ ?_|refine LeO.bind ?_ (fun _ => ?_)
theorem impl_suffixRows.mono : ∀ a0 k, LeO (impl_suffixRows.f k a0) (impl_suffixRows.f (k + 1) a0) := by
 intro a0 k
 have ih0 := impl_suffixRows.mono_l k
 unfold impl_suffixRows.f
 repeat' first|(with_reducible first|exact ih0 _ _ _ _|exact LeO.refl _|exact LeO.none _|refine LeO.ite ?_ ?_|refine LeO.bind ?_ (fun _ => ?_))|exact LeO.none _|refine LeO.ite ?_ ?_|refine LeO.bind ?_ (fun _ => ?_)
set_option maxHeartbeats 8000000 in
set_option maxRecDepth 100000 in
theorem impl_suffixRows.calls (k : Nat) (A0 : Option Addr) (c0 : Nat) (l0 : List Int) (r : List Int) (w : World) (hr0 : Kd.C (Kd.int .u8) w A0 l0.length l0) (hc0 : l0.length ≤ c0) (h : impl_suffixRows.f k l0 = some r) :
  Calls Try.prog 44 #[.slice A0 l0.length c0] w fun e w' => ∃ v0_ : Value, e = .returned (v0_) ∧ Kd.R (Kd.int .i64) 3 w' w.heap.size (fun _ => True) v0_ r ∧ Below w.heap.size w w' := by
 have HR0:=mk0 hr0
 have HC0:=mk0 hc0
 clear hr0 hc0
 have HB:=mk0 (Below.refl w.heap.size w)
 have H:(impl_suffixRows.l0 k ([]:List Int) (wrap64 ((l0.length:Int) + 1)) 0 l0) = some r:=h
 clear h
 have H':=mk0 H
 clear H
 go_enter Try.func44,Try.ntmps44
 go_wp2_with (first|((with_reducible refine gate_dst (N:=1) rfl ?_);refine box_event ?hg (N:=1) ?hd (cs:=#[.slice A0 l0.length c0]) (t:=22) ?hr ?_;(case hd=>rfl);(case hg=>rfl);(case hr=>first|(go_simp;done)|(go_simp;rfl));intro gb188 hg w2 hbox hb;have BK188:=mk0 (hbox);have GW188:=mk0 ((by rw [hg];exact (kZ HB.out):w.heap.size ≤ gb188));have GE188:=mk0 ((by rw [hg];exact (kZ HB.out):w.heap.size ≤ gb188));replace HB:=mk0 (kS HB.out hb);clear hb hbox hg;have hcz3_0:w2.cell? ⟨gb188,0,none⟩ = some (.slice A0 l0.length c0):=(blk_cell BK188.out 0).trans rfl;have hfz3_0:=blk_frozen BK188.out 0))
 go_loopg [3,8] k (fun kq v3 v8 w'=>∃ (x3_1:List Int) (x8_1:Int),v8 = .int .i64 x8_1 ∧ Aside0 (impl_suffixRows.l0 kq x3_1 (wrap64 ((l0.length:Int) + 1)) x8_1 l0 = some r) ∧ Aside0 (kq ≤ k) ∧ Aside0 (Kd.R (Kd.int .i64) 3 w' w.heap.size (fun _=>True) v3 x3_1) ∧ Aside0 (w'.heap[gb188]? = some (.cells #[(.slice A0 l0.length c0)] 22 (0,0))) ∧ Aside0 (Below w.heap.size w w'))
 case atStart=>exact⟨(([]:List Int)),(0),(by first|rfl|(simp;done)|(simp [*];done)),H',⟨Nat.le_refl _⟩,⟨by first|exact Kd.R_nil _ _ _ _ _|exact Kd.N_nil _ _ _ _ _|exact Kd.V_nil _ _ _ _ _|exact Kd.Q_nil _ _ _ _ _|exact Kd.S_nil _ _ _ _ _⟩,⟨kN BK188.out⟩,⟨kB HB.out⟩⟩
 case round =>
  clear H'
  try clear p2
  try clear hcz3_0
  try clear hfz3_0
  obtain⟨x3_1,x8_1,rfl,HA,HK1,HO_3,BK188,HB⟩:=hrel
  cases gk with
  | zero=>exact absurd HA.out (by simp [impl_suffixRows.l0])
  | succ k1 =>
   have H:=HA.out
   clear HA
   simp only [impl_suffixRows.l0] at H
   by_cases c4:x8_1 < (wrap64 ((l0.length:Int) + 1))
   ·rw [if_pos c4] at H
    have c4b0:decide (x8_1 < (wrap64 ((l0.length:Int) + 1))) = true:=decide_eq_true c4
    clear c4
    by_cases c5:x3_1.length < 17592186044416
    ·rw [if_pos c5] at H
     have LMc5:=mk0 c5
     clear c5
     obtain⟨y189,hy189⟩:∃ y_:List Int,y_ = (x3_1 ++ [x8_1]):=⟨_,rfl⟩
     replace H:(impl_suffixRows.l0 k1 y189 (wrap64 ((l0.length:Int) + 1)) (wrap64 (x8_1 + 1)) l0) = some r:=by first|(rw [hy189];with_reducible exact H)|(have H2_:=(Option.bind_some _ _).symm.trans H;rw [hy189];with_reducible exact H2_)|(have H2_:=(Option.bind_some _ _).symm.trans H;with_reducible exact H2_)|with_reducible exact H|(rw [hy189];exact H)|exact H
     have Ny189:=mk0 hy189
     clear hy189
     have H':=mk0 H
     clear H
     go_wp2_with (first|((with_reducible refine gate_builtin (b:=.append) (xs:=#[.tmp 11,.tmp 13]) rfl ?_);at_builtin;refine Kd.R_append (Kd.int .i64) (w0:=w) w.heap.size rfl (.tmp 11) (.tmp 13) 48 3 (.int .i64 0) 8 rfl Try.underlying48 info3 rfl (by decide) (by omega) u3 x3_1 x8_1 [.int .i64 x8_1] (fun _=>True) (fun _=>False) rfl rfl ?aP (fun _ hk=>hk.elim) ?aF ?aO ?aB ?aS ?aL ?_;(case aP=>exact rfl);(case aB=>exact (kB HB.out));(case aF=>exact (fun _ _=>trivial));(case aO=>exact (rR HO_3.out));(case aS=>exact (kZ HB.out));(case aL=>have:=LMc5.out;omega);intro v190 w6 ho hb hg hat;rw [← Ny189.out] at ho;replace BK188:=mk0 (blk_grown (kN BK188.out) hg (Kd.R_ne HO_3.out BK188.out (by decide)));replace HB:=mk0 (hb);have HO191:=mk0 (ho);clear HO_3 ho hb hg hat))
     go_roundg k1
     case measure=>have:=HK1.out;omega
     case rel=>exact⟨(y189),(wrap64 (x8_1 + 1)),(by first|rfl|(simp;done)|(simp [*];done)),H',⟨by have:=HK1.out;omega⟩,⟨rR HO191.out⟩,⟨kN BK188.out⟩,⟨kB HB.out⟩⟩
    ·rw [if_neg c5] at H
     exact absurd H (by simp)
   ·rw [if_neg c4] at H
    have c4b0:decide (x8_1 < (wrap64 ((l0.length:Int) + 1))) = false:=decide_eq_false c4
    clear c4
    replace H:=Option.bind_eq_some_iff.mp H
    obtain⟨t192,A70,H⟩:=H
    replace H:(some t192) = some r:=H
    have A7:=mk0 A70
    clear A70
    obtain rfl:=Option.some.inj H
    obtain⟨Ao8,co8,eo8⟩:=Kd.R_slice HO_3.out
    subst eo8
    go_wp2_with (first|((with_reducible refine gate_callee (f:=65) rfl ?_);refine goesL_ (some 18) rfl rfl Try.func65 (by kernel_rfl) rfl #[.slice Ao8 x3_1.length co8,.func (.func 66) #[] #[.pointer (some ⟨gb188,0,none⟩)]] rfl (by (try simp only [mA,mC,mN]);first|done|rfl|(simp only [List.length_drop,List.length_take];done)|(simp only [List.length_drop,List.length_take];rfl)) ?_;(with_reducible refine (slices_SortFunc_66.calls (fun k_=>some k_ = (.slice Ao8 x3_1.length co8:Value).ownBlock) (.slice Ao8 x3_1.length co8) x3_1 A0 c0 l0 t192 w _ ?side1 ?side2 ?side3 ?side4 ?side5 A7.out).mono ?_);(case side1=>repeat (first|(with_reducible first|exact HB.out|apply aZ|apply nZ|apply dZ|refine sZ ?_ GE188.out)|exact HB.out));(case side2=>exact Kd.R_tight rfl HO_3.out);(case side3=>exact Kd.C_kept_came (Kd.heap_int .u8) HR0.out (kB HB.out) (fun k_ hs_=>(fun e_=>Kd.R_base HO_3.out k_ e_.symm) hs_));(case side4=>exact HC0.out);(case side5=>exact by (with_reducible repeat (first|apply nB|apply dB|apply aB));exact BK188.out);rintro e w9 ⟨rfl,hy0,hb,hkp⟩;refine⟨_,rfl,?_⟩;replace BK188:=mk0 (blk_kept (kN BK188.out) hkp (fun hs_=>(fun e_=>(Kd.R_ne HO_3.out BK188.out (by decide)) e_) hs_));replace HO_3:=mk0 (Kd.R_reok rfl hy0 (fun k_ e_=>HO_3.out.1 k_ e_));replace HB:=mk0 (hb);(try clear hb);(try clear hkp);(try clear hy0)))
    go_ret
    exact⟨_,by first|rfl|(simp [errW_none,errW_some] <;> rfl)|(simp [*,errW_none,errW_some] <;> rfl),rR HO_3.out,kB HB.out⟩

/-! ### impl_common: function 63 -/
def impl_common.l0 : Nat → List Int → List Int → Int → Option (Int)
 | 0, _, _, _ => none
 | k + 1, x0, x1, x5 => if x5 < (mn (x0.length : Int) (x1.length : Int)) then (if 0 ≤ x5 then (if x5 < (x0.length : Int) then (if x5 < (x1.length : Int) then (if (rd x0 x5) = (rd x1 x5) then (impl_common.l0 k x0 x1 (wrap64 (x5 + 1))) else (some x5)) else (none)) else (none)) else (none)) else (some x5)
def impl_common.f (k : Nat) (l0 : List Int) (l1 : List Int) : Option (Int) := impl_common.l0 k l0 l1 0
theorem impl_common.mono_l : ∀ k, (∀ y0 y1 y2, LeO (impl_common.l0 k y0 y1 y2) (impl_common.l0 (k + 1) y0 y1 y2))
 | 0 => fun _ _ _ r h => by simp [impl_common.l0] at h
 | k + 1 => by
  have ih0 := impl_common.mono_l k
  ·intro y0 y1 y2
   unfold impl_common.l0
   repeat' first|(with_reducible first|exact ih0 _ _ _|exact LeO.refl _|exact LeO.none _|refine LeO.ite ?_ ?_|refine LeO.bind ?_ (fun _ => ?_))|exact LeO.none _|refine LeO.ite ?_ ?_|refine LeO.bind ?_ (fun _ => ?_)
theorem impl_common.mono : ∀ a0 a1 k, LeO (impl_common.f k a0 a1) (impl_common.f (k + 1) a0 a1) := by
 intro a0 a1 k
 have ih0 := impl_common.mono_l k
 unfold impl_common.f
 repeat' first|(with_reducible first|exact ih0 _ _ _|exact LeO.refl _|exact LeO.none _|refine LeO.ite ?_ ?_|refine LeO.bind ?_ (fun _ => ?_))|exact LeO.none _|refine LeO.ite ?_ ?_|refine LeO.bind ?_ (fun _ => ?_)
set_option maxHeartbeats 8000000 in
set_option maxRecDepth 100000 in
theorem impl_common.calls (k : Nat) (A0 : Option Addr) (c0 : Nat) (l0 : List Int) (A1 : Option Addr) (c1 : Nat) (l1 : List Int) (r : Int) (w : World) (hr0 : Kd.C (Kd.int .u8) w A0 l0.length l0) (hc0 : l0.length ≤ c0) (hr1 : Kd.C (Kd.int .u8) w A1 l1.length l1) (hc1 : l1.length ≤ c1) (h : impl_common.f k l0 l1 = some r) :
  Calls Try.prog 63 #[.slice A0 l0.length c0, .slice A1 l1.length c1] w fun e w' => e = .returned (.int .i64 r) ∧ Below w.heap.size w w' := by
 have HR0:=mk0 hr0
 have HC0:=mk0 hc0
 clear hr0 hc0
 have HR1:=mk0 hr1
 have HC1:=mk0 hc1
 clear hr1 hc1
 have HB:=mk0 (Below.refl w.heap.size w)
 have H:(impl_common.l0 k l0 l1 0) = some r:=h
 clear h
 have H':=mk0 H
 clear H
 go_enter Try.func63,Try.ntmps63
 go_wp2
 repeat (go_quiet (fail);try go_wp2)
 go_loopg [5] k (fun kq v5 w'=>∃ (x5_1:Int),v5 = .int .i64 x5_1 ∧ Aside0 (impl_common.l0 kq l0 l1 x5_1 = some r) ∧ Aside0 (kq ≤ k) ∧ Aside0 (Below w.heap.size w w'))
 case atStart=>exact⟨(0),(by first|rfl|(simp;done)|(simp [*];done)),H',⟨Nat.le_refl _⟩,⟨kB HB.out⟩⟩
 case round =>
  clear H'
  try clear c1
  try clear p2
  obtain⟨x5_1,rfl,HA,HK1,HB⟩:=hrel
  cases gk with
  | zero=>exact absurd HA.out (by simp [impl_common.l0])
  | succ k1 =>
   have H:=HA.out
   clear HA
   simp only [impl_common.l0] at H
   obtain⟨ji3,hji3⟩:∃ j_:Int,(mn (l0.length:Int) (l1.length:Int)) = j_:=⟨_,rfl⟩
   replace H:(if x5_1 < (ji3) then (if 0 ≤ x5_1 then (if x5_1 < (l0.length:Int) then (if x5_1 < (l1.length:Int) then (if (rd l0 x5_1) = (rd l1 x5_1) then (impl_common.l0 k1 l0 l1 (wrap64 (x5_1 + 1))) else (some x5_1)) else (none)) else (none)) else (none)) else (some x5_1)) = some r:=by first|(rw [hji3] at H;exact H)|(simp only [hji3] at H ⊢;exact H)
   have hji3_:(if (l1.length:Int) < (l0.length:Int) then (l1.length:Int) else (l0.length:Int)) = ji3:=hji3
   have hji3n : (if l1.length < l0.length then (l1.length : Int) else (l0.length : Int)) = ji3 := by have e_ := hji3_; simp only [Int.ofNat_lt] at e_; exact e_
   by_cases c4:x5_1 < (ji3)
   ·rw [if_pos c4] at H
    have c4b0:decide (x5_1 < (ji3)) = true:=decide_eq_true c4
    clear c4
    by_cases c5:0 ≤ x5_1
    ·rw [if_pos c5] at H
     have c5b0:decide (0 ≤ x5_1) = true:=decide_eq_true c5
     clear c5
     by_cases c6:x5_1 < (l0.length:Int)
     ·rw [if_pos c6] at H
      have c6b0:decide (x5_1 < (l0.length:Int)) = true:=decide_eq_true c6
      clear c6
      by_cases c7:x5_1 < (l1.length:Int)
      ·rw [if_pos c7] at H
       have c7b0:decide (x5_1 < (l1.length:Int)) = true:=decide_eq_true c7
       clear c7
       by_cases c8:(rd l0 x5_1) = (rd l1 x5_1)
       ·rw [if_pos c8] at H
        have c8b0:((rd l0 x5_1) == (rd l1 x5_1)) = true:=beq_iff_eq.mpr c8
        have c8b1:((rd l0 x5_1) != (rd l1 x5_1)) = false:=bne_eq_false_iff_eq.mpr c8
        clear c8
        have H':=mk0 H
        clear H
        have p193:0 ≤ (x5_1:Int):=of_decide_eq_true (by first|(with_reducible assumption)|assumption)
        have q193:x5_1 < (l0.length:Int):=of_decide_eq_true (by first|(with_reducible assumption)|assumption)
        obtain⟨ad193,e193,hx193_0⟩:=Kd.at_int HR0.out x5_1 p193 q193
        cases e193
        replace hx193_0:=(HB.out.cell (World.block_lt_of_cell? w _ hx193_0)).trans hx193_0
        replace p193:=eq_true p193
        replace q193:=eq_true q193
        have p194:0 ≤ (x5_1:Int):=of_decide_eq_true (by first|(with_reducible assumption)|assumption)
        have q194:x5_1 < (l1.length:Int):=of_decide_eq_true (by first|(with_reducible assumption)|assumption)
        obtain⟨ad194,e194,hx194_0⟩:=Kd.at_int HR1.out x5_1 p194 q194
        cases e194
        replace hx194_0:=(HB.out.cell (World.block_lt_of_cell? w _ hx194_0)).trans hx194_0
        replace p194:=eq_true p194
        replace q194:=eq_true q194
        go_wp2
        repeat (go_quiet (fail);try go_wp2)
        go_roundg k1
        case measure=>have:=HK1.out;omega
        case rel=>exact⟨(wrap64 (x5_1 + 1)),(by first|rfl|(simp;done)|(simp [*];done)),H',⟨by have:=HK1.out;omega⟩,⟨kB HB.out⟩⟩
       ·rw [if_neg c8] at H
        have c8b0:((rd l0 x5_1) == (rd l1 x5_1)) = false:=beq_eq_false_iff_ne.mpr c8
        have c8b1:((rd l0 x5_1) != (rd l1 x5_1)) = true:=bne_iff_ne.mpr c8
        obtain rfl:=Option.some.inj H
        have p193:0 ≤ (x5_1:Int):=of_decide_eq_true (by first|(with_reducible assumption)|assumption)
        have q193:x5_1 < (l0.length:Int):=of_decide_eq_true (by first|(with_reducible assumption)|assumption)
        obtain⟨ad193,e193,hx193_0⟩:=Kd.at_int HR0.out x5_1 p193 q193
        cases e193
        replace hx193_0:=(HB.out.cell (World.block_lt_of_cell? w _ hx193_0)).trans hx193_0
        replace p193:=eq_true p193
        replace q193:=eq_true q193
        have p194:0 ≤ (x5_1:Int):=of_decide_eq_true (by first|(with_reducible assumption)|assumption)
        have q194:x5_1 < (l1.length:Int):=of_decide_eq_true (by first|(with_reducible assumption)|assumption)
        obtain⟨ad194,e194,hx194_0⟩:=Kd.at_int HR1.out x5_1 p194 q194
        cases e194
        replace hx194_0:=(HB.out.cell (World.block_lt_of_cell? w _ hx194_0)).trans hx194_0
        replace p194:=eq_true p194
        replace q194:=eq_true q194
        go_wp2
        repeat (go_quiet (fail);try go_wp2)
        go_ret
        exact⟨by first|rfl|(simp [errW_none,errW_some] <;> rfl)|(simp only [← hji3];first|rfl|(simp [errW_none,errW_some] <;> rfl))|(simp [*,errW_none,errW_some] <;> rfl),kB HB.out⟩
      ·rw [if_neg c7] at H
       exact absurd H (by simp)
     ·rw [if_neg c6] at H
      exact absurd H (by simp)
    ·rw [if_neg c5] at H
     exact absurd H (by simp)
   ·rw [if_neg c4] at H
    have c4b0:decide (x5_1 < (ji3)) = false:=decide_eq_false c4
    clear c4
    obtain rfl:=Option.some.inj H
    go_wp2
    repeat (go_quiet (fail);try go_wp2)
    go_ret
    exact⟨by first|rfl|(simp [errW_none,errW_some] <;> rfl)|(simp only [← hji3];first|rfl|(simp [errW_none,errW_some] <;> rfl))|(simp [*,errW_none,errW_some] <;> rfl),kB HB.out⟩

end Go.Proofs.Ytoinagnieobbpaa.QFnExactStretchOf
