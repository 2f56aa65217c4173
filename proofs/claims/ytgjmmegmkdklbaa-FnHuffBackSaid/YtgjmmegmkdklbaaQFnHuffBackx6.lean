-- A walk, made by walk.py, a program of this session's.
import Derived.Test.YtgjmmegmkdklbaaQFnHuffBackx0
import Derived.Test.YtgjmmegmkdklbaaQFnHuffBackx3
import Derived.Test.YtgjmmegmkdklbaaQFnHuffBackx4
namespace Go.Proofs.Ytgjmmegmkdklbaa.QFnHuffBack
open Go.RowKit Go.Proofs.YtgjmmegmkdklbaaW.PrintWords Go.Proofs.YtgjmmegmkdklbaaW.PrintLast Go.Proofs.YtgjmmegmkdklbaaW.PrintMore
attribute [local go_sem] max2_int min2_int max_two min_two max_three min_three max_four min_four   -- for this text's walks alone
set_option linter.unusedVariables false
set_option linter.unusedSimpArgs false

/-! ### impl_BitsOk: function 62 -/
def impl_BitsOk.f (a0_0 : Int) (l0_1 : List Int) : Option (Bool) := (impl_within.f a0_0 0 5000).bind fun t209 => (if t209 = true then (if (l0_1.length : Int) = (wrap64 (Int.tdiv (wrap64 ((wrap64 (a0_0 + 64)) - 1)) 64)) then (if (Int.tmod a0_0 64) = 0 then (some true) else (if 0 ≤ (wrap64 ((l0_1.length : Int) - 1)) then (if (wrap64 ((l0_1.length : Int) - 1)) < (l0_1.length : Int) then (if 0 ≤ (Int.tmod a0_0 64) then (some ((shr .u64 (rd l0_1 (wrap64 ((l0_1.length : Int) - 1))) (Int.tmod a0_0 64)) == 0)) else (none)) else (none)) else (none))) else (some false)) else (some false))
set_option maxHeartbeats 8000000 in
set_option maxRecDepth 100000 in
theorem impl_BitsOk.calls (a0_0 : Int) (A0_1 : Option Addr) (c0_1 : Nat) (l0_1 : List Int) (r : Bool) (w : World) (hr0_1 : Kd.C (Kd.int .u64) w A0_1 l0_1.length l0_1) (hc0_1 : l0_1.length ≤ c0_1) (h : impl_BitsOk.f a0_0 l0_1 = some r) :
  Calls Try.prog 62 #[.agg #[.int .i64 a0_0, .slice A0_1 l0_1.length c0_1]] w fun e w' => e = .returned (.bool r) ∧ Below w.heap.size w w' := by
 have hu30:=Try.underlying30
 have HR0_1:=mk0 hr0_1
 have HC0_1:=mk0 hc0_1
 clear hr0_1 hc0_1
 have HB:=mk0 (Below.refl w.heap.size w)
 have H:((impl_within.f a0_0 0 5000).bind fun t209=>(if t209 = true then (if (l0_1.length:Int) = (wrap64 (Int.tdiv (wrap64 ((wrap64 (a0_0 + 64)) - 1)) 64)) then (if (Int.tmod a0_0 64) = 0 then (some true) else (if 0 ≤ (wrap64 ((l0_1.length:Int) - 1)) then (if (wrap64 ((l0_1.length:Int) - 1)) < (l0_1.length:Int) then (if 0 ≤ (Int.tmod a0_0 64) then (some ((shr .u64 (rd l0_1 (wrap64 ((l0_1.length:Int) - 1))) (Int.tmod a0_0 64)) == 0)) else (none)) else (none)) else (none))) else (some false)) else (some false))) = some r:=h
 clear h
 replace H:=Option.bind_eq_some_iff.mp H
 obtain⟨t209,A20,H⟩:=H
 replace H:(if t209 = true then (if (l0_1.length:Int) = (wrap64 (Int.tdiv (wrap64 ((wrap64 (a0_0 + 64)) - 1)) 64)) then (if (Int.tmod a0_0 64) = 0 then (some true) else (if 0 ≤ (wrap64 ((l0_1.length:Int) - 1)) then (if (wrap64 ((l0_1.length:Int) - 1)) < (l0_1.length:Int) then (if 0 ≤ (Int.tmod a0_0 64) then (some ((shr .u64 (rd l0_1 (wrap64 ((l0_1.length:Int) - 1))) (Int.tmod a0_0 64)) == 0)) else (none)) else (none)) else (none))) else (some false)) else (some false)) = some r:=H
 have A2:=mk0 A20
 clear A20
 by_cases c3:t209 = true
 ·subst c3
  have H1:(if (l0_1.length:Int) = (wrap64 (Int.tdiv (wrap64 ((wrap64 (a0_0 + 64)) - 1)) 64)) then (if (Int.tmod a0_0 64) = 0 then (some true) else (if 0 ≤ (wrap64 ((l0_1.length:Int) - 1)) then (if (wrap64 ((l0_1.length:Int) - 1)) < (l0_1.length:Int) then (if 0 ≤ (Int.tmod a0_0 64) then (some ((shr .u64 (rd l0_1 (wrap64 ((l0_1.length:Int) - 1))) (Int.tmod a0_0 64)) == 0)) else (none)) else (none)) else (none))) else (some false)) = some r:=by rw [if_pos rfl] at H;exact H
  clear H
  have H:=H1
  clear H1
  by_cases c4:(l0_1.length:Int) = (wrap64 (Int.tdiv (wrap64 ((wrap64 (a0_0 + 64)) - 1)) 64))
  ·rw [if_pos c4] at H
   have c4b0:((l0_1.length:Int) == (wrap64 (Int.tdiv (wrap64 ((wrap64 (a0_0 + 64)) - 1)) 64))) = true:=beq_iff_eq.mpr c4
   have c4b1:((l0_1.length:Int) != (wrap64 (Int.tdiv (wrap64 ((wrap64 (a0_0 + 64)) - 1)) 64))) = false:=bne_eq_false_iff_eq.mpr c4
   clear c4
   by_cases c5:(Int.tmod a0_0 64) = 0
   ·rw [if_pos c5] at H
    have c5b0:((Int.tmod a0_0 64) == 0) = true:=beq_iff_eq.mpr c5
    have c5b1:((Int.tmod a0_0 64) != 0) = false:=bne_eq_false_iff_eq.mpr c5
    clear c5
    obtain rfl:=Option.some.inj H
    go_enter Try.func62,Try.ntmps62
    go_wp2_with (first|((with_reducible refine gate_dst (N:=1) rfl ?_);(try (refine gate_guard (by rfl) ?_;dsimp only));refine box_event ?hg (N:=1) ?hd (cs:=#[.int .i64 a0_0,.slice A0_1 l0_1.length c0_1]) (t:=30) ?hr ?_;(case hd=>rfl);(case hg=>rfl);(case hr=>first|(go_simp;done)|(go_simp;rfl));intro gb208 hg w6 hbox hb;have BK208:=mk0 (hbox);have GW208:=mk0 ((by rw [hg];exact (kZ HB.out):w.heap.size ≤ gb208));have GE208:=mk0 ((by rw [hg];exact (kZ HB.out):w.heap.size ≤ gb208));replace HB:=mk0 (kS HB.out hb);clear hb hbox hg;obtain⟨hcz7_0,hcz7_1,hfz7_0,hfz7_1⟩:=cz2 BK208.out)|((with_reducible refine gate_callee (f:=41) rfl ?_);refine goesL_ (some 6) rfl rfl Try.func41 (by kernel_rfl) rfl #[.int .i64 a0_0,.int .i64 0,.int .i64 5000] rfl (by (try simp only [mA,mC,mN]);first|done|rfl|(simp only [List.length_drop,List.length_take];done)|(simp only [List.length_drop,List.length_take];rfl)) ?_;(with_reducible refine (impl_within.calls a0_0 0 5000 true _ A2.out).mono ?_);rintro e w' ⟨rfl,⟨nd,rfl⟩⟩;refine⟨_,rfl,?_⟩))
    go_ret
    exact⟨by first|rfl|(simp [errW_none,errW_some] <;> rfl)|(simp [*,errW_none,errW_some] <;> rfl),kB HB.out⟩
   ·rw [if_neg c5] at H
    have c5b0:((Int.tmod a0_0 64) == 0) = false:=beq_eq_false_iff_ne.mpr c5
    have c5b1:((Int.tmod a0_0 64) != 0) = true:=bne_iff_ne.mpr c5
    obtain⟨ji8,hji8⟩:∃ j_:Int,(wrap64 ((l0_1.length:Int) - 1)) = j_:=⟨_,rfl⟩
    replace H:(if 0 ≤ (ji8) then (if (ji8) < (l0_1.length:Int) then (if 0 ≤ (Int.tmod a0_0 64) then (some ((shr .u64 (rd l0_1 (ji8)) (Int.tmod a0_0 64)) == 0)) else (none)) else (none)) else (none)) = some r:=by first|(rw [hji8] at H;exact H)|(simp only [hji8] at H ⊢;exact H)
    (try rw [hji8] at A2)
    have hji8w:(IntKind.i64.wrap ((l0_1.length:Int) - 1)) = ji8:=(i64_w _).trans hji8
    by_cases c9:0 ≤ (ji8)
    ·rw [if_pos c9] at H
     have c9b0:decide (0 ≤ (ji8)) = true:=decide_eq_true c9
     clear c9
     by_cases c10:(ji8) < (l0_1.length:Int)
     ·rw [if_pos c10] at H
      have c10b0:decide ((ji8) < (l0_1.length:Int)) = true:=decide_eq_true c10
      clear c10
      obtain⟨ji11,hji11⟩:∃ j_:Int,(Int.tmod a0_0 64) = j_:=⟨_,rfl⟩
      replace H:(if 0 ≤ (ji11) then (some ((shr .u64 (rd l0_1 (ji8)) (ji11)) == 0)) else (none)) = some r:=by first|(rw [hji11] at H;exact H)|(simp only [hji11] at H ⊢;exact H)
      (try rw [hji11] at c5b0)
      (try rw [hji11] at c5b1)
      (try rw [hji11] at A2)
      by_cases c12:0 ≤ (ji11)
      ·rw [if_pos c12] at H
       have c12b0:=eq_true c12
       have c12b1:decide (0 ≤ (ji11)) = true:=decide_eq_true c12
       clear c12
       obtain⟨ji13,hji13⟩:∃ j_:Int,(shr .u64 (rd l0_1 (ji8)) (ji11)) = j_:=⟨_,rfl⟩
       replace H:(some ((ji13) == 0)) = some r:=by first|(rw [hji13] at H;exact H)|(simp only [hji13] at H ⊢;exact H)
       (try rw [hji13] at A2)
       have hji13_:((rd l0_1 (ji8)) / 2 ^ min (ji11).toNat 64) = ji13:=hji13
       have hji13z:(ji11) ≤ 64 → ((rd l0_1 (ji8)) / 2 ^ (ji11).toNat) = ji13:=shr_small hji13
       obtain rfl:=Option.some.inj H
       go_enter Try.func62,Try.ntmps62
       go_wp2_with (first|((with_reducible refine gate_dst (N:=1) rfl ?_);(try (refine gate_guard (by rfl) ?_;dsimp only));refine box_event ?hg (N:=1) ?hd (cs:=#[.int .i64 a0_0,.slice A0_1 l0_1.length c0_1]) (t:=30) ?hr ?_;(case hd=>rfl);(case hg=>rfl);(case hr=>first|(go_simp;done)|(go_simp;rfl));intro gb208 hg w14 hbox hb;have BK208:=mk0 (hbox);have GW208:=mk0 ((by rw [hg];exact (kZ HB.out):w.heap.size ≤ gb208));have GE208:=mk0 ((by rw [hg];exact (kZ HB.out):w.heap.size ≤ gb208));replace HB:=mk0 (kS HB.out hb);clear hb hbox hg;obtain⟨hcz15_0,hcz15_1,hfz15_0,hfz15_1⟩:=cz2 BK208.out)|((with_reducible refine gate_callee (f:=41) rfl ?_);refine goesL_ (some 6) rfl rfl Try.func41 (by kernel_rfl) rfl #[.int .i64 a0_0,.int .i64 0,.int .i64 5000] rfl (by (try simp only [mA,mC,mN]);first|done|rfl|(simp only [List.length_drop,List.length_take];done)|(simp only [List.length_drop,List.length_take];rfl)) ?_;(with_reducible refine (impl_within.calls a0_0 0 5000 true _ A2.out).mono ?_);rintro e w' ⟨rfl,⟨nd,rfl⟩⟩;refine⟨_,rfl,?_⟩;have p210:0 ≤ ((ji8):Int):=of_decide_eq_true (by first|(with_reducible assumption)|assumption);have q210:(ji8) < (l0_1.length:Int):=of_decide_eq_true (by first|(with_reducible assumption)|assumption);obtain⟨ad210,e210,hx210_0⟩:=Kd.at_int HR0_1.out (ji8) p210 q210;cases e210;replace hx210_0:=(HB.out.cell (World.block_lt_of_cell? w _ hx210_0)).trans hx210_0;replace p210:=eq_true p210;replace q210:=eq_true q210))
       go_ret
       exact⟨by first|rfl|(simp [errW_none,errW_some] <;> rfl)|(simp only [← hji8, ← hji11, ← hji13];first|rfl|(simp [errW_none,errW_some] <;> rfl))|(simp [*,errW_none,errW_some] <;> rfl),kB HB.out⟩
      ·rw [if_neg c12] at H
       exact absurd H (by simp)
     ·rw [if_neg c10] at H
      exact absurd H (by simp)
    ·rw [if_neg c9] at H
     exact absurd H (by simp)
  ·rw [if_neg c4] at H
   have c4b0:((l0_1.length:Int) == (wrap64 (Int.tdiv (wrap64 ((wrap64 (a0_0 + 64)) - 1)) 64))) = false:=beq_eq_false_iff_ne.mpr c4
   have c4b1:((l0_1.length:Int) != (wrap64 (Int.tdiv (wrap64 ((wrap64 (a0_0 + 64)) - 1)) 64))) = true:=bne_iff_ne.mpr c4
   obtain rfl:=Option.some.inj H
   go_enter Try.func62,Try.ntmps62
   go_wp2_with (first|((with_reducible refine gate_dst (N:=1) rfl ?_);(try (refine gate_guard (by rfl) ?_;dsimp only));refine box_event ?hg (N:=1) ?hd (cs:=#[.int .i64 a0_0,.slice A0_1 l0_1.length c0_1]) (t:=30) ?hr ?_;(case hd=>rfl);(case hg=>rfl);(case hr=>first|(go_simp;done)|(go_simp;rfl));intro gb208 hg w16 hbox hb;have BK208:=mk0 (hbox);have GW208:=mk0 ((by rw [hg];exact (kZ HB.out):w.heap.size ≤ gb208));have GE208:=mk0 ((by rw [hg];exact (kZ HB.out):w.heap.size ≤ gb208));replace HB:=mk0 (kS HB.out hb);clear hb hbox hg;obtain⟨hcz17_0,hcz17_1,hfz17_0,hfz17_1⟩:=cz2 BK208.out)|((with_reducible refine gate_callee (f:=41) rfl ?_);refine goesL_ (some 6) rfl rfl Try.func41 (by kernel_rfl) rfl #[.int .i64 a0_0,.int .i64 0,.int .i64 5000] rfl (by (try simp only [mA,mC,mN]);first|done|rfl|(simp only [List.length_drop,List.length_take];done)|(simp only [List.length_drop,List.length_take];rfl)) ?_;(with_reducible refine (impl_within.calls a0_0 0 5000 true _ A2.out).mono ?_);rintro e w' ⟨rfl,⟨nd,rfl⟩⟩;refine⟨_,rfl,?_⟩))
   go_ret
   exact⟨by first|rfl|(simp [errW_none,errW_some] <;> rfl)|(simp [*,errW_none,errW_some] <;> rfl),kB HB.out⟩
 ·replace c3:=Bool.eq_false_iff.mpr c3
  subst c3
  have H1:(some false) = some r:=by rw [if_neg (show ¬ (false = true) by decide)] at H;exact H
  clear H
  have H:=H1
  clear H1
  obtain rfl:=Option.some.inj H
  go_enter Try.func62,Try.ntmps62
  go_wp2_with (first|((with_reducible refine gate_dst (N:=1) rfl ?_);(try (refine gate_guard (by rfl) ?_;dsimp only));refine box_event ?hg (N:=1) ?hd (cs:=#[.int .i64 a0_0,.slice A0_1 l0_1.length c0_1]) (t:=30) ?hr ?_;(case hd=>rfl);(case hg=>rfl);(case hr=>first|(go_simp;done)|(go_simp;rfl));intro gb208 hg w18 hbox hb;have BK208:=mk0 (hbox);have GW208:=mk0 ((by rw [hg];exact (kZ HB.out):w.heap.size ≤ gb208));have GE208:=mk0 ((by rw [hg];exact (kZ HB.out):w.heap.size ≤ gb208));replace HB:=mk0 (kS HB.out hb);clear hb hbox hg;obtain⟨hcz19_0,hcz19_1,hfz19_0,hfz19_1⟩:=cz2 BK208.out)|((with_reducible refine gate_callee (f:=41) rfl ?_);refine goesL_ (some 6) rfl rfl Try.func41 (by kernel_rfl) rfl #[.int .i64 a0_0,.int .i64 0,.int .i64 5000] rfl (by (try simp only [mA,mC,mN]);first|done|rfl|(simp only [List.length_drop,List.length_take];done)|(simp only [List.length_drop,List.length_take];rfl)) ?_;(with_reducible refine (impl_within.calls a0_0 0 5000 false _ A2.out).mono ?_);rintro e w' ⟨rfl,⟨nd,rfl⟩⟩;refine⟨_,rfl,?_⟩))
  go_ret
  exact⟨by first|rfl|(simp [errW_none,errW_some] <;> rfl)|(simp [*,errW_none,errW_some] <;> rfl),kB HB.out⟩

/-! ### impl_Bits_at: function 76 -/
def impl_Bits_at.f (a0_0 : Int) (l0_1 : List Int) (a1 : Int) : Option (Int) := if 0 ≤ (wrap64 (Int.tdiv a1 64)) then (if (wrap64 (Int.tdiv a1 64)) < (l0_1.length : Int) then (if 0 ≤ (Int.tmod a1 64) then (some (wrap64 (Go.bits .and .u64 (shr .u64 (rd l0_1 (wrap64 (Int.tdiv a1 64))) (Int.tmod a1 64)) 1))) else (none)) else (none)) else (none)
set_option maxHeartbeats 8000000 in
set_option maxRecDepth 100000 in
theorem impl_Bits_at.calls (a0_0 : Int) (A0_1 : Option Addr) (c0_1 : Nat) (l0_1 : List Int) (a1 : Int) (r : Int) (w : World) (hr0_1 : Kd.C (Kd.int .u64) w A0_1 l0_1.length l0_1) (hc0_1 : l0_1.length ≤ c0_1) (h : impl_Bits_at.f a0_0 l0_1 a1 = some r) :
  Calls Try.prog 76 #[.agg #[.int .i64 a0_0, .slice A0_1 l0_1.length c0_1], .int .i64 a1] w fun e w' => e = .returned (.int .i64 r) ∧ Below w.heap.size w w' := by
 have hu30:=Try.underlying30
 have HR0_1:=mk0 hr0_1
 have HC0_1:=mk0 hc0_1
 clear hr0_1 hc0_1
 have HB:=mk0 (Below.refl w.heap.size w)
 have H:(if 0 ≤ (wrap64 (Int.tdiv a1 64)) then (if (wrap64 (Int.tdiv a1 64)) < (l0_1.length:Int) then (if 0 ≤ (Int.tmod a1 64) then (some (wrap64 (Go.bits .and .u64 (shr .u64 (rd l0_1 (wrap64 (Int.tdiv a1 64))) (Int.tmod a1 64)) 1))) else (none)) else (none)) else (none)) = some r:=h
 clear h
 obtain⟨ji3,hji3⟩:∃ j_:Int,(wrap64 (Int.tdiv a1 64)) = j_:=⟨_,rfl⟩
 replace H:(if 0 ≤ (ji3) then (if (ji3) < (l0_1.length:Int) then (if 0 ≤ (Int.tmod a1 64) then (some (wrap64 (Go.bits .and .u64 (shr .u64 (rd l0_1 (ji3)) (Int.tmod a1 64)) 1))) else (none)) else (none)) else (none)) = some r:=by first|(rw [hji3] at H;exact H)|(simp only [hji3] at H ⊢;exact H)
 have hji3w:(IntKind.i64.wrap (Int.tdiv a1 64)) = ji3:=(i64_w _).trans hji3
 by_cases c4:0 ≤ (ji3)
 ·rw [if_pos c4] at H
  have c4b0:decide (0 ≤ (ji3)) = true:=decide_eq_true c4
  clear c4
  by_cases c5:(ji3) < (l0_1.length:Int)
  ·rw [if_pos c5] at H
   have c5b0:decide ((ji3) < (l0_1.length:Int)) = true:=decide_eq_true c5
   clear c5
   obtain⟨ji6,hji6⟩:∃ j_:Int,(Int.tmod a1 64) = j_:=⟨_,rfl⟩
   replace H:(if 0 ≤ (ji6) then (some (wrap64 (Go.bits .and .u64 (shr .u64 (rd l0_1 (ji3)) (ji6)) 1))) else (none)) = some r:=by first|(rw [hji6] at H;exact H)|(simp only [hji6] at H ⊢;exact H)
   by_cases c7:0 ≤ (ji6)
   ·rw [if_pos c7] at H
    have c7b0:=eq_true c7
    have c7b1:decide (0 ≤ (ji6)) = true:=decide_eq_true c7
    clear c7
    obtain⟨ji8,hji8⟩:∃ j_:Int,(shr .u64 (rd l0_1 (ji3)) (ji6)) = j_:=⟨_,rfl⟩
    replace H:(some (wrap64 (Go.bits .and .u64 (ji8) 1))) = some r:=by first|(rw [hji8] at H;exact H)|(simp only [hji8] at H ⊢;exact H)
    have hji8_:((rd l0_1 (ji3)) / 2 ^ min (ji6).toNat 64) = ji8:=hji8
    have hji8z:(ji6) ≤ 64 → ((rd l0_1 (ji3)) / 2 ^ (ji6).toNat) = ji8:=shr_small hji8
    obtain rfl:=Option.some.inj H
    go_enter Try.func76,Try.ntmps76
    go_wp2_with (first|((with_reducible refine gate_dst (N:=2) rfl ?_);refine box_event ?hg (N:=2) ?hd (cs:=#[.int .i64 a0_0,.slice A0_1 l0_1.length c0_1]) (t:=30) ?hr ?_;(case hd=>rfl);(case hg=>rfl);(case hr=>first|(go_simp;done)|(go_simp;rfl));intro gb211 hg w9 hbox hb;have BK211:=mk0 (hbox);have GW211:=mk0 ((by rw [hg];exact (kZ HB.out):w.heap.size ≤ gb211));have GE211:=mk0 ((by rw [hg];exact (kZ HB.out):w.heap.size ≤ gb211));replace HB:=mk0 (kS HB.out hb);clear hb hbox hg;obtain⟨hcz10_0,hcz10_1,hfz10_0,hfz10_1⟩:=cz2 BK211.out;have p212:0 ≤ ((ji3):Int):=of_decide_eq_true (by first|(with_reducible assumption)|assumption);have q212:(ji3) < (l0_1.length:Int):=of_decide_eq_true (by first|(with_reducible assumption)|assumption);obtain⟨ad212,e212,hx212_0⟩:=Kd.at_int HR0_1.out (ji3) p212 q212;cases e212;replace hx212_0:=(HB.out.cell (World.block_lt_of_cell? w _ hx212_0)).trans hx212_0;replace p212:=eq_true p212;replace q212:=eq_true q212))
    go_ret
    exact⟨by first|rfl|(simp [errW_none,errW_some] <;> rfl)|(simp only [← hji3, ← hji6, ← hji8];first|rfl|(simp [errW_none,errW_some] <;> rfl))|(simp [*,errW_none,errW_some] <;> rfl),kB HB.out⟩
   ·rw [if_neg c7] at H
    exact absurd H (by simp)
  ·rw [if_neg c5] at H
   exact absurd H (by simp)
 ·rw [if_neg c4] at H
  exact absurd H (by simp)

/-! ### impl_Bits_list: function 63 -/
def impl_Bits_list.l0 : Nat → List Int → Int → Int → Int → List Int → Option (List Int)
 | 0, _, _, _, _, _ => none
 | k + 1, x3, x6, x7, x214000, x214001 => if x7 < x6 then ((impl_Bits_at.f x214000 x214001 x7).bind fun t214 => (if x3.length < 17592186044416 then (impl_Bits_list.l0 k (x3 ++ [t214]) x6 (wrap64 (x7 + 1)) x214000 x214001) else (none))) else (some x3)
def impl_Bits_list.f (k : Nat) (a0_0 : Int) (l0_1 : List Int) : Option (List Int) := impl_Bits_list.l0 k ([] : List Int) a0_0 0 a0_0 l0_1
theorem impl_Bits_list.mono_l : ∀ k, (∀ y0 y1 y2 y3 y4, LeO (impl_Bits_list.l0 k y0 y1 y2 y3 y4) (impl_Bits_list.l0 (k + 1) y0 y1 y2 y3 y4))
 | 0 => fun _ _ _ _ _ r h => by simp [impl_Bits_list.l0] at h
 | k + 1 => by
  have ih0 := impl_Bits_list.mono_l k
  ·intro y0 y1 y2 y3 y4
   unfold impl_Bits_list.l0
   repeat' first|(with_reducible first|exact ih0 _ _ _ _ _|exact LeO.refl _|exact LeO.none _|refine LeO.ite ?_ ?_|refine LeO.bind ?_ (fun _ => ?_))|exact LeO.none _|refine LeO.ite ?_ ?_|refine LeO.bind ?_ (fun _ => ?_)
theorem impl_Bits_list.mono : ∀ a0 a1 k, LeO (impl_Bits_list.f k a0 a1) (impl_Bits_list.f (k + 1) a0 a1) := by
 intro a0 a1 k
 have ih0 := impl_Bits_list.mono_l k
 unfold impl_Bits_list.f
 repeat' first|(with_reducible first|exact ih0 _ _ _ _ _|exact LeO.refl _|exact LeO.none _|refine LeO.ite ?_ ?_|refine LeO.bind ?_ (fun _ => ?_))|exact LeO.none _|refine LeO.ite ?_ ?_|refine LeO.bind ?_ (fun _ => ?_)
set_option maxHeartbeats 8000000 in
set_option maxRecDepth 100000 in
theorem impl_Bits_list.calls (k : Nat) (a0_0 : Int) (A0_1 : Option Addr) (c0_1 : Nat) (l0_1 : List Int) (r : List Int) (w : World) (hr0_1 : Kd.C (Kd.int .u64) w A0_1 l0_1.length l0_1) (hc0_1 : l0_1.length ≤ c0_1) (h : impl_Bits_list.f k a0_0 l0_1 = some r) :
  Calls Try.prog 63 #[.agg #[.int .i64 a0_0, .slice A0_1 l0_1.length c0_1]] w fun e w' => ∃ v0_ : Value, e = .returned (v0_) ∧ Kd.R (Kd.int .i64) 3 w' w.heap.size (fun _ => True) v0_ r ∧ Below w.heap.size w w' := by
 have hu30:=Try.underlying30
 have HR0_1:=mk0 hr0_1
 have HC0_1:=mk0 hc0_1
 clear hr0_1 hc0_1
 have HB:=mk0 (Below.refl w.heap.size w)
 have H:(impl_Bits_list.l0 k ([]:List Int) a0_0 0 a0_0 l0_1) = some r:=h
 clear h
 have H':=mk0 H
 clear H
 go_enter Try.func63,Try.ntmps63
 go_wp2_with (first|((with_reducible refine gate_dst (N:=1) rfl ?_);refine box_event ?hg (N:=1) ?hd (cs:=#[.int .i64 a0_0,.slice A0_1 l0_1.length c0_1]) (t:=30) ?hr ?_;(case hd=>rfl);(case hg=>rfl);(case hr=>first|(go_simp;done)|(go_simp;rfl));intro gb213 hg w2 hbox hb;have BK213:=mk0 (hbox);have GW213:=mk0 ((by rw [hg];exact (kZ HB.out):w.heap.size ≤ gb213));have GE213:=mk0 ((by rw [hg];exact (kZ HB.out):w.heap.size ≤ gb213));replace HB:=mk0 (kS HB.out hb);clear hb hbox hg;obtain⟨hcz3_0,hcz3_1,hfz3_0,hfz3_1⟩:=cz2 BK213.out))
 go_loopg [3,7] k (fun kq v3 v7 w'=>∃ (x3_1:List Int) (x7_1:Int),v7 = .int .i64 x7_1 ∧ Aside0 (impl_Bits_list.l0 kq x3_1 a0_0 x7_1 a0_0 l0_1 = some r) ∧ Aside0 (kq ≤ k) ∧ Aside0 (Kd.R (Kd.int .i64) 3 w' w.heap.size (fun _=>True) v3 x3_1) ∧ Aside0 (w'.heap[gb213]? = some (.cells #[.int .i64 a0_0,(.slice A0_1 l0_1.length c0_1)] 30 (0,0))) ∧ Aside0 (Below w.heap.size w w'))
 case atStart=>exact⟨(([]:List Int)),(0),(by first|rfl|(simp;done)|(simp [*];done)),H',⟨Nat.le_refl _⟩,⟨by first|exact Kd.R_nil _ _ _ _ _|exact Kd.N_nil _ _ _ _ _|exact Kd.V_nil _ _ _ _ _|exact Kd.Q_nil _ _ _ _ _|exact Kd.S_nil _ _ _ _ _⟩,⟨kN BK213.out⟩,⟨kB HB.out⟩⟩
 case round =>
  clear H'
  try clear p2
  try clear hcz3_0
  try clear hcz3_1
  try clear hfz3_0
  try clear hfz3_1
  obtain⟨x3_1,x7_1,rfl,HA,HK1,HO_3,BK213,HB⟩:=hrel
  cases gk with
  | zero=>exact absurd HA.out (by simp [impl_Bits_list.l0])
  | succ k1 =>
   have H:=HA.out
   clear HA
   simp only [impl_Bits_list.l0] at H
   by_cases c4:x7_1 < a0_0
   ·rw [if_pos c4] at H
    have c4b0:decide (x7_1 < a0_0) = true:=decide_eq_true c4
    clear c4
    replace H:=Option.bind_eq_some_iff.mp H
    obtain⟨t214,A50,H⟩:=H
    replace H:(if x3_1.length < 17592186044416 then (impl_Bits_list.l0 k1 (x3_1 ++ [t214]) a0_0 (wrap64 (x7_1 + 1)) a0_0 l0_1) else (none)) = some r:=H
    have A5:=mk0 A50
    clear A50
    by_cases c6:x3_1.length < 17592186044416
    ·rw [if_pos c6] at H
     have LMc6:=mk0 c6
     clear c6
     obtain⟨y215,hy215⟩:∃ y_:List Int,y_ = (x3_1 ++ [t214]):=⟨_,rfl⟩
     replace H:(impl_Bits_list.l0 k1 y215 a0_0 (wrap64 (x7_1 + 1)) a0_0 l0_1) = some r:=by first|(rw [hy215];with_reducible exact H)|(have H2_:=(Option.bind_some _ _).symm.trans H;rw [hy215];with_reducible exact H2_)|(have H2_:=(Option.bind_some _ _).symm.trans H;with_reducible exact H2_)|with_reducible exact H|(rw [hy215];exact H)|exact H
     have Ny215:=mk0 hy215
     clear hy215
     have H':=mk0 H
     clear H
     obtain⟨hcz7_0,hcz7_1,hfz7_0,hfz7_1⟩:=cz2 BK213.out
     go_wp2_with (first|((with_reducible refine gate_callee (f:=76) rfl ?_);refine goesL_ (some 13) rfl rfl Try.func76 (by kernel_rfl) rfl #[.agg #[.int .i64 a0_0,.slice A0_1 l0_1.length c0_1],.int .i64 x7_1] rfl (by (try simp only [mA,mC,mN]);first|done|rfl|(simp only [List.length_drop,List.length_take];done)|(simp only [List.length_drop,List.length_take];rfl)) ?_;(with_reducible refine (impl_Bits_at.calls a0_0 _ _ l0_1 x7_1 t214 _ ?side1 ?side2 A5.out).mono ?_);(case side1=>exact kC (Kd.C_below HR0_1.out HB.out));(case side2=>exact HC0_1.out);rintro e w8 ⟨rfl,hb⟩;refine⟨_,rfl,?_⟩;replace HO_3:=mk0 (bR HO_3.out hb);replace BK213:=mk0 (kK BK213.out hb);replace HB:=mk0 (kS HB.out hb);(try clear hb))|((with_reducible refine gate_builtin (b:=.append) (xs:=#[.tmp 10,.tmp 14]) rfl ?_);at_builtin;refine Kd.R_append (Kd.int .i64) (w0:=w) w.heap.size rfl (.tmp 10) (.tmp 14) 24 3 (.int .i64 0) 8 rfl Try.underlying24 info3 rfl (by decide) (by omega) u3 x3_1 t214 [.int .i64 t214] (fun _=>True) (fun _=>False) rfl rfl ?aP (fun _ hk=>hk.elim) ?aF ?aO ?aB ?aS ?aL ?_;(case aP=>exact rfl);(case aB=>exact (kB HB.out));(case aF=>exact (fun _ _=>trivial));(case aO=>exact (rR HO_3.out));(case aS=>exact (kZ HB.out));(case aL=>have:=LMc6.out;omega);intro v216 w9 ho hb hg hat;rw [← Ny215.out] at ho;replace BK213:=mk0 (blk_grown (kN BK213.out) hg (Kd.R_ne HO_3.out BK213.out (by decide)));replace HB:=mk0 (hb);have HO217:=mk0 (ho);clear HO_3 ho hb hg hat))
     go_roundg k1
     case measure=>have:=HK1.out;omega
     case rel=>exact⟨(y215),(wrap64 (x7_1 + 1)),(by first|rfl|(simp;done)|(simp [*];done)),H',⟨by have:=HK1.out;omega⟩,⟨rR HO217.out⟩,⟨kN BK213.out⟩,⟨kB HB.out⟩⟩
    ·rw [if_neg c6] at H
     exact absurd H (by simp)
   ·rw [if_neg c4] at H
    have c4b0:decide (x7_1 < a0_0) = false:=decide_eq_false c4
    clear c4
    obtain rfl:=Option.some.inj H
    go_wp2
    go_ret
    exact⟨_,by first|rfl|(simp [errW_none,errW_some] <;> rfl)|(simp [*,errW_none,errW_some] <;> rfl),rR HO_3.out,kB HB.out⟩


/-! ### impl_HuffRead: function 30 (by hand) -/
def impl_HuffRead.l0 : Nat → List Int → List Int → List ((Int × Int) × Int) → Int → Option (List ((Int × Int) × Int))
 | 0, _, _, _, _ => none
 | k + 1, codes, lens, kn, i => if i < (codes.length : Int) then (if 0 ≤ i then (if i < (lens.length : Int) then (if 0 < rd lens i then (if (kn.any (fun x => x.1 == (rd codes i, rd lens i)) || !(Wd.wf (rd codes i) && Wd.wf (rd lens i))) = true then none else impl_HuffRead.l0 k codes lens (kn ++ [((rd codes i, rd lens i), i)]) (wrap64 (i + 1))) else impl_HuffRead.l0 k codes lens kn (wrap64 (i + 1))) else none) else none) else some kn
def impl_HuffRead.l1 : Nat → List ((Int × Int) × Int) → List Int → List Int → Int → Int → Int → Int → Option (List Int × Bool)
 | 0, _, _, _, _, _, _, _ => none
 | k + 1, kn, bits, out, c, m, i, n => if i < (bits.length : Int) then (if 0 ≤ i then (if (Wd.wf (Go.bits .or .i64 (wrap64 (c * 2)) (rd bits i)) && Wd.wf (wrap64 (m + 1))) = true then (match kn.find? (fun x => x.1 == (Go.bits .or .i64 (wrap64 (c * 2)) (rd bits i), wrap64 (m + 1))) with
   | some x => if out.length < 17592186044416 then impl_HuffRead.l1 k kn bits (out ++ [x.2]) 0 0 (wrap64 (i + 1)) n else none
   | none => if 60 < wrap64 (m + 1) then some (([] : List Int), false) else impl_HuffRead.l1 k kn bits out (Go.bits .or .i64 (wrap64 (c * 2)) (rd bits i)) (wrap64 (m + 1)) (wrap64 (i + 1)) n) else none) else none) else (if 0 < m then some (([] : List Int), false) else if (out.length : Int) = n then some (out, true) else some (([] : List Int), false))
def impl_HuffRead.g (k : Nat) (a0_0 : Int) (l0_1 : List Int) (l1 : List Int) (a2 : Int) : Option (List Int × Bool) := (impl_huffCodes.f k l1).bind fun codes => (impl_HuffRead.l0 k codes l1 [] 0).bind fun kn => (impl_Bits_list.f k a0_0 l0_1).bind fun bits => impl_HuffRead.l1 k kn bits [] 0 0 0 a2
def impl_HuffRead.f (k : Nat) (a0_0 : Int) (l0_1 : List Int) (l1 : List Int) (a2 : Int) : Option (List Int × Bool) := (impl_BitsOk.f a0_0 l0_1).bind fun t1 => if t1 = true then ((impl_HuffOk.f k l1).bind fun t2 => if t2 = true then (if a2 < 0 then some (([] : List Int), false) else impl_HuffRead.g k a0_0 l0_1 l1 a2) else some (([] : List Int), false)) else some (([] : List Int), false)
theorem impl_HuffRead.mono_l0 : ∀ k y0 y1 y2 y3, LeO (impl_HuffRead.l0 k y0 y1 y2 y3) (impl_HuffRead.l0 (k + 1) y0 y1 y2 y3)
 | 0 => fun _ _ _ _ r h => by simp [impl_HuffRead.l0] at h
 | k + 1 => by
  intro y0 y1 y2 y3
  have ih0 := impl_HuffRead.mono_l0 k
  unfold impl_HuffRead.l0
  repeat' first|(with_reducible first|exact ih0 _ _ _ _|exact LeO.refl _|exact LeO.none _|refine LeO.ite ?_ ?_)|exact LeO.none _|refine LeO.ite ?_ ?_
theorem impl_HuffRead.mono_l1 : ∀ k y0 y1 y2 y3 y4 y5 y6, LeO (impl_HuffRead.l1 k y0 y1 y2 y3 y4 y5 y6) (impl_HuffRead.l1 (k + 1) y0 y1 y2 y3 y4 y5 y6)
 | 0 => fun _ _ _ _ _ _ _ r h => by simp [impl_HuffRead.l1] at h
 | k + 1 => by
  intro y0 y1 y2 y3 y4 y5 y6
  have ih0 := impl_HuffRead.mono_l1 k
  unfold impl_HuffRead.l1
  refine LeO.ite (LeO.ite (LeO.ite ?_ (LeO.none _)) (LeO.none _)) (LeO.refl _)
  split
  · exact LeO.ite (ih0 _ _ _ _ _ _ _) (LeO.none _)
  · exact LeO.ite (LeO.refl _) (ih0 _ _ _ _ _ _ _)
theorem impl_HuffRead.mono : ∀ a0 a1 a2 a3 k, LeO (impl_HuffRead.f k a0 a1 a2 a3) (impl_HuffRead.f (k + 1) a0 a1 a2 a3) := by
  intro a0 a1 a2 a3 k
  unfold impl_HuffRead.f impl_HuffRead.g
  refine LeO.bind (LeO.refl _) (fun _ => LeO.ite (LeO.bind (impl_HuffOk.mono _ _) (fun _ => LeO.ite (LeO.ite (LeO.refl _) (LeO.bind (impl_huffCodes.mono _ _) (fun _ => LeO.bind (impl_HuffRead.mono_l0 _ _ _ _ _) (fun _ => LeO.bind (impl_Bits_list.mono _ _ _) (fun _ => impl_HuffRead.mono_l1 _ _ _ _ _ _ _ _))))) (LeO.refl _))) (LeO.refl _))
set_option maxHeartbeats 8000000 in
set_option maxRecDepth 100000 in
theorem impl_HuffRead.calls (k : Nat) (a0_0 : Int) (A0_1 : Option Addr) (c0_1 : Nat) (l0_1 : List Int) (A1 : Option Addr) (c1 : Nat) (l1 : List Int) (a2 : Int) (r1 : List Int) (r2 : Bool) (w : World) (hr0_1 : Kd.C (Kd.int .u64) w A0_1 l0_1.length l0_1) (hc0_1 : l0_1.length ≤ c0_1) (hr1 : Kd.C (Kd.int .i64) w A1 l1.length l1) (hc1 : l1.length ≤ c1) (h : impl_HuffRead.f k a0_0 l0_1 l1 a2 = some (r1, r2)) :
  Calls Try.prog 30 #[.agg #[.int .i64 a0_0, .slice A0_1 l0_1.length c0_1], .slice A1 l1.length c1, .int .i64 a2] w fun e w' => ∃ v0_ : Value, e = .returned (.tuple #[v0_, .bool r2]) ∧ Kd.R (Kd.int .i64) 3 w' w.heap.size (fun _ => True) v0_ r1 ∧ Below w.heap.size w w' := by
 have HR0_1:=mk0 hr0_1
 have HC0_1:=mk0 hc0_1
 have HR1:=mk0 hr1
 have HC1:=mk0 hc1
 clear hr0_1 hc0_1 hr1 hc1
 have HB:=mk0 (Below.refl w.heap.size w)
 unfold impl_HuffRead.f at h
 obtain ⟨t1, h1, h⟩ := Option.bind_eq_some_iff.mp h
 have F1 := Aside0.mk h1
 clear h1
 by_cases b1 : t1 = true
 rotate_left
 · replace b1 := Bool.eq_false_iff.mpr b1
   subst b1
   rw [if_neg (by decide)] at h
   simp only [Option.some.injEq, Prod.mk.injEq] at h
   obtain ⟨rfl, rfl⟩ := h
   go_enter Try.func30,Try.ntmps30
   go_wp2_with (first|((with_reducible refine gate_dst (N:=3) rfl ?_);(try (refine gate_guard (by rfl) ?_;dsimp only));refine box_event ?hg (N:=3) ?hd (cs:=#[.int .i64 a0_0,.slice A0_1 l0_1.length c0_1]) (t:=30) ?hr ?_;(case hd=>rfl);(case hg=>rfl);(case hr=>first|(go_simp;done)|(go_simp;rfl));intro gbv hg w5 hbox hb;have BKV:=mk0 (hbox);have GWV:=mk0 ((by rw [hg];exact (kZ HB.out):w.heap.size ≤ gbv));replace HB:=mk0 (kS HB.out hb);clear hb hbox hg;obtain⟨hcz0_0,hcz0_1,hfz0_0,hfz0_1⟩:=cz2 BKV.out)|((with_reducible refine gate_callee (f:=62) rfl ?_);refine goesL_ (some 18) rfl rfl Try.func62 (by kernel_rfl) rfl #[.agg #[.int .i64 a0_0,.slice A0_1 l0_1.length c0_1]] rfl (by (try simp only [mA,mC,mN]);first|done|rfl) ?_;(with_reducible refine (impl_BitsOk.calls a0_0 _ _ l0_1 false _ ?side1 ?side2 F1.out).mono ?_);(case side1=>exact kC (Kd.C_below HR0_1.out HB.out));(case side2=>exact HC0_1.out);rintro e w15 ⟨rfl,hb⟩;refine⟨_,rfl,?_⟩;replace BKV:=mk0 (kK BKV.out hb);replace HB:=mk0 (kS HB.out hb);(try clear hb)))
   go_ret2
   exact⟨_,by first|rfl|(simp [errW_none,errW_some] <;> rfl)|(simp [*,errW_none,errW_some] <;> rfl),Kd.R_nil _ _ _ _ _,kB HB.out⟩
 subst b1
 rw [if_pos rfl] at h
 obtain ⟨t2, h2, h⟩ := Option.bind_eq_some_iff.mp h
 have F2 := Aside0.mk h2
 clear h2
 by_cases b2 : t2 = true
 rotate_left
 · replace b2 := Bool.eq_false_iff.mpr b2
   subst b2
   rw [if_neg (by decide)] at h
   simp only [Option.some.injEq, Prod.mk.injEq] at h
   obtain ⟨rfl, rfl⟩ := h
   go_enter Try.func30,Try.ntmps30
   go_wp2_with (first|((with_reducible refine gate_dst (N:=3) rfl ?_);(try (refine gate_guard (by rfl) ?_;dsimp only));refine box_event ?hg (N:=3) ?hd (cs:=#[.int .i64 a0_0,.slice A0_1 l0_1.length c0_1]) (t:=30) ?hr ?_;(case hd=>rfl);(case hg=>rfl);(case hr=>first|(go_simp;done)|(go_simp;rfl));intro gbv hg w5 hbox hb;have BKV:=mk0 (hbox);have GWV:=mk0 ((by rw [hg];exact (kZ HB.out):w.heap.size ≤ gbv));replace HB:=mk0 (kS HB.out hb);clear hb hbox hg;obtain⟨hcz0_0,hcz0_1,hfz0_0,hfz0_1⟩:=cz2 BKV.out)|((with_reducible refine gate_callee (f:=62) rfl ?_);refine goesL_ (some 18) rfl rfl Try.func62 (by kernel_rfl) rfl #[.agg #[.int .i64 a0_0,.slice A0_1 l0_1.length c0_1]] rfl (by (try simp only [mA,mC,mN]);first|done|rfl) ?_;(with_reducible refine (impl_BitsOk.calls a0_0 _ _ l0_1 true _ ?side1 ?side2 F1.out).mono ?_);(case side1=>exact kC (Kd.C_below HR0_1.out HB.out));(case side2=>exact HC0_1.out);rintro e w15 ⟨rfl,hb⟩;refine⟨_,rfl,?_⟩;replace BKV:=mk0 (kK BKV.out hb);replace HB:=mk0 (kS HB.out hb);(try clear hb))|(go_at_call 35;(with_reducible refine (impl_HuffOk.calls k _ _ l1 false _ ?side1 ?side2 F2.out).mono ?_);(case side1=>exact kC (Kd.C_below HR1.out HB.out));(case side2=>exact HC1.out);rintro e w16 ⟨rfl,hb⟩;replace BKV:=mk0 (kK BKV.out hb);replace HB:=mk0 (kS HB.out hb);(try clear hb)))
   go_ret2
   exact⟨_,by first|rfl|(simp [errW_none,errW_some] <;> rfl)|(simp [*,errW_none,errW_some] <;> rfl),Kd.R_nil _ _ _ _ _,kB HB.out⟩
 subst b2
 rw [if_pos rfl] at h
 by_cases b3 : a2 < 0
 · rw [if_pos b3] at h
   have b3b0 : decide (a2 < 0) = true := decide_eq_true b3
   clear b3
   simp only [Option.some.injEq, Prod.mk.injEq] at h
   obtain ⟨rfl, rfl⟩ := h
   go_enter Try.func30,Try.ntmps30
   go_wp2_with (first|((with_reducible refine gate_dst (N:=3) rfl ?_);(try (refine gate_guard (by rfl) ?_;dsimp only));refine box_event ?hg (N:=3) ?hd (cs:=#[.int .i64 a0_0,.slice A0_1 l0_1.length c0_1]) (t:=30) ?hr ?_;(case hd=>rfl);(case hg=>rfl);(case hr=>first|(go_simp;done)|(go_simp;rfl));intro gbv hg w5 hbox hb;have BKV:=mk0 (hbox);have GWV:=mk0 ((by rw [hg];exact (kZ HB.out):w.heap.size ≤ gbv));replace HB:=mk0 (kS HB.out hb);clear hb hbox hg;obtain⟨hcz0_0,hcz0_1,hfz0_0,hfz0_1⟩:=cz2 BKV.out)|((with_reducible refine gate_callee (f:=62) rfl ?_);refine goesL_ (some 18) rfl rfl Try.func62 (by kernel_rfl) rfl #[.agg #[.int .i64 a0_0,.slice A0_1 l0_1.length c0_1]] rfl (by (try simp only [mA,mC,mN]);first|done|rfl) ?_;(with_reducible refine (impl_BitsOk.calls a0_0 _ _ l0_1 true _ ?side1 ?side2 F1.out).mono ?_);(case side1=>exact kC (Kd.C_below HR0_1.out HB.out));(case side2=>exact HC0_1.out);rintro e w15 ⟨rfl,hb⟩;refine⟨_,rfl,?_⟩;replace BKV:=mk0 (kK BKV.out hb);replace HB:=mk0 (kS HB.out hb);(try clear hb))|(go_at_call 35;(with_reducible refine (impl_HuffOk.calls k _ _ l1 true _ ?side1 ?side2 F2.out).mono ?_);(case side1=>exact kC (Kd.C_below HR1.out HB.out));(case side2=>exact HC1.out);rintro e w16 ⟨rfl,hb⟩;replace BKV:=mk0 (kK BKV.out hb);replace HB:=mk0 (kS HB.out hb);(try clear hb)))
   go_ret2
   exact⟨_,by first|rfl|(simp [errW_none,errW_some] <;> rfl)|(simp [*,errW_none,errW_some] <;> rfl),Kd.R_nil _ _ _ _ _,kB HB.out⟩
 rw [if_neg b3] at h
 have b3b0 : decide (a2 < 0) = false := decide_eq_false b3
 clear b3
 unfold impl_HuffRead.g at h
 obtain ⟨codes, h3, h⟩ := Option.bind_eq_some_iff.mp h
 have F3 := Aside0.mk h3
 clear h3
 obtain ⟨KN, h4, h⟩ := Option.bind_eq_some_iff.mp h
 have F4 := Aside0.mk h4
 clear h4
 obtain ⟨bits, h5, h⟩ := Option.bind_eq_some_iff.mp h
 have F5 := Aside0.mk h5
 have H' := Aside0.mk h
 clear h5 h
 go_enter Try.func30,Try.ntmps30
 go_wp2_with (first|((with_reducible refine gate_dst (N:=3) rfl ?_);(try (refine gate_guard (by rfl) ?_;dsimp only));refine box_event ?hg (N:=3) ?hd (cs:=#[.int .i64 a0_0,.slice A0_1 l0_1.length c0_1]) (t:=30) ?hr ?_;(case hd=>rfl);(case hg=>rfl);(case hr=>first|(go_simp;done)|(go_simp;rfl));intro gbv hg w5 hbox hb;have BKV:=mk0 (hbox);have GWV:=mk0 ((by rw [hg];exact (kZ HB.out):w.heap.size ≤ gbv));replace HB:=mk0 (kS HB.out hb);clear hb hbox hg;obtain⟨hcz0_0,hcz0_1,hfz0_0,hfz0_1⟩:=cz2 BKV.out)|((with_reducible refine gate_callee (f:=62) rfl ?_);refine goesL_ (some 18) rfl rfl Try.func62 (by kernel_rfl) rfl #[.agg #[.int .i64 a0_0,.slice A0_1 l0_1.length c0_1]] rfl (by (try simp only [mA,mC,mN]);first|done|rfl) ?_;(with_reducible refine (impl_BitsOk.calls a0_0 _ _ l0_1 true _ ?side1 ?side2 F1.out).mono ?_);(case side1=>exact kC (Kd.C_below HR0_1.out HB.out));(case side2=>exact HC0_1.out);rintro e w15 ⟨rfl,hb⟩;refine⟨_,rfl,?_⟩;replace BKV:=mk0 (kK BKV.out hb);replace HB:=mk0 (kS HB.out hb);(try clear hb))|(go_at_call 35;(with_reducible refine (impl_HuffOk.calls k _ _ l1 true _ ?side1 ?side2 F2.out).mono ?_);(case side1=>exact kC (Kd.C_below HR1.out HB.out));(case side2=>exact HC1.out);rintro e w16 ⟨rfl,hb⟩;replace BKV:=mk0 (kK BKV.out hb);replace HB:=mk0 (kS HB.out hb);(try clear hb))|((with_reducible refine gate_dst (N:=29) rfl ?_);refine Wd.make_event ?hg ?hr ?_;(case hg=>rfl);(case hr=>first|(go_simp;done)|(go_simp;rfl));intro gm hg w7 hbox hb;have BKM:=mk0 (hbox);have GWM:=mk0 ((by rw [hg];exact (kZ HB.out):w.heap.size ≤ gm));have NVM:=mk0 (show gbv ≠ gm from (by rw [hg];exact Nat.ne_of_lt (kL BKV.out)));replace BKV:=mk0 (kK BKV.out hb);replace HB:=mk0 (kS HB.out hb);clear hb hbox hg)|((with_reducible refine gate_callee (f:=36) rfl ?_);refine goesL_ (some 31) rfl rfl Try.func36 (by kernel_rfl) rfl #[.slice A1 l1.length c1] rfl (by (try simp only [mA,mC,mN]);first|done|rfl) ?_;(with_reducible refine (impl_huffCodes.calls k _ _ l1 codes _ ?side1 ?side2 F3.out).mono ?_);(case side1=>exact kC (Kd.C_below HR1.out HB.out));(case side2=>exact HC1.out);rintro e w8 ⟨v31,rfl,ho0,hb⟩;refine⟨_,rfl,?_⟩;have HOC:=mk0 (Kd.R_lower (Kd.R_newB (Kd.R_newB ho0 (kN BKV.out)) (kN BKM.out)) (kZ HB.out));replace BKV:=mk0 (kK BKV.out hb);replace BKM:=mk0 (kK BKM.out hb);replace HB:=mk0 (kS HB.out hb);(try clear hb);(try clear ho0);obtain⟨Aoc,coc,eoc⟩:=Kd.R_slice HOC.out;subst eoc))
 go_loopg [33] k (fun kq v33 w'=>∃ (kn : List ((Int × Int) × Int)) (i : Int) (es : Array MapEntry) (clock : Nat), v33 = .int .i64 i ∧ Aside0 (impl_HuffRead.l0 kq codes l1 kn i = some KN) ∧ Aside0 (kq ≤ k) ∧ Aside0 (w'.heap[gm]? = some (.map es clock)) ∧ Aside0 (Wd.Tells es kn) ∧ Aside0 (Kd.R (Kd.int .i64) 3 w' w.heap.size (fun k_=>k_ ≠ gbv ∧ k_ ≠ gm) (.slice Aoc codes.length coc) codes) ∧ Aside0 (w'.heap[gbv]? = some (.cells #[.int .i64 a0_0,.slice A0_1 l0_1.length c0_1] 30 (0,0))) ∧ Aside0 (Below w.heap.size w w'))
 case atStart=>exact⟨[],0,#[],0,rfl,F4,⟨Nat.le_refl _⟩,⟨kN BKM.out⟩,⟨Wd.tells_nil⟩,⟨rR (Kd.R_mono HOC.out (fun _ hk=>⟨hk.1.2,hk.2⟩))⟩,⟨kN BKV.out⟩,⟨kB HB.out⟩⟩
 case round =>
  clear F4 BKM HOC BKV HB
  obtain⟨kn,i,es,clock,rfl,HA,HK1,BKM,HT,HOC,BKV,HB⟩:=hrel
  cases gk with
  | zero=>exact absurd HA.out (by simp [impl_HuffRead.l0])
  | succ k1 =>
   have H:=HA.out
   clear HA
   simp only [impl_HuffRead.l0] at H
   by_cases c1:i < (codes.length:Int)
   rotate_left
   · rw [if_neg c1] at H
     have c1b0:decide (i < (codes.length:Int)) = false:=decide_eq_false c1
     clear c1
     obtain rfl:=Option.some.inj H
     clear H
     obtain⟨hcz1_0,hcz1_1,hfz1_0,hfz1_1⟩:=cz2 BKV.out
     go_wp2_with (first
       | ((with_reducible refine gate_dst (N:=12) rfl ?_);refine box_event ?hg (N:=12) ?hd (cs:=#[.int .i64 0,.int .i64 0]) (t:=76) ?hr ?_;(case hd=>rfl);(case hg=>rfl);(case hr=>first|(go_simp;done)|(go_simp;rfl));intro gn hg w9 hbox hb;have BKN:=mk0 (hbox);have GWN:=mk0 ((by rw [hg];exact (kZ HB.out):w.heap.size ≤ gn));have NMN:=mk0 (show gm ≠ gn from (by rw [hg];exact Nat.ne_of_lt (kL BKM.out)));replace BKV:=mk0 (kK BKV.out hb);replace BKM:=mk0 (kK BKM.out hb);replace HB:=mk0 (kS HB.out hb);clear hb hbox hg hcz1_0 hcz1_1 hfz1_0 hfz1_1;obtain⟨hcz2_0,hcz2_1,hfz2_0,hfz2_1⟩:=cz2 BKV.out)
       | ((with_reducible refine gate_callee (f:=63) rfl ?_);refine goesL_ (some 53) rfl rfl Try.func63 (by kernel_rfl) rfl #[.agg #[.int .i64 a0_0,.slice A0_1 l0_1.length c0_1]] rfl (by (try simp only [mA,mC,mN]);first|done|rfl) ?_;(with_reducible refine (impl_Bits_list.calls k a0_0 _ _ l0_1 bits _ ?side1 ?side2 F5.out).mono ?_);(case side1=>exact kC (Kd.C_below HR0_1.out HB.out));(case side2=>exact HC0_1.out);rintro e w10 ⟨v53,rfl,ho0,hb⟩;refine⟨_,rfl,?_⟩;have HOB:=mk0 (Kd.R_lower (Kd.R_newB (Kd.R_newB ho0 (kN BKM.out)) (kN BKN.out)) (kZ HB.out));replace BKM:=mk0 (kK BKM.out hb);replace BKN:=mk0 (kK BKN.out hb);replace HB:=mk0 (kS HB.out hb);(try clear hb);(try clear ho0);obtain⟨Aob,cob,eob⟩:=Kd.R_slice HOB.out;subst eob))
     go_loopg [11,55] k (fun kq v11 v55 w'=>∃ (out : List Int) (c m i : Int), v55 = .int .i64 i ∧ Aside0 (impl_HuffRead.l1 kq kn bits out c m i a2 = some (r1,r2)) ∧ Aside0 (kq ≤ k) ∧ Aside0 (w'.heap[gm]? = some (.map es clock)) ∧ Aside0 (w'.heap[gn]? = some (.cells #[.int .i64 c,.int .i64 m] 76 (0,0))) ∧ Aside0 (Kd.R (Kd.int .i64) 3 w' w.heap.size (fun k_=>(k_ ≠ gm ∧ k_ ≠ gn) ∧ some k_ ≠ (v11:Value).ownBlock) (.slice Aob bits.length cob) bits) ∧ Aside0 (Kd.R (Kd.int .i64) 3 w' w.heap.size (fun k_=>(k_ ≠ gm ∧ k_ ≠ gn) ∧ some k_ ≠ ((.slice Aob bits.length cob):Value).ownBlock) v11 out) ∧ Aside0 (Below w.heap.size w w'))
     case atStart=>exact⟨[],0,0,0,rfl,H',⟨Nat.le_refl _⟩,⟨kN BKM.out⟩,⟨kN BKN.out⟩,⟨rR (Kd.R_mono HOB.out (fun k_ hk=>⟨⟨hk.1.2,hk.2⟩,by simp [Value.ownBlock]⟩))⟩,⟨Kd.R_nil _ _ _ _ _⟩,⟨kB HB.out⟩⟩
     case round =>
      clear H' BKM BKN HOB HB BKV
      obtain⟨out,c,m,i2,rfl,HA,HK2,BKM,BKN,HOB,HOO,HB⟩:=hrel
      cases gk with
      | zero=>exact absurd HA.out (by simp [impl_HuffRead.l1])
      | succ k2 =>
       have H:=HA.out
       clear HA
       simp only [impl_HuffRead.l1] at H
       obtain⟨hcz3_0,hcz3_1,hfz3_0,hfz3_1⟩:=cz2 BKN.out
       by_cases c2:i2 < (bits.length:Int)
       rotate_left
       · rw [if_neg c2] at H
         have c2b0:decide (i2 < (bits.length:Int)) = false:=decide_eq_false c2
         clear c2
         obtain⟨Aoo,coo,eoo⟩:=Kd.R_slice HOO.out
         subst eoo
         by_cases c3:0 < m
         · rw [if_pos c3] at H
           have c3b0:decide (0 < m) = true:=decide_eq_true c3
           have c3b1:decide (m > 0) = true:=decide_eq_true c3
           clear c3
           simp only [Option.some.injEq,Prod.mk.injEq] at H
           obtain⟨rfl,rfl⟩:=H
           go_wp2
           go_ret2
           exact⟨_,by first|rfl|(simp [errW_none,errW_some] <;> rfl)|(simp [*,errW_none,errW_some] <;> rfl),Kd.R_nil _ _ _ _ _,kB HB.out⟩
         rw [if_neg c3] at H
         have c3b0:decide (0 < m) = false:=decide_eq_false c3
         have c3b1:decide (m > 0) = false:=decide_eq_false c3
         clear c3
         by_cases c4:(out.length:Int) = a2
         · rw [if_pos c4] at H
           have c4b0:decide ((out.length:Int) = a2) = true:=decide_eq_true c4
           have c4b1:((out.length:Int) == a2) = true:=by simpa using c4
           have c4b2:((out.length:Int) != a2) = false:=by simpa using c4
           clear c4
           simp only [Option.some.injEq,Prod.mk.injEq] at H
           obtain⟨rfl,rfl⟩:=H
           go_wp2
           go_ret2
           exact⟨_,by first|rfl|(simp [errW_none,errW_some] <;> rfl)|(simp [*,errW_none,errW_some] <;> rfl),rR (Kd.R_mono HOO.out (fun _ _=>trivial)),kB HB.out⟩
         · rw [if_neg c4] at H
           have c4b0:decide ((out.length:Int) = a2) = false:=decide_eq_false c4
           have c4b1:((out.length:Int) == a2) = false:=by simpa using c4
           have c4b2:((out.length:Int) != a2) = true:=by simpa using c4
           clear c4
           simp only [Option.some.injEq,Prod.mk.injEq] at H
           obtain⟨rfl,rfl⟩:=H
           go_wp2
           go_ret2
           exact⟨_,by first|rfl|(simp [errW_none,errW_some] <;> rfl)|(simp [*,errW_none,errW_some] <;> rfl),Kd.R_nil _ _ _ _ _,kB HB.out⟩
       rw [if_pos c2] at H
       have c2b0:decide (i2 < (bits.length:Int)) = true:=decide_eq_true c2
       by_cases c5:0 ≤ i2
       rotate_left
       · rw [if_neg c5] at H
         exact absurd H (by simp)
       rw [if_pos c5] at H
       have c5b0:decide (0 ≤ i2) = true:=decide_eq_true c5
       by_cases c6:(Wd.wf (Go.bits .or .i64 (wrap64 (c * 2)) (rd bits i2)) && Wd.wf (wrap64 (m + 1))) = true
       rotate_left
       · rw [if_neg c6] at H
         exact absurd H (by simp)
       rw [if_pos c6] at H
       rw [Bool.and_eq_true] at c6
       have HW:=Aside0.mk c6
       clear c6
       obtain⟨ad3,e3,hx3_0⟩:=Kd.at_int (Kd.R_reads' HOB.out).2.2 i2 c5 c2
       cases e3
       have p3:=eq_true c5
       have q3:=eq_true c2
       clear c5 c2
       have HL:∃ v ok,Wd.look kn (Go.bits .or .i64 (wrap64 (c * 2)) (rd bits i2),wrap64 (m + 1)) = (v,ok):=⟨_,_,rfl⟩
       cases hf:kn.find? (fun x=>x.1 == (Go.bits .or .i64 (wrap64 (c * 2)) (rd bits i2),wrap64 (m + 1))) with
       | none =>
        rw [hf] at H
        dsimp only at H
        have HLK:=Aside0.mk (show Wd.look kn (Go.bits .or .i64 (wrap64 (c * 2)) (rd bits i2),wrap64 (m + 1)) = (0,false) from by unfold Wd.look;rw [hf])
        clear hf HL
        by_cases c7:60 < wrap64 (m + 1)
        · rw [if_pos c7] at H
          have c7b0:decide (60 < wrap64 (m + 1)) = true:=decide_eq_true c7
          have c7b1:decide (wrap64 (m + 1) > 60) = true:=decide_eq_true c7
          clear c7
          simp only [Option.some.injEq,Prod.mk.injEq] at H
          obtain⟨rfl,rfl⟩:=H
          go_wp2_with (first|((with_reducible refine gate_store (t:=76) (p:=12) (v:=.tmp 67) rfl ?_);refine store_event (t:=76) (p:=12) (v:=.tmp 67) (w1:=((World.setCell wr ⟨gn,0,none⟩ (.int .i64 (Go.bits .or .i64 (wrap64 (c * 2)) (rd bits i2)))).setCell ⟨gn,1,none⟩ (.int .i64 (wrap64 (m + 1))))) ?hg ?ho ?hn ?hr ?_;(case ho=>rfl);(case hg=>rfl);(case hn=>rfl);(case hr=>first|(go_simp;done)|(go_simp;rfl));intro w20 hw;have n0_:=mk0 (show w20.heap[gm]? = some (.map es clock) from (by rw [hw];exact ((Below.heap_setCell _ _ _ gm NMN.out).trans ((Below.heap_setCell _ _ _ gm NMN.out).trans (kN BKM.out)))));have n1_:=mk0 (show w20.heap[gn]? = some (.cells #[.int .i64 (Go.bits .or .i64 (wrap64 (c * 2)) (rd bits i2)),.int .i64 (wrap64 (m + 1))] 76 (0,0)) from (by rw [hw];exact blk_put (blk_put (kN BKN.out) 0 _ rfl) 1 _ rfl));have n2_:=mk0 (show Kd.R (Kd.int .i64) 3 w20 w.heap.size _ _ _ from (by rw [hw];exact Kd.R_far (p:=⟨gn,1,none⟩) (Kd.R_far (p:=⟨gn,0,none⟩) (rR HOB.out) (fun k_ hk=>hk.1.2) _) (fun k_ hk=>hk.1.2) _));have n3_:=mk0 (show Kd.R (Kd.int .i64) 3 w20 w.heap.size _ _ _ from (by rw [hw];exact Kd.R_far (p:=⟨gn,1,none⟩) (Kd.R_far (p:=⟨gn,0,none⟩) (rR HOO.out) (fun k_ hk=>hk.1.2) _) (fun k_ hk=>hk.1.2) _));have n4_:=mk0 (show Below w.heap.size w w20 from (by rw [hw];exact sZ (sZ (kB HB.out) GWN.out) GWN.out));clear BKM BKN HOB HOO HB hw;have BKM:=n0_;have BKN:=n1_;have HOB:=n2_;have HOO:=n3_;have HB:=n4_;clear n0_ n1_ n2_ n3_ n4_;clear hcz3_0 hcz3_1 hfz3_0 hfz3_1;obtain⟨hcz4_0,hcz4_1,hfz4_0,hfz4_1⟩:=cz2 BKN.out)|((with_reducible refine gate_dst (N:=71) rfl ?_);refine Wd.lookup_event rfl rfl (Go.bits .or .i64 (wrap64 (c * 2)) (rd bits i2),wrap64 (m + 1)) rfl rfl HT.out (kN BKM.out) HW.out.1 HW.out.2 HLK.out ?_))
          go_ret2
          exact⟨_,by first|rfl|(simp [errW_none,errW_some] <;> rfl)|(simp [*,errW_none,errW_some] <;> rfl),Kd.R_nil _ _ _ _ _,kB HB.out⟩
        rw [if_neg c7] at H
        have c7b0:decide (60 < wrap64 (m + 1)) = false:=decide_eq_false c7
        have c7b1:decide (wrap64 (m + 1) > 60) = false:=decide_eq_false c7
        clear c7
        have H':=Aside0.mk H
        clear H
        go_wp2_with (first|((with_reducible refine gate_store (t:=76) (p:=12) (v:=.tmp 67) rfl ?_);refine store_event (t:=76) (p:=12) (v:=.tmp 67) (w1:=((World.setCell wr ⟨gn,0,none⟩ (.int .i64 (Go.bits .or .i64 (wrap64 (c * 2)) (rd bits i2)))).setCell ⟨gn,1,none⟩ (.int .i64 (wrap64 (m + 1))))) ?hg ?ho ?hn ?hr ?_;(case ho=>rfl);(case hg=>rfl);(case hn=>rfl);(case hr=>first|(go_simp;done)|(go_simp;rfl));intro w20 hw;have n0_:=mk0 (show w20.heap[gm]? = some (.map es clock) from (by rw [hw];exact ((Below.heap_setCell _ _ _ gm NMN.out).trans ((Below.heap_setCell _ _ _ gm NMN.out).trans (kN BKM.out)))));have n1_:=mk0 (show w20.heap[gn]? = some (.cells #[.int .i64 (Go.bits .or .i64 (wrap64 (c * 2)) (rd bits i2)),.int .i64 (wrap64 (m + 1))] 76 (0,0)) from (by rw [hw];exact blk_put (blk_put (kN BKN.out) 0 _ rfl) 1 _ rfl));have n2_:=mk0 (show Kd.R (Kd.int .i64) 3 w20 w.heap.size _ _ _ from (by rw [hw];exact Kd.R_far (p:=⟨gn,1,none⟩) (Kd.R_far (p:=⟨gn,0,none⟩) (rR HOB.out) (fun k_ hk=>hk.1.2) _) (fun k_ hk=>hk.1.2) _));have n3_:=mk0 (show Kd.R (Kd.int .i64) 3 w20 w.heap.size _ _ _ from (by rw [hw];exact Kd.R_far (p:=⟨gn,1,none⟩) (Kd.R_far (p:=⟨gn,0,none⟩) (rR HOO.out) (fun k_ hk=>hk.1.2) _) (fun k_ hk=>hk.1.2) _));have n4_:=mk0 (show Below w.heap.size w w20 from (by rw [hw];exact sZ (sZ (kB HB.out) GWN.out) GWN.out));clear BKM BKN HOB HOO HB hw;have BKM:=n0_;have BKN:=n1_;have HOB:=n2_;have HOO:=n3_;have HB:=n4_;clear n0_ n1_ n2_ n3_ n4_;clear hcz3_0 hcz3_1 hfz3_0 hfz3_1;obtain⟨hcz4_0,hcz4_1,hfz4_0,hfz4_1⟩:=cz2 BKN.out)|((with_reducible refine gate_dst (N:=71) rfl ?_);refine Wd.lookup_event rfl rfl (Go.bits .or .i64 (wrap64 (c * 2)) (rd bits i2),wrap64 (m + 1)) rfl rfl HT.out (kN BKM.out) HW.out.1 HW.out.2 HLK.out ?_))
        go_roundg k2
        case measure=>have:=HK2.out;omega
        case rel=>exact⟨out,_,_,_,rfl,H',⟨by have:=HK2.out;omega⟩,⟨kN BKM.out⟩,⟨kN BKN.out⟩,⟨rR HOB.out⟩,⟨rR HOO.out⟩,⟨kB HB.out⟩⟩
       | some x =>
        rw [hf] at H
        dsimp only at H
        have HLK:=Aside0.mk (show Wd.look kn (Go.bits .or .i64 (wrap64 (c * 2)) (rd bits i2),wrap64 (m + 1)) = (x.2,true) from by unfold Wd.look;rw [hf])
        clear hf HL
        by_cases c8:out.length < 17592186044416
        rotate_left
        · rw [if_neg c8] at H
          exact absurd H (by simp)
        rw [if_pos c8] at H
        have LM:=Aside0.mk c8
        have H':=Aside0.mk H
        clear H c8
        go_wp2_with (first|((with_reducible refine gate_store (t:=76) (p:=12) (v:=.tmp 67) rfl ?_);refine store_event (t:=76) (p:=12) (v:=.tmp 67) (w1:=((World.setCell wr ⟨gn,0,none⟩ (.int .i64 (Go.bits .or .i64 (wrap64 (c * 2)) (rd bits i2)))).setCell ⟨gn,1,none⟩ (.int .i64 (wrap64 (m + 1))))) ?hg ?ho ?hn ?hr ?_;(case ho=>rfl);(case hg=>rfl);(case hn=>rfl);(case hr=>first|(go_simp;done)|(go_simp;rfl));intro w20 hw;have n0_:=mk0 (show w20.heap[gm]? = some (.map es clock) from (by rw [hw];exact ((Below.heap_setCell _ _ _ gm NMN.out).trans ((Below.heap_setCell _ _ _ gm NMN.out).trans (kN BKM.out)))));have n1_:=mk0 (show w20.heap[gn]? = some (.cells #[.int .i64 (Go.bits .or .i64 (wrap64 (c * 2)) (rd bits i2)),.int .i64 (wrap64 (m + 1))] 76 (0,0)) from (by rw [hw];exact blk_put (blk_put (kN BKN.out) 0 _ rfl) 1 _ rfl));have n2_:=mk0 (show Kd.R (Kd.int .i64) 3 w20 w.heap.size _ _ _ from (by rw [hw];exact Kd.R_far (p:=⟨gn,1,none⟩) (Kd.R_far (p:=⟨gn,0,none⟩) (rR HOB.out) (fun k_ hk=>hk.1.2) _) (fun k_ hk=>hk.1.2) _));have n3_:=mk0 (show Kd.R (Kd.int .i64) 3 w20 w.heap.size _ _ _ from (by rw [hw];exact Kd.R_far (p:=⟨gn,1,none⟩) (Kd.R_far (p:=⟨gn,0,none⟩) (rR HOO.out) (fun k_ hk=>hk.1.2) _) (fun k_ hk=>hk.1.2) _));have n4_:=mk0 (show Below w.heap.size w w20 from (by rw [hw];exact sZ (sZ (kB HB.out) GWN.out) GWN.out));clear BKM BKN HOB HOO HB hw;have BKM:=n0_;have BKN:=n1_;have HOB:=n2_;have HOO:=n3_;have HB:=n4_;clear n0_ n1_ n2_ n3_ n4_;clear hcz3_0 hcz3_1 hfz3_0 hfz3_1;obtain⟨hcz4_0,hcz4_1,hfz4_0,hfz4_1⟩:=cz2 BKN.out)|((with_reducible refine gate_dst (N:=71) rfl ?_);refine Wd.lookup_event rfl rfl (Go.bits .or .i64 (wrap64 (c * 2)) (rd bits i2),wrap64 (m + 1)) rfl rfl HT.out (kN BKM.out) HW.out.1 HW.out.2 HLK.out ?_)|((with_reducible refine gate_builtin (b:=.append) (xs:=#[.tmp 75,.tmp 77]) rfl ?_);at_builtin;refine Kd.R_append (Kd.int .i64) (w0:=w) w.heap.size rfl (.tmp 75) (.tmp 77) 24 3 (.int .i64 0) 8 rfl Try.underlying24 info3 rfl (by decide) (by omega) u11 out x.2 [.int .i64 x.2] (fun k_=>(k_ ≠ gm ∧ k_ ≠ gn) ∧ some k_ ≠ ((.slice (some ad3) bits.length cob):Value).ownBlock) (fun _=>False) rfl rfl ?aP (fun _ hk=>hk.elim) ?aF ?aO ?aB ?aS ?aL ?_;(case aP=>exact rfl);(case aB=>exact (kB HB.out));(case aF=>exact (fun k_ hk=>⟨⟨Kd.freshB (kN BKM.out) k_ hk,Kd.freshB (kN BKN.out) k_ hk⟩,Kd.fresh' (Kd.R_lt (rR HOB.out)) k_ hk⟩));(case aO=>exact (rR HOO.out));(case aS=>exact (kZ HB.out));(case aL=>have:=LM.out;omega);intro v247 w22 ho hb hg hat;have n2_:=mk0 (Kd.R_after (ok:=(fun k_=>k_ ≠ gm ∧ k_ ≠ gn)) (rR (Kd.R_mono HOB.out (fun _ hk=>⟨hk.1,hk.2⟩))) hg hat);have n0_:=mk0 (blk_grown (kN BKM.out) hg (Kd.R_away HOO.out (fun _ hk=>hk.1.1)));have n1_:=mk0 (blk_grown (kN BKN.out) hg (Kd.R_away HOO.out (fun _ hk=>hk.1.2)));clear BKM BKN HOB HOO HB;have BKM:=n0_;have BKN:=n1_;have HOB:=n2_;have HOO:=mk0 ho;have HB:=mk0 hb;clear n0_ n1_ n2_ ho hb hg hat hcz4_0 hcz4_1 hfz4_0 hfz4_1;obtain⟨hcz6_0,hcz6_1,hfz6_0,hfz6_1⟩:=cz2 BKN.out)|((with_reducible refine gate_store (t:=76) (p:=12) (v:=.tmp 79) rfl ?_);refine store_event (t:=76) (p:=12) (v:=.tmp 79) (w1:=((World.setCell w22 ⟨gn,0,none⟩ (.int .i64 0)).setCell ⟨gn,1,none⟩ (.int .i64 0))) ?hg ?ho ?hn ?hr ?_;(case ho=>rfl);(case hg=>rfl);(case hn=>rfl);(case hr=>first|(go_simp;done)|(go_simp;rfl));intro w23 hw;have n0_:=mk0 (show w23.heap[gm]? = some (.map es clock) from (by rw [hw];exact ((Below.heap_setCell _ _ _ gm NMN.out).trans ((Below.heap_setCell _ _ _ gm NMN.out).trans (kN BKM.out)))));have n1_:=mk0 (show w23.heap[gn]? = some (.cells #[.int .i64 0,.int .i64 0] 76 (0,0)) from (by rw [hw];exact blk_put (blk_put (kN BKN.out) 0 _ rfl) 1 _ rfl));have n2_:=mk0 (show Kd.R (Kd.int .i64) 3 w23 w.heap.size _ _ _ from (by rw [hw];exact Kd.R_far (p:=⟨gn,1,none⟩) (Kd.R_far (p:=⟨gn,0,none⟩) (rR HOB.out) (fun k_ hk=>hk.1.2) _) (fun k_ hk=>hk.1.2) _));have n3_:=mk0 (show Kd.R (Kd.int .i64) 3 w23 w.heap.size _ _ _ from (by rw [hw];exact Kd.R_far (p:=⟨gn,1,none⟩) (Kd.R_far (p:=⟨gn,0,none⟩) (rR HOO.out) (fun k_ hk=>hk.1.2) _) (fun k_ hk=>hk.1.2) _));have n4_:=mk0 (show Below w.heap.size w w23 from (by rw [hw];exact sZ (sZ (kB HB.out) GWN.out) GWN.out));clear BKM BKN HOB HOO HB hw;have BKM:=n0_;have BKN:=n1_;have HOB:=n2_;have HOO:=n3_;have HB:=n4_;clear n0_ n1_ n2_ n3_ n4_;obtain⟨hcz5_0,hcz5_1,hfz5_0,hfz5_1⟩:=cz2 BKN.out))
        go_roundg k2
        case measure=>have:=HK2.out;omega
        case rel=>exact⟨_,0,0,_,rfl,H',⟨by have:=HK2.out;omega⟩,⟨kN BKM.out⟩,⟨kN BKN.out⟩,⟨rR (Kd.R_mono HOB.out (fun _ hk=>⟨⟨hk.1.1,hk.1.2⟩,hk.2⟩))⟩,⟨rR HOO.out⟩,⟨kB HB.out⟩⟩
   rw [if_pos c1] at H
   have c1b0:decide (i < (codes.length:Int)) = true:=decide_eq_true c1
   by_cases d1:0 ≤ i
   rotate_left
   · rw [if_neg d1] at H
     exact absurd H (by simp)
   rw [if_pos d1] at H
   have d1b0:decide (0 ≤ i) = true:=decide_eq_true d1
   by_cases d2:i < (l1.length:Int)
   rotate_left
   · rw [if_neg d2] at H
     exact absurd H (by simp)
   rw [if_pos d2] at H
   have d2b0:decide (i < (l1.length:Int)) = true:=decide_eq_true d2
   obtain⟨ad4,e4,hx4_0⟩:=Kd.at_int (Kd.R_reads' HOC.out).2.2 i d1 c1
   cases e4
   obtain⟨ad5,e5,hx5_0⟩:=Kd.at_int (Kd.C_below HR1.out HB.out) i d1 d2
   have p4:=eq_true d1
   have q4:=eq_true c1
   have q5:=eq_true d2
   clear c1 d1 d2
   subst e5
   by_cases d3:0 < rd l1 i
   · rw [if_pos d3] at H
     have d3b0:decide (0 < rd l1 i) = true:=decide_eq_true d3
     have d3b1:decide (rd l1 i > 0) = true:=decide_eq_true d3
     clear d3
     by_cases d4:(kn.any (fun x=>x.1 == (rd codes i,rd l1 i)) || !(Wd.wf (rd codes i) && Wd.wf (rd l1 i))) = true
     · rw [if_pos d4] at H
       exact absurd H (by simp)
     rw [if_neg d4] at H
     have HN:=Aside0.mk (show kn.any (fun x=>x.1 == (rd codes i,rd l1 i)) = false ∧ Wd.wf (rd codes i) = true ∧ Wd.wf (rd l1 i) = true from by
      rw [Bool.not_eq_true,Bool.or_eq_false_iff,Bool.not_eq_false',Bool.and_eq_true] at d4
      exact d4)
     have H4:=Aside0.mk H
     clear H d4
     go_wp2_with (first|(at_mapUpdate;refine Wd.update_event rfl rfl rfl (rd codes i,rd l1 i) i rfl rfl rfl HT.out (kN BKM.out) HN.out.2.1 HN.out.2.2 HN.out.1 ?_;intro es2 clock2 w12 hm2 ht2 hg2;have n0_:=mk0 hm2;have n1_:=mk0 ht2;have n2_:=mk0 (Kd.R_grown (rR HOC.out) hg2 (fun k_ hk e_=>hk.2 (by injection e_)));have n3_:=mk0 (blk_grown (kN BKV.out) hg2 (fun e_=>NVM.out (by injection e_)));have n4_:=mk0 (Below.grown (kB HB.out) hg2 (kZ HB.out) (fun k_ e_=>(by injection e_ with e_;rw [← e_];exact GWM.out)));clear BKM HT HOC BKV HB hm2 ht2 hg2;have BKM:=n0_;have HT:=n1_;have HOC:=n2_;have BKV:=n3_;have HB:=n4_;clear n0_ n1_ n2_ n3_ n4_))
     go_roundg k1
     case measure=>have:=HK1.out;omega
     case rel=>exact⟨_,_,_,_,rfl,H4,⟨by have:=HK1.out;omega⟩,⟨kN BKM.out⟩,⟨HT.out⟩,⟨rR HOC.out⟩,⟨kN BKV.out⟩,⟨kB HB.out⟩⟩
   rw [if_neg d3] at H
   have d3b0:decide (0 < rd l1 i) = false:=decide_eq_false d3
   have d3b1:decide (rd l1 i > 0) = false:=decide_eq_false d3
   have H4:=Aside0.mk H
   clear H d3
   go_wp2
   go_roundg k1
   case measure=>have:=HK1.out;omega
   case rel=>exact⟨_,_,_,_,rfl,H4,⟨by have:=HK1.out;omega⟩,⟨kN BKM.out⟩,⟨HT.out⟩,⟨rR HOC.out⟩,⟨kN BKV.out⟩,⟨kB HB.out⟩⟩

/-- A state of type 80 at block g of W; what its slices lead to came in by w0. -/
def IsS80 (w0 W : World) (g : Nat) (f0 : List Int) (f1 : Int) (f2 : Int) : Prop := ∃ A0 c0, W.heap[g]? = some (.cells #[.slice A0 f0.length c0, .int .i64 f1, .int .i64 f2] 80 (0, 0)) ∧ w0.heap.size ≤ g ∧ Kd.C (Kd.int .u8) w0 A0 f0.length f0
theorem IsS80.grown {w0 W : World} {g : Nat} {f0 : List Int} {f1 : Int} {f2 : Int} {W1 : World} {row : Option Nat} (h : IsS80 w0 W g f0 f1 f2) (hw : W.grownBy W1 row) (hne : some g ≠ row) : IsS80 w0 W1 g f0 f1 f2 := by
 obtain ⟨A0, c0, hb, hg, hr0⟩ := h
 exact ⟨A0, c0, blk_grown hb hw hne, hg, hr0⟩
theorem IsS80.own_neN {w0 W : World} {g : Nat} {f0 : List Int} {f1 : Int} {f2 : Int} {α : Type} {d : Kd α} {e : Nat} {base : Nat} {ok : Nat → Prop} {v : Value} {xs : List α} (h : IsS80 w0 W g f0 f1 f2) (ho : Kd.N d e W base ok v xs) (ht : e ≠ 80) : some g ≠ v.ownBlock := by
 obtain ⟨A0, c0, hb, hg, hr0⟩ := h
 exact Kd.N_ne ho hb ht
theorem IsS80.fresh {w0 W : World} {g : Nat} {f0 : List Int} {f1 : Int} {f2 : Int} (h : IsS80 w0 W g f0 f1 f2) : ∀ k, W.heap.size ≤ k → k ≠ g := by
 obtain ⟨A0, c0, hb, hg, hr0⟩ := h
 exact Kd.freshB hb
theorem IsS80.kept {w0 W : World} {g : Nat} {f0 : List Int} {f1 : Int} {f2 : Int} {W1 : World} {S : Nat → Prop} (h : IsS80 w0 W g f0 f1 f2) (hk : Kept W W1 S) (hne : ¬ S g) : IsS80 w0 W1 g f0 f1 f2 := by
 obtain ⟨A0, c0, hb, hg, hr0⟩ := h
 exact ⟨A0, c0, blk_kept hb hk hne, hg, hr0⟩
theorem IsS80.below {w0 W : World} {g : Nat} {f0 : List Int} {f1 : Int} {f2 : Int} {W1 : World} (h : IsS80 w0 W g f0 f1 f2) (hw : Below W.heap.size W W1) : IsS80 w0 W1 g f0 f1 f2 := h.grown (grown_of_below hw none) (by simp)
theorem IsS80.alloc {w0 W : World} {g : Nat} {f0 : List Int} {f1 : Int} {f2 : Int} (h : IsS80 w0 W g f0 f1 f2) (o : Obj) : IsS80 w0 (W.alloc o) g f0 f1 f2 := h.below (below_alloc (Below.refl _ _) o)
theorem IsS80.drewN {w0 W : World} {g : Nat} {f0 : List Int} {f1 : Int} {f2 : Int} (h : IsS80 w0 W g f0 f1 f2) (m : Nat) : IsS80 w0 (W.drewN m) g f0 f1 f2 := h
theorem IsS80.drew {w0 W : World} {g : Nat} {f0 : List Int} {f1 : Int} {f2 : Int} (h : IsS80 w0 W g f0 f1 f2) : IsS80 w0 W.drew g f0 f1 f2 := h
theorem IsS80.at_ {w0 W : World} {g : Nat} {f0 : List Int} {f1 : Int} {f2 : Int} {w' : World} {m : Nat} (hq : W.drewN m = w') (h : IsS80 w0 W g f0 f1 f2) : IsS80 w0 w' g f0 f1 f2 := by subst hq; exact IsS80.drewN h m
theorem IsS80.apart {w0 W : World} {g : Nat} {f0 : List Int} {f1 : Int} {f2 : Int} {α : Type} {d : Kd α} {e : Nat} {base : Nat} {ok : Nat → Prop} {v : Value} {xs : List α} (h : IsS80 w0 W g f0 f1 f2) (ho : d.R e W base ok v xs) (ht : ∀ q, q ∈ e :: d.E → q ≠ 80) : d.R e W base (fun k => ok k ∧ k ≠ g) v xs := by
 obtain ⟨A0, c0, hb, hg, hr0⟩ := h
 exact Kd.R_types ho hb ht
theorem IsS80.own_ne {w0 W : World} {g : Nat} {f0 : List Int} {f1 : Int} {f2 : Int} {α : Type} {d : Kd α} {e : Nat} {base : Nat} {ok : Nat → Prop} {v : Value} {xs : List α} (h : IsS80 w0 W g f0 f1 f2) (ho : d.R e W base ok v xs) (ht : e ≠ 80) : some g ≠ v.ownBlock := by
 obtain ⟨A0, c0, hb, hg, hr0⟩ := h
 exact Kd.R_ne ho hb ht
theorem IsS80.apartQ {w0 W : World} {g : Nat} {f0 : List Int} {f1 : Int} {f2 : Int} {α : Type} {d : Kd α} {e : Nat} {base : Nat} {ok : Nat → Prop} {v : Value} {xs : List α} (h : IsS80 w0 W g f0 f1 f2) (ho : d.Q e W base ok v xs) (ht : ∀ q, q ∈ e :: d.E → q ≠ 80) : d.Q e W base (fun k => ok k ∧ k ≠ g) v xs := by
 obtain ⟨A0, c0, hb, hg, hr0⟩ := h
 exact Kd.Q_types ho hb ht
theorem IsS80.own_neQ {w0 W : World} {g : Nat} {f0 : List Int} {f1 : Int} {f2 : Int} {α : Type} {d : Kd α} {e : Nat} {base : Nat} {ok : Nat → Prop} {v : Value} {xs : List α} (h : IsS80 w0 W g f0 f1 f2) (ho : d.Q e W base ok v xs) (ht : e ≠ 80) : some g ≠ v.ownBlock := by
 obtain ⟨A0, c0, hb, hg, hr0⟩ := h
 exact Kd.Q_ne ho hb ht
theorem IsS80.apartS {w0 W : World} {g : Nat} {f0 : List Int} {f1 : Int} {f2 : Int} {α : Type} {d : Kd α} {e : Nat} {base : Nat} {ok : Nat → Prop} {v : Value} {xs : List α} (h : IsS80 w0 W g f0 f1 f2) (ho : d.S e W base ok v xs) (ht : ∀ q, q ∈ e :: d.E → q ≠ 80) : d.S e W base (fun k => ok k ∧ k ≠ g) v xs := by
 obtain ⟨A0, c0, hb, hg, hr0⟩ := h
 exact Kd.S_types ho hb ht
theorem IsS80.own_neS {w0 W : World} {g : Nat} {f0 : List Int} {f1 : Int} {f2 : Int} {α : Type} {d : Kd α} {e : Nat} {base : Nat} {ok : Nat → Prop} {v : Value} {xs : List α} (h : IsS80 w0 W g f0 f1 f2) (ho : d.S e W base ok v xs) (ht : e ≠ 80) : some g ≠ v.ownBlock := by
 obtain ⟨A0, c0, hb, hg, hr0⟩ := h
 exact Kd.S_ne ho hb ht
theorem IsS80.lt {w0 W : World} {g : Nat} {f0 : List Int} {f1 : Int} {f2 : Int} (h : IsS80 w0 W g f0 f1 f2) : g < W.heap.size := by
 obtain ⟨A0, c0, hb, hg, hr0⟩ := h
 exact blk_lt hb
theorem IsS80.ge {w0 W : World} {g : Nat} {f0 : List Int} {f1 : Int} {f2 : Int} (h : IsS80 w0 W g f0 f1 f2) : w0.heap.size ≤ g := by
 obtain ⟨A0, c0, hb, hg, hr0⟩ := h
 exact hg
theorem IsS80.ne_blk {w0 W : World} {g : Nat} {f0 : List Int} {f1 : Int} {f2 : Int} {a : Nat} {cs : Array Value} {t : TypeId} {fr : Nat × Nat} (h : IsS80 w0 W g f0 f1 f2) (hb2 : W.heap[a]? = some (.cells cs t fr)) (ht : t ≠ 80) : g ≠ a := by
 obtain ⟨A0, c0, hb, hg, hr0⟩ := h
 rintro rfl
 rw [hb] at hb2
 injection hb2 with hb2
 injection hb2 with _ ht2
 exact ht ht2.symm
theorem IsS80.far {w0 W : World} {g : Nat} {f0 : List Int} {f1 : Int} {f2 : Int} {p : Addr} (h : IsS80 w0 W g f0 f1 f2) (hne : g ≠ p.block) (u : Value) : IsS80 w0 (W.setCell p u) g f0 f1 f2 := by
 obtain ⟨A0, c0, hb, hg, hr0⟩ := h
 exact ⟨A0, c0, blk_far hb hne u, hg, hr0⟩
theorem cellS80_0 {W : World} {g : Nat} {A0 : Option Addr} {c0 : Nat} {f0 : List Int} {f1 : Int} {f2 : Int} (h : W.heap[g]? = some (.cells #[.slice A0 f0.length c0, .int .i64 f1, .int .i64 f2] 80 (0, 0))) : W.cell? ⟨g, 0, none⟩ = some (.slice A0 f0.length c0) := (blk_cell h 0).trans rfl
theorem cellS80_1 {W : World} {g : Nat} {A0 : Option Addr} {c0 : Nat} {f0 : List Int} {f1 : Int} {f2 : Int} (h : W.heap[g]? = some (.cells #[.slice A0 f0.length c0, .int .i64 f1, .int .i64 f2] 80 (0, 0))) : W.cell? ⟨g, 1, none⟩ = some (.int .i64 f1) := (blk_cell h 1).trans rfl
theorem IsS80.set_1 {w0 W : World} {g : Nat} {f0 : List Int} {f1 : Int} {f2 : Int} (h : IsS80 w0 W g f0 f1 f2) (x : Int) : IsS80 w0 (W.setCell ⟨g, 1, none⟩ (.int .i64 x)) g f0 x f2 := by
 obtain ⟨A0, c0, hb, hg, hr0⟩ := h
 exact ⟨A0, c0, by simpa using blk_set hb 1 (.int .i64 x), hg, hr0⟩
theorem cellS80_2 {W : World} {g : Nat} {A0 : Option Addr} {c0 : Nat} {f0 : List Int} {f1 : Int} {f2 : Int} (h : W.heap[g]? = some (.cells #[.slice A0 f0.length c0, .int .i64 f1, .int .i64 f2] 80 (0, 0))) : W.cell? ⟨g, 2, none⟩ = some (.int .i64 f2) := (blk_cell h 2).trans rfl
theorem IsS80.set_2 {w0 W : World} {g : Nat} {f0 : List Int} {f1 : Int} {f2 : Int} (h : IsS80 w0 W g f0 f1 f2) (x : Int) : IsS80 w0 (W.setCell ⟨g, 2, none⟩ (.int .i64 x)) g f0 f1 x := by
 obtain ⟨A0, c0, hb, hg, hr0⟩ := h
 exact ⟨A0, c0, by simpa using blk_set hb 2 (.int .i64 x), hg, hr0⟩
theorem IsS80.new (w0 W : World) (A0 : Option Addr) (c0 : Nat) (f0 : List Int) (f1 : Int) (f2 : Int) (hB : Below w0.heap.size w0 W) (hr0 : Kd.C (Kd.int .u8) w0 A0 f0.length f0) : IsS80 w0 (W.alloc (.cells #[.slice A0 f0.length c0, .int .i64 f1, .int .i64 f2] 80)) W.heap.size f0 f1 f2 := ⟨A0, c0, by simpa using heap_alloc_new W _, hB.size, hr0⟩

/-! ### spec_l01Open: function 33 -/
def spec_l01Open.f (l0 : List Int) : Option (List Int × Int × Int) := some (l0, 0, 89 + ((l0.length : Int) % 1000))
set_option maxHeartbeats 8000000 in
set_option maxRecDepth 100000 in
theorem spec_l01Open.calls (A0 : Option Addr) (c0 : Nat) (l0 : List Int) (r1 : List Int) (r2 : Int) (r3 : Int) (w0 w : World) (hB : Below w0.heap.size w0 w) (hr0 : Kd.C (Kd.int .u8) w0 A0 l0.length l0) (hc0 : l0.length ≤ c0) (h : spec_l01Open.f l0 = some (r1, r2, r3)) :
  Calls Try.prog 33 #[.slice A0 l0.length c0] w fun e w' => ∃ g_ : Nat, e = .returned (.pointer (some ⟨g_, 0, none⟩)) ∧ IsS80 w0 w' g_ r1 r2 r3 ∧ Below w0.heap.size w0 w' ∧ Below w.heap.size w w' := by
 have hu80:=Try.underlying80
 have HR0:=mk0 hr0
 have HC0:=mk0 hc0
 clear hr0 hc0
 have HBW:=mk0 (Below.refl w.heap.size w)
 have HW0:=mk0 hB.size
 have HB:=mk0 hB
 clear hB
 have H:(some (l0,0,89 + ((l0.length:Int) % 1000))) = some (r1,r2,r3):=h
 clear h
 simp only [Option.some.injEq,Prod.mk.injEq] at H
 obtain⟨rfl,rfl,rfl⟩:=H
 go_enter Try.func33,Try.ntmps33
 go_wp2_with (first|((with_reducible refine gate_dst (N:=9) rfl ?_);refine box_event ?hg (N:=9) ?hd (cs:=#[.slice A0 l0.length c0,.int .i64 0,.int .i64 (89 + ((l0.length:Int) % 1000))]) (t:=80) ?hr ?_;(case hd=>rfl);(case hg=>rfl);(case hr=>first|(go_simp;done)|(go_simp;rfl));intro gb218 hg w2 hbox hb;replace HB:=mk0 (kS HB.out hb);have BK218:=mk0 (hbox);have GW218:=mk0 ((by rw [hg];exact (kZ HBW.out):w.heap.size ≤ gb218));have GE218:=mk0 ((Nat.le_trans HW0.out (by rw [hg];exact (kZ HBW.out):w.heap.size ≤ gb218):w0.heap.size ≤ gb218));replace HBW:=mk0 (below_step HBW.out hb);clear hb hbox hg))
 go_ret
 exact⟨_,rfl,(show IsS80 w0 _ gb218 l0 0 (89 + ((l0.length:Int) % 1000)) from ⟨_,_,kN BK218.out,GE218.out,HR0.out⟩),kB HB.out,kB HBW.out⟩

/-! ### spec_l08Counts: function 50 -/
def spec_l08Counts.l0 : Nat → List Int → Int → Option (Bool)
 | 0, _, _ => none
 | k + 1, x0, x3 => if x3 < (x0.length : Int) then (if 0 ≤ x3 then (if (rd x0 x3) < 0 then (some false) else (if (rd x0 x3) > 1000000 then (some false) else (spec_l08Counts.l0 k x0 (wrap64 (x3 + 1))))) else (none)) else (some true)
def spec_l08Counts.f (k : Nat) (l0 : List Int) : Option (Bool) := if (l0.length : Int) > 300 then (some false) else (spec_l08Counts.l0 k l0 0)
theorem spec_l08Counts.mono_l : ∀ k, (∀ y0 y1, LeO (spec_l08Counts.l0 k y0 y1) (spec_l08Counts.l0 (k + 1) y0 y1))
 | 0 => fun _ _ r h => by simp [spec_l08Counts.l0] at h
 | k + 1 => by
  have ih0 := spec_l08Counts.mono_l k
  ·intro y0 y1
   unfold spec_l08Counts.l0
   repeat' first|(with_reducible first|exact ih0 _ _|exact LeO.refl _|exact LeO.none _|refine LeO.ite ?_ ?_|refine LeO.bind ?_ (fun _ => ?_))|exact LeO.none _|refine LeO.ite ?_ ?_|refine LeO.bind ?_ (fun _ => ?_)
theorem spec_l08Counts.mono : ∀ a0 k, LeO (spec_l08Counts.f k a0) (spec_l08Counts.f (k + 1) a0) := by
 intro a0 k
 have ih0 := spec_l08Counts.mono_l k
 unfold spec_l08Counts.f
 repeat' first|(with_reducible first|exact ih0 _ _|exact LeO.refl _|exact LeO.none _|refine LeO.ite ?_ ?_|refine LeO.bind ?_ (fun _ => ?_))|exact LeO.none _|refine LeO.ite ?_ ?_|refine LeO.bind ?_ (fun _ => ?_)
set_option maxHeartbeats 8000000 in
set_option maxRecDepth 100000 in
theorem spec_l08Counts.calls (k : Nat) (A0 : Option Addr) (c0 : Nat) (l0 : List Int) (r : Bool) (w : World) (hr0 : Kd.C (Kd.int .i64) w A0 l0.length l0) (hc0 : l0.length ≤ c0) (h : spec_l08Counts.f k l0 = some r) :
  Calls Try.prog 50 #[.slice A0 l0.length c0] w fun e w' => e = .returned (.bool r) ∧ Drawn0 w w' := by
 have HR0:=mk0 hr0
 have HC0:=mk0 hc0
 clear hr0 hc0
 have H:(if (l0.length:Int) > 300 then (some false) else (spec_l08Counts.l0 k l0 0)) = some r:=h
 clear h
 by_cases c2:(l0.length:Int) > 300
 ·rw [if_pos c2] at H
  have c2b0:decide (300 < (l0.length:Int)) = true:=decide_eq_true c2
  have c2b1:decide (300 < l0.length) = true:=decide_eq_true (by omega)
  clear c2
  obtain rfl:=Option.some.inj H
  go_enter Try.func50,Try.ntmps50
  go_wp2
  go_ret
  exact⟨by first|rfl|(simp;done)|(simp [*];done),by repeat (first|exact Drawn0.refl _|apply Drawn0.step)⟩
 ·rw [if_neg c2] at H
  have c2b0:decide (300 < (l0.length:Int)) = false:=decide_eq_false c2
  have c2b1:decide (300 < l0.length) = false:=decide_eq_false (by omega)
  clear c2
  have H':=mk0 H
  clear H
  go_enter Try.func50,Try.ntmps50
  go_wp2
  go_loopg [3] k (fun kq v3 w'=>∃ (x3_1:Int),v3 = .int .i64 x3_1 ∧ Aside0 (spec_l08Counts.l0 kq l0 x3_1 = some r) ∧ Aside0 (kq ≤ k) ∧ Drawn0 w w')
  case atStart=>exact⟨(0),(by first|rfl|(simp;done)|(simp [*];done)),H',⟨Nat.le_refl _⟩,by repeat (first|exact Drawn0.refl _|apply Drawn0.step)⟩
  case round =>
   clear H'
   try clear c2
   try clear c2b0
   try clear c2b1
   try clear p2
   obtain⟨x3_1,rfl,HA,HK1,⟨m1,rfl⟩⟩:=hrel
   cases gk with
   | zero=>exact absurd HA.out (by simp [spec_l08Counts.l0])
   | succ k1 =>
    have H:=HA.out
    clear HA
    simp only [spec_l08Counts.l0] at H
    by_cases c3:x3_1 < (l0.length:Int)
    ·rw [if_pos c3] at H
     have c3b0:decide (x3_1 < (l0.length:Int)) = true:=decide_eq_true c3
     clear c3
     by_cases c4:0 ≤ x3_1
     ·rw [if_pos c4] at H
      have c4b0:decide (0 ≤ x3_1) = true:=decide_eq_true c4
      clear c4
      by_cases c5:(rd l0 x3_1) < 0
      ·rw [if_pos c5] at H
       have c5b0:decide ((rd l0 x3_1) < 0) = true:=decide_eq_true c5
       clear c5
       obtain rfl:=Option.some.inj H
       have p219:0 ≤ (x3_1:Int):=of_decide_eq_true (by first|(with_reducible assumption)|assumption)
       have q219:x3_1 < (l0.length:Int):=of_decide_eq_true (by first|(with_reducible assumption)|assumption)
       obtain⟨ad219,e219,hx219_0⟩:=Kd.at_int HR0.out x3_1 p219 q219
       cases e219
       replace p219:=eq_true p219
       replace q219:=eq_true q219
       go_wp2
       go_ret
       exact⟨by first|rfl|(simp;done)|(simp [*];done),by repeat (first|exact Drawn0.refl _|apply Drawn0.step)⟩
      ·rw [if_neg c5] at H
       have c5b0:decide ((rd l0 x3_1) < 0) = false:=decide_eq_false c5
       clear c5
       by_cases c6:(rd l0 x3_1) > 1000000
       ·rw [if_pos c6] at H
        have c6b0:decide (1000000 < (rd l0 x3_1)) = true:=decide_eq_true c6
        clear c6
        obtain rfl:=Option.some.inj H
        have p219:0 ≤ (x3_1:Int):=of_decide_eq_true (by first|(with_reducible assumption)|assumption)
        have q219:x3_1 < (l0.length:Int):=of_decide_eq_true (by first|(with_reducible assumption)|assumption)
        obtain⟨ad219,e219,hx219_0⟩:=Kd.at_int HR0.out x3_1 p219 q219
        cases e219
        replace p219:=eq_true p219
        replace q219:=eq_true q219
        have p220:0 ≤ (x3_1:Int):=of_decide_eq_true (by first|(with_reducible assumption)|assumption)
        have q220:x3_1 < (l0.length:Int):=of_decide_eq_true (by first|(with_reducible assumption)|assumption)
        obtain⟨ad220,e220,hx220_0⟩:=Kd.at_int HR0.out x3_1 p220 q220
        obtain rfl:ad219 = ad220:=(by injection e220)
        replace p220:=eq_true p220
        replace q220:=eq_true q220
        go_wp2
        go_ret
        exact⟨by first|rfl|(simp;done)|(simp [*];done),by repeat (first|exact Drawn0.refl _|apply Drawn0.step)⟩
       ·rw [if_neg c6] at H
        have c6b0:decide (1000000 < (rd l0 x3_1)) = false:=decide_eq_false c6
        clear c6
        have H':=mk0 H
        clear H
        have p219:0 ≤ (x3_1:Int):=of_decide_eq_true (by first|(with_reducible assumption)|assumption)
        have q219:x3_1 < (l0.length:Int):=of_decide_eq_true (by first|(with_reducible assumption)|assumption)
        obtain⟨ad219,e219,hx219_0⟩:=Kd.at_int HR0.out x3_1 p219 q219
        cases e219
        replace p219:=eq_true p219
        replace q219:=eq_true q219
        have p220:0 ≤ (x3_1:Int):=of_decide_eq_true (by first|(with_reducible assumption)|assumption)
        have q220:x3_1 < (l0.length:Int):=of_decide_eq_true (by first|(with_reducible assumption)|assumption)
        obtain⟨ad220,e220,hx220_0⟩:=Kd.at_int HR0.out x3_1 p220 q220
        obtain rfl:ad219 = ad220:=(by injection e220)
        replace p220:=eq_true p220
        replace q220:=eq_true q220
        go_wp2
        go_roundg k1
        case measure=>have:=HK1.out;omega
        case rel=>exact⟨(wrap64 (x3_1 + 1)),(by first|rfl|(simp;done)|(simp [*];done)),H',⟨by have:=HK1.out;omega⟩,by repeat (first|exact Drawn0.refl _|apply Drawn0.step)⟩
     ·rw [if_neg c4] at H
      exact absurd H (by simp)
    ·rw [if_neg c3] at H
     have c3b0:decide (x3_1 < (l0.length:Int)) = false:=decide_eq_false c3
     clear c3
     obtain rfl:=Option.some.inj H
     go_wp2
     go_ret
     exact⟨by first|rfl|(simp;done)|(simp [*];done),by repeat (first|exact Drawn0.refl _|apply Drawn0.step)⟩

end Go.Proofs.Ytgjmmegmkdklbaa.QFnHuffBack
