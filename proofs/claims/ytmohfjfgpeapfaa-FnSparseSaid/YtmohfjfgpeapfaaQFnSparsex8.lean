-- A walk, made by walk.py, a program of this session's.
import Derived.Test.YtmohfjfgpeapfaaQFnSparsex0
import Derived.Test.YtmohfjfgpeapfaaQFnSparsex5
namespace Go.Proofs.Ytmohfjfgpeapfaa.QFnSparse
open Go.RowKit Go.Proofs.YtmohfjfgpeapfaaW.PrintWords Go.Proofs.YtmohfjfgpeapfaaW.PrintLast Go.Proofs.YtmohfjfgpeapfaaW.PrintMore
attribute [local go_sem] max2_int min2_int max_two min_two max_three min_three max_four min_four   -- for this text's walks alone
set_option linter.unusedVariables false
set_option linter.unusedSimpArgs false

/-! ### laws_same: function 11 -/
def laws_same.l0 : Nat → List Int → List Int → Int → Option (Bool)
 | 0, _, _, _ => none
 | k + 1, x0, x1, x5 => if x5 < (x0.length : Int) then (if 0 ≤ x5 then (if x5 < (x1.length : Int) then (if (rd x0 x5) = (rd x1 x5) then (laws_same.l0 k x0 x1 (wrap64 (x5 + 1))) else (some false)) else (none)) else (none)) else (some true)
def laws_same.f (k : Nat) (l0 : List Int) (l1 : List Int) : Option (Bool) := if (l0.length : Int) = (l1.length : Int) then (laws_same.l0 k l0 l1 0) else (some false)
theorem laws_same.mono_l : ∀ k, (∀ y0 y1 y2, LeO (laws_same.l0 k y0 y1 y2) (laws_same.l0 (k + 1) y0 y1 y2))
 | 0 => fun _ _ _ r h => by simp [laws_same.l0] at h
 | k + 1 => by
  have ih0 := laws_same.mono_l k
  ·intro y0 y1 y2
   unfold laws_same.l0
   repeat' first|(with_reducible first|exact ih0 _ _ _|exact LeO.refl _|exact LeO.none _|refine LeO.ite ?_ ?_|refine LeO.bind ?_ (fun _ => ?_))|exact LeO.none _|refine LeO.ite ?_ ?_|refine LeO.bind ?_ (fun _ => ?_)
theorem laws_same.mono : ∀ a0 a1 k, LeO (laws_same.f k a0 a1) (laws_same.f (k + 1) a0 a1) := by
 intro a0 a1 k
 have ih0 := laws_same.mono_l k
 unfold laws_same.f
 repeat' first|(with_reducible first|exact ih0 _ _ _|exact LeO.refl _|exact LeO.none _|refine LeO.ite ?_ ?_|refine LeO.bind ?_ (fun _ => ?_))|exact LeO.none _|refine LeO.ite ?_ ?_|refine LeO.bind ?_ (fun _ => ?_)
set_option maxHeartbeats 8000000 in
set_option maxRecDepth 100000 in
theorem laws_same.calls (k : Nat) (A0 : Option Addr) (c0 : Nat) (l0 : List Int) (A1 : Option Addr) (c1 : Nat) (l1 : List Int) (r : Bool) (w : World) (hr0 : Kd.C (Kd.int .i64) w A0 l0.length l0) (hc0 : l0.length ≤ c0) (hr1 : Kd.C (Kd.int .i64) w A1 l1.length l1) (hc1 : l1.length ≤ c1) (h : laws_same.f k l0 l1 = some r) :
  Calls Try.prog 11 #[.slice A0 l0.length c0, .slice A1 l1.length c1] w fun e w' => e = .returned (.bool r) ∧ Drawn0 w w' := by
 have HR0:=mk0 hr0
 have HC0:=mk0 hc0
 clear hr0 hc0
 have HR1:=mk0 hr1
 have HC1:=mk0 hc1
 clear hr1 hc1
 have H:(if (l0.length:Int) = (l1.length:Int) then (laws_same.l0 k l0 l1 0) else (some false)) = some r:=h
 clear h
 by_cases c3:(l0.length:Int) = (l1.length:Int)
 ·rw [if_pos c3] at H
  have c3b0:((l0.length:Int) == (l1.length:Int)) = true:=beq_iff_eq.mpr c3
  have c3b1:((l0.length:Int) != (l1.length:Int)) = false:=bne_eq_false_iff_eq.mpr c3
  have c3b2:(l0.length == l1.length) = true:=by first|simpa using c3|(simp at c3 ⊢;omega)
  clear c3
  have H':=mk0 H
  clear H
  go_enter Try.func11,Try.ntmps11
  go_wp2
  repeat (go_quiet (fail);try go_wp2)
  go_loopg [5] k (fun kq v5 w'=>∃ (x5_1:Int),v5 = .int .i64 x5_1 ∧ Aside0 (laws_same.l0 kq l0 l1 x5_1 = some r) ∧ Aside0 (kq ≤ k) ∧ Drawn0 w w')
  case atStart=>exact⟨(0),(by first|rfl|(simp;done)|(simp [*];done)),H',⟨Nat.le_refl _⟩,by repeat (first|exact Drawn0.refl _|apply Drawn0.step)⟩
  case round =>
   clear H'
   try clear c1
   try clear p2
   try clear c3
   try clear c3b0
   try clear c3b1
   try clear c3b2
   obtain⟨x5_1,rfl,HA,HK1,⟨m1,rfl⟩⟩:=hrel
   cases gk with
   | zero=>exact absurd HA.out (by simp [laws_same.l0])
   | succ k1 =>
    have H:=HA.out
    clear HA
    simp only [laws_same.l0] at H
    by_cases c4:x5_1 < (l0.length:Int)
    ·rw [if_pos c4] at H
     have c4b0:decide (x5_1 < (l0.length:Int)) = true:=decide_eq_true c4
     clear c4
     by_cases c5:0 ≤ x5_1
     ·rw [if_pos c5] at H
      have c5b0:decide (0 ≤ x5_1) = true:=decide_eq_true c5
      clear c5
      by_cases c6:x5_1 < (l1.length:Int)
      ·rw [if_pos c6] at H
       have c6b0:decide (x5_1 < (l1.length:Int)) = true:=decide_eq_true c6
       clear c6
       by_cases c7:(rd l0 x5_1) = (rd l1 x5_1)
       ·rw [if_pos c7] at H
        have c7b0:((rd l0 x5_1) == (rd l1 x5_1)) = true:=beq_iff_eq.mpr c7
        have c7b1:((rd l0 x5_1) != (rd l1 x5_1)) = false:=bne_eq_false_iff_eq.mpr c7
        clear c7
        have H':=mk0 H
        clear H
        have p332:0 ≤ (x5_1:Int):=of_decide_eq_true (by first|(with_reducible assumption)|assumption)
        have q332:x5_1 < (l0.length:Int):=of_decide_eq_true (by first|(with_reducible assumption)|assumption)
        obtain⟨ad332,e332,hx332_0⟩:=Kd.at_int HR0.out x5_1 p332 q332
        cases e332
        replace p332:=eq_true p332
        replace q332:=eq_true q332
        have p333:0 ≤ (x5_1:Int):=of_decide_eq_true (by first|(with_reducible assumption)|assumption)
        have q333:x5_1 < (l1.length:Int):=of_decide_eq_true (by first|(with_reducible assumption)|assumption)
        obtain⟨ad333,e333,hx333_0⟩:=Kd.at_int HR1.out x5_1 p333 q333
        cases e333
        replace p333:=eq_true p333
        replace q333:=eq_true q333
        go_wp2
        repeat (go_quiet (fail);try go_wp2)
        go_roundg k1
        case measure=>have:=HK1.out;omega
        case rel=>exact⟨(wrap64 (x5_1 + 1)),(by first|rfl|(simp;done)|(simp [*];done)),H',⟨by have:=HK1.out;omega⟩,by repeat (first|exact Drawn0.refl _|apply Drawn0.step)⟩
       ·rw [if_neg c7] at H
        have c7b0:((rd l0 x5_1) == (rd l1 x5_1)) = false:=beq_eq_false_iff_ne.mpr c7
        have c7b1:((rd l0 x5_1) != (rd l1 x5_1)) = true:=bne_iff_ne.mpr c7
        obtain rfl:=Option.some.inj H
        have p332:0 ≤ (x5_1:Int):=of_decide_eq_true (by first|(with_reducible assumption)|assumption)
        have q332:x5_1 < (l0.length:Int):=of_decide_eq_true (by first|(with_reducible assumption)|assumption)
        obtain⟨ad332,e332,hx332_0⟩:=Kd.at_int HR0.out x5_1 p332 q332
        cases e332
        replace p332:=eq_true p332
        replace q332:=eq_true q332
        have p333:0 ≤ (x5_1:Int):=of_decide_eq_true (by first|(with_reducible assumption)|assumption)
        have q333:x5_1 < (l1.length:Int):=of_decide_eq_true (by first|(with_reducible assumption)|assumption)
        obtain⟨ad333,e333,hx333_0⟩:=Kd.at_int HR1.out x5_1 p333 q333
        cases e333
        replace p333:=eq_true p333
        replace q333:=eq_true q333
        go_wp2
        repeat (go_quiet (fail);try go_wp2)
        go_ret
        exact⟨by first|rfl|(simp;done)|(simp [*];done),by repeat (first|exact Drawn0.refl _|apply Drawn0.step)⟩
      ·rw [if_neg c6] at H
       exact absurd H (by simp)
     ·rw [if_neg c5] at H
      exact absurd H (by simp)
    ·rw [if_neg c4] at H
     have c4b0:decide (x5_1 < (l0.length:Int)) = false:=decide_eq_false c4
     clear c4
     obtain rfl:=Option.some.inj H
     go_wp2
     repeat (go_quiet (fail);try go_wp2)
     go_ret
     exact⟨by first|rfl|(simp;done)|(simp [*];done),by repeat (first|exact Drawn0.refl _|apply Drawn0.step)⟩
 ·rw [if_neg c3] at H
  have c3b0:((l0.length:Int) == (l1.length:Int)) = false:=beq_eq_false_iff_ne.mpr c3
  have c3b1:((l0.length:Int) != (l1.length:Int)) = true:=bne_iff_ne.mpr c3
  have c3b2:(l0.length == l1.length) = false:=by first|simpa using c3|(simp at c3 ⊢;omega)
  obtain rfl:=Option.some.inj H
  go_enter Try.func11,Try.ntmps11
  go_wp2
  repeat (go_quiet (fail);try go_wp2)
  go_ret
  exact⟨by first|rfl|(simp;done)|(simp [*];done),by repeat (first|exact Drawn0.refl _|apply Drawn0.step)⟩

/-! ### impl_BitsOk: function 79 -/
def impl_BitsOk.f (a0_0 : Int) (l0_1 : List Int) : Option (Bool) := (impl_within.f a0_0 0 5000).bind fun t335 => (if t335 = true then (if (l0_1.length : Int) = (wrap64 (Int.tdiv (wrap64 ((wrap64 (a0_0 + 64)) - 1)) 64)) then (if (Int.tmod a0_0 64) = 0 then (some true) else (if 0 ≤ (wrap64 ((l0_1.length : Int) - 1)) then (if (wrap64 ((l0_1.length : Int) - 1)) < (l0_1.length : Int) then (if 0 ≤ (Int.tmod a0_0 64) then (some ((shr .u64 (rd l0_1 (wrap64 ((l0_1.length : Int) - 1))) (Int.tmod a0_0 64)) == 0)) else (none)) else (none)) else (none))) else (some false)) else (some false))
set_option maxHeartbeats 8000000 in
set_option maxRecDepth 100000 in
theorem impl_BitsOk.calls (a0_0 : Int) (A0_1 : Option Addr) (c0_1 : Nat) (l0_1 : List Int) (r : Bool) (w : World) (hr0_1 : Kd.C (Kd.int .u64) w A0_1 l0_1.length l0_1) (hc0_1 : l0_1.length ≤ c0_1) (h : impl_BitsOk.f a0_0 l0_1 = some r) :
  Calls Try.prog 79 #[.agg #[.int .i64 a0_0, .slice A0_1 l0_1.length c0_1]] w fun e w' => e = .returned (.bool r) ∧ Below w.heap.size w w' := by
 have hu29:=Try.underlying29
 have HR0_1:=mk0 hr0_1
 have HC0_1:=mk0 hc0_1
 clear hr0_1 hc0_1
 have HB:=mk0 (Below.refl w.heap.size w)
 have H:((impl_within.f a0_0 0 5000).bind fun t335=>(if t335 = true then (if (l0_1.length:Int) = (wrap64 (Int.tdiv (wrap64 ((wrap64 (a0_0 + 64)) - 1)) 64)) then (if (Int.tmod a0_0 64) = 0 then (some true) else (if 0 ≤ (wrap64 ((l0_1.length:Int) - 1)) then (if (wrap64 ((l0_1.length:Int) - 1)) < (l0_1.length:Int) then (if 0 ≤ (Int.tmod a0_0 64) then (some ((shr .u64 (rd l0_1 (wrap64 ((l0_1.length:Int) - 1))) (Int.tmod a0_0 64)) == 0)) else (none)) else (none)) else (none))) else (some false)) else (some false))) = some r:=h
 clear h
 replace H:=Option.bind_eq_some_iff.mp H
 obtain⟨t335,A20,H⟩:=H
 replace H:(if t335 = true then (if (l0_1.length:Int) = (wrap64 (Int.tdiv (wrap64 ((wrap64 (a0_0 + 64)) - 1)) 64)) then (if (Int.tmod a0_0 64) = 0 then (some true) else (if 0 ≤ (wrap64 ((l0_1.length:Int) - 1)) then (if (wrap64 ((l0_1.length:Int) - 1)) < (l0_1.length:Int) then (if 0 ≤ (Int.tmod a0_0 64) then (some ((shr .u64 (rd l0_1 (wrap64 ((l0_1.length:Int) - 1))) (Int.tmod a0_0 64)) == 0)) else (none)) else (none)) else (none))) else (some false)) else (some false)) = some r:=H
 have A2:=mk0 A20
 clear A20
 by_cases c3:t335 = true
 ·subst c3
  have H1:(if (l0_1.length:Int) = (wrap64 (Int.tdiv (wrap64 ((wrap64 (a0_0 + 64)) - 1)) 64)) then (if (Int.tmod a0_0 64) = 0 then (some true) else (if 0 ≤ (wrap64 ((l0_1.length:Int) - 1)) then (if (wrap64 ((l0_1.length:Int) - 1)) < (l0_1.length:Int) then (if 0 ≤ (Int.tmod a0_0 64) then (some ((shr .u64 (rd l0_1 (wrap64 ((l0_1.length:Int) - 1))) (Int.tmod a0_0 64)) == 0)) else (none)) else (none)) else (none))) else (some false)) = some r:=by rw [if_pos rfl] at H;exact H
  clear H
  have H:=H1
  clear H1
  by_cases c4:(l0_1.length:Int) = (wrap64 (Int.tdiv (wrap64 ((wrap64 (a0_0 + 64)) - 1)) 64))
  ·rw [if_pos c4] at H
   have c4b0:((l0_1.length:Int) == (wrap64 (Int.tdiv (wrap64 ((wrap64 (a0_0 + 64)) - 1)) 64))) = true:=beq_iff_eq.mpr c4
   have c4b1:((l0_1.length:Int) != (wrap64 (Int.tdiv (wrap64 ((wrap64 (a0_0 + 64)) - 1)) 64))) = false:=bne_eq_false_iff_eq.mpr c4
   clear c4
   by_cases c5:(Int.tmod a0_0 64) = 0
   ·rw [if_pos c5] at H
    have c5b0:((Int.tmod a0_0 64) == 0) = true:=beq_iff_eq.mpr c5
    have c5b1:((Int.tmod a0_0 64) != 0) = false:=bne_eq_false_iff_eq.mpr c5
    clear c5
    obtain rfl:=Option.some.inj H
    go_enter Try.func79,Try.ntmps79
    go_wp2_with (first|((with_reducible refine gate_dst (N:=1) rfl ?_);(try (refine gate_guard (by rfl) ?_;dsimp only));refine box_event ?hg (N:=1) ?hd (cs:=#[.int .i64 a0_0,.slice A0_1 l0_1.length c0_1]) (t:=29) ?hr ?_;(case hd=>rfl);(case hg=>rfl);(case hr=>first|(go_simp;done)|(go_simp;rfl));intro gb334 hg w6 hbox hb;have BK334:=mk0 (hbox);have GW334:=mk0 ((by rw [hg];exact (kZ HB.out):w.heap.size ≤ gb334));have GE334:=mk0 ((by rw [hg];exact (kZ HB.out):w.heap.size ≤ gb334));replace HB:=mk0 (kS HB.out hb);clear hb hbox hg;obtain⟨hcz7_0,hcz7_1,hfz7_0,hfz7_1⟩:=cz2 BK334.out)|((with_reducible refine gate_callee (f:=31) rfl ?_);refine goesL_ (some 6) rfl rfl Try.func31 (by kernel_rfl) rfl #[.int .i64 a0_0,.int .i64 0,.int .i64 5000] rfl (by (try simp only [mA,mC,mN]);first|done|rfl|(simp only [List.length_drop,List.length_take];done)|(simp only [List.length_drop,List.length_take];rfl)) ?_;(with_reducible refine (impl_within.calls a0_0 0 5000 true _ A2.out).mono ?_);rintro e w' ⟨rfl,⟨nd,rfl⟩⟩;refine⟨_,rfl,?_⟩))
    go_ret
    exact⟨by first|rfl|(simp [errW_none,errW_some] <;> rfl)|(simp [*,errW_none,errW_some] <;> rfl),kB HB.out⟩
   ·rw [if_neg c5] at H
    have c5b0:((Int.tmod a0_0 64) == 0) = false:=beq_eq_false_iff_ne.mpr c5
    have c5b1:((Int.tmod a0_0 64) != 0) = true:=bne_iff_ne.mpr c5
    obtain⟨ji8,hji8⟩:∃ j_:Int,(wrap64 ((l0_1.length:Int) - 1)) = j_:=⟨_,rfl⟩
    replace H:(if 0 ≤ (ji8) then (if (ji8) < (l0_1.length:Int) then (if 0 ≤ (Int.tmod a0_0 64) then (some ((shr .u64 (rd l0_1 (ji8)) (Int.tmod a0_0 64)) == 0)) else (none)) else (none)) else (none)) = some r:=by first|(rw [hji8] at H;exact H)|(simp only [hji8] at H ⊢;exact H)
    (try rw [hji8] at A2)
    have hji8w:(IntKind.i64.wrap ((l0_1.length:Int) - 1)) = ji8:=(i64_w _).trans hji8
    by_cases c9:0 ≤ (ji8)
    ·rw [if_pos c9] at H
     have c9b0:decide (0 ≤ (ji8)) = true:=decide_eq_true c9
     clear c9
     by_cases c10:(ji8) < (l0_1.length:Int)
     ·rw [if_pos c10] at H
      have c10b0:decide ((ji8) < (l0_1.length:Int)) = true:=decide_eq_true c10
      clear c10
      obtain⟨ji11,hji11⟩:∃ j_:Int,(Int.tmod a0_0 64) = j_:=⟨_,rfl⟩
      replace H:(if 0 ≤ (ji11) then (some ((shr .u64 (rd l0_1 (ji8)) (ji11)) == 0)) else (none)) = some r:=by first|(rw [hji11] at H;exact H)|(simp only [hji11] at H ⊢;exact H)
      (try rw [hji11] at c5b0)
      (try rw [hji11] at c5b1)
      (try rw [hji11] at A2)
      by_cases c12:0 ≤ (ji11)
      ·rw [if_pos c12] at H
       have c12b0:=eq_true c12
       have c12b1:decide (0 ≤ (ji11)) = true:=decide_eq_true c12
       clear c12
       obtain⟨ji13,hji13⟩:∃ j_:Int,(shr .u64 (rd l0_1 (ji8)) (ji11)) = j_:=⟨_,rfl⟩
       replace H:(some ((ji13) == 0)) = some r:=by first|(rw [hji13] at H;exact H)|(simp only [hji13] at H ⊢;exact H)
       (try rw [hji13] at A2)
       have hji13_:((rd l0_1 (ji8)) / 2 ^ min (ji11).toNat 64) = ji13:=hji13
       have hji13z:(ji11) ≤ 64 → ((rd l0_1 (ji8)) / 2 ^ (ji11).toNat) = ji13:=shr_small hji13
       obtain rfl:=Option.some.inj H
       go_enter Try.func79,Try.ntmps79
       go_wp2_with (first|((with_reducible refine gate_dst (N:=1) rfl ?_);(try (refine gate_guard (by rfl) ?_;dsimp only));refine box_event ?hg (N:=1) ?hd (cs:=#[.int .i64 a0_0,.slice A0_1 l0_1.length c0_1]) (t:=29) ?hr ?_;(case hd=>rfl);(case hg=>rfl);(case hr=>first|(go_simp;done)|(go_simp;rfl));intro gb334 hg w14 hbox hb;have BK334:=mk0 (hbox);have GW334:=mk0 ((by rw [hg];exact (kZ HB.out):w.heap.size ≤ gb334));have GE334:=mk0 ((by rw [hg];exact (kZ HB.out):w.heap.size ≤ gb334));replace HB:=mk0 (kS HB.out hb);clear hb hbox hg;obtain⟨hcz15_0,hcz15_1,hfz15_0,hfz15_1⟩:=cz2 BK334.out)|((with_reducible refine gate_callee (f:=31) rfl ?_);refine goesL_ (some 6) rfl rfl Try.func31 (by kernel_rfl) rfl #[.int .i64 a0_0,.int .i64 0,.int .i64 5000] rfl (by (try simp only [mA,mC,mN]);first|done|rfl|(simp only [List.length_drop,List.length_take];done)|(simp only [List.length_drop,List.length_take];rfl)) ?_;(with_reducible refine (impl_within.calls a0_0 0 5000 true _ A2.out).mono ?_);rintro e w' ⟨rfl,⟨nd,rfl⟩⟩;refine⟨_,rfl,?_⟩;have p336:0 ≤ ((ji8):Int):=of_decide_eq_true (by first|(with_reducible assumption)|assumption);have q336:(ji8) < (l0_1.length:Int):=of_decide_eq_true (by first|(with_reducible assumption)|assumption);obtain⟨ad336,e336,hx336_0⟩:=Kd.at_int HR0_1.out (ji8) p336 q336;cases e336;replace hx336_0:=(HB.out.cell (World.block_lt_of_cell? w _ hx336_0)).trans hx336_0;replace p336:=eq_true p336;replace q336:=eq_true q336))
       go_ret
       exact⟨by first|rfl|(simp [errW_none,errW_some] <;> rfl)|(simp only [← hji8, ← hji11, ← hji13];first|rfl|(simp [errW_none,errW_some] <;> rfl))|(simp [*,errW_none,errW_some] <;> rfl),kB HB.out⟩
      ·rw [if_neg c12] at H
       exact absurd H (by simp)
     ·rw [if_neg c10] at H
      exact absurd H (by simp)
    ·rw [if_neg c9] at H
     exact absurd H (by simp)
  ·rw [if_neg c4] at H
   have c4b0:((l0_1.length:Int) == (wrap64 (Int.tdiv (wrap64 ((wrap64 (a0_0 + 64)) - 1)) 64))) = false:=beq_eq_false_iff_ne.mpr c4
   have c4b1:((l0_1.length:Int) != (wrap64 (Int.tdiv (wrap64 ((wrap64 (a0_0 + 64)) - 1)) 64))) = true:=bne_iff_ne.mpr c4
   obtain rfl:=Option.some.inj H
   go_enter Try.func79,Try.ntmps79
   go_wp2_with (first|((with_reducible refine gate_dst (N:=1) rfl ?_);(try (refine gate_guard (by rfl) ?_;dsimp only));refine box_event ?hg (N:=1) ?hd (cs:=#[.int .i64 a0_0,.slice A0_1 l0_1.length c0_1]) (t:=29) ?hr ?_;(case hd=>rfl);(case hg=>rfl);(case hr=>first|(go_simp;done)|(go_simp;rfl));intro gb334 hg w16 hbox hb;have BK334:=mk0 (hbox);have GW334:=mk0 ((by rw [hg];exact (kZ HB.out):w.heap.size ≤ gb334));have GE334:=mk0 ((by rw [hg];exact (kZ HB.out):w.heap.size ≤ gb334));replace HB:=mk0 (kS HB.out hb);clear hb hbox hg;obtain⟨hcz17_0,hcz17_1,hfz17_0,hfz17_1⟩:=cz2 BK334.out)|((with_reducible refine gate_callee (f:=31) rfl ?_);refine goesL_ (some 6) rfl rfl Try.func31 (by kernel_rfl) rfl #[.int .i64 a0_0,.int .i64 0,.int .i64 5000] rfl (by (try simp only [mA,mC,mN]);first|done|rfl|(simp only [List.length_drop,List.length_take];done)|(simp only [List.length_drop,List.length_take];rfl)) ?_;(with_reducible refine (impl_within.calls a0_0 0 5000 true _ A2.out).mono ?_);rintro e w' ⟨rfl,⟨nd,rfl⟩⟩;refine⟨_,rfl,?_⟩))
   go_ret
   exact⟨by first|rfl|(simp [errW_none,errW_some] <;> rfl)|(simp [*,errW_none,errW_some] <;> rfl),kB HB.out⟩
 ·replace c3:=Bool.eq_false_iff.mpr c3
  subst c3
  have H1:(some false) = some r:=by rw [if_neg (show ¬ (false = true) by decide)] at H;exact H
  clear H
  have H:=H1
  clear H1
  obtain rfl:=Option.some.inj H
  go_enter Try.func79,Try.ntmps79
  go_wp2_with (first|((with_reducible refine gate_dst (N:=1) rfl ?_);(try (refine gate_guard (by rfl) ?_;dsimp only));refine box_event ?hg (N:=1) ?hd (cs:=#[.int .i64 a0_0,.slice A0_1 l0_1.length c0_1]) (t:=29) ?hr ?_;(case hd=>rfl);(case hg=>rfl);(case hr=>first|(go_simp;done)|(go_simp;rfl));intro gb334 hg w18 hbox hb;have BK334:=mk0 (hbox);have GW334:=mk0 ((by rw [hg];exact (kZ HB.out):w.heap.size ≤ gb334));have GE334:=mk0 ((by rw [hg];exact (kZ HB.out):w.heap.size ≤ gb334));replace HB:=mk0 (kS HB.out hb);clear hb hbox hg;obtain⟨hcz19_0,hcz19_1,hfz19_0,hfz19_1⟩:=cz2 BK334.out)|((with_reducible refine gate_callee (f:=31) rfl ?_);refine goesL_ (some 6) rfl rfl Try.func31 (by kernel_rfl) rfl #[.int .i64 a0_0,.int .i64 0,.int .i64 5000] rfl (by (try simp only [mA,mC,mN]);first|done|rfl|(simp only [List.length_drop,List.length_take];done)|(simp only [List.length_drop,List.length_take];rfl)) ?_;(with_reducible refine (impl_within.calls a0_0 0 5000 false _ A2.out).mono ?_);rintro e w' ⟨rfl,⟨nd,rfl⟩⟩;refine⟨_,rfl,?_⟩))
  go_ret
  exact⟨by first|rfl|(simp [errW_none,errW_some] <;> rfl)|(simp [*,errW_none,errW_some] <;> rfl),kB HB.out⟩

/-! ### impl_PackOk: function 77 -/
def impl_PackOk.f (a0_0 : Int) (a0_1 : Int) (a0_2 : Int) (l0_3 : List Int) : Option (Bool) := (impl_within.f a0_0 0 32).bind fun t338 => (if t338 = true then ((impl_within.f a0_1 0 5000).bind fun t339 => (if t339 = true then ((impl_BitsOk.f a0_2 l0_3).bind fun t340 => (if t340 = true then (some (a0_2 == (wrap64 (a0_1 * a0_0)))) else (some false))) else (some false))) else (some false))
set_option maxHeartbeats 8000000 in
set_option maxRecDepth 100000 in
theorem impl_PackOk.calls (a0_0 : Int) (a0_1 : Int) (a0_2 : Int) (A0_3 : Option Addr) (c0_3 : Nat) (l0_3 : List Int) (r : Bool) (w : World) (hr0_3 : Kd.C (Kd.int .u64) w A0_3 l0_3.length l0_3) (hc0_3 : l0_3.length ≤ c0_3) (h : impl_PackOk.f a0_0 a0_1 a0_2 l0_3 = some r) :
  Calls Try.prog 77 #[.agg #[.int .i64 a0_0, .int .i64 a0_1, .int .i64 a0_2, .slice A0_3 l0_3.length c0_3]] w fun e w' => e = .returned (.bool r) ∧ Below w.heap.size w w' := by
 have hu31:=Try.underlying31
 have hu29:=Try.underlying29
 have HR0_3:=mk0 hr0_3
 have HC0_3:=mk0 hc0_3
 clear hr0_3 hc0_3
 have HB:=mk0 (Below.refl w.heap.size w)
 have H:((impl_within.f a0_0 0 32).bind fun t338=>(if t338 = true then ((impl_within.f a0_1 0 5000).bind fun t339=>(if t339 = true then ((impl_BitsOk.f a0_2 l0_3).bind fun t340=>(if t340 = true then (some (a0_2 == (wrap64 (a0_1 * a0_0)))) else (some false))) else (some false))) else (some false))) = some r:=h
 clear h
 replace H:=Option.bind_eq_some_iff.mp H
 obtain⟨t338,A20,H⟩:=H
 replace H:(if t338 = true then ((impl_within.f a0_1 0 5000).bind fun t339=>(if t339 = true then ((impl_BitsOk.f a0_2 l0_3).bind fun t340=>(if t340 = true then (some (a0_2 == (wrap64 (a0_1 * a0_0)))) else (some false))) else (some false))) else (some false)) = some r:=H
 have A2:=mk0 A20
 clear A20
 by_cases c3:t338 = true
 ·subst c3
  have H1:((impl_within.f a0_1 0 5000).bind fun t339=>(if t339 = true then ((impl_BitsOk.f a0_2 l0_3).bind fun t340=>(if t340 = true then (some (a0_2 == (wrap64 (a0_1 * a0_0)))) else (some false))) else (some false))) = some r:=by rw [if_pos rfl] at H;exact H
  clear H
  have H:=H1
  clear H1
  replace H:=Option.bind_eq_some_iff.mp H
  obtain⟨t339,A40,H⟩:=H
  replace H:(if t339 = true then ((impl_BitsOk.f a0_2 l0_3).bind fun t340=>(if t340 = true then (some (a0_2 == (wrap64 (a0_1 * a0_0)))) else (some false))) else (some false)) = some r:=H
  have A4:=mk0 A40
  clear A40
  by_cases c5:t339 = true
  ·subst c5
   have H1:((impl_BitsOk.f a0_2 l0_3).bind fun t340=>(if t340 = true then (some (a0_2 == (wrap64 (a0_1 * a0_0)))) else (some false))) = some r:=by rw [if_pos rfl] at H;exact H
   clear H
   have H:=H1
   clear H1
   replace H:=Option.bind_eq_some_iff.mp H
   obtain⟨t340,A60,H⟩:=H
   replace H:(if t340 = true then (some (a0_2 == (wrap64 (a0_1 * a0_0)))) else (some false)) = some r:=H
   have A6:=mk0 A60
   clear A60
   by_cases c7:t340 = true
   ·subst c7
    have H1:(some (a0_2 == (wrap64 (a0_1 * a0_0)))) = some r:=by rw [if_pos rfl] at H;exact H
    clear H
    have H:=H1
    clear H1
    obtain rfl:=Option.some.inj H
    go_enter Try.func77,Try.ntmps77
    go_wp2_with (first|((with_reducible refine gate_dst (N:=1) rfl ?_);refine box_event ?hg (N:=1) ?hd (cs:=#[.int .i64 a0_0,.int .i64 a0_1,.int .i64 a0_2,.slice A0_3 l0_3.length c0_3]) (t:=31) ?hr ?_;(case hd=>rfl);(case hg=>rfl);(case hr=>first|(go_simp;done)|(go_simp;rfl));intro gb337 hg w8 hbox hb;have BK337:=mk0 (hbox);have GW337:=mk0 ((by rw [hg];exact (kZ HB.out):w.heap.size ≤ gb337));have GE337:=mk0 ((by rw [hg];exact (kZ HB.out):w.heap.size ≤ gb337));replace HB:=mk0 (kS HB.out hb);clear hb hbox hg;obtain⟨hcz9_0,hcz9_1,hcz9_2,hcz9_3,hfz9_0,hfz9_1,hfz9_2,hfz9_3⟩:=cz4 BK337.out)|((with_reducible refine gate_callee (f:=31) rfl ?_);refine goesL_ (some 5) rfl rfl Try.func31 (by kernel_rfl) rfl #[.int .i64 a0_0,.int .i64 0,.int .i64 32] rfl (by (try simp only [mA,mC,mN]);first|done|rfl|(simp only [List.length_drop,List.length_take];done)|(simp only [List.length_drop,List.length_take];rfl)) ?_;(with_reducible refine (impl_within.calls a0_0 0 32 true _ A2.out).mono ?_);rintro e w' ⟨rfl,⟨nd,rfl⟩⟩;refine⟨_,rfl,?_⟩)|(go_at_call 31;(with_reducible refine (impl_within.calls a0_1 0 5000 true _ A4.out).mono ?_);rintro e w' ⟨rfl,⟨nd,rfl⟩⟩)|(go_at_call 79;(with_reducible refine (impl_BitsOk.calls a0_2 _ _ l0_3 true _ ?side1 ?side2 A6.out).mono ?_);(case side1=>repeat (first|exact (Kd.C_below HR0_3.out (kB HB.out))|(with_reducible first|apply aC|apply nC|apply dC)));(case side2=>exact HC0_3.out);rintro e w10 ⟨rfl,hb⟩;replace BK337:=mk0 (kK BK337.out hb);replace HB:=mk0 (kS HB.out hb);(try clear hb);obtain⟨hcz11_0,hcz11_1,hcz11_2,hcz11_3,hfz11_0,hfz11_1,hfz11_2,hfz11_3⟩:=cz4 BK337.out))
    go_ret
    exact⟨by first|rfl|(simp [errW_none,errW_some] <;> rfl)|(simp [*,errW_none,errW_some] <;> rfl),kB HB.out⟩
   ·replace c7:=Bool.eq_false_iff.mpr c7
    subst c7
    have H1:(some false) = some r:=by rw [if_neg (show ¬ (false = true) by decide)] at H;exact H
    clear H
    have H:=H1
    clear H1
    obtain rfl:=Option.some.inj H
    go_enter Try.func77,Try.ntmps77
    go_wp2_with (first|((with_reducible refine gate_dst (N:=1) rfl ?_);refine box_event ?hg (N:=1) ?hd (cs:=#[.int .i64 a0_0,.int .i64 a0_1,.int .i64 a0_2,.slice A0_3 l0_3.length c0_3]) (t:=31) ?hr ?_;(case hd=>rfl);(case hg=>rfl);(case hr=>first|(go_simp;done)|(go_simp;rfl));intro gb337 hg w12 hbox hb;have BK337:=mk0 (hbox);have GW337:=mk0 ((by rw [hg];exact (kZ HB.out):w.heap.size ≤ gb337));have GE337:=mk0 ((by rw [hg];exact (kZ HB.out):w.heap.size ≤ gb337));replace HB:=mk0 (kS HB.out hb);clear hb hbox hg;obtain⟨hcz13_0,hcz13_1,hcz13_2,hcz13_3,hfz13_0,hfz13_1,hfz13_2,hfz13_3⟩:=cz4 BK337.out)|((with_reducible refine gate_callee (f:=31) rfl ?_);refine goesL_ (some 5) rfl rfl Try.func31 (by kernel_rfl) rfl #[.int .i64 a0_0,.int .i64 0,.int .i64 32] rfl (by (try simp only [mA,mC,mN]);first|done|rfl|(simp only [List.length_drop,List.length_take];done)|(simp only [List.length_drop,List.length_take];rfl)) ?_;(with_reducible refine (impl_within.calls a0_0 0 32 true _ A2.out).mono ?_);rintro e w' ⟨rfl,⟨nd,rfl⟩⟩;refine⟨_,rfl,?_⟩)|(go_at_call 31;(with_reducible refine (impl_within.calls a0_1 0 5000 true _ A4.out).mono ?_);rintro e w' ⟨rfl,⟨nd,rfl⟩⟩)|(go_at_call 79;(with_reducible refine (impl_BitsOk.calls a0_2 _ _ l0_3 false _ ?side1 ?side2 A6.out).mono ?_);(case side1=>repeat (first|exact (Kd.C_below HR0_3.out (kB HB.out))|(with_reducible first|apply aC|apply nC|apply dC)));(case side2=>exact HC0_3.out);rintro e w14 ⟨rfl,hb⟩;replace BK337:=mk0 (kK BK337.out hb);replace HB:=mk0 (kS HB.out hb);(try clear hb)))
    go_ret
    exact⟨by first|rfl|(simp [errW_none,errW_some] <;> rfl)|(simp [*,errW_none,errW_some] <;> rfl),kB HB.out⟩
  ·replace c5:=Bool.eq_false_iff.mpr c5
   subst c5
   have H1:(some false) = some r:=by rw [if_neg (show ¬ (false = true) by decide)] at H;exact H
   clear H
   have H:=H1
   clear H1
   obtain rfl:=Option.some.inj H
   go_enter Try.func77,Try.ntmps77
   go_wp2_with (first|((with_reducible refine gate_dst (N:=1) rfl ?_);refine box_event ?hg (N:=1) ?hd (cs:=#[.int .i64 a0_0,.int .i64 a0_1,.int .i64 a0_2,.slice A0_3 l0_3.length c0_3]) (t:=31) ?hr ?_;(case hd=>rfl);(case hg=>rfl);(case hr=>first|(go_simp;done)|(go_simp;rfl));intro gb337 hg w15 hbox hb;have BK337:=mk0 (hbox);have GW337:=mk0 ((by rw [hg];exact (kZ HB.out):w.heap.size ≤ gb337));have GE337:=mk0 ((by rw [hg];exact (kZ HB.out):w.heap.size ≤ gb337));replace HB:=mk0 (kS HB.out hb);clear hb hbox hg;obtain⟨hcz16_0,hcz16_1,hcz16_2,hcz16_3,hfz16_0,hfz16_1,hfz16_2,hfz16_3⟩:=cz4 BK337.out)|((with_reducible refine gate_callee (f:=31) rfl ?_);refine goesL_ (some 5) rfl rfl Try.func31 (by kernel_rfl) rfl #[.int .i64 a0_0,.int .i64 0,.int .i64 32] rfl (by (try simp only [mA,mC,mN]);first|done|rfl|(simp only [List.length_drop,List.length_take];done)|(simp only [List.length_drop,List.length_take];rfl)) ?_;(with_reducible refine (impl_within.calls a0_0 0 32 true _ A2.out).mono ?_);rintro e w' ⟨rfl,⟨nd,rfl⟩⟩;refine⟨_,rfl,?_⟩)|(go_at_call 31;(with_reducible refine (impl_within.calls a0_1 0 5000 false _ A4.out).mono ?_);rintro e w' ⟨rfl,⟨nd,rfl⟩⟩))
   go_ret
   exact⟨by first|rfl|(simp [errW_none,errW_some] <;> rfl)|(simp [*,errW_none,errW_some] <;> rfl),kB HB.out⟩
 ·replace c3:=Bool.eq_false_iff.mpr c3
  subst c3
  have H1:(some false) = some r:=by rw [if_neg (show ¬ (false = true) by decide)] at H;exact H
  clear H
  have H:=H1
  clear H1
  obtain rfl:=Option.some.inj H
  go_enter Try.func77,Try.ntmps77
  go_wp2_with (first|((with_reducible refine gate_dst (N:=1) rfl ?_);refine box_event ?hg (N:=1) ?hd (cs:=#[.int .i64 a0_0,.int .i64 a0_1,.int .i64 a0_2,.slice A0_3 l0_3.length c0_3]) (t:=31) ?hr ?_;(case hd=>rfl);(case hg=>rfl);(case hr=>first|(go_simp;done)|(go_simp;rfl));intro gb337 hg w17 hbox hb;have BK337:=mk0 (hbox);have GW337:=mk0 ((by rw [hg];exact (kZ HB.out):w.heap.size ≤ gb337));have GE337:=mk0 ((by rw [hg];exact (kZ HB.out):w.heap.size ≤ gb337));replace HB:=mk0 (kS HB.out hb);clear hb hbox hg;obtain⟨hcz18_0,hcz18_1,hcz18_2,hcz18_3,hfz18_0,hfz18_1,hfz18_2,hfz18_3⟩:=cz4 BK337.out)|((with_reducible refine gate_callee (f:=31) rfl ?_);refine goesL_ (some 5) rfl rfl Try.func31 (by kernel_rfl) rfl #[.int .i64 a0_0,.int .i64 0,.int .i64 32] rfl (by (try simp only [mA,mC,mN]);first|done|rfl|(simp only [List.length_drop,List.length_take];done)|(simp only [List.length_drop,List.length_take];rfl)) ?_;(with_reducible refine (impl_within.calls a0_0 0 32 false _ A2.out).mono ?_);rintro e w' ⟨rfl,⟨nd,rfl⟩⟩;refine⟨_,rfl,?_⟩))
  go_ret
  exact⟨by first|rfl|(simp [errW_none,errW_some] <;> rfl)|(simp [*,errW_none,errW_some] <;> rfl),kB HB.out⟩

/-! ### impl_Bits_at: function 84 -/
def impl_Bits_at.f (a0_0 : Int) (l0_1 : List Int) (a1 : Int) : Option (Int) := if 0 ≤ (wrap64 (Int.tdiv a1 64)) then (if (wrap64 (Int.tdiv a1 64)) < (l0_1.length : Int) then (if 0 ≤ (Int.tmod a1 64) then (some (wrap64 (Go.bits .and .u64 (shr .u64 (rd l0_1 (wrap64 (Int.tdiv a1 64))) (Int.tmod a1 64)) 1))) else (none)) else (none)) else (none)
set_option maxHeartbeats 8000000 in
set_option maxRecDepth 100000 in
theorem impl_Bits_at.calls (a0_0 : Int) (A0_1 : Option Addr) (c0_1 : Nat) (l0_1 : List Int) (a1 : Int) (r : Int) (w : World) (hr0_1 : Kd.C (Kd.int .u64) w A0_1 l0_1.length l0_1) (hc0_1 : l0_1.length ≤ c0_1) (h : impl_Bits_at.f a0_0 l0_1 a1 = some r) :
  Calls Try.prog 84 #[.agg #[.int .i64 a0_0, .slice A0_1 l0_1.length c0_1], .int .i64 a1] w fun e w' => e = .returned (.int .i64 r) ∧ Below w.heap.size w w' := by
 have hu29:=Try.underlying29
 have HR0_1:=mk0 hr0_1
 have HC0_1:=mk0 hc0_1
 clear hr0_1 hc0_1
 have HB:=mk0 (Below.refl w.heap.size w)
 have H:(if 0 ≤ (wrap64 (Int.tdiv a1 64)) then (if (wrap64 (Int.tdiv a1 64)) < (l0_1.length:Int) then (if 0 ≤ (Int.tmod a1 64) then (some (wrap64 (Go.bits .and .u64 (shr .u64 (rd l0_1 (wrap64 (Int.tdiv a1 64))) (Int.tmod a1 64)) 1))) else (none)) else (none)) else (none)) = some r:=h
 clear h
 obtain⟨ji3,hji3⟩:∃ j_:Int,(wrap64 (Int.tdiv a1 64)) = j_:=⟨_,rfl⟩
 replace H:(if 0 ≤ (ji3) then (if (ji3) < (l0_1.length:Int) then (if 0 ≤ (Int.tmod a1 64) then (some (wrap64 (Go.bits .and .u64 (shr .u64 (rd l0_1 (ji3)) (Int.tmod a1 64)) 1))) else (none)) else (none)) else (none)) = some r:=by first|(rw [hji3] at H;exact H)|(simp only [hji3] at H ⊢;exact H)
 have hji3w:(IntKind.i64.wrap (Int.tdiv a1 64)) = ji3:=(i64_w _).trans hji3
 by_cases c4:0 ≤ (ji3)
 ·rw [if_pos c4] at H
  have c4b0:decide (0 ≤ (ji3)) = true:=decide_eq_true c4
  clear c4
  by_cases c5:(ji3) < (l0_1.length:Int)
  ·rw [if_pos c5] at H
   have c5b0:decide ((ji3) < (l0_1.length:Int)) = true:=decide_eq_true c5
   clear c5
   obtain⟨ji6,hji6⟩:∃ j_:Int,(Int.tmod a1 64) = j_:=⟨_,rfl⟩
   replace H:(if 0 ≤ (ji6) then (some (wrap64 (Go.bits .and .u64 (shr .u64 (rd l0_1 (ji3)) (ji6)) 1))) else (none)) = some r:=by first|(rw [hji6] at H;exact H)|(simp only [hji6] at H ⊢;exact H)
   by_cases c7:0 ≤ (ji6)
   ·rw [if_pos c7] at H
    have c7b0:=eq_true c7
    have c7b1:decide (0 ≤ (ji6)) = true:=decide_eq_true c7
    clear c7
    obtain⟨ji8,hji8⟩:∃ j_:Int,(shr .u64 (rd l0_1 (ji3)) (ji6)) = j_:=⟨_,rfl⟩
    replace H:(some (wrap64 (Go.bits .and .u64 (ji8) 1))) = some r:=by first|(rw [hji8] at H;exact H)|(simp only [hji8] at H ⊢;exact H)
    have hji8_:((rd l0_1 (ji3)) / 2 ^ min (ji6).toNat 64) = ji8:=hji8
    have hji8z:(ji6) ≤ 64 → ((rd l0_1 (ji3)) / 2 ^ (ji6).toNat) = ji8:=shr_small hji8
    obtain rfl:=Option.some.inj H
    go_enter Try.func84,Try.ntmps84
    go_wp2_with (first|((with_reducible refine gate_dst (N:=2) rfl ?_);refine box_event ?hg (N:=2) ?hd (cs:=#[.int .i64 a0_0,.slice A0_1 l0_1.length c0_1]) (t:=29) ?hr ?_;(case hd=>rfl);(case hg=>rfl);(case hr=>first|(go_simp;done)|(go_simp;rfl));intro gb341 hg w9 hbox hb;have BK341:=mk0 (hbox);have GW341:=mk0 ((by rw [hg];exact (kZ HB.out):w.heap.size ≤ gb341));have GE341:=mk0 ((by rw [hg];exact (kZ HB.out):w.heap.size ≤ gb341));replace HB:=mk0 (kS HB.out hb);clear hb hbox hg;obtain⟨hcz10_0,hcz10_1,hfz10_0,hfz10_1⟩:=cz2 BK341.out;have p342:0 ≤ ((ji3):Int):=of_decide_eq_true (by first|(with_reducible assumption)|assumption);have q342:(ji3) < (l0_1.length:Int):=of_decide_eq_true (by first|(with_reducible assumption)|assumption);obtain⟨ad342,e342,hx342_0⟩:=Kd.at_int HR0_1.out (ji3) p342 q342;cases e342;replace hx342_0:=(HB.out.cell (World.block_lt_of_cell? w _ hx342_0)).trans hx342_0;replace p342:=eq_true p342;replace q342:=eq_true q342))
    go_ret
    exact⟨by first|rfl|(simp [errW_none,errW_some] <;> rfl)|(simp only [← hji3, ← hji6, ← hji8];first|rfl|(simp [errW_none,errW_some] <;> rfl))|(simp [*,errW_none,errW_some] <;> rfl),kB HB.out⟩
   ·rw [if_neg c7] at H
    exact absurd H (by simp)
  ·rw [if_neg c5] at H
   exact absurd H (by simp)
 ·rw [if_neg c4] at H
  exact absurd H (by simp)

/-! ### impl_Packed_at: function 78 -/
def impl_Packed_at.l0 : Nat → Int → Int → Int → Int → Int → Int → List Int → Option (Int)
 | 0, _, _, _, _, _, _, _ => none
 | k + 1, x1, x5, x6, x344000, x344001, x344002, x344003 => if x6 ≥ 0 then ((impl_Bits_at.f x344002 x344003 (wrap64 ((wrap64 (x1 * x344000)) + x6))).bind fun t344 => (impl_Packed_at.l0 k x1 (Go.bits .or .i64 (wrap64 (x5 * 2)) t344) (wrap64 (x6 - 1)) x344000 x344001 x344002 x344003)) else (some x5)
def impl_Packed_at.f (k : Nat) (a0_0 : Int) (a0_1 : Int) (a0_2 : Int) (l0_3 : List Int) (a1 : Int) : Option (Int) := impl_Packed_at.l0 k a1 0 (wrap64 (a0_0 - 1)) a0_0 a0_1 a0_2 l0_3
theorem impl_Packed_at.mono_l : ∀ k, (∀ y0 y1 y2 y3 y4 y5 y6, LeO (impl_Packed_at.l0 k y0 y1 y2 y3 y4 y5 y6) (impl_Packed_at.l0 (k + 1) y0 y1 y2 y3 y4 y5 y6))
 | 0 => fun _ _ _ _ _ _ _ r h => by simp [impl_Packed_at.l0] at h
 | k + 1 => by
  have ih0 := impl_Packed_at.mono_l k
  ·intro y0 y1 y2 y3 y4 y5 y6
   unfold impl_Packed_at.l0
   repeat' first|(with_reducible first|exact ih0 _ _ _ _ _ _ _|exact LeO.refl _|exact LeO.none _|refine LeO.ite ?_ ?_|refine LeO.bind ?_ (fun _ => ?_))|exact LeO.none _|refine LeO.ite ?_ ?_|refine LeO.bind ?_ (fun _ => ?_)
theorem impl_Packed_at.mono : ∀ a0 a1 a2 a3 a4 k, LeO (impl_Packed_at.f k a0 a1 a2 a3 a4) (impl_Packed_at.f (k + 1) a0 a1 a2 a3 a4) := by
 intro a0 a1 a2 a3 a4 k
 have ih0 := impl_Packed_at.mono_l k
 unfold impl_Packed_at.f
 repeat' first|(with_reducible first|exact ih0 _ _ _ _ _ _ _|exact LeO.refl _|exact LeO.none _|refine LeO.ite ?_ ?_|refine LeO.bind ?_ (fun _ => ?_))|exact LeO.none _|refine LeO.ite ?_ ?_|refine LeO.bind ?_ (fun _ => ?_)
set_option maxHeartbeats 8000000 in
set_option maxRecDepth 100000 in
theorem impl_Packed_at.calls (k : Nat) (a0_0 : Int) (a0_1 : Int) (a0_2 : Int) (A0_3 : Option Addr) (c0_3 : Nat) (l0_3 : List Int) (a1 : Int) (r : Int) (w : World) (hr0_3 : Kd.C (Kd.int .u64) w A0_3 l0_3.length l0_3) (hc0_3 : l0_3.length ≤ c0_3) (h : impl_Packed_at.f k a0_0 a0_1 a0_2 l0_3 a1 = some r) :
  Calls Try.prog 78 #[.agg #[.int .i64 a0_0, .int .i64 a0_1, .int .i64 a0_2, .slice A0_3 l0_3.length c0_3], .int .i64 a1] w fun e w' => e = .returned (.int .i64 r) ∧ Below w.heap.size w w' := by
 have hu31:=Try.underlying31
 have hu29:=Try.underlying29
 have HR0_3:=mk0 hr0_3
 have HC0_3:=mk0 hc0_3
 clear hr0_3 hc0_3
 have HB:=mk0 (Below.refl w.heap.size w)
 have H:(impl_Packed_at.l0 k a1 0 (wrap64 (a0_0 - 1)) a0_0 a0_1 a0_2 l0_3) = some r:=h
 clear h
 have H':=mk0 H
 clear H
 go_enter Try.func78,Try.ntmps78
 go_wp2_with (first|((with_reducible refine gate_dst (N:=2) rfl ?_);refine box_event ?hg (N:=2) ?hd (cs:=#[.int .i64 a0_0,.int .i64 a0_1,.int .i64 a0_2,.slice A0_3 l0_3.length c0_3]) (t:=31) ?hr ?_;(case hd=>rfl);(case hg=>rfl);(case hr=>first|(go_simp;done)|(go_simp;rfl));intro gb343 hg w3 hbox hb;have BK343:=mk0 (hbox);have GW343:=mk0 ((by rw [hg];exact (kZ HB.out):w.heap.size ≤ gb343));have GE343:=mk0 ((by rw [hg];exact (kZ HB.out):w.heap.size ≤ gb343));replace HB:=mk0 (kS HB.out hb);clear hb hbox hg;obtain⟨hcz4_0,hcz4_1,hcz4_2,hcz4_3,hfz4_0,hfz4_1,hfz4_2,hfz4_3⟩:=cz4 BK343.out))
 go_loopg [5,6] k (fun kq v5 v6 w'=>∃ (x5_1:Int) (x6_1:Int),v5 = .int .i64 x5_1 ∧ v6 = .int .i64 x6_1 ∧ Aside0 (impl_Packed_at.l0 kq a1 x5_1 x6_1 a0_0 a0_1 a0_2 l0_3 = some r) ∧ Aside0 (kq ≤ k) ∧ Aside0 (w'.heap[gb343]? = some (.cells #[.int .i64 a0_0,.int .i64 a0_1,.int .i64 a0_2,(.slice A0_3 l0_3.length c0_3)] 31 (0,0))) ∧ Aside0 (Below w.heap.size w w'))
 case atStart=>exact⟨(0),(wrap64 (a0_0 - 1)),(by first|rfl|(simp;done)|(simp [*];done)),(by first|rfl|(simp;done)|(simp [*];done)),H',⟨Nat.le_refl _⟩,⟨kN BK343.out⟩,⟨kB HB.out⟩⟩
 case round =>
  clear H'
  try clear p2
  try clear hcz4_0
  try clear hcz4_1
  try clear hcz4_2
  try clear hcz4_3
  try clear hfz4_0
  try clear hfz4_1
  try clear hfz4_2
  try clear hfz4_3
  obtain⟨x5_1,x6_1,rfl,rfl,HA,HK1,BK343,HB⟩:=hrel
  cases gk with
  | zero=>exact absurd HA.out (by simp [impl_Packed_at.l0])
  | succ k1 =>
   have H:=HA.out
   clear HA
   simp only [impl_Packed_at.l0] at H
   by_cases c5:x6_1 ≥ 0
   ·rw [if_pos c5] at H
    have c5b0:decide (0 ≤ x6_1) = true:=decide_eq_true c5
    clear c5
    replace H:=Option.bind_eq_some_iff.mp H
    obtain⟨t344,A60,H⟩:=H
    replace H:(impl_Packed_at.l0 k1 a1 (Go.bits .or .i64 (wrap64 (x5_1 * 2)) t344) (wrap64 (x6_1 - 1)) a0_0 a0_1 a0_2 l0_3) = some r:=H
    have A6:=mk0 A60
    clear A60
    have H':=mk0 H
    clear H
    obtain⟨hcz7_0,hcz7_1,hcz7_2,hcz7_3,hfz7_0,hfz7_1,hfz7_2,hfz7_3⟩:=cz4 BK343.out
    go_wp2_with (first|((with_reducible refine gate_callee (f:=84) rfl ?_);refine goesL_ (some 24) rfl rfl Try.func84 (by kernel_rfl) rfl #[.agg #[.int .i64 a0_2,.slice A0_3 l0_3.length c0_3],.int .i64 (wrap64 ((wrap64 (a1 * a0_0)) + x6_1))] rfl (by (try simp only [mA,mC,mN]);first|done|rfl|(simp only [List.length_drop,List.length_take];done)|(simp only [List.length_drop,List.length_take];rfl)) ?_;(with_reducible refine (impl_Bits_at.calls a0_2 _ _ l0_3 (wrap64 ((wrap64 (a1 * a0_0)) + x6_1)) t344 _ ?side1 ?side2 A6.out).mono ?_);(case side1=>exact kC (Kd.C_below HR0_3.out HB.out));(case side2=>exact HC0_3.out);rintro e w8 ⟨rfl,hb⟩;refine⟨_,rfl,?_⟩;replace BK343:=mk0 (kK BK343.out hb);replace HB:=mk0 (kS HB.out hb);(try clear hb)))
    go_roundg k1
    case measure=>have:=HK1.out;omega
    case rel=>exact⟨(Go.bits .or .i64 (wrap64 (x5_1 * 2)) t344),(wrap64 (x6_1 - 1)),(by first|rfl|(simp;done)|(simp [*];done)),(by first|rfl|(simp;done)|(simp [*];done)),H',⟨by have:=HK1.out;omega⟩,⟨kN BK343.out⟩,⟨kB HB.out⟩⟩
   ·rw [if_neg c5] at H
    have c5b0:decide (0 ≤ x6_1) = false:=decide_eq_false c5
    clear c5
    obtain rfl:=Option.some.inj H
    go_wp2
    go_ret
    exact⟨by first|rfl|(simp [errW_none,errW_some] <;> rfl)|(simp [*,errW_none,errW_some] <;> rfl),kB HB.out⟩

/-! ### impl_PackList: function 60 -/
def impl_PackList.l0 : Nat → List Int → Int → Int → Int → Int → Int → List Int → Option (List Int)
 | 0, _, _, _, _, _, _, _ => none
 | k + 1, x3, x9, x10, x346000, x346001, x346002, x346003 => if x10 < x9 then ((impl_Packed_at.f k x346000 x346001 x346002 x346003 x10).bind fun t347 => (if x3.length < 17592186044416 then (impl_PackList.l0 k (x3 ++ [t347]) x9 (wrap64 (x10 + 1)) x346000 x346001 x346002 x346003) else (none))) else (some x3)
def impl_PackList.f (k : Nat) (a0_0 : Int) (a0_1 : Int) (a0_2 : Int) (l0_3 : List Int) : Option (List Int) := (impl_PackOk.f a0_0 a0_1 a0_2 l0_3).bind fun t346 => (if t346 = true then (impl_PackList.l0 k ([] : List Int) a0_1 0 a0_0 a0_1 a0_2 l0_3) else (some ([] : List Int)))
theorem impl_PackList.mono_l : ∀ k, (∀ y0 y1 y2 y3 y4 y5 y6, LeO (impl_PackList.l0 k y0 y1 y2 y3 y4 y5 y6) (impl_PackList.l0 (k + 1) y0 y1 y2 y3 y4 y5 y6))
 | 0 => fun _ _ _ _ _ _ _ r h => by simp [impl_PackList.l0] at h
 | k + 1 => by
  have ih0 := impl_PackList.mono_l k
  ·intro y0 y1 y2 y3 y4 y5 y6
   unfold impl_PackList.l0
   repeat' first|(with_reducible first|exact ih0 _ _ _ _ _ _ _|exact impl_Packed_at.mono _ _ _ _ _ _|exact LeO.refl _|exact LeO.none _|refine LeO.ite ?_ ?_|refine LeO.bind ?_ (fun _ => ?_))|exact LeO.none _|refine LeO.ite ?_ ?_|refine LeO.bind ?_ (fun _ => ?_)
theorem impl_PackList.mono : ∀ a0 a1 a2 a3 k, LeO (impl_PackList.f k a0 a1 a2 a3) (impl_PackList.f (k + 1) a0 a1 a2 a3) := by
 intro a0 a1 a2 a3 k
 have ih0 := impl_PackList.mono_l k
 unfold impl_PackList.f
 repeat' first|(with_reducible first|exact ih0 _ _ _ _ _ _ _|exact impl_Packed_at.mono _ _ _ _ _ _|exact LeO.refl _|exact LeO.none _|refine LeO.ite ?_ ?_|refine LeO.bind ?_ (fun _ => ?_))|exact LeO.none _|refine LeO.ite ?_ ?_|refine LeO.bind ?_ (fun _ => ?_)
set_option maxHeartbeats 8000000 in
set_option maxRecDepth 100000 in
theorem impl_PackList.calls (k : Nat) (a0_0 : Int) (a0_1 : Int) (a0_2 : Int) (A0_3 : Option Addr) (c0_3 : Nat) (l0_3 : List Int) (r : List Int) (w : World) (hr0_3 : Kd.C (Kd.int .u64) w A0_3 l0_3.length l0_3) (hc0_3 : l0_3.length ≤ c0_3) (h : impl_PackList.f k a0_0 a0_1 a0_2 l0_3 = some r) :
  Calls Try.prog 60 #[.agg #[.int .i64 a0_0, .int .i64 a0_1, .int .i64 a0_2, .slice A0_3 l0_3.length c0_3]] w fun e w' => ∃ v0_ : Value, e = .returned (v0_) ∧ Kd.R (Kd.int .i64) 3 w' w.heap.size (fun _ => True) v0_ r ∧ Below w.heap.size w w' := by
 have hu31:=Try.underlying31
 have HR0_3:=mk0 hr0_3
 have HC0_3:=mk0 hc0_3
 clear hr0_3 hc0_3
 have HB:=mk0 (Below.refl w.heap.size w)
 have H:((impl_PackOk.f a0_0 a0_1 a0_2 l0_3).bind fun t346=>(if t346 = true then (impl_PackList.l0 k ([]:List Int) a0_1 0 a0_0 a0_1 a0_2 l0_3) else (some ([]:List Int)))) = some r:=h
 clear h
 replace H:=Option.bind_eq_some_iff.mp H
 obtain⟨t346,A20,H⟩:=H
 replace H:(if t346 = true then (impl_PackList.l0 k ([]:List Int) a0_1 0 a0_0 a0_1 a0_2 l0_3) else (some ([]:List Int))) = some r:=H
 have A2:=mk0 A20
 clear A20
 by_cases c3:t346 = true
 ·subst c3
  have H1:(impl_PackList.l0 k ([]:List Int) a0_1 0 a0_0 a0_1 a0_2 l0_3) = some r:=by rw [if_pos rfl] at H;exact H
  clear H
  have H:=H1
  clear H1
  have H':=mk0 H
  clear H
  go_enter Try.func60,Try.ntmps60
  go_wp2_with (first|((with_reducible refine gate_dst (N:=1) rfl ?_);refine box_event ?hg (N:=1) ?hd (cs:=#[.int .i64 a0_0,.int .i64 a0_1,.int .i64 a0_2,.slice A0_3 l0_3.length c0_3]) (t:=31) ?hr ?_;(case hd=>rfl);(case hg=>rfl);(case hr=>first|(go_simp;done)|(go_simp;rfl));intro gb345 hg w4 hbox hb;have BK345:=mk0 (hbox);have GW345:=mk0 ((by rw [hg];exact (kZ HB.out):w.heap.size ≤ gb345));have GE345:=mk0 ((by rw [hg];exact (kZ HB.out):w.heap.size ≤ gb345));replace HB:=mk0 (kS HB.out hb);clear hb hbox hg;obtain⟨hcz5_0,hcz5_1,hcz5_2,hcz5_3,hfz5_0,hfz5_1,hfz5_2,hfz5_3⟩:=cz4 BK345.out)|((with_reducible refine gate_callee (f:=77) rfl ?_);refine goesL_ (some 6) rfl rfl Try.func77 (by kernel_rfl) rfl #[.agg #[.int .i64 a0_0,.int .i64 a0_1,.int .i64 a0_2,.slice A0_3 l0_3.length c0_3]] rfl (by (try simp only [mA,mC,mN]);first|done|rfl|(simp only [List.length_drop,List.length_take];done)|(simp only [List.length_drop,List.length_take];rfl)) ?_;(with_reducible refine (impl_PackOk.calls a0_0 a0_1 a0_2 _ _ l0_3 true _ ?side1 ?side2 A2.out).mono ?_);(case side1=>exact kC (Kd.C_below HR0_3.out HB.out));(case side2=>exact HC0_3.out);rintro e w6 ⟨rfl,hb⟩;refine⟨_,rfl,?_⟩;replace BK345:=mk0 (kK BK345.out hb);replace HB:=mk0 (kS HB.out hb);(try clear hb);obtain⟨hcz7_0,hcz7_1,hcz7_2,hcz7_3,hfz7_0,hfz7_1,hfz7_2,hfz7_3⟩:=cz4 BK345.out))
  go_loopg [3,10] k (fun kq v3 v10 w'=>∃ (x3_1:List Int) (x10_1:Int),v10 = .int .i64 x10_1 ∧ Aside0 (impl_PackList.l0 kq x3_1 a0_1 x10_1 a0_0 a0_1 a0_2 l0_3 = some r) ∧ Aside0 (kq ≤ k) ∧ Aside0 (Kd.R (Kd.int .i64) 3 w' w.heap.size (fun _=>True) v3 x3_1) ∧ Aside0 (w'.heap[gb345]? = some (.cells #[.int .i64 a0_0,.int .i64 a0_1,.int .i64 a0_2,(.slice A0_3 l0_3.length c0_3)] 31 (0,0))) ∧ Aside0 (Below w.heap.size w w'))
  case atStart=>exact⟨(([]:List Int)),(0),(by first|rfl|(simp;done)|(simp [*];done)),H',⟨Nat.le_refl _⟩,⟨by first|exact Kd.R_nil _ _ _ _ _|exact Kd.N_nil _ _ _ _ _|exact Kd.V_nil _ _ _ _ _|exact Kd.Q_nil _ _ _ _ _|exact Kd.S_nil _ _ _ _ _⟩,⟨kN BK345.out⟩,⟨kB HB.out⟩⟩
  case round =>
   clear H'
   try clear p2
   try clear c3
   try clear c6
   try clear c7
   try clear hcz5_0
   try clear hcz5_1
   try clear hcz5_2
   try clear hcz5_3
   try clear hcz7_0
   try clear hcz7_1
   try clear hcz7_2
   try clear hcz7_3
   try clear hfz5_0
   try clear hfz5_1
   try clear hfz5_2
   try clear hfz5_3
   try clear hfz7_0
   try clear hfz7_1
   try clear hfz7_2
   try clear hfz7_3
   obtain⟨x3_1,x10_1,rfl,HA,HK1,HO_3,BK345,HB⟩:=hrel
   cases gk with
   | zero=>exact absurd HA.out (by simp [impl_PackList.l0])
   | succ k1 =>
    have H:=HA.out
    clear HA
    simp only [impl_PackList.l0] at H
    by_cases c8:x10_1 < a0_1
    ·rw [if_pos c8] at H
     have c8b0:decide (x10_1 < a0_1) = true:=decide_eq_true c8
     clear c8
     replace H:=Option.bind_eq_some_iff.mp H
     obtain⟨t347,A90,H⟩:=H
     replace H:(if x3_1.length < 17592186044416 then (impl_PackList.l0 k1 (x3_1 ++ [t347]) a0_1 (wrap64 (x10_1 + 1)) a0_0 a0_1 a0_2 l0_3) else (none)) = some r:=H
     have A9:=mk0 A90
     clear A90
     by_cases c10:x3_1.length < 17592186044416
     ·rw [if_pos c10] at H
      have LMc10:=mk0 c10
      clear c10
      obtain⟨y348,hy348⟩:∃ y_:List Int,y_ = (x3_1 ++ [t347]):=⟨_,rfl⟩
      replace H:(impl_PackList.l0 k1 y348 a0_1 (wrap64 (x10_1 + 1)) a0_0 a0_1 a0_2 l0_3) = some r:=by first|(rw [hy348];with_reducible exact H)|(have H2_:=(Option.bind_some _ _).symm.trans H;rw [hy348];with_reducible exact H2_)|(have H2_:=(Option.bind_some _ _).symm.trans H;with_reducible exact H2_)|with_reducible exact H|(rw [hy348];exact H)|exact H
      have Ny348:=mk0 hy348
      clear hy348
      have H':=mk0 H
      clear H
      obtain⟨hcz11_0,hcz11_1,hcz11_2,hcz11_3,hfz11_0,hfz11_1,hfz11_2,hfz11_3⟩:=cz4 BK345.out
      go_wp2_with (first|((with_reducible refine gate_callee (f:=78) rfl ?_);refine goesL_ (some 16) rfl rfl Try.func78 (by kernel_rfl) rfl #[.agg #[.int .i64 a0_0,.int .i64 a0_1,.int .i64 a0_2,.slice A0_3 l0_3.length c0_3],.int .i64 x10_1] rfl (by (try simp only [mA,mC,mN]);first|done|rfl|(simp only [List.length_drop,List.length_take];done)|(simp only [List.length_drop,List.length_take];rfl)) ?_;(with_reducible refine (impl_Packed_at.calls k1 a0_0 a0_1 a0_2 _ _ l0_3 x10_1 t347 _ ?side1 ?side2 A9.out).mono ?_);(case side1=>exact kC (Kd.C_below HR0_3.out HB.out));(case side2=>exact HC0_3.out);rintro e w12 ⟨rfl,hb⟩;refine⟨_,rfl,?_⟩;replace HO_3:=mk0 (bR HO_3.out hb);replace BK345:=mk0 (kK BK345.out hb);replace HB:=mk0 (kS HB.out hb);(try clear hb))|((with_reducible refine gate_builtin (b:=.append) (xs:=#[.tmp 13,.tmp 17]) rfl ?_);at_builtin;refine Kd.R_append (Kd.int .i64) (w0:=w) w.heap.size rfl (.tmp 13) (.tmp 17) 24 3 (.int .i64 0) 8 rfl Try.underlying24 info3 rfl (by decide) (by omega) u3 x3_1 t347 [.int .i64 t347] (fun _=>True) (fun _=>False) rfl rfl ?aP (fun _ hk=>hk.elim) ?aF ?aO ?aB ?aS ?aL ?_;(case aP=>exact rfl);(case aB=>exact (kB HB.out));(case aF=>exact (fun _ _=>trivial));(case aO=>exact (rR HO_3.out));(case aS=>exact (kZ HB.out));(case aL=>have:=LMc10.out;omega);intro v349 w13 ho hb hg hat;rw [← Ny348.out] at ho;replace BK345:=mk0 (blk_grown (kN BK345.out) hg (Kd.R_ne HO_3.out BK345.out (by decide)));replace HB:=mk0 (hb);have HO350:=mk0 (ho);clear HO_3 ho hb hg hat))
      go_roundg k1
      case measure=>have:=HK1.out;omega
      case rel=>exact⟨(y348),(wrap64 (x10_1 + 1)),(by first|rfl|(simp;done)|(simp [*];done)),H',⟨by have:=HK1.out;omega⟩,⟨rR HO350.out⟩,⟨kN BK345.out⟩,⟨kB HB.out⟩⟩
     ·rw [if_neg c10] at H
      exact absurd H (by simp)
    ·rw [if_neg c8] at H
     have c8b0:decide (x10_1 < a0_1) = false:=decide_eq_false c8
     clear c8
     obtain rfl:=Option.some.inj H
     go_wp2
     go_ret
     exact⟨_,by first|rfl|(simp [errW_none,errW_some] <;> rfl)|(simp [*,errW_none,errW_some] <;> rfl),rR HO_3.out,kB HB.out⟩
 ·replace c3:=Bool.eq_false_iff.mpr c3
  subst c3
  have H1:(some ([]:List Int)) = some r:=by rw [if_neg (show ¬ (false = true) by decide)] at H;exact H
  clear H
  have H:=H1
  clear H1
  obtain rfl:=Option.some.inj H
  go_enter Try.func60,Try.ntmps60
  go_wp2_with (first|((with_reducible refine gate_dst (N:=1) rfl ?_);refine box_event ?hg (N:=1) ?hd (cs:=#[.int .i64 a0_0,.int .i64 a0_1,.int .i64 a0_2,.slice A0_3 l0_3.length c0_3]) (t:=31) ?hr ?_;(case hd=>rfl);(case hg=>rfl);(case hr=>first|(go_simp;done)|(go_simp;rfl));intro gb345 hg w14 hbox hb;have BK345:=mk0 (hbox);have GW345:=mk0 ((by rw [hg];exact (kZ HB.out):w.heap.size ≤ gb345));have GE345:=mk0 ((by rw [hg];exact (kZ HB.out):w.heap.size ≤ gb345));replace HB:=mk0 (kS HB.out hb);clear hb hbox hg;obtain⟨hcz15_0,hcz15_1,hcz15_2,hcz15_3,hfz15_0,hfz15_1,hfz15_2,hfz15_3⟩:=cz4 BK345.out)|((with_reducible refine gate_callee (f:=77) rfl ?_);refine goesL_ (some 6) rfl rfl Try.func77 (by kernel_rfl) rfl #[.agg #[.int .i64 a0_0,.int .i64 a0_1,.int .i64 a0_2,.slice A0_3 l0_3.length c0_3]] rfl (by (try simp only [mA,mC,mN]);first|done|rfl|(simp only [List.length_drop,List.length_take];done)|(simp only [List.length_drop,List.length_take];rfl)) ?_;(with_reducible refine (impl_PackOk.calls a0_0 a0_1 a0_2 _ _ l0_3 false _ ?side1 ?side2 A2.out).mono ?_);(case side1=>exact kC (Kd.C_below HR0_3.out HB.out));(case side2=>exact HC0_3.out);rintro e w16 ⟨rfl,hb⟩;refine⟨_,rfl,?_⟩;replace BK345:=mk0 (kK BK345.out hb);replace HB:=mk0 (kS HB.out hb);(try clear hb)))
  go_ret
  exact⟨_,by first|rfl|(simp [errW_none,errW_some] <;> rfl)|(simp [*,errW_none,errW_some] <;> rfl),by first|exact Kd.R_nil _ _ _ _ _|exact Kd.N_nil _ _ _ _ _|exact Kd.V_nil _ _ _ _ _|exact Kd.Q_nil _ _ _ _ _|exact Kd.S_nil _ _ _ _ _,kB HB.out⟩

/-! ### impl_Bits_list: function 80 -/
def impl_Bits_list.l0 : Nat → List Int → Int → Int → Int → List Int → Option (List Int)
 | 0, _, _, _, _, _ => none
 | k + 1, x3, x6, x7, x352000, x352001 => if x7 < x6 then ((impl_Bits_at.f x352000 x352001 x7).bind fun t352 => (if x3.length < 17592186044416 then (impl_Bits_list.l0 k (x3 ++ [t352]) x6 (wrap64 (x7 + 1)) x352000 x352001) else (none))) else (some x3)
def impl_Bits_list.f (k : Nat) (a0_0 : Int) (l0_1 : List Int) : Option (List Int) := impl_Bits_list.l0 k ([] : List Int) a0_0 0 a0_0 l0_1
theorem impl_Bits_list.mono_l : ∀ k, (∀ y0 y1 y2 y3 y4, LeO (impl_Bits_list.l0 k y0 y1 y2 y3 y4) (impl_Bits_list.l0 (k + 1) y0 y1 y2 y3 y4))
 | 0 => fun _ _ _ _ _ r h => by simp [impl_Bits_list.l0] at h
 | k + 1 => by
  have ih0 := impl_Bits_list.mono_l k
  ·intro y0 y1 y2 y3 y4
   unfold impl_Bits_list.l0
   repeat' first|(with_reducible first|exact ih0 _ _ _ _ _|exact LeO.refl _|exact LeO.none _|refine LeO.ite ?_ ?_|refine LeO.bind ?_ (fun _ => ?_))|exact LeO.none _|refine LeO.ite ?_ ?_|refine LeO.bind ?_ (fun _ => ?_)
theorem impl_Bits_list.mono : ∀ a0 a1 k, LeO (impl_Bits_list.f k a0 a1) (impl_Bits_list.f (k + 1) a0 a1) := by
 intro a0 a1 k
 have ih0 := impl_Bits_list.mono_l k
 unfold impl_Bits_list.f
 repeat' first|(with_reducible first|exact ih0 _ _ _ _ _|exact LeO.refl _|exact LeO.none _|refine LeO.ite ?_ ?_|refine LeO.bind ?_ (fun _ => ?_))|exact LeO.none _|refine LeO.ite ?_ ?_|refine LeO.bind ?_ (fun _ => ?_)
set_option maxHeartbeats 8000000 in
set_option maxRecDepth 100000 in
theorem impl_Bits_list.calls (k : Nat) (a0_0 : Int) (A0_1 : Option Addr) (c0_1 : Nat) (l0_1 : List Int) (r : List Int) (w : World) (hr0_1 : Kd.C (Kd.int .u64) w A0_1 l0_1.length l0_1) (hc0_1 : l0_1.length ≤ c0_1) (h : impl_Bits_list.f k a0_0 l0_1 = some r) :
  Calls Try.prog 80 #[.agg #[.int .i64 a0_0, .slice A0_1 l0_1.length c0_1]] w fun e w' => ∃ v0_ : Value, e = .returned (v0_) ∧ Kd.R (Kd.int .i64) 3 w' w.heap.size (fun _ => True) v0_ r ∧ Below w.heap.size w w' := by
 have hu29:=Try.underlying29
 have HR0_1:=mk0 hr0_1
 have HC0_1:=mk0 hc0_1
 clear hr0_1 hc0_1
 have HB:=mk0 (Below.refl w.heap.size w)
 have H:(impl_Bits_list.l0 k ([]:List Int) a0_0 0 a0_0 l0_1) = some r:=h
 clear h
 have H':=mk0 H
 clear H
 go_enter Try.func80,Try.ntmps80
 go_wp2_with (first|((with_reducible refine gate_dst (N:=1) rfl ?_);refine box_event ?hg (N:=1) ?hd (cs:=#[.int .i64 a0_0,.slice A0_1 l0_1.length c0_1]) (t:=29) ?hr ?_;(case hd=>rfl);(case hg=>rfl);(case hr=>first|(go_simp;done)|(go_simp;rfl));intro gb351 hg w2 hbox hb;have BK351:=mk0 (hbox);have GW351:=mk0 ((by rw [hg];exact (kZ HB.out):w.heap.size ≤ gb351));have GE351:=mk0 ((by rw [hg];exact (kZ HB.out):w.heap.size ≤ gb351));replace HB:=mk0 (kS HB.out hb);clear hb hbox hg;obtain⟨hcz3_0,hcz3_1,hfz3_0,hfz3_1⟩:=cz2 BK351.out))
 go_loopg [3,7] k (fun kq v3 v7 w'=>∃ (x3_1:List Int) (x7_1:Int),v7 = .int .i64 x7_1 ∧ Aside0 (impl_Bits_list.l0 kq x3_1 a0_0 x7_1 a0_0 l0_1 = some r) ∧ Aside0 (kq ≤ k) ∧ Aside0 (Kd.R (Kd.int .i64) 3 w' w.heap.size (fun _=>True) v3 x3_1) ∧ Aside0 (w'.heap[gb351]? = some (.cells #[.int .i64 a0_0,(.slice A0_1 l0_1.length c0_1)] 29 (0,0))) ∧ Aside0 (Below w.heap.size w w'))
 case atStart=>exact⟨(([]:List Int)),(0),(by first|rfl|(simp;done)|(simp [*];done)),H',⟨Nat.le_refl _⟩,⟨by first|exact Kd.R_nil _ _ _ _ _|exact Kd.N_nil _ _ _ _ _|exact Kd.V_nil _ _ _ _ _|exact Kd.Q_nil _ _ _ _ _|exact Kd.S_nil _ _ _ _ _⟩,⟨kN BK351.out⟩,⟨kB HB.out⟩⟩
 case round =>
  clear H'
  try clear p2
  try clear hcz3_0
  try clear hcz3_1
  try clear hfz3_0
  try clear hfz3_1
  obtain⟨x3_1,x7_1,rfl,HA,HK1,HO_3,BK351,HB⟩:=hrel
  cases gk with
  | zero=>exact absurd HA.out (by simp [impl_Bits_list.l0])
  | succ k1 =>
   have H:=HA.out
   clear HA
   simp only [impl_Bits_list.l0] at H
   by_cases c4:x7_1 < a0_0
   ·rw [if_pos c4] at H
    have c4b0:decide (x7_1 < a0_0) = true:=decide_eq_true c4
    clear c4
    replace H:=Option.bind_eq_some_iff.mp H
    obtain⟨t352,A50,H⟩:=H
    replace H:(if x3_1.length < 17592186044416 then (impl_Bits_list.l0 k1 (x3_1 ++ [t352]) a0_0 (wrap64 (x7_1 + 1)) a0_0 l0_1) else (none)) = some r:=H
    have A5:=mk0 A50
    clear A50
    by_cases c6:x3_1.length < 17592186044416
    ·rw [if_pos c6] at H
     have LMc6:=mk0 c6
     clear c6
     obtain⟨y353,hy353⟩:∃ y_:List Int,y_ = (x3_1 ++ [t352]):=⟨_,rfl⟩
     replace H:(impl_Bits_list.l0 k1 y353 a0_0 (wrap64 (x7_1 + 1)) a0_0 l0_1) = some r:=by first|(rw [hy353];with_reducible exact H)|(have H2_:=(Option.bind_some _ _).symm.trans H;rw [hy353];with_reducible exact H2_)|(have H2_:=(Option.bind_some _ _).symm.trans H;with_reducible exact H2_)|with_reducible exact H|(rw [hy353];exact H)|exact H
     have Ny353:=mk0 hy353
     clear hy353
     have H':=mk0 H
     clear H
     obtain⟨hcz7_0,hcz7_1,hfz7_0,hfz7_1⟩:=cz2 BK351.out
     go_wp2_with (first|((with_reducible refine gate_callee (f:=84) rfl ?_);refine goesL_ (some 13) rfl rfl Try.func84 (by kernel_rfl) rfl #[.agg #[.int .i64 a0_0,.slice A0_1 l0_1.length c0_1],.int .i64 x7_1] rfl (by (try simp only [mA,mC,mN]);first|done|rfl|(simp only [List.length_drop,List.length_take];done)|(simp only [List.length_drop,List.length_take];rfl)) ?_;(with_reducible refine (impl_Bits_at.calls a0_0 _ _ l0_1 x7_1 t352 _ ?side1 ?side2 A5.out).mono ?_);(case side1=>exact kC (Kd.C_below HR0_1.out HB.out));(case side2=>exact HC0_1.out);rintro e w8 ⟨rfl,hb⟩;refine⟨_,rfl,?_⟩;replace HO_3:=mk0 (bR HO_3.out hb);replace BK351:=mk0 (kK BK351.out hb);replace HB:=mk0 (kS HB.out hb);(try clear hb))|((with_reducible refine gate_builtin (b:=.append) (xs:=#[.tmp 10,.tmp 14]) rfl ?_);at_builtin;refine Kd.R_append (Kd.int .i64) (w0:=w) w.heap.size rfl (.tmp 10) (.tmp 14) 24 3 (.int .i64 0) 8 rfl Try.underlying24 info3 rfl (by decide) (by omega) u3 x3_1 t352 [.int .i64 t352] (fun _=>True) (fun _=>False) rfl rfl ?aP (fun _ hk=>hk.elim) ?aF ?aO ?aB ?aS ?aL ?_;(case aP=>exact rfl);(case aB=>exact (kB HB.out));(case aF=>exact (fun _ _=>trivial));(case aO=>exact (rR HO_3.out));(case aS=>exact (kZ HB.out));(case aL=>have:=LMc6.out;omega);intro v354 w9 ho hb hg hat;rw [← Ny353.out] at ho;replace BK351:=mk0 (blk_grown (kN BK351.out) hg (Kd.R_ne HO_3.out BK351.out (by decide)));replace HB:=mk0 (hb);have HO355:=mk0 (ho);clear HO_3 ho hb hg hat))
     go_roundg k1
     case measure=>have:=HK1.out;omega
     case rel=>exact⟨(y353),(wrap64 (x7_1 + 1)),(by first|rfl|(simp;done)|(simp [*];done)),H',⟨by have:=HK1.out;omega⟩,⟨rR HO355.out⟩,⟨kN BK351.out⟩,⟨kB HB.out⟩⟩
    ·rw [if_neg c6] at H
     exact absurd H (by simp)
   ·rw [if_neg c4] at H
    have c4b0:decide (x7_1 < a0_0) = false:=decide_eq_false c4
    clear c4
    obtain rfl:=Option.some.inj H
    go_wp2
    go_ret
    exact⟨_,by first|rfl|(simp [errW_none,errW_some] <;> rfl)|(simp [*,errW_none,errW_some] <;> rfl),rR HO_3.out,kB HB.out⟩

/-! ### impl_BitsList: function 61 -/
def impl_BitsList.f (k : Nat) (a0_0 : Int) (l0_1 : List Int) : Option (List Int) := (impl_BitsOk.f a0_0 l0_1).bind fun t357 => (if t357 = true then ((impl_Bits_list.f k a0_0 l0_1).bind fun t358 => (some t358)) else (some ([] : List Int)))
theorem impl_BitsList.mono : ∀ a0 a1 k, LeO (impl_BitsList.f k a0 a1) (impl_BitsList.f (k + 1) a0 a1) := by
 intro a0 a1 k
 unfold impl_BitsList.f
 repeat' first|(with_reducible first|exact impl_Bits_list.mono _ _ _|exact LeO.refl _|exact LeO.none _|refine LeO.ite ?_ ?_|refine LeO.bind ?_ (fun _ => ?_))|exact LeO.none _|refine LeO.ite ?_ ?_|refine LeO.bind ?_ (fun _ => ?_)
set_option maxHeartbeats 8000000 in
set_option maxRecDepth 100000 in
theorem impl_BitsList.calls (k : Nat) (a0_0 : Int) (A0_1 : Option Addr) (c0_1 : Nat) (l0_1 : List Int) (r : List Int) (w : World) (hr0_1 : Kd.C (Kd.int .u64) w A0_1 l0_1.length l0_1) (hc0_1 : l0_1.length ≤ c0_1) (h : impl_BitsList.f k a0_0 l0_1 = some r) :
  Calls Try.prog 61 #[.agg #[.int .i64 a0_0, .slice A0_1 l0_1.length c0_1]] w fun e w' => ∃ v0_ : Value, e = .returned (v0_) ∧ Kd.R (Kd.int .i64) 3 w' w.heap.size (fun _ => True) v0_ r ∧ Below w.heap.size w w' := by
 have hu29:=Try.underlying29
 have HR0_1:=mk0 hr0_1
 have HC0_1:=mk0 hc0_1
 clear hr0_1 hc0_1
 have HB:=mk0 (Below.refl w.heap.size w)
 have H:((impl_BitsOk.f a0_0 l0_1).bind fun t357=>(if t357 = true then ((impl_Bits_list.f k a0_0 l0_1).bind fun t358=>(some t358)) else (some ([]:List Int)))) = some r:=h
 clear h
 replace H:=Option.bind_eq_some_iff.mp H
 obtain⟨t357,A20,H⟩:=H
 replace H:(if t357 = true then ((impl_Bits_list.f k a0_0 l0_1).bind fun t358=>(some t358)) else (some ([]:List Int))) = some r:=H
 have A2:=mk0 A20
 clear A20
 by_cases c3:t357 = true
 ·subst c3
  have H1:((impl_Bits_list.f k a0_0 l0_1).bind fun t358=>(some t358)) = some r:=by rw [if_pos rfl] at H;exact H
  clear H
  have H:=H1
  clear H1
  replace H:=Option.bind_eq_some_iff.mp H
  obtain⟨t358,A40,H⟩:=H
  replace H:(some t358) = some r:=H
  have A4:=mk0 A40
  clear A40
  obtain rfl:=Option.some.inj H
  go_enter Try.func61,Try.ntmps61
  go_wp2_with (first|((with_reducible refine gate_dst (N:=1) rfl ?_);refine box_event ?hg (N:=1) ?hd (cs:=#[.int .i64 a0_0,.slice A0_1 l0_1.length c0_1]) (t:=29) ?hr ?_;(case hd=>rfl);(case hg=>rfl);(case hr=>first|(go_simp;done)|(go_simp;rfl));intro gb356 hg w5 hbox hb;have BK356:=mk0 (hbox);have GW356:=mk0 ((by rw [hg];exact (kZ HB.out):w.heap.size ≤ gb356));have GE356:=mk0 ((by rw [hg];exact (kZ HB.out):w.heap.size ≤ gb356));replace HB:=mk0 (kS HB.out hb);clear hb hbox hg;obtain⟨hcz6_0,hcz6_1,hfz6_0,hfz6_1⟩:=cz2 BK356.out)|((with_reducible refine gate_callee (f:=79) rfl ?_);refine goesL_ (some 4) rfl rfl Try.func79 (by kernel_rfl) rfl #[.agg #[.int .i64 a0_0,.slice A0_1 l0_1.length c0_1]] rfl (by (try simp only [mA,mC,mN]);first|done|rfl|(simp only [List.length_drop,List.length_take];done)|(simp only [List.length_drop,List.length_take];rfl)) ?_;(with_reducible refine (impl_BitsOk.calls a0_0 _ _ l0_1 true _ ?side1 ?side2 A2.out).mono ?_);(case side1=>exact kC (Kd.C_below HR0_1.out HB.out));(case side2=>exact HC0_1.out);rintro e w7 ⟨rfl,hb⟩;refine⟨_,rfl,?_⟩;replace BK356:=mk0 (kK BK356.out hb);replace HB:=mk0 (kS HB.out hb);(try clear hb);obtain⟨hcz8_0,hcz8_1,hfz8_0,hfz8_1⟩:=cz2 BK356.out)|((with_reducible refine gate_callee (f:=80) rfl ?_);refine goesL_ (some 7) rfl rfl Try.func80 (by kernel_rfl) rfl #[.agg #[.int .i64 a0_0,.slice A0_1 l0_1.length c0_1]] rfl (by (try simp only [mA,mC,mN]);first|done|rfl|(simp only [List.length_drop,List.length_take];done)|(simp only [List.length_drop,List.length_take];rfl)) ?_;(with_reducible refine (impl_Bits_list.calls k a0_0 _ _ l0_1 t358 _ ?side1 ?side2 A4.out).mono ?_);(case side1=>exact kC (Kd.C_below HR0_1.out HB.out));(case side2=>exact HC0_1.out);rintro e w9 ⟨v359,rfl,ho0,hb⟩;refine⟨_,rfl,?_⟩;have HO360:=mk0 (Kd.R_lower ho0 (kZ HB.out));replace BK356:=mk0 (kK BK356.out hb);replace HB:=mk0 (kS HB.out hb);(try clear hb);(try clear ho0)))
  go_ret
  exact⟨_,by first|rfl|(simp [errW_none,errW_some] <;> rfl)|(simp [*,errW_none,errW_some] <;> rfl),rR HO360.out,kB HB.out⟩
 ·replace c3:=Bool.eq_false_iff.mpr c3
  subst c3
  have H1:(some ([]:List Int)) = some r:=by rw [if_neg (show ¬ (false = true) by decide)] at H;exact H
  clear H
  have H:=H1
  clear H1
  obtain rfl:=Option.some.inj H
  go_enter Try.func61,Try.ntmps61
  go_wp2_with (first|((with_reducible refine gate_dst (N:=1) rfl ?_);refine box_event ?hg (N:=1) ?hd (cs:=#[.int .i64 a0_0,.slice A0_1 l0_1.length c0_1]) (t:=29) ?hr ?_;(case hd=>rfl);(case hg=>rfl);(case hr=>first|(go_simp;done)|(go_simp;rfl));intro gb356 hg w10 hbox hb;have BK356:=mk0 (hbox);have GW356:=mk0 ((by rw [hg];exact (kZ HB.out):w.heap.size ≤ gb356));have GE356:=mk0 ((by rw [hg];exact (kZ HB.out):w.heap.size ≤ gb356));replace HB:=mk0 (kS HB.out hb);clear hb hbox hg;obtain⟨hcz11_0,hcz11_1,hfz11_0,hfz11_1⟩:=cz2 BK356.out)|((with_reducible refine gate_callee (f:=79) rfl ?_);refine goesL_ (some 4) rfl rfl Try.func79 (by kernel_rfl) rfl #[.agg #[.int .i64 a0_0,.slice A0_1 l0_1.length c0_1]] rfl (by (try simp only [mA,mC,mN]);first|done|rfl|(simp only [List.length_drop,List.length_take];done)|(simp only [List.length_drop,List.length_take];rfl)) ?_;(with_reducible refine (impl_BitsOk.calls a0_0 _ _ l0_1 false _ ?side1 ?side2 A2.out).mono ?_);(case side1=>exact kC (Kd.C_below HR0_1.out HB.out));(case side2=>exact HC0_1.out);rintro e w12 ⟨rfl,hb⟩;refine⟨_,rfl,?_⟩;replace BK356:=mk0 (kK BK356.out hb);replace HB:=mk0 (kS HB.out hb);(try clear hb)))
  go_ret
  exact⟨_,by first|rfl|(simp [errW_none,errW_some] <;> rfl)|(simp [*,errW_none,errW_some] <;> rfl),by first|exact Kd.R_nil _ _ _ _ _|exact Kd.N_nil _ _ _ _ _|exact Kd.V_nil _ _ _ _ _|exact Kd.Q_nil _ _ _ _ _|exact Kd.S_nil _ _ _ _ _,kB HB.out⟩

/-! ### slices_Equal_uint64_uint64: function 81 -/
def slices_Equal_uint64_uint64.l0 : Nat → List Int → List Int → Int → Int → Option (Bool)
 | 0, _, _, _, _ => none
 | k + 1, x0, x1, x12, x13 => if x13 < x12 then (if 0 ≤ x13 then (if x13 < (x0.length : Int) then (if x13 < (x1.length : Int) then (if (rd x0 x13) = (rd x1 x13) then (slices_Equal_uint64_uint64.l0 k x0 x1 x12 (wrap64 (x13 + 1))) else (some false)) else (none)) else (none)) else (none)) else (some true)
def slices_Equal_uint64_uint64.f (k : Nat) (l0 : List Int) (l1 : List Int) : Option (Bool) := if (l0.length : Int) = (l1.length : Int) then (slices_Equal_uint64_uint64.l0 k l0 l1 (l0.length : Int) 0) else (some false)
theorem slices_Equal_uint64_uint64.mono_l : ∀ k, (∀ y0 y1 y2 y3, LeO (slices_Equal_uint64_uint64.l0 k y0 y1 y2 y3) (slices_Equal_uint64_uint64.l0 (k + 1) y0 y1 y2 y3))
 | 0 => fun _ _ _ _ r h => by simp [slices_Equal_uint64_uint64.l0] at h
 | k + 1 => by
  have ih0 := slices_Equal_uint64_uint64.mono_l k
  ·intro y0 y1 y2 y3
   unfold slices_Equal_uint64_uint64.l0
   repeat' first|(with_reducible first|exact ih0 _ _ _ _|exact LeO.refl _|exact LeO.none _|refine LeO.ite ?_ ?_|refine LeO.bind ?_ (fun _ => ?_))|exact LeO.none _|refine LeO.ite ?_ ?_|refine LeO.bind ?_ (fun _ => ?_)
theorem slices_Equal_uint64_uint64.mono : ∀ a0 a1 k, LeO (slices_Equal_uint64_uint64.f k a0 a1) (slices_Equal_uint64_uint64.f (k + 1) a0 a1) := by
 intro a0 a1 k
 have ih0 := slices_Equal_uint64_uint64.mono_l k
 unfold slices_Equal_uint64_uint64.f
 repeat' first|(with_reducible first|exact ih0 _ _ _ _|exact LeO.refl _|exact LeO.none _|refine LeO.ite ?_ ?_|refine LeO.bind ?_ (fun _ => ?_))|exact LeO.none _|refine LeO.ite ?_ ?_|refine LeO.bind ?_ (fun _ => ?_)
set_option maxHeartbeats 8000000 in
set_option maxRecDepth 100000 in
theorem slices_Equal_uint64_uint64.calls (k : Nat) (A0 : Option Addr) (c0 : Nat) (l0 : List Int) (A1 : Option Addr) (c1 : Nat) (l1 : List Int) (r : Bool) (w : World) (hr0 : Kd.C (Kd.int .u64) w A0 l0.length l0) (hc0 : l0.length ≤ c0) (hr1 : Kd.C (Kd.int .u64) w A1 l1.length l1) (hc1 : l1.length ≤ c1) (h : slices_Equal_uint64_uint64.f k l0 l1 = some r) :
  Calls Try.prog 81 #[.slice A0 l0.length c0, .slice A1 l1.length c1] w fun e w' => e = .returned (.bool r) ∧ Drawn0 w w' := by
 have HR0:=mk0 hr0
 have HC0:=mk0 hc0
 clear hr0 hc0
 have HR1:=mk0 hr1
 have HC1:=mk0 hc1
 clear hr1 hc1
 have H:(if (l0.length:Int) = (l1.length:Int) then (slices_Equal_uint64_uint64.l0 k l0 l1 (l0.length:Int) 0) else (some false)) = some r:=h
 clear h
 by_cases c3:(l0.length:Int) = (l1.length:Int)
 ·rw [if_pos c3] at H
  have c3b0:((l0.length:Int) == (l1.length:Int)) = true:=beq_iff_eq.mpr c3
  have c3b1:((l0.length:Int) != (l1.length:Int)) = false:=bne_eq_false_iff_eq.mpr c3
  have c3b2:(l0.length == l1.length) = true:=by first|simpa using c3|(simp at c3 ⊢;omega)
  clear c3
  have H':=mk0 H
  clear H
  go_enter Try.func81,Try.ntmps81
  go_wp2
  repeat (go_quiet (fail);try go_wp2)
  go_loopg [13] k (fun kq v13 w'=>∃ (x13_1:Int),v13 = .int .i64 x13_1 ∧ Aside0 (slices_Equal_uint64_uint64.l0 kq l0 l1 (l0.length:Int) x13_1 = some r) ∧ Aside0 (kq ≤ k) ∧ Drawn0 w w')
  case atStart=>exact⟨(0),(by first|rfl|(simp;done)|(simp [*];done)),H',⟨Nat.le_refl _⟩,by repeat (first|exact Drawn0.refl _|apply Drawn0.step)⟩
  case round =>
   clear H'
   try clear c1
   try clear p2
   try clear c3
   try clear c3b0
   try clear c3b1
   try clear c3b2
   obtain⟨x13_1,rfl,HA,HK1,⟨m1,rfl⟩⟩:=hrel
   cases gk with
   | zero=>exact absurd HA.out (by simp [slices_Equal_uint64_uint64.l0])
   | succ k1 =>
    have H:=HA.out
    clear HA
    simp only [slices_Equal_uint64_uint64.l0] at H
    by_cases c4:x13_1 < (l0.length:Int)
    ·rw [if_pos c4] at H
     have c4b0:decide (x13_1 < (l0.length:Int)) = true:=decide_eq_true c4
     clear c4
     by_cases c5:0 ≤ x13_1
     ·rw [if_pos c5] at H
      have c5b0:decide (0 ≤ x13_1) = true:=decide_eq_true c5
      clear c5
      by_cases c6:x13_1 < (l0.length:Int)
      ·rw [if_pos c6] at H
       have c6b0:decide (x13_1 < (l0.length:Int)) = true:=decide_eq_true c6
       clear c6
       by_cases c7:x13_1 < (l1.length:Int)
       ·rw [if_pos c7] at H
        have c7b0:decide (x13_1 < (l1.length:Int)) = true:=decide_eq_true c7
        clear c7
        by_cases c8:(rd l0 x13_1) = (rd l1 x13_1)
        ·rw [if_pos c8] at H
         have c8b0:((rd l0 x13_1) == (rd l1 x13_1)) = true:=beq_iff_eq.mpr c8
         have c8b1:((rd l0 x13_1) != (rd l1 x13_1)) = false:=bne_eq_false_iff_eq.mpr c8
         clear c8
         have H':=mk0 H
         clear H
         have p361:0 ≤ (x13_1:Int):=of_decide_eq_true (by first|(with_reducible assumption)|assumption)
         have q361:x13_1 < (l0.length:Int):=of_decide_eq_true (by first|(with_reducible assumption)|assumption)
         obtain⟨ad361,e361,hx361_0⟩:=Kd.at_int HR0.out x13_1 p361 q361
         cases e361
         replace p361:=eq_true p361
         replace q361:=eq_true q361
         have p362:0 ≤ (x13_1:Int):=of_decide_eq_true (by first|(with_reducible assumption)|assumption)
         have q362:x13_1 < (l1.length:Int):=of_decide_eq_true (by first|(with_reducible assumption)|assumption)
         obtain⟨ad362,e362,hx362_0⟩:=Kd.at_int HR1.out x13_1 p362 q362
         cases e362
         replace p362:=eq_true p362
         replace q362:=eq_true q362
         go_wp2
         repeat (go_quiet (fail);try go_wp2)
         go_roundg k1
         case measure=>have:=HK1.out;omega
         case rel=>exact⟨(wrap64 (x13_1 + 1)),(by first|rfl|(simp;done)|(simp [*];done)),H',⟨by have:=HK1.out;omega⟩,by repeat (first|exact Drawn0.refl _|apply Drawn0.step)⟩
        ·rw [if_neg c8] at H
         have c8b0:((rd l0 x13_1) == (rd l1 x13_1)) = false:=beq_eq_false_iff_ne.mpr c8
         have c8b1:((rd l0 x13_1) != (rd l1 x13_1)) = true:=bne_iff_ne.mpr c8
         obtain rfl:=Option.some.inj H
         have p361:0 ≤ (x13_1:Int):=of_decide_eq_true (by first|(with_reducible assumption)|assumption)
         have q361:x13_1 < (l0.length:Int):=of_decide_eq_true (by first|(with_reducible assumption)|assumption)
         obtain⟨ad361,e361,hx361_0⟩:=Kd.at_int HR0.out x13_1 p361 q361
         cases e361
         replace p361:=eq_true p361
         replace q361:=eq_true q361
         have p362:0 ≤ (x13_1:Int):=of_decide_eq_true (by first|(with_reducible assumption)|assumption)
         have q362:x13_1 < (l1.length:Int):=of_decide_eq_true (by first|(with_reducible assumption)|assumption)
         obtain⟨ad362,e362,hx362_0⟩:=Kd.at_int HR1.out x13_1 p362 q362
         cases e362
         replace p362:=eq_true p362
         replace q362:=eq_true q362
         go_wp2
         repeat (go_quiet (fail);try go_wp2)
         go_ret
         exact⟨by first|rfl|(simp;done)|(simp [*];done),by repeat (first|exact Drawn0.refl _|apply Drawn0.step)⟩
       ·rw [if_neg c7] at H
        exact absurd H (by simp)
      ·rw [if_neg c6] at H
       exact absurd H (by simp)
     ·rw [if_neg c5] at H
      exact absurd H (by simp)
    ·rw [if_neg c4] at H
     have c4b0:decide (x13_1 < (l0.length:Int)) = false:=decide_eq_false c4
     clear c4
     obtain rfl:=Option.some.inj H
     go_wp2
     repeat (go_quiet (fail);try go_wp2)
     go_ret
     exact⟨by first|rfl|(simp;done)|(simp [*];done),by repeat (first|exact Drawn0.refl _|apply Drawn0.step)⟩
 ·rw [if_neg c3] at H
  have c3b0:((l0.length:Int) == (l1.length:Int)) = false:=beq_eq_false_iff_ne.mpr c3
  have c3b1:((l0.length:Int) != (l1.length:Int)) = true:=bne_iff_ne.mpr c3
  have c3b2:(l0.length == l1.length) = false:=by first|simpa using c3|(simp at c3 ⊢;omega)
  obtain rfl:=Option.some.inj H
  go_enter Try.func81,Try.ntmps81
  go_wp2
  repeat (go_quiet (fail);try go_wp2)
  go_ret
  exact⟨by first|rfl|(simp;done)|(simp [*];done),by repeat (first|exact Drawn0.refl _|apply Drawn0.step)⟩

/-! ### impl_sameBits: function 63 -/
def impl_sameBits.f (k : Nat) (a0_0 : Int) (l0_1 : List Int) (a1_0 : Int) (l1_1 : List Int) : Option (Bool) := if a0_0 = a1_0 then ((slices_Equal_uint64_uint64.f k l0_1 l1_1).bind fun t365 => (some t365)) else (some false)
theorem impl_sameBits.mono : ∀ a0 a1 a2 a3 k, LeO (impl_sameBits.f k a0 a1 a2 a3) (impl_sameBits.f (k + 1) a0 a1 a2 a3) := by
 intro a0 a1 a2 a3 k
 unfold impl_sameBits.f
 repeat' first|(with_reducible first|exact slices_Equal_uint64_uint64.mono _ _ _|exact LeO.refl _|exact LeO.none _|refine LeO.ite ?_ ?_|refine LeO.bind ?_ (fun _ => ?_))|exact LeO.none _|refine LeO.ite ?_ ?_|refine LeO.bind ?_ (fun _ => ?_)
set_option maxHeartbeats 8000000 in
set_option maxRecDepth 100000 in
theorem impl_sameBits.calls (k : Nat) (a0_0 : Int) (A0_1 : Option Addr) (c0_1 : Nat) (l0_1 : List Int) (a1_0 : Int) (A1_1 : Option Addr) (c1_1 : Nat) (l1_1 : List Int) (r : Bool) (w : World) (hr0_1 : Kd.C (Kd.int .u64) w A0_1 l0_1.length l0_1) (hc0_1 : l0_1.length ≤ c0_1) (hr1_1 : Kd.C (Kd.int .u64) w A1_1 l1_1.length l1_1) (hc1_1 : l1_1.length ≤ c1_1) (h : impl_sameBits.f k a0_0 l0_1 a1_0 l1_1 = some r) :
  Calls Try.prog 63 #[.agg #[.int .i64 a0_0, .slice A0_1 l0_1.length c0_1], .agg #[.int .i64 a1_0, .slice A1_1 l1_1.length c1_1]] w fun e w' => e = .returned (.bool r) ∧ Below w.heap.size w w' := by
 have hu29:=Try.underlying29
 have HR0_1:=mk0 hr0_1
 have HC0_1:=mk0 hc0_1
 clear hr0_1 hc0_1
 have HR1_1:=mk0 hr1_1
 have HC1_1:=mk0 hc1_1
 clear hr1_1 hc1_1
 have HB:=mk0 (Below.refl w.heap.size w)
 have H:(if a0_0 = a1_0 then ((slices_Equal_uint64_uint64.f k l0_1 l1_1).bind fun t365=>(some t365)) else (some false)) = some r:=h
 clear h
 by_cases c3:a0_0 = a1_0
 ·rw [if_pos c3] at H
  have c3b0:(a0_0 == a1_0) = true:=beq_iff_eq.mpr c3
  have c3b1:(a0_0 != a1_0) = false:=bne_eq_false_iff_eq.mpr c3
  clear c3
  replace H:=Option.bind_eq_some_iff.mp H
  obtain⟨t365,A40,H⟩:=H
  replace H:(some t365) = some r:=H
  have A4:=mk0 A40
  clear A40
  obtain rfl:=Option.some.inj H
  go_enter Try.func63,Try.ntmps63
  go_wp2_with (first|((with_reducible refine gate_dst (N:=2) rfl ?_);refine box_event ?hg (N:=2) ?hd (cs:=#[.int .i64 a0_0,.slice A0_1 l0_1.length c0_1]) (t:=29) ?hr ?_;(case hd=>rfl);(case hg=>rfl);(case hr=>first|(go_simp;done)|(go_simp;rfl));intro gb363 hg w5 hbox hb;have BK363:=mk0 (hbox);have GW363:=mk0 ((by rw [hg];exact (kZ HB.out):w.heap.size ≤ gb363));have GE363:=mk0 ((by rw [hg];exact (kZ HB.out):w.heap.size ≤ gb363));replace HB:=mk0 (kS HB.out hb);clear hb hbox hg)|((with_reducible refine gate_dst (N:=3) rfl ?_);refine box_event ?hg (N:=3) ?hd (cs:=#[.int .i64 a1_0,.slice A1_1 l1_1.length c1_1]) (t:=29) ?hr ?_;(case hd=>rfl);(case hg=>rfl);(case hr=>first|(go_simp;done)|(go_simp;rfl));intro gb364 hg w6 hbox hb;have BK364:=mk0 (hbox);have GW364:=mk0 ((by rw [hg];exact (kZ HB.out):w.heap.size ≤ gb364));have GE364:=mk0 ((by rw [hg];exact (kZ HB.out):w.heap.size ≤ gb364));replace HB:=mk0 (kS HB.out hb);have NB363_364:=mk0 ((by rw [hg];exact Nat.ne_of_lt (kL BK363.out):gb363 ≠ gb364));have NB364_363:=mk0 ((by rw [hg];exact Nat.ne_of_gt (kL BK363.out):gb364 ≠ gb363));replace BK363:=mk0 (kK BK363.out hb);clear hb hbox hg;have hnb7:=NB363_364.out;have hnc7:=NB364_363.out;obtain⟨hcz8_0,hcz8_1,hfz8_0,hfz8_1⟩:=cz2 BK363.out;obtain⟨hcz9_0,hcz9_1,hfz9_0,hfz9_1⟩:=cz2 BK364.out)|(go_at_call 81;(with_reducible refine (slices_Equal_uint64_uint64.calls k _ _ l0_1 _ _ l1_1 t365 _ ?side1 ?side2 ?side3 ?side4 A4.out).mono ?_);(case side1=>exact kC (Kd.C_below HR0_1.out HB.out));(case side2=>exact HC0_1.out);(case side3=>exact kC (Kd.C_below HR1_1.out HB.out));(case side4=>exact HC1_1.out);rintro e w' ⟨rfl,⟨nd,rfl⟩⟩))
  go_ret
  exact⟨by first|rfl|(simp [errW_none,errW_some] <;> rfl)|(simp [*,errW_none,errW_some] <;> rfl),kB HB.out⟩
 ·rw [if_neg c3] at H
  have c3b0:(a0_0 == a1_0) = false:=beq_eq_false_iff_ne.mpr c3
  have c3b1:(a0_0 != a1_0) = true:=bne_iff_ne.mpr c3
  obtain rfl:=Option.some.inj H
  go_enter Try.func63,Try.ntmps63
  go_wp2_with (first|((with_reducible refine gate_dst (N:=2) rfl ?_);refine box_event ?hg (N:=2) ?hd (cs:=#[.int .i64 a0_0,.slice A0_1 l0_1.length c0_1]) (t:=29) ?hr ?_;(case hd=>rfl);(case hg=>rfl);(case hr=>first|(go_simp;done)|(go_simp;rfl));intro gb363 hg w10 hbox hb;have BK363:=mk0 (hbox);have GW363:=mk0 ((by rw [hg];exact (kZ HB.out):w.heap.size ≤ gb363));have GE363:=mk0 ((by rw [hg];exact (kZ HB.out):w.heap.size ≤ gb363));replace HB:=mk0 (kS HB.out hb);clear hb hbox hg)|((with_reducible refine gate_dst (N:=3) rfl ?_);refine box_event ?hg (N:=3) ?hd (cs:=#[.int .i64 a1_0,.slice A1_1 l1_1.length c1_1]) (t:=29) ?hr ?_;(case hd=>rfl);(case hg=>rfl);(case hr=>first|(go_simp;done)|(go_simp;rfl));intro gb364 hg w11 hbox hb;have BK364:=mk0 (hbox);have GW364:=mk0 ((by rw [hg];exact (kZ HB.out):w.heap.size ≤ gb364));have GE364:=mk0 ((by rw [hg];exact (kZ HB.out):w.heap.size ≤ gb364));replace HB:=mk0 (kS HB.out hb);have NB363_364:=mk0 ((by rw [hg];exact Nat.ne_of_lt (kL BK363.out):gb363 ≠ gb364));have NB364_363:=mk0 ((by rw [hg];exact Nat.ne_of_gt (kL BK363.out):gb364 ≠ gb363));replace BK363:=mk0 (kK BK363.out hb);clear hb hbox hg;have hnb12:=NB363_364.out;have hnc12:=NB364_363.out;obtain⟨hcz13_0,hcz13_1,hfz13_0,hfz13_1⟩:=cz2 BK363.out;obtain⟨hcz14_0,hcz14_1,hfz14_0,hfz14_1⟩:=cz2 BK364.out))
  go_ret
  exact⟨by first|rfl|(simp [errW_none,errW_some] <;> rfl)|(simp [*,errW_none,errW_some] <;> rfl),kB HB.out⟩

end Go.Proofs.Ytmohfjfgpeapfaa.QFnSparse
