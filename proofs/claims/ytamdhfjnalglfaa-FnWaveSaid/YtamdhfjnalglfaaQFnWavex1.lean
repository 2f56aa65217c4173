-- A walk, made by walk.py, a program of this session's.
import Derived.Test.YtamdhfjnalglfaaQFnWavex0
namespace Go.Proofs.Ytamdhfjnalglfaa.QFnWave
open Go.RowKit Go.Proofs.YtamdhfjnalglfaaW.PrintWords Go.Proofs.YtamdhfjnalglfaaW.PrintLast Go.Proofs.YtamdhfjnalglfaaW.PrintMore
attribute [local go_sem] max2_int min2_int max_two min_two max_three min_three max_four min_four   -- for this text's walks alone
set_option linter.unusedVariables false
set_option linter.unusedSimpArgs false

/-! ### impl_within: function 41 -/
def impl_within.f (a0 : Int) (a1 : Int) (a2 : Int) : Option (Bool) := if a1 ≤ a0 then (some (decide (a0 ≤ a2))) else (some false)
set_option maxHeartbeats 8000000 in
set_option maxRecDepth 100000 in
theorem impl_within.calls (a0 : Int) (a1 : Int) (a2 : Int) (r : Bool) (w : World) (h : impl_within.f a0 a1 a2 = some r) :
  Calls Try.prog 41 #[.int .i64 a0, .int .i64 a1, .int .i64 a2] w fun e w' => e = .returned (.bool r) ∧ Drawn0 w w' := by
 have H:(if a1 ≤ a0 then (some (decide (a0 ≤ a2))) else (some false)) = some r:=h
 clear h
 by_cases c4:a1 ≤ a0
 ·rw [if_pos c4] at H
  have c4b0:decide (a1 ≤ a0) = true:=decide_eq_true c4
  clear c4
  obtain rfl:=Option.some.inj H
  go_enter Try.func41,Try.ntmps41
  go_wp2
  go_ret
  exact⟨by first|rfl|(simp;done)|(simp [*];done),by repeat (first|exact Drawn0.refl _|apply Drawn0.step)⟩
 ·rw [if_neg c4] at H
  have c4b0:decide (a1 ≤ a0) = false:=decide_eq_false c4
  clear c4
  obtain rfl:=Option.some.inj H
  go_enter Try.func41,Try.ntmps41
  go_wp2
  go_ret
  exact⟨by first|rfl|(simp;done)|(simp [*];done),by repeat (first|exact Drawn0.refl _|apply Drawn0.step)⟩

/-! ### impl_count: function 54 -/
def impl_count.l0 : Nat → Int → Int → List Int → Int → Int → Option (Int)
 | 0, _, _, _, _, _ => none
 | k + 1, x1, x5, x8, x9, x10 => if x10 < x9 then (if 0 ≤ x10 then (if x10 < (x8.length : Int) then (if (rd x8 x10) = x1 then (impl_count.l0 k x1 (wrap64 (x5 + 1)) x8 x9 (wrap64 (x10 + 1))) else (impl_count.l0 k x1 x5 x8 x9 (wrap64 (x10 + 1)))) else (none)) else (none)) else (some x5)
def impl_count.f (k : Nat) (l0 : List Int) (a1 : Int) : Option (Int) := impl_count.l0 k a1 0 l0 (l0.length : Int) 0
theorem impl_count.mono_l : ∀ k, (∀ y0 y1 y2 y3 y4, LeO (impl_count.l0 k y0 y1 y2 y3 y4) (impl_count.l0 (k + 1) y0 y1 y2 y3 y4))
 | 0 => fun _ _ _ _ _ r h => by simp [impl_count.l0] at h
 | k + 1 => by
  have ih0 := impl_count.mono_l k
  ·intro y0 y1 y2 y3 y4
   unfold impl_count.l0
   repeat' first|(with_reducible first|exact ih0 _ _ _ _ _|exact LeO.refl _|exact LeO.none _|refine LeO.ite ?_ ?_|refine LeO.bind ?_ (fun _ => ?_))|exact LeO.none _|refine LeO.ite ?_ ?_|refine LeO.bind ?_ (fun _ => ?_)
theorem impl_count.mono : ∀ a0 a1 k, LeO (impl_count.f k a0 a1) (impl_count.f (k + 1) a0 a1) := by
 intro a0 a1 k
 have ih0 := impl_count.mono_l k
 unfold impl_count.f
 repeat' first|(with_reducible first|exact ih0 _ _ _ _ _|exact LeO.refl _|exact LeO.none _|refine LeO.ite ?_ ?_|refine LeO.bind ?_ (fun _ => ?_))|exact LeO.none _|refine LeO.ite ?_ ?_|refine LeO.bind ?_ (fun _ => ?_)
set_option maxHeartbeats 8000000 in
set_option maxRecDepth 100000 in
theorem impl_count.calls (k : Nat) (A0 : Option Addr) (c0 : Nat) (l0 : List Int) (a1 : Int) (r : Int) (w : World) (hr0 : Kd.C (Kd.int .i64) w A0 l0.length l0) (hc0 : l0.length ≤ c0) (h : impl_count.f k l0 a1 = some r) :
  Calls Try.prog 54 #[.slice A0 l0.length c0, .int .i64 a1] w fun e w' => e = .returned (.int .i64 r) ∧ Drawn0 w w' := by
 have HR0:=mk0 hr0
 have HC0:=mk0 hc0
 clear hr0 hc0
 have H:(impl_count.l0 k a1 0 l0 (l0.length:Int) 0) = some r:=h
 clear h
 have H':=mk0 H
 clear H
 go_enter Try.func54,Try.ntmps54
 go_wp2
 go_loopg [5,10] k (fun kq v5 v10 w'=>∃ (x5_1:Int) (x10_1:Int),v5 = .int .i64 x5_1 ∧ v10 = .int .i64 x10_1 ∧ Aside0 (impl_count.l0 kq a1 x5_1 l0 (l0.length:Int) x10_1 = some r) ∧ Aside0 (kq ≤ k) ∧ Drawn0 w w')
 case atStart=>exact⟨(0),(0),(by first|rfl|(simp;done)|(simp [*];done)),(by first|rfl|(simp;done)|(simp [*];done)),H',⟨Nat.le_refl _⟩,by repeat (first|exact Drawn0.refl _|apply Drawn0.step)⟩
 case round =>
  clear H'
  try clear p2
  obtain⟨x5_1,x10_1,rfl,rfl,HA,HK1,⟨m1,rfl⟩⟩:=hrel
  cases gk with
  | zero=>exact absurd HA.out (by simp [impl_count.l0])
  | succ k1 =>
   have H:=HA.out
   clear HA
   simp only [impl_count.l0] at H
   by_cases c3:x10_1 < (l0.length:Int)
   ·rw [if_pos c3] at H
    have c3b0:decide (x10_1 < (l0.length:Int)) = true:=decide_eq_true c3
    clear c3
    by_cases c4:0 ≤ x10_1
    ·rw [if_pos c4] at H
     have c4b0:decide (0 ≤ x10_1) = true:=decide_eq_true c4
     clear c4
     by_cases c5:x10_1 < (l0.length:Int)
     ·rw [if_pos c5] at H
      have c5b0:decide (x10_1 < (l0.length:Int)) = true:=decide_eq_true c5
      clear c5
      by_cases c6:(rd l0 x10_1) = a1
      ·rw [if_pos c6] at H
       have c6b0:((rd l0 x10_1) == a1) = true:=beq_iff_eq.mpr c6
       have c6b1:((rd l0 x10_1) != a1) = false:=bne_eq_false_iff_eq.mpr c6
       clear c6
       have H':=mk0 H
       clear H
       have p101:0 ≤ (x10_1:Int):=of_decide_eq_true (by first|(with_reducible assumption)|assumption)
       have q101:x10_1 < (l0.length:Int):=of_decide_eq_true (by first|(with_reducible assumption)|assumption)
       obtain⟨ad101,e101,hx101_0⟩:=Kd.at_int HR0.out x10_1 p101 q101
       cases e101
       replace p101:=eq_true p101
       replace q101:=eq_true q101
       go_wp2
       go_roundg k1
       case measure=>have:=HK1.out;omega
       case rel=>exact⟨(wrap64 (x5_1 + 1)),(wrap64 (x10_1 + 1)),(by first|rfl|(simp;done)|(simp [*];done)),(by first|rfl|(simp;done)|(simp [*];done)),H',⟨by have:=HK1.out;omega⟩,by repeat (first|exact Drawn0.refl _|apply Drawn0.step)⟩
      ·rw [if_neg c6] at H
       have c6b0:((rd l0 x10_1) == a1) = false:=beq_eq_false_iff_ne.mpr c6
       have c6b1:((rd l0 x10_1) != a1) = true:=bne_iff_ne.mpr c6
       have H':=mk0 H
       clear H
       have p101:0 ≤ (x10_1:Int):=of_decide_eq_true (by first|(with_reducible assumption)|assumption)
       have q101:x10_1 < (l0.length:Int):=of_decide_eq_true (by first|(with_reducible assumption)|assumption)
       obtain⟨ad101,e101,hx101_0⟩:=Kd.at_int HR0.out x10_1 p101 q101
       cases e101
       replace p101:=eq_true p101
       replace q101:=eq_true q101
       go_wp2
       go_roundg k1
       case measure=>have:=HK1.out;omega
       case rel=>exact⟨(x5_1),(wrap64 (x10_1 + 1)),(by first|rfl|(simp;done)|(simp [*];done)),(by first|rfl|(simp;done)|(simp [*];done)),H',⟨by have:=HK1.out;omega⟩,by repeat (first|exact Drawn0.refl _|apply Drawn0.step)⟩
     ·rw [if_neg c5] at H
      exact absurd H (by simp)
    ·rw [if_neg c4] at H
     exact absurd H (by simp)
   ·rw [if_neg c3] at H
    have c3b0:decide (x10_1 < (l0.length:Int)) = false:=decide_eq_false c3
    clear c3
    obtain rfl:=Option.some.inj H
    go_wp2
    go_ret
    exact⟨by first|rfl|(simp;done)|(simp [*];done),by repeat (first|exact Drawn0.refl _|apply Drawn0.step)⟩

/-! ### impl_BitsOk: function 65 -/
def impl_BitsOk.f (a0_0 : Int) (l0_1 : List Int) : Option (Bool) := (impl_within.f a0_0 0 5000).bind fun t103 => (if t103 = true then (if (l0_1.length : Int) = (wrap64 (Int.tdiv (wrap64 ((wrap64 (a0_0 + 64)) - 1)) 64)) then (if (Int.tmod a0_0 64) = 0 then (some true) else (if 0 ≤ (wrap64 ((l0_1.length : Int) - 1)) then (if (wrap64 ((l0_1.length : Int) - 1)) < (l0_1.length : Int) then (if 0 ≤ (Int.tmod a0_0 64) then (some ((shr .u64 (rd l0_1 (wrap64 ((l0_1.length : Int) - 1))) (Int.tmod a0_0 64)) == 0)) else (none)) else (none)) else (none))) else (some false)) else (some false))
set_option maxHeartbeats 8000000 in
set_option maxRecDepth 100000 in
theorem impl_BitsOk.calls (a0_0 : Int) (A0_1 : Option Addr) (c0_1 : Nat) (l0_1 : List Int) (r : Bool) (w : World) (hr0_1 : Kd.C (Kd.int .u64) w A0_1 l0_1.length l0_1) (hc0_1 : l0_1.length ≤ c0_1) (h : impl_BitsOk.f a0_0 l0_1 = some r) :
  Calls Try.prog 65 #[.agg #[.int .i64 a0_0, .slice A0_1 l0_1.length c0_1]] w fun e w' => e = .returned (.bool r) ∧ Below w.heap.size w w' := by
 have hu64:=Try.underlying64
 have HR0_1:=mk0 hr0_1
 have HC0_1:=mk0 hc0_1
 clear hr0_1 hc0_1
 have HB:=mk0 (Below.refl w.heap.size w)
 have H:((impl_within.f a0_0 0 5000).bind fun t103=>(if t103 = true then (if (l0_1.length:Int) = (wrap64 (Int.tdiv (wrap64 ((wrap64 (a0_0 + 64)) - 1)) 64)) then (if (Int.tmod a0_0 64) = 0 then (some true) else (if 0 ≤ (wrap64 ((l0_1.length:Int) - 1)) then (if (wrap64 ((l0_1.length:Int) - 1)) < (l0_1.length:Int) then (if 0 ≤ (Int.tmod a0_0 64) then (some ((shr .u64 (rd l0_1 (wrap64 ((l0_1.length:Int) - 1))) (Int.tmod a0_0 64)) == 0)) else (none)) else (none)) else (none))) else (some false)) else (some false))) = some r:=h
 clear h
 replace H:=Option.bind_eq_some_iff.mp H
 obtain⟨t103,A20,H⟩:=H
 replace H:(if t103 = true then (if (l0_1.length:Int) = (wrap64 (Int.tdiv (wrap64 ((wrap64 (a0_0 + 64)) - 1)) 64)) then (if (Int.tmod a0_0 64) = 0 then (some true) else (if 0 ≤ (wrap64 ((l0_1.length:Int) - 1)) then (if (wrap64 ((l0_1.length:Int) - 1)) < (l0_1.length:Int) then (if 0 ≤ (Int.tmod a0_0 64) then (some ((shr .u64 (rd l0_1 (wrap64 ((l0_1.length:Int) - 1))) (Int.tmod a0_0 64)) == 0)) else (none)) else (none)) else (none))) else (some false)) else (some false)) = some r:=H
 have A2:=mk0 A20
 clear A20
 by_cases c3:t103 = true
 ·subst c3
  have H1:(if (l0_1.length:Int) = (wrap64 (Int.tdiv (wrap64 ((wrap64 (a0_0 + 64)) - 1)) 64)) then (if (Int.tmod a0_0 64) = 0 then (some true) else (if 0 ≤ (wrap64 ((l0_1.length:Int) - 1)) then (if (wrap64 ((l0_1.length:Int) - 1)) < (l0_1.length:Int) then (if 0 ≤ (Int.tmod a0_0 64) then (some ((shr .u64 (rd l0_1 (wrap64 ((l0_1.length:Int) - 1))) (Int.tmod a0_0 64)) == 0)) else (none)) else (none)) else (none))) else (some false)) = some r:=by rw [if_pos rfl] at H;exact H
  clear H
  have H:=H1
  clear H1
  by_cases c4:(l0_1.length:Int) = (wrap64 (Int.tdiv (wrap64 ((wrap64 (a0_0 + 64)) - 1)) 64))
  ·rw [if_pos c4] at H
   have c4b0:((l0_1.length:Int) == (wrap64 (Int.tdiv (wrap64 ((wrap64 (a0_0 + 64)) - 1)) 64))) = true:=beq_iff_eq.mpr c4
   have c4b1:((l0_1.length:Int) != (wrap64 (Int.tdiv (wrap64 ((wrap64 (a0_0 + 64)) - 1)) 64))) = false:=bne_eq_false_iff_eq.mpr c4
   clear c4
   by_cases c5:(Int.tmod a0_0 64) = 0
   ·rw [if_pos c5] at H
    have c5b0:((Int.tmod a0_0 64) == 0) = true:=beq_iff_eq.mpr c5
    have c5b1:((Int.tmod a0_0 64) != 0) = false:=bne_eq_false_iff_eq.mpr c5
    clear c5
    obtain rfl:=Option.some.inj H
    go_enter Try.func65,Try.ntmps65
    go_wp2_with (first|((with_reducible refine gate_dst (N:=1) rfl ?_);(try (refine gate_guard (by rfl) ?_;dsimp only));refine box_event ?hg (N:=1) ?hd (cs:=#[.int .i64 a0_0,.slice A0_1 l0_1.length c0_1]) (t:=64) ?hr ?_;(case hd=>rfl);(case hg=>rfl);(case hr=>first|(go_simp;done)|(go_simp;rfl));intro gb102 hg w6 hbox hb;have n0_:=mk0 (below_step (by repeat (first|(with_reducible first|exact HB.out|apply aZ|apply nZ|apply dZ)|exact HB.out)) hb);have n1_:=mk0 (hbox);have n2_:=mk0 ((by rw [hg];exact (below_size (by repeat (first|(with_reducible first|exact HB.out|apply aZ|apply nZ|apply dZ)|exact HB.out))):w.heap.size ≤ gb102));have n3_:=mk0 ((by rw [hg];exact (below_size (by repeat (first|(with_reducible first|exact HB.out|apply aZ|apply nZ|apply dZ)|exact HB.out))):w.heap.size ≤ gb102));clear HB;have HB:=n0_;have BK102:=n1_;have GW102:=n2_;have GE102:=n3_;clear n0_ n1_ n2_ n3_ hb hbox hg;have hcz7_0:w6.cell? ⟨gb102,0,none⟩ = some (.int .i64 a0_0):=(blk_cell BK102.out 0).trans rfl;have hcz7_1:w6.cell? ⟨gb102,1,none⟩ = some (.slice A0_1 l0_1.length c0_1):=(blk_cell BK102.out 1).trans rfl;have hfz7_0:=blk_frozen BK102.out 0;have hfz7_1:=blk_frozen BK102.out 1)|((with_reducible refine gate_callee (f:=41) rfl ?_);refine goesL_ (some 6) rfl rfl Try.func41 (by kernel_rfl) rfl #[.int .i64 a0_0,.int .i64 0,.int .i64 5000] rfl (by (try simp only [mA,mC,mN]);first|done|rfl|(simp only [List.length_drop,List.length_take];rfl)) ?_;(with_reducible refine (impl_within.calls a0_0 0 5000 true _ A2.out).mono ?_);rintro e w' ⟨rfl,⟨nd,rfl⟩⟩;refine⟨_,rfl,?_⟩))
    go_ret
    exact⟨by first|rfl|(simp [errW_none,errW_some] <;> rfl)|(simp [*,errW_none,errW_some] <;> rfl),by repeat (first|(with_reducible first|exact HB.out|apply aZ|apply nZ|apply dZ|refine sZ ?_ GE102.out)|exact HB.out)⟩
   ·rw [if_neg c5] at H
    have c5b0:((Int.tmod a0_0 64) == 0) = false:=beq_eq_false_iff_ne.mpr c5
    have c5b1:((Int.tmod a0_0 64) != 0) = true:=bne_iff_ne.mpr c5
    obtain⟨ji8,hji8⟩:∃ j_:Int,(wrap64 ((l0_1.length:Int) - 1)) = j_:=⟨_,rfl⟩
    replace H:(if 0 ≤ (ji8) then (if (ji8) < (l0_1.length:Int) then (if 0 ≤ (Int.tmod a0_0 64) then (some ((shr .u64 (rd l0_1 (ji8)) (Int.tmod a0_0 64)) == 0)) else (none)) else (none)) else (none)) = some r:=by first|(rw [hji8] at H;exact H)|(simp only [hji8] at H ⊢;exact H)
    (try rw [hji8] at A2)
    have hji8w:(IntKind.i64.wrap ((l0_1.length:Int) - 1)) = ji8:=(i64_w _).trans hji8
    by_cases c9:0 ≤ (ji8)
    ·rw [if_pos c9] at H
     have c9b0:decide (0 ≤ (ji8)) = true:=decide_eq_true c9
     clear c9
     by_cases c10:(ji8) < (l0_1.length:Int)
     ·rw [if_pos c10] at H
      have c10b0:decide ((ji8) < (l0_1.length:Int)) = true:=decide_eq_true c10
      clear c10
      obtain⟨ji11,hji11⟩:∃ j_:Int,(Int.tmod a0_0 64) = j_:=⟨_,rfl⟩
      replace H:(if 0 ≤ (ji11) then (some ((shr .u64 (rd l0_1 (ji8)) (ji11)) == 0)) else (none)) = some r:=by first|(rw [hji11] at H;exact H)|(simp only [hji11] at H ⊢;exact H)
      (try rw [hji11] at c5b0)
      (try rw [hji11] at c5b1)
      (try rw [hji11] at A2)
      by_cases c12:0 ≤ (ji11)
      ·rw [if_pos c12] at H
       have c12b0:=eq_true c12
       have c12b1:decide (0 ≤ (ji11)) = true:=decide_eq_true c12
       clear c12
       obtain⟨ji13,hji13⟩:∃ j_:Int,(shr .u64 (rd l0_1 (ji8)) (ji11)) = j_:=⟨_,rfl⟩
       replace H:(some ((ji13) == 0)) = some r:=by first|(rw [hji13] at H;exact H)|(simp only [hji13] at H ⊢;exact H)
       (try rw [hji13] at A2)
       have hji13_:((rd l0_1 (ji8)) / 2 ^ min (ji11).toNat 64) = ji13:=hji13
       have hji13z:(ji11) ≤ 64 → ((rd l0_1 (ji8)) / 2 ^ (ji11).toNat) = ji13:=shr_small hji13
       obtain rfl:=Option.some.inj H
       go_enter Try.func65,Try.ntmps65
       go_wp2_with (first|((with_reducible refine gate_dst (N:=1) rfl ?_);(try (refine gate_guard (by rfl) ?_;dsimp only));refine box_event ?hg (N:=1) ?hd (cs:=#[.int .i64 a0_0,.slice A0_1 l0_1.length c0_1]) (t:=64) ?hr ?_;(case hd=>rfl);(case hg=>rfl);(case hr=>first|(go_simp;done)|(go_simp;rfl));intro gb102 hg w14 hbox hb;have n0_:=mk0 (below_step (by repeat (first|(with_reducible first|exact HB.out|apply aZ|apply nZ|apply dZ)|exact HB.out)) hb);have n1_:=mk0 (hbox);have n2_:=mk0 ((by rw [hg];exact (below_size (by repeat (first|(with_reducible first|exact HB.out|apply aZ|apply nZ|apply dZ)|exact HB.out))):w.heap.size ≤ gb102));have n3_:=mk0 ((by rw [hg];exact (below_size (by repeat (first|(with_reducible first|exact HB.out|apply aZ|apply nZ|apply dZ)|exact HB.out))):w.heap.size ≤ gb102));clear HB;have HB:=n0_;have BK102:=n1_;have GW102:=n2_;have GE102:=n3_;clear n0_ n1_ n2_ n3_ hb hbox hg;have hcz15_0:w14.cell? ⟨gb102,0,none⟩ = some (.int .i64 a0_0):=(blk_cell BK102.out 0).trans rfl;have hcz15_1:w14.cell? ⟨gb102,1,none⟩ = some (.slice A0_1 l0_1.length c0_1):=(blk_cell BK102.out 1).trans rfl;have hfz15_0:=blk_frozen BK102.out 0;have hfz15_1:=blk_frozen BK102.out 1)|((with_reducible refine gate_callee (f:=41) rfl ?_);refine goesL_ (some 6) rfl rfl Try.func41 (by kernel_rfl) rfl #[.int .i64 a0_0,.int .i64 0,.int .i64 5000] rfl (by (try simp only [mA,mC,mN]);first|done|rfl|(simp only [List.length_drop,List.length_take];rfl)) ?_;(with_reducible refine (impl_within.calls a0_0 0 5000 true _ A2.out).mono ?_);rintro e w' ⟨rfl,⟨nd,rfl⟩⟩;refine⟨_,rfl,?_⟩;have p104:0 ≤ ((ji8):Int):=of_decide_eq_true (by first|(with_reducible assumption)|assumption);have q104:(ji8) < (l0_1.length:Int):=of_decide_eq_true (by first|(with_reducible assumption)|assumption);obtain⟨ad104,e104,hx104_0⟩:=Kd.at_int HR0_1.out (ji8) p104 q104;cases e104;replace hx104_0:=(HB.out.cell (World.block_lt_of_cell? w _ hx104_0)).trans hx104_0;replace p104:=eq_true p104;replace q104:=eq_true q104))
       go_ret
       exact⟨by first|rfl|(simp [errW_none,errW_some] <;> rfl)|(simp only [← hji8, ← hji11, ← hji13];first|rfl|(simp [errW_none,errW_some] <;> rfl))|(simp [*,errW_none,errW_some] <;> rfl),by repeat (first|(with_reducible first|exact HB.out|apply aZ|apply nZ|apply dZ|refine sZ ?_ GE102.out)|exact HB.out)⟩
      ·rw [if_neg c12] at H
       exact absurd H (by simp)
     ·rw [if_neg c10] at H
      exact absurd H (by simp)
    ·rw [if_neg c9] at H
     exact absurd H (by simp)
  ·rw [if_neg c4] at H
   have c4b0:((l0_1.length:Int) == (wrap64 (Int.tdiv (wrap64 ((wrap64 (a0_0 + 64)) - 1)) 64))) = false:=beq_eq_false_iff_ne.mpr c4
   have c4b1:((l0_1.length:Int) != (wrap64 (Int.tdiv (wrap64 ((wrap64 (a0_0 + 64)) - 1)) 64))) = true:=bne_iff_ne.mpr c4
   obtain rfl:=Option.some.inj H
   go_enter Try.func65,Try.ntmps65
   go_wp2_with (first|((with_reducible refine gate_dst (N:=1) rfl ?_);(try (refine gate_guard (by rfl) ?_;dsimp only));refine box_event ?hg (N:=1) ?hd (cs:=#[.int .i64 a0_0,.slice A0_1 l0_1.length c0_1]) (t:=64) ?hr ?_;(case hd=>rfl);(case hg=>rfl);(case hr=>first|(go_simp;done)|(go_simp;rfl));intro gb102 hg w16 hbox hb;have n0_:=mk0 (below_step (by repeat (first|(with_reducible first|exact HB.out|apply aZ|apply nZ|apply dZ)|exact HB.out)) hb);have n1_:=mk0 (hbox);have n2_:=mk0 ((by rw [hg];exact (below_size (by repeat (first|(with_reducible first|exact HB.out|apply aZ|apply nZ|apply dZ)|exact HB.out))):w.heap.size ≤ gb102));have n3_:=mk0 ((by rw [hg];exact (below_size (by repeat (first|(with_reducible first|exact HB.out|apply aZ|apply nZ|apply dZ)|exact HB.out))):w.heap.size ≤ gb102));clear HB;have HB:=n0_;have BK102:=n1_;have GW102:=n2_;have GE102:=n3_;clear n0_ n1_ n2_ n3_ hb hbox hg;have hcz17_0:w16.cell? ⟨gb102,0,none⟩ = some (.int .i64 a0_0):=(blk_cell BK102.out 0).trans rfl;have hcz17_1:w16.cell? ⟨gb102,1,none⟩ = some (.slice A0_1 l0_1.length c0_1):=(blk_cell BK102.out 1).trans rfl;have hfz17_0:=blk_frozen BK102.out 0;have hfz17_1:=blk_frozen BK102.out 1)|((with_reducible refine gate_callee (f:=41) rfl ?_);refine goesL_ (some 6) rfl rfl Try.func41 (by kernel_rfl) rfl #[.int .i64 a0_0,.int .i64 0,.int .i64 5000] rfl (by (try simp only [mA,mC,mN]);first|done|rfl|(simp only [List.length_drop,List.length_take];rfl)) ?_;(with_reducible refine (impl_within.calls a0_0 0 5000 true _ A2.out).mono ?_);rintro e w' ⟨rfl,⟨nd,rfl⟩⟩;refine⟨_,rfl,?_⟩))
   go_ret
   exact⟨by first|rfl|(simp [errW_none,errW_some] <;> rfl)|(simp [*,errW_none,errW_some] <;> rfl),by repeat (first|(with_reducible first|exact HB.out|apply aZ|apply nZ|apply dZ|refine sZ ?_ GE102.out)|exact HB.out)⟩
 ·replace c3:=Bool.eq_false_iff.mpr c3
  subst c3
  have H1:(some false) = some r:=by rw [if_neg (show ¬ (false = true) by decide)] at H;exact H
  clear H
  have H:=H1
  clear H1
  obtain rfl:=Option.some.inj H
  go_enter Try.func65,Try.ntmps65
  go_wp2_with (first|((with_reducible refine gate_dst (N:=1) rfl ?_);(try (refine gate_guard (by rfl) ?_;dsimp only));refine box_event ?hg (N:=1) ?hd (cs:=#[.int .i64 a0_0,.slice A0_1 l0_1.length c0_1]) (t:=64) ?hr ?_;(case hd=>rfl);(case hg=>rfl);(case hr=>first|(go_simp;done)|(go_simp;rfl));intro gb102 hg w18 hbox hb;have n0_:=mk0 (below_step (by repeat (first|(with_reducible first|exact HB.out|apply aZ|apply nZ|apply dZ)|exact HB.out)) hb);have n1_:=mk0 (hbox);have n2_:=mk0 ((by rw [hg];exact (below_size (by repeat (first|(with_reducible first|exact HB.out|apply aZ|apply nZ|apply dZ)|exact HB.out))):w.heap.size ≤ gb102));have n3_:=mk0 ((by rw [hg];exact (below_size (by repeat (first|(with_reducible first|exact HB.out|apply aZ|apply nZ|apply dZ)|exact HB.out))):w.heap.size ≤ gb102));clear HB;have HB:=n0_;have BK102:=n1_;have GW102:=n2_;have GE102:=n3_;clear n0_ n1_ n2_ n3_ hb hbox hg;have hcz19_0:w18.cell? ⟨gb102,0,none⟩ = some (.int .i64 a0_0):=(blk_cell BK102.out 0).trans rfl;have hcz19_1:w18.cell? ⟨gb102,1,none⟩ = some (.slice A0_1 l0_1.length c0_1):=(blk_cell BK102.out 1).trans rfl;have hfz19_0:=blk_frozen BK102.out 0;have hfz19_1:=blk_frozen BK102.out 1)|((with_reducible refine gate_callee (f:=41) rfl ?_);refine goesL_ (some 6) rfl rfl Try.func41 (by kernel_rfl) rfl #[.int .i64 a0_0,.int .i64 0,.int .i64 5000] rfl (by (try simp only [mA,mC,mN]);first|done|rfl|(simp only [List.length_drop,List.length_take];rfl)) ?_;(with_reducible refine (impl_within.calls a0_0 0 5000 false _ A2.out).mono ?_);rintro e w' ⟨rfl,⟨nd,rfl⟩⟩;refine⟨_,rfl,?_⟩))
  go_ret
  exact⟨by first|rfl|(simp [errW_none,errW_some] <;> rfl)|(simp [*,errW_none,errW_some] <;> rfl),by repeat (first|(with_reducible first|exact HB.out|apply aZ|apply nZ|apply dZ|refine sZ ?_ GE102.out)|exact HB.out)⟩

/-! ### impl_Bits_at: function 80 -/
def impl_Bits_at.f (a0_0 : Int) (l0_1 : List Int) (a1 : Int) : Option (Int) := if 0 ≤ (wrap64 (Int.tdiv a1 64)) then (if (wrap64 (Int.tdiv a1 64)) < (l0_1.length : Int) then (if 0 ≤ (Int.tmod a1 64) then (some (wrap64 (Go.bits .and .u64 (shr .u64 (rd l0_1 (wrap64 (Int.tdiv a1 64))) (Int.tmod a1 64)) 1))) else (none)) else (none)) else (none)
set_option maxHeartbeats 8000000 in
set_option maxRecDepth 100000 in
theorem impl_Bits_at.calls (a0_0 : Int) (A0_1 : Option Addr) (c0_1 : Nat) (l0_1 : List Int) (a1 : Int) (r : Int) (w : World) (hr0_1 : Kd.C (Kd.int .u64) w A0_1 l0_1.length l0_1) (hc0_1 : l0_1.length ≤ c0_1) (h : impl_Bits_at.f a0_0 l0_1 a1 = some r) :
  Calls Try.prog 80 #[.agg #[.int .i64 a0_0, .slice A0_1 l0_1.length c0_1], .int .i64 a1] w fun e w' => e = .returned (.int .i64 r) ∧ Below w.heap.size w w' := by
 have hu64:=Try.underlying64
 have HR0_1:=mk0 hr0_1
 have HC0_1:=mk0 hc0_1
 clear hr0_1 hc0_1
 have HB:=mk0 (Below.refl w.heap.size w)
 have H:(if 0 ≤ (wrap64 (Int.tdiv a1 64)) then (if (wrap64 (Int.tdiv a1 64)) < (l0_1.length:Int) then (if 0 ≤ (Int.tmod a1 64) then (some (wrap64 (Go.bits .and .u64 (shr .u64 (rd l0_1 (wrap64 (Int.tdiv a1 64))) (Int.tmod a1 64)) 1))) else (none)) else (none)) else (none)) = some r:=h
 clear h
 obtain⟨ji3,hji3⟩:∃ j_:Int,(wrap64 (Int.tdiv a1 64)) = j_:=⟨_,rfl⟩
 replace H:(if 0 ≤ (ji3) then (if (ji3) < (l0_1.length:Int) then (if 0 ≤ (Int.tmod a1 64) then (some (wrap64 (Go.bits .and .u64 (shr .u64 (rd l0_1 (ji3)) (Int.tmod a1 64)) 1))) else (none)) else (none)) else (none)) = some r:=by first|(rw [hji3] at H;exact H)|(simp only [hji3] at H ⊢;exact H)
 have hji3w:(IntKind.i64.wrap (Int.tdiv a1 64)) = ji3:=(i64_w _).trans hji3
 by_cases c4:0 ≤ (ji3)
 ·rw [if_pos c4] at H
  have c4b0:decide (0 ≤ (ji3)) = true:=decide_eq_true c4
  clear c4
  by_cases c5:(ji3) < (l0_1.length:Int)
  ·rw [if_pos c5] at H
   have c5b0:decide ((ji3) < (l0_1.length:Int)) = true:=decide_eq_true c5
   clear c5
   obtain⟨ji6,hji6⟩:∃ j_:Int,(Int.tmod a1 64) = j_:=⟨_,rfl⟩
   replace H:(if 0 ≤ (ji6) then (some (wrap64 (Go.bits .and .u64 (shr .u64 (rd l0_1 (ji3)) (ji6)) 1))) else (none)) = some r:=by first|(rw [hji6] at H;exact H)|(simp only [hji6] at H ⊢;exact H)
   by_cases c7:0 ≤ (ji6)
   ·rw [if_pos c7] at H
    have c7b0:=eq_true c7
    have c7b1:decide (0 ≤ (ji6)) = true:=decide_eq_true c7
    clear c7
    obtain⟨ji8,hji8⟩:∃ j_:Int,(shr .u64 (rd l0_1 (ji3)) (ji6)) = j_:=⟨_,rfl⟩
    replace H:(some (wrap64 (Go.bits .and .u64 (ji8) 1))) = some r:=by first|(rw [hji8] at H;exact H)|(simp only [hji8] at H ⊢;exact H)
    have hji8_:((rd l0_1 (ji3)) / 2 ^ min (ji6).toNat 64) = ji8:=hji8
    have hji8z:(ji6) ≤ 64 → ((rd l0_1 (ji3)) / 2 ^ (ji6).toNat) = ji8:=shr_small hji8
    obtain rfl:=Option.some.inj H
    go_enter Try.func80,Try.ntmps80
    go_wp2_with (first|((with_reducible refine gate_dst (N:=2) rfl ?_);refine box_event ?hg (N:=2) ?hd (cs:=#[.int .i64 a0_0,.slice A0_1 l0_1.length c0_1]) (t:=64) ?hr ?_;(case hd=>rfl);(case hg=>rfl);(case hr=>first|(go_simp;done)|(go_simp;rfl));intro gb105 hg w9 hbox hb;have n0_:=mk0 (below_step (by repeat (first|(with_reducible first|exact HB.out|apply aZ|apply nZ|apply dZ)|exact HB.out)) hb);have n1_:=mk0 (hbox);have n2_:=mk0 ((by rw [hg];exact (below_size (by repeat (first|(with_reducible first|exact HB.out|apply aZ|apply nZ|apply dZ)|exact HB.out))):w.heap.size ≤ gb105));have n3_:=mk0 ((by rw [hg];exact (below_size (by repeat (first|(with_reducible first|exact HB.out|apply aZ|apply nZ|apply dZ)|exact HB.out))):w.heap.size ≤ gb105));clear HB;have HB:=n0_;have BK105:=n1_;have GW105:=n2_;have GE105:=n3_;clear n0_ n1_ n2_ n3_ hb hbox hg;have hcz10_0:w9.cell? ⟨gb105,0,none⟩ = some (.int .i64 a0_0):=(blk_cell BK105.out 0).trans rfl;have hcz10_1:w9.cell? ⟨gb105,1,none⟩ = some (.slice A0_1 l0_1.length c0_1):=(blk_cell BK105.out 1).trans rfl;have hfz10_0:=blk_frozen BK105.out 0;have hfz10_1:=blk_frozen BK105.out 1;have p106:0 ≤ ((ji3):Int):=of_decide_eq_true (by first|(with_reducible assumption)|assumption);have q106:(ji3) < (l0_1.length:Int):=of_decide_eq_true (by first|(with_reducible assumption)|assumption);obtain⟨ad106,e106,hx106_0⟩:=Kd.at_int HR0_1.out (ji3) p106 q106;cases e106;replace hx106_0:=(HB.out.cell (World.block_lt_of_cell? w _ hx106_0)).trans hx106_0;replace p106:=eq_true p106;replace q106:=eq_true q106))
    go_ret
    exact⟨by first|rfl|(simp [errW_none,errW_some] <;> rfl)|(simp only [← hji3, ← hji6, ← hji8];first|rfl|(simp [errW_none,errW_some] <;> rfl))|(simp [*,errW_none,errW_some] <;> rfl),by repeat (first|(with_reducible first|exact HB.out|apply aZ|apply nZ|apply dZ|refine sZ ?_ GE105.out)|exact HB.out)⟩
   ·rw [if_neg c7] at H
    exact absurd H (by simp)
  ·rw [if_neg c5] at H
   exact absurd H (by simp)
 ·rw [if_neg c4] at H
  exact absurd H (by simp)

/-! ### impl_Bits_list: function 77 -/
def impl_Bits_list.l0 : Nat → List Int → Int → Int → Int → List Int → Option (List Int)
 | 0, _, _, _, _, _ => none
 | k + 1, x3, x6, x7, x108000, x108001 => if x7 < x6 then ((impl_Bits_at.f x108000 x108001 x7).bind fun t108 => (if x3.length < 17592186044416 then (impl_Bits_list.l0 k (x3 ++ [t108]) x6 (wrap64 (x7 + 1)) x108000 x108001) else (none))) else (some x3)
def impl_Bits_list.f (k : Nat) (a0_0 : Int) (l0_1 : List Int) : Option (List Int) := impl_Bits_list.l0 k ([] : List Int) a0_0 0 a0_0 l0_1
theorem impl_Bits_list.mono_l : ∀ k, (∀ y0 y1 y2 y3 y4, LeO (impl_Bits_list.l0 k y0 y1 y2 y3 y4) (impl_Bits_list.l0 (k + 1) y0 y1 y2 y3 y4))
 | 0 => fun _ _ _ _ _ r h => by simp [impl_Bits_list.l0] at h
 | k + 1 => by
  have ih0 := impl_Bits_list.mono_l k
  ·intro y0 y1 y2 y3 y4
   unfold impl_Bits_list.l0
   repeat' first|(with_reducible first|exact ih0 _ _ _ _ _|exact LeO.refl _|exact LeO.none _|refine LeO.ite ?_ ?_|refine LeO.bind ?_ (fun _ => ?_))|exact LeO.none _|refine LeO.ite ?_ ?_|refine LeO.bind ?_ (fun _ => ?_)
theorem impl_Bits_list.mono : ∀ a0 a1 k, LeO (impl_Bits_list.f k a0 a1) (impl_Bits_list.f (k + 1) a0 a1) := by
 intro a0 a1 k
 have ih0 := impl_Bits_list.mono_l k
 unfold impl_Bits_list.f
 repeat' first|(with_reducible first|exact ih0 _ _ _ _ _|exact LeO.refl _|exact LeO.none _|refine LeO.ite ?_ ?_|refine LeO.bind ?_ (fun _ => ?_))|exact LeO.none _|refine LeO.ite ?_ ?_|refine LeO.bind ?_ (fun _ => ?_)
set_option maxHeartbeats 8000000 in
set_option maxRecDepth 100000 in
theorem impl_Bits_list.calls (k : Nat) (a0_0 : Int) (A0_1 : Option Addr) (c0_1 : Nat) (l0_1 : List Int) (r : List Int) (w : World) (hr0_1 : Kd.C (Kd.int .u64) w A0_1 l0_1.length l0_1) (hc0_1 : l0_1.length ≤ c0_1) (h : impl_Bits_list.f k a0_0 l0_1 = some r) :
  Calls Try.prog 77 #[.agg #[.int .i64 a0_0, .slice A0_1 l0_1.length c0_1]] w fun e w' => ∃ v0_ : Value, e = .returned (v0_) ∧ Kd.R (Kd.int .i64) 3 w' w.heap.size (fun _ => True) v0_ r ∧ Below w.heap.size w w' := by
 have hu64:=Try.underlying64
 have HR0_1:=mk0 hr0_1
 have HC0_1:=mk0 hc0_1
 clear hr0_1 hc0_1
 have HB:=mk0 (Below.refl w.heap.size w)
 have H:(impl_Bits_list.l0 k ([]:List Int) a0_0 0 a0_0 l0_1) = some r:=h
 clear h
 have H':=mk0 H
 clear H
 go_enter Try.func77,Try.ntmps77
 go_wp2_with (first|((with_reducible refine gate_dst (N:=1) rfl ?_);refine box_event ?hg (N:=1) ?hd (cs:=#[.int .i64 a0_0,.slice A0_1 l0_1.length c0_1]) (t:=64) ?hr ?_;(case hd=>rfl);(case hg=>rfl);(case hr=>first|(go_simp;done)|(go_simp;rfl));intro gb107 hg w2 hbox hb;have n0_:=mk0 (below_step (by repeat (first|(with_reducible first|exact HB.out|apply aZ|apply nZ|apply dZ)|exact HB.out)) hb);have n1_:=mk0 (hbox);have n2_:=mk0 ((by rw [hg];exact (below_size (by repeat (first|(with_reducible first|exact HB.out|apply aZ|apply nZ|apply dZ)|exact HB.out))):w.heap.size ≤ gb107));have n3_:=mk0 ((by rw [hg];exact (below_size (by repeat (first|(with_reducible first|exact HB.out|apply aZ|apply nZ|apply dZ)|exact HB.out))):w.heap.size ≤ gb107));clear HB;have HB:=n0_;have BK107:=n1_;have GW107:=n2_;have GE107:=n3_;clear n0_ n1_ n2_ n3_ hb hbox hg;have hcz3_0:w2.cell? ⟨gb107,0,none⟩ = some (.int .i64 a0_0):=(blk_cell BK107.out 0).trans rfl;have hcz3_1:w2.cell? ⟨gb107,1,none⟩ = some (.slice A0_1 l0_1.length c0_1):=(blk_cell BK107.out 1).trans rfl;have hfz3_0:=blk_frozen BK107.out 0;have hfz3_1:=blk_frozen BK107.out 1))
 go_loopg [3,7] k (fun kq v3 v7 w'=>∃ (x3_1:List Int) (x7_1:Int),v7 = .int .i64 x7_1 ∧ Aside0 (impl_Bits_list.l0 kq x3_1 a0_0 x7_1 a0_0 l0_1 = some r) ∧ Aside0 (kq ≤ k) ∧ Aside0 (Kd.R (Kd.int .i64) 3 w' w.heap.size (fun _=>True) v3 x3_1) ∧ Aside0 (w'.heap[gb107]? = some (.cells #[.int .i64 a0_0,(.slice A0_1 l0_1.length c0_1)] 64 (0,0))) ∧ Aside0 (Below w.heap.size w w'))
 case atStart=>exact⟨(([]:List Int)),(0),(by first|rfl|(simp;done)|(simp [*];done)),H',⟨Nat.le_refl _⟩,⟨by first|exact Kd.R_nil _ _ _ _ _|exact Kd.N_nil _ _ _ _ _|exact Kd.V_nil _ _ _ _ _|exact Kd.Q_nil _ _ _ _ _|exact Kd.S_nil _ _ _ _ _⟩,⟨by (with_reducible repeat (first|apply nB|apply dB|apply aB));exact BK107.out⟩,⟨by repeat (first|(with_reducible first|exact HB.out|apply aZ|apply nZ|apply dZ|refine sZ ?_ GE107.out)|exact HB.out)⟩⟩
 case round =>
  clear H'
  try clear p2
  try clear hcz3_0
  try clear hcz3_1
  try clear hfz3_0
  try clear hfz3_1
  obtain⟨x3_1,x7_1,rfl,HA,HK1,HO_3,BK107,HB⟩:=hrel
  cases gk with
  | zero=>exact absurd HA.out (by simp [impl_Bits_list.l0])
  | succ k1 =>
   have H:=HA.out
   clear HA
   simp only [impl_Bits_list.l0] at H
   by_cases c4:x7_1 < a0_0
   ·rw [if_pos c4] at H
    have c4b0:decide (x7_1 < a0_0) = true:=decide_eq_true c4
    clear c4
    replace H:=Option.bind_eq_some_iff.mp H
    obtain⟨t108,A50,H⟩:=H
    replace H:(if x3_1.length < 17592186044416 then (impl_Bits_list.l0 k1 (x3_1 ++ [t108]) a0_0 (wrap64 (x7_1 + 1)) a0_0 l0_1) else (none)) = some r:=H
    have A5:=mk0 A50
    clear A50
    by_cases c6:x3_1.length < 17592186044416
    ·rw [if_pos c6] at H
     have LMc6:=mk0 c6
     clear c6
     obtain⟨y109,hy109⟩:∃ y_:List Int,y_ = (x3_1 ++ [t108]):=⟨_,rfl⟩
     replace H:(impl_Bits_list.l0 k1 y109 a0_0 (wrap64 (x7_1 + 1)) a0_0 l0_1) = some r:=by first|(rw [hy109];with_reducible exact H)|(have H2_:=(Option.bind_some _ _).symm.trans H;rw [hy109];with_reducible exact H2_)|(have H2_:=(Option.bind_some _ _).symm.trans H;with_reducible exact H2_)|with_reducible exact H|(rw [hy109];exact H)|exact H
     have Ny109:=mk0 hy109
     clear hy109
     have H':=mk0 H
     clear H
     have hcz7_0:wr.cell? ⟨gb107,0,none⟩ = some (.int .i64 a0_0):=(blk_cell BK107.out 0).trans rfl
     have hcz7_1:wr.cell? ⟨gb107,1,none⟩ = some (.slice A0_1 l0_1.length c0_1):=(blk_cell BK107.out 1).trans rfl
     have hfz7_0:=blk_frozen BK107.out 0
     have hfz7_1:=blk_frozen BK107.out 1
     go_wp2_with (first|((with_reducible refine gate_callee (f:=80) rfl ?_);refine goesL_ (some 13) rfl rfl Try.func80 (by kernel_rfl) rfl #[.agg #[.int .i64 a0_0,.slice A0_1 l0_1.length c0_1],.int .i64 x7_1] rfl (by (try simp only [mA,mC,mN]);first|done|rfl|(simp only [List.length_drop,List.length_take];rfl)) ?_;(with_reducible refine (impl_Bits_at.calls a0_0 _ _ l0_1 x7_1 t108 _ ?side1 ?side2 A5.out).mono ?_);(case side1=>repeat (first|exact (Kd.C_below HR0_1.out HB.out)|(with_reducible first|apply aC|apply nC|apply dC)));(case side2=>exact HC0_1.out);rintro e w8 ⟨rfl,hb⟩;refine⟨_,rfl,?_⟩;have n0_:=mk0 (Kd.R_below (by (with_reducible repeat (first|apply aR|apply nR|apply dR));exact HO_3.out) hb);have n1_:=mk0 (blk_below (g:=gb107) (o:=.cells #[.int .i64 a0_0,.slice A0_1 l0_1.length c0_1] 64 (0,0)) (by (with_reducible repeat (first|apply nB|apply dB|apply aB));exact BK107.out) hb);have n2_:=mk0 (below_step (by repeat (first|(with_reducible first|exact HB.out|apply aZ|apply nZ|apply dZ|refine sZ ?_ GE107.out)|exact HB.out)) hb);clear HO_3 BK107 HB;have HO_3:=n0_;have BK107:=n1_;have HB:=n2_;clear n0_ n1_ n2_;(try clear hb);(try clear hb2);(try clear hk);(try clear hi))|((with_reducible refine gate_builtin (b:=.append) (xs:=#[.tmp 10,.tmp 14]) rfl ?_);at_builtin;refine Kd.R_append (Kd.int .i64) (w0:=w) w.heap.size rfl (.tmp 10) (.tmp 14) 22 3 (.int .i64 0) 8 rfl Try.underlying22 info3 rfl (by decide) (by omega) u3 x3_1 t108 [.int .i64 t108] (fun _=>True) (fun _=>False) rfl rfl ?aP (fun _ hk=>hk.elim) ?aF ?aO ?aB ?aS ?aL ?_;(case aP=>exact rfl);(case aB=>exact (by repeat (first|(with_reducible first|exact HB.out|apply aZ|apply nZ|apply dZ|refine sZ ?_ GE107.out)|exact HB.out)));(case aF=>exact (fun _ _=>trivial));(case aO=>exact (by (with_reducible repeat (first|apply aR|apply nR|apply dR));exact HO_3.out));(case aS=>exact (below_size (by repeat (first|(with_reducible first|exact HB.out|apply aZ|apply nZ|apply dZ|refine sZ ?_ GE107.out)|exact HB.out))));(case aL=>have:=LMc6.out;omega);intro v110 w9 ho hb hg hat;rw [← Ny109.out] at ho;have n0_:=mk0 (blk_grown (g:=gb107) (o:=.cells #[.int .i64 a0_0,.slice A0_1 l0_1.length c0_1] 64 (0,0)) (by (with_reducible repeat (first|apply nB|apply dB|apply aB));exact BK107.out) hg (Kd.R_ne HO_3.out BK107.out (by decide)));have n1_:=mk0 (hb);have n2_:=mk0 (ho);clear BK107 HB HO_3;have BK107:=n0_;have HB:=n1_;have HO111:=n2_;clear n0_ n1_ n2_ ho hb hg hat))
     go_roundg k1
     case measure=>have:=HK1.out;omega
     case rel=>exact⟨(y109),(wrap64 (x7_1 + 1)),(by first|rfl|(simp;done)|(simp [*];done)),H',⟨by have:=HK1.out;omega⟩,⟨by (with_reducible repeat (first|apply aR|apply nR|apply dR));exact HO111.out⟩,⟨by (with_reducible repeat (first|apply nB|apply dB|apply aB));exact BK107.out⟩,⟨by repeat (first|(with_reducible first|exact HB.out|apply aZ|apply nZ|apply dZ|refine sZ ?_ GE107.out)|exact HB.out)⟩⟩
    ·rw [if_neg c6] at H
     exact absurd H (by simp)
   ·rw [if_neg c4] at H
    have c4b0:decide (x7_1 < a0_0) = false:=decide_eq_false c4
    clear c4
    obtain rfl:=Option.some.inj H
    go_wp2
    go_ret
    exact⟨_,by first|rfl|(simp [errW_none,errW_some] <;> rfl)|(simp [*,errW_none,errW_some] <;> rfl),by (with_reducible repeat (first|apply aR|apply nR|apply dR));exact HO_3.out,by repeat (first|(with_reducible first|exact HB.out|apply aZ|apply nZ|apply dZ|refine sZ ?_ GE107.out)|exact HB.out)⟩

/-! ### impl_BitsList: function 64 -/
def impl_BitsList.f (k : Nat) (a0_0 : Int) (l0_1 : List Int) : Option (List Int) := (impl_BitsOk.f a0_0 l0_1).bind fun t113 => (if t113 = true then ((impl_Bits_list.f k a0_0 l0_1).bind fun t114 => (some t114)) else (some ([] : List Int)))
theorem impl_BitsList.mono : ∀ a0 a1 k, LeO (impl_BitsList.f k a0 a1) (impl_BitsList.f (k + 1) a0 a1) := by
 intro a0 a1 k
 unfold impl_BitsList.f
 repeat' first|(with_reducible first|exact impl_Bits_list.mono _ _ _|exact LeO.refl _|exact LeO.none _|refine LeO.ite ?_ ?_|refine LeO.bind ?_ (fun _ => ?_))|exact LeO.none _|refine LeO.ite ?_ ?_|refine LeO.bind ?_ (fun _ => ?_)
set_option maxHeartbeats 8000000 in
set_option maxRecDepth 100000 in
theorem impl_BitsList.calls (k : Nat) (a0_0 : Int) (A0_1 : Option Addr) (c0_1 : Nat) (l0_1 : List Int) (r : List Int) (w : World) (hr0_1 : Kd.C (Kd.int .u64) w A0_1 l0_1.length l0_1) (hc0_1 : l0_1.length ≤ c0_1) (h : impl_BitsList.f k a0_0 l0_1 = some r) :
  Calls Try.prog 64 #[.agg #[.int .i64 a0_0, .slice A0_1 l0_1.length c0_1]] w fun e w' => ∃ v0_ : Value, e = .returned (v0_) ∧ Kd.R (Kd.int .i64) 3 w' w.heap.size (fun _ => True) v0_ r ∧ Below w.heap.size w w' := by
 have hu64:=Try.underlying64
 have HR0_1:=mk0 hr0_1
 have HC0_1:=mk0 hc0_1
 clear hr0_1 hc0_1
 have HB:=mk0 (Below.refl w.heap.size w)
 have H:((impl_BitsOk.f a0_0 l0_1).bind fun t113=>(if t113 = true then ((impl_Bits_list.f k a0_0 l0_1).bind fun t114=>(some t114)) else (some ([]:List Int)))) = some r:=h
 clear h
 replace H:=Option.bind_eq_some_iff.mp H
 obtain⟨t113,A20,H⟩:=H
 replace H:(if t113 = true then ((impl_Bits_list.f k a0_0 l0_1).bind fun t114=>(some t114)) else (some ([]:List Int))) = some r:=H
 have A2:=mk0 A20
 clear A20
 by_cases c3:t113 = true
 ·subst c3
  have H1:((impl_Bits_list.f k a0_0 l0_1).bind fun t114=>(some t114)) = some r:=by rw [if_pos rfl] at H;exact H
  clear H
  have H:=H1
  clear H1
  replace H:=Option.bind_eq_some_iff.mp H
  obtain⟨t114,A40,H⟩:=H
  replace H:(some t114) = some r:=H
  have A4:=mk0 A40
  clear A40
  obtain rfl:=Option.some.inj H
  go_enter Try.func64,Try.ntmps64
  go_wp2_with (first|((with_reducible refine gate_dst (N:=1) rfl ?_);refine box_event ?hg (N:=1) ?hd (cs:=#[.int .i64 a0_0,.slice A0_1 l0_1.length c0_1]) (t:=64) ?hr ?_;(case hd=>rfl);(case hg=>rfl);(case hr=>first|(go_simp;done)|(go_simp;rfl));intro gb112 hg w5 hbox hb;have n0_:=mk0 (below_step (by repeat (first|(with_reducible first|exact HB.out|apply aZ|apply nZ|apply dZ)|exact HB.out)) hb);have n1_:=mk0 (hbox);have n2_:=mk0 ((by rw [hg];exact (below_size (by repeat (first|(with_reducible first|exact HB.out|apply aZ|apply nZ|apply dZ)|exact HB.out))):w.heap.size ≤ gb112));have n3_:=mk0 ((by rw [hg];exact (below_size (by repeat (first|(with_reducible first|exact HB.out|apply aZ|apply nZ|apply dZ)|exact HB.out))):w.heap.size ≤ gb112));clear HB;have HB:=n0_;have BK112:=n1_;have GW112:=n2_;have GE112:=n3_;clear n0_ n1_ n2_ n3_ hb hbox hg;have hcz6_0:w5.cell? ⟨gb112,0,none⟩ = some (.int .i64 a0_0):=(blk_cell BK112.out 0).trans rfl;have hcz6_1:w5.cell? ⟨gb112,1,none⟩ = some (.slice A0_1 l0_1.length c0_1):=(blk_cell BK112.out 1).trans rfl;have hfz6_0:=blk_frozen BK112.out 0;have hfz6_1:=blk_frozen BK112.out 1)|((with_reducible refine gate_callee (f:=65) rfl ?_);refine goesL_ (some 4) rfl rfl Try.func65 (by kernel_rfl) rfl #[.agg #[.int .i64 a0_0,.slice A0_1 l0_1.length c0_1]] rfl (by (try simp only [mA,mC,mN]);first|done|rfl|(simp only [List.length_drop,List.length_take];rfl)) ?_;(with_reducible refine (impl_BitsOk.calls a0_0 _ _ l0_1 true _ ?side1 ?side2 A2.out).mono ?_);(case side1=>repeat (first|exact (Kd.C_below HR0_1.out HB.out)|(with_reducible first|apply aC|apply nC|apply dC)));(case side2=>exact HC0_1.out);rintro e w7 ⟨rfl,hb⟩;refine⟨_,rfl,?_⟩;have n0_:=mk0 (blk_below (g:=gb112) (o:=.cells #[.int .i64 a0_0,.slice A0_1 l0_1.length c0_1] 64 (0,0)) (by (with_reducible repeat (first|apply nB|apply dB|apply aB));exact BK112.out) hb);have n1_:=mk0 (below_step (by repeat (first|(with_reducible first|exact HB.out|apply aZ|apply nZ|apply dZ|refine sZ ?_ GE112.out)|exact HB.out)) hb);clear BK112 HB;have BK112:=n0_;have HB:=n1_;clear n0_ n1_;(try clear hb);(try clear hb2);(try clear hk);(try clear hi);have hcz8_0:w7.cell? ⟨gb112,0,none⟩ = some (.int .i64 a0_0):=(blk_cell BK112.out 0).trans rfl;have hcz8_1:w7.cell? ⟨gb112,1,none⟩ = some (.slice A0_1 l0_1.length c0_1):=(blk_cell BK112.out 1).trans rfl;have hfz8_0:=blk_frozen BK112.out 0;have hfz8_1:=blk_frozen BK112.out 1)|((with_reducible refine gate_callee (f:=77) rfl ?_);refine goesL_ (some 7) rfl rfl Try.func77 (by kernel_rfl) rfl #[.agg #[.int .i64 a0_0,.slice A0_1 l0_1.length c0_1]] rfl (by (try simp only [mA,mC,mN]);first|done|rfl|(simp only [List.length_drop,List.length_take];rfl)) ?_;(with_reducible refine (impl_Bits_list.calls k a0_0 _ _ l0_1 t114 _ ?side1 ?side2 A4.out).mono ?_);(case side1=>repeat (first|exact (Kd.C_below HR0_1.out HB.out)|(with_reducible first|apply aC|apply nC|apply dC)));(case side2=>exact HC0_1.out);rintro e w9 ⟨v115,rfl,ho0,hb⟩;refine⟨_,rfl,?_⟩;have n0_:=mk0 (Kd.R_lower ho0 (below_size (by repeat (first|(with_reducible first|exact HB.out|apply aZ|apply nZ|apply dZ|refine sZ ?_ GE112.out)|exact HB.out))));have n1_:=mk0 (blk_below (g:=gb112) (o:=.cells #[.int .i64 a0_0,.slice A0_1 l0_1.length c0_1] 64 (0,0)) (by (with_reducible repeat (first|apply nB|apply dB|apply aB));exact BK112.out) hb);have n2_:=mk0 (below_step (by repeat (first|(with_reducible first|exact HB.out|apply aZ|apply nZ|apply dZ|refine sZ ?_ GE112.out)|exact HB.out)) hb);clear BK112 HB;have HO116:=n0_;have BK112:=n1_;have HB:=n2_;clear n0_ n1_ n2_;(try clear hb);(try clear hb2);(try clear hk);(try clear hi);(try clear ho0)))
  go_ret
  exact⟨_,by first|rfl|(simp [errW_none,errW_some] <;> rfl)|(simp [*,errW_none,errW_some] <;> rfl),by (with_reducible repeat (first|apply aR|apply nR|apply dR));exact HO116.out,by repeat (first|(with_reducible first|exact HB.out|apply aZ|apply nZ|apply dZ|refine sZ ?_ GE112.out)|exact HB.out)⟩
 ·replace c3:=Bool.eq_false_iff.mpr c3
  subst c3
  have H1:(some ([]:List Int)) = some r:=by rw [if_neg (show ¬ (false = true) by decide)] at H;exact H
  clear H
  have H:=H1
  clear H1
  obtain rfl:=Option.some.inj H
  go_enter Try.func64,Try.ntmps64
  go_wp2_with (first|((with_reducible refine gate_dst (N:=1) rfl ?_);refine box_event ?hg (N:=1) ?hd (cs:=#[.int .i64 a0_0,.slice A0_1 l0_1.length c0_1]) (t:=64) ?hr ?_;(case hd=>rfl);(case hg=>rfl);(case hr=>first|(go_simp;done)|(go_simp;rfl));intro gb112 hg w10 hbox hb;have n0_:=mk0 (below_step (by repeat (first|(with_reducible first|exact HB.out|apply aZ|apply nZ|apply dZ)|exact HB.out)) hb);have n1_:=mk0 (hbox);have n2_:=mk0 ((by rw [hg];exact (below_size (by repeat (first|(with_reducible first|exact HB.out|apply aZ|apply nZ|apply dZ)|exact HB.out))):w.heap.size ≤ gb112));have n3_:=mk0 ((by rw [hg];exact (below_size (by repeat (first|(with_reducible first|exact HB.out|apply aZ|apply nZ|apply dZ)|exact HB.out))):w.heap.size ≤ gb112));clear HB;have HB:=n0_;have BK112:=n1_;have GW112:=n2_;have GE112:=n3_;clear n0_ n1_ n2_ n3_ hb hbox hg;have hcz11_0:w10.cell? ⟨gb112,0,none⟩ = some (.int .i64 a0_0):=(blk_cell BK112.out 0).trans rfl;have hcz11_1:w10.cell? ⟨gb112,1,none⟩ = some (.slice A0_1 l0_1.length c0_1):=(blk_cell BK112.out 1).trans rfl;have hfz11_0:=blk_frozen BK112.out 0;have hfz11_1:=blk_frozen BK112.out 1)|((with_reducible refine gate_callee (f:=65) rfl ?_);refine goesL_ (some 4) rfl rfl Try.func65 (by kernel_rfl) rfl #[.agg #[.int .i64 a0_0,.slice A0_1 l0_1.length c0_1]] rfl (by (try simp only [mA,mC,mN]);first|done|rfl|(simp only [List.length_drop,List.length_take];rfl)) ?_;(with_reducible refine (impl_BitsOk.calls a0_0 _ _ l0_1 false _ ?side1 ?side2 A2.out).mono ?_);(case side1=>repeat (first|exact (Kd.C_below HR0_1.out HB.out)|(with_reducible first|apply aC|apply nC|apply dC)));(case side2=>exact HC0_1.out);rintro e w12 ⟨rfl,hb⟩;refine⟨_,rfl,?_⟩;have n0_:=mk0 (blk_below (g:=gb112) (o:=.cells #[.int .i64 a0_0,.slice A0_1 l0_1.length c0_1] 64 (0,0)) (by (with_reducible repeat (first|apply nB|apply dB|apply aB));exact BK112.out) hb);have n1_:=mk0 (below_step (by repeat (first|(with_reducible first|exact HB.out|apply aZ|apply nZ|apply dZ|refine sZ ?_ GE112.out)|exact HB.out)) hb);clear BK112 HB;have BK112:=n0_;have HB:=n1_;clear n0_ n1_;(try clear hb);(try clear hb2);(try clear hk);(try clear hi)))
  go_ret
  exact⟨_,by first|rfl|(simp [errW_none,errW_some] <;> rfl)|(simp [*,errW_none,errW_some] <;> rfl),by first|exact Kd.R_nil _ _ _ _ _|exact Kd.N_nil _ _ _ _ _|exact Kd.V_nil _ _ _ _ _|exact Kd.Q_nil _ _ _ _ _|exact Kd.S_nil _ _ _ _ _,by repeat (first|(with_reducible first|exact HB.out|apply aZ|apply nZ|apply dZ|refine sZ ?_ GE112.out)|exact HB.out)⟩

end Go.Proofs.Ytamdhfjnalglfaa.QFnWave
