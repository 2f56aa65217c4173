-- A walk, made by walk.py, a program of this session's.
import Derived.Test.YtamdhfjnalglfaaQFnExactWaveSelectx0
import Derived.Test.YtamdhfjnalglfaaQFnExactWaveSelectx1
import Derived.Test.YtamdhfjnalglfaaQFnExactWaveSelectx2
import Derived.Test.YtamdhfjnalglfaaQFnExactWaveSelectx5
import Derived.Test.YtamdhfjnalglfaaQFnExactWaveSelectx8
namespace Go.Proofs.Ytamdhfjnalglfaa.QFnExactWaveSelect
open Go.RowKit Go.Proofs.YtamdhfjnalglfaaW.PrintWords Go.Proofs.YtamdhfjnalglfaaW.PrintLast Go.Proofs.YtamdhfjnalglfaaW.PrintMore
attribute [local go_sem] max2_int min2_int max_two min_two max_three min_three max_four min_four   -- for this text's walks alone
set_option linter.unusedVariables false
set_option linter.unusedSimpArgs false

/-! ### spec_WaveSelect: function 28 -/
def spec_WaveSelect.l0 : Nat → Int → Int → Int → List Int → Option (Int)
 | 0, _, _, _, _ => none
 | k + 1, x1, x2, x8, x10 => if x8 < (x10.length : Int) then (if 0 ≤ x8 then (if (rd x10 x8) = x1 then (if x2 = 0 then (some x8) else (spec_WaveSelect.l0 k x1 (wrap64 (x2 - 1)) (wrap64 (x8 + 1)) x10)) else (spec_WaveSelect.l0 k x1 x2 (wrap64 (x8 + 1)) x10)) else (none)) else (some (-1))
def spec_WaveSelect.f (k : Nat) (a0_0 : Int) (l0_1 : List Int) (l0_2 : List (S64)) (a1 : Int) (a2 : Int) : Option (Int) := (spec_WaveList.f k a0_0 l0_1 l0_2).bind fun t283 => (spec_WaveSelect.l0 k a1 a2 0 t283)
theorem spec_WaveSelect.mono_l : ∀ k, (∀ y0 y1 y2 y3, LeO (spec_WaveSelect.l0 k y0 y1 y2 y3) (spec_WaveSelect.l0 (k + 1) y0 y1 y2 y3))
 | 0 => fun _ _ _ _ r h => by simp [spec_WaveSelect.l0] at h
 | k + 1 => by
  have ih0 := spec_WaveSelect.mono_l k
  ·intro y0 y1 y2 y3
   unfold spec_WaveSelect.l0
   repeat' first|(with_reducible first|exact ih0 _ _ _ _|exact spec_WaveList.mono _ _ _ _|exact LeO.refl _|exact LeO.none _|refine LeO.ite ?_ ?_|refine LeO.bind ?_ (fun _ => ?_))|exact LeO.none _|refine LeO.ite ?_ ?_|refine LeO.bind ?_ (fun _ => ?_)
theorem spec_WaveSelect.mono : ∀ a0 a1 a2 a3 a4 k, LeO (spec_WaveSelect.f k a0 a1 a2 a3 a4) (spec_WaveSelect.f (k + 1) a0 a1 a2 a3 a4) := by
 intro a0 a1 a2 a3 a4 k
 have ih0 := spec_WaveSelect.mono_l k
 unfold spec_WaveSelect.f
 repeat' first|(with_reducible first|exact ih0 _ _ _ _|exact spec_WaveList.mono _ _ _ _|exact LeO.refl _|exact LeO.none _|refine LeO.ite ?_ ?_|refine LeO.bind ?_ (fun _ => ?_))|exact LeO.none _|refine LeO.ite ?_ ?_|refine LeO.bind ?_ (fun _ => ?_)
set_option maxHeartbeats 8000000 in
set_option maxRecDepth 100000 in
theorem spec_WaveSelect.calls (k : Nat) (a0_0 : Int) (A0_1 : Option Addr) (c0_1 : Nat) (l0_1 : List Int) (A0_2 : Option Addr) (c0_2 : Nat) (l0_2 : List (S64)) (a1 : Int) (a2 : Int) (r : Int) (w : World) (hr0_1 : Kd.C (Kd.int .i64) w A0_1 l0_1.length l0_1) (hc0_1 : l0_1.length ≤ c0_1) (hr0_2 : Kd.C k64 w A0_2 l0_2.length l0_2) (hc0_2 : l0_2.length ≤ c0_2) (h : spec_WaveSelect.f k a0_0 l0_1 l0_2 a1 a2 = some r) :
  Calls Try.prog 28 #[.agg #[.int .i64 a0_0, .slice A0_1 l0_1.length c0_1, .slice A0_2 l0_2.length c0_2], .int .i64 a1, .int .i64 a2] w fun e w' => e = .returned (.int .i64 r) ∧ Below w.heap.size w w' := by
 have hu30:=Try.underlying30
 have HR0_1:=mk0 hr0_1
 have HC0_1:=mk0 hc0_1
 clear hr0_1 hc0_1
 have HR0_2:=mk0 hr0_2
 have HC0_2:=mk0 hc0_2
 clear hr0_2 hc0_2
 have HB:=mk0 (Below.refl w.heap.size w)
 have H:((spec_WaveList.f k a0_0 l0_1 l0_2).bind fun t283=>(spec_WaveSelect.l0 k a1 a2 0 t283)) = some r:=h
 clear h
 replace H:=Option.bind_eq_some_iff.mp H
 obtain⟨t283,A40,H⟩:=H
 replace H:(spec_WaveSelect.l0 k a1 a2 0 t283) = some r:=H
 have A4:=mk0 A40
 clear A40
 have H':=mk0 H
 clear H
 go_enter Try.func28,Try.ntmps28
 go_wp2_with (first|((with_reducible refine gate_dst (N:=3) rfl ?_);refine box_event ?hg (N:=3) ?hd (cs:=#[.int .i64 a0_0,.slice A0_1 l0_1.length c0_1,.slice A0_2 l0_2.length c0_2]) (t:=30) ?hr ?_;(case hd=>rfl);(case hg=>rfl);(case hr=>first|(go_simp;done)|(go_simp;rfl));intro gb282 hg w5 hbox hb;have n0_:=mk0 (below_step (by repeat (first|(with_reducible first|exact HB.out|apply aZ|apply nZ|apply dZ)|exact HB.out)) hb);have n1_:=mk0 (hbox);have n2_:=mk0 ((by rw [hg];exact (below_size (by repeat (first|(with_reducible first|exact HB.out|apply aZ|apply nZ|apply dZ)|exact HB.out))):w.heap.size ≤ gb282));have n3_:=mk0 ((by rw [hg];exact (below_size (by repeat (first|(with_reducible first|exact HB.out|apply aZ|apply nZ|apply dZ)|exact HB.out))):w.heap.size ≤ gb282));clear HB;have HB:=n0_;have BK282:=n1_;have GW282:=n2_;have GE282:=n3_;clear n0_ n1_ n2_ n3_ hb hbox hg;have hcz6_0:w5.cell? ⟨gb282,0,none⟩ = some (.int .i64 a0_0):=(blk_cell BK282.out 0).trans rfl;have hcz6_1:w5.cell? ⟨gb282,1,none⟩ = some (.slice A0_1 l0_1.length c0_1):=(blk_cell BK282.out 1).trans rfl;have hcz6_2:w5.cell? ⟨gb282,2,none⟩ = some (.slice A0_2 l0_2.length c0_2):=(blk_cell BK282.out 2).trans rfl;have hfz6_0:=blk_frozen BK282.out 0;have hfz6_1:=blk_frozen BK282.out 1;have hfz6_2:=blk_frozen BK282.out 2)|((with_reducible refine gate_callee (f:=29) rfl ?_);refine goesL_ (some 10) rfl rfl Try.func29 (by kernel_rfl) rfl #[.agg #[.int .i64 a0_0,.slice A0_1 l0_1.length c0_1,.slice A0_2 l0_2.length c0_2]] rfl (by (try simp only [mA,mC,mN]);first|done|rfl|(simp only [List.length_drop,List.length_take];rfl)) ?_;(with_reducible refine (spec_WaveList.calls k a0_0 _ _ l0_1 _ _ l0_2 t283 _ ?side1 ?side2 ?side3 ?side4 A4.out).mono ?_);(case side1=>repeat (first|exact (Kd.C_below HR0_1.out HB.out)|(with_reducible first|apply aC|apply nC|apply dC)));(case side2=>exact HC0_1.out);(case side3=>repeat (first|exact (Kd.C_below HR0_2.out HB.out)|(with_reducible first|apply aC|apply nC|apply dC)));(case side4=>exact HC0_2.out);rintro e w7 ⟨v284,rfl,ho0,hb⟩;refine⟨_,rfl,?_⟩;have n0_:=mk0 (Kd.R_lower ho0 (below_size (by repeat (first|(with_reducible first|exact HB.out|apply aZ|apply nZ|apply dZ|refine sZ ?_ GE282.out)|exact HB.out))));have n1_:=mk0 (blk_below (g:=gb282) (o:=.cells #[.int .i64 a0_0,.slice A0_1 l0_1.length c0_1,.slice A0_2 l0_2.length c0_2] 30 (0,0)) (by (with_reducible repeat (first|apply nB|apply dB|apply aB));exact BK282.out) hb);have n2_:=mk0 (below_step (by repeat (first|(with_reducible first|exact HB.out|apply aZ|apply nZ|apply dZ|refine sZ ?_ GE282.out)|exact HB.out)) hb);clear BK282 HB;have HO285:=n0_;have BK282:=n1_;have HB:=n2_;clear n0_ n1_ n2_;(try clear hb);(try clear hb2);(try clear hk);(try clear hi);(try clear ho0)))
 go_loopg [2,8] k (fun kq v2 v8 w'=>∃ (x2_1:Int) (x8_1:Int),v2 = .int .i64 x2_1 ∧ v8 = .int .i64 x8_1 ∧ Aside0 (spec_WaveSelect.l0 kq a1 x2_1 x8_1 t283 = some r) ∧ Aside0 (kq ≤ k) ∧ Aside0 (Kd.R (Kd.int .i64) 3 w' w.heap.size (fun _=>True) v284 t283) ∧ Aside0 (w'.heap[gb282]? = some (.cells #[.int .i64 a0_0,(.slice A0_1 l0_1.length c0_1),(.slice A0_2 l0_2.length c0_2)] 30 (0,0))) ∧ Aside0 (Below w.heap.size w w'))
 case atStart=>exact⟨(a2),(0),(by first|rfl|(simp;done)|(simp [*];done)),(by first|rfl|(simp;done)|(simp [*];done)),H',⟨Nat.le_refl _⟩,⟨by (with_reducible repeat (first|apply aR|apply nR|apply dR));exact HO285.out⟩,⟨by (with_reducible repeat (first|apply nB|apply dB|apply aB));exact BK282.out⟩,⟨by repeat (first|(with_reducible first|exact HB.out|apply aZ|apply nZ|apply dZ|refine sZ ?_ GE282.out)|exact HB.out)⟩⟩
 case round =>
  clear H'
  try clear c2
  try clear p2
  try clear hcz6_0
  try clear hcz6_1
  try clear hcz6_2
  try clear hfz6_0
  try clear hfz6_1
  try clear hfz6_2
  obtain⟨x2_1,x8_1,rfl,rfl,HA,HK1,HO_10,BK282,HB⟩:=hrel
  cases gk with
  | zero=>exact absurd HA.out (by simp [spec_WaveSelect.l0])
  | succ k1 =>
   have H:=HA.out
   clear HA
   simp only [spec_WaveSelect.l0] at H
   by_cases c8:x8_1 < (t283.length:Int)
   ·rw [if_pos c8] at H
    have c8b0:decide (x8_1 < (t283.length:Int)) = true:=decide_eq_true c8
    clear c8
    by_cases c9:0 ≤ x8_1
    ·rw [if_pos c9] at H
     have c9b0:decide (0 ≤ x8_1) = true:=decide_eq_true c9
     clear c9
     by_cases c10:(rd t283 x8_1) = a1
     ·rw [if_pos c10] at H
      have c10b0:((rd t283 x8_1) == a1) = true:=beq_iff_eq.mpr c10
      have c10b1:((rd t283 x8_1) != a1) = false:=bne_eq_false_iff_eq.mpr c10
      clear c10
      by_cases c11:x2_1 = 0
      ·rw [if_pos c11] at H
       have c11b0:(x2_1 == 0) = true:=beq_iff_eq.mpr c11
       have c11b1:(x2_1 != 0) = false:=bne_eq_false_iff_eq.mpr c11
       clear c11
       obtain rfl:=Option.some.inj H
       obtain⟨Ao12,co12,eo12⟩:=Kd.R_slice HO_10.out
       subst eo12
       have p286:0 ≤ (x8_1:Int):=of_decide_eq_true (by first|(with_reducible assumption)|assumption)
       have q286:x8_1 < (t283.length:Int):=of_decide_eq_true (by first|(with_reducible assumption)|assumption)
       obtain⟨ad286,e286,hx286_0⟩:=Kd.at_int (Kd.R_reads' HO_10.out).2.2 x8_1 p286 q286
       cases e286
       replace p286:=eq_true p286
       replace q286:=eq_true q286
       go_wp2
       go_ret
       exact⟨by first|rfl|(simp [errW_none,errW_some] <;> rfl)|(simp [*,errW_none,errW_some] <;> rfl),by repeat (first|(with_reducible first|exact HB.out|apply aZ|apply nZ|apply dZ|refine sZ ?_ GE282.out)|exact HB.out)⟩
      ·rw [if_neg c11] at H
       have c11b0:(x2_1 == 0) = false:=beq_eq_false_iff_ne.mpr c11
       have c11b1:(x2_1 != 0) = true:=bne_iff_ne.mpr c11
       have H':=mk0 H
       clear H
       obtain⟨Ao13,co13,eo13⟩:=Kd.R_slice HO_10.out
       subst eo13
       have p286:0 ≤ (x8_1:Int):=of_decide_eq_true (by first|(with_reducible assumption)|assumption)
       have q286:x8_1 < (t283.length:Int):=of_decide_eq_true (by first|(with_reducible assumption)|assumption)
       obtain⟨ad286,e286,hx286_0⟩:=Kd.at_int (Kd.R_reads' HO_10.out).2.2 x8_1 p286 q286
       cases e286
       replace p286:=eq_true p286
       replace q286:=eq_true q286
       go_wp2
       go_roundg k1
       case measure=>have:=HK1.out;omega
       case rel=>exact⟨(wrap64 (x2_1 - 1)),(wrap64 (x8_1 + 1)),(by first|rfl|(simp;done)|(simp [*];done)),(by first|rfl|(simp;done)|(simp [*];done)),H',⟨by have:=HK1.out;omega⟩,⟨by (with_reducible repeat (first|apply aR|apply nR|apply dR));exact HO_10.out⟩,⟨by (with_reducible repeat (first|apply nB|apply dB|apply aB));exact BK282.out⟩,⟨by repeat (first|(with_reducible first|exact HB.out|apply aZ|apply nZ|apply dZ|refine sZ ?_ GE282.out)|exact HB.out)⟩⟩
     ·rw [if_neg c10] at H
      have c10b0:((rd t283 x8_1) == a1) = false:=beq_eq_false_iff_ne.mpr c10
      have c10b1:((rd t283 x8_1) != a1) = true:=bne_iff_ne.mpr c10
      have H':=mk0 H
      clear H
      obtain⟨Ao14,co14,eo14⟩:=Kd.R_slice HO_10.out
      subst eo14
      have p286:0 ≤ (x8_1:Int):=of_decide_eq_true (by first|(with_reducible assumption)|assumption)
      have q286:x8_1 < (t283.length:Int):=of_decide_eq_true (by first|(with_reducible assumption)|assumption)
      obtain⟨ad286,e286,hx286_0⟩:=Kd.at_int (Kd.R_reads' HO_10.out).2.2 x8_1 p286 q286
      cases e286
      replace p286:=eq_true p286
      replace q286:=eq_true q286
      go_wp2
      go_roundg k1
      case measure=>have:=HK1.out;omega
      case rel=>exact⟨(x2_1),(wrap64 (x8_1 + 1)),(by first|rfl|(simp;done)|(simp [*];done)),(by first|rfl|(simp;done)|(simp [*];done)),H',⟨by have:=HK1.out;omega⟩,⟨by (with_reducible repeat (first|apply aR|apply nR|apply dR));exact HO_10.out⟩,⟨by (with_reducible repeat (first|apply nB|apply dB|apply aB));exact BK282.out⟩,⟨by repeat (first|(with_reducible first|exact HB.out|apply aZ|apply nZ|apply dZ|refine sZ ?_ GE282.out)|exact HB.out)⟩⟩
    ·rw [if_neg c9] at H
     exact absurd H (by simp)
   ·rw [if_neg c8] at H
    have c8b0:decide (x8_1 < (t283.length:Int)) = false:=decide_eq_false c8
    clear c8
    obtain rfl:=Option.some.inj H
    obtain⟨Ao15,co15,eo15⟩:=Kd.R_slice HO_10.out
    subst eo15
    go_wp2
    go_ret
    exact⟨by first|rfl|(simp [errW_none,errW_some] <;> rfl)|(simp [*,errW_none,errW_some] <;> rfl),by repeat (first|(with_reducible first|exact HB.out|apply aZ|apply nZ|apply dZ|refine sZ ?_ GE282.out)|exact HB.out)⟩

/-! ### laws_FnExactWaveSelect: function 7 -/
def laws_FnExactWaveSelect.f (k : Nat) (a0_0 : Int) (l0_1 : List Int) (l0_2 : List (S74)) (a1 : Int) (a2 : Int) : Option (Bool) := (laws_szWave.f k a0_0 l0_1 l0_2 1048576).bind fun t288 => (if t288 < 0 then (some true) else ((laws_toWave.f k a0_0 l0_1 l0_2).bind fun bt289 => ((spec_WaveSelect.f k bt289.1 bt289.2.1 bt289.2.2 a1 a2).bind fun t296 => ((laws_toWave.f k a0_0 l0_1 l0_2).bind fun bt297 => ((impl_WaveSelect.f k bt297.1 bt297.2.1 bt297.2.2 a1 a2).bind fun t305 => (if t305 = t296 then ((laws_toWave.f k a0_0 l0_1 l0_2).bind fun bt306 => ((laws_eqWave.f k bt297.1 bt297.2.1 bt297.2.2 bt306.1 bt306.2.1 bt306.2.2).bind fun t313 => (if t313 = true then (some true) else (some false)))) else (some false)))))))
theorem laws_FnExactWaveSelect.mono : ∀ a0 a1 a2 a3 a4 k, LeO (laws_FnExactWaveSelect.f k a0 a1 a2 a3 a4) (laws_FnExactWaveSelect.f (k + 1) a0 a1 a2 a3 a4) := by
 intro a0 a1 a2 a3 a4 k
 unfold laws_FnExactWaveSelect.f
 repeat' first|(with_reducible first|exact impl_WaveSelect.mono _ _ _ _ _ _|exact laws_eqWave.mono _ _ _ _ _ _ _|exact laws_szWave.mono _ _ _ _ _|exact laws_toWave.mono _ _ _ _|exact spec_WaveSelect.mono _ _ _ _ _ _|exact LeO.refl _|exact LeO.none _|refine LeO.ite ?_ ?_|refine LeO.bind ?_ (fun _ => ?_))|exact LeO.none _|refine LeO.ite ?_ ?_|refine LeO.bind ?_ (fun _ => ?_)
set_option maxHeartbeats 8000000 in
set_option maxRecDepth 100000 in
theorem laws_FnExactWaveSelect.calls (k : Nat) (a0_0 : Int) (A0_1 : Option Addr) (c0_1 : Nat) (l0_1 : List Int) (A0_2 : Option Addr) (c0_2 : Nat) (l0_2 : List (S74)) (a1 : Int) (a2 : Int) (r : Bool) (w : World) (hr0_1 : Kd.C (Kd.int .i64) w A0_1 l0_1.length l0_1) (hc0_1 : l0_1.length ≤ c0_1) (hr0_2 : Kd.C k74 w A0_2 l0_2.length l0_2) (hc0_2 : l0_2.length ≤ c0_2) (h : laws_FnExactWaveSelect.f k a0_0 l0_1 l0_2 a1 a2 = some r) :
  Calls Try.prog 7 #[.agg #[.int .i64 a0_0, .slice A0_1 l0_1.length c0_1, .slice A0_2 l0_2.length c0_2], .int .i64 a1, .int .i64 a2] w fun e w' => e = .returned (.bool r) ∧ Below w.heap.size w w' := by
 have hu25:=Try.underlying25
 have hu30:=Try.underlying30
 have HR0_1:=mk0 hr0_1
 have HC0_1:=mk0 hc0_1
 clear hr0_1 hc0_1
 have HR0_2:=mk0 hr0_2
 have HC0_2:=mk0 hc0_2
 clear hr0_2 hc0_2
 have HB:=mk0 (Below.refl w.heap.size w)
 have H:((laws_szWave.f k a0_0 l0_1 l0_2 1048576).bind fun t288=>(if t288 < 0 then (some true) else ((laws_toWave.f k a0_0 l0_1 l0_2).bind fun bt289=>((spec_WaveSelect.f k bt289.1 bt289.2.1 bt289.2.2 a1 a2).bind fun t296=>((laws_toWave.f k a0_0 l0_1 l0_2).bind fun bt297=>((impl_WaveSelect.f k bt297.1 bt297.2.1 bt297.2.2 a1 a2).bind fun t305=>(if t305 = t296 then ((laws_toWave.f k a0_0 l0_1 l0_2).bind fun bt306=>((laws_eqWave.f k bt297.1 bt297.2.1 bt297.2.2 bt306.1 bt306.2.1 bt306.2.2).bind fun t313=>(if t313 = true then (some true) else (some false)))) else (some false)))))))) = some r:=h
 clear h
 replace H:=Option.bind_eq_some_iff.mp H
 obtain⟨t288,A40,H⟩:=H
 replace H:(if t288 < 0 then (some true) else ((laws_toWave.f k a0_0 l0_1 l0_2).bind fun bt289=>((spec_WaveSelect.f k bt289.1 bt289.2.1 bt289.2.2 a1 a2).bind fun t296=>((laws_toWave.f k a0_0 l0_1 l0_2).bind fun bt297=>((impl_WaveSelect.f k bt297.1 bt297.2.1 bt297.2.2 a1 a2).bind fun t305=>(if t305 = t296 then ((laws_toWave.f k a0_0 l0_1 l0_2).bind fun bt306=>((laws_eqWave.f k bt297.1 bt297.2.1 bt297.2.2 bt306.1 bt306.2.1 bt306.2.2).bind fun t313=>(if t313 = true then (some true) else (some false)))) else (some false))))))) = some r:=H
 have A4:=mk0 A40
 clear A40
 by_cases c5:t288 < 0
 ·rw [if_pos c5] at H
  have c5b0:decide (t288 < 0) = true:=decide_eq_true c5
  clear c5
  obtain rfl:=Option.some.inj H
  go_enter Try.func7,Try.ntmps7
  go_wp2_with (first|((with_reducible refine gate_dst (N:=3) rfl ?_);refine box_event ?hg (N:=3) ?hd (cs:=#[.int .i64 a0_0,.slice A0_1 l0_1.length c0_1,.slice A0_2 l0_2.length c0_2]) (t:=25) ?hr ?_;(case hd=>rfl);(case hg=>rfl);(case hr=>first|(go_simp;done)|(go_simp;rfl));intro gb287 hg w6 hbox hb;have n0_:=mk0 (below_step (by repeat (first|(with_reducible first|exact HB.out|apply aZ|apply nZ|apply dZ)|exact HB.out)) hb);have n1_:=mk0 (hbox);have n2_:=mk0 ((by rw [hg];exact (below_size (by repeat (first|(with_reducible first|exact HB.out|apply aZ|apply nZ|apply dZ)|exact HB.out))):w.heap.size ≤ gb287));have n3_:=mk0 ((by rw [hg];exact (below_size (by repeat (first|(with_reducible first|exact HB.out|apply aZ|apply nZ|apply dZ)|exact HB.out))):w.heap.size ≤ gb287));clear HB;have HB:=n0_;have BK287:=n1_;have GW287:=n2_;have GE287:=n3_;clear n0_ n1_ n2_ n3_ hb hbox hg;have hcz7_0:w6.cell? ⟨gb287,0,none⟩ = some (.int .i64 a0_0):=(blk_cell BK287.out 0).trans rfl;have hcz7_1:w6.cell? ⟨gb287,1,none⟩ = some (.slice A0_1 l0_1.length c0_1):=(blk_cell BK287.out 1).trans rfl;have hcz7_2:w6.cell? ⟨gb287,2,none⟩ = some (.slice A0_2 l0_2.length c0_2):=(blk_cell BK287.out 2).trans rfl;have hfz7_0:=blk_frozen BK287.out 0;have hfz7_1:=blk_frozen BK287.out 1;have hfz7_2:=blk_frozen BK287.out 2)|((with_reducible refine gate_callee (f:=9) rfl ?_);refine goesL_ (some 13) rfl rfl Try.func9 (by kernel_rfl) rfl #[.agg #[.int .i64 a0_0,.slice A0_1 l0_1.length c0_1,.slice A0_2 l0_2.length c0_2],.int .i64 1048576] rfl (by (try simp only [mA,mC,mN]);first|done|rfl|(simp only [List.length_drop,List.length_take];rfl)) ?_;(with_reducible refine (laws_szWave.calls k a0_0 _ _ l0_1 _ _ l0_2 1048576 t288 _ ?side1 ?side2 ?side3 ?side4 A4.out).mono ?_);(case side1=>repeat (first|exact (Kd.C_below HR0_1.out HB.out)|(with_reducible first|apply aC|apply nC|apply dC)));(case side2=>exact HC0_1.out);(case side3=>repeat (first|exact (Kd.C_below HR0_2.out HB.out)|(with_reducible first|apply aC|apply nC|apply dC)));(case side4=>exact HC0_2.out);rintro e w8 ⟨rfl,hb⟩;refine⟨_,rfl,?_⟩;have n0_:=mk0 (blk_below (g:=gb287) (o:=.cells #[.int .i64 a0_0,.slice A0_1 l0_1.length c0_1,.slice A0_2 l0_2.length c0_2] 25 (0,0)) (by (with_reducible repeat (first|apply nB|apply dB|apply aB));exact BK287.out) hb);have n1_:=mk0 (below_step (by repeat (first|(with_reducible first|exact HB.out|apply aZ|apply nZ|apply dZ|refine sZ ?_ GE287.out)|exact HB.out)) hb);clear BK287 HB;have BK287:=n0_;have HB:=n1_;clear n0_ n1_;(try clear hb);(try clear hb2);(try clear hk);(try clear hi)))
  go_ret
  exact⟨by first|rfl|(simp [errW_none,errW_some] <;> rfl)|(simp [*,errW_none,errW_some] <;> rfl),by repeat (first|(with_reducible first|exact HB.out|apply aZ|apply nZ|apply dZ|refine sZ ?_ GE287.out)|exact HB.out)⟩
 rw [if_neg c5] at H
 have c5b0:decide (t288 < 0) = false:=decide_eq_false c5
 clear c5
 replace H:=Option.bind_eq_some_iff.mp H
 obtain⟨⟨t289,t290,t293⟩,A90,H⟩:=H
 replace H:((spec_WaveSelect.f k t289 t290 t293 a1 a2).bind fun t296=>((laws_toWave.f k a0_0 l0_1 l0_2).bind fun bt297=>((impl_WaveSelect.f k bt297.1 bt297.2.1 bt297.2.2 a1 a2).bind fun t305=>(if t305 = t296 then ((laws_toWave.f k a0_0 l0_1 l0_2).bind fun bt306=>((laws_eqWave.f k bt297.1 bt297.2.1 bt297.2.2 bt306.1 bt306.2.1 bt306.2.2).bind fun t313=>(if t313 = true then (some true) else (some false)))) else (some false))))) = some r:=H
 have A9:=mk0 A90
 clear A90
 replace H:=Option.bind_eq_some_iff.mp H
 obtain⟨t296,A100,H⟩:=H
 replace H:((laws_toWave.f k a0_0 l0_1 l0_2).bind fun bt297=>((impl_WaveSelect.f k bt297.1 bt297.2.1 bt297.2.2 a1 a2).bind fun t305=>(if t305 = t296 then ((laws_toWave.f k a0_0 l0_1 l0_2).bind fun bt306=>((laws_eqWave.f k bt297.1 bt297.2.1 bt297.2.2 bt306.1 bt306.2.1 bt306.2.2).bind fun t313=>(if t313 = true then (some true) else (some false)))) else (some false)))) = some r:=H
 have A10:=mk0 A100
 clear A100
 replace H:=Option.bind_eq_some_iff.mp H
 obtain⟨⟨t297,t298,t301⟩,A110,H⟩:=H
 replace H:((impl_WaveSelect.f k t297 t298 t301 a1 a2).bind fun t305=>(if t305 = t296 then ((laws_toWave.f k a0_0 l0_1 l0_2).bind fun bt306=>((laws_eqWave.f k t297 t298 t301 bt306.1 bt306.2.1 bt306.2.2).bind fun t313=>(if t313 = true then (some true) else (some false)))) else (some false))) = some r:=H
 have A11:=mk0 A110
 clear A110
 replace H:=Option.bind_eq_some_iff.mp H
 obtain⟨t305,A120,H⟩:=H
 replace H:(if t305 = t296 then ((laws_toWave.f k a0_0 l0_1 l0_2).bind fun bt306=>((laws_eqWave.f k t297 t298 t301 bt306.1 bt306.2.1 bt306.2.2).bind fun t313=>(if t313 = true then (some true) else (some false)))) else (some false)) = some r:=H
 have A12:=mk0 A120
 clear A120
 by_cases c13:t305 = t296
 rotate_left
 ·rw [if_neg c13] at H
  have c13b0:(t305 == t296) = false:=beq_eq_false_iff_ne.mpr c13
  have c13b1:(t305 != t296) = true:=bne_iff_ne.mpr c13
  obtain rfl:=Option.some.inj H
  go_enter Try.func7,Try.ntmps7
  go_wp2_with (first|((with_reducible refine gate_dst (N:=3) rfl ?_);refine box_event ?hg (N:=3) ?hd (cs:=#[.int .i64 a0_0,.slice A0_1 l0_1.length c0_1,.slice A0_2 l0_2.length c0_2]) (t:=25) ?hr ?_;(case hd=>rfl);(case hg=>rfl);(case hr=>first|(go_simp;done)|(go_simp;rfl));intro gb287 hg w59 hbox hb;have n0_:=mk0 (below_step (by repeat (first|(with_reducible first|exact HB.out|apply aZ|apply nZ|apply dZ)|exact HB.out)) hb);have n1_:=mk0 (hbox);have n2_:=mk0 ((by rw [hg];exact (below_size (by repeat (first|(with_reducible first|exact HB.out|apply aZ|apply nZ|apply dZ)|exact HB.out))):w.heap.size ≤ gb287));have n3_:=mk0 ((by rw [hg];exact (below_size (by repeat (first|(with_reducible first|exact HB.out|apply aZ|apply nZ|apply dZ)|exact HB.out))):w.heap.size ≤ gb287));clear HB;have HB:=n0_;have BK287:=n1_;have GW287:=n2_;have GE287:=n3_;clear n0_ n1_ n2_ n3_ hb hbox hg;have hcz60_0:w59.cell? ⟨gb287,0,none⟩ = some (.int .i64 a0_0):=(blk_cell BK287.out 0).trans rfl;have hcz60_1:w59.cell? ⟨gb287,1,none⟩ = some (.slice A0_1 l0_1.length c0_1):=(blk_cell BK287.out 1).trans rfl;have hcz60_2:w59.cell? ⟨gb287,2,none⟩ = some (.slice A0_2 l0_2.length c0_2):=(blk_cell BK287.out 2).trans rfl;have hfz60_0:=blk_frozen BK287.out 0;have hfz60_1:=blk_frozen BK287.out 1;have hfz60_2:=blk_frozen BK287.out 2)|((with_reducible refine gate_callee (f:=9) rfl ?_);refine goesL_ (some 13) rfl rfl Try.func9 (by kernel_rfl) rfl #[.agg #[.int .i64 a0_0,.slice A0_1 l0_1.length c0_1,.slice A0_2 l0_2.length c0_2],.int .i64 1048576] rfl (by (try simp only [mA,mC,mN]);first|done|rfl|(simp only [List.length_drop,List.length_take];rfl)) ?_;(with_reducible refine (laws_szWave.calls k a0_0 _ _ l0_1 _ _ l0_2 1048576 t288 _ ?side1 ?side2 ?side3 ?side4 A4.out).mono ?_);(case side1=>repeat (first|exact (Kd.C_below HR0_1.out HB.out)|(with_reducible first|apply aC|apply nC|apply dC)));(case side2=>exact HC0_1.out);(case side3=>repeat (first|exact (Kd.C_below HR0_2.out HB.out)|(with_reducible first|apply aC|apply nC|apply dC)));(case side4=>exact HC0_2.out);rintro e w61 ⟨rfl,hb⟩;refine⟨_,rfl,?_⟩;have n0_:=mk0 (blk_below (g:=gb287) (o:=.cells #[.int .i64 a0_0,.slice A0_1 l0_1.length c0_1,.slice A0_2 l0_2.length c0_2] 25 (0,0)) (by (with_reducible repeat (first|apply nB|apply dB|apply aB));exact BK287.out) hb);have n1_:=mk0 (below_step (by repeat (first|(with_reducible first|exact HB.out|apply aZ|apply nZ|apply dZ|refine sZ ?_ GE287.out)|exact HB.out)) hb);clear BK287 HB;have BK287:=n0_;have HB:=n1_;clear n0_ n1_;(try clear hb);(try clear hb2);(try clear hk);(try clear hi);have hcz62_0:w61.cell? ⟨gb287,0,none⟩ = some (.int .i64 a0_0):=(blk_cell BK287.out 0).trans rfl;have hcz62_1:w61.cell? ⟨gb287,1,none⟩ = some (.slice A0_1 l0_1.length c0_1):=(blk_cell BK287.out 1).trans rfl;have hcz62_2:w61.cell? ⟨gb287,2,none⟩ = some (.slice A0_2 l0_2.length c0_2):=(blk_cell BK287.out 2).trans rfl;have hfz62_0:=blk_frozen BK287.out 0;have hfz62_1:=blk_frozen BK287.out 1;have hfz62_2:=blk_frozen BK287.out 2)|((with_reducible refine gate_callee (f:=11) rfl ?_);refine goesL_ (some 17) rfl rfl Try.func11 (by kernel_rfl) rfl #[.agg #[.int .i64 a0_0,.slice A0_1 l0_1.length c0_1,.slice A0_2 l0_2.length c0_2]] rfl (by (try simp only [mA,mC,mN]);first|done|rfl|(simp only [List.length_drop,List.length_take];rfl)) ?_;(with_reducible refine (laws_toWave.calls k a0_0 _ _ l0_1 _ _ l0_2 t289 t290 t293 _ ?side1 ?side2 ?side3 ?side4 A9.out).mono ?_);(case side1=>repeat (first|exact (Kd.C_below HR0_1.out HB.out)|(with_reducible first|apply aC|apply nC|apply dC)));(case side2=>exact HC0_1.out);(case side3=>repeat (first|exact (Kd.C_below HR0_2.out HB.out)|(with_reducible first|apply aC|apply nC|apply dC)));(case side4=>exact HC0_2.out);rintro e w63 ⟨v291,v294,rfl,ho0,ho1,hb⟩;refine⟨_,rfl,?_⟩;have n0_:=mk0 (Kd.R_lower ho0 (below_size (by repeat (first|(with_reducible first|exact HB.out|apply aZ|apply nZ|apply dZ|refine sZ ?_ GE287.out)|exact HB.out))));have n1_:=mk0 (Kd.S_lower ho1 (below_size (by repeat (first|(with_reducible first|exact HB.out|apply aZ|apply nZ|apply dZ|refine sZ ?_ GE287.out)|exact HB.out))));have n2_:=mk0 (blk_below (g:=gb287) (o:=.cells #[.int .i64 a0_0,.slice A0_1 l0_1.length c0_1,.slice A0_2 l0_2.length c0_2] 25 (0,0)) (by (with_reducible repeat (first|apply nB|apply dB|apply aB));exact BK287.out) hb);have n3_:=mk0 (below_step (by repeat (first|(with_reducible first|exact HB.out|apply aZ|apply nZ|apply dZ|refine sZ ?_ GE287.out)|exact HB.out)) hb);clear BK287 HB;have HO292:=n0_;have HO295:=n1_;have BK287:=n2_;have HB:=n3_;clear n0_ n1_ n2_ n3_;(try clear hb);(try clear hb2);(try clear hk);(try clear hi);(try clear ho0);(try clear ho1);obtain⟨Ao64,co64,eo64⟩:=Kd.R_slice HO292.out;subst eo64;obtain⟨Ao65,co65,eo65⟩:=Kd.S_slice HO295.out;subst eo65)|((with_reducible refine gate_callee (f:=28) rfl ?_);refine goesL_ (some 20) rfl rfl Try.func28 (by kernel_rfl) rfl #[.agg #[.int .i64 t289,.slice Ao64 t290.length co64,.slice Ao65 t293.length co65],.int .i64 a1,.int .i64 a2] rfl (by (try simp only [mA,mC,mN]);first|done|rfl|(simp only [List.length_drop,List.length_take];rfl)) ?_;(with_reducible refine (spec_WaveSelect.calls k t289 _ _ t290 _ _ t293 a1 a2 t296 _ ?side1 ?side2 ?side3 ?side4 A10.out).mono ?_);(case side1=>repeat (first|exact (Kd.R_reads' HO292.out).2.2|(with_reducible first|apply aC|apply nC|apply dC)));(case side2=>exact (Kd.R_reads' HO292.out).2.1);(case side3=>repeat (first|exact (Kd.S_reads' HO295.out).2.2|(with_reducible first|apply aC|apply nC|apply dC)));(case side4=>exact (Kd.S_reads' HO295.out).2.1);rintro e w66 ⟨rfl,hb⟩;refine⟨_,rfl,?_⟩;have n0_:=mk0 (Kd.R_below (by (with_reducible repeat (first|apply aR|apply nR|apply dR));exact HO292.out) hb);have n1_:=mk0 (Kd.S_below (by (with_reducible repeat (first|apply aS|apply nS|apply dS));exact HO295.out) hb);have n2_:=mk0 (blk_below (g:=gb287) (o:=.cells #[.int .i64 a0_0,.slice A0_1 l0_1.length c0_1,.slice A0_2 l0_2.length c0_2] 25 (0,0)) (by (with_reducible repeat (first|apply nB|apply dB|apply aB));exact BK287.out) hb);have n3_:=mk0 (below_step (by repeat (first|(with_reducible first|exact HB.out|apply aZ|apply nZ|apply dZ|refine sZ ?_ GE287.out)|exact HB.out)) hb);clear HO292 HO295 BK287 HB;have HO292:=n0_;have HO295:=n1_;have BK287:=n2_;have HB:=n3_;clear n0_ n1_ n2_ n3_;(try clear hb);(try clear hb2);(try clear hk);(try clear hi);have hcz67_0:w66.cell? ⟨gb287,0,none⟩ = some (.int .i64 a0_0):=(blk_cell BK287.out 0).trans rfl;have hcz67_1:w66.cell? ⟨gb287,1,none⟩ = some (.slice A0_1 l0_1.length c0_1):=(blk_cell BK287.out 1).trans rfl;have hcz67_2:w66.cell? ⟨gb287,2,none⟩ = some (.slice A0_2 l0_2.length c0_2):=(blk_cell BK287.out 2).trans rfl;have hfz67_0:=blk_frozen BK287.out 0;have hfz67_1:=blk_frozen BK287.out 1;have hfz67_2:=blk_frozen BK287.out 2)|((with_reducible refine gate_callee (f:=11) rfl ?_);refine goesL_ (some 22) rfl rfl Try.func11 (by kernel_rfl) rfl #[.agg #[.int .i64 a0_0,.slice A0_1 l0_1.length c0_1,.slice A0_2 l0_2.length c0_2]] rfl (by (try simp only [mA,mC,mN]);first|done|rfl|(simp only [List.length_drop,List.length_take];rfl)) ?_;(with_reducible refine (laws_toWave.calls k a0_0 _ _ l0_1 _ _ l0_2 t297 t298 t301 _ ?side1 ?side2 ?side3 ?side4 A11.out).mono ?_);(case side1=>repeat (first|exact (Kd.C_below HR0_1.out HB.out)|(with_reducible first|apply aC|apply nC|apply dC)));(case side2=>exact HC0_1.out);(case side3=>repeat (first|exact (Kd.C_below HR0_2.out HB.out)|(with_reducible first|apply aC|apply nC|apply dC)));(case side4=>exact HC0_2.out);rintro e w68 ⟨v299,v302,rfl,ho0,ho1,hb⟩;refine⟨_,rfl,?_⟩;have n0_:=mk0 (Kd.R_elder' (by (with_reducible repeat (first|apply aR|apply nR|apply dR));exact HO292.out) (Kd.R_base ho0) hb);have n1_:=mk0 (Kd.S_elder' (by (with_reducible repeat (first|apply aS|apply nS|apply dS));exact HO295.out) (Kd.S_base ho1) hb);have n2_:=mk0 (Kd.R_lower (Kd.R_new' ho0 (Kd.R_lt (by (with_reducible repeat (first|apply aR|apply nR|apply dR));exact HO292.out))) (below_size (by repeat (first|(with_reducible first|exact HB.out|apply aZ|apply nZ|apply dZ|refine sZ ?_ GE287.out)|exact HB.out))));have n3_:=mk0 (Kd.S_lower (Kd.S_new' ho1 (Kd.S_lt (by (with_reducible repeat (first|apply aS|apply nS|apply dS));exact HO295.out))) (below_size (by repeat (first|(with_reducible first|exact HB.out|apply aZ|apply nZ|apply dZ|refine sZ ?_ GE287.out)|exact HB.out))));have n4_:=mk0 (blk_below (g:=gb287) (o:=.cells #[.int .i64 a0_0,.slice A0_1 l0_1.length c0_1,.slice A0_2 l0_2.length c0_2] 25 (0,0)) (by (with_reducible repeat (first|apply nB|apply dB|apply aB));exact BK287.out) hb);have n5_:=mk0 (below_step (by repeat (first|(with_reducible first|exact HB.out|apply aZ|apply nZ|apply dZ|refine sZ ?_ GE287.out)|exact HB.out)) hb);clear HO292 HO295 BK287 HB;have HO292:=n0_;have HO295:=n1_;have HO300:=n2_;have HO303:=n3_;have BK287:=n4_;have HB:=n5_;clear n0_ n1_ n2_ n3_ n4_ n5_;(try clear hb);(try clear hb2);(try clear hk);(try clear hi);(try clear ho0);(try clear ho1))|((with_reducible refine gate_dst (N:=9) rfl ?_);refine box_event ?hg (N:=9) ?hd (cs:=#[.int .i64 0,.slice none 0 0,.slice none 0 0]) (t:=30) ?hr ?_;(case hd=>rfl);(case hg=>rfl);(case hr=>first|(go_simp;done)|(go_simp;rfl));intro gb304 hg w69 hbox hb;have n0_:=mk0 (Kd.R_below (by (with_reducible repeat (first|apply aR|apply nR|apply dR));exact HO292.out) hb);have n1_:=mk0 (Kd.S_below (by (with_reducible repeat (first|apply aS|apply nS|apply dS));exact HO295.out) hb);have n2_:=mk0 (Kd.R_below (by (with_reducible repeat (first|apply aR|apply nR|apply dR));exact HO300.out) hb);have n3_:=mk0 (Kd.S_below (by (with_reducible repeat (first|apply aS|apply nS|apply dS));exact HO303.out) hb);have n4_:=mk0 (blk_below (g:=gb287) (o:=.cells #[.int .i64 a0_0,.slice A0_1 l0_1.length c0_1,.slice A0_2 l0_2.length c0_2] 25 (0,0)) (by (with_reducible repeat (first|apply nB|apply dB|apply aB));exact BK287.out) hb);have n5_:=mk0 (below_step (by repeat (first|(with_reducible first|exact HB.out|apply aZ|apply nZ|apply dZ|refine sZ ?_ GE287.out)|exact HB.out)) hb);have n6_:=mk0 (hbox);have n7_:=mk0 ((by rw [hg];exact (below_size (by repeat (first|(with_reducible first|exact HB.out|apply aZ|apply nZ|apply dZ|refine sZ ?_ GE287.out)|exact HB.out))):w.heap.size ≤ gb304));have n8_:=mk0 ((by rw [hg];exact (below_size (by repeat (first|(with_reducible first|exact HB.out|apply aZ|apply nZ|apply dZ|refine sZ ?_ GE287.out)|exact HB.out))):w.heap.size ≤ gb304));have n9_:=mk0 ((by rw [hg];exact Nat.ne_of_lt (blk_lt (g:=gb287) (o:=.cells #[.int .i64 a0_0,.slice A0_1 l0_1.length c0_1,.slice A0_2 l0_2.length c0_2] 25 (0,0)) (by (with_reducible repeat (first|apply nB|apply dB|apply aB));exact BK287.out)):gb287 ≠ gb304));have n10_:=mk0 ((by rw [hg];exact Nat.ne_of_gt (blk_lt (g:=gb287) (o:=.cells #[.int .i64 a0_0,.slice A0_1 l0_1.length c0_1,.slice A0_2 l0_2.length c0_2] 25 (0,0)) (by (with_reducible repeat (first|apply nB|apply dB|apply aB));exact BK287.out)):gb304 ≠ gb287));clear HO292 HO295 HO300 HO303 BK287 HB;have HO292:=n0_;have HO295:=n1_;have HO300:=n2_;have HO303:=n3_;have BK287:=n4_;have HB:=n5_;have BK304:=n6_;have GW304:=n7_;have GE304:=n8_;have NB287_304:=n9_;have NB304_287:=n10_;clear n0_ n1_ n2_ n3_ n4_ n5_ n6_ n7_ n8_ n9_ n10_ hb hbox hg;have hnb70:=NB304_287.out;have hnc70:=NB287_304.out;have hcz71_0:w69.cell? ⟨gb304,0,none⟩ = some (.int .i64 0):=(blk_cell BK304.out 0).trans rfl;have hcz71_1:w69.cell? ⟨gb304,1,none⟩ = some (.slice none 0 0):=(blk_cell BK304.out 1).trans rfl;have hcz71_2:w69.cell? ⟨gb304,2,none⟩ = some (.slice none 0 0):=(blk_cell BK304.out 2).trans rfl;have hfz71_0:=blk_frozen BK304.out 0;have hfz71_1:=blk_frozen BK304.out 1;have hfz71_2:=blk_frozen BK304.out 2;obtain⟨Ao72,co72,eo72⟩:=Kd.R_slice HO300.out;subst eo72;obtain⟨Ao73,co73,eo73⟩:=Kd.S_slice HO303.out;subst eo73)|((with_reducible refine gate_callee (f:=24) rfl ?_);refine goesL_ (some 26) rfl rfl Try.func24 (by kernel_rfl) rfl #[.agg #[.int .i64 t297,.slice Ao72 t298.length co72,.slice Ao73 t301.length co73],.int .i64 a1,.int .i64 a2] rfl (by (try simp only [mA,mC,mN]);first|done|rfl|(simp only [List.length_drop,List.length_take];rfl)) ?_;(with_reducible refine (impl_WaveSelect.calls k t297 _ _ t298 _ _ t301 a1 a2 t305 _ ?side1 ?side2 ?side3 ?side4 A12.out).mono ?_);(case side1=>refine (Kd.R_reads' (e:=3) (base:=w.heap.size) (ok:=fun k_=>(True ∧ some k_ ≠ (.slice Ao64 t290.length co64:Value).ownBlock)) (n:=t298.length) (c:=co72) ?_).2.2;exact (by (with_reducible repeat (first|apply aR|apply nR|apply dR));exact (Kd.R_mono (Kd.R_far (p:=⟨gb304,2,none⟩) (Kd.R_far (p:=⟨gb304,1,none⟩) (Kd.R_far (p:=⟨gb304,0,none⟩) (Kd.R_types HO300.out BK304.out (by decide)) (fun _ hk=>hk.2) (.int .i64 t297)) (fun _ hk=>hk.2) (.slice Ao72 t298.length co72)) (fun _ hk=>hk.2) (.slice Ao73 t301.length co73)) (fun _ h_=>h_.1))));(case side2=>exact (Kd.R_reads' HO300.out).2.1);(case side3=>refine (Kd.S_reads' (e:=64) (base:=w.heap.size) (ok:=fun k_=>(True ∧ some k_ ≠ (.slice Ao65 t293.length co65:Value).ownBlock)) (n:=t301.length) (c:=co73) ?_).2.2;exact (by (with_reducible repeat (first|apply aS|apply nS|apply dS));exact (Kd.S_mono (Kd.S_far (p:=⟨gb304,2,none⟩) (Kd.S_far (p:=⟨gb304,1,none⟩) (Kd.S_far (p:=⟨gb304,0,none⟩) (Kd.S_types HO303.out BK304.out (by decide)) (fun _ hk=>hk.2) (.int .i64 t297)) (fun _ hk=>hk.2) (.slice Ao72 t298.length co72)) (fun _ hk=>hk.2) (.slice Ao73 t301.length co73)) (fun _ h_=>h_.1))));(case side4=>exact (Kd.S_reads' HO303.out).2.1);rintro e w74 ⟨rfl,hb⟩;refine⟨_,rfl,?_⟩;have n0_:=mk0 (Kd.R_below (by (with_reducible repeat (first|apply aR|apply nR|apply dR));exact (Kd.R_mono (Kd.R_far (p:=⟨gb304,2,none⟩) (Kd.R_far (p:=⟨gb304,1,none⟩) (Kd.R_far (p:=⟨gb304,0,none⟩) (Kd.R_types HO292.out BK304.out (by decide)) (fun _ hk=>hk.2) (.int .i64 t297)) (fun _ hk=>hk.2) (.slice Ao72 t298.length co72)) (fun _ hk=>hk.2) (.slice Ao73 t301.length co73)) (fun _ h_=>h_.1))) hb);have n1_:=mk0 (Kd.S_below (by (with_reducible repeat (first|apply aS|apply nS|apply dS));exact (Kd.S_mono (Kd.S_far (p:=⟨gb304,2,none⟩) (Kd.S_far (p:=⟨gb304,1,none⟩) (Kd.S_far (p:=⟨gb304,0,none⟩) (Kd.S_types HO295.out BK304.out (by decide)) (fun _ hk=>hk.2) (.int .i64 t297)) (fun _ hk=>hk.2) (.slice Ao72 t298.length co72)) (fun _ hk=>hk.2) (.slice Ao73 t301.length co73)) (fun _ h_=>h_.1))) hb);have n2_:=mk0 (Kd.R_below (by (with_reducible repeat (first|apply aR|apply nR|apply dR));exact (Kd.R_mono (Kd.R_far (p:=⟨gb304,2,none⟩) (Kd.R_far (p:=⟨gb304,1,none⟩) (Kd.R_far (p:=⟨gb304,0,none⟩) (Kd.R_types HO300.out BK304.out (by decide)) (fun _ hk=>hk.2) (.int .i64 t297)) (fun _ hk=>hk.2) (.slice Ao72 t298.length co72)) (fun _ hk=>hk.2) (.slice Ao73 t301.length co73)) (fun _ h_=>h_.1))) hb);have n3_:=mk0 (Kd.S_below (by (with_reducible repeat (first|apply aS|apply nS|apply dS));exact (Kd.S_mono (Kd.S_far (p:=⟨gb304,2,none⟩) (Kd.S_far (p:=⟨gb304,1,none⟩) (Kd.S_far (p:=⟨gb304,0,none⟩) (Kd.S_types HO303.out BK304.out (by decide)) (fun _ hk=>hk.2) (.int .i64 t297)) (fun _ hk=>hk.2) (.slice Ao72 t298.length co72)) (fun _ hk=>hk.2) (.slice Ao73 t301.length co73)) (fun _ h_=>h_.1))) hb);have n4_:=mk0 (blk_below (g:=gb287) (o:=.cells #[.int .i64 a0_0,.slice A0_1 l0_1.length c0_1,.slice A0_2 l0_2.length c0_2] 25 (0,0)) (by (with_reducible repeat (first|apply nB|apply dB|apply aB));refine blk_far ?_ NB287_304.out _;(with_reducible repeat (first|apply nB|apply dB|apply aB));refine blk_far ?_ NB287_304.out _;(with_reducible repeat (first|apply nB|apply dB|apply aB));refine blk_far ?_ NB287_304.out _;(with_reducible repeat (first|apply nB|apply dB|apply aB));exact BK287.out) hb);have n5_:=mk0 (blk_below (g:=gb304) (o:=.cells #[.int .i64 t297,.slice Ao72 t298.length co72,.slice Ao73 t301.length co73] 30 (0,0)) (by (with_reducible repeat (first|apply nB|apply dB|apply aB));refine blk_put (cs:=#[.int .i64 t297,.slice Ao72 t298.length co72,.slice none 0 0]) ?_ 2 _ rfl;(with_reducible repeat (first|apply nB|apply dB|apply aB));refine blk_put (cs:=#[.int .i64 t297,.slice none 0 0,.slice none 0 0]) ?_ 1 _ rfl;(with_reducible repeat (first|apply nB|apply dB|apply aB));refine blk_put (cs:=#[.int .i64 0,.slice none 0 0,.slice none 0 0]) ?_ 0 _ rfl;(with_reducible repeat (first|apply nB|apply dB|apply aB));exact BK304.out) hb);have n6_:=mk0 (below_step (by repeat (first|(with_reducible first|exact HB.out|apply aZ|apply nZ|apply dZ|refine sZ ?_ GE287.out|refine sZ ?_ GE304.out)|exact HB.out)) hb);clear HO292 HO295 HO300 HO303 BK287 BK304 HB;have HO292:=n0_;have HO295:=n1_;have HO300:=n2_;have HO303:=n3_;have BK287:=n4_;have BK304:=n5_;have HB:=n6_;clear n0_ n1_ n2_ n3_ n4_ n5_ n6_;(try clear hb);(try clear hb2);(try clear hk);(try clear hi)))
  go_ret
  exact⟨by first|rfl|(simp [errW_none,errW_some] <;> rfl)|(simp [*,errW_none,errW_some] <;> rfl),by repeat (first|(with_reducible first|exact HB.out|apply aZ|apply nZ|apply dZ|refine sZ ?_ GE287.out|refine sZ ?_ GE304.out)|exact HB.out)⟩

 rw [if_pos c13] at H
 have c13b0:(t305 == t296) = true:=beq_iff_eq.mpr c13
 have c13b1:(t305 != t296) = false:=bne_eq_false_iff_eq.mpr c13
 clear c13
 replace H:=Option.bind_eq_some_iff.mp H
 obtain⟨⟨t306,t307,t310⟩,A140,H⟩:=H
 replace H:((laws_eqWave.f k t297 t298 t301 t306 t307 t310).bind fun t313=>(if t313 = true then (some true) else (some false))) = some r:=H
 have A14:=mk0 A140
 clear A140
 replace H:=Option.bind_eq_some_iff.mp H
 obtain⟨t313,A150,H⟩:=H
 replace H:(if t313 = true then (some true) else (some false)) = some r:=H
 have A15:=mk0 A150
 clear A150
 by_cases c16:t313 = true
 ·subst c16
  have H1:(some true) = some r:=by rw [if_pos rfl] at H;exact H
  clear H
  have H:=H1
  clear H1
  obtain rfl:=Option.some.inj H
  go_enter Try.func7,Try.ntmps7
  try go_wp2_with (first|((with_reducible refine gate_dst (N:=3) rfl ?_);refine box_event ?hg (N:=3) ?hd (cs:=#[.int .i64 a0_0,.slice A0_1 l0_1.length c0_1,.slice A0_2 l0_2.length c0_2]) (t:=25) ?hr ?_;(case hd=>rfl);(case hg=>rfl);(case hr=>first|(go_simp;done)|(go_simp;rfl));intro gb287 hg w17 hbox hb;have n0_:=mk0 (below_step (by repeat (first|(with_reducible first|exact HB.out|apply aZ|apply nZ|apply dZ)|exact HB.out)) hb);have n1_:=mk0 (hbox);have n2_:=mk0 ((by rw [hg];exact (below_size (by repeat (first|(with_reducible first|exact HB.out|apply aZ|apply nZ|apply dZ)|exact HB.out))):w.heap.size ≤ gb287));have n3_:=mk0 ((by rw [hg];exact (below_size (by repeat (first|(with_reducible first|exact HB.out|apply aZ|apply nZ|apply dZ)|exact HB.out))):w.heap.size ≤ gb287));clear HB;have HB:=n0_;have BK287:=n1_;have GW287:=n2_;have GE287:=n3_;clear n0_ n1_ n2_ n3_ hb hbox hg;have hcz18_0:w17.cell? ⟨gb287,0,none⟩ = some (.int .i64 a0_0):=(blk_cell BK287.out 0).trans rfl;have hcz18_1:w17.cell? ⟨gb287,1,none⟩ = some (.slice A0_1 l0_1.length c0_1):=(blk_cell BK287.out 1).trans rfl;have hcz18_2:w17.cell? ⟨gb287,2,none⟩ = some (.slice A0_2 l0_2.length c0_2):=(blk_cell BK287.out 2).trans rfl;have hfz18_0:=blk_frozen BK287.out 0;have hfz18_1:=blk_frozen BK287.out 1;have hfz18_2:=blk_frozen BK287.out 2)|((with_reducible refine gate_callee (f:=9) rfl ?_);refine goesL_ (some 13) rfl rfl Try.func9 (by kernel_rfl) rfl #[.agg #[.int .i64 a0_0,.slice A0_1 l0_1.length c0_1,.slice A0_2 l0_2.length c0_2],.int .i64 1048576] rfl (by (try simp only [mA,mC,mN]);first|done|rfl|(simp only [List.length_drop,List.length_take];rfl)) ?_;(with_reducible refine (laws_szWave.calls k a0_0 _ _ l0_1 _ _ l0_2 1048576 t288 _ ?side1 ?side2 ?side3 ?side4 A4.out).mono ?_);(case side1=>repeat (first|exact (Kd.C_below HR0_1.out HB.out)|(with_reducible first|apply aC|apply nC|apply dC)));(case side2=>exact HC0_1.out);(case side3=>repeat (first|exact (Kd.C_below HR0_2.out HB.out)|(with_reducible first|apply aC|apply nC|apply dC)));(case side4=>exact HC0_2.out);rintro e w19 ⟨rfl,hb⟩;refine⟨_,rfl,?_⟩;have n0_:=mk0 (blk_below (g:=gb287) (o:=.cells #[.int .i64 a0_0,.slice A0_1 l0_1.length c0_1,.slice A0_2 l0_2.length c0_2] 25 (0,0)) (by (with_reducible repeat (first|apply nB|apply dB|apply aB));exact BK287.out) hb);have n1_:=mk0 (below_step (by repeat (first|(with_reducible first|exact HB.out|apply aZ|apply nZ|apply dZ|refine sZ ?_ GE287.out)|exact HB.out)) hb);clear BK287 HB;have BK287:=n0_;have HB:=n1_;clear n0_ n1_;(try clear hb);(try clear hb2);(try clear hk);(try clear hi);have hcz20_0:w19.cell? ⟨gb287,0,none⟩ = some (.int .i64 a0_0):=(blk_cell BK287.out 0).trans rfl;have hcz20_1:w19.cell? ⟨gb287,1,none⟩ = some (.slice A0_1 l0_1.length c0_1):=(blk_cell BK287.out 1).trans rfl;have hcz20_2:w19.cell? ⟨gb287,2,none⟩ = some (.slice A0_2 l0_2.length c0_2):=(blk_cell BK287.out 2).trans rfl;have hfz20_0:=blk_frozen BK287.out 0;have hfz20_1:=blk_frozen BK287.out 1;have hfz20_2:=blk_frozen BK287.out 2)|((with_reducible refine gate_callee (f:=11) rfl ?_);refine goesL_ (some 17) rfl rfl Try.func11 (by kernel_rfl) rfl #[.agg #[.int .i64 a0_0,.slice A0_1 l0_1.length c0_1,.slice A0_2 l0_2.length c0_2]] rfl (by (try simp only [mA,mC,mN]);first|done|rfl|(simp only [List.length_drop,List.length_take];rfl)) ?_;(with_reducible refine (laws_toWave.calls k a0_0 _ _ l0_1 _ _ l0_2 t289 t290 t293 _ ?side1 ?side2 ?side3 ?side4 A9.out).mono ?_);(case side1=>repeat (first|exact (Kd.C_below HR0_1.out HB.out)|(with_reducible first|apply aC|apply nC|apply dC)));(case side2=>exact HC0_1.out);(case side3=>repeat (first|exact (Kd.C_below HR0_2.out HB.out)|(with_reducible first|apply aC|apply nC|apply dC)));(case side4=>exact HC0_2.out);rintro e w21 ⟨v291,v294,rfl,ho0,ho1,hb⟩;refine⟨_,rfl,?_⟩;have n0_:=mk0 (Kd.R_lower ho0 (below_size (by repeat (first|(with_reducible first|exact HB.out|apply aZ|apply nZ|apply dZ|refine sZ ?_ GE287.out)|exact HB.out))));have n1_:=mk0 (Kd.S_lower ho1 (below_size (by repeat (first|(with_reducible first|exact HB.out|apply aZ|apply nZ|apply dZ|refine sZ ?_ GE287.out)|exact HB.out))));have n2_:=mk0 (blk_below (g:=gb287) (o:=.cells #[.int .i64 a0_0,.slice A0_1 l0_1.length c0_1,.slice A0_2 l0_2.length c0_2] 25 (0,0)) (by (with_reducible repeat (first|apply nB|apply dB|apply aB));exact BK287.out) hb);have n3_:=mk0 (below_step (by repeat (first|(with_reducible first|exact HB.out|apply aZ|apply nZ|apply dZ|refine sZ ?_ GE287.out)|exact HB.out)) hb);clear BK287 HB;have HO292:=n0_;have HO295:=n1_;have BK287:=n2_;have HB:=n3_;clear n0_ n1_ n2_ n3_;(try clear hb);(try clear hb2);(try clear hk);(try clear hi);(try clear ho0);(try clear ho1);obtain⟨Ao22,co22,eo22⟩:=Kd.R_slice HO292.out;subst eo22;obtain⟨Ao23,co23,eo23⟩:=Kd.S_slice HO295.out;subst eo23)|((with_reducible refine gate_callee (f:=28) rfl ?_);refine goesL_ (some 20) rfl rfl Try.func28 (by kernel_rfl) rfl #[.agg #[.int .i64 t289,.slice Ao22 t290.length co22,.slice Ao23 t293.length co23],.int .i64 a1,.int .i64 a2] rfl (by (try simp only [mA,mC,mN]);first|done|rfl|(simp only [List.length_drop,List.length_take];rfl)) ?_;(with_reducible refine (spec_WaveSelect.calls k t289 _ _ t290 _ _ t293 a1 a2 t296 _ ?side1 ?side2 ?side3 ?side4 A10.out).mono ?_);(case side1=>repeat (first|exact (Kd.R_reads' HO292.out).2.2|(with_reducible first|apply aC|apply nC|apply dC)));(case side2=>exact (Kd.R_reads' HO292.out).2.1);(case side3=>repeat (first|exact (Kd.S_reads' HO295.out).2.2|(with_reducible first|apply aC|apply nC|apply dC)));(case side4=>exact (Kd.S_reads' HO295.out).2.1);rintro e w24 ⟨rfl,hb⟩;refine⟨_,rfl,?_⟩;have n0_:=mk0 (Kd.R_below (by (with_reducible repeat (first|apply aR|apply nR|apply dR));exact HO292.out) hb);have n1_:=mk0 (Kd.S_below (by (with_reducible repeat (first|apply aS|apply nS|apply dS));exact HO295.out) hb);have n2_:=mk0 (blk_below (g:=gb287) (o:=.cells #[.int .i64 a0_0,.slice A0_1 l0_1.length c0_1,.slice A0_2 l0_2.length c0_2] 25 (0,0)) (by (with_reducible repeat (first|apply nB|apply dB|apply aB));exact BK287.out) hb);have n3_:=mk0 (below_step (by repeat (first|(with_reducible first|exact HB.out|apply aZ|apply nZ|apply dZ|refine sZ ?_ GE287.out)|exact HB.out)) hb);clear HO292 HO295 BK287 HB;have HO292:=n0_;have HO295:=n1_;have BK287:=n2_;have HB:=n3_;clear n0_ n1_ n2_ n3_;(try clear hb);(try clear hb2);(try clear hk);(try clear hi);have hcz25_0:w24.cell? ⟨gb287,0,none⟩ = some (.int .i64 a0_0):=(blk_cell BK287.out 0).trans rfl;have hcz25_1:w24.cell? ⟨gb287,1,none⟩ = some (.slice A0_1 l0_1.length c0_1):=(blk_cell BK287.out 1).trans rfl;have hcz25_2:w24.cell? ⟨gb287,2,none⟩ = some (.slice A0_2 l0_2.length c0_2):=(blk_cell BK287.out 2).trans rfl;have hfz25_0:=blk_frozen BK287.out 0;have hfz25_1:=blk_frozen BK287.out 1;have hfz25_2:=blk_frozen BK287.out 2)|((with_reducible refine gate_callee (f:=11) rfl ?_);refine goesL_ (some 22) rfl rfl Try.func11 (by kernel_rfl) rfl #[.agg #[.int .i64 a0_0,.slice A0_1 l0_1.length c0_1,.slice A0_2 l0_2.length c0_2]] rfl (by (try simp only [mA,mC,mN]);first|done|rfl|(simp only [List.length_drop,List.length_take];rfl)) ?_;(with_reducible refine (laws_toWave.calls k a0_0 _ _ l0_1 _ _ l0_2 t297 t298 t301 _ ?side1 ?side2 ?side3 ?side4 A11.out).mono ?_);(case side1=>repeat (first|exact (Kd.C_below HR0_1.out HB.out)|(with_reducible first|apply aC|apply nC|apply dC)));(case side2=>exact HC0_1.out);(case side3=>repeat (first|exact (Kd.C_below HR0_2.out HB.out)|(with_reducible first|apply aC|apply nC|apply dC)));(case side4=>exact HC0_2.out);rintro e w26 ⟨v299,v302,rfl,ho0,ho1,hb⟩;refine⟨_,rfl,?_⟩;have n0_:=mk0 (Kd.R_elder' (by (with_reducible repeat (first|apply aR|apply nR|apply dR));exact HO292.out) (Kd.R_base ho0) hb);have n1_:=mk0 (Kd.S_elder' (by (with_reducible repeat (first|apply aS|apply nS|apply dS));exact HO295.out) (Kd.S_base ho1) hb);have n2_:=mk0 (Kd.R_lower (Kd.R_new' ho0 (Kd.R_lt (by (with_reducible repeat (first|apply aR|apply nR|apply dR));exact HO292.out))) (below_size (by repeat (first|(with_reducible first|exact HB.out|apply aZ|apply nZ|apply dZ|refine sZ ?_ GE287.out)|exact HB.out))));have n3_:=mk0 (Kd.S_lower (Kd.S_new' ho1 (Kd.S_lt (by (with_reducible repeat (first|apply aS|apply nS|apply dS));exact HO295.out))) (below_size (by repeat (first|(with_reducible first|exact HB.out|apply aZ|apply nZ|apply dZ|refine sZ ?_ GE287.out)|exact HB.out))));have n4_:=mk0 (blk_below (g:=gb287) (o:=.cells #[.int .i64 a0_0,.slice A0_1 l0_1.length c0_1,.slice A0_2 l0_2.length c0_2] 25 (0,0)) (by (with_reducible repeat (first|apply nB|apply dB|apply aB));exact BK287.out) hb);have n5_:=mk0 (below_step (by repeat (first|(with_reducible first|exact HB.out|apply aZ|apply nZ|apply dZ|refine sZ ?_ GE287.out)|exact HB.out)) hb);clear HO292 HO295 BK287 HB;have HO292:=n0_;have HO295:=n1_;have HO300:=n2_;have HO303:=n3_;have BK287:=n4_;have HB:=n5_;clear n0_ n1_ n2_ n3_ n4_ n5_;(try clear hb);(try clear hb2);(try clear hk);(try clear hi);(try clear ho0);(try clear ho1))|((with_reducible refine gate_dst (N:=9) rfl ?_);refine box_event ?hg (N:=9) ?hd (cs:=#[.int .i64 0,.slice none 0 0,.slice none 0 0]) (t:=30) ?hr ?_;(case hd=>rfl);(case hg=>rfl);(case hr=>first|(go_simp;done)|(go_simp;rfl));intro gb304 hg w27 hbox hb;have n0_:=mk0 (Kd.R_below (by (with_reducible repeat (first|apply aR|apply nR|apply dR));exact HO292.out) hb);have n1_:=mk0 (Kd.S_below (by (with_reducible repeat (first|apply aS|apply nS|apply dS));exact HO295.out) hb);have n2_:=mk0 (Kd.R_below (by (with_reducible repeat (first|apply aR|apply nR|apply dR));exact HO300.out) hb);have n3_:=mk0 (Kd.S_below (by (with_reducible repeat (first|apply aS|apply nS|apply dS));exact HO303.out) hb);have n4_:=mk0 (blk_below (g:=gb287) (o:=.cells #[.int .i64 a0_0,.slice A0_1 l0_1.length c0_1,.slice A0_2 l0_2.length c0_2] 25 (0,0)) (by (with_reducible repeat (first|apply nB|apply dB|apply aB));exact BK287.out) hb);have n5_:=mk0 (below_step (by repeat (first|(with_reducible first|exact HB.out|apply aZ|apply nZ|apply dZ|refine sZ ?_ GE287.out)|exact HB.out)) hb);have n6_:=mk0 (hbox);have n7_:=mk0 ((by rw [hg];exact (below_size (by repeat (first|(with_reducible first|exact HB.out|apply aZ|apply nZ|apply dZ|refine sZ ?_ GE287.out)|exact HB.out))):w.heap.size ≤ gb304));have n8_:=mk0 ((by rw [hg];exact (below_size (by repeat (first|(with_reducible first|exact HB.out|apply aZ|apply nZ|apply dZ|refine sZ ?_ GE287.out)|exact HB.out))):w.heap.size ≤ gb304));have n9_:=mk0 ((by rw [hg];exact Nat.ne_of_lt (blk_lt (g:=gb287) (o:=.cells #[.int .i64 a0_0,.slice A0_1 l0_1.length c0_1,.slice A0_2 l0_2.length c0_2] 25 (0,0)) (by (with_reducible repeat (first|apply nB|apply dB|apply aB));exact BK287.out)):gb287 ≠ gb304));have n10_:=mk0 ((by rw [hg];exact Nat.ne_of_gt (blk_lt (g:=gb287) (o:=.cells #[.int .i64 a0_0,.slice A0_1 l0_1.length c0_1,.slice A0_2 l0_2.length c0_2] 25 (0,0)) (by (with_reducible repeat (first|apply nB|apply dB|apply aB));exact BK287.out)):gb304 ≠ gb287));clear HO292 HO295 HO300 HO303 BK287 HB;have HO292:=n0_;have HO295:=n1_;have HO300:=n2_;have HO303:=n3_;have BK287:=n4_;have HB:=n5_;have BK304:=n6_;have GW304:=n7_;have GE304:=n8_;have NB287_304:=n9_;have NB304_287:=n10_;clear n0_ n1_ n2_ n3_ n4_ n5_ n6_ n7_ n8_ n9_ n10_ hb hbox hg;have hnb28:=NB304_287.out;have hnc28:=NB287_304.out;have hcz29_0:w27.cell? ⟨gb304,0,none⟩ = some (.int .i64 0):=(blk_cell BK304.out 0).trans rfl;have hcz29_1:w27.cell? ⟨gb304,1,none⟩ = some (.slice none 0 0):=(blk_cell BK304.out 1).trans rfl;have hcz29_2:w27.cell? ⟨gb304,2,none⟩ = some (.slice none 0 0):=(blk_cell BK304.out 2).trans rfl;have hfz29_0:=blk_frozen BK304.out 0;have hfz29_1:=blk_frozen BK304.out 1;have hfz29_2:=blk_frozen BK304.out 2;obtain⟨Ao30,co30,eo30⟩:=Kd.R_slice HO300.out;subst eo30;obtain⟨Ao31,co31,eo31⟩:=Kd.S_slice HO303.out;subst eo31)|((with_reducible refine gate_callee (f:=24) rfl ?_);refine goesL_ (some 26) rfl rfl Try.func24 (by kernel_rfl) rfl #[.agg #[.int .i64 t297,.slice Ao30 t298.length co30,.slice Ao31 t301.length co31],.int .i64 a1,.int .i64 a2] rfl (by (try simp only [mA,mC,mN]);first|done|rfl|(simp only [List.length_drop,List.length_take];rfl)) ?_;(with_reducible refine (impl_WaveSelect.calls k t297 _ _ t298 _ _ t301 a1 a2 t305 _ ?side1 ?side2 ?side3 ?side4 A12.out).mono ?_);(case side1=>refine (Kd.R_reads' (e:=3) (base:=w.heap.size) (ok:=fun k_=>(True ∧ some k_ ≠ (.slice Ao22 t290.length co22:Value).ownBlock)) (n:=t298.length) (c:=co30) ?_).2.2;exact (by (with_reducible repeat (first|apply aR|apply nR|apply dR));exact (Kd.R_mono (Kd.R_far (p:=⟨gb304,2,none⟩) (Kd.R_far (p:=⟨gb304,1,none⟩) (Kd.R_far (p:=⟨gb304,0,none⟩) (Kd.R_types HO300.out BK304.out (by decide)) (fun _ hk=>hk.2) (.int .i64 t297)) (fun _ hk=>hk.2) (.slice Ao30 t298.length co30)) (fun _ hk=>hk.2) (.slice Ao31 t301.length co31)) (fun _ h_=>h_.1))));(case side2=>exact (Kd.R_reads' HO300.out).2.1);(case side3=>refine (Kd.S_reads' (e:=64) (base:=w.heap.size) (ok:=fun k_=>(True ∧ some k_ ≠ (.slice Ao23 t293.length co23:Value).ownBlock)) (n:=t301.length) (c:=co31) ?_).2.2;exact (by (with_reducible repeat (first|apply aS|apply nS|apply dS));exact (Kd.S_mono (Kd.S_far (p:=⟨gb304,2,none⟩) (Kd.S_far (p:=⟨gb304,1,none⟩) (Kd.S_far (p:=⟨gb304,0,none⟩) (Kd.S_types HO303.out BK304.out (by decide)) (fun _ hk=>hk.2) (.int .i64 t297)) (fun _ hk=>hk.2) (.slice Ao30 t298.length co30)) (fun _ hk=>hk.2) (.slice Ao31 t301.length co31)) (fun _ h_=>h_.1))));(case side4=>exact (Kd.S_reads' HO303.out).2.1);rintro e w32 ⟨rfl,hb⟩;refine⟨_,rfl,?_⟩;have n0_:=mk0 (Kd.R_below (by (with_reducible repeat (first|apply aR|apply nR|apply dR));exact (Kd.R_mono (Kd.R_far (p:=⟨gb304,2,none⟩) (Kd.R_far (p:=⟨gb304,1,none⟩) (Kd.R_far (p:=⟨gb304,0,none⟩) (Kd.R_types HO292.out BK304.out (by decide)) (fun _ hk=>hk.2) (.int .i64 t297)) (fun _ hk=>hk.2) (.slice Ao30 t298.length co30)) (fun _ hk=>hk.2) (.slice Ao31 t301.length co31)) (fun _ h_=>h_.1))) hb);have n1_:=mk0 (Kd.S_below (by (with_reducible repeat (first|apply aS|apply nS|apply dS));exact (Kd.S_mono (Kd.S_far (p:=⟨gb304,2,none⟩) (Kd.S_far (p:=⟨gb304,1,none⟩) (Kd.S_far (p:=⟨gb304,0,none⟩) (Kd.S_types HO295.out BK304.out (by decide)) (fun _ hk=>hk.2) (.int .i64 t297)) (fun _ hk=>hk.2) (.slice Ao30 t298.length co30)) (fun _ hk=>hk.2) (.slice Ao31 t301.length co31)) (fun _ h_=>h_.1))) hb);have n2_:=mk0 (Kd.R_below (by (with_reducible repeat (first|apply aR|apply nR|apply dR));exact (Kd.R_mono (Kd.R_far (p:=⟨gb304,2,none⟩) (Kd.R_far (p:=⟨gb304,1,none⟩) (Kd.R_far (p:=⟨gb304,0,none⟩) (Kd.R_types HO300.out BK304.out (by decide)) (fun _ hk=>hk.2) (.int .i64 t297)) (fun _ hk=>hk.2) (.slice Ao30 t298.length co30)) (fun _ hk=>hk.2) (.slice Ao31 t301.length co31)) (fun _ h_=>h_.1))) hb);have n3_:=mk0 (Kd.S_below (by (with_reducible repeat (first|apply aS|apply nS|apply dS));exact (Kd.S_mono (Kd.S_far (p:=⟨gb304,2,none⟩) (Kd.S_far (p:=⟨gb304,1,none⟩) (Kd.S_far (p:=⟨gb304,0,none⟩) (Kd.S_types HO303.out BK304.out (by decide)) (fun _ hk=>hk.2) (.int .i64 t297)) (fun _ hk=>hk.2) (.slice Ao30 t298.length co30)) (fun _ hk=>hk.2) (.slice Ao31 t301.length co31)) (fun _ h_=>h_.1))) hb);have n4_:=mk0 (blk_below (g:=gb287) (o:=.cells #[.int .i64 a0_0,.slice A0_1 l0_1.length c0_1,.slice A0_2 l0_2.length c0_2] 25 (0,0)) (by (with_reducible repeat (first|apply nB|apply dB|apply aB));refine blk_far ?_ NB287_304.out _;(with_reducible repeat (first|apply nB|apply dB|apply aB));refine blk_far ?_ NB287_304.out _;(with_reducible repeat (first|apply nB|apply dB|apply aB));refine blk_far ?_ NB287_304.out _;(with_reducible repeat (first|apply nB|apply dB|apply aB));exact BK287.out) hb);have n5_:=mk0 (blk_below (g:=gb304) (o:=.cells #[.int .i64 t297,.slice Ao30 t298.length co30,.slice Ao31 t301.length co31] 30 (0,0)) (by (with_reducible repeat (first|apply nB|apply dB|apply aB));refine blk_put (cs:=#[.int .i64 t297,.slice Ao30 t298.length co30,.slice none 0 0]) ?_ 2 _ rfl;(with_reducible repeat (first|apply nB|apply dB|apply aB));refine blk_put (cs:=#[.int .i64 t297,.slice none 0 0,.slice none 0 0]) ?_ 1 _ rfl;(with_reducible repeat (first|apply nB|apply dB|apply aB));refine blk_put (cs:=#[.int .i64 0,.slice none 0 0,.slice none 0 0]) ?_ 0 _ rfl;(with_reducible repeat (first|apply nB|apply dB|apply aB));exact BK304.out) hb);have n6_:=mk0 (below_step (by repeat (first|(with_reducible first|exact HB.out|apply aZ|apply nZ|apply dZ|refine sZ ?_ GE287.out|refine sZ ?_ GE304.out)|exact HB.out)) hb);clear HO292 HO295 HO300 HO303 BK287 BK304 HB;have HO292:=n0_;have HO295:=n1_;have HO300:=n2_;have HO303:=n3_;have BK287:=n4_;have BK304:=n5_;have HB:=n6_;clear n0_ n1_ n2_ n3_ n4_ n5_ n6_;(try clear hb);(try clear hb2);(try clear hk);(try clear hi)))
  have n0_:=mk0 (dR HO292.out)
  have n1_:=mk0 (dS HO295.out)
  have n2_:=mk0 (dR HO300.out)
  have n3_:=mk0 (dS HO303.out)
  have n4_:=mk0 (dB BK287.out)
  have n5_:=mk0 (dB BK304.out)
  have n6_:=mk0 (dZ HB.out)
  clear HO292
  clear HO295
  clear HO300
  clear HO303
  clear BK287
  clear BK304
  clear HB
  have HO292:=n0_
  have HO295:=n1_
  have HO300:=n2_
  have HO303:=n3_
  have BK287:=n4_
  have BK304:=n5_
  have HB:=n6_
  clear n0_ n1_ n2_ n3_ n4_ n5_ n6_
  refine start_ (n:=5) (S:=fun w'=>w'.cell? ⟨gb304,0,none⟩ = some (.int .i64 t297) ∧ w'.cell? ⟨gb304,1,none⟩ = some (.slice Ao30 t298.length co30) ∧ w'.cell? ⟨gb304,2,none⟩ = some (.slice Ao31 t301.length co31) ∧ w'.cell? ⟨gb287,0,none⟩ = some (.int .i64 a0_0) ∧ w'.cell? ⟨gb287,1,none⟩ = some (.slice A0_1 l0_1.length c0_1) ∧ w'.cell? ⟨gb287,2,none⟩ = some (.slice A0_2 l0_2.length c0_2)) (ds:=[]) #[false,false,false,false,false] (by kernel_rfl) rfl rfl ⟨(blk_cell BK304.out 0).trans rfl,(blk_cell BK304.out 1).trans rfl,(blk_cell BK304.out 2).trans rfl,(blk_cell BK287.out 0).trans rfl,(blk_cell BK287.out 1).trans rfl,(blk_cell BK287.out 2).trans rfl⟩ (fun hHeld=>?_)
  generalize w32.drew = w33 at HO292 HO295 HO300 HO303 BK287 BK304 HB hHeld ⊢
  refine take_ (i:=0) (N:=some 30) (v:=?_) (a':=?_) #[true,false,false,false,false] rfl rfl (by kernel_rfl) (fun _ _ _ h=>h) (Or.inl ⟨by rfl,?_⟩) hHeld ?_ ?_
  rotate_left
  ·rintro w' ⟨s0,s1,s2,s3,s4,s5⟩
   go_simp
   with_reducible rfl
  rotate_left
  ·simp only [Act.put,sA,sO,sS,i64_w,i32_w]
   rfl
  refine take_ (i:=1) (N:=some 31) (v:=?_) (a':=?_) #[true,true,false,false,false] rfl rfl (by kernel_rfl) (fun _ _ _ h=>h) (Or.inl ⟨by rfl,?_⟩) hHeld ?_ ?_
  rotate_left
  ·rintro w' ⟨s0,s1,s2,s3,s4,s5⟩
   go_simp
   with_reducible rfl
  rotate_left
  ·simp only [Act.put,sA,sO,sS,i64_w,i32_w]
   rfl
  refine one_ (i:=2) (N:=some 32) #[true,true,true,false,false] rfl rfl (by kernel_rfl) (by decide) (fun K hK=>?_)
  refine goes_ Try.func11 (by kernel_rfl) rfl #[.agg #[.int .i64 a0_0,.slice A0_1 l0_1.length c0_1,.slice A0_2 l0_2.length c0_2]] (by rfl) rfl rfl (by (try simp only [mA,mC,mN]);first|done|rfl|(simp only [List.length_drop,List.length_take];rfl)) ?_
  with_reducible refine (laws_toWave.calls k a0_0 _ _ l0_1 _ _ l0_2 t306 t307 t310 _ ?side1 ?side2 ?side3 ?side4 A14.out).mono ?_
  (case side1=>repeat (first|exact (Kd.C_below HR0_1.out HB.out)|(with_reducible first|apply aC|apply nC|apply dC)))
  (case side2=>exact HC0_1.out)
  (case side3=>repeat (first|exact (Kd.C_below HR0_2.out HB.out)|(with_reducible first|apply aC|apply nC|apply dC)))
  (case side4=>exact HC0_2.out)
  rintro e w34 ⟨v308,v311,rfl,ho0,ho1,hb⟩
  refine⟨_,rfl,?_⟩
  have n0_:=mk0 (Kd.R_elder' (by (with_reducible repeat (first|apply aR|apply nR|apply dR));exact HO292.out) (Kd.R_base ho0) hb)
  have n1_:=mk0 (Kd.S_elder' (by (with_reducible repeat (first|apply aS|apply nS|apply dS));exact HO295.out) (Kd.S_base ho1) hb)
  have n2_:=mk0 (Kd.R_elder' (by (with_reducible repeat (first|apply aR|apply nR|apply dR));exact HO300.out) (Kd.R_base ho0) hb)
  have n3_:=mk0 (Kd.S_elder' (by (with_reducible repeat (first|apply aS|apply nS|apply dS));exact HO303.out) (Kd.S_base ho1) hb)
  have n4_:=mk0 (Kd.R_lower (Kd.R_new' (Kd.R_new' ho0 (Kd.R_lt (by (with_reducible repeat (first|apply aR|apply nR|apply dR));exact HO292.out))) (Kd.R_lt (by (with_reducible repeat (first|apply aR|apply nR|apply dR));exact HO300.out))) (below_size (by repeat (first|(with_reducible first|exact HB.out|apply aZ|apply nZ|apply dZ|refine sZ ?_ GE287.out|refine sZ ?_ GE304.out)|exact HB.out))))
  have n5_:=mk0 (Kd.S_lower (Kd.S_new' (Kd.S_new' ho1 (Kd.S_lt (by (with_reducible repeat (first|apply aS|apply nS|apply dS));exact HO295.out))) (Kd.S_lt (by (with_reducible repeat (first|apply aS|apply nS|apply dS));exact HO303.out))) (below_size (by repeat (first|(with_reducible first|exact HB.out|apply aZ|apply nZ|apply dZ|refine sZ ?_ GE287.out|refine sZ ?_ GE304.out)|exact HB.out))))
  have n6_:=mk0 (blk_below (g:=gb287) (o:=.cells #[.int .i64 a0_0,.slice A0_1 l0_1.length c0_1,.slice A0_2 l0_2.length c0_2] 25 (0,0)) (by (with_reducible repeat (first|apply nB|apply dB|apply aB));exact BK287.out) hb)
  have n7_:=mk0 (blk_below (g:=gb304) (o:=.cells #[.int .i64 t297,.slice Ao30 t298.length co30,.slice Ao31 t301.length co31] 30 (0,0)) (by (with_reducible repeat (first|apply nB|apply dB|apply aB));exact BK304.out) hb)
  have n8_:=mk0 (below_step (by repeat (first|(with_reducible first|exact HB.out|apply aZ|apply nZ|apply dZ|refine sZ ?_ GE287.out|refine sZ ?_ GE304.out)|exact HB.out)) hb)
  clear HO292
  clear HO295
  clear HO300
  clear HO303
  clear BK287
  clear BK304
  clear HB
  have HO292:=n0_
  have HO295:=n1_
  have HO300:=n2_
  have HO303:=n3_
  have HO309:=n4_
  have HO312:=n5_
  have BK287:=n6_
  have BK304:=n7_
  have HB:=n8_
  clear n0_ n1_ n2_ n3_ n4_ n5_ n6_ n7_ n8_
  (try clear hb)
  (try clear hb2)
  (try clear hk)
  (try clear hi)
  (try clear ho0)
  (try clear ho1)
  obtain⟨Ao35,co35,eo35⟩:=Kd.R_slice HO309.out
  (first|subst eo35|(injection eo35 with f1_ f2_ f3_;have f4_:=f1_.symm;have f5_:=f3_.symm;clear f1_ f2_ f3_;subst f4_;subst f5_))
  obtain⟨Ao36,co36,eo36⟩:=Kd.S_slice HO312.out
  (first|subst eo36|(injection eo36 with f1_ f2_ f3_;have f4_:=f1_.symm;have f5_:=f3_.symm;clear f1_ f2_ f3_;subst f4_;subst f5_))
  refine hK.out _ _ ⟨(blk_cell BK304.out 0).trans rfl,(blk_cell BK304.out 1).trans rfl,(blk_cell BK304.out 2).trans rfl,(blk_cell BK287.out 0).trans rfl,(blk_cell BK287.out 1).trans rfl,(blk_cell BK287.out 2).trans rfl⟩ (fun hHeld=>?_)
  clear hK K
  refine norm_ (a':=?_) ?_ ?_
  rotate_left
  ·show Act.put _ (some 32) _ = _
   simp only [Act.put,sA,sO,sS,i64_w,i32_w]
   rfl
  refine one_ (i:=3) (N:=some 33) #[true,true,true,true,false] rfl rfl (by kernel_rfl) (by decide) (fun K hK=>?_)
  refine goes_ Try.func13 (by kernel_rfl) rfl #[.agg #[.int .i64 t297,.slice Ao30 t298.length co30,.slice Ao31 t301.length co31],.agg #[.int .i64 t306,.slice Ao35 t307.length co35,.slice Ao36 t310.length co36]] (by rfl) rfl rfl (by (try simp only [mA,mC,mN]);first|done|rfl|(simp only [List.length_drop,List.length_take];rfl)) ?_
  with_reducible refine (laws_eqWave.calls k t297 _ _ t298 _ _ t301 t306 _ _ t307 _ _ t310 true _ ?side1 ?side2 ?side3 ?side4 ?side5 ?side6 ?side7 ?side8 A15.out).mono ?_
  (case side1=>repeat (first|exact (Kd.R_reads' HO300.out).2.2|(with_reducible first|apply aC|apply nC|apply dC)))
  (case side2=>exact (Kd.R_reads' HO300.out).2.1)
  (case side3=>repeat (first|exact (Kd.S_reads' HO303.out).2.2|(with_reducible first|apply aC|apply nC|apply dC)))
  (case side4=>exact (Kd.S_reads' HO303.out).2.1)
  (case side5=>repeat (first|exact (Kd.R_reads' HO309.out).2.2|(with_reducible first|apply aC|apply nC|apply dC)))
  (case side6=>exact (Kd.R_reads' HO309.out).2.1)
  (case side7=>repeat (first|exact (Kd.S_reads' HO312.out).2.2|(with_reducible first|apply aC|apply nC|apply dC)))
  (case side8=>exact (Kd.S_reads' HO312.out).2.1)
  rintro e w37 ⟨rfl,hb⟩
  refine⟨_,rfl,?_⟩
  have n0_:=mk0 (Kd.R_below (by (with_reducible repeat (first|apply aR|apply nR|apply dR));exact HO292.out) hb)
  have n1_:=mk0 (Kd.S_below (by (with_reducible repeat (first|apply aS|apply nS|apply dS));exact HO295.out) hb)
  have n2_:=mk0 (Kd.R_below (by (with_reducible repeat (first|apply aR|apply nR|apply dR));exact HO300.out) hb)
  have n3_:=mk0 (Kd.S_below (by (with_reducible repeat (first|apply aS|apply nS|apply dS));exact HO303.out) hb)
  have n4_:=mk0 (Kd.R_below (by (with_reducible repeat (first|apply aR|apply nR|apply dR));exact HO309.out) hb)
  have n5_:=mk0 (Kd.S_below (by (with_reducible repeat (first|apply aS|apply nS|apply dS));exact HO312.out) hb)
  have n6_:=mk0 (blk_below (g:=gb287) (o:=.cells #[.int .i64 a0_0,.slice A0_1 l0_1.length c0_1,.slice A0_2 l0_2.length c0_2] 25 (0,0)) (by (with_reducible repeat (first|apply nB|apply dB|apply aB));exact BK287.out) hb)
  have n7_:=mk0 (blk_below (g:=gb304) (o:=.cells #[.int .i64 t297,.slice Ao30 t298.length co30,.slice Ao31 t301.length co31] 30 (0,0)) (by (with_reducible repeat (first|apply nB|apply dB|apply aB));exact BK304.out) hb)
  have n8_:=mk0 (below_step (by repeat (first|(with_reducible first|exact HB.out|apply aZ|apply nZ|apply dZ|refine sZ ?_ GE287.out|refine sZ ?_ GE304.out)|exact HB.out)) hb)
  clear HO292
  clear HO295
  clear HO300
  clear HO303
  clear HO309
  clear HO312
  clear BK287
  clear BK304
  clear HB
  have HO292:=n0_
  have HO295:=n1_
  have HO300:=n2_
  have HO303:=n3_
  have HO309:=n4_
  have HO312:=n5_
  have BK287:=n6_
  have BK304:=n7_
  have HB:=n8_
  clear n0_ n1_ n2_ n3_ n4_ n5_ n6_ n7_ n8_
  (try clear hb)
  (try clear hb2)
  (try clear hk)
  (try clear hi)
  refine hK.out _ _ ⟨(blk_cell BK304.out 0).trans rfl,(blk_cell BK304.out 1).trans rfl,(blk_cell BK304.out 2).trans rfl,(blk_cell BK287.out 0).trans rfl,(blk_cell BK287.out 1).trans rfl,(blk_cell BK287.out 2).trans rfl⟩ (fun hHeld=>?_)
  clear hK K
  refine norm_ (a':=?_) ?_ ?_
  rotate_left
  ·show Act.put _ (some 33) _ = _
   simp only [Act.put,sA,sO,sS,i64_w,i32_w]
   rfl
  refine pure_ (i:=4) (N:=some 34) (v:=?_) (a':=?_) #[true,true,true,true,true] rfl rfl (by kernel_rfl) (fun _ _ _ h=>h) (Or.inl ⟨by rfl,?_⟩) ?_ ?_
  rotate_left
  ·intro w'
   go_simp
   with_reducible rfl
  rotate_left
  ·simp only [Act.put,sA,sO,sS,i64_w,i32_w]
   rfl
  refine done_ (by kernel_rfl) ?_
  try go_wp2
  go_ret
  exact⟨by first|rfl|(simp [errW_none,errW_some] <;> rfl)|(simp [*,errW_none,errW_some] <;> rfl),by repeat (first|(with_reducible first|exact HB.out|apply aZ|apply nZ|apply dZ|refine sZ ?_ GE287.out|refine sZ ?_ GE304.out)|exact HB.out)⟩
 replace c16:=Bool.eq_false_iff.mpr c16
 subst c16
 have H1:(some false) = some r:=by rw [if_neg (show ¬ (false = true) by decide)] at H;exact H
 clear H
 have H:=H1
 clear H1
 obtain rfl:=Option.some.inj H
 go_enter Try.func7,Try.ntmps7
 try go_wp2_with (first|((with_reducible refine gate_dst (N:=3) rfl ?_);refine box_event ?hg (N:=3) ?hd (cs:=#[.int .i64 a0_0,.slice A0_1 l0_1.length c0_1,.slice A0_2 l0_2.length c0_2]) (t:=25) ?hr ?_;(case hd=>rfl);(case hg=>rfl);(case hr=>first|(go_simp;done)|(go_simp;rfl));intro gb287 hg w38 hbox hb;have n0_:=mk0 (below_step (by repeat (first|(with_reducible first|exact HB.out|apply aZ|apply nZ|apply dZ)|exact HB.out)) hb);have n1_:=mk0 (hbox);have n2_:=mk0 ((by rw [hg];exact (below_size (by repeat (first|(with_reducible first|exact HB.out|apply aZ|apply nZ|apply dZ)|exact HB.out))):w.heap.size ≤ gb287));have n3_:=mk0 ((by rw [hg];exact (below_size (by repeat (first|(with_reducible first|exact HB.out|apply aZ|apply nZ|apply dZ)|exact HB.out))):w.heap.size ≤ gb287));clear HB;have HB:=n0_;have BK287:=n1_;have GW287:=n2_;have GE287:=n3_;clear n0_ n1_ n2_ n3_ hb hbox hg;have hcz39_0:w38.cell? ⟨gb287,0,none⟩ = some (.int .i64 a0_0):=(blk_cell BK287.out 0).trans rfl;have hcz39_1:w38.cell? ⟨gb287,1,none⟩ = some (.slice A0_1 l0_1.length c0_1):=(blk_cell BK287.out 1).trans rfl;have hcz39_2:w38.cell? ⟨gb287,2,none⟩ = some (.slice A0_2 l0_2.length c0_2):=(blk_cell BK287.out 2).trans rfl;have hfz39_0:=blk_frozen BK287.out 0;have hfz39_1:=blk_frozen BK287.out 1;have hfz39_2:=blk_frozen BK287.out 2)|((with_reducible refine gate_callee (f:=9) rfl ?_);refine goesL_ (some 13) rfl rfl Try.func9 (by kernel_rfl) rfl #[.agg #[.int .i64 a0_0,.slice A0_1 l0_1.length c0_1,.slice A0_2 l0_2.length c0_2],.int .i64 1048576] rfl (by (try simp only [mA,mC,mN]);first|done|rfl|(simp only [List.length_drop,List.length_take];rfl)) ?_;(with_reducible refine (laws_szWave.calls k a0_0 _ _ l0_1 _ _ l0_2 1048576 t288 _ ?side1 ?side2 ?side3 ?side4 A4.out).mono ?_);(case side1=>repeat (first|exact (Kd.C_below HR0_1.out HB.out)|(with_reducible first|apply aC|apply nC|apply dC)));(case side2=>exact HC0_1.out);(case side3=>repeat (first|exact (Kd.C_below HR0_2.out HB.out)|(with_reducible first|apply aC|apply nC|apply dC)));(case side4=>exact HC0_2.out);rintro e w40 ⟨rfl,hb⟩;refine⟨_,rfl,?_⟩;have n0_:=mk0 (blk_below (g:=gb287) (o:=.cells #[.int .i64 a0_0,.slice A0_1 l0_1.length c0_1,.slice A0_2 l0_2.length c0_2] 25 (0,0)) (by (with_reducible repeat (first|apply nB|apply dB|apply aB));exact BK287.out) hb);have n1_:=mk0 (below_step (by repeat (first|(with_reducible first|exact HB.out|apply aZ|apply nZ|apply dZ|refine sZ ?_ GE287.out)|exact HB.out)) hb);clear BK287 HB;have BK287:=n0_;have HB:=n1_;clear n0_ n1_;(try clear hb);(try clear hb2);(try clear hk);(try clear hi);have hcz41_0:w40.cell? ⟨gb287,0,none⟩ = some (.int .i64 a0_0):=(blk_cell BK287.out 0).trans rfl;have hcz41_1:w40.cell? ⟨gb287,1,none⟩ = some (.slice A0_1 l0_1.length c0_1):=(blk_cell BK287.out 1).trans rfl;have hcz41_2:w40.cell? ⟨gb287,2,none⟩ = some (.slice A0_2 l0_2.length c0_2):=(blk_cell BK287.out 2).trans rfl;have hfz41_0:=blk_frozen BK287.out 0;have hfz41_1:=blk_frozen BK287.out 1;have hfz41_2:=blk_frozen BK287.out 2)|((with_reducible refine gate_callee (f:=11) rfl ?_);refine goesL_ (some 17) rfl rfl Try.func11 (by kernel_rfl) rfl #[.agg #[.int .i64 a0_0,.slice A0_1 l0_1.length c0_1,.slice A0_2 l0_2.length c0_2]] rfl (by (try simp only [mA,mC,mN]);first|done|rfl|(simp only [List.length_drop,List.length_take];rfl)) ?_;(with_reducible refine (laws_toWave.calls k a0_0 _ _ l0_1 _ _ l0_2 t289 t290 t293 _ ?side1 ?side2 ?side3 ?side4 A9.out).mono ?_);(case side1=>repeat (first|exact (Kd.C_below HR0_1.out HB.out)|(with_reducible first|apply aC|apply nC|apply dC)));(case side2=>exact HC0_1.out);(case side3=>repeat (first|exact (Kd.C_below HR0_2.out HB.out)|(with_reducible first|apply aC|apply nC|apply dC)));(case side4=>exact HC0_2.out);rintro e w42 ⟨v291,v294,rfl,ho0,ho1,hb⟩;refine⟨_,rfl,?_⟩;have n0_:=mk0 (Kd.R_lower ho0 (below_size (by repeat (first|(with_reducible first|exact HB.out|apply aZ|apply nZ|apply dZ|refine sZ ?_ GE287.out)|exact HB.out))));have n1_:=mk0 (Kd.S_lower ho1 (below_size (by repeat (first|(with_reducible first|exact HB.out|apply aZ|apply nZ|apply dZ|refine sZ ?_ GE287.out)|exact HB.out))));have n2_:=mk0 (blk_below (g:=gb287) (o:=.cells #[.int .i64 a0_0,.slice A0_1 l0_1.length c0_1,.slice A0_2 l0_2.length c0_2] 25 (0,0)) (by (with_reducible repeat (first|apply nB|apply dB|apply aB));exact BK287.out) hb);have n3_:=mk0 (below_step (by repeat (first|(with_reducible first|exact HB.out|apply aZ|apply nZ|apply dZ|refine sZ ?_ GE287.out)|exact HB.out)) hb);clear BK287 HB;have HO292:=n0_;have HO295:=n1_;have BK287:=n2_;have HB:=n3_;clear n0_ n1_ n2_ n3_;(try clear hb);(try clear hb2);(try clear hk);(try clear hi);(try clear ho0);(try clear ho1);obtain⟨Ao43,co43,eo43⟩:=Kd.R_slice HO292.out;subst eo43;obtain⟨Ao44,co44,eo44⟩:=Kd.S_slice HO295.out;subst eo44)|((with_reducible refine gate_callee (f:=28) rfl ?_);refine goesL_ (some 20) rfl rfl Try.func28 (by kernel_rfl) rfl #[.agg #[.int .i64 t289,.slice Ao43 t290.length co43,.slice Ao44 t293.length co44],.int .i64 a1,.int .i64 a2] rfl (by (try simp only [mA,mC,mN]);first|done|rfl|(simp only [List.length_drop,List.length_take];rfl)) ?_;(with_reducible refine (spec_WaveSelect.calls k t289 _ _ t290 _ _ t293 a1 a2 t296 _ ?side1 ?side2 ?side3 ?side4 A10.out).mono ?_);(case side1=>repeat (first|exact (Kd.R_reads' HO292.out).2.2|(with_reducible first|apply aC|apply nC|apply dC)));(case side2=>exact (Kd.R_reads' HO292.out).2.1);(case side3=>repeat (first|exact (Kd.S_reads' HO295.out).2.2|(with_reducible first|apply aC|apply nC|apply dC)));(case side4=>exact (Kd.S_reads' HO295.out).2.1);rintro e w45 ⟨rfl,hb⟩;refine⟨_,rfl,?_⟩;have n0_:=mk0 (Kd.R_below (by (with_reducible repeat (first|apply aR|apply nR|apply dR));exact HO292.out) hb);have n1_:=mk0 (Kd.S_below (by (with_reducible repeat (first|apply aS|apply nS|apply dS));exact HO295.out) hb);have n2_:=mk0 (blk_below (g:=gb287) (o:=.cells #[.int .i64 a0_0,.slice A0_1 l0_1.length c0_1,.slice A0_2 l0_2.length c0_2] 25 (0,0)) (by (with_reducible repeat (first|apply nB|apply dB|apply aB));exact BK287.out) hb);have n3_:=mk0 (below_step (by repeat (first|(with_reducible first|exact HB.out|apply aZ|apply nZ|apply dZ|refine sZ ?_ GE287.out)|exact HB.out)) hb);clear HO292 HO295 BK287 HB;have HO292:=n0_;have HO295:=n1_;have BK287:=n2_;have HB:=n3_;clear n0_ n1_ n2_ n3_;(try clear hb);(try clear hb2);(try clear hk);(try clear hi);have hcz46_0:w45.cell? ⟨gb287,0,none⟩ = some (.int .i64 a0_0):=(blk_cell BK287.out 0).trans rfl;have hcz46_1:w45.cell? ⟨gb287,1,none⟩ = some (.slice A0_1 l0_1.length c0_1):=(blk_cell BK287.out 1).trans rfl;have hcz46_2:w45.cell? ⟨gb287,2,none⟩ = some (.slice A0_2 l0_2.length c0_2):=(blk_cell BK287.out 2).trans rfl;have hfz46_0:=blk_frozen BK287.out 0;have hfz46_1:=blk_frozen BK287.out 1;have hfz46_2:=blk_frozen BK287.out 2)|((with_reducible refine gate_callee (f:=11) rfl ?_);refine goesL_ (some 22) rfl rfl Try.func11 (by kernel_rfl) rfl #[.agg #[.int .i64 a0_0,.slice A0_1 l0_1.length c0_1,.slice A0_2 l0_2.length c0_2]] rfl (by (try simp only [mA,mC,mN]);first|done|rfl|(simp only [List.length_drop,List.length_take];rfl)) ?_;(with_reducible refine (laws_toWave.calls k a0_0 _ _ l0_1 _ _ l0_2 t297 t298 t301 _ ?side1 ?side2 ?side3 ?side4 A11.out).mono ?_);(case side1=>repeat (first|exact (Kd.C_below HR0_1.out HB.out)|(with_reducible first|apply aC|apply nC|apply dC)));(case side2=>exact HC0_1.out);(case side3=>repeat (first|exact (Kd.C_below HR0_2.out HB.out)|(with_reducible first|apply aC|apply nC|apply dC)));(case side4=>exact HC0_2.out);rintro e w47 ⟨v299,v302,rfl,ho0,ho1,hb⟩;refine⟨_,rfl,?_⟩;have n0_:=mk0 (Kd.R_elder' (by (with_reducible repeat (first|apply aR|apply nR|apply dR));exact HO292.out) (Kd.R_base ho0) hb);have n1_:=mk0 (Kd.S_elder' (by (with_reducible repeat (first|apply aS|apply nS|apply dS));exact HO295.out) (Kd.S_base ho1) hb);have n2_:=mk0 (Kd.R_lower (Kd.R_new' ho0 (Kd.R_lt (by (with_reducible repeat (first|apply aR|apply nR|apply dR));exact HO292.out))) (below_size (by repeat (first|(with_reducible first|exact HB.out|apply aZ|apply nZ|apply dZ|refine sZ ?_ GE287.out)|exact HB.out))));have n3_:=mk0 (Kd.S_lower (Kd.S_new' ho1 (Kd.S_lt (by (with_reducible repeat (first|apply aS|apply nS|apply dS));exact HO295.out))) (below_size (by repeat (first|(with_reducible first|exact HB.out|apply aZ|apply nZ|apply dZ|refine sZ ?_ GE287.out)|exact HB.out))));have n4_:=mk0 (blk_below (g:=gb287) (o:=.cells #[.int .i64 a0_0,.slice A0_1 l0_1.length c0_1,.slice A0_2 l0_2.length c0_2] 25 (0,0)) (by (with_reducible repeat (first|apply nB|apply dB|apply aB));exact BK287.out) hb);have n5_:=mk0 (below_step (by repeat (first|(with_reducible first|exact HB.out|apply aZ|apply nZ|apply dZ|refine sZ ?_ GE287.out)|exact HB.out)) hb);clear HO292 HO295 BK287 HB;have HO292:=n0_;have HO295:=n1_;have HO300:=n2_;have HO303:=n3_;have BK287:=n4_;have HB:=n5_;clear n0_ n1_ n2_ n3_ n4_ n5_;(try clear hb);(try clear hb2);(try clear hk);(try clear hi);(try clear ho0);(try clear ho1))|((with_reducible refine gate_dst (N:=9) rfl ?_);refine box_event ?hg (N:=9) ?hd (cs:=#[.int .i64 0,.slice none 0 0,.slice none 0 0]) (t:=30) ?hr ?_;(case hd=>rfl);(case hg=>rfl);(case hr=>first|(go_simp;done)|(go_simp;rfl));intro gb304 hg w48 hbox hb;have n0_:=mk0 (Kd.R_below (by (with_reducible repeat (first|apply aR|apply nR|apply dR));exact HO292.out) hb);have n1_:=mk0 (Kd.S_below (by (with_reducible repeat (first|apply aS|apply nS|apply dS));exact HO295.out) hb);have n2_:=mk0 (Kd.R_below (by (with_reducible repeat (first|apply aR|apply nR|apply dR));exact HO300.out) hb);have n3_:=mk0 (Kd.S_below (by (with_reducible repeat (first|apply aS|apply nS|apply dS));exact HO303.out) hb);have n4_:=mk0 (blk_below (g:=gb287) (o:=.cells #[.int .i64 a0_0,.slice A0_1 l0_1.length c0_1,.slice A0_2 l0_2.length c0_2] 25 (0,0)) (by (with_reducible repeat (first|apply nB|apply dB|apply aB));exact BK287.out) hb);have n5_:=mk0 (below_step (by repeat (first|(with_reducible first|exact HB.out|apply aZ|apply nZ|apply dZ|refine sZ ?_ GE287.out)|exact HB.out)) hb);have n6_:=mk0 (hbox);have n7_:=mk0 ((by rw [hg];exact (below_size (by repeat (first|(with_reducible first|exact HB.out|apply aZ|apply nZ|apply dZ|refine sZ ?_ GE287.out)|exact HB.out))):w.heap.size ≤ gb304));have n8_:=mk0 ((by rw [hg];exact (below_size (by repeat (first|(with_reducible first|exact HB.out|apply aZ|apply nZ|apply dZ|refine sZ ?_ GE287.out)|exact HB.out))):w.heap.size ≤ gb304));have n9_:=mk0 ((by rw [hg];exact Nat.ne_of_lt (blk_lt (g:=gb287) (o:=.cells #[.int .i64 a0_0,.slice A0_1 l0_1.length c0_1,.slice A0_2 l0_2.length c0_2] 25 (0,0)) (by (with_reducible repeat (first|apply nB|apply dB|apply aB));exact BK287.out)):gb287 ≠ gb304));have n10_:=mk0 ((by rw [hg];exact Nat.ne_of_gt (blk_lt (g:=gb287) (o:=.cells #[.int .i64 a0_0,.slice A0_1 l0_1.length c0_1,.slice A0_2 l0_2.length c0_2] 25 (0,0)) (by (with_reducible repeat (first|apply nB|apply dB|apply aB));exact BK287.out)):gb304 ≠ gb287));clear HO292 HO295 HO300 HO303 BK287 HB;have HO292:=n0_;have HO295:=n1_;have HO300:=n2_;have HO303:=n3_;have BK287:=n4_;have HB:=n5_;have BK304:=n6_;have GW304:=n7_;have GE304:=n8_;have NB287_304:=n9_;have NB304_287:=n10_;clear n0_ n1_ n2_ n3_ n4_ n5_ n6_ n7_ n8_ n9_ n10_ hb hbox hg;have hnb49:=NB304_287.out;have hnc49:=NB287_304.out;have hcz50_0:w48.cell? ⟨gb304,0,none⟩ = some (.int .i64 0):=(blk_cell BK304.out 0).trans rfl;have hcz50_1:w48.cell? ⟨gb304,1,none⟩ = some (.slice none 0 0):=(blk_cell BK304.out 1).trans rfl;have hcz50_2:w48.cell? ⟨gb304,2,none⟩ = some (.slice none 0 0):=(blk_cell BK304.out 2).trans rfl;have hfz50_0:=blk_frozen BK304.out 0;have hfz50_1:=blk_frozen BK304.out 1;have hfz50_2:=blk_frozen BK304.out 2;obtain⟨Ao51,co51,eo51⟩:=Kd.R_slice HO300.out;subst eo51;obtain⟨Ao52,co52,eo52⟩:=Kd.S_slice HO303.out;subst eo52)|((with_reducible refine gate_callee (f:=24) rfl ?_);refine goesL_ (some 26) rfl rfl Try.func24 (by kernel_rfl) rfl #[.agg #[.int .i64 t297,.slice Ao51 t298.length co51,.slice Ao52 t301.length co52],.int .i64 a1,.int .i64 a2] rfl (by (try simp only [mA,mC,mN]);first|done|rfl|(simp only [List.length_drop,List.length_take];rfl)) ?_;(with_reducible refine (impl_WaveSelect.calls k t297 _ _ t298 _ _ t301 a1 a2 t305 _ ?side1 ?side2 ?side3 ?side4 A12.out).mono ?_);(case side1=>refine (Kd.R_reads' (e:=3) (base:=w.heap.size) (ok:=fun k_=>(True ∧ some k_ ≠ (.slice Ao43 t290.length co43:Value).ownBlock)) (n:=t298.length) (c:=co51) ?_).2.2;exact (by (with_reducible repeat (first|apply aR|apply nR|apply dR));exact (Kd.R_mono (Kd.R_far (p:=⟨gb304,2,none⟩) (Kd.R_far (p:=⟨gb304,1,none⟩) (Kd.R_far (p:=⟨gb304,0,none⟩) (Kd.R_types HO300.out BK304.out (by decide)) (fun _ hk=>hk.2) (.int .i64 t297)) (fun _ hk=>hk.2) (.slice Ao51 t298.length co51)) (fun _ hk=>hk.2) (.slice Ao52 t301.length co52)) (fun _ h_=>h_.1))));(case side2=>exact (Kd.R_reads' HO300.out).2.1);(case side3=>refine (Kd.S_reads' (e:=64) (base:=w.heap.size) (ok:=fun k_=>(True ∧ some k_ ≠ (.slice Ao44 t293.length co44:Value).ownBlock)) (n:=t301.length) (c:=co52) ?_).2.2;exact (by (with_reducible repeat (first|apply aS|apply nS|apply dS));exact (Kd.S_mono (Kd.S_far (p:=⟨gb304,2,none⟩) (Kd.S_far (p:=⟨gb304,1,none⟩) (Kd.S_far (p:=⟨gb304,0,none⟩) (Kd.S_types HO303.out BK304.out (by decide)) (fun _ hk=>hk.2) (.int .i64 t297)) (fun _ hk=>hk.2) (.slice Ao51 t298.length co51)) (fun _ hk=>hk.2) (.slice Ao52 t301.length co52)) (fun _ h_=>h_.1))));(case side4=>exact (Kd.S_reads' HO303.out).2.1);rintro e w53 ⟨rfl,hb⟩;refine⟨_,rfl,?_⟩;have n0_:=mk0 (Kd.R_below (by (with_reducible repeat (first|apply aR|apply nR|apply dR));exact (Kd.R_mono (Kd.R_far (p:=⟨gb304,2,none⟩) (Kd.R_far (p:=⟨gb304,1,none⟩) (Kd.R_far (p:=⟨gb304,0,none⟩) (Kd.R_types HO292.out BK304.out (by decide)) (fun _ hk=>hk.2) (.int .i64 t297)) (fun _ hk=>hk.2) (.slice Ao51 t298.length co51)) (fun _ hk=>hk.2) (.slice Ao52 t301.length co52)) (fun _ h_=>h_.1))) hb);have n1_:=mk0 (Kd.S_below (by (with_reducible repeat (first|apply aS|apply nS|apply dS));exact (Kd.S_mono (Kd.S_far (p:=⟨gb304,2,none⟩) (Kd.S_far (p:=⟨gb304,1,none⟩) (Kd.S_far (p:=⟨gb304,0,none⟩) (Kd.S_types HO295.out BK304.out (by decide)) (fun _ hk=>hk.2) (.int .i64 t297)) (fun _ hk=>hk.2) (.slice Ao51 t298.length co51)) (fun _ hk=>hk.2) (.slice Ao52 t301.length co52)) (fun _ h_=>h_.1))) hb);have n2_:=mk0 (Kd.R_below (by (with_reducible repeat (first|apply aR|apply nR|apply dR));exact (Kd.R_mono (Kd.R_far (p:=⟨gb304,2,none⟩) (Kd.R_far (p:=⟨gb304,1,none⟩) (Kd.R_far (p:=⟨gb304,0,none⟩) (Kd.R_types HO300.out BK304.out (by decide)) (fun _ hk=>hk.2) (.int .i64 t297)) (fun _ hk=>hk.2) (.slice Ao51 t298.length co51)) (fun _ hk=>hk.2) (.slice Ao52 t301.length co52)) (fun _ h_=>h_.1))) hb);have n3_:=mk0 (Kd.S_below (by (with_reducible repeat (first|apply aS|apply nS|apply dS));exact (Kd.S_mono (Kd.S_far (p:=⟨gb304,2,none⟩) (Kd.S_far (p:=⟨gb304,1,none⟩) (Kd.S_far (p:=⟨gb304,0,none⟩) (Kd.S_types HO303.out BK304.out (by decide)) (fun _ hk=>hk.2) (.int .i64 t297)) (fun _ hk=>hk.2) (.slice Ao51 t298.length co51)) (fun _ hk=>hk.2) (.slice Ao52 t301.length co52)) (fun _ h_=>h_.1))) hb);have n4_:=mk0 (blk_below (g:=gb287) (o:=.cells #[.int .i64 a0_0,.slice A0_1 l0_1.length c0_1,.slice A0_2 l0_2.length c0_2] 25 (0,0)) (by (with_reducible repeat (first|apply nB|apply dB|apply aB));refine blk_far ?_ NB287_304.out _;(with_reducible repeat (first|apply nB|apply dB|apply aB));refine blk_far ?_ NB287_304.out _;(with_reducible repeat (first|apply nB|apply dB|apply aB));refine blk_far ?_ NB287_304.out _;(with_reducible repeat (first|apply nB|apply dB|apply aB));exact BK287.out) hb);have n5_:=mk0 (blk_below (g:=gb304) (o:=.cells #[.int .i64 t297,.slice Ao51 t298.length co51,.slice Ao52 t301.length co52] 30 (0,0)) (by (with_reducible repeat (first|apply nB|apply dB|apply aB));refine blk_put (cs:=#[.int .i64 t297,.slice Ao51 t298.length co51,.slice none 0 0]) ?_ 2 _ rfl;(with_reducible repeat (first|apply nB|apply dB|apply aB));refine blk_put (cs:=#[.int .i64 t297,.slice none 0 0,.slice none 0 0]) ?_ 1 _ rfl;(with_reducible repeat (first|apply nB|apply dB|apply aB));refine blk_put (cs:=#[.int .i64 0,.slice none 0 0,.slice none 0 0]) ?_ 0 _ rfl;(with_reducible repeat (first|apply nB|apply dB|apply aB));exact BK304.out) hb);have n6_:=mk0 (below_step (by repeat (first|(with_reducible first|exact HB.out|apply aZ|apply nZ|apply dZ|refine sZ ?_ GE287.out|refine sZ ?_ GE304.out)|exact HB.out)) hb);clear HO292 HO295 HO300 HO303 BK287 BK304 HB;have HO292:=n0_;have HO295:=n1_;have HO300:=n2_;have HO303:=n3_;have BK287:=n4_;have BK304:=n5_;have HB:=n6_;clear n0_ n1_ n2_ n3_ n4_ n5_ n6_;(try clear hb);(try clear hb2);(try clear hk);(try clear hi)))
 have n0_:=mk0 (dR HO292.out)
 have n1_:=mk0 (dS HO295.out)
 have n2_:=mk0 (dR HO300.out)
 have n3_:=mk0 (dS HO303.out)
 have n4_:=mk0 (dB BK287.out)
 have n5_:=mk0 (dB BK304.out)
 have n6_:=mk0 (dZ HB.out)
 clear HO292
 clear HO295
 clear HO300
 clear HO303
 clear BK287
 clear BK304
 clear HB
 have HO292:=n0_
 have HO295:=n1_
 have HO300:=n2_
 have HO303:=n3_
 have BK287:=n4_
 have BK304:=n5_
 have HB:=n6_
 clear n0_ n1_ n2_ n3_ n4_ n5_ n6_
 refine start_ (n:=5) (S:=fun w'=>w'.cell? ⟨gb304,0,none⟩ = some (.int .i64 t297) ∧ w'.cell? ⟨gb304,1,none⟩ = some (.slice Ao51 t298.length co51) ∧ w'.cell? ⟨gb304,2,none⟩ = some (.slice Ao52 t301.length co52) ∧ w'.cell? ⟨gb287,0,none⟩ = some (.int .i64 a0_0) ∧ w'.cell? ⟨gb287,1,none⟩ = some (.slice A0_1 l0_1.length c0_1) ∧ w'.cell? ⟨gb287,2,none⟩ = some (.slice A0_2 l0_2.length c0_2)) (ds:=[]) #[false,false,false,false,false] (by kernel_rfl) rfl rfl ⟨(blk_cell BK304.out 0).trans rfl,(blk_cell BK304.out 1).trans rfl,(blk_cell BK304.out 2).trans rfl,(blk_cell BK287.out 0).trans rfl,(blk_cell BK287.out 1).trans rfl,(blk_cell BK287.out 2).trans rfl⟩ (fun hHeld=>?_)
 generalize w53.drew = w54 at HO292 HO295 HO300 HO303 BK287 BK304 HB hHeld ⊢
 refine take_ (i:=0) (N:=some 30) (v:=?_) (a':=?_) #[true,false,false,false,false] rfl rfl (by kernel_rfl) (fun _ _ _ h=>h) (Or.inl ⟨by rfl,?_⟩) hHeld ?_ ?_
 rotate_left
 ·rintro w' ⟨s0,s1,s2,s3,s4,s5⟩
  go_simp
  with_reducible rfl
 rotate_left
 ·simp only [Act.put,sA,sO,sS,i64_w,i32_w]
  rfl
 refine take_ (i:=1) (N:=some 31) (v:=?_) (a':=?_) #[true,true,false,false,false] rfl rfl (by kernel_rfl) (fun _ _ _ h=>h) (Or.inl ⟨by rfl,?_⟩) hHeld ?_ ?_
 rotate_left
 ·rintro w' ⟨s0,s1,s2,s3,s4,s5⟩
  go_simp
  with_reducible rfl
 rotate_left
 ·simp only [Act.put,sA,sO,sS,i64_w,i32_w]
  rfl
 refine one_ (i:=2) (N:=some 32) #[true,true,true,false,false] rfl rfl (by kernel_rfl) (by decide) (fun K hK=>?_)
 refine goes_ Try.func11 (by kernel_rfl) rfl #[.agg #[.int .i64 a0_0,.slice A0_1 l0_1.length c0_1,.slice A0_2 l0_2.length c0_2]] (by rfl) rfl rfl (by (try simp only [mA,mC,mN]);first|done|rfl|(simp only [List.length_drop,List.length_take];rfl)) ?_
 with_reducible refine (laws_toWave.calls k a0_0 _ _ l0_1 _ _ l0_2 t306 t307 t310 _ ?side1 ?side2 ?side3 ?side4 A14.out).mono ?_
 (case side1=>repeat (first|exact (Kd.C_below HR0_1.out HB.out)|(with_reducible first|apply aC|apply nC|apply dC)))
 (case side2=>exact HC0_1.out)
 (case side3=>repeat (first|exact (Kd.C_below HR0_2.out HB.out)|(with_reducible first|apply aC|apply nC|apply dC)))
 (case side4=>exact HC0_2.out)
 rintro e w55 ⟨v308,v311,rfl,ho0,ho1,hb⟩
 refine⟨_,rfl,?_⟩
 have n0_:=mk0 (Kd.R_elder' (by (with_reducible repeat (first|apply aR|apply nR|apply dR));exact HO292.out) (Kd.R_base ho0) hb)
 have n1_:=mk0 (Kd.S_elder' (by (with_reducible repeat (first|apply aS|apply nS|apply dS));exact HO295.out) (Kd.S_base ho1) hb)
 have n2_:=mk0 (Kd.R_elder' (by (with_reducible repeat (first|apply aR|apply nR|apply dR));exact HO300.out) (Kd.R_base ho0) hb)
 have n3_:=mk0 (Kd.S_elder' (by (with_reducible repeat (first|apply aS|apply nS|apply dS));exact HO303.out) (Kd.S_base ho1) hb)
 have n4_:=mk0 (Kd.R_lower (Kd.R_new' (Kd.R_new' ho0 (Kd.R_lt (by (with_reducible repeat (first|apply aR|apply nR|apply dR));exact HO292.out))) (Kd.R_lt (by (with_reducible repeat (first|apply aR|apply nR|apply dR));exact HO300.out))) (below_size (by repeat (first|(with_reducible first|exact HB.out|apply aZ|apply nZ|apply dZ|refine sZ ?_ GE287.out|refine sZ ?_ GE304.out)|exact HB.out))))
 have n5_:=mk0 (Kd.S_lower (Kd.S_new' (Kd.S_new' ho1 (Kd.S_lt (by (with_reducible repeat (first|apply aS|apply nS|apply dS));exact HO295.out))) (Kd.S_lt (by (with_reducible repeat (first|apply aS|apply nS|apply dS));exact HO303.out))) (below_size (by repeat (first|(with_reducible first|exact HB.out|apply aZ|apply nZ|apply dZ|refine sZ ?_ GE287.out|refine sZ ?_ GE304.out)|exact HB.out))))
 have n6_:=mk0 (blk_below (g:=gb287) (o:=.cells #[.int .i64 a0_0,.slice A0_1 l0_1.length c0_1,.slice A0_2 l0_2.length c0_2] 25 (0,0)) (by (with_reducible repeat (first|apply nB|apply dB|apply aB));exact BK287.out) hb)
 have n7_:=mk0 (blk_below (g:=gb304) (o:=.cells #[.int .i64 t297,.slice Ao51 t298.length co51,.slice Ao52 t301.length co52] 30 (0,0)) (by (with_reducible repeat (first|apply nB|apply dB|apply aB));exact BK304.out) hb)
 have n8_:=mk0 (below_step (by repeat (first|(with_reducible first|exact HB.out|apply aZ|apply nZ|apply dZ|refine sZ ?_ GE287.out|refine sZ ?_ GE304.out)|exact HB.out)) hb)
 clear HO292
 clear HO295
 clear HO300
 clear HO303
 clear BK287
 clear BK304
 clear HB
 have HO292:=n0_
 have HO295:=n1_
 have HO300:=n2_
 have HO303:=n3_
 have HO309:=n4_
 have HO312:=n5_
 have BK287:=n6_
 have BK304:=n7_
 have HB:=n8_
 clear n0_ n1_ n2_ n3_ n4_ n5_ n6_ n7_ n8_
 (try clear hb)
 (try clear hb2)
 (try clear hk)
 (try clear hi)
 (try clear ho0)
 (try clear ho1)
 obtain⟨Ao56,co56,eo56⟩:=Kd.R_slice HO309.out
 (first|subst eo56|(injection eo56 with f1_ f2_ f3_;have f4_:=f1_.symm;have f5_:=f3_.symm;clear f1_ f2_ f3_;subst f4_;subst f5_))
 obtain⟨Ao57,co57,eo57⟩:=Kd.S_slice HO312.out
 (first|subst eo57|(injection eo57 with f1_ f2_ f3_;have f4_:=f1_.symm;have f5_:=f3_.symm;clear f1_ f2_ f3_;subst f4_;subst f5_))
 refine hK.out _ _ ⟨(blk_cell BK304.out 0).trans rfl,(blk_cell BK304.out 1).trans rfl,(blk_cell BK304.out 2).trans rfl,(blk_cell BK287.out 0).trans rfl,(blk_cell BK287.out 1).trans rfl,(blk_cell BK287.out 2).trans rfl⟩ (fun hHeld=>?_)
 clear hK K
 refine norm_ (a':=?_) ?_ ?_
 rotate_left
 ·show Act.put _ (some 32) _ = _
  simp only [Act.put,sA,sO,sS,i64_w,i32_w]
  rfl
 refine one_ (i:=3) (N:=some 33) #[true,true,true,true,false] rfl rfl (by kernel_rfl) (by decide) (fun K hK=>?_)
 refine goes_ Try.func13 (by kernel_rfl) rfl #[.agg #[.int .i64 t297,.slice Ao51 t298.length co51,.slice Ao52 t301.length co52],.agg #[.int .i64 t306,.slice Ao56 t307.length co56,.slice Ao57 t310.length co57]] (by rfl) rfl rfl (by (try simp only [mA,mC,mN]);first|done|rfl|(simp only [List.length_drop,List.length_take];rfl)) ?_
 with_reducible refine (laws_eqWave.calls k t297 _ _ t298 _ _ t301 t306 _ _ t307 _ _ t310 false _ ?side1 ?side2 ?side3 ?side4 ?side5 ?side6 ?side7 ?side8 A15.out).mono ?_
 (case side1=>repeat (first|exact (Kd.R_reads' HO300.out).2.2|(with_reducible first|apply aC|apply nC|apply dC)))
 (case side2=>exact (Kd.R_reads' HO300.out).2.1)
 (case side3=>repeat (first|exact (Kd.S_reads' HO303.out).2.2|(with_reducible first|apply aC|apply nC|apply dC)))
 (case side4=>exact (Kd.S_reads' HO303.out).2.1)
 (case side5=>repeat (first|exact (Kd.R_reads' HO309.out).2.2|(with_reducible first|apply aC|apply nC|apply dC)))
 (case side6=>exact (Kd.R_reads' HO309.out).2.1)
 (case side7=>repeat (first|exact (Kd.S_reads' HO312.out).2.2|(with_reducible first|apply aC|apply nC|apply dC)))
 (case side8=>exact (Kd.S_reads' HO312.out).2.1)
 rintro e w58 ⟨rfl,hb⟩
 refine⟨_,rfl,?_⟩
 have n0_:=mk0 (Kd.R_below (by (with_reducible repeat (first|apply aR|apply nR|apply dR));exact HO292.out) hb)
 have n1_:=mk0 (Kd.S_below (by (with_reducible repeat (first|apply aS|apply nS|apply dS));exact HO295.out) hb)
 have n2_:=mk0 (Kd.R_below (by (with_reducible repeat (first|apply aR|apply nR|apply dR));exact HO300.out) hb)
 have n3_:=mk0 (Kd.S_below (by (with_reducible repeat (first|apply aS|apply nS|apply dS));exact HO303.out) hb)
 have n4_:=mk0 (Kd.R_below (by (with_reducible repeat (first|apply aR|apply nR|apply dR));exact HO309.out) hb)
 have n5_:=mk0 (Kd.S_below (by (with_reducible repeat (first|apply aS|apply nS|apply dS));exact HO312.out) hb)
 have n6_:=mk0 (blk_below (g:=gb287) (o:=.cells #[.int .i64 a0_0,.slice A0_1 l0_1.length c0_1,.slice A0_2 l0_2.length c0_2] 25 (0,0)) (by (with_reducible repeat (first|apply nB|apply dB|apply aB));exact BK287.out) hb)
 have n7_:=mk0 (blk_below (g:=gb304) (o:=.cells #[.int .i64 t297,.slice Ao51 t298.length co51,.slice Ao52 t301.length co52] 30 (0,0)) (by (with_reducible repeat (first|apply nB|apply dB|apply aB));exact BK304.out) hb)
 have n8_:=mk0 (below_step (by repeat (first|(with_reducible first|exact HB.out|apply aZ|apply nZ|apply dZ|refine sZ ?_ GE287.out|refine sZ ?_ GE304.out)|exact HB.out)) hb)
 clear HO292
 clear HO295
 clear HO300
 clear HO303
 clear HO309
 clear HO312
 clear BK287
 clear BK304
 clear HB
 have HO292:=n0_
 have HO295:=n1_
 have HO300:=n2_
 have HO303:=n3_
 have HO309:=n4_
 have HO312:=n5_
 have BK287:=n6_
 have BK304:=n7_
 have HB:=n8_
 clear n0_ n1_ n2_ n3_ n4_ n5_ n6_ n7_ n8_
 (try clear hb)
 (try clear hb2)
 (try clear hk)
 (try clear hi)
 refine hK.out _ _ ⟨(blk_cell BK304.out 0).trans rfl,(blk_cell BK304.out 1).trans rfl,(blk_cell BK304.out 2).trans rfl,(blk_cell BK287.out 0).trans rfl,(blk_cell BK287.out 1).trans rfl,(blk_cell BK287.out 2).trans rfl⟩ (fun hHeld=>?_)
 clear hK K
 refine norm_ (a':=?_) ?_ ?_
 rotate_left
 ·show Act.put _ (some 33) _ = _
  simp only [Act.put,sA,sO,sS,i64_w,i32_w]
  rfl
 refine pure_ (i:=4) (N:=some 34) (v:=?_) (a':=?_) #[true,true,true,true,true] rfl rfl (by kernel_rfl) (fun _ _ _ h=>h) (Or.inl ⟨by rfl,?_⟩) ?_ ?_
 rotate_left
 ·intro w'
  go_simp
  with_reducible rfl
 rotate_left
 ·simp only [Act.put,sA,sO,sS,i64_w,i32_w]
  rfl
 refine done_ (by kernel_rfl) ?_
 try go_wp2
 go_ret
 exact⟨by first|rfl|(simp [errW_none,errW_some] <;> rfl)|(simp [*,errW_none,errW_some] <;> rfl),by repeat (first|(with_reducible first|exact HB.out|apply aZ|apply nZ|apply dZ|refine sZ ?_ GE287.out|refine sZ ?_ GE304.out)|exact HB.out)⟩
/-- The plain statement of laws_FnExactWaveSelect. -/
def laws_FnExactWaveSelect.Pure : Prop := ∀ (a0_0 : Int) (l0_1 : List Int) (l0_2 : List (S74)) (a1 : Int) (a2 : Int), ok25 ((⟨a0_0, l0_1, l0_2⟩ : S25)) → (Fv.OkI .i64) a1 → (Fv.OkI .i64) a2 → ∃ k, laws_FnExactWaveSelect.f k a0_0 l0_1 l0_2 a1 a2 = some true

end Go.Proofs.Ytamdhfjnalglfaa.QFnExactWaveSelect
