-- A walk, made by walk.py, a program of this session's.
import Derived.Test.YtamdhfjnalglfaaQFnExactWaveLessx0
import Derived.Test.YtamdhfjnalglfaaQFnExactWaveLessx1
import Derived.Test.YtamdhfjnalglfaaQFnExactWaveLessx2
import Derived.Test.YtamdhfjnalglfaaQFnExactWaveLessx7
import Derived.Test.YtamdhfjnalglfaaQFnExactWaveLessx8
namespace Go.Proofs.Ytamdhfjnalglfaa.QFnExactWaveLess
open Go.RowKit Go.Proofs.YtamdhfjnalglfaaW.PrintWords Go.Proofs.YtamdhfjnalglfaaW.PrintLast Go.Proofs.YtamdhfjnalglfaaW.PrintMore
attribute [local go_sem] max2_int min2_int max_two min_two max_three min_three max_four min_four   -- for this text's walks alone
set_option linter.unusedVariables false
set_option linter.unusedSimpArgs false

/-! ### impl_isRange: function 57 -/
def impl_isRange.f (a0 : Int) (a1 : Int) (a2 : Int) : Option (Bool) := if 0 ≤ a0 then (if a0 ≤ a1 then (some (decide (a1 ≤ a2))) else (some false)) else (some false)
set_option maxHeartbeats 8000000 in
set_option maxRecDepth 100000 in
theorem impl_isRange.calls (a0 : Int) (a1 : Int) (a2 : Int) (r : Bool) (w : World) (h : impl_isRange.f a0 a1 a2 = some r) :
  Calls Try.prog 57 #[.int .i64 a0, .int .i64 a1, .int .i64 a2] w fun e w' => e = .returned (.bool r) ∧ Drawn0 w w' := by
 have H:(if 0 ≤ a0 then (if a0 ≤ a1 then (some (decide (a1 ≤ a2))) else (some false)) else (some false)) = some r:=h
 clear h
 by_cases c4:0 ≤ a0
 ·rw [if_pos c4] at H
  have c4b0:decide (0 ≤ a0) = true:=decide_eq_true c4
  clear c4
  by_cases c5:a0 ≤ a1
  ·rw [if_pos c5] at H
   have c5b0:decide (a0 ≤ a1) = true:=decide_eq_true c5
   clear c5
   obtain rfl:=Option.some.inj H
   go_enter Try.func57,Try.ntmps57
   go_wp2
   go_ret
   exact⟨by first|rfl|(simp;done)|(simp [*];done),by repeat (first|exact Drawn0.refl _|apply Drawn0.step)⟩
  ·rw [if_neg c5] at H
   have c5b0:decide (a0 ≤ a1) = false:=decide_eq_false c5
   clear c5
   obtain rfl:=Option.some.inj H
   go_enter Try.func57,Try.ntmps57
   go_wp2
   go_ret
   exact⟨by first|rfl|(simp;done)|(simp [*];done),by repeat (first|exact Drawn0.refl _|apply Drawn0.step)⟩
 ·rw [if_neg c4] at H
  have c4b0:decide (0 ≤ a0) = false:=decide_eq_false c4
  clear c4
  obtain rfl:=Option.some.inj H
  go_enter Try.func57,Try.ntmps57
  go_wp2
  go_ret
  exact⟨by first|rfl|(simp;done)|(simp [*];done),by repeat (first|exact Drawn0.refl _|apply Drawn0.step)⟩

/-! ### impl_WaveLess: function 27 -/
mutual
def impl_WaveLess.j0 : Nat → Int → Int → Int → List Int → Bool → Option (Int)
 | 0, _, _, _, _, _ => none
 | k + 1, x1, x2, x3, x9, x28 => if x28 = true then (some (-1)) else (if 0 ≤ x2 then (if x2 ≤ x3 then (if x3 ≤ (x9.length : Int) then ((some ((x9.take (x3 : Int).toNat).drop (x2 : Int).toNat : List Int)).bind fun y284 => (impl_WaveLess.l0 k x1 0 y284 (y284.length : Int) 0)) else (none)) else (none)) else (none))
def impl_WaveLess.l0 : Nat → Int → Int → List Int → Int → Int → Option (Int)
 | 0, _, _, _, _, _ => none
 | k + 1, x1, x11, x32, x33, x34 => if x34 < x33 then (if 0 ≤ x34 then (if x34 < (x32.length : Int) then (if (rd x32 x34) < x1 then (impl_WaveLess.l0 k x1 (wrap64 (x11 + 1)) x32 x33 (wrap64 (x34 + 1))) else (impl_WaveLess.l0 k x1 x11 x32 x33 (wrap64 (x34 + 1)))) else (none)) else (none)) else (some x11)
end
def impl_WaveLess.f (k : Nat) (a0_0 : Int) (l0_1 : List Int) (l0_2 : List (S64)) (a1 : Int) (a2 : Int) (a3 : Int) : Option (Int) := (impl_Wave_read.f k a0_0 l0_1 l0_2).bind fun bt279 => (if bt279.2 = true then ((impl_isRange.f a2 a3 (bt279.1.length : Int)).bind fun t283 => (impl_WaveLess.j0 k a1 a2 a3 bt279.1 (!t283))) else (impl_WaveLess.j0 k a1 a2 a3 bt279.1 true))
theorem impl_WaveLess.mono_l : ∀ k, (∀ y0 y1 y2 y3 y4, LeO (impl_WaveLess.j0 k y0 y1 y2 y3 y4) (impl_WaveLess.j0 (k + 1) y0 y1 y2 y3 y4)) ∧ (∀ y0 y1 y2 y3 y4, LeO (impl_WaveLess.l0 k y0 y1 y2 y3 y4) (impl_WaveLess.l0 (k + 1) y0 y1 y2 y3 y4))
 | 0 => ⟨fun _ _ _ _ _ r h => by simp [impl_WaveLess.j0] at h, fun _ _ _ _ _ r h => by simp [impl_WaveLess.l0] at h⟩
 | k + 1 => by
  obtain ⟨ih0, ih1⟩ := impl_WaveLess.mono_l k
  refine ⟨?_, ?_⟩
  ·intro y0 y1 y2 y3 y4
   unfold impl_WaveLess.j0
   repeat' first|(with_reducible first|exact ih0 _ _ _ _ _|exact ih1 _ _ _ _ _|exact impl_Wave_read.mono _ _ _ _|exact LeO.refl _|exact LeO.none _|refine LeO.ite ?_ ?_|refine LeO.bind ?_ (fun _ => ?_))|exact LeO.none _|refine LeO.ite ?_ ?_|refine LeO.bind ?_ (fun _ => ?_)
  ·intro y0 y1 y2 y3 y4
   unfold impl_WaveLess.l0
   repeat' first|(with_reducible first|exact ih0 _ _ _ _ _|exact ih1 _ _ _ _ _|exact impl_Wave_read.mono _ _ _ _|exact LeO.refl _|exact LeO.none _|refine LeO.ite ?_ ?_|refine LeO.bind ?_ (fun _ => ?_))|exact LeO.none _|refine LeO.ite ?_ ?_|refine LeO.bind ?_ (fun _ => ?_)
theorem impl_WaveLess.mono : ∀ a0 a1 a2 a3 a4 a5 k, LeO (impl_WaveLess.f k a0 a1 a2 a3 a4 a5) (impl_WaveLess.f (k + 1) a0 a1 a2 a3 a4 a5) := by
 intro a0 a1 a2 a3 a4 a5 k
 obtain ⟨ih0, ih1⟩ := impl_WaveLess.mono_l k
 unfold impl_WaveLess.f
 repeat' first|(with_reducible first|exact ih0 _ _ _ _ _|exact ih1 _ _ _ _ _|exact impl_Wave_read.mono _ _ _ _|exact LeO.refl _|exact LeO.none _|refine LeO.ite ?_ ?_|refine LeO.bind ?_ (fun _ => ?_))|exact LeO.none _|refine LeO.ite ?_ ?_|refine LeO.bind ?_ (fun _ => ?_)
set_option maxHeartbeats 8000000 in
set_option maxRecDepth 100000 in
theorem impl_WaveLess.calls (k : Nat) (a0_0 : Int) (A0_1 : Option Addr) (c0_1 : Nat) (l0_1 : List Int) (A0_2 : Option Addr) (c0_2 : Nat) (l0_2 : List (S64)) (a1 : Int) (a2 : Int) (a3 : Int) (r : Int) (w : World) (hr0_1 : Kd.C (Kd.int .i64) w A0_1 l0_1.length l0_1) (hc0_1 : l0_1.length ≤ c0_1) (hr0_2 : Kd.C k64 w A0_2 l0_2.length l0_2) (hc0_2 : l0_2.length ≤ c0_2) (h : impl_WaveLess.f k a0_0 l0_1 l0_2 a1 a2 a3 = some r) :
  Calls Try.prog 27 #[.agg #[.int .i64 a0_0, .slice A0_1 l0_1.length c0_1, .slice A0_2 l0_2.length c0_2], .int .i64 a1, .int .i64 a2, .int .i64 a3] w fun e w' => e = .returned (.int .i64 r) ∧ Below w.heap.size w w' := by
 have hu30:=Try.underlying30
 have HR0_1:=mk0 hr0_1
 have HC0_1:=mk0 hc0_1
 clear hr0_1 hc0_1
 have HR0_2:=mk0 hr0_2
 have HC0_2:=mk0 hc0_2
 clear hr0_2 hc0_2
 have HB:=mk0 (Below.refl w.heap.size w)
 have H:((impl_Wave_read.f k a0_0 l0_1 l0_2).bind fun bt279=>(if bt279.2 = true then ((impl_isRange.f a2 a3 (bt279.1.length:Int)).bind fun t283=>(impl_WaveLess.j0 k a1 a2 a3 bt279.1 (!t283))) else (impl_WaveLess.j0 k a1 a2 a3 bt279.1 true))) = some r:=h
 clear h
 replace H:=Option.bind_eq_some_iff.mp H
 obtain⟨⟨t279,t282⟩,A50,H⟩:=H
 replace H:(if t282 = true then ((impl_isRange.f a2 a3 (t279.length:Int)).bind fun t283=>(impl_WaveLess.j0 k a1 a2 a3 t279 (!t283))) else (impl_WaveLess.j0 k a1 a2 a3 t279 true)) = some r:=H
 have A5:=mk0 A50
 clear A50
 have HC6:=mk0 H
 clear H
 go_enter Try.func27,Try.ntmps27
 go_upto_region 2 with (first|((with_reducible refine gate_dst (N:=4) rfl ?_);(try (refine gate_guard (by rfl) ?_;dsimp only));refine box_event ?hg (N:=4) ?hd (cs:=#[.int .i64 a0_0,.slice A0_1 l0_1.length c0_1,.slice A0_2 l0_2.length c0_2]) (t:=30) ?hr ?_;(case hd=>rfl);(case hg=>rfl);(case hr=>first|(go_simp;done)|(go_simp;rfl));intro gb278 hg w7 hbox hb;have n0_:=mk0 (below_step (by repeat (first|(with_reducible first|exact HB.out|apply aZ|apply nZ|apply dZ)|exact HB.out)) hb);have n1_:=mk0 (hbox);have n2_:=mk0 ((by rw [hg];exact (below_size (by repeat (first|(with_reducible first|exact HB.out|apply aZ|apply nZ|apply dZ)|exact HB.out))):w.heap.size ≤ gb278));have n3_:=mk0 ((by rw [hg];exact (below_size (by repeat (first|(with_reducible first|exact HB.out|apply aZ|apply nZ|apply dZ)|exact HB.out))):w.heap.size ≤ gb278));clear HB;have HB:=n0_;have BK278:=n1_;have GW278:=n2_;have GE278:=n3_;clear n0_ n1_ n2_ n3_ hb hbox hg;have hcz8_0:w7.cell? ⟨gb278,0,none⟩ = some (.int .i64 a0_0):=(blk_cell BK278.out 0).trans rfl;have hcz8_1:w7.cell? ⟨gb278,1,none⟩ = some (.slice A0_1 l0_1.length c0_1):=(blk_cell BK278.out 1).trans rfl;have hcz8_2:w7.cell? ⟨gb278,2,none⟩ = some (.slice A0_2 l0_2.length c0_2):=(blk_cell BK278.out 2).trans rfl;have hfz8_0:=blk_frozen BK278.out 0;have hfz8_1:=blk_frozen BK278.out 1;have hfz8_2:=blk_frozen BK278.out 2)|((with_reducible refine gate_callee (f:=40) rfl ?_);refine goesL_ (some 16) rfl rfl Try.func40 (by kernel_rfl) rfl #[.agg #[.int .i64 a0_0,.slice A0_1 l0_1.length c0_1,.slice A0_2 l0_2.length c0_2]] rfl (by (try simp only [mA,mC,mN]);first|done|rfl|(simp only [List.length_drop,List.length_take];rfl)) ?_;(with_reducible refine (impl_Wave_read.calls k a0_0 _ _ l0_1 _ _ l0_2 t279 t282 _ ?side1 ?side2 ?side3 ?side4 A5.out).mono ?_);(case side1=>repeat (first|exact (Kd.C_below HR0_1.out HB.out)|(with_reducible first|apply aC|apply nC|apply dC)));(case side2=>exact HC0_1.out);(case side3=>repeat (first|exact (Kd.C_below HR0_2.out HB.out)|(with_reducible first|apply aC|apply nC|apply dC)));(case side4=>exact HC0_2.out);rintro e w9 ⟨v280,rfl,ho0,hb⟩;refine⟨_,rfl,?_⟩;have n0_:=mk0 (Kd.R_lower ho0 (below_size (by repeat (first|(with_reducible first|exact HB.out|apply aZ|apply nZ|apply dZ|refine sZ ?_ GE278.out)|exact HB.out))));have n1_:=mk0 (blk_below (g:=gb278) (o:=.cells #[.int .i64 a0_0,.slice A0_1 l0_1.length c0_1,.slice A0_2 l0_2.length c0_2] 30 (0,0)) (by (with_reducible repeat (first|apply nB|apply dB|apply aB));exact BK278.out) hb);have n2_:=mk0 (below_step (by repeat (first|(with_reducible first|exact HB.out|apply aZ|apply nZ|apply dZ|refine sZ ?_ GE278.out)|exact HB.out)) hb);clear BK278 HB;have HO281:=n0_;have BK278:=n1_;have HB:=n2_;clear n0_ n1_ n2_;(try clear hb);(try clear hb2);(try clear hk);(try clear hi);(try clear ho0)))
 (try simp only [Act.put,sA,sO,sS])
 go_cut [28] (fun v28 wc=>∃ (kq:Nat) (x28_5:Bool),v28 = .bool x28_5 ∧ Aside0 (impl_WaveLess.j0 kq a1 a2 a3 t279 x28_5 = some r) ∧ Aside0 (kq ≤ k) ∧ Aside0 (Kd.R (Kd.int .i64) 3 wc w.heap.size (fun _=>True) v280 t279) ∧ Aside0 (wc.heap[gb278]? = some (.cells #[.int .i64 a0_0,(.slice A0_1 l0_1.length c0_1),(.slice A0_2 l0_2.length c0_2)] 30 (0,0))) ∧ Aside0 (Below w.heap.size w wc))
 case first =>
  have H:=HC6.out
  clear HC6
  by_cases c10:t282 = true
  rotate_left
  ·replace c10:=Bool.eq_false_iff.mpr c10
   subst c10
   have H1:(impl_WaveLess.j0 k a1 a2 a3 t279 true) = some r:=by rw [if_neg (show ¬ (false = true) by decide)] at H;exact H
   clear H
   have H:=H1
   clear H1
   have H':=mk0 H
   clear H
   go_wp2
   go_meet
   case rel=>exact⟨_,(true),(by first|rfl|(simp;done)|(simp [*];done)),H',⟨by first|omega|exact Nat.le_refl _⟩,⟨by (with_reducible repeat (first|apply aR|apply nR|apply dR));exact HO281.out⟩,⟨by (with_reducible repeat (first|apply nB|apply dB|apply aB));exact BK278.out⟩,⟨by repeat (first|(with_reducible first|exact HB.out|apply aZ|apply nZ|apply dZ|refine sZ ?_ GE278.out)|exact HB.out)⟩⟩
  subst c10
  have H1:((impl_isRange.f a2 a3 (t279.length:Int)).bind fun t283=>(impl_WaveLess.j0 k a1 a2 a3 t279 (!t283))) = some r:=by rw [if_pos rfl] at H;exact H
  clear H
  have H:=H1
  clear H1
  replace H:=Option.bind_eq_some_iff.mp H
  obtain⟨t283,A110,H⟩:=H
  replace H:(impl_WaveLess.j0 k a1 a2 a3 t279 (!t283)) = some r:=H
  have A11:=mk0 A110
  clear A110
  have H':=mk0 H
  clear H
  obtain⟨Ao12,co12,eo12⟩:=Kd.R_slice HO281.out
  subst eo12
  go_wp2_with (first|(go_at_call 57;(with_reducible refine (impl_isRange.calls a2 a3 (t279.length:Int) t283 _ A11.out).mono ?_);rintro e w' ⟨rfl,⟨nd,rfl⟩⟩))
  go_meet
  case rel=>exact⟨_,(!t283),(by first|rfl|(simp;done)|(simp [*];done)),H',⟨by first|omega|exact Nat.le_refl _⟩,⟨by (with_reducible repeat (first|apply aR|apply nR|apply dR));exact HO281.out⟩,⟨by (with_reducible repeat (first|apply nB|apply dB|apply aB));exact BK278.out⟩,⟨by repeat (first|(with_reducible first|exact HB.out|apply aZ|apply nZ|apply dZ|refine sZ ?_ GE278.out)|exact HB.out)⟩⟩
 case rest =>
  clear HC6
  try clear c1
  try clear c2
  try clear p2
  try clear c4
  try clear c10
  try clear hcz8_0
  try clear hcz8_1
  try clear hcz8_2
  try clear hfz8_0
  try clear hfz8_1
  try clear hfz8_2
  obtain⟨kq,x28_5,rfl,HA,HJ5,HO_9,BK278,HB⟩:=hcut
  cases kq with
  | zero=>exact absurd HA.out (by simp [impl_WaveLess.j0])
  | succ kj5 =>
   have H:=HA.out
   clear HA
   simp only [impl_WaveLess.j0] at H
   by_cases c13:x28_5 = true
   ·subst c13
    have H1:(some (-1)) = some r:=by rw [if_pos rfl] at H;exact H
    clear H
    have H:=H1
    clear H1
    obtain rfl:=Option.some.inj H
    go_wp2
    go_ret
    exact⟨by first|rfl|(simp [errW_none,errW_some] <;> rfl)|(simp [*,errW_none,errW_some] <;> rfl),by repeat (first|(with_reducible first|exact HB.out|apply aZ|apply nZ|apply dZ|refine sZ ?_ GE278.out)|exact HB.out)⟩
   replace c13:=Bool.eq_false_iff.mpr c13
   subst c13
   have H1:(if 0 ≤ a2 then (if a2 ≤ a3 then (if a3 ≤ (t279.length:Int) then ((some ((t279.take (a3:Int).toNat).drop (a2:Int).toNat:List Int)).bind fun y284=>(impl_WaveLess.l0 kj5 a1 0 y284 (y284.length:Int) 0)) else (none)) else (none)) else (none)) = some r:=by rw [if_neg (show ¬ (false = true) by decide)] at H;exact H
   clear H
   have H:=H1
   clear H1
   by_cases c14:0 ≤ a2
   rotate_left
   ·rw [if_neg c14] at H
    exact absurd H (by simp)

   rw [if_pos c14] at H
   have c14b0:=eq_true c14
   have c14b1:decide (0 ≤ a2) = true:=decide_eq_true c14
   clear c14
   by_cases c15:a2 ≤ a3
   rotate_left
   ·rw [if_neg c15] at H
    exact absurd H (by simp)
   rw [if_pos c15] at H
   have c15b0:=eq_true c15
   have c15b1:decide (a2 ≤ a3) = true:=decide_eq_true c15
   clear c15
   by_cases c16:a3 ≤ (t279.length:Int)
   rotate_left
   ·rw [if_neg c16] at H
    exact absurd H (by simp)
   rw [if_pos c16] at H
   have c16b0:=eq_true c16
   have c16b1:decide (a3 ≤ (t279.length:Int)) = true:=decide_eq_true c16
   clear c16
   obtain⟨y284,hy284⟩:∃ y_:List Int,y_ = ((t279.take (a3:Int).toNat).drop (a2:Int).toNat):=⟨_,rfl⟩
   replace H:(impl_WaveLess.l0 kj5 a1 0 y284 (y284.length:Int) 0) = some r:=by first|(rw [hy284];with_reducible exact H)|(have H2_:=(Option.bind_some _ _).symm.trans H;rw [hy284];with_reducible exact H2_)|(have H2_:=(Option.bind_some _ _).symm.trans H;with_reducible exact H2_)|with_reducible exact H|(rw [hy284];exact H)|exact H
   have Ny284:=mk0 hy284
   clear hy284
   have H':=mk0 H
   clear H
   obtain⟨Ao18,co18,eo18⟩:=Kd.R_slice HO_9.out
   subst eo18
   have q17:(a3:Int) ≤ ((t279.length:Int):Int):=of_decide_eq_true (by first|(with_reducible assumption)|assumption)
   obtain⟨i017,hi017,_,hsz17,_⟩:=info_parts info3
   have hroom17:t279.length ≤ co18:=(Kd.R_reads' HO_9.out).2.1
   have hC17:Kd.C (Kd.int .i64) _ Ao18 t279.length t279:=(Kd.R_reads' HO_9.out).2.2
   have ql17:(a2:Int) ≤ (a3:Int):=of_decide_eq_true (by first|(with_reducible assumption)|assumption)
   have q017:(0:Int) ≤ (a2:Int):=of_decide_eq_true (by first|(with_reducible assumption)|assumption)
   have hcut17:=cut_mid (P:=Try.prog) 22 3 .i64 .i64 Try.underlying22 hi017 1 hsz17 Ao18 t279.length co18 a2 a3 q017 ql17 q17 hroom17
   have hr17:=Kd.C_mid (lo:=(a2:Int).toNat) (hi:=(a3:Int).toNat) (c:=co18) hC17 (by omega) (by omega) hroom17
   obtain⟨A17,hA17⟩:∃ A1,A1 = (if co18 = (a2:Int).toNat then Ao18 else (Ao18:Option Addr).map (·.add ((a2:Int).toNat * 1))):=⟨_,rfl⟩
   obtain⟨c17,hc17⟩:∃ c1,c1 = co18 - (a2:Int).toNat:=⟨_,rfl⟩
   have hy17:y284.length = (a3:Int).toNat - (a2:Int).toNat:=(by rw [Ny284.out,List.length_drop,List.length_take] <;> omega)
   rw [show ((t279).take (a3:Int).toNat).drop (a2:Int).toNat = y284 from Ny284.out.symm] at hr17
   replace hr17:Kd.C (Kd.int .i64) _ A17 y284.length y284:=(by rw [hA17];exact hr17)
   rw [← hy17, ← hA17, ← hc17] at hcut17
   have HR287:=mk0 hr17
   have HC287:=mk0 (show y284.length ≤ c17 from by rw [hy17,hc17];exact Nat.sub_le_sub_right (Nat.le_trans (by omega) hroom17) _)
   clear hr17 hC17 hroom17 hi017 hsz17 hc17
   have KY17:=mk0 hy17
   have KA17:=mk0 hA17
   clear hy17 hA17
   have KL17:=mk0 (show (a3:Int).toNat ≤ t279.length from by omega)
   have KM17:=mk0 (show (a2:Int).toNat ≤ (a3:Int).toNat from by omega)
   replace q17:=eq_true q17
   go_wp2
   go_loopg [11,34] kj5 (fun kq v11 v34 w'=>∃ (x11_2:Int) (x34_2:Int),v11 = .int .i64 x11_2 ∧ v34 = .int .i64 x34_2 ∧ Aside0 (impl_WaveLess.l0 kq a1 x11_2 y284 (y284.length:Int) x34_2 = some r) ∧ Aside0 (kq ≤ kj5) ∧ Aside0 (w'.heap[gb278]? = some (.cells #[.int .i64 a0_0,(.slice A0_1 l0_1.length c0_1),(.slice A0_2 l0_2.length c0_2)] 30 (0,0))) ∧ Aside0 (Kd.C (Kd.int .i64) w' A17 y284.length y284) ∧ Aside0 (Below w.heap.size w w'))
   case atStart=>exact⟨(0),(0),(by first|rfl|(simp;done)|(simp [*];done)),(by first|rfl|(simp;done)|(simp [*];done)),H',⟨Nat.le_refl _⟩,⟨by (with_reducible repeat (first|apply nB|apply dB|apply aB));exact BK278.out⟩,⟨by repeat (first|(with_reducible exact HR287.out)|(with_reducible first|apply aC|apply nC|apply dC)|exact HR287.out)⟩,⟨by repeat (first|(with_reducible first|exact HB.out|apply aZ|apply nZ|apply dZ|refine sZ ?_ GE278.out)|exact HB.out)⟩⟩
   case round =>
    clear H'
    try clear c1
    try clear q1
    try clear c2
    try clear p2
    try clear c4
    try clear c10
    try clear c13
    try clear c14
    try clear c14b0
    try clear c14b1
    try clear c15
    try clear c15b0
    try clear c15b1
    try clear c16
    try clear c16b0
    try clear c16b1
    try clear c17
    try clear q17
    try clear hcz8_0
    try clear hcz8_1
    try clear hcz8_2
    try clear hfz8_0
    try clear hfz8_1
    try clear hfz8_2
    try clear p2
    try clear q017
    try clear q17
    obtain⟨x11_2,x34_2,rfl,rfl,HA,HK2,BK278,HR287,HB⟩:=hrel
    cases gk with
    | zero=>exact absurd HA.out (by simp [impl_WaveLess.l0])
    | succ k2 =>
     have H:=HA.out
     clear HA
     simp only [impl_WaveLess.l0] at H
     by_cases c19:x34_2 < (y284.length:Int)
     rotate_left
     ·rw [if_neg c19] at H
      have c19b0:decide (x34_2 < (y284.length:Int)) = false:=decide_eq_false c19
      clear c19
      obtain rfl:=Option.some.inj H
      go_wp2
      go_ret
      exact⟨by first|rfl|(simp [errW_none,errW_some] <;> rfl)|(simp [*,errW_none,errW_some] <;> rfl),by repeat (first|(with_reducible first|exact HB.out|apply aZ|apply nZ|apply dZ|refine sZ ?_ GE278.out)|exact HB.out)⟩
     rw [if_pos c19] at H
     have c19b0:decide (x34_2 < (y284.length:Int)) = true:=decide_eq_true c19
     clear c19
     by_cases c20:0 ≤ x34_2
     rotate_left
     ·rw [if_neg c20] at H
      exact absurd H (by simp)
     rw [if_pos c20] at H
     have c20b0:decide (0 ≤ x34_2) = true:=decide_eq_true c20
     clear c20
     by_cases c21:x34_2 < (y284.length:Int)
     rotate_left
     ·rw [if_neg c21] at H
      exact absurd H (by simp)
     rw [if_pos c21] at H
     have c21b0:decide (x34_2 < (y284.length:Int)) = true:=decide_eq_true c21
     clear c21
     by_cases c22:(rd y284 x34_2) < a1
     rotate_left
     ·rw [if_neg c22] at H
      have c22b0:decide ((rd y284 x34_2) < a1) = false:=decide_eq_false c22
      clear c22
      have H':=mk0 H
      clear H
      have p288:0 ≤ (x34_2:Int):=of_decide_eq_true (by first|(with_reducible assumption)|assumption)
      have q288:x34_2 < (y284.length:Int):=of_decide_eq_true (by first|(with_reducible assumption)|assumption)
      obtain⟨ad288,e288,hx288_0⟩:=Kd.at_int (by repeat (first|(with_reducible exact HR287.out)|(with_reducible first|apply aC|apply nC|apply dC)|exact HR287.out)) x34_2 p288 q288
      cases e288
      replace p288:=eq_true p288
      replace q288:=eq_true q288
      go_wp2
      go_roundg k2
      case measure=>have:=HJ5.out;have:=HK2.out;omega
      case rel=>exact⟨(x11_2),(wrap64 (x34_2 + 1)),(by first|rfl|(simp;done)|(simp [*];done)),(by first|rfl|(simp;done)|(simp [*];done)),H',⟨by have:=HJ5.out;have:=HK2.out;omega⟩,⟨by (with_reducible repeat (first|apply nB|apply dB|apply aB));exact BK278.out⟩,⟨by repeat (first|(with_reducible exact HR287.out)|(with_reducible first|apply aC|apply nC|apply dC)|exact HR287.out)⟩,⟨by repeat (first|(with_reducible first|exact HB.out|apply aZ|apply nZ|apply dZ|refine sZ ?_ GE278.out)|exact HB.out)⟩⟩
     rw [if_pos c22] at H
     have c22b0:decide ((rd y284 x34_2) < a1) = true:=decide_eq_true c22
     clear c22
     have H':=mk0 H
     clear H
     have p288:0 ≤ (x34_2:Int):=of_decide_eq_true (by first|(with_reducible assumption)|assumption)
     have q288:x34_2 < (y284.length:Int):=of_decide_eq_true (by first|(with_reducible assumption)|assumption)
     obtain⟨ad288,e288,hx288_0⟩:=Kd.at_int (by repeat (first|(with_reducible exact HR287.out)|(with_reducible first|apply aC|apply nC|apply dC)|exact HR287.out)) x34_2 p288 q288
     cases e288
     replace p288:=eq_true p288
     replace q288:=eq_true q288
     go_wp2
     go_roundg k2
     case measure=>have:=HJ5.out;have:=HK2.out;omega
     case rel=>exact⟨(wrap64 (x11_2 + 1)),(wrap64 (x34_2 + 1)),(by first|rfl|(simp;done)|(simp [*];done)),(by first|rfl|(simp;done)|(simp [*];done)),H',⟨by have:=HJ5.out;have:=HK2.out;omega⟩,⟨by (with_reducible repeat (first|apply nB|apply dB|apply aB));exact BK278.out⟩,⟨by repeat (first|(with_reducible exact HR287.out)|(with_reducible first|apply aC|apply nC|apply dC)|exact HR287.out)⟩,⟨by repeat (first|(with_reducible first|exact HB.out|apply aZ|apply nZ|apply dZ|refine sZ ?_ GE278.out)|exact HB.out)⟩⟩
/-! ### laws_FnExactWaveLess: function 6 -/
def laws_FnExactWaveLess.f (k : Nat) (a0_0 : Int) (l0_1 : List Int) (l0_2 : List (S74)) (a1 : Int) (a2 : Int) (a3 : Int) : Option (Bool) := (laws_szWave.f k a0_0 l0_1 l0_2 1048576).bind fun t290 => (if t290 < 0 then (some true) else ((laws_toWave.f k a0_0 l0_1 l0_2).bind fun bt291 => ((spec_WaveLess.f k bt291.1 bt291.2.1 bt291.2.2 a1 a2 a3).bind fun t298 => ((laws_toWave.f k a0_0 l0_1 l0_2).bind fun bt299 => ((impl_WaveLess.f k bt299.1 bt299.2.1 bt299.2.2 a1 a2 a3).bind fun t307 => (if t307 = t298 then ((laws_toWave.f k a0_0 l0_1 l0_2).bind fun bt308 => ((laws_eqWave.f k bt299.1 bt299.2.1 bt299.2.2 bt308.1 bt308.2.1 bt308.2.2).bind fun t315 => (if t315 = true then (some true) else (some false)))) else (some false)))))))
theorem laws_FnExactWaveLess.mono : ∀ a0 a1 a2 a3 a4 a5 k, LeO (laws_FnExactWaveLess.f k a0 a1 a2 a3 a4 a5) (laws_FnExactWaveLess.f (k + 1) a0 a1 a2 a3 a4 a5) := by
 intro a0 a1 a2 a3 a4 a5 k
 unfold laws_FnExactWaveLess.f
 repeat' first|(with_reducible first|exact impl_WaveLess.mono _ _ _ _ _ _ _|exact laws_eqWave.mono _ _ _ _ _ _ _|exact laws_szWave.mono _ _ _ _ _|exact laws_toWave.mono _ _ _ _|exact spec_WaveLess.mono _ _ _ _ _ _ _|exact LeO.refl _|exact LeO.none _|refine LeO.ite ?_ ?_|refine LeO.bind ?_ (fun _ => ?_))|exact LeO.none _|refine LeO.ite ?_ ?_|refine LeO.bind ?_ (fun _ => ?_)
set_option maxHeartbeats 8000000 in
set_option maxRecDepth 100000 in
theorem laws_FnExactWaveLess.calls (k : Nat) (a0_0 : Int) (A0_1 : Option Addr) (c0_1 : Nat) (l0_1 : List Int) (A0_2 : Option Addr) (c0_2 : Nat) (l0_2 : List (S74)) (a1 : Int) (a2 : Int) (a3 : Int) (r : Bool) (w : World) (hr0_1 : Kd.C (Kd.int .i64) w A0_1 l0_1.length l0_1) (hc0_1 : l0_1.length ≤ c0_1) (hr0_2 : Kd.C k74 w A0_2 l0_2.length l0_2) (hc0_2 : l0_2.length ≤ c0_2) (h : laws_FnExactWaveLess.f k a0_0 l0_1 l0_2 a1 a2 a3 = some r) :
  Calls Try.prog 6 #[.agg #[.int .i64 a0_0, .slice A0_1 l0_1.length c0_1, .slice A0_2 l0_2.length c0_2], .int .i64 a1, .int .i64 a2, .int .i64 a3] w fun e w' => e = .returned (.bool r) ∧ Below w.heap.size w w' := by
 have hu25:=Try.underlying25
 have hu30:=Try.underlying30
 have HR0_1:=mk0 hr0_1
 have HC0_1:=mk0 hc0_1
 clear hr0_1 hc0_1
 have HR0_2:=mk0 hr0_2
 have HC0_2:=mk0 hc0_2
 clear hr0_2 hc0_2
 have HB:=mk0 (Below.refl w.heap.size w)
 have H:((laws_szWave.f k a0_0 l0_1 l0_2 1048576).bind fun t290=>(if t290 < 0 then (some true) else ((laws_toWave.f k a0_0 l0_1 l0_2).bind fun bt291=>((spec_WaveLess.f k bt291.1 bt291.2.1 bt291.2.2 a1 a2 a3).bind fun t298=>((laws_toWave.f k a0_0 l0_1 l0_2).bind fun bt299=>((impl_WaveLess.f k bt299.1 bt299.2.1 bt299.2.2 a1 a2 a3).bind fun t307=>(if t307 = t298 then ((laws_toWave.f k a0_0 l0_1 l0_2).bind fun bt308=>((laws_eqWave.f k bt299.1 bt299.2.1 bt299.2.2 bt308.1 bt308.2.1 bt308.2.2).bind fun t315=>(if t315 = true then (some true) else (some false)))) else (some false)))))))) = some r:=h
 clear h
 replace H:=Option.bind_eq_some_iff.mp H
 obtain⟨t290,A50,H⟩:=H
 replace H:(if t290 < 0 then (some true) else ((laws_toWave.f k a0_0 l0_1 l0_2).bind fun bt291=>((spec_WaveLess.f k bt291.1 bt291.2.1 bt291.2.2 a1 a2 a3).bind fun t298=>((laws_toWave.f k a0_0 l0_1 l0_2).bind fun bt299=>((impl_WaveLess.f k bt299.1 bt299.2.1 bt299.2.2 a1 a2 a3).bind fun t307=>(if t307 = t298 then ((laws_toWave.f k a0_0 l0_1 l0_2).bind fun bt308=>((laws_eqWave.f k bt299.1 bt299.2.1 bt299.2.2 bt308.1 bt308.2.1 bt308.2.2).bind fun t315=>(if t315 = true then (some true) else (some false)))) else (some false))))))) = some r:=H
 have A5:=mk0 A50
 clear A50
 by_cases c6:t290 < 0
 ·rw [if_pos c6] at H
  have c6b0:decide (t290 < 0) = true:=decide_eq_true c6
  clear c6
  obtain rfl:=Option.some.inj H
  go_enter Try.func6,Try.ntmps6
  go_wp2_with (first|((with_reducible refine gate_dst (N:=4) rfl ?_);refine box_event ?hg (N:=4) ?hd (cs:=#[.int .i64 a0_0,.slice A0_1 l0_1.length c0_1,.slice A0_2 l0_2.length c0_2]) (t:=25) ?hr ?_;(case hd=>rfl);(case hg=>rfl);(case hr=>first|(go_simp;done)|(go_simp;rfl));intro gb289 hg w7 hbox hb;have n0_:=mk0 (below_step (by repeat (first|(with_reducible first|exact HB.out|apply aZ|apply nZ|apply dZ)|exact HB.out)) hb);have n1_:=mk0 (hbox);have n2_:=mk0 ((by rw [hg];exact (below_size (by repeat (first|(with_reducible first|exact HB.out|apply aZ|apply nZ|apply dZ)|exact HB.out))):w.heap.size ≤ gb289));have n3_:=mk0 ((by rw [hg];exact (below_size (by repeat (first|(with_reducible first|exact HB.out|apply aZ|apply nZ|apply dZ)|exact HB.out))):w.heap.size ≤ gb289));clear HB;have HB:=n0_;have BK289:=n1_;have GW289:=n2_;have GE289:=n3_;clear n0_ n1_ n2_ n3_ hb hbox hg;have hcz8_0:w7.cell? ⟨gb289,0,none⟩ = some (.int .i64 a0_0):=(blk_cell BK289.out 0).trans rfl;have hcz8_1:w7.cell? ⟨gb289,1,none⟩ = some (.slice A0_1 l0_1.length c0_1):=(blk_cell BK289.out 1).trans rfl;have hcz8_2:w7.cell? ⟨gb289,2,none⟩ = some (.slice A0_2 l0_2.length c0_2):=(blk_cell BK289.out 2).trans rfl;have hfz8_0:=blk_frozen BK289.out 0;have hfz8_1:=blk_frozen BK289.out 1;have hfz8_2:=blk_frozen BK289.out 2)|((with_reducible refine gate_callee (f:=9) rfl ?_);refine goesL_ (some 15) rfl rfl Try.func9 (by kernel_rfl) rfl #[.agg #[.int .i64 a0_0,.slice A0_1 l0_1.length c0_1,.slice A0_2 l0_2.length c0_2],.int .i64 1048576] rfl (by (try simp only [mA,mC,mN]);first|done|rfl|(simp only [List.length_drop,List.length_take];rfl)) ?_;(with_reducible refine (laws_szWave.calls k a0_0 _ _ l0_1 _ _ l0_2 1048576 t290 _ ?side1 ?side2 ?side3 ?side4 A5.out).mono ?_);(case side1=>repeat (first|exact (Kd.C_below HR0_1.out HB.out)|(with_reducible first|apply aC|apply nC|apply dC)));(case side2=>exact HC0_1.out);(case side3=>repeat (first|exact (Kd.C_below HR0_2.out HB.out)|(with_reducible first|apply aC|apply nC|apply dC)));(case side4=>exact HC0_2.out);rintro e w9 ⟨rfl,hb⟩;refine⟨_,rfl,?_⟩;have n0_:=mk0 (blk_below (g:=gb289) (o:=.cells #[.int .i64 a0_0,.slice A0_1 l0_1.length c0_1,.slice A0_2 l0_2.length c0_2] 25 (0,0)) (by (with_reducible repeat (first|apply nB|apply dB|apply aB));exact BK289.out) hb);have n1_:=mk0 (below_step (by repeat (first|(with_reducible first|exact HB.out|apply aZ|apply nZ|apply dZ|refine sZ ?_ GE289.out)|exact HB.out)) hb);clear BK289 HB;have BK289:=n0_;have HB:=n1_;clear n0_ n1_;(try clear hb);(try clear hb2);(try clear hk);(try clear hi)))
  go_ret
  exact⟨by first|rfl|(simp [errW_none,errW_some] <;> rfl)|(simp [*,errW_none,errW_some] <;> rfl),by repeat (first|(with_reducible first|exact HB.out|apply aZ|apply nZ|apply dZ|refine sZ ?_ GE289.out)|exact HB.out)⟩
 rw [if_neg c6] at H
 have c6b0:decide (t290 < 0) = false:=decide_eq_false c6
 clear c6
 replace H:=Option.bind_eq_some_iff.mp H
 obtain⟨⟨t291,t292,t295⟩,A100,H⟩:=H
 replace H:((spec_WaveLess.f k t291 t292 t295 a1 a2 a3).bind fun t298=>((laws_toWave.f k a0_0 l0_1 l0_2).bind fun bt299=>((impl_WaveLess.f k bt299.1 bt299.2.1 bt299.2.2 a1 a2 a3).bind fun t307=>(if t307 = t298 then ((laws_toWave.f k a0_0 l0_1 l0_2).bind fun bt308=>((laws_eqWave.f k bt299.1 bt299.2.1 bt299.2.2 bt308.1 bt308.2.1 bt308.2.2).bind fun t315=>(if t315 = true then (some true) else (some false)))) else (some false))))) = some r:=H
 have A10:=mk0 A100
 clear A100
 replace H:=Option.bind_eq_some_iff.mp H
 obtain⟨t298,A110,H⟩:=H
 replace H:((laws_toWave.f k a0_0 l0_1 l0_2).bind fun bt299=>((impl_WaveLess.f k bt299.1 bt299.2.1 bt299.2.2 a1 a2 a3).bind fun t307=>(if t307 = t298 then ((laws_toWave.f k a0_0 l0_1 l0_2).bind fun bt308=>((laws_eqWave.f k bt299.1 bt299.2.1 bt299.2.2 bt308.1 bt308.2.1 bt308.2.2).bind fun t315=>(if t315 = true then (some true) else (some false)))) else (some false)))) = some r:=H
 have A11:=mk0 A110
 clear A110
 replace H:=Option.bind_eq_some_iff.mp H
 obtain⟨⟨t299,t300,t303⟩,A120,H⟩:=H
 replace H:((impl_WaveLess.f k t299 t300 t303 a1 a2 a3).bind fun t307=>(if t307 = t298 then ((laws_toWave.f k a0_0 l0_1 l0_2).bind fun bt308=>((laws_eqWave.f k t299 t300 t303 bt308.1 bt308.2.1 bt308.2.2).bind fun t315=>(if t315 = true then (some true) else (some false)))) else (some false))) = some r:=H
 have A12:=mk0 A120
 clear A120
 replace H:=Option.bind_eq_some_iff.mp H
 obtain⟨t307,A130,H⟩:=H
 replace H:(if t307 = t298 then ((laws_toWave.f k a0_0 l0_1 l0_2).bind fun bt308=>((laws_eqWave.f k t299 t300 t303 bt308.1 bt308.2.1 bt308.2.2).bind fun t315=>(if t315 = true then (some true) else (some false)))) else (some false)) = some r:=H
 have A13:=mk0 A130
 clear A130
 by_cases c14:t307 = t298
 rotate_left
 ·rw [if_neg c14] at H
  have c14b0:(t307 == t298) = false:=beq_eq_false_iff_ne.mpr c14
  have c14b1:(t307 != t298) = true:=bne_iff_ne.mpr c14
  obtain rfl:=Option.some.inj H
  go_enter Try.func6,Try.ntmps6
  go_wp2_with (first|((with_reducible refine gate_dst (N:=4) rfl ?_);refine box_event ?hg (N:=4) ?hd (cs:=#[.int .i64 a0_0,.slice A0_1 l0_1.length c0_1,.slice A0_2 l0_2.length c0_2]) (t:=25) ?hr ?_;(case hd=>rfl);(case hg=>rfl);(case hr=>first|(go_simp;done)|(go_simp;rfl));intro gb289 hg w60 hbox hb;have n0_:=mk0 (below_step (by repeat (first|(with_reducible first|exact HB.out|apply aZ|apply nZ|apply dZ)|exact HB.out)) hb);have n1_:=mk0 (hbox);have n2_:=mk0 ((by rw [hg];exact (below_size (by repeat (first|(with_reducible first|exact HB.out|apply aZ|apply nZ|apply dZ)|exact HB.out))):w.heap.size ≤ gb289));have n3_:=mk0 ((by rw [hg];exact (below_size (by repeat (first|(with_reducible first|exact HB.out|apply aZ|apply nZ|apply dZ)|exact HB.out))):w.heap.size ≤ gb289));clear HB;have HB:=n0_;have BK289:=n1_;have GW289:=n2_;have GE289:=n3_;clear n0_ n1_ n2_ n3_ hb hbox hg;have hcz61_0:w60.cell? ⟨gb289,0,none⟩ = some (.int .i64 a0_0):=(blk_cell BK289.out 0).trans rfl;have hcz61_1:w60.cell? ⟨gb289,1,none⟩ = some (.slice A0_1 l0_1.length c0_1):=(blk_cell BK289.out 1).trans rfl;have hcz61_2:w60.cell? ⟨gb289,2,none⟩ = some (.slice A0_2 l0_2.length c0_2):=(blk_cell BK289.out 2).trans rfl;have hfz61_0:=blk_frozen BK289.out 0;have hfz61_1:=blk_frozen BK289.out 1;have hfz61_2:=blk_frozen BK289.out 2)|((with_reducible refine gate_callee (f:=9) rfl ?_);refine goesL_ (some 15) rfl rfl Try.func9 (by kernel_rfl) rfl #[.agg #[.int .i64 a0_0,.slice A0_1 l0_1.length c0_1,.slice A0_2 l0_2.length c0_2],.int .i64 1048576] rfl (by (try simp only [mA,mC,mN]);first|done|rfl|(simp only [List.length_drop,List.length_take];rfl)) ?_;(with_reducible refine (laws_szWave.calls k a0_0 _ _ l0_1 _ _ l0_2 1048576 t290 _ ?side1 ?side2 ?side3 ?side4 A5.out).mono ?_);(case side1=>repeat (first|exact (Kd.C_below HR0_1.out HB.out)|(with_reducible first|apply aC|apply nC|apply dC)));(case side2=>exact HC0_1.out);(case side3=>repeat (first|exact (Kd.C_below HR0_2.out HB.out)|(with_reducible first|apply aC|apply nC|apply dC)));(case side4=>exact HC0_2.out);rintro e w62 ⟨rfl,hb⟩;refine⟨_,rfl,?_⟩;have n0_:=mk0 (blk_below (g:=gb289) (o:=.cells #[.int .i64 a0_0,.slice A0_1 l0_1.length c0_1,.slice A0_2 l0_2.length c0_2] 25 (0,0)) (by (with_reducible repeat (first|apply nB|apply dB|apply aB));exact BK289.out) hb);have n1_:=mk0 (below_step (by repeat (first|(with_reducible first|exact HB.out|apply aZ|apply nZ|apply dZ|refine sZ ?_ GE289.out)|exact HB.out)) hb);clear BK289 HB;have BK289:=n0_;have HB:=n1_;clear n0_ n1_;(try clear hb);(try clear hb2);(try clear hk);(try clear hi);have hcz63_0:w62.cell? ⟨gb289,0,none⟩ = some (.int .i64 a0_0):=(blk_cell BK289.out 0).trans rfl;have hcz63_1:w62.cell? ⟨gb289,1,none⟩ = some (.slice A0_1 l0_1.length c0_1):=(blk_cell BK289.out 1).trans rfl;have hcz63_2:w62.cell? ⟨gb289,2,none⟩ = some (.slice A0_2 l0_2.length c0_2):=(blk_cell BK289.out 2).trans rfl;have hfz63_0:=blk_frozen BK289.out 0;have hfz63_1:=blk_frozen BK289.out 1;have hfz63_2:=blk_frozen BK289.out 2)|((with_reducible refine gate_callee (f:=11) rfl ?_);refine goesL_ (some 19) rfl rfl Try.func11 (by kernel_rfl) rfl #[.agg #[.int .i64 a0_0,.slice A0_1 l0_1.length c0_1,.slice A0_2 l0_2.length c0_2]] rfl (by (try simp only [mA,mC,mN]);first|done|rfl|(simp only [List.length_drop,List.length_take];rfl)) ?_;(with_reducible refine (laws_toWave.calls k a0_0 _ _ l0_1 _ _ l0_2 t291 t292 t295 _ ?side1 ?side2 ?side3 ?side4 A10.out).mono ?_);(case side1=>repeat (first|exact (Kd.C_below HR0_1.out HB.out)|(with_reducible first|apply aC|apply nC|apply dC)));(case side2=>exact HC0_1.out);(case side3=>repeat (first|exact (Kd.C_below HR0_2.out HB.out)|(with_reducible first|apply aC|apply nC|apply dC)));(case side4=>exact HC0_2.out);rintro e w64 ⟨v293,v296,rfl,ho0,ho1,hb⟩;refine⟨_,rfl,?_⟩;have n0_:=mk0 (Kd.R_lower ho0 (below_size (by repeat (first|(with_reducible first|exact HB.out|apply aZ|apply nZ|apply dZ|refine sZ ?_ GE289.out)|exact HB.out))));have n1_:=mk0 (Kd.S_lower ho1 (below_size (by repeat (first|(with_reducible first|exact HB.out|apply aZ|apply nZ|apply dZ|refine sZ ?_ GE289.out)|exact HB.out))));have n2_:=mk0 (blk_below (g:=gb289) (o:=.cells #[.int .i64 a0_0,.slice A0_1 l0_1.length c0_1,.slice A0_2 l0_2.length c0_2] 25 (0,0)) (by (with_reducible repeat (first|apply nB|apply dB|apply aB));exact BK289.out) hb);have n3_:=mk0 (below_step (by repeat (first|(with_reducible first|exact HB.out|apply aZ|apply nZ|apply dZ|refine sZ ?_ GE289.out)|exact HB.out)) hb);clear BK289 HB;have HO294:=n0_;have HO297:=n1_;have BK289:=n2_;have HB:=n3_;clear n0_ n1_ n2_ n3_;(try clear hb);(try clear hb2);(try clear hk);(try clear hi);(try clear ho0);(try clear ho1);obtain⟨Ao65,co65,eo65⟩:=Kd.R_slice HO294.out;subst eo65;obtain⟨Ao66,co66,eo66⟩:=Kd.S_slice HO297.out;subst eo66)|((with_reducible refine gate_callee (f:=26) rfl ?_);refine goesL_ (some 23) rfl rfl Try.func26 (by kernel_rfl) rfl #[.agg #[.int .i64 t291,.slice Ao65 t292.length co65,.slice Ao66 t295.length co66],.int .i64 a1,.int .i64 a2,.int .i64 a3] rfl (by (try simp only [mA,mC,mN]);first|done|rfl|(simp only [List.length_drop,List.length_take];rfl)) ?_;(with_reducible refine (spec_WaveLess.calls k t291 _ _ t292 _ _ t295 a1 a2 a3 t298 _ ?side1 ?side2 ?side3 ?side4 A11.out).mono ?_);(case side1=>repeat (first|exact (Kd.R_reads' HO294.out).2.2|(with_reducible first|apply aC|apply nC|apply dC)));(case side2=>exact (Kd.R_reads' HO294.out).2.1);(case side3=>repeat (first|exact (Kd.S_reads' HO297.out).2.2|(with_reducible first|apply aC|apply nC|apply dC)));(case side4=>exact (Kd.S_reads' HO297.out).2.1);rintro e w67 ⟨rfl,hb⟩;refine⟨_,rfl,?_⟩;have n0_:=mk0 (Kd.R_below (by (with_reducible repeat (first|apply aR|apply nR|apply dR));exact HO294.out) hb);have n1_:=mk0 (Kd.S_below (by (with_reducible repeat (first|apply aS|apply nS|apply dS));exact HO297.out) hb);have n2_:=mk0 (blk_below (g:=gb289) (o:=.cells #[.int .i64 a0_0,.slice A0_1 l0_1.length c0_1,.slice A0_2 l0_2.length c0_2] 25 (0,0)) (by (with_reducible repeat (first|apply nB|apply dB|apply aB));exact BK289.out) hb);have n3_:=mk0 (below_step (by repeat (first|(with_reducible first|exact HB.out|apply aZ|apply nZ|apply dZ|refine sZ ?_ GE289.out)|exact HB.out)) hb);clear HO294 HO297 BK289 HB;have HO294:=n0_;have HO297:=n1_;have BK289:=n2_;have HB:=n3_;clear n0_ n1_ n2_ n3_;(try clear hb);(try clear hb2);(try clear hk);(try clear hi);have hcz68_0:w67.cell? ⟨gb289,0,none⟩ = some (.int .i64 a0_0):=(blk_cell BK289.out 0).trans rfl;have hcz68_1:w67.cell? ⟨gb289,1,none⟩ = some (.slice A0_1 l0_1.length c0_1):=(blk_cell BK289.out 1).trans rfl;have hcz68_2:w67.cell? ⟨gb289,2,none⟩ = some (.slice A0_2 l0_2.length c0_2):=(blk_cell BK289.out 2).trans rfl;have hfz68_0:=blk_frozen BK289.out 0;have hfz68_1:=blk_frozen BK289.out 1;have hfz68_2:=blk_frozen BK289.out 2)|((with_reducible refine gate_callee (f:=11) rfl ?_);refine goesL_ (some 25) rfl rfl Try.func11 (by kernel_rfl) rfl #[.agg #[.int .i64 a0_0,.slice A0_1 l0_1.length c0_1,.slice A0_2 l0_2.length c0_2]] rfl (by (try simp only [mA,mC,mN]);first|done|rfl|(simp only [List.length_drop,List.length_take];rfl)) ?_;(with_reducible refine (laws_toWave.calls k a0_0 _ _ l0_1 _ _ l0_2 t299 t300 t303 _ ?side1 ?side2 ?side3 ?side4 A12.out).mono ?_);(case side1=>repeat (first|exact (Kd.C_below HR0_1.out HB.out)|(with_reducible first|apply aC|apply nC|apply dC)));(case side2=>exact HC0_1.out);(case side3=>repeat (first|exact (Kd.C_below HR0_2.out HB.out)|(with_reducible first|apply aC|apply nC|apply dC)));(case side4=>exact HC0_2.out);rintro e w69 ⟨v301,v304,rfl,ho0,ho1,hb⟩;refine⟨_,rfl,?_⟩;have n0_:=mk0 (Kd.R_elder' (by (with_reducible repeat (first|apply aR|apply nR|apply dR));exact HO294.out) (Kd.R_base ho0) hb);have n1_:=mk0 (Kd.S_elder' (by (with_reducible repeat (first|apply aS|apply nS|apply dS));exact HO297.out) (Kd.S_base ho1) hb);have n2_:=mk0 (Kd.R_lower (Kd.R_new' ho0 (Kd.R_lt (by (with_reducible repeat (first|apply aR|apply nR|apply dR));exact HO294.out))) (below_size (by repeat (first|(with_reducible first|exact HB.out|apply aZ|apply nZ|apply dZ|refine sZ ?_ GE289.out)|exact HB.out))));have n3_:=mk0 (Kd.S_lower (Kd.S_new' ho1 (Kd.S_lt (by (with_reducible repeat (first|apply aS|apply nS|apply dS));exact HO297.out))) (below_size (by repeat (first|(with_reducible first|exact HB.out|apply aZ|apply nZ|apply dZ|refine sZ ?_ GE289.out)|exact HB.out))));have n4_:=mk0 (blk_below (g:=gb289) (o:=.cells #[.int .i64 a0_0,.slice A0_1 l0_1.length c0_1,.slice A0_2 l0_2.length c0_2] 25 (0,0)) (by (with_reducible repeat (first|apply nB|apply dB|apply aB));exact BK289.out) hb);have n5_:=mk0 (below_step (by repeat (first|(with_reducible first|exact HB.out|apply aZ|apply nZ|apply dZ|refine sZ ?_ GE289.out)|exact HB.out)) hb);clear HO294 HO297 BK289 HB;have HO294:=n0_;have HO297:=n1_;have HO302:=n2_;have HO305:=n3_;have BK289:=n4_;have HB:=n5_;clear n0_ n1_ n2_ n3_ n4_ n5_;(try clear hb);(try clear hb2);(try clear hk);(try clear hi);(try clear ho0);(try clear ho1))|((with_reducible refine gate_dst (N:=11) rfl ?_);refine box_event ?hg (N:=11) ?hd (cs:=#[.int .i64 0,.slice none 0 0,.slice none 0 0]) (t:=30) ?hr ?_;(case hd=>rfl);(case hg=>rfl);(case hr=>first|(go_simp;done)|(go_simp;rfl));intro gb306 hg w70 hbox hb;have n0_:=mk0 (Kd.R_below (by (with_reducible repeat (first|apply aR|apply nR|apply dR));exact HO294.out) hb);have n1_:=mk0 (Kd.S_below (by (with_reducible repeat (first|apply aS|apply nS|apply dS));exact HO297.out) hb);have n2_:=mk0 (Kd.R_below (by (with_reducible repeat (first|apply aR|apply nR|apply dR));exact HO302.out) hb);have n3_:=mk0 (Kd.S_below (by (with_reducible repeat (first|apply aS|apply nS|apply dS));exact HO305.out) hb);have n4_:=mk0 (blk_below (g:=gb289) (o:=.cells #[.int .i64 a0_0,.slice A0_1 l0_1.length c0_1,.slice A0_2 l0_2.length c0_2] 25 (0,0)) (by (with_reducible repeat (first|apply nB|apply dB|apply aB));exact BK289.out) hb);have n5_:=mk0 (below_step (by repeat (first|(with_reducible first|exact HB.out|apply aZ|apply nZ|apply dZ|refine sZ ?_ GE289.out)|exact HB.out)) hb);have n6_:=mk0 (hbox);have n7_:=mk0 ((by rw [hg];exact (below_size (by repeat (first|(with_reducible first|exact HB.out|apply aZ|apply nZ|apply dZ|refine sZ ?_ GE289.out)|exact HB.out))):w.heap.size ≤ gb306));have n8_:=mk0 ((by rw [hg];exact (below_size (by repeat (first|(with_reducible first|exact HB.out|apply aZ|apply nZ|apply dZ|refine sZ ?_ GE289.out)|exact HB.out))):w.heap.size ≤ gb306));have n9_:=mk0 ((by rw [hg];exact Nat.ne_of_lt (blk_lt (g:=gb289) (o:=.cells #[.int .i64 a0_0,.slice A0_1 l0_1.length c0_1,.slice A0_2 l0_2.length c0_2] 25 (0,0)) (by (with_reducible repeat (first|apply nB|apply dB|apply aB));exact BK289.out)):gb289 ≠ gb306));have n10_:=mk0 ((by rw [hg];exact Nat.ne_of_gt (blk_lt (g:=gb289) (o:=.cells #[.int .i64 a0_0,.slice A0_1 l0_1.length c0_1,.slice A0_2 l0_2.length c0_2] 25 (0,0)) (by (with_reducible repeat (first|apply nB|apply dB|apply aB));exact BK289.out)):gb306 ≠ gb289));clear HO294 HO297 HO302 HO305 BK289 HB;have HO294:=n0_;have HO297:=n1_;have HO302:=n2_;have HO305:=n3_;have BK289:=n4_;have HB:=n5_;have BK306:=n6_;have GW306:=n7_;have GE306:=n8_;have NB289_306:=n9_;have NB306_289:=n10_;clear n0_ n1_ n2_ n3_ n4_ n5_ n6_ n7_ n8_ n9_ n10_ hb hbox hg;have hnb71:=NB306_289.out;have hnc71:=NB289_306.out;have hcz72_0:w70.cell? ⟨gb306,0,none⟩ = some (.int .i64 0):=(blk_cell BK306.out 0).trans rfl;have hcz72_1:w70.cell? ⟨gb306,1,none⟩ = some (.slice none 0 0):=(blk_cell BK306.out 1).trans rfl;have hcz72_2:w70.cell? ⟨gb306,2,none⟩ = some (.slice none 0 0):=(blk_cell BK306.out 2).trans rfl;have hfz72_0:=blk_frozen BK306.out 0;have hfz72_1:=blk_frozen BK306.out 1;have hfz72_2:=blk_frozen BK306.out 2;obtain⟨Ao73,co73,eo73⟩:=Kd.R_slice HO302.out;subst eo73;obtain⟨Ao74,co74,eo74⟩:=Kd.S_slice HO305.out;subst eo74)|((with_reducible refine gate_callee (f:=27) rfl ?_);refine goesL_ (some 30) rfl rfl Try.func27 (by kernel_rfl) rfl #[.agg #[.int .i64 t299,.slice Ao73 t300.length co73,.slice Ao74 t303.length co74],.int .i64 a1,.int .i64 a2,.int .i64 a3] rfl (by (try simp only [mA,mC,mN]);first|done|rfl|(simp only [List.length_drop,List.length_take];rfl)) ?_;(with_reducible refine (impl_WaveLess.calls k t299 _ _ t300 _ _ t303 a1 a2 a3 t307 _ ?side1 ?side2 ?side3 ?side4 A13.out).mono ?_);(case side1=>refine (Kd.R_reads' (e:=3) (base:=w.heap.size) (ok:=fun k_=>(True ∧ some k_ ≠ (.slice Ao65 t292.length co65:Value).ownBlock)) (n:=t300.length) (c:=co73) ?_).2.2;exact (by (with_reducible repeat (first|apply aR|apply nR|apply dR));exact (Kd.R_mono (Kd.R_far (p:=⟨gb306,2,none⟩) (Kd.R_far (p:=⟨gb306,1,none⟩) (Kd.R_far (p:=⟨gb306,0,none⟩) (Kd.R_types HO302.out BK306.out (by decide)) (fun _ hk=>hk.2) (.int .i64 t299)) (fun _ hk=>hk.2) (.slice Ao73 t300.length co73)) (fun _ hk=>hk.2) (.slice Ao74 t303.length co74)) (fun _ h_=>h_.1))));(case side2=>exact (Kd.R_reads' HO302.out).2.1);(case side3=>refine (Kd.S_reads' (e:=64) (base:=w.heap.size) (ok:=fun k_=>(True ∧ some k_ ≠ (.slice Ao66 t295.length co66:Value).ownBlock)) (n:=t303.length) (c:=co74) ?_).2.2;exact (by (with_reducible repeat (first|apply aS|apply nS|apply dS));exact (Kd.S_mono (Kd.S_far (p:=⟨gb306,2,none⟩) (Kd.S_far (p:=⟨gb306,1,none⟩) (Kd.S_far (p:=⟨gb306,0,none⟩) (Kd.S_types HO305.out BK306.out (by decide)) (fun _ hk=>hk.2) (.int .i64 t299)) (fun _ hk=>hk.2) (.slice Ao73 t300.length co73)) (fun _ hk=>hk.2) (.slice Ao74 t303.length co74)) (fun _ h_=>h_.1))));(case side4=>exact (Kd.S_reads' HO305.out).2.1);rintro e w75 ⟨rfl,hb⟩;refine⟨_,rfl,?_⟩;have n0_:=mk0 (Kd.R_below (by (with_reducible repeat (first|apply aR|apply nR|apply dR));exact (Kd.R_mono (Kd.R_far (p:=⟨gb306,2,none⟩) (Kd.R_far (p:=⟨gb306,1,none⟩) (Kd.R_far (p:=⟨gb306,0,none⟩) (Kd.R_types HO294.out BK306.out (by decide)) (fun _ hk=>hk.2) (.int .i64 t299)) (fun _ hk=>hk.2) (.slice Ao73 t300.length co73)) (fun _ hk=>hk.2) (.slice Ao74 t303.length co74)) (fun _ h_=>h_.1))) hb);have n1_:=mk0 (Kd.S_below (by (with_reducible repeat (first|apply aS|apply nS|apply dS));exact (Kd.S_mono (Kd.S_far (p:=⟨gb306,2,none⟩) (Kd.S_far (p:=⟨gb306,1,none⟩) (Kd.S_far (p:=⟨gb306,0,none⟩) (Kd.S_types HO297.out BK306.out (by decide)) (fun _ hk=>hk.2) (.int .i64 t299)) (fun _ hk=>hk.2) (.slice Ao73 t300.length co73)) (fun _ hk=>hk.2) (.slice Ao74 t303.length co74)) (fun _ h_=>h_.1))) hb);have n2_:=mk0 (Kd.R_below (by (with_reducible repeat (first|apply aR|apply nR|apply dR));exact (Kd.R_mono (Kd.R_far (p:=⟨gb306,2,none⟩) (Kd.R_far (p:=⟨gb306,1,none⟩) (Kd.R_far (p:=⟨gb306,0,none⟩) (Kd.R_types HO302.out BK306.out (by decide)) (fun _ hk=>hk.2) (.int .i64 t299)) (fun _ hk=>hk.2) (.slice Ao73 t300.length co73)) (fun _ hk=>hk.2) (.slice Ao74 t303.length co74)) (fun _ h_=>h_.1))) hb);have n3_:=mk0 (Kd.S_below (by (with_reducible repeat (first|apply aS|apply nS|apply dS));exact (Kd.S_mono (Kd.S_far (p:=⟨gb306,2,none⟩) (Kd.S_far (p:=⟨gb306,1,none⟩) (Kd.S_far (p:=⟨gb306,0,none⟩) (Kd.S_types HO305.out BK306.out (by decide)) (fun _ hk=>hk.2) (.int .i64 t299)) (fun _ hk=>hk.2) (.slice Ao73 t300.length co73)) (fun _ hk=>hk.2) (.slice Ao74 t303.length co74)) (fun _ h_=>h_.1))) hb);have n4_:=mk0 (blk_below (g:=gb289) (o:=.cells #[.int .i64 a0_0,.slice A0_1 l0_1.length c0_1,.slice A0_2 l0_2.length c0_2] 25 (0,0)) (by (with_reducible repeat (first|apply nB|apply dB|apply aB));refine blk_far ?_ NB289_306.out _;(with_reducible repeat (first|apply nB|apply dB|apply aB));refine blk_far ?_ NB289_306.out _;(with_reducible repeat (first|apply nB|apply dB|apply aB));refine blk_far ?_ NB289_306.out _;(with_reducible repeat (first|apply nB|apply dB|apply aB));exact BK289.out) hb);have n5_:=mk0 (blk_below (g:=gb306) (o:=.cells #[.int .i64 t299,.slice Ao73 t300.length co73,.slice Ao74 t303.length co74] 30 (0,0)) (by (with_reducible repeat (first|apply nB|apply dB|apply aB));refine blk_put (cs:=#[.int .i64 t299,.slice Ao73 t300.length co73,.slice none 0 0]) ?_ 2 _ rfl;(with_reducible repeat (first|apply nB|apply dB|apply aB));refine blk_put (cs:=#[.int .i64 t299,.slice none 0 0,.slice none 0 0]) ?_ 1 _ rfl;(with_reducible repeat (first|apply nB|apply dB|apply aB));refine blk_put (cs:=#[.int .i64 0,.slice none 0 0,.slice none 0 0]) ?_ 0 _ rfl;(with_reducible repeat (first|apply nB|apply dB|apply aB));exact BK306.out) hb);have n6_:=mk0 (below_step (by repeat (first|(with_reducible first|exact HB.out|apply aZ|apply nZ|apply dZ|refine sZ ?_ GE289.out|refine sZ ?_ GE306.out)|exact HB.out)) hb);clear HO294 HO297 HO302 HO305 BK289 BK306 HB;have HO294:=n0_;have HO297:=n1_;have HO302:=n2_;have HO305:=n3_;have BK289:=n4_;have BK306:=n5_;have HB:=n6_;clear n0_ n1_ n2_ n3_ n4_ n5_ n6_;(try clear hb);(try clear hb2);(try clear hk);(try clear hi)))
  go_ret
  exact⟨by first|rfl|(simp [errW_none,errW_some] <;> rfl)|(simp [*,errW_none,errW_some] <;> rfl),by repeat (first|(with_reducible first|exact HB.out|apply aZ|apply nZ|apply dZ|refine sZ ?_ GE289.out|refine sZ ?_ GE306.out)|exact HB.out)⟩

 rw [if_pos c14] at H
 have c14b0:(t307 == t298) = true:=beq_iff_eq.mpr c14
 have c14b1:(t307 != t298) = false:=bne_eq_false_iff_eq.mpr c14
 clear c14
 replace H:=Option.bind_eq_some_iff.mp H
 obtain⟨⟨t308,t309,t312⟩,A150,H⟩:=H
 replace H:((laws_eqWave.f k t299 t300 t303 t308 t309 t312).bind fun t315=>(if t315 = true then (some true) else (some false))) = some r:=H
 have A15:=mk0 A150
 clear A150
 replace H:=Option.bind_eq_some_iff.mp H
 obtain⟨t315,A160,H⟩:=H
 replace H:(if t315 = true then (some true) else (some false)) = some r:=H
 have A16:=mk0 A160
 clear A160
 by_cases c17:t315 = true
 ·subst c17
  have H1:(some true) = some r:=by rw [if_pos rfl] at H;exact H
  clear H
  have H:=H1
  clear H1
  obtain rfl:=Option.some.inj H
  go_enter Try.func6,Try.ntmps6
  try go_wp2_with (first|((with_reducible refine gate_dst (N:=4) rfl ?_);refine box_event ?hg (N:=4) ?hd (cs:=#[.int .i64 a0_0,.slice A0_1 l0_1.length c0_1,.slice A0_2 l0_2.length c0_2]) (t:=25) ?hr ?_;(case hd=>rfl);(case hg=>rfl);(case hr=>first|(go_simp;done)|(go_simp;rfl));intro gb289 hg w18 hbox hb;have n0_:=mk0 (below_step (by repeat (first|(with_reducible first|exact HB.out|apply aZ|apply nZ|apply dZ)|exact HB.out)) hb);have n1_:=mk0 (hbox);have n2_:=mk0 ((by rw [hg];exact (below_size (by repeat (first|(with_reducible first|exact HB.out|apply aZ|apply nZ|apply dZ)|exact HB.out))):w.heap.size ≤ gb289));have n3_:=mk0 ((by rw [hg];exact (below_size (by repeat (first|(with_reducible first|exact HB.out|apply aZ|apply nZ|apply dZ)|exact HB.out))):w.heap.size ≤ gb289));clear HB;have HB:=n0_;have BK289:=n1_;have GW289:=n2_;have GE289:=n3_;clear n0_ n1_ n2_ n3_ hb hbox hg;have hcz19_0:w18.cell? ⟨gb289,0,none⟩ = some (.int .i64 a0_0):=(blk_cell BK289.out 0).trans rfl;have hcz19_1:w18.cell? ⟨gb289,1,none⟩ = some (.slice A0_1 l0_1.length c0_1):=(blk_cell BK289.out 1).trans rfl;have hcz19_2:w18.cell? ⟨gb289,2,none⟩ = some (.slice A0_2 l0_2.length c0_2):=(blk_cell BK289.out 2).trans rfl;have hfz19_0:=blk_frozen BK289.out 0;have hfz19_1:=blk_frozen BK289.out 1;have hfz19_2:=blk_frozen BK289.out 2)|((with_reducible refine gate_callee (f:=9) rfl ?_);refine goesL_ (some 15) rfl rfl Try.func9 (by kernel_rfl) rfl #[.agg #[.int .i64 a0_0,.slice A0_1 l0_1.length c0_1,.slice A0_2 l0_2.length c0_2],.int .i64 1048576] rfl (by (try simp only [mA,mC,mN]);first|done|rfl|(simp only [List.length_drop,List.length_take];rfl)) ?_;(with_reducible refine (laws_szWave.calls k a0_0 _ _ l0_1 _ _ l0_2 1048576 t290 _ ?side1 ?side2 ?side3 ?side4 A5.out).mono ?_);(case side1=>repeat (first|exact (Kd.C_below HR0_1.out HB.out)|(with_reducible first|apply aC|apply nC|apply dC)));(case side2=>exact HC0_1.out);(case side3=>repeat (first|exact (Kd.C_below HR0_2.out HB.out)|(with_reducible first|apply aC|apply nC|apply dC)));(case side4=>exact HC0_2.out);rintro e w20 ⟨rfl,hb⟩;refine⟨_,rfl,?_⟩;have n0_:=mk0 (blk_below (g:=gb289) (o:=.cells #[.int .i64 a0_0,.slice A0_1 l0_1.length c0_1,.slice A0_2 l0_2.length c0_2] 25 (0,0)) (by (with_reducible repeat (first|apply nB|apply dB|apply aB));exact BK289.out) hb);have n1_:=mk0 (below_step (by repeat (first|(with_reducible first|exact HB.out|apply aZ|apply nZ|apply dZ|refine sZ ?_ GE289.out)|exact HB.out)) hb);clear BK289 HB;have BK289:=n0_;have HB:=n1_;clear n0_ n1_;(try clear hb);(try clear hb2);(try clear hk);(try clear hi);have hcz21_0:w20.cell? ⟨gb289,0,none⟩ = some (.int .i64 a0_0):=(blk_cell BK289.out 0).trans rfl;have hcz21_1:w20.cell? ⟨gb289,1,none⟩ = some (.slice A0_1 l0_1.length c0_1):=(blk_cell BK289.out 1).trans rfl;have hcz21_2:w20.cell? ⟨gb289,2,none⟩ = some (.slice A0_2 l0_2.length c0_2):=(blk_cell BK289.out 2).trans rfl;have hfz21_0:=blk_frozen BK289.out 0;have hfz21_1:=blk_frozen BK289.out 1;have hfz21_2:=blk_frozen BK289.out 2)|((with_reducible refine gate_callee (f:=11) rfl ?_);refine goesL_ (some 19) rfl rfl Try.func11 (by kernel_rfl) rfl #[.agg #[.int .i64 a0_0,.slice A0_1 l0_1.length c0_1,.slice A0_2 l0_2.length c0_2]] rfl (by (try simp only [mA,mC,mN]);first|done|rfl|(simp only [List.length_drop,List.length_take];rfl)) ?_;(with_reducible refine (laws_toWave.calls k a0_0 _ _ l0_1 _ _ l0_2 t291 t292 t295 _ ?side1 ?side2 ?side3 ?side4 A10.out).mono ?_);(case side1=>repeat (first|exact (Kd.C_below HR0_1.out HB.out)|(with_reducible first|apply aC|apply nC|apply dC)));(case side2=>exact HC0_1.out);(case side3=>repeat (first|exact (Kd.C_below HR0_2.out HB.out)|(with_reducible first|apply aC|apply nC|apply dC)));(case side4=>exact HC0_2.out);rintro e w22 ⟨v293,v296,rfl,ho0,ho1,hb⟩;refine⟨_,rfl,?_⟩;have n0_:=mk0 (Kd.R_lower ho0 (below_size (by repeat (first|(with_reducible first|exact HB.out|apply aZ|apply nZ|apply dZ|refine sZ ?_ GE289.out)|exact HB.out))));have n1_:=mk0 (Kd.S_lower ho1 (below_size (by repeat (first|(with_reducible first|exact HB.out|apply aZ|apply nZ|apply dZ|refine sZ ?_ GE289.out)|exact HB.out))));have n2_:=mk0 (blk_below (g:=gb289) (o:=.cells #[.int .i64 a0_0,.slice A0_1 l0_1.length c0_1,.slice A0_2 l0_2.length c0_2] 25 (0,0)) (by (with_reducible repeat (first|apply nB|apply dB|apply aB));exact BK289.out) hb);have n3_:=mk0 (below_step (by repeat (first|(with_reducible first|exact HB.out|apply aZ|apply nZ|apply dZ|refine sZ ?_ GE289.out)|exact HB.out)) hb);clear BK289 HB;have HO294:=n0_;have HO297:=n1_;have BK289:=n2_;have HB:=n3_;clear n0_ n1_ n2_ n3_;(try clear hb);(try clear hb2);(try clear hk);(try clear hi);(try clear ho0);(try clear ho1);obtain⟨Ao23,co23,eo23⟩:=Kd.R_slice HO294.out;subst eo23;obtain⟨Ao24,co24,eo24⟩:=Kd.S_slice HO297.out;subst eo24)|((with_reducible refine gate_callee (f:=26) rfl ?_);refine goesL_ (some 23) rfl rfl Try.func26 (by kernel_rfl) rfl #[.agg #[.int .i64 t291,.slice Ao23 t292.length co23,.slice Ao24 t295.length co24],.int .i64 a1,.int .i64 a2,.int .i64 a3] rfl (by (try simp only [mA,mC,mN]);first|done|rfl|(simp only [List.length_drop,List.length_take];rfl)) ?_;(with_reducible refine (spec_WaveLess.calls k t291 _ _ t292 _ _ t295 a1 a2 a3 t298 _ ?side1 ?side2 ?side3 ?side4 A11.out).mono ?_);(case side1=>repeat (first|exact (Kd.R_reads' HO294.out).2.2|(with_reducible first|apply aC|apply nC|apply dC)));(case side2=>exact (Kd.R_reads' HO294.out).2.1);(case side3=>repeat (first|exact (Kd.S_reads' HO297.out).2.2|(with_reducible first|apply aC|apply nC|apply dC)));(case side4=>exact (Kd.S_reads' HO297.out).2.1);rintro e w25 ⟨rfl,hb⟩;refine⟨_,rfl,?_⟩;have n0_:=mk0 (Kd.R_below (by (with_reducible repeat (first|apply aR|apply nR|apply dR));exact HO294.out) hb);have n1_:=mk0 (Kd.S_below (by (with_reducible repeat (first|apply aS|apply nS|apply dS));exact HO297.out) hb);have n2_:=mk0 (blk_below (g:=gb289) (o:=.cells #[.int .i64 a0_0,.slice A0_1 l0_1.length c0_1,.slice A0_2 l0_2.length c0_2] 25 (0,0)) (by (with_reducible repeat (first|apply nB|apply dB|apply aB));exact BK289.out) hb);have n3_:=mk0 (below_step (by repeat (first|(with_reducible first|exact HB.out|apply aZ|apply nZ|apply dZ|refine sZ ?_ GE289.out)|exact HB.out)) hb);clear HO294 HO297 BK289 HB;have HO294:=n0_;have HO297:=n1_;have BK289:=n2_;have HB:=n3_;clear n0_ n1_ n2_ n3_;(try clear hb);(try clear hb2);(try clear hk);(try clear hi);have hcz26_0:w25.cell? ⟨gb289,0,none⟩ = some (.int .i64 a0_0):=(blk_cell BK289.out 0).trans rfl;have hcz26_1:w25.cell? ⟨gb289,1,none⟩ = some (.slice A0_1 l0_1.length c0_1):=(blk_cell BK289.out 1).trans rfl;have hcz26_2:w25.cell? ⟨gb289,2,none⟩ = some (.slice A0_2 l0_2.length c0_2):=(blk_cell BK289.out 2).trans rfl;have hfz26_0:=blk_frozen BK289.out 0;have hfz26_1:=blk_frozen BK289.out 1;have hfz26_2:=blk_frozen BK289.out 2)|((with_reducible refine gate_callee (f:=11) rfl ?_);refine goesL_ (some 25) rfl rfl Try.func11 (by kernel_rfl) rfl #[.agg #[.int .i64 a0_0,.slice A0_1 l0_1.length c0_1,.slice A0_2 l0_2.length c0_2]] rfl (by (try simp only [mA,mC,mN]);first|done|rfl|(simp only [List.length_drop,List.length_take];rfl)) ?_;(with_reducible refine (laws_toWave.calls k a0_0 _ _ l0_1 _ _ l0_2 t299 t300 t303 _ ?side1 ?side2 ?side3 ?side4 A12.out).mono ?_);(case side1=>repeat (first|exact (Kd.C_below HR0_1.out HB.out)|(with_reducible first|apply aC|apply nC|apply dC)));(case side2=>exact HC0_1.out);(case side3=>repeat (first|exact (Kd.C_below HR0_2.out HB.out)|(with_reducible first|apply aC|apply nC|apply dC)));(case side4=>exact HC0_2.out);rintro e w27 ⟨v301,v304,rfl,ho0,ho1,hb⟩;refine⟨_,rfl,?_⟩;have n0_:=mk0 (Kd.R_elder' (by (with_reducible repeat (first|apply aR|apply nR|apply dR));exact HO294.out) (Kd.R_base ho0) hb);have n1_:=mk0 (Kd.S_elder' (by (with_reducible repeat (first|apply aS|apply nS|apply dS));exact HO297.out) (Kd.S_base ho1) hb);have n2_:=mk0 (Kd.R_lower (Kd.R_new' ho0 (Kd.R_lt (by (with_reducible repeat (first|apply aR|apply nR|apply dR));exact HO294.out))) (below_size (by repeat (first|(with_reducible first|exact HB.out|apply aZ|apply nZ|apply dZ|refine sZ ?_ GE289.out)|exact HB.out))));have n3_:=mk0 (Kd.S_lower (Kd.S_new' ho1 (Kd.S_lt (by (with_reducible repeat (first|apply aS|apply nS|apply dS));exact HO297.out))) (below_size (by repeat (first|(with_reducible first|exact HB.out|apply aZ|apply nZ|apply dZ|refine sZ ?_ GE289.out)|exact HB.out))));have n4_:=mk0 (blk_below (g:=gb289) (o:=.cells #[.int .i64 a0_0,.slice A0_1 l0_1.length c0_1,.slice A0_2 l0_2.length c0_2] 25 (0,0)) (by (with_reducible repeat (first|apply nB|apply dB|apply aB));exact BK289.out) hb);have n5_:=mk0 (below_step (by repeat (first|(with_reducible first|exact HB.out|apply aZ|apply nZ|apply dZ|refine sZ ?_ GE289.out)|exact HB.out)) hb);clear HO294 HO297 BK289 HB;have HO294:=n0_;have HO297:=n1_;have HO302:=n2_;have HO305:=n3_;have BK289:=n4_;have HB:=n5_;clear n0_ n1_ n2_ n3_ n4_ n5_;(try clear hb);(try clear hb2);(try clear hk);(try clear hi);(try clear ho0);(try clear ho1))|((with_reducible refine gate_dst (N:=11) rfl ?_);refine box_event ?hg (N:=11) ?hd (cs:=#[.int .i64 0,.slice none 0 0,.slice none 0 0]) (t:=30) ?hr ?_;(case hd=>rfl);(case hg=>rfl);(case hr=>first|(go_simp;done)|(go_simp;rfl));intro gb306 hg w28 hbox hb;have n0_:=mk0 (Kd.R_below (by (with_reducible repeat (first|apply aR|apply nR|apply dR));exact HO294.out) hb);have n1_:=mk0 (Kd.S_below (by (with_reducible repeat (first|apply aS|apply nS|apply dS));exact HO297.out) hb);have n2_:=mk0 (Kd.R_below (by (with_reducible repeat (first|apply aR|apply nR|apply dR));exact HO302.out) hb);have n3_:=mk0 (Kd.S_below (by (with_reducible repeat (first|apply aS|apply nS|apply dS));exact HO305.out) hb);have n4_:=mk0 (blk_below (g:=gb289) (o:=.cells #[.int .i64 a0_0,.slice A0_1 l0_1.length c0_1,.slice A0_2 l0_2.length c0_2] 25 (0,0)) (by (with_reducible repeat (first|apply nB|apply dB|apply aB));exact BK289.out) hb);have n5_:=mk0 (below_step (by repeat (first|(with_reducible first|exact HB.out|apply aZ|apply nZ|apply dZ|refine sZ ?_ GE289.out)|exact HB.out)) hb);have n6_:=mk0 (hbox);have n7_:=mk0 ((by rw [hg];exact (below_size (by repeat (first|(with_reducible first|exact HB.out|apply aZ|apply nZ|apply dZ|refine sZ ?_ GE289.out)|exact HB.out))):w.heap.size ≤ gb306));have n8_:=mk0 ((by rw [hg];exact (below_size (by repeat (first|(with_reducible first|exact HB.out|apply aZ|apply nZ|apply dZ|refine sZ ?_ GE289.out)|exact HB.out))):w.heap.size ≤ gb306));have n9_:=mk0 ((by rw [hg];exact Nat.ne_of_lt (blk_lt (g:=gb289) (o:=.cells #[.int .i64 a0_0,.slice A0_1 l0_1.length c0_1,.slice A0_2 l0_2.length c0_2] 25 (0,0)) (by (with_reducible repeat (first|apply nB|apply dB|apply aB));exact BK289.out)):gb289 ≠ gb306));have n10_:=mk0 ((by rw [hg];exact Nat.ne_of_gt (blk_lt (g:=gb289) (o:=.cells #[.int .i64 a0_0,.slice A0_1 l0_1.length c0_1,.slice A0_2 l0_2.length c0_2] 25 (0,0)) (by (with_reducible repeat (first|apply nB|apply dB|apply aB));exact BK289.out)):gb306 ≠ gb289));clear HO294 HO297 HO302 HO305 BK289 HB;have HO294:=n0_;have HO297:=n1_;have HO302:=n2_;have HO305:=n3_;have BK289:=n4_;have HB:=n5_;have BK306:=n6_;have GW306:=n7_;have GE306:=n8_;have NB289_306:=n9_;have NB306_289:=n10_;clear n0_ n1_ n2_ n3_ n4_ n5_ n6_ n7_ n8_ n9_ n10_ hb hbox hg;have hnb29:=NB306_289.out;have hnc29:=NB289_306.out;have hcz30_0:w28.cell? ⟨gb306,0,none⟩ = some (.int .i64 0):=(blk_cell BK306.out 0).trans rfl;have hcz30_1:w28.cell? ⟨gb306,1,none⟩ = some (.slice none 0 0):=(blk_cell BK306.out 1).trans rfl;have hcz30_2:w28.cell? ⟨gb306,2,none⟩ = some (.slice none 0 0):=(blk_cell BK306.out 2).trans rfl;have hfz30_0:=blk_frozen BK306.out 0;have hfz30_1:=blk_frozen BK306.out 1;have hfz30_2:=blk_frozen BK306.out 2;obtain⟨Ao31,co31,eo31⟩:=Kd.R_slice HO302.out;subst eo31;obtain⟨Ao32,co32,eo32⟩:=Kd.S_slice HO305.out;subst eo32)|((with_reducible refine gate_callee (f:=27) rfl ?_);refine goesL_ (some 30) rfl rfl Try.func27 (by kernel_rfl) rfl #[.agg #[.int .i64 t299,.slice Ao31 t300.length co31,.slice Ao32 t303.length co32],.int .i64 a1,.int .i64 a2,.int .i64 a3] rfl (by (try simp only [mA,mC,mN]);first|done|rfl|(simp only [List.length_drop,List.length_take];rfl)) ?_;(with_reducible refine (impl_WaveLess.calls k t299 _ _ t300 _ _ t303 a1 a2 a3 t307 _ ?side1 ?side2 ?side3 ?side4 A13.out).mono ?_);(case side1=>refine (Kd.R_reads' (e:=3) (base:=w.heap.size) (ok:=fun k_=>(True ∧ some k_ ≠ (.slice Ao23 t292.length co23:Value).ownBlock)) (n:=t300.length) (c:=co31) ?_).2.2;exact (by (with_reducible repeat (first|apply aR|apply nR|apply dR));exact (Kd.R_mono (Kd.R_far (p:=⟨gb306,2,none⟩) (Kd.R_far (p:=⟨gb306,1,none⟩) (Kd.R_far (p:=⟨gb306,0,none⟩) (Kd.R_types HO302.out BK306.out (by decide)) (fun _ hk=>hk.2) (.int .i64 t299)) (fun _ hk=>hk.2) (.slice Ao31 t300.length co31)) (fun _ hk=>hk.2) (.slice Ao32 t303.length co32)) (fun _ h_=>h_.1))));(case side2=>exact (Kd.R_reads' HO302.out).2.1);(case side3=>refine (Kd.S_reads' (e:=64) (base:=w.heap.size) (ok:=fun k_=>(True ∧ some k_ ≠ (.slice Ao24 t295.length co24:Value).ownBlock)) (n:=t303.length) (c:=co32) ?_).2.2;exact (by (with_reducible repeat (first|apply aS|apply nS|apply dS));exact (Kd.S_mono (Kd.S_far (p:=⟨gb306,2,none⟩) (Kd.S_far (p:=⟨gb306,1,none⟩) (Kd.S_far (p:=⟨gb306,0,none⟩) (Kd.S_types HO305.out BK306.out (by decide)) (fun _ hk=>hk.2) (.int .i64 t299)) (fun _ hk=>hk.2) (.slice Ao31 t300.length co31)) (fun _ hk=>hk.2) (.slice Ao32 t303.length co32)) (fun _ h_=>h_.1))));(case side4=>exact (Kd.S_reads' HO305.out).2.1);rintro e w33 ⟨rfl,hb⟩;refine⟨_,rfl,?_⟩;have n0_:=mk0 (Kd.R_below (by (with_reducible repeat (first|apply aR|apply nR|apply dR));exact (Kd.R_mono (Kd.R_far (p:=⟨gb306,2,none⟩) (Kd.R_far (p:=⟨gb306,1,none⟩) (Kd.R_far (p:=⟨gb306,0,none⟩) (Kd.R_types HO294.out BK306.out (by decide)) (fun _ hk=>hk.2) (.int .i64 t299)) (fun _ hk=>hk.2) (.slice Ao31 t300.length co31)) (fun _ hk=>hk.2) (.slice Ao32 t303.length co32)) (fun _ h_=>h_.1))) hb);have n1_:=mk0 (Kd.S_below (by (with_reducible repeat (first|apply aS|apply nS|apply dS));exact (Kd.S_mono (Kd.S_far (p:=⟨gb306,2,none⟩) (Kd.S_far (p:=⟨gb306,1,none⟩) (Kd.S_far (p:=⟨gb306,0,none⟩) (Kd.S_types HO297.out BK306.out (by decide)) (fun _ hk=>hk.2) (.int .i64 t299)) (fun _ hk=>hk.2) (.slice Ao31 t300.length co31)) (fun _ hk=>hk.2) (.slice Ao32 t303.length co32)) (fun _ h_=>h_.1))) hb);have n2_:=mk0 (Kd.R_below (by (with_reducible repeat (first|apply aR|apply nR|apply dR));exact (Kd.R_mono (Kd.R_far (p:=⟨gb306,2,none⟩) (Kd.R_far (p:=⟨gb306,1,none⟩) (Kd.R_far (p:=⟨gb306,0,none⟩) (Kd.R_types HO302.out BK306.out (by decide)) (fun _ hk=>hk.2) (.int .i64 t299)) (fun _ hk=>hk.2) (.slice Ao31 t300.length co31)) (fun _ hk=>hk.2) (.slice Ao32 t303.length co32)) (fun _ h_=>h_.1))) hb);have n3_:=mk0 (Kd.S_below (by (with_reducible repeat (first|apply aS|apply nS|apply dS));exact (Kd.S_mono (Kd.S_far (p:=⟨gb306,2,none⟩) (Kd.S_far (p:=⟨gb306,1,none⟩) (Kd.S_far (p:=⟨gb306,0,none⟩) (Kd.S_types HO305.out BK306.out (by decide)) (fun _ hk=>hk.2) (.int .i64 t299)) (fun _ hk=>hk.2) (.slice Ao31 t300.length co31)) (fun _ hk=>hk.2) (.slice Ao32 t303.length co32)) (fun _ h_=>h_.1))) hb);have n4_:=mk0 (blk_below (g:=gb289) (o:=.cells #[.int .i64 a0_0,.slice A0_1 l0_1.length c0_1,.slice A0_2 l0_2.length c0_2] 25 (0,0)) (by (with_reducible repeat (first|apply nB|apply dB|apply aB));refine blk_far ?_ NB289_306.out _;(with_reducible repeat (first|apply nB|apply dB|apply aB));refine blk_far ?_ NB289_306.out _;(with_reducible repeat (first|apply nB|apply dB|apply aB));refine blk_far ?_ NB289_306.out _;(with_reducible repeat (first|apply nB|apply dB|apply aB));exact BK289.out) hb);have n5_:=mk0 (blk_below (g:=gb306) (o:=.cells #[.int .i64 t299,.slice Ao31 t300.length co31,.slice Ao32 t303.length co32] 30 (0,0)) (by (with_reducible repeat (first|apply nB|apply dB|apply aB));refine blk_put (cs:=#[.int .i64 t299,.slice Ao31 t300.length co31,.slice none 0 0]) ?_ 2 _ rfl;(with_reducible repeat (first|apply nB|apply dB|apply aB));refine blk_put (cs:=#[.int .i64 t299,.slice none 0 0,.slice none 0 0]) ?_ 1 _ rfl;(with_reducible repeat (first|apply nB|apply dB|apply aB));refine blk_put (cs:=#[.int .i64 0,.slice none 0 0,.slice none 0 0]) ?_ 0 _ rfl;(with_reducible repeat (first|apply nB|apply dB|apply aB));exact BK306.out) hb);have n6_:=mk0 (below_step (by repeat (first|(with_reducible first|exact HB.out|apply aZ|apply nZ|apply dZ|refine sZ ?_ GE289.out|refine sZ ?_ GE306.out)|exact HB.out)) hb);clear HO294 HO297 HO302 HO305 BK289 BK306 HB;have HO294:=n0_;have HO297:=n1_;have HO302:=n2_;have HO305:=n3_;have BK289:=n4_;have BK306:=n5_;have HB:=n6_;clear n0_ n1_ n2_ n3_ n4_ n5_ n6_;(try clear hb);(try clear hb2);(try clear hk);(try clear hi)))
  have n0_:=mk0 (dR HO294.out)
  have n1_:=mk0 (dS HO297.out)
  have n2_:=mk0 (dR HO302.out)
  have n3_:=mk0 (dS HO305.out)
  have n4_:=mk0 (dB BK289.out)
  have n5_:=mk0 (dB BK306.out)
  have n6_:=mk0 (dZ HB.out)
  clear HO294
  clear HO297
  clear HO302
  clear HO305
  clear BK289
  clear BK306
  clear HB
  have HO294:=n0_
  have HO297:=n1_
  have HO302:=n2_
  have HO305:=n3_
  have BK289:=n4_
  have BK306:=n5_
  have HB:=n6_
  clear n0_ n1_ n2_ n3_ n4_ n5_ n6_
  refine start_ (n:=5) (S:=fun w'=>w'.cell? ⟨gb306,0,none⟩ = some (.int .i64 t299) ∧ w'.cell? ⟨gb306,1,none⟩ = some (.slice Ao31 t300.length co31) ∧ w'.cell? ⟨gb306,2,none⟩ = some (.slice Ao32 t303.length co32) ∧ w'.cell? ⟨gb289,0,none⟩ = some (.int .i64 a0_0) ∧ w'.cell? ⟨gb289,1,none⟩ = some (.slice A0_1 l0_1.length c0_1) ∧ w'.cell? ⟨gb289,2,none⟩ = some (.slice A0_2 l0_2.length c0_2)) (ds:=[]) #[false,false,false,false,false] (by kernel_rfl) rfl rfl ⟨(blk_cell BK306.out 0).trans rfl,(blk_cell BK306.out 1).trans rfl,(blk_cell BK306.out 2).trans rfl,(blk_cell BK289.out 0).trans rfl,(blk_cell BK289.out 1).trans rfl,(blk_cell BK289.out 2).trans rfl⟩ (fun hHeld=>?_)
  generalize w33.drew = w34 at HO294 HO297 HO302 HO305 BK289 BK306 HB hHeld ⊢
  refine take_ (i:=0) (N:=some 34) (v:=?_) (a':=?_) #[true,false,false,false,false] rfl rfl (by kernel_rfl) (fun _ _ _ h=>h) (Or.inl ⟨by rfl,?_⟩) hHeld ?_ ?_
  rotate_left
  ·rintro w' ⟨s0,s1,s2,s3,s4,s5⟩
   go_simp
   with_reducible rfl
  rotate_left
  ·simp only [Act.put,sA,sO,sS,i64_w,i32_w]
   rfl
  refine take_ (i:=1) (N:=some 35) (v:=?_) (a':=?_) #[true,true,false,false,false] rfl rfl (by kernel_rfl) (fun _ _ _ h=>h) (Or.inl ⟨by rfl,?_⟩) hHeld ?_ ?_
  rotate_left
  ·rintro w' ⟨s0,s1,s2,s3,s4,s5⟩
   go_simp
   with_reducible rfl
  rotate_left
  ·simp only [Act.put,sA,sO,sS,i64_w,i32_w]
   rfl
  refine one_ (i:=2) (N:=some 36) #[true,true,true,false,false] rfl rfl (by kernel_rfl) (by decide) (fun K hK=>?_)
  refine goes_ Try.func11 (by kernel_rfl) rfl #[.agg #[.int .i64 a0_0,.slice A0_1 l0_1.length c0_1,.slice A0_2 l0_2.length c0_2]] (by rfl) rfl rfl (by (try simp only [mA,mC,mN]);first|done|rfl|(simp only [List.length_drop,List.length_take];rfl)) ?_
  with_reducible refine (laws_toWave.calls k a0_0 _ _ l0_1 _ _ l0_2 t308 t309 t312 _ ?side1 ?side2 ?side3 ?side4 A15.out).mono ?_
  (case side1=>repeat (first|exact (Kd.C_below HR0_1.out HB.out)|(with_reducible first|apply aC|apply nC|apply dC)))
  (case side2=>exact HC0_1.out)
  (case side3=>repeat (first|exact (Kd.C_below HR0_2.out HB.out)|(with_reducible first|apply aC|apply nC|apply dC)))
  (case side4=>exact HC0_2.out)
  rintro e w35 ⟨v310,v313,rfl,ho0,ho1,hb⟩
  refine⟨_,rfl,?_⟩
  have n0_:=mk0 (Kd.R_elder' (by (with_reducible repeat (first|apply aR|apply nR|apply dR));exact HO294.out) (Kd.R_base ho0) hb)
  have n1_:=mk0 (Kd.S_elder' (by (with_reducible repeat (first|apply aS|apply nS|apply dS));exact HO297.out) (Kd.S_base ho1) hb)
  have n2_:=mk0 (Kd.R_elder' (by (with_reducible repeat (first|apply aR|apply nR|apply dR));exact HO302.out) (Kd.R_base ho0) hb)
  have n3_:=mk0 (Kd.S_elder' (by (with_reducible repeat (first|apply aS|apply nS|apply dS));exact HO305.out) (Kd.S_base ho1) hb)
  have n4_:=mk0 (Kd.R_lower (Kd.R_new' (Kd.R_new' ho0 (Kd.R_lt (by (with_reducible repeat (first|apply aR|apply nR|apply dR));exact HO294.out))) (Kd.R_lt (by (with_reducible repeat (first|apply aR|apply nR|apply dR));exact HO302.out))) (below_size (by repeat (first|(with_reducible first|exact HB.out|apply aZ|apply nZ|apply dZ|refine sZ ?_ GE289.out|refine sZ ?_ GE306.out)|exact HB.out))))
  have n5_:=mk0 (Kd.S_lower (Kd.S_new' (Kd.S_new' ho1 (Kd.S_lt (by (with_reducible repeat (first|apply aS|apply nS|apply dS));exact HO297.out))) (Kd.S_lt (by (with_reducible repeat (first|apply aS|apply nS|apply dS));exact HO305.out))) (below_size (by repeat (first|(with_reducible first|exact HB.out|apply aZ|apply nZ|apply dZ|refine sZ ?_ GE289.out|refine sZ ?_ GE306.out)|exact HB.out))))
  have n6_:=mk0 (blk_below (g:=gb289) (o:=.cells #[.int .i64 a0_0,.slice A0_1 l0_1.length c0_1,.slice A0_2 l0_2.length c0_2] 25 (0,0)) (by (with_reducible repeat (first|apply nB|apply dB|apply aB));exact BK289.out) hb)
  have n7_:=mk0 (blk_below (g:=gb306) (o:=.cells #[.int .i64 t299,.slice Ao31 t300.length co31,.slice Ao32 t303.length co32] 30 (0,0)) (by (with_reducible repeat (first|apply nB|apply dB|apply aB));exact BK306.out) hb)
  have n8_:=mk0 (below_step (by repeat (first|(with_reducible first|exact HB.out|apply aZ|apply nZ|apply dZ|refine sZ ?_ GE289.out|refine sZ ?_ GE306.out)|exact HB.out)) hb)
  clear HO294
  clear HO297
  clear HO302
  clear HO305
  clear BK289
  clear BK306
  clear HB
  have HO294:=n0_
  have HO297:=n1_
  have HO302:=n2_
  have HO305:=n3_
  have HO311:=n4_
  have HO314:=n5_
  have BK289:=n6_
  have BK306:=n7_
  have HB:=n8_
  clear n0_ n1_ n2_ n3_ n4_ n5_ n6_ n7_ n8_
  (try clear hb)
  (try clear hb2)
  (try clear hk)
  (try clear hi)
  (try clear ho0)
  (try clear ho1)
  obtain⟨Ao36,co36,eo36⟩:=Kd.R_slice HO311.out
  (first|subst eo36|(injection eo36 with f1_ f2_ f3_;have f4_:=f1_.symm;have f5_:=f3_.symm;clear f1_ f2_ f3_;subst f4_;subst f5_))
  obtain⟨Ao37,co37,eo37⟩:=Kd.S_slice HO314.out
  (first|subst eo37|(injection eo37 with f1_ f2_ f3_;have f4_:=f1_.symm;have f5_:=f3_.symm;clear f1_ f2_ f3_;subst f4_;subst f5_))
  refine hK.out _ _ ⟨(blk_cell BK306.out 0).trans rfl,(blk_cell BK306.out 1).trans rfl,(blk_cell BK306.out 2).trans rfl,(blk_cell BK289.out 0).trans rfl,(blk_cell BK289.out 1).trans rfl,(blk_cell BK289.out 2).trans rfl⟩ (fun hHeld=>?_)
  clear hK K
  refine norm_ (a':=?_) ?_ ?_
  rotate_left
  ·show Act.put _ (some 36) _ = _
   simp only [Act.put,sA,sO,sS,i64_w,i32_w]
   rfl
  refine one_ (i:=3) (N:=some 37) #[true,true,true,true,false] rfl rfl (by kernel_rfl) (by decide) (fun K hK=>?_)
  refine goes_ Try.func13 (by kernel_rfl) rfl #[.agg #[.int .i64 t299,.slice Ao31 t300.length co31,.slice Ao32 t303.length co32],.agg #[.int .i64 t308,.slice Ao36 t309.length co36,.slice Ao37 t312.length co37]] (by rfl) rfl rfl (by (try simp only [mA,mC,mN]);first|done|rfl|(simp only [List.length_drop,List.length_take];rfl)) ?_
  with_reducible refine (laws_eqWave.calls k t299 _ _ t300 _ _ t303 t308 _ _ t309 _ _ t312 true _ ?side1 ?side2 ?side3 ?side4 ?side5 ?side6 ?side7 ?side8 A16.out).mono ?_
  (case side1=>repeat (first|exact (Kd.R_reads' HO302.out).2.2|(with_reducible first|apply aC|apply nC|apply dC)))
  (case side2=>exact (Kd.R_reads' HO302.out).2.1)
  (case side3=>repeat (first|exact (Kd.S_reads' HO305.out).2.2|(with_reducible first|apply aC|apply nC|apply dC)))
  (case side4=>exact (Kd.S_reads' HO305.out).2.1)
  (case side5=>repeat (first|exact (Kd.R_reads' HO311.out).2.2|(with_reducible first|apply aC|apply nC|apply dC)))
  (case side6=>exact (Kd.R_reads' HO311.out).2.1)
  (case side7=>repeat (first|exact (Kd.S_reads' HO314.out).2.2|(with_reducible first|apply aC|apply nC|apply dC)))
  (case side8=>exact (Kd.S_reads' HO314.out).2.1)
  rintro e w38 ⟨rfl,hb⟩
  refine⟨_,rfl,?_⟩
  have n0_:=mk0 (Kd.R_below (by (with_reducible repeat (first|apply aR|apply nR|apply dR));exact HO294.out) hb)
  have n1_:=mk0 (Kd.S_below (by (with_reducible repeat (first|apply aS|apply nS|apply dS));exact HO297.out) hb)
  have n2_:=mk0 (Kd.R_below (by (with_reducible repeat (first|apply aR|apply nR|apply dR));exact HO302.out) hb)
  have n3_:=mk0 (Kd.S_below (by (with_reducible repeat (first|apply aS|apply nS|apply dS));exact HO305.out) hb)
  have n4_:=mk0 (Kd.R_below (by (with_reducible repeat (first|apply aR|apply nR|apply dR));exact HO311.out) hb)
  have n5_:=mk0 (Kd.S_below (by (with_reducible repeat (first|apply aS|apply nS|apply dS));exact HO314.out) hb)
  have n6_:=mk0 (blk_below (g:=gb289) (o:=.cells #[.int .i64 a0_0,.slice A0_1 l0_1.length c0_1,.slice A0_2 l0_2.length c0_2] 25 (0,0)) (by (with_reducible repeat (first|apply nB|apply dB|apply aB));exact BK289.out) hb)
  have n7_:=mk0 (blk_below (g:=gb306) (o:=.cells #[.int .i64 t299,.slice Ao31 t300.length co31,.slice Ao32 t303.length co32] 30 (0,0)) (by (with_reducible repeat (first|apply nB|apply dB|apply aB));exact BK306.out) hb)
  have n8_:=mk0 (below_step (by repeat (first|(with_reducible first|exact HB.out|apply aZ|apply nZ|apply dZ|refine sZ ?_ GE289.out|refine sZ ?_ GE306.out)|exact HB.out)) hb)
  clear HO294
  clear HO297
  clear HO302
  clear HO305
  clear HO311
  clear HO314
  clear BK289
  clear BK306
  clear HB
  have HO294:=n0_
  have HO297:=n1_
  have HO302:=n2_
  have HO305:=n3_
  have HO311:=n4_
  have HO314:=n5_
  have BK289:=n6_
  have BK306:=n7_
  have HB:=n8_
  clear n0_ n1_ n2_ n3_ n4_ n5_ n6_ n7_ n8_
  (try clear hb)
  (try clear hb2)
  (try clear hk)
  (try clear hi)
  refine hK.out _ _ ⟨(blk_cell BK306.out 0).trans rfl,(blk_cell BK306.out 1).trans rfl,(blk_cell BK306.out 2).trans rfl,(blk_cell BK289.out 0).trans rfl,(blk_cell BK289.out 1).trans rfl,(blk_cell BK289.out 2).trans rfl⟩ (fun hHeld=>?_)
  clear hK K
  refine norm_ (a':=?_) ?_ ?_
  rotate_left
  ·show Act.put _ (some 37) _ = _
   simp only [Act.put,sA,sO,sS,i64_w,i32_w]
   rfl
  refine pure_ (i:=4) (N:=some 38) (v:=?_) (a':=?_) #[true,true,true,true,true] rfl rfl (by kernel_rfl) (fun _ _ _ h=>h) (Or.inl ⟨by rfl,?_⟩) ?_ ?_
  rotate_left
  ·intro w'
   go_simp
   with_reducible rfl
  rotate_left
  ·simp only [Act.put,sA,sO,sS,i64_w,i32_w]
   rfl
  refine done_ (by kernel_rfl) ?_
  try go_wp2
  go_ret
  exact⟨by first|rfl|(simp [errW_none,errW_some] <;> rfl)|(simp [*,errW_none,errW_some] <;> rfl),by repeat (first|(with_reducible first|exact HB.out|apply aZ|apply nZ|apply dZ|refine sZ ?_ GE289.out|refine sZ ?_ GE306.out)|exact HB.out)⟩
 replace c17:=Bool.eq_false_iff.mpr c17
 subst c17
 have H1:(some false) = some r:=by rw [if_neg (show ¬ (false = true) by decide)] at H;exact H
 clear H
 have H:=H1
 clear H1
 obtain rfl:=Option.some.inj H
 go_enter Try.func6,Try.ntmps6
 try go_wp2_with (first|((with_reducible refine gate_dst (N:=4) rfl ?_);refine box_event ?hg (N:=4) ?hd (cs:=#[.int .i64 a0_0,.slice A0_1 l0_1.length c0_1,.slice A0_2 l0_2.length c0_2]) (t:=25) ?hr ?_;(case hd=>rfl);(case hg=>rfl);(case hr=>first|(go_simp;done)|(go_simp;rfl));intro gb289 hg w39 hbox hb;have n0_:=mk0 (below_step (by repeat (first|(with_reducible first|exact HB.out|apply aZ|apply nZ|apply dZ)|exact HB.out)) hb);have n1_:=mk0 (hbox);have n2_:=mk0 ((by rw [hg];exact (below_size (by repeat (first|(with_reducible first|exact HB.out|apply aZ|apply nZ|apply dZ)|exact HB.out))):w.heap.size ≤ gb289));have n3_:=mk0 ((by rw [hg];exact (below_size (by repeat (first|(with_reducible first|exact HB.out|apply aZ|apply nZ|apply dZ)|exact HB.out))):w.heap.size ≤ gb289));clear HB;have HB:=n0_;have BK289:=n1_;have GW289:=n2_;have GE289:=n3_;clear n0_ n1_ n2_ n3_ hb hbox hg;have hcz40_0:w39.cell? ⟨gb289,0,none⟩ = some (.int .i64 a0_0):=(blk_cell BK289.out 0).trans rfl;have hcz40_1:w39.cell? ⟨gb289,1,none⟩ = some (.slice A0_1 l0_1.length c0_1):=(blk_cell BK289.out 1).trans rfl;have hcz40_2:w39.cell? ⟨gb289,2,none⟩ = some (.slice A0_2 l0_2.length c0_2):=(blk_cell BK289.out 2).trans rfl;have hfz40_0:=blk_frozen BK289.out 0;have hfz40_1:=blk_frozen BK289.out 1;have hfz40_2:=blk_frozen BK289.out 2)|((with_reducible refine gate_callee (f:=9) rfl ?_);refine goesL_ (some 15) rfl rfl Try.func9 (by kernel_rfl) rfl #[.agg #[.int .i64 a0_0,.slice A0_1 l0_1.length c0_1,.slice A0_2 l0_2.length c0_2],.int .i64 1048576] rfl (by (try simp only [mA,mC,mN]);first|done|rfl|(simp only [List.length_drop,List.length_take];rfl)) ?_;(with_reducible refine (laws_szWave.calls k a0_0 _ _ l0_1 _ _ l0_2 1048576 t290 _ ?side1 ?side2 ?side3 ?side4 A5.out).mono ?_);(case side1=>repeat (first|exact (Kd.C_below HR0_1.out HB.out)|(with_reducible first|apply aC|apply nC|apply dC)));(case side2=>exact HC0_1.out);(case side3=>repeat (first|exact (Kd.C_below HR0_2.out HB.out)|(with_reducible first|apply aC|apply nC|apply dC)));(case side4=>exact HC0_2.out);rintro e w41 ⟨rfl,hb⟩;refine⟨_,rfl,?_⟩;have n0_:=mk0 (blk_below (g:=gb289) (o:=.cells #[.int .i64 a0_0,.slice A0_1 l0_1.length c0_1,.slice A0_2 l0_2.length c0_2] 25 (0,0)) (by (with_reducible repeat (first|apply nB|apply dB|apply aB));exact BK289.out) hb);have n1_:=mk0 (below_step (by repeat (first|(with_reducible first|exact HB.out|apply aZ|apply nZ|apply dZ|refine sZ ?_ GE289.out)|exact HB.out)) hb);clear BK289 HB;have BK289:=n0_;have HB:=n1_;clear n0_ n1_;(try clear hb);(try clear hb2);(try clear hk);(try clear hi);have hcz42_0:w41.cell? ⟨gb289,0,none⟩ = some (.int .i64 a0_0):=(blk_cell BK289.out 0).trans rfl;have hcz42_1:w41.cell? ⟨gb289,1,none⟩ = some (.slice A0_1 l0_1.length c0_1):=(blk_cell BK289.out 1).trans rfl;have hcz42_2:w41.cell? ⟨gb289,2,none⟩ = some (.slice A0_2 l0_2.length c0_2):=(blk_cell BK289.out 2).trans rfl;have hfz42_0:=blk_frozen BK289.out 0;have hfz42_1:=blk_frozen BK289.out 1;have hfz42_2:=blk_frozen BK289.out 2)|((with_reducible refine gate_callee (f:=11) rfl ?_);refine goesL_ (some 19) rfl rfl Try.func11 (by kernel_rfl) rfl #[.agg #[.int .i64 a0_0,.slice A0_1 l0_1.length c0_1,.slice A0_2 l0_2.length c0_2]] rfl (by (try simp only [mA,mC,mN]);first|done|rfl|(simp only [List.length_drop,List.length_take];rfl)) ?_;(with_reducible refine (laws_toWave.calls k a0_0 _ _ l0_1 _ _ l0_2 t291 t292 t295 _ ?side1 ?side2 ?side3 ?side4 A10.out).mono ?_);(case side1=>repeat (first|exact (Kd.C_below HR0_1.out HB.out)|(with_reducible first|apply aC|apply nC|apply dC)));(case side2=>exact HC0_1.out);(case side3=>repeat (first|exact (Kd.C_below HR0_2.out HB.out)|(with_reducible first|apply aC|apply nC|apply dC)));(case side4=>exact HC0_2.out);rintro e w43 ⟨v293,v296,rfl,ho0,ho1,hb⟩;refine⟨_,rfl,?_⟩;have n0_:=mk0 (Kd.R_lower ho0 (below_size (by repeat (first|(with_reducible first|exact HB.out|apply aZ|apply nZ|apply dZ|refine sZ ?_ GE289.out)|exact HB.out))));have n1_:=mk0 (Kd.S_lower ho1 (below_size (by repeat (first|(with_reducible first|exact HB.out|apply aZ|apply nZ|apply dZ|refine sZ ?_ GE289.out)|exact HB.out))));have n2_:=mk0 (blk_below (g:=gb289) (o:=.cells #[.int .i64 a0_0,.slice A0_1 l0_1.length c0_1,.slice A0_2 l0_2.length c0_2] 25 (0,0)) (by (with_reducible repeat (first|apply nB|apply dB|apply aB));exact BK289.out) hb);have n3_:=mk0 (below_step (by repeat (first|(with_reducible first|exact HB.out|apply aZ|apply nZ|apply dZ|refine sZ ?_ GE289.out)|exact HB.out)) hb);clear BK289 HB;have HO294:=n0_;have HO297:=n1_;have BK289:=n2_;have HB:=n3_;clear n0_ n1_ n2_ n3_;(try clear hb);(try clear hb2);(try clear hk);(try clear hi);(try clear ho0);(try clear ho1);obtain⟨Ao44,co44,eo44⟩:=Kd.R_slice HO294.out;subst eo44;obtain⟨Ao45,co45,eo45⟩:=Kd.S_slice HO297.out;subst eo45)|((with_reducible refine gate_callee (f:=26) rfl ?_);refine goesL_ (some 23) rfl rfl Try.func26 (by kernel_rfl) rfl #[.agg #[.int .i64 t291,.slice Ao44 t292.length co44,.slice Ao45 t295.length co45],.int .i64 a1,.int .i64 a2,.int .i64 a3] rfl (by (try simp only [mA,mC,mN]);first|done|rfl|(simp only [List.length_drop,List.length_take];rfl)) ?_;(with_reducible refine (spec_WaveLess.calls k t291 _ _ t292 _ _ t295 a1 a2 a3 t298 _ ?side1 ?side2 ?side3 ?side4 A11.out).mono ?_);(case side1=>repeat (first|exact (Kd.R_reads' HO294.out).2.2|(with_reducible first|apply aC|apply nC|apply dC)));(case side2=>exact (Kd.R_reads' HO294.out).2.1);(case side3=>repeat (first|exact (Kd.S_reads' HO297.out).2.2|(with_reducible first|apply aC|apply nC|apply dC)));(case side4=>exact (Kd.S_reads' HO297.out).2.1);rintro e w46 ⟨rfl,hb⟩;refine⟨_,rfl,?_⟩;have n0_:=mk0 (Kd.R_below (by (with_reducible repeat (first|apply aR|apply nR|apply dR));exact HO294.out) hb);have n1_:=mk0 (Kd.S_below (by (with_reducible repeat (first|apply aS|apply nS|apply dS));exact HO297.out) hb);have n2_:=mk0 (blk_below (g:=gb289) (o:=.cells #[.int .i64 a0_0,.slice A0_1 l0_1.length c0_1,.slice A0_2 l0_2.length c0_2] 25 (0,0)) (by (with_reducible repeat (first|apply nB|apply dB|apply aB));exact BK289.out) hb);have n3_:=mk0 (below_step (by repeat (first|(with_reducible first|exact HB.out|apply aZ|apply nZ|apply dZ|refine sZ ?_ GE289.out)|exact HB.out)) hb);clear HO294 HO297 BK289 HB;have HO294:=n0_;have HO297:=n1_;have BK289:=n2_;have HB:=n3_;clear n0_ n1_ n2_ n3_;(try clear hb);(try clear hb2);(try clear hk);(try clear hi);have hcz47_0:w46.cell? ⟨gb289,0,none⟩ = some (.int .i64 a0_0):=(blk_cell BK289.out 0).trans rfl;have hcz47_1:w46.cell? ⟨gb289,1,none⟩ = some (.slice A0_1 l0_1.length c0_1):=(blk_cell BK289.out 1).trans rfl;have hcz47_2:w46.cell? ⟨gb289,2,none⟩ = some (.slice A0_2 l0_2.length c0_2):=(blk_cell BK289.out 2).trans rfl;have hfz47_0:=blk_frozen BK289.out 0;have hfz47_1:=blk_frozen BK289.out 1;have hfz47_2:=blk_frozen BK289.out 2)|((with_reducible refine gate_callee (f:=11) rfl ?_);refine goesL_ (some 25) rfl rfl Try.func11 (by kernel_rfl) rfl #[.agg #[.int .i64 a0_0,.slice A0_1 l0_1.length c0_1,.slice A0_2 l0_2.length c0_2]] rfl (by (try simp only [mA,mC,mN]);first|done|rfl|(simp only [List.length_drop,List.length_take];rfl)) ?_;(with_reducible refine (laws_toWave.calls k a0_0 _ _ l0_1 _ _ l0_2 t299 t300 t303 _ ?side1 ?side2 ?side3 ?side4 A12.out).mono ?_);(case side1=>repeat (first|exact (Kd.C_below HR0_1.out HB.out)|(with_reducible first|apply aC|apply nC|apply dC)));(case side2=>exact HC0_1.out);(case side3=>repeat (first|exact (Kd.C_below HR0_2.out HB.out)|(with_reducible first|apply aC|apply nC|apply dC)));(case side4=>exact HC0_2.out);rintro e w48 ⟨v301,v304,rfl,ho0,ho1,hb⟩;refine⟨_,rfl,?_⟩;have n0_:=mk0 (Kd.R_elder' (by (with_reducible repeat (first|apply aR|apply nR|apply dR));exact HO294.out) (Kd.R_base ho0) hb);have n1_:=mk0 (Kd.S_elder' (by (with_reducible repeat (first|apply aS|apply nS|apply dS));exact HO297.out) (Kd.S_base ho1) hb);have n2_:=mk0 (Kd.R_lower (Kd.R_new' ho0 (Kd.R_lt (by (with_reducible repeat (first|apply aR|apply nR|apply dR));exact HO294.out))) (below_size (by repeat (first|(with_reducible first|exact HB.out|apply aZ|apply nZ|apply dZ|refine sZ ?_ GE289.out)|exact HB.out))));have n3_:=mk0 (Kd.S_lower (Kd.S_new' ho1 (Kd.S_lt (by (with_reducible repeat (first|apply aS|apply nS|apply dS));exact HO297.out))) (below_size (by repeat (first|(with_reducible first|exact HB.out|apply aZ|apply nZ|apply dZ|refine sZ ?_ GE289.out)|exact HB.out))));have n4_:=mk0 (blk_below (g:=gb289) (o:=.cells #[.int .i64 a0_0,.slice A0_1 l0_1.length c0_1,.slice A0_2 l0_2.length c0_2] 25 (0,0)) (by (with_reducible repeat (first|apply nB|apply dB|apply aB));exact BK289.out) hb);have n5_:=mk0 (below_step (by repeat (first|(with_reducible first|exact HB.out|apply aZ|apply nZ|apply dZ|refine sZ ?_ GE289.out)|exact HB.out)) hb);clear HO294 HO297 BK289 HB;have HO294:=n0_;have HO297:=n1_;have HO302:=n2_;have HO305:=n3_;have BK289:=n4_;have HB:=n5_;clear n0_ n1_ n2_ n3_ n4_ n5_;(try clear hb);(try clear hb2);(try clear hk);(try clear hi);(try clear ho0);(try clear ho1))|((with_reducible refine gate_dst (N:=11) rfl ?_);refine box_event ?hg (N:=11) ?hd (cs:=#[.int .i64 0,.slice none 0 0,.slice none 0 0]) (t:=30) ?hr ?_;(case hd=>rfl);(case hg=>rfl);(case hr=>first|(go_simp;done)|(go_simp;rfl));intro gb306 hg w49 hbox hb;have n0_:=mk0 (Kd.R_below (by (with_reducible repeat (first|apply aR|apply nR|apply dR));exact HO294.out) hb);have n1_:=mk0 (Kd.S_below (by (with_reducible repeat (first|apply aS|apply nS|apply dS));exact HO297.out) hb);have n2_:=mk0 (Kd.R_below (by (with_reducible repeat (first|apply aR|apply nR|apply dR));exact HO302.out) hb);have n3_:=mk0 (Kd.S_below (by (with_reducible repeat (first|apply aS|apply nS|apply dS));exact HO305.out) hb);have n4_:=mk0 (blk_below (g:=gb289) (o:=.cells #[.int .i64 a0_0,.slice A0_1 l0_1.length c0_1,.slice A0_2 l0_2.length c0_2] 25 (0,0)) (by (with_reducible repeat (first|apply nB|apply dB|apply aB));exact BK289.out) hb);have n5_:=mk0 (below_step (by repeat (first|(with_reducible first|exact HB.out|apply aZ|apply nZ|apply dZ|refine sZ ?_ GE289.out)|exact HB.out)) hb);have n6_:=mk0 (hbox);have n7_:=mk0 ((by rw [hg];exact (below_size (by repeat (first|(with_reducible first|exact HB.out|apply aZ|apply nZ|apply dZ|refine sZ ?_ GE289.out)|exact HB.out))):w.heap.size ≤ gb306));have n8_:=mk0 ((by rw [hg];exact (below_size (by repeat (first|(with_reducible first|exact HB.out|apply aZ|apply nZ|apply dZ|refine sZ ?_ GE289.out)|exact HB.out))):w.heap.size ≤ gb306));have n9_:=mk0 ((by rw [hg];exact Nat.ne_of_lt (blk_lt (g:=gb289) (o:=.cells #[.int .i64 a0_0,.slice A0_1 l0_1.length c0_1,.slice A0_2 l0_2.length c0_2] 25 (0,0)) (by (with_reducible repeat (first|apply nB|apply dB|apply aB));exact BK289.out)):gb289 ≠ gb306));have n10_:=mk0 ((by rw [hg];exact Nat.ne_of_gt (blk_lt (g:=gb289) (o:=.cells #[.int .i64 a0_0,.slice A0_1 l0_1.length c0_1,.slice A0_2 l0_2.length c0_2] 25 (0,0)) (by (with_reducible repeat (first|apply nB|apply dB|apply aB));exact BK289.out)):gb306 ≠ gb289));clear HO294 HO297 HO302 HO305 BK289 HB;have HO294:=n0_;have HO297:=n1_;have HO302:=n2_;have HO305:=n3_;have BK289:=n4_;have HB:=n5_;have BK306:=n6_;have GW306:=n7_;have GE306:=n8_;have NB289_306:=n9_;have NB306_289:=n10_;clear n0_ n1_ n2_ n3_ n4_ n5_ n6_ n7_ n8_ n9_ n10_ hb hbox hg;have hnb50:=NB306_289.out;have hnc50:=NB289_306.out;have hcz51_0:w49.cell? ⟨gb306,0,none⟩ = some (.int .i64 0):=(blk_cell BK306.out 0).trans rfl;have hcz51_1:w49.cell? ⟨gb306,1,none⟩ = some (.slice none 0 0):=(blk_cell BK306.out 1).trans rfl;have hcz51_2:w49.cell? ⟨gb306,2,none⟩ = some (.slice none 0 0):=(blk_cell BK306.out 2).trans rfl;have hfz51_0:=blk_frozen BK306.out 0;have hfz51_1:=blk_frozen BK306.out 1;have hfz51_2:=blk_frozen BK306.out 2;obtain⟨Ao52,co52,eo52⟩:=Kd.R_slice HO302.out;subst eo52;obtain⟨Ao53,co53,eo53⟩:=Kd.S_slice HO305.out;subst eo53)|((with_reducible refine gate_callee (f:=27) rfl ?_);refine goesL_ (some 30) rfl rfl Try.func27 (by kernel_rfl) rfl #[.agg #[.int .i64 t299,.slice Ao52 t300.length co52,.slice Ao53 t303.length co53],.int .i64 a1,.int .i64 a2,.int .i64 a3] rfl (by (try simp only [mA,mC,mN]);first|done|rfl|(simp only [List.length_drop,List.length_take];rfl)) ?_;(with_reducible refine (impl_WaveLess.calls k t299 _ _ t300 _ _ t303 a1 a2 a3 t307 _ ?side1 ?side2 ?side3 ?side4 A13.out).mono ?_);(case side1=>refine (Kd.R_reads' (e:=3) (base:=w.heap.size) (ok:=fun k_=>(True ∧ some k_ ≠ (.slice Ao44 t292.length co44:Value).ownBlock)) (n:=t300.length) (c:=co52) ?_).2.2;exact (by (with_reducible repeat (first|apply aR|apply nR|apply dR));exact (Kd.R_mono (Kd.R_far (p:=⟨gb306,2,none⟩) (Kd.R_far (p:=⟨gb306,1,none⟩) (Kd.R_far (p:=⟨gb306,0,none⟩) (Kd.R_types HO302.out BK306.out (by decide)) (fun _ hk=>hk.2) (.int .i64 t299)) (fun _ hk=>hk.2) (.slice Ao52 t300.length co52)) (fun _ hk=>hk.2) (.slice Ao53 t303.length co53)) (fun _ h_=>h_.1))));(case side2=>exact (Kd.R_reads' HO302.out).2.1);(case side3=>refine (Kd.S_reads' (e:=64) (base:=w.heap.size) (ok:=fun k_=>(True ∧ some k_ ≠ (.slice Ao45 t295.length co45:Value).ownBlock)) (n:=t303.length) (c:=co53) ?_).2.2;exact (by (with_reducible repeat (first|apply aS|apply nS|apply dS));exact (Kd.S_mono (Kd.S_far (p:=⟨gb306,2,none⟩) (Kd.S_far (p:=⟨gb306,1,none⟩) (Kd.S_far (p:=⟨gb306,0,none⟩) (Kd.S_types HO305.out BK306.out (by decide)) (fun _ hk=>hk.2) (.int .i64 t299)) (fun _ hk=>hk.2) (.slice Ao52 t300.length co52)) (fun _ hk=>hk.2) (.slice Ao53 t303.length co53)) (fun _ h_=>h_.1))));(case side4=>exact (Kd.S_reads' HO305.out).2.1);rintro e w54 ⟨rfl,hb⟩;refine⟨_,rfl,?_⟩;have n0_:=mk0 (Kd.R_below (by (with_reducible repeat (first|apply aR|apply nR|apply dR));exact (Kd.R_mono (Kd.R_far (p:=⟨gb306,2,none⟩) (Kd.R_far (p:=⟨gb306,1,none⟩) (Kd.R_far (p:=⟨gb306,0,none⟩) (Kd.R_types HO294.out BK306.out (by decide)) (fun _ hk=>hk.2) (.int .i64 t299)) (fun _ hk=>hk.2) (.slice Ao52 t300.length co52)) (fun _ hk=>hk.2) (.slice Ao53 t303.length co53)) (fun _ h_=>h_.1))) hb);have n1_:=mk0 (Kd.S_below (by (with_reducible repeat (first|apply aS|apply nS|apply dS));exact (Kd.S_mono (Kd.S_far (p:=⟨gb306,2,none⟩) (Kd.S_far (p:=⟨gb306,1,none⟩) (Kd.S_far (p:=⟨gb306,0,none⟩) (Kd.S_types HO297.out BK306.out (by decide)) (fun _ hk=>hk.2) (.int .i64 t299)) (fun _ hk=>hk.2) (.slice Ao52 t300.length co52)) (fun _ hk=>hk.2) (.slice Ao53 t303.length co53)) (fun _ h_=>h_.1))) hb);have n2_:=mk0 (Kd.R_below (by (with_reducible repeat (first|apply aR|apply nR|apply dR));exact (Kd.R_mono (Kd.R_far (p:=⟨gb306,2,none⟩) (Kd.R_far (p:=⟨gb306,1,none⟩) (Kd.R_far (p:=⟨gb306,0,none⟩) (Kd.R_types HO302.out BK306.out (by decide)) (fun _ hk=>hk.2) (.int .i64 t299)) (fun _ hk=>hk.2) (.slice Ao52 t300.length co52)) (fun _ hk=>hk.2) (.slice Ao53 t303.length co53)) (fun _ h_=>h_.1))) hb);have n3_:=mk0 (Kd.S_below (by (with_reducible repeat (first|apply aS|apply nS|apply dS));exact (Kd.S_mono (Kd.S_far (p:=⟨gb306,2,none⟩) (Kd.S_far (p:=⟨gb306,1,none⟩) (Kd.S_far (p:=⟨gb306,0,none⟩) (Kd.S_types HO305.out BK306.out (by decide)) (fun _ hk=>hk.2) (.int .i64 t299)) (fun _ hk=>hk.2) (.slice Ao52 t300.length co52)) (fun _ hk=>hk.2) (.slice Ao53 t303.length co53)) (fun _ h_=>h_.1))) hb);have n4_:=mk0 (blk_below (g:=gb289) (o:=.cells #[.int .i64 a0_0,.slice A0_1 l0_1.length c0_1,.slice A0_2 l0_2.length c0_2] 25 (0,0)) (by (with_reducible repeat (first|apply nB|apply dB|apply aB));refine blk_far ?_ NB289_306.out _;(with_reducible repeat (first|apply nB|apply dB|apply aB));refine blk_far ?_ NB289_306.out _;(with_reducible repeat (first|apply nB|apply dB|apply aB));refine blk_far ?_ NB289_306.out _;(with_reducible repeat (first|apply nB|apply dB|apply aB));exact BK289.out) hb);have n5_:=mk0 (blk_below (g:=gb306) (o:=.cells #[.int .i64 t299,.slice Ao52 t300.length co52,.slice Ao53 t303.length co53] 30 (0,0)) (by (with_reducible repeat (first|apply nB|apply dB|apply aB));refine blk_put (cs:=#[.int .i64 t299,.slice Ao52 t300.length co52,.slice none 0 0]) ?_ 2 _ rfl;(with_reducible repeat (first|apply nB|apply dB|apply aB));refine blk_put (cs:=#[.int .i64 t299,.slice none 0 0,.slice none 0 0]) ?_ 1 _ rfl;(with_reducible repeat (first|apply nB|apply dB|apply aB));refine blk_put (cs:=#[.int .i64 0,.slice none 0 0,.slice none 0 0]) ?_ 0 _ rfl;(with_reducible repeat (first|apply nB|apply dB|apply aB));exact BK306.out) hb);have n6_:=mk0 (below_step (by repeat (first|(with_reducible first|exact HB.out|apply aZ|apply nZ|apply dZ|refine sZ ?_ GE289.out|refine sZ ?_ GE306.out)|exact HB.out)) hb);clear HO294 HO297 HO302 HO305 BK289 BK306 HB;have HO294:=n0_;have HO297:=n1_;have HO302:=n2_;have HO305:=n3_;have BK289:=n4_;have BK306:=n5_;have HB:=n6_;clear n0_ n1_ n2_ n3_ n4_ n5_ n6_;(try clear hb);(try clear hb2);(try clear hk);(try clear hi)))
 have n0_:=mk0 (dR HO294.out)
 have n1_:=mk0 (dS HO297.out)
 have n2_:=mk0 (dR HO302.out)
 have n3_:=mk0 (dS HO305.out)
 have n4_:=mk0 (dB BK289.out)
 have n5_:=mk0 (dB BK306.out)
 have n6_:=mk0 (dZ HB.out)
 clear HO294
 clear HO297
 clear HO302
 clear HO305
 clear BK289
 clear BK306
 clear HB
 have HO294:=n0_
 have HO297:=n1_
 have HO302:=n2_
 have HO305:=n3_
 have BK289:=n4_
 have BK306:=n5_
 have HB:=n6_
 clear n0_ n1_ n2_ n3_ n4_ n5_ n6_
 refine start_ (n:=5) (S:=fun w'=>w'.cell? ⟨gb306,0,none⟩ = some (.int .i64 t299) ∧ w'.cell? ⟨gb306,1,none⟩ = some (.slice Ao52 t300.length co52) ∧ w'.cell? ⟨gb306,2,none⟩ = some (.slice Ao53 t303.length co53) ∧ w'.cell? ⟨gb289,0,none⟩ = some (.int .i64 a0_0) ∧ w'.cell? ⟨gb289,1,none⟩ = some (.slice A0_1 l0_1.length c0_1) ∧ w'.cell? ⟨gb289,2,none⟩ = some (.slice A0_2 l0_2.length c0_2)) (ds:=[]) #[false,false,false,false,false] (by kernel_rfl) rfl rfl ⟨(blk_cell BK306.out 0).trans rfl,(blk_cell BK306.out 1).trans rfl,(blk_cell BK306.out 2).trans rfl,(blk_cell BK289.out 0).trans rfl,(blk_cell BK289.out 1).trans rfl,(blk_cell BK289.out 2).trans rfl⟩ (fun hHeld=>?_)
 generalize w54.drew = w55 at HO294 HO297 HO302 HO305 BK289 BK306 HB hHeld ⊢
 refine take_ (i:=0) (N:=some 34) (v:=?_) (a':=?_) #[true,false,false,false,false] rfl rfl (by kernel_rfl) (fun _ _ _ h=>h) (Or.inl ⟨by rfl,?_⟩) hHeld ?_ ?_
 rotate_left
 ·rintro w' ⟨s0,s1,s2,s3,s4,s5⟩
  go_simp
  with_reducible rfl
 rotate_left
 ·simp only [Act.put,sA,sO,sS,i64_w,i32_w]
  rfl
 refine take_ (i:=1) (N:=some 35) (v:=?_) (a':=?_) #[true,true,false,false,false] rfl rfl (by kernel_rfl) (fun _ _ _ h=>h) (Or.inl ⟨by rfl,?_⟩) hHeld ?_ ?_
 rotate_left
 ·rintro w' ⟨s0,s1,s2,s3,s4,s5⟩
  go_simp
  with_reducible rfl
 rotate_left
 ·simp only [Act.put,sA,sO,sS,i64_w,i32_w]
  rfl
 refine one_ (i:=2) (N:=some 36) #[true,true,true,false,false] rfl rfl (by kernel_rfl) (by decide) (fun K hK=>?_)
 refine goes_ Try.func11 (by kernel_rfl) rfl #[.agg #[.int .i64 a0_0,.slice A0_1 l0_1.length c0_1,.slice A0_2 l0_2.length c0_2]] (by rfl) rfl rfl (by (try simp only [mA,mC,mN]);first|done|rfl|(simp only [List.length_drop,List.length_take];rfl)) ?_
 with_reducible refine (laws_toWave.calls k a0_0 _ _ l0_1 _ _ l0_2 t308 t309 t312 _ ?side1 ?side2 ?side3 ?side4 A15.out).mono ?_
 (case side1=>repeat (first|exact (Kd.C_below HR0_1.out HB.out)|(with_reducible first|apply aC|apply nC|apply dC)))
 (case side2=>exact HC0_1.out)
 (case side3=>repeat (first|exact (Kd.C_below HR0_2.out HB.out)|(with_reducible first|apply aC|apply nC|apply dC)))
 (case side4=>exact HC0_2.out)
 rintro e w56 ⟨v310,v313,rfl,ho0,ho1,hb⟩
 refine⟨_,rfl,?_⟩
 have n0_:=mk0 (Kd.R_elder' (by (with_reducible repeat (first|apply aR|apply nR|apply dR));exact HO294.out) (Kd.R_base ho0) hb)
 have n1_:=mk0 (Kd.S_elder' (by (with_reducible repeat (first|apply aS|apply nS|apply dS));exact HO297.out) (Kd.S_base ho1) hb)
 have n2_:=mk0 (Kd.R_elder' (by (with_reducible repeat (first|apply aR|apply nR|apply dR));exact HO302.out) (Kd.R_base ho0) hb)
 have n3_:=mk0 (Kd.S_elder' (by (with_reducible repeat (first|apply aS|apply nS|apply dS));exact HO305.out) (Kd.S_base ho1) hb)
 have n4_:=mk0 (Kd.R_lower (Kd.R_new' (Kd.R_new' ho0 (Kd.R_lt (by (with_reducible repeat (first|apply aR|apply nR|apply dR));exact HO294.out))) (Kd.R_lt (by (with_reducible repeat (first|apply aR|apply nR|apply dR));exact HO302.out))) (below_size (by repeat (first|(with_reducible first|exact HB.out|apply aZ|apply nZ|apply dZ|refine sZ ?_ GE289.out|refine sZ ?_ GE306.out)|exact HB.out))))
 have n5_:=mk0 (Kd.S_lower (Kd.S_new' (Kd.S_new' ho1 (Kd.S_lt (by (with_reducible repeat (first|apply aS|apply nS|apply dS));exact HO297.out))) (Kd.S_lt (by (with_reducible repeat (first|apply aS|apply nS|apply dS));exact HO305.out))) (below_size (by repeat (first|(with_reducible first|exact HB.out|apply aZ|apply nZ|apply dZ|refine sZ ?_ GE289.out|refine sZ ?_ GE306.out)|exact HB.out))))
 have n6_:=mk0 (blk_below (g:=gb289) (o:=.cells #[.int .i64 a0_0,.slice A0_1 l0_1.length c0_1,.slice A0_2 l0_2.length c0_2] 25 (0,0)) (by (with_reducible repeat (first|apply nB|apply dB|apply aB));exact BK289.out) hb)
 have n7_:=mk0 (blk_below (g:=gb306) (o:=.cells #[.int .i64 t299,.slice Ao52 t300.length co52,.slice Ao53 t303.length co53] 30 (0,0)) (by (with_reducible repeat (first|apply nB|apply dB|apply aB));exact BK306.out) hb)
 have n8_:=mk0 (below_step (by repeat (first|(with_reducible first|exact HB.out|apply aZ|apply nZ|apply dZ|refine sZ ?_ GE289.out|refine sZ ?_ GE306.out)|exact HB.out)) hb)
 clear HO294
 clear HO297
 clear HO302
 clear HO305
 clear BK289
 clear BK306
 clear HB
 have HO294:=n0_
 have HO297:=n1_
 have HO302:=n2_
 have HO305:=n3_
 have HO311:=n4_
 have HO314:=n5_
 have BK289:=n6_
 have BK306:=n7_
 have HB:=n8_
 clear n0_ n1_ n2_ n3_ n4_ n5_ n6_ n7_ n8_
 (try clear hb)
 (try clear hb2)
 (try clear hk)
 (try clear hi)
 (try clear ho0)
 (try clear ho1)
 obtain⟨Ao57,co57,eo57⟩:=Kd.R_slice HO311.out
 (first|subst eo57|(injection eo57 with f1_ f2_ f3_;have f4_:=f1_.symm;have f5_:=f3_.symm;clear f1_ f2_ f3_;subst f4_;subst f5_))
 obtain⟨Ao58,co58,eo58⟩:=Kd.S_slice HO314.out
 (first|subst eo58|(injection eo58 with f1_ f2_ f3_;have f4_:=f1_.symm;have f5_:=f3_.symm;clear f1_ f2_ f3_;subst f4_;subst f5_))
 refine hK.out _ _ ⟨(blk_cell BK306.out 0).trans rfl,(blk_cell BK306.out 1).trans rfl,(blk_cell BK306.out 2).trans rfl,(blk_cell BK289.out 0).trans rfl,(blk_cell BK289.out 1).trans rfl,(blk_cell BK289.out 2).trans rfl⟩ (fun hHeld=>?_)
 clear hK K
 refine norm_ (a':=?_) ?_ ?_
 rotate_left
 ·show Act.put _ (some 36) _ = _
  simp only [Act.put,sA,sO,sS,i64_w,i32_w]
  rfl
 refine one_ (i:=3) (N:=some 37) #[true,true,true,true,false] rfl rfl (by kernel_rfl) (by decide) (fun K hK=>?_)
 refine goes_ Try.func13 (by kernel_rfl) rfl #[.agg #[.int .i64 t299,.slice Ao52 t300.length co52,.slice Ao53 t303.length co53],.agg #[.int .i64 t308,.slice Ao57 t309.length co57,.slice Ao58 t312.length co58]] (by rfl) rfl rfl (by (try simp only [mA,mC,mN]);first|done|rfl|(simp only [List.length_drop,List.length_take];rfl)) ?_
 with_reducible refine (laws_eqWave.calls k t299 _ _ t300 _ _ t303 t308 _ _ t309 _ _ t312 false _ ?side1 ?side2 ?side3 ?side4 ?side5 ?side6 ?side7 ?side8 A16.out).mono ?_
 (case side1=>repeat (first|exact (Kd.R_reads' HO302.out).2.2|(with_reducible first|apply aC|apply nC|apply dC)))
 (case side2=>exact (Kd.R_reads' HO302.out).2.1)
 (case side3=>repeat (first|exact (Kd.S_reads' HO305.out).2.2|(with_reducible first|apply aC|apply nC|apply dC)))
 (case side4=>exact (Kd.S_reads' HO305.out).2.1)
 (case side5=>repeat (first|exact (Kd.R_reads' HO311.out).2.2|(with_reducible first|apply aC|apply nC|apply dC)))
 (case side6=>exact (Kd.R_reads' HO311.out).2.1)
 (case side7=>repeat (first|exact (Kd.S_reads' HO314.out).2.2|(with_reducible first|apply aC|apply nC|apply dC)))
 (case side8=>exact (Kd.S_reads' HO314.out).2.1)
 rintro e w59 ⟨rfl,hb⟩
 refine⟨_,rfl,?_⟩
 have n0_:=mk0 (Kd.R_below (by (with_reducible repeat (first|apply aR|apply nR|apply dR));exact HO294.out) hb)
 have n1_:=mk0 (Kd.S_below (by (with_reducible repeat (first|apply aS|apply nS|apply dS));exact HO297.out) hb)
 have n2_:=mk0 (Kd.R_below (by (with_reducible repeat (first|apply aR|apply nR|apply dR));exact HO302.out) hb)
 have n3_:=mk0 (Kd.S_below (by (with_reducible repeat (first|apply aS|apply nS|apply dS));exact HO305.out) hb)
 have n4_:=mk0 (Kd.R_below (by (with_reducible repeat (first|apply aR|apply nR|apply dR));exact HO311.out) hb)
 have n5_:=mk0 (Kd.S_below (by (with_reducible repeat (first|apply aS|apply nS|apply dS));exact HO314.out) hb)
 have n6_:=mk0 (blk_below (g:=gb289) (o:=.cells #[.int .i64 a0_0,.slice A0_1 l0_1.length c0_1,.slice A0_2 l0_2.length c0_2] 25 (0,0)) (by (with_reducible repeat (first|apply nB|apply dB|apply aB));exact BK289.out) hb)
 have n7_:=mk0 (blk_below (g:=gb306) (o:=.cells #[.int .i64 t299,.slice Ao52 t300.length co52,.slice Ao53 t303.length co53] 30 (0,0)) (by (with_reducible repeat (first|apply nB|apply dB|apply aB));exact BK306.out) hb)
 have n8_:=mk0 (below_step (by repeat (first|(with_reducible first|exact HB.out|apply aZ|apply nZ|apply dZ|refine sZ ?_ GE289.out|refine sZ ?_ GE306.out)|exact HB.out)) hb)
 clear HO294
 clear HO297
 clear HO302
 clear HO305
 clear HO311
 clear HO314
 clear BK289
 clear BK306
 clear HB
 have HO294:=n0_
 have HO297:=n1_
 have HO302:=n2_
 have HO305:=n3_
 have HO311:=n4_
 have HO314:=n5_
 have BK289:=n6_
 have BK306:=n7_
 have HB:=n8_
 clear n0_ n1_ n2_ n3_ n4_ n5_ n6_ n7_ n8_
 (try clear hb)
 (try clear hb2)
 (try clear hk)
 (try clear hi)
 refine hK.out _ _ ⟨(blk_cell BK306.out 0).trans rfl,(blk_cell BK306.out 1).trans rfl,(blk_cell BK306.out 2).trans rfl,(blk_cell BK289.out 0).trans rfl,(blk_cell BK289.out 1).trans rfl,(blk_cell BK289.out 2).trans rfl⟩ (fun hHeld=>?_)
 clear hK K
 refine norm_ (a':=?_) ?_ ?_
 rotate_left
 ·show Act.put _ (some 37) _ = _
  simp only [Act.put,sA,sO,sS,i64_w,i32_w]
  rfl
 refine pure_ (i:=4) (N:=some 38) (v:=?_) (a':=?_) #[true,true,true,true,true] rfl rfl (by kernel_rfl) (fun _ _ _ h=>h) (Or.inl ⟨by rfl,?_⟩) ?_ ?_
 rotate_left
 ·intro w'
  go_simp
  with_reducible rfl
 rotate_left
 ·simp only [Act.put,sA,sO,sS,i64_w,i32_w]
  rfl
 refine done_ (by kernel_rfl) ?_
 try go_wp2
 go_ret
 exact⟨by first|rfl|(simp [errW_none,errW_some] <;> rfl)|(simp [*,errW_none,errW_some] <;> rfl),by repeat (first|(with_reducible first|exact HB.out|apply aZ|apply nZ|apply dZ|refine sZ ?_ GE289.out|refine sZ ?_ GE306.out)|exact HB.out)⟩
/-- The plain statement of laws_FnExactWaveLess. -/
def laws_FnExactWaveLess.Pure : Prop := ∀ (a0_0 : Int) (l0_1 : List Int) (l0_2 : List (S74)) (a1 : Int) (a2 : Int) (a3 : Int), ok25 ((⟨a0_0, l0_1, l0_2⟩ : S25)) → (Fv.OkI .i64) a1 → (Fv.OkI .i64) a2 → (Fv.OkI .i64) a3 → ∃ k, laws_FnExactWaveLess.f k a0_0 l0_1 l0_2 a1 a2 a3 = some true

end Go.Proofs.Ytamdhfjnalglfaa.QFnExactWaveLess
