-- A walk, made by walk.py, a program of this session's.
import Derived.Test.YtpheodpcppclaaaQFnMinsx0
import Derived.Test.YtpheodpcppclaaaQFnMinsx3
import Derived.Test.YtpheodpcppclaaaQFnMinsx6
namespace Go.Proofs.Ytpheodpcppclaaa.QFnMins
open Go.RowKit Go.Proofs.YtpheodpcppclaaaW.PrintWords Go.Proofs.YtpheodpcppclaaaW.PrintLast Go.Proofs.YtpheodpcppclaaaW.PrintMore
attribute [local go_sem] max2_int min2_int max_two min_two max_three min_three max_four min_four   -- for this text's walks alone
set_option linter.unusedVariables false
set_option linter.unusedSimpArgs false

/-! ### impl_MinsRange: function 26 -/
def impl_MinsRange.j0 : Nat → Int → Int → List Int → Bool → Option (Int)
 | 0, _, _, _, _ => none
 | k + 1, x1, x2, x7, x28 => if x28 = true then (some (-1)) else (if 0 ≤ x1 then (if x1 ≤ x2 then (if x2 ≤ (x7.length : Int) then ((slices_Min_int_int.f k ((x7.take (x2 : Int).toNat).drop (x1 : Int).toNat)).bind fun t222 => (some t222)) else (none)) else (none)) else (none))
def impl_MinsRange.f (k : Nat) (a0_0 : Int) (l0_1 : List Int) (a1 : Int) (a2 : Int) : Option (Int) := (impl_Mins_read.f k a0_0 l0_1).bind fun bt212 => (if bt212.2 = true then ((impl_isRange.f a1 a2 (bt212.1.length : Int)).bind fun t216 => (if t216 = true then (impl_MinsRange.j0 k a1 a2 bt212.1 (a1 == a2)) else (impl_MinsRange.j0 k a1 a2 bt212.1 true))) else (impl_MinsRange.j0 k a1 a2 bt212.1 true))
theorem impl_MinsRange.mono_l : ∀ k, (∀ y0 y1 y2 y3, LeO (impl_MinsRange.j0 k y0 y1 y2 y3) (impl_MinsRange.j0 (k + 1) y0 y1 y2 y3))
 | 0 => fun _ _ _ _ r h => by simp [impl_MinsRange.j0] at h
 | k + 1 => by
  have ih0 := impl_MinsRange.mono_l k
  ·intro y0 y1 y2 y3
   unfold impl_MinsRange.j0
   repeat' first|(with_reducible first|exact ih0 _ _ _ _|exact impl_Mins_read.mono _ _ _|exact slices_Min_int_int.mono _ _|exact LeO.refl _|exact LeO.none _|refine LeO.ite ?_ ?_|refine LeO.bind ?_ (fun _ => ?_))|exact LeO.none _|refine LeO.ite ?_ ?_|refine LeO.bind ?_ (fun _ => ?_)
theorem impl_MinsRange.mono : ∀ a0 a1 a2 a3 k, LeO (impl_MinsRange.f k a0 a1 a2 a3) (impl_MinsRange.f (k + 1) a0 a1 a2 a3) := by
 intro a0 a1 a2 a3 k
 have ih0 := impl_MinsRange.mono_l k
 unfold impl_MinsRange.f
 repeat' first|(with_reducible first|exact ih0 _ _ _ _|exact impl_Mins_read.mono _ _ _|exact slices_Min_int_int.mono _ _|exact LeO.refl _|exact LeO.none _|refine LeO.ite ?_ ?_|refine LeO.bind ?_ (fun _ => ?_))|exact LeO.none _|refine LeO.ite ?_ ?_|refine LeO.bind ?_ (fun _ => ?_)
set_option maxHeartbeats 8000000 in
set_option maxRecDepth 100000 in
theorem impl_MinsRange.calls (k : Nat) (a0_0 : Int) (A0_1 : Option Addr) (c0_1 : Nat) (l0_1 : List Int) (a1 : Int) (a2 : Int) (r : Int) (w : World) (hr0_1 : Kd.C (Kd.int .i64) w A0_1 l0_1.length l0_1) (hc0_1 : l0_1.length ≤ c0_1) (h : impl_MinsRange.f k a0_0 l0_1 a1 a2 = some r) :
  Calls Try.prog 26 #[.agg #[.int .i64 a0_0, .slice A0_1 l0_1.length c0_1], .int .i64 a1, .int .i64 a2] w fun e w' => e = .returned (.int .i64 r) ∧ Below w.heap.size w w' := by
 have hu24:=Try.underlying24
 have HR0_1:=mk0 hr0_1
 have HC0_1:=mk0 hc0_1
 clear hr0_1 hc0_1
 have HB:=mk0 (Below.refl w.heap.size w)
 have H:((impl_Mins_read.f k a0_0 l0_1).bind fun bt212=>(if bt212.2 = true then ((impl_isRange.f a1 a2 (bt212.1.length:Int)).bind fun t216=>(if t216 = true then (impl_MinsRange.j0 k a1 a2 bt212.1 (a1 == a2)) else (impl_MinsRange.j0 k a1 a2 bt212.1 true))) else (impl_MinsRange.j0 k a1 a2 bt212.1 true))) = some r:=h
 clear h
 replace H:=Option.bind_eq_some_iff.mp H
 obtain⟨⟨t212,t215⟩,A40,H⟩:=H
 replace H:(if t215 = true then ((impl_isRange.f a1 a2 (t212.length:Int)).bind fun t216=>(if t216 = true then (impl_MinsRange.j0 k a1 a2 t212 (a1 == a2)) else (impl_MinsRange.j0 k a1 a2 t212 true))) else (impl_MinsRange.j0 k a1 a2 t212 true)) = some r:=H
 have A4:=mk0 A40
 clear A40
 have HC5:=mk0 H
 clear H
 go_enter Try.func26,Try.ntmps26
 go_upto_region 2 with (first|((with_reducible refine gate_dst (N:=3) rfl ?_);(try (refine gate_guard (by rfl) ?_;dsimp only));refine box_event ?hg (N:=3) ?hd (cs:=#[.int .i64 a0_0,.slice A0_1 l0_1.length c0_1]) (t:=24) ?hr ?_;(case hd=>rfl);(case hg=>rfl);(case hr=>first|(go_simp;done)|(go_simp;rfl));intro gb211 hg w6 hbox hb;have n0_:=mk0 (below_step (by repeat (first|(with_reducible first|exact HB.out|apply aZ|apply nZ|apply dZ)|exact HB.out)) hb);have n1_:=mk0 (hbox);have n2_:=mk0 ((by rw [hg];exact (below_size (by repeat (first|(with_reducible first|exact HB.out|apply aZ|apply nZ|apply dZ)|exact HB.out))):w.heap.size ≤ gb211));have n3_:=mk0 ((by rw [hg];exact (below_size (by repeat (first|(with_reducible first|exact HB.out|apply aZ|apply nZ|apply dZ)|exact HB.out))):w.heap.size ≤ gb211));clear HB;have HB:=n0_;have BK211:=n1_;have GW211:=n2_;have GE211:=n3_;clear n0_ n1_ n2_ n3_ hb hbox hg;have hcz7_0:w6.cell? ⟨gb211,0,none⟩ = some (.int .i64 a0_0):=(blk_cell BK211.out 0).trans rfl;have hcz7_1:w6.cell? ⟨gb211,1,none⟩ = some (.slice A0_1 l0_1.length c0_1):=(blk_cell BK211.out 1).trans rfl;have hfz7_0:=blk_frozen BK211.out 0;have hfz7_1:=blk_frozen BK211.out 1)|((with_reducible refine gate_callee (f:=43) rfl ?_);refine goesL_ (some 11) rfl rfl Try.func43 (by kernel_rfl) rfl #[.agg #[.int .i64 a0_0,.slice A0_1 l0_1.length c0_1]] rfl (by (try simp only [mA,mC,mN]);first|done|rfl|(simp only [List.length_drop,List.length_take];rfl)) ?_;(with_reducible refine (impl_Mins_read.calls k a0_0 (fun k_=>k_ < w.heap.size) _ _ l0_1 t212 t215 _ ?side1 A4.out).mono ?_);(case side1=>exact Kd.V_mk HC0_1.out (Kd.F_below (Kd.C_F (Kd.heap_int .i64) HR0_1.out) (by repeat (first|(with_reducible first|exact HB.out|apply aZ|apply nZ|apply dZ|refine sZ ?_ GE211.out)|exact HB.out))));rintro e w8 ⟨v213,rfl,ho0,hb⟩;refine⟨_,rfl,?_⟩;have n0_:=mk0 (Kd.V_lower (Kd.V_mono (ok':=fun k_=>k_ ≠ gb211) ho0 (fun k_ hk_=>Or.elim hk_ (fun hs_=>fun e_=>Nat.not_le.2 hs_ (by rw [e_];exact GW211.out)) (fun hn_=>(Kd.freshB (g:=gb211) (o:=.cells #[.int .i64 a0_0,.slice A0_1 l0_1.length c0_1] 24 (0,0)) (by (with_reducible repeat (first|apply nB|apply dB|apply aB));exact BK211.out) k_ hn_)))) (below_size (by repeat (first|(with_reducible first|exact HB.out|apply aZ|apply nZ|apply dZ|refine sZ ?_ GE211.out)|exact HB.out))));have n1_:=mk0 (blk_below (g:=gb211) (o:=.cells #[.int .i64 a0_0,.slice A0_1 l0_1.length c0_1] 24 (0,0)) (by (with_reducible repeat (first|apply nB|apply dB|apply aB));exact BK211.out) hb);have n2_:=mk0 (below_step (by repeat (first|(with_reducible first|exact HB.out|apply aZ|apply nZ|apply dZ|refine sZ ?_ GE211.out)|exact HB.out)) hb);clear BK211 HB;have HO214:=n0_;have BK211:=n1_;have HB:=n2_;clear n0_ n1_ n2_;(try clear hb);(try clear hb2);(try clear hk);(try clear hi);(try clear ho0)))
 (try simp only [Act.put,sA,sO,sS])
 go_cut [28] (fun v28 wc=>∃ (kq:Nat) (x28_4:Bool),v28 = .bool x28_4 ∧ Aside0 (impl_MinsRange.j0 kq a1 a2 t212 x28_4 = some r) ∧ Aside0 (kq ≤ k) ∧ Aside0 (Kd.V (Kd.int .i64) 3 wc w.heap.size (fun k_=>k_ ≠ gb211) v213 t212) ∧ Aside0 (wc.heap[gb211]? = some (.cells #[.int .i64 a0_0,(.slice A0_1 l0_1.length c0_1)] 24 (0,0))) ∧ Aside0 (Below w.heap.size w wc))
 case first =>
  have H:=HC5.out
  clear HC5
  by_cases c9:t215 = true
  ·subst c9
   have H1:((impl_isRange.f a1 a2 (t212.length:Int)).bind fun t216=>(if t216 = true then (impl_MinsRange.j0 k a1 a2 t212 (a1 == a2)) else (impl_MinsRange.j0 k a1 a2 t212 true))) = some r:=by rw [if_pos rfl] at H;exact H
   clear H
   have H:=H1
   clear H1
   replace H:=Option.bind_eq_some_iff.mp H
   obtain⟨t216,A100,H⟩:=H
   replace H:(if t216 = true then (impl_MinsRange.j0 k a1 a2 t212 (a1 == a2)) else (impl_MinsRange.j0 k a1 a2 t212 true)) = some r:=H
   have A10:=mk0 A100
   clear A100
   by_cases c11:t216 = true
   ·subst c11
    have H1:(impl_MinsRange.j0 k a1 a2 t212 (a1 == a2)) = some r:=by rw [if_pos rfl] at H;exact H
    clear H
    have H:=H1
    clear H1
    have H':=mk0 H
    clear H
    obtain⟨Ao12,co12,eo12⟩:=Kd.V_slice HO214.out
    subst eo12
    go_wp2_with (first|(go_at_call 45;(with_reducible refine (impl_isRange.calls a1 a2 (t212.length:Int) true _ A10.out).mono ?_);rintro e w' ⟨rfl,⟨nd,rfl⟩⟩))
    go_meet
    case rel=>exact⟨_,((a1 == a2)),(by first|rfl|(simp;done)|(simp [*];done)),H',⟨by first|omega|exact Nat.le_refl _⟩,⟨by (with_reducible repeat (first|apply aV|apply nV|apply dV));exact HO214.out⟩,⟨by (with_reducible repeat (first|apply nB|apply dB|apply aB));exact BK211.out⟩,⟨by repeat (first|(with_reducible first|exact HB.out|apply aZ|apply nZ|apply dZ|refine sZ ?_ GE211.out)|exact HB.out)⟩⟩
   ·replace c11:=Bool.eq_false_iff.mpr c11
    subst c11
    have H1:(impl_MinsRange.j0 k a1 a2 t212 true) = some r:=by rw [if_neg (show ¬ (false = true) by decide)] at H;exact H
    clear H
    have H:=H1
    clear H1
    have H':=mk0 H
    clear H
    obtain⟨Ao13,co13,eo13⟩:=Kd.V_slice HO214.out
    subst eo13
    go_wp2_with (first|(go_at_call 45;(with_reducible refine (impl_isRange.calls a1 a2 (t212.length:Int) false _ A10.out).mono ?_);rintro e w' ⟨rfl,⟨nd,rfl⟩⟩))
    go_meet
    case rel=>exact⟨_,(true),(by first|rfl|(simp;done)|(simp [*];done)),H',⟨by first|omega|exact Nat.le_refl _⟩,⟨by (with_reducible repeat (first|apply aV|apply nV|apply dV));exact HO214.out⟩,⟨by (with_reducible repeat (first|apply nB|apply dB|apply aB));exact BK211.out⟩,⟨by repeat (first|(with_reducible first|exact HB.out|apply aZ|apply nZ|apply dZ|refine sZ ?_ GE211.out)|exact HB.out)⟩⟩
  ·replace c9:=Bool.eq_false_iff.mpr c9
   subst c9
   have H1:(impl_MinsRange.j0 k a1 a2 t212 true) = some r:=by rw [if_neg (show ¬ (false = true) by decide)] at H;exact H
   clear H
   have H:=H1
   clear H1
   have H':=mk0 H
   clear H
   go_wp2
   go_meet
   case rel=>exact⟨_,(true),(by first|rfl|(simp;done)|(simp [*];done)),H',⟨by first|omega|exact Nat.le_refl _⟩,⟨by (with_reducible repeat (first|apply aV|apply nV|apply dV));exact HO214.out⟩,⟨by (with_reducible repeat (first|apply nB|apply dB|apply aB));exact BK211.out⟩,⟨by repeat (first|(with_reducible first|exact HB.out|apply aZ|apply nZ|apply dZ|refine sZ ?_ GE211.out)|exact HB.out)⟩⟩
 case rest =>
  clear HC5
  try clear c1
  try clear c2
  try clear p2
  try clear c4
  try clear c9
  try clear c11
  try clear hcz7_0
  try clear hcz7_1
  try clear hfz7_0
  try clear hfz7_1
  obtain⟨kq,x28_4,rfl,HA,HJ4,HO_7,BK211,HB⟩:=hcut
  cases kq with
  | zero=>exact absurd HA.out (by simp [impl_MinsRange.j0])
  | succ kj4 =>
   have H:=HA.out
   clear HA
   simp only [impl_MinsRange.j0] at H
   by_cases c14:x28_4 = true
   ·subst c14
    have H1:(some (-1)) = some r:=by rw [if_pos rfl] at H;exact H
    clear H
    have H:=H1
    clear H1
    obtain rfl:=Option.some.inj H
    go_wp2
    go_ret
    exact⟨by first|rfl|(simp [errW_none,errW_some] <;> rfl)|(simp [*,errW_none,errW_some] <;> rfl),by repeat (first|(with_reducible first|exact HB.out|apply aZ|apply nZ|apply dZ|refine sZ ?_ GE211.out)|exact HB.out)⟩
   ·replace c14:=Bool.eq_false_iff.mpr c14
    subst c14
    have H1:(if 0 ≤ a1 then (if a1 ≤ a2 then (if a2 ≤ (t212.length:Int) then ((slices_Min_int_int.f kj4 ((t212.take (a2:Int).toNat).drop (a1:Int).toNat)).bind fun t222=>(some t222)) else (none)) else (none)) else (none)) = some r:=by rw [if_neg (show ¬ (false = true) by decide)] at H;exact H
    clear H
    have H:=H1
    clear H1
    by_cases c15:0 ≤ a1
    ·rw [if_pos c15] at H
     have c15b0:=eq_true c15
     have c15b1:decide (0 ≤ a1) = true:=decide_eq_true c15
     clear c15
     by_cases c16:a1 ≤ a2
     ·rw [if_pos c16] at H
      have c16b0:=eq_true c16
      have c16b1:decide (a1 ≤ a2) = true:=decide_eq_true c16
      clear c16
      by_cases c17:a2 ≤ (t212.length:Int)
      ·rw [if_pos c17] at H
       have c17b0:=eq_true c17
       have c17b1:decide (a2 ≤ (t212.length:Int)) = true:=decide_eq_true c17
       clear c17
       obtain⟨y217,hy217⟩:∃ y_:List Int,y_ = ((t212.take (a2:Int).toNat).drop (a1:Int).toNat):=⟨_,rfl⟩
       replace H:((slices_Min_int_int.f kj4 y217).bind fun t222=>(some t222)) = some r:=by first|(rw [hy217];with_reducible exact H)|(have H2_:=(Option.bind_some _ _).symm.trans H;rw [hy217];with_reducible exact H2_)|(have H2_:=(Option.bind_some _ _).symm.trans H;with_reducible exact H2_)|with_reducible exact H|(rw [hy217];exact H)|exact H
       have Ny217:=mk0 hy217
       clear hy217
       replace H:=Option.bind_eq_some_iff.mp H
       obtain⟨t222,A180,H⟩:=H
       replace H:(some t222) = some r:=H
       have A18:=mk0 A180
       clear A180
       obtain rfl:=Option.some.inj H
       obtain⟨Ao20,co20,eo20⟩:=Kd.V_slice HO_7.out
       subst eo20
       have q19:(a2:Int) ≤ ((t212.length:Int):Int):=of_decide_eq_true (by first|(with_reducible assumption)|assumption)
       obtain⟨i019,hi019,_,hsz19,_⟩:=info_parts info3
       have hroom19:t212.length ≤ co20:=(Kd.V_reads' HO_7.out).2.1
       have hC19:Kd.F (Kd.int .i64) _ _ Ao20 t212.length t212:=(Kd.V_at (base:=w.heap.size) HO_7.out).2.2
       have ql19:(a1:Int) ≤ (a2:Int):=of_decide_eq_true (by first|(with_reducible assumption)|assumption)
       have q019:(0:Int) ≤ (a1:Int):=of_decide_eq_true (by first|(with_reducible assumption)|assumption)
       have hcut19:=cut_mid (P:=Try.prog) 22 3 .i64 .i64 Try.underlying22 hi019 1 hsz19 Ao20 t212.length co20 a1 a2 q019 ql19 q19 hroom19
       have hr19:=Kd.F_mid (lo:=(a1:Int).toNat) (hi:=(a2:Int).toNat) (c:=co20) hC19 (by omega) (by omega) hroom19
       obtain⟨A19,hA19⟩:∃ A1,A1 = (if co20 = (a1:Int).toNat then Ao20 else (Ao20:Option Addr).map (·.add ((a1:Int).toNat * 1))):=⟨_,rfl⟩
       obtain⟨c19,hc19⟩:∃ c1,c1 = co20 - (a1:Int).toNat:=⟨_,rfl⟩
       have hy19:y217.length = (a2:Int).toNat - (a1:Int).toNat:=(by rw [Ny217.out,List.length_drop,List.length_take] <;> omega)
       rw [show ((t212).take (a2:Int).toNat).drop (a1:Int).toNat = y217 from Ny217.out.symm] at hr19
       replace hr19:Kd.F (Kd.int .i64) _ _ A19 y217.length y217:=(by rw [hA19];exact hr19)
       rw [← hy19, ← hA19, ← hc19] at hcut19
       have HO221:=mk0 (show Kd.V (Kd.int .i64) 3 _ w.heap.size _ (.slice A19 y217.length c19) y217 from Kd.V_mk (by rw [hy19,hc19];exact Nat.sub_le_sub_right (Nat.le_trans (by omega) hroom19) _) hr19)
       have HC221:=mk0 (show y217.length ≤ c19 from by rw [hy19,hc19];exact Nat.sub_le_sub_right (Nat.le_trans (by omega) hroom19) _)
       clear hr19 hC19 hroom19 hi019 hsz19 hc19
       have KY19:=mk0 hy19
       have KA19:=mk0 hA19
       clear hy19 hA19
       replace q19:=eq_true q19
       go_wp2_with (first|((with_reducible refine gate_callee (f:=46) rfl ?_);refine goesL_ (some 33) rfl rfl Try.func46 (by kernel_rfl) rfl #[.slice A19 y217.length c19] rfl (by (try simp only [mA,mC,mN]);first|done|rfl|(simp only [List.length_drop,List.length_take];rfl)) ?_;(with_reducible refine (slices_Min_int_int.calls kj4 _ _ y217 t222 _ ?side1 ?side2 A18.out).mono ?_);(case side1=>repeat (first|exact (Kd.V_reads' HO221.out).2.2|(with_reducible first|apply aC|apply nC|apply dC)));(case side2=>exact (Kd.V_reads' HO221.out).2.1);rintro e w21 ⟨rfl,hb⟩;refine⟨_,rfl,?_⟩;have n0_:=mk0 (Kd.V_below (by (with_reducible repeat (first|apply aV|apply nV|apply dV));exact HO_7.out) hb);have n1_:=mk0 (Kd.V_below (by (with_reducible repeat (first|apply aV|apply nV|apply dV));exact HO221.out) hb);have n2_:=mk0 (blk_below (g:=gb211) (o:=.cells #[.int .i64 a0_0,.slice A0_1 l0_1.length c0_1] 24 (0,0)) (by (with_reducible repeat (first|apply nB|apply dB|apply aB));exact BK211.out) hb);have n3_:=mk0 (below_step (by repeat (first|(with_reducible first|exact HB.out|apply aZ|apply nZ|apply dZ|refine sZ ?_ GE211.out)|exact HB.out)) hb);clear HO_7 HO221 BK211 HB;have HO_7:=n0_;have HO221:=n1_;have BK211:=n2_;have HB:=n3_;clear n0_ n1_ n2_ n3_;(try clear hb);(try clear hb2);(try clear hk);(try clear hi)))
       go_ret
       exact⟨by first|rfl|(simp [errW_none,errW_some] <;> rfl)|(simp [*,errW_none,errW_some] <;> rfl),by repeat (first|(with_reducible first|exact HB.out|apply aZ|apply nZ|apply dZ|refine sZ ?_ GE211.out)|exact HB.out)⟩
      ·rw [if_neg c17] at H
       exact absurd H (by simp)
     ·rw [if_neg c16] at H
      exact absurd H (by simp)
    ·rw [if_neg c15] at H
     exact absurd H (by simp)


/-! ### slices_Clone_int_int: function 47 (by hand) -/
def slices_Clone_int_int.f (l0 : List Int) : Option (List Int) := if l0.length < 17592186044416 then some l0 else none
theorem slices_Clone_int_int.info : (Try.prog.info? 3).map (fun i => (i.zero, i.size, i.bytes)) = some (some (.int .i64 0), 1, 8) := by kernel_rfl
set_option maxHeartbeats 8000000 in
set_option maxRecDepth 100000 in
theorem slices_Clone_int_int.calls (A0 : Option Addr) (c0 : Nat) (l0 : List Int) (r : List Int) (w : World) (hr0 : Kd.C (Kd.int .i64) w A0 l0.length l0) (hc0 : l0.length ≤ c0) (h : slices_Clone_int_int.f l0 = some r) :
    Calls Try.prog 47 #[.slice A0 l0.length c0] w fun e w' => ∃ v0_ : Value, e = .returned (v0_) ∧ Kd.R (Kd.int .i64) 3 w' w.heap.size (fun _ => True) v0_ r ∧ Below w.heap.size w w' := by
  unfold slices_Clone_int_int.f at h
  by_cases hm : l0.length < 17592186044416
  · rw [if_pos hm] at h
    obtain rfl := Option.some.inj h
    clear h
    have HB := Aside0.mk (Below.refl w.heap.size w)
    cases A0 with
    | none =>
      have hl : l0 = [] := by
        rcases Nat.eq_zero_or_pos l0.length with h0 | h0
        · exact List.length_eq_zero_iff.1 h0
        · obtain ⟨ad, e, _⟩ := hr0.2.2 h0
          cases e
      subst hl
      clear hr0 hc0 hm
      have he_ : ∀ w_ : World, (binOp .eql 22 (.slice none 0 c0) (.slice none 0 0)).run Try.prog w_ = .ok (.bool true) w_ := fun w_ => _root_.Go.Lib.run_eql_slice_nil w_ 22 3 none 0 c0 0 0 Try.underlying22
      go_enter Try.func47, Try.ntmps47
      go_wp2
      go_ret
      exact ⟨_, by first | rfl | (simp; done), Kd.R_nil _ _ _ _ _, HB.out⟩
    | some ad =>
      have HR0 := Aside0.mk hr0
      have HC0 := Aside0.mk hc0
      have LM := Aside0.mk hm
      clear hr0 hc0 hm
      have he_ : ∀ w_ : World, (binOp .eql 22 (.slice (some ad) l0.length c0) (.slice none 0 0)).run Try.prog w_ = .ok (.bool false) w_ := fun w_ => _root_.Go.Lib.run_eql_slice_nil w_ 22 3 (some ad) l0.length c0 0 0 Try.underlying22
      go_enter Try.func47, Try.ntmps47
      go_wp2_with (first | ((with_reducible refine gate_dst (N := 5) rfl ?_); refine Kd.R_lit (Kd.int .i64) _ 3 ?hg (N := 5) ?hd (xs := ([] : List Int)) (inner := []) (ok := fun _ => True) (okp := fun _ => True) ?hr ?hp (fun _ hk => hk) trivial (Below.refl _ _) (Nat.le_refl _) (by simp) ?_; (case hd => rfl); (case hg => rfl); (case hr => first | (go_simp; done) | (go_simp; rfl)); (case hp => exact (Reps.none _ _)); intro v138 w18 ho19 hb hg_ hnew_; clear hg_ hnew_; have n0_ := Aside0.mk (Kd.R_lower ho19 (below_size (by repeat (first | (with_reducible first | exact HB.out | apply below_alloc | apply pw_below_drewN | apply below_drew1) | exact HB.out)))); have n2_ := Aside0.mk (below_step (by repeat (first | (with_reducible first | exact HB.out | apply below_alloc | apply pw_below_drewN | apply below_drew1) | exact HB.out)) hb); clear HB; have HO139 := n0_; have HB := n2_; clear n0_ n2_; clear hb ho19) | ((with_reducible refine gate_builtin (b := .append) (xs := #[.tmp 5, .tmp 6]) rfl ?_); at_builtin; refine Kd.R_append_rows (Kd.int .i64) (w0 := w) w.heap.size rfl (.tmp 5) (.tmp 6) 22 3 (.int .i64 0) 8 rfl Try.underlying22 slices_Clone_int_int.info rfl (by decide) (by omega) v138 ([] : List Int) l0 _ _ _ (fun _ => True) (fun _ => False) rfl rfl ?aO ?aR (fun _ _ h => h) (fun _ h => h.elim) ?aF ?aB ?aS ?aL ?_; (case aR => repeat (first | exact (Kd.C_below HR0.out HB.out) | (with_reducible refine Kd.C_alloc ?_ _) | (with_reducible refine Kd.C_drewN ?_ _) | (with_reducible refine Kd.C_drew ?_))); (case aB => exact (by repeat (first | (with_reducible first | exact HB.out | apply below_alloc | apply pw_below_drewN | apply below_drew1) | exact HB.out))); (case aF => exact (fun _ _ => trivial)); (case aO => exact (by (with_reducible repeat (first | apply Kd.R_alloc | apply Kd.R_drewN | apply Kd.R_drew)); exact HO139.out)); (case aS => exact (below_size (by repeat (first | (with_reducible first | exact HB.out | apply below_alloc | apply pw_below_drewN | apply below_drew1) | exact HB.out)))); (case aL => have := LM.out; simp only [List.length_nil, Nat.zero_add]; omega); intro v142 w22 ho hb hg hat; rw [List.nil_append] at ho; have n1_ := Aside0.mk (hb); have n2_ := Aside0.mk (ho); clear HB; clear HO139; have HB := n1_; have HO143 := n2_; clear n1_ n2_; clear ho hb hg hat))
      go_ret
      exact ⟨_, by first | rfl | (simp; done), by (with_reducible repeat (first | apply Kd.R_alloc | apply Kd.R_drewN | apply Kd.R_drew)); exact HO143.out, by repeat (first | (with_reducible first | exact HB.out | apply below_alloc | apply pw_below_drewN | apply below_drew1) | exact HB.out)⟩
  · rw [if_neg hm] at h
    exact absurd h (by simp)

/-! ### impl_MinsList: function 28 -/
def impl_MinsList.f (k : Nat) (a0_0 : Int) (l0_1 : List Int) : Option (List Int) := (impl_Mins_read.f k a0_0 l0_1).bind fun bt224 => (if bt224.2 = true then ((slices_Clone_int_int.f bt224.1).bind fun t228 => (some t228)) else (some ([] : List Int)))
theorem impl_MinsList.mono : ∀ a0 a1 k, LeO (impl_MinsList.f k a0 a1) (impl_MinsList.f (k + 1) a0 a1) := by
 intro a0 a1 k
 unfold impl_MinsList.f
 repeat' first|(with_reducible first|exact impl_Mins_read.mono _ _ _|exact LeO.refl _|exact LeO.none _|refine LeO.ite ?_ ?_|refine LeO.bind ?_ (fun _ => ?_))|exact LeO.none _|refine LeO.ite ?_ ?_|refine LeO.bind ?_ (fun _ => ?_)
set_option maxHeartbeats 8000000 in
set_option maxRecDepth 100000 in
theorem impl_MinsList.calls (k : Nat) (a0_0 : Int) (A0_1 : Option Addr) (c0_1 : Nat) (l0_1 : List Int) (r : List Int) (w : World) (hr0_1 : Kd.C (Kd.int .i64) w A0_1 l0_1.length l0_1) (hc0_1 : l0_1.length ≤ c0_1) (h : impl_MinsList.f k a0_0 l0_1 = some r) :
  Calls Try.prog 28 #[.agg #[.int .i64 a0_0, .slice A0_1 l0_1.length c0_1]] w fun e w' => ∃ v0_ : Value, e = .returned (v0_) ∧ Kd.R (Kd.int .i64) 3 w' w.heap.size (fun _ => True) v0_ r ∧ Below w.heap.size w w' := by
 have hu24:=Try.underlying24
 have HR0_1:=mk0 hr0_1
 have HC0_1:=mk0 hc0_1
 clear hr0_1 hc0_1
 have HB:=mk0 (Below.refl w.heap.size w)
 have H:((impl_Mins_read.f k a0_0 l0_1).bind fun bt224=>(if bt224.2 = true then ((slices_Clone_int_int.f bt224.1).bind fun t228=>(some t228)) else (some ([]:List Int)))) = some r:=h
 clear h
 replace H:=Option.bind_eq_some_iff.mp H
 obtain⟨⟨t224,t227⟩,A20,H⟩:=H
 replace H:(if t227 = true then ((slices_Clone_int_int.f t224).bind fun t228=>(some t228)) else (some ([]:List Int))) = some r:=H
 have A2:=mk0 A20
 clear A20
 by_cases c3:t227 = true
 ·subst c3
  have H1:((slices_Clone_int_int.f t224).bind fun t228=>(some t228)) = some r:=by rw [if_pos rfl] at H;exact H
  clear H
  have H:=H1
  clear H1
  replace H:=Option.bind_eq_some_iff.mp H
  obtain⟨t228,A40,H⟩:=H
  replace H:(some t228) = some r:=H
  have A4:=mk0 A40
  clear A40
  obtain rfl:=Option.some.inj H
  go_enter Try.func28,Try.ntmps28
  go_wp2_with (first|((with_reducible refine gate_dst (N:=1) rfl ?_);refine box_event ?hg (N:=1) ?hd (cs:=#[.int .i64 a0_0,.slice A0_1 l0_1.length c0_1]) (t:=24) ?hr ?_;(case hd=>rfl);(case hg=>rfl);(case hr=>first|(go_simp;done)|(go_simp;rfl));intro gb223 hg w5 hbox hb;have n0_:=mk0 (below_step (by repeat (first|(with_reducible first|exact HB.out|apply aZ|apply nZ|apply dZ)|exact HB.out)) hb);have n1_:=mk0 (hbox);have n2_:=mk0 ((by rw [hg];exact (below_size (by repeat (first|(with_reducible first|exact HB.out|apply aZ|apply nZ|apply dZ)|exact HB.out))):w.heap.size ≤ gb223));have n3_:=mk0 ((by rw [hg];exact (below_size (by repeat (first|(with_reducible first|exact HB.out|apply aZ|apply nZ|apply dZ)|exact HB.out))):w.heap.size ≤ gb223));clear HB;have HB:=n0_;have BK223:=n1_;have GW223:=n2_;have GE223:=n3_;clear n0_ n1_ n2_ n3_ hb hbox hg;have hcz6_0:w5.cell? ⟨gb223,0,none⟩ = some (.int .i64 a0_0):=(blk_cell BK223.out 0).trans rfl;have hcz6_1:w5.cell? ⟨gb223,1,none⟩ = some (.slice A0_1 l0_1.length c0_1):=(blk_cell BK223.out 1).trans rfl;have hfz6_0:=blk_frozen BK223.out 0;have hfz6_1:=blk_frozen BK223.out 1)|((with_reducible refine gate_callee (f:=43) rfl ?_);refine goesL_ (some 7) rfl rfl Try.func43 (by kernel_rfl) rfl #[.agg #[.int .i64 a0_0,.slice A0_1 l0_1.length c0_1]] rfl (by (try simp only [mA,mC,mN]);first|done|rfl|(simp only [List.length_drop,List.length_take];rfl)) ?_;(with_reducible refine (impl_Mins_read.calls k a0_0 (fun k_=>k_ < w.heap.size) _ _ l0_1 t224 true _ ?side1 A2.out).mono ?_);(case side1=>exact Kd.V_mk HC0_1.out (Kd.F_below (Kd.C_F (Kd.heap_int .i64) HR0_1.out) (by repeat (first|(with_reducible first|exact HB.out|apply aZ|apply nZ|apply dZ|refine sZ ?_ GE223.out)|exact HB.out))));rintro e w7 ⟨v225,rfl,ho0,hb⟩;refine⟨_,rfl,?_⟩;have n0_:=mk0 (Kd.V_lower (Kd.V_mono (ok':=fun k_=>k_ ≠ gb223) ho0 (fun k_ hk_=>Or.elim hk_ (fun hs_=>fun e_=>Nat.not_le.2 hs_ (by rw [e_];exact GW223.out)) (fun hn_=>(Kd.freshB (g:=gb223) (o:=.cells #[.int .i64 a0_0,.slice A0_1 l0_1.length c0_1] 24 (0,0)) (by (with_reducible repeat (first|apply nB|apply dB|apply aB));exact BK223.out) k_ hn_)))) (below_size (by repeat (first|(with_reducible first|exact HB.out|apply aZ|apply nZ|apply dZ|refine sZ ?_ GE223.out)|exact HB.out))));have n1_:=mk0 (blk_below (g:=gb223) (o:=.cells #[.int .i64 a0_0,.slice A0_1 l0_1.length c0_1] 24 (0,0)) (by (with_reducible repeat (first|apply nB|apply dB|apply aB));exact BK223.out) hb);have n2_:=mk0 (below_step (by repeat (first|(with_reducible first|exact HB.out|apply aZ|apply nZ|apply dZ|refine sZ ?_ GE223.out)|exact HB.out)) hb);clear BK223 HB;have HO226:=n0_;have BK223:=n1_;have HB:=n2_;clear n0_ n1_ n2_;(try clear hb);(try clear hb2);(try clear hk);(try clear hi);(try clear ho0);obtain⟨Ao8,co8,eo8⟩:=Kd.V_slice HO226.out;subst eo8)|((with_reducible refine gate_callee (f:=47) rfl ?_);refine goesL_ (some 13) rfl rfl Try.func47 (by kernel_rfl) rfl #[.slice Ao8 t224.length co8] rfl (by (try simp only [mA,mC,mN]);first|done|rfl|(simp only [List.length_drop,List.length_take];rfl)) ?_;(with_reducible refine (slices_Clone_int_int.calls _ _ t224 t228 _ ?side1 ?side2 A4.out).mono ?_);(case side1=>repeat (first|exact (Kd.V_reads' HO226.out).2.2|(with_reducible first|apply aC|apply nC|apply dC)));(case side2=>exact (Kd.V_reads' HO226.out).2.1);rintro e w9 ⟨v229,rfl,ho0,hb⟩;refine⟨_,rfl,?_⟩;have n0_:=mk0 (Kd.V_elder' (by (with_reducible repeat (first|apply aV|apply nV|apply dV));exact HO226.out) (Kd.R_base ho0) hb);have n1_:=mk0 (Kd.R_lower ho0 (below_size (by repeat (first|(with_reducible first|exact HB.out|apply aZ|apply nZ|apply dZ|refine sZ ?_ GE223.out)|exact HB.out))));have n2_:=mk0 (blk_below (g:=gb223) (o:=.cells #[.int .i64 a0_0,.slice A0_1 l0_1.length c0_1] 24 (0,0)) (by (with_reducible repeat (first|apply nB|apply dB|apply aB));exact BK223.out) hb);have n3_:=mk0 (below_step (by repeat (first|(with_reducible first|exact HB.out|apply aZ|apply nZ|apply dZ|refine sZ ?_ GE223.out)|exact HB.out)) hb);clear HO226 BK223 HB;have HO226:=n0_;have HO230:=n1_;have BK223:=n2_;have HB:=n3_;clear n0_ n1_ n2_ n3_;(try clear hb);(try clear hb2);(try clear hk);(try clear hi);(try clear ho0)))
  go_ret
  exact⟨_,by first|rfl|(simp [errW_none,errW_some] <;> rfl)|(simp [*,errW_none,errW_some] <;> rfl),by (with_reducible repeat (first|apply aR|apply nR|apply dR));exact HO230.out,by repeat (first|(with_reducible first|exact HB.out|apply aZ|apply nZ|apply dZ|refine sZ ?_ GE223.out)|exact HB.out)⟩
 ·replace c3:=Bool.eq_false_iff.mpr c3
  subst c3
  have H1:(some ([]:List Int)) = some r:=by rw [if_neg (show ¬ (false = true) by decide)] at H;exact H
  clear H
  have H:=H1
  clear H1
  obtain rfl:=Option.some.inj H
  go_enter Try.func28,Try.ntmps28
  go_wp2_with (first|((with_reducible refine gate_dst (N:=1) rfl ?_);refine box_event ?hg (N:=1) ?hd (cs:=#[.int .i64 a0_0,.slice A0_1 l0_1.length c0_1]) (t:=24) ?hr ?_;(case hd=>rfl);(case hg=>rfl);(case hr=>first|(go_simp;done)|(go_simp;rfl));intro gb223 hg w10 hbox hb;have n0_:=mk0 (below_step (by repeat (first|(with_reducible first|exact HB.out|apply aZ|apply nZ|apply dZ)|exact HB.out)) hb);have n1_:=mk0 (hbox);have n2_:=mk0 ((by rw [hg];exact (below_size (by repeat (first|(with_reducible first|exact HB.out|apply aZ|apply nZ|apply dZ)|exact HB.out))):w.heap.size ≤ gb223));have n3_:=mk0 ((by rw [hg];exact (below_size (by repeat (first|(with_reducible first|exact HB.out|apply aZ|apply nZ|apply dZ)|exact HB.out))):w.heap.size ≤ gb223));clear HB;have HB:=n0_;have BK223:=n1_;have GW223:=n2_;have GE223:=n3_;clear n0_ n1_ n2_ n3_ hb hbox hg;have hcz11_0:w10.cell? ⟨gb223,0,none⟩ = some (.int .i64 a0_0):=(blk_cell BK223.out 0).trans rfl;have hcz11_1:w10.cell? ⟨gb223,1,none⟩ = some (.slice A0_1 l0_1.length c0_1):=(blk_cell BK223.out 1).trans rfl;have hfz11_0:=blk_frozen BK223.out 0;have hfz11_1:=blk_frozen BK223.out 1)|((with_reducible refine gate_callee (f:=43) rfl ?_);refine goesL_ (some 7) rfl rfl Try.func43 (by kernel_rfl) rfl #[.agg #[.int .i64 a0_0,.slice A0_1 l0_1.length c0_1]] rfl (by (try simp only [mA,mC,mN]);first|done|rfl|(simp only [List.length_drop,List.length_take];rfl)) ?_;(with_reducible refine (impl_Mins_read.calls k a0_0 (fun k_=>k_ < w.heap.size) _ _ l0_1 t224 false _ ?side1 A2.out).mono ?_);(case side1=>exact Kd.V_mk HC0_1.out (Kd.F_below (Kd.C_F (Kd.heap_int .i64) HR0_1.out) (by repeat (first|(with_reducible first|exact HB.out|apply aZ|apply nZ|apply dZ|refine sZ ?_ GE223.out)|exact HB.out))));rintro e w12 ⟨v225,rfl,ho0,hb⟩;refine⟨_,rfl,?_⟩;have n0_:=mk0 (Kd.V_lower (Kd.V_mono (ok':=fun k_=>k_ ≠ gb223) ho0 (fun k_ hk_=>Or.elim hk_ (fun hs_=>fun e_=>Nat.not_le.2 hs_ (by rw [e_];exact GW223.out)) (fun hn_=>(Kd.freshB (g:=gb223) (o:=.cells #[.int .i64 a0_0,.slice A0_1 l0_1.length c0_1] 24 (0,0)) (by (with_reducible repeat (first|apply nB|apply dB|apply aB));exact BK223.out) k_ hn_)))) (below_size (by repeat (first|(with_reducible first|exact HB.out|apply aZ|apply nZ|apply dZ|refine sZ ?_ GE223.out)|exact HB.out))));have n1_:=mk0 (blk_below (g:=gb223) (o:=.cells #[.int .i64 a0_0,.slice A0_1 l0_1.length c0_1] 24 (0,0)) (by (with_reducible repeat (first|apply nB|apply dB|apply aB));exact BK223.out) hb);have n2_:=mk0 (below_step (by repeat (first|(with_reducible first|exact HB.out|apply aZ|apply nZ|apply dZ|refine sZ ?_ GE223.out)|exact HB.out)) hb);clear BK223 HB;have HO226:=n0_;have BK223:=n1_;have HB:=n2_;clear n0_ n1_ n2_;(try clear hb);(try clear hb2);(try clear hk);(try clear hi);(try clear ho0)))
  go_ret
  exact⟨_,by first|rfl|(simp [errW_none,errW_some] <;> rfl)|(simp [*,errW_none,errW_some] <;> rfl),by first|exact Kd.R_nil _ _ _ _ _|exact Kd.N_nil _ _ _ _ _|exact Kd.V_nil _ _ _ _ _|exact Kd.Q_nil _ _ _ _ _|exact Kd.S_nil _ _ _ _ _,by repeat (first|(with_reducible first|exact HB.out|apply aZ|apply nZ|apply dZ|refine sZ ?_ GE223.out)|exact HB.out)⟩

/-! ### laws_big: function 32 -/
def laws_big.f (l0 : List Int) : Option (Bool) := some (decide ((l0.length : Int) > 1048576))
set_option maxHeartbeats 8000000 in
set_option maxRecDepth 100000 in
theorem laws_big.calls (A0 : Option Addr) (c0 : Nat) (l0 : List Int) (r : Bool) (w : World) (hr0 : Kd.C (Kd.int .u8) w A0 l0.length l0) (hc0 : l0.length ≤ c0) (h : laws_big.f l0 = some r) :
  Calls Try.prog 32 #[.slice A0 l0.length c0] w fun e w' => e = .returned (.bool r) ∧ Drawn0 w w' := by
 have HR0:=mk0 hr0
 have HC0:=mk0 hc0
 clear hr0 hc0
 have H:(some (decide ((l0.length:Int) > 1048576))) = some r:=h
 clear h
 obtain rfl:=Option.some.inj H
 go_enter Try.func32,Try.ntmps32
 go_wp2
 go_ret
 exact⟨by first|rfl|(simp;done)|(simp [*];done),by repeat (first|exact Drawn0.refl _|apply Drawn0.step)⟩

/-- A state of type 62 at block g of W; what its slices lead to came in by w0. -/
def IsS62 (w0 W : World) (g : Nat) (f0 : List Int) (f1 : Int) (f2 : Int) : Prop := ∃ A0 c0, W.heap[g]? = some (.cells #[.slice A0 f0.length c0, .int .i64 f1, .int .i64 f2] 62 (0, 0)) ∧ w0.heap.size ≤ g ∧ Kd.C (Kd.int .u8) w0 A0 f0.length f0
theorem IsS62.grown {w0 W : World} {g : Nat} {f0 : List Int} {f1 : Int} {f2 : Int} {W1 : World} {row : Option Nat} (h : IsS62 w0 W g f0 f1 f2) (hw : W.grownBy W1 row) (hne : some g ≠ row) : IsS62 w0 W1 g f0 f1 f2 := by
 obtain ⟨A0, c0, hb, hg, hr0⟩ := h
 exact ⟨A0, c0, blk_grown hb hw hne, hg, hr0⟩
theorem IsS62.own_neN {w0 W : World} {g : Nat} {f0 : List Int} {f1 : Int} {f2 : Int} {α : Type} {d : Kd α} {e : Nat} {base : Nat} {ok : Nat → Prop} {v : Value} {xs : List α} (h : IsS62 w0 W g f0 f1 f2) (ho : Kd.N d e W base ok v xs) (ht : e ≠ 62) : some g ≠ v.ownBlock := by
 obtain ⟨A0, c0, hb, hg, hr0⟩ := h
 exact Kd.N_ne ho hb ht
theorem IsS62.fresh {w0 W : World} {g : Nat} {f0 : List Int} {f1 : Int} {f2 : Int} (h : IsS62 w0 W g f0 f1 f2) : ∀ k, W.heap.size ≤ k → k ≠ g := by
 obtain ⟨A0, c0, hb, hg, hr0⟩ := h
 exact Kd.freshB hb
theorem IsS62.kept {w0 W : World} {g : Nat} {f0 : List Int} {f1 : Int} {f2 : Int} {W1 : World} {S : Nat → Prop} (h : IsS62 w0 W g f0 f1 f2) (hk : Kept W W1 S) (hne : ¬ S g) : IsS62 w0 W1 g f0 f1 f2 := by
 obtain ⟨A0, c0, hb, hg, hr0⟩ := h
 exact ⟨A0, c0, blk_kept hb hk hne, hg, hr0⟩
theorem IsS62.below {w0 W : World} {g : Nat} {f0 : List Int} {f1 : Int} {f2 : Int} {W1 : World} (h : IsS62 w0 W g f0 f1 f2) (hw : Below W.heap.size W W1) : IsS62 w0 W1 g f0 f1 f2 := h.grown (grown_of_below hw none) (by simp)
theorem IsS62.alloc {w0 W : World} {g : Nat} {f0 : List Int} {f1 : Int} {f2 : Int} (h : IsS62 w0 W g f0 f1 f2) (o : Obj) : IsS62 w0 (W.alloc o) g f0 f1 f2 := h.below (below_alloc (Below.refl _ _) o)
theorem IsS62.drewN {w0 W : World} {g : Nat} {f0 : List Int} {f1 : Int} {f2 : Int} (h : IsS62 w0 W g f0 f1 f2) (m : Nat) : IsS62 w0 (W.drewN m) g f0 f1 f2 := h
theorem IsS62.drew {w0 W : World} {g : Nat} {f0 : List Int} {f1 : Int} {f2 : Int} (h : IsS62 w0 W g f0 f1 f2) : IsS62 w0 W.drew g f0 f1 f2 := h
theorem IsS62.at_ {w0 W : World} {g : Nat} {f0 : List Int} {f1 : Int} {f2 : Int} {w' : World} {m : Nat} (hq : W.drewN m = w') (h : IsS62 w0 W g f0 f1 f2) : IsS62 w0 w' g f0 f1 f2 := by subst hq; exact IsS62.drewN h m
theorem IsS62.apart {w0 W : World} {g : Nat} {f0 : List Int} {f1 : Int} {f2 : Int} {α : Type} {d : Kd α} {e : Nat} {base : Nat} {ok : Nat → Prop} {v : Value} {xs : List α} (h : IsS62 w0 W g f0 f1 f2) (ho : d.R e W base ok v xs) (ht : ∀ q, q ∈ e :: d.E → q ≠ 62) : d.R e W base (fun k => ok k ∧ k ≠ g) v xs := by
 obtain ⟨A0, c0, hb, hg, hr0⟩ := h
 exact Kd.R_types ho hb ht
theorem IsS62.own_ne {w0 W : World} {g : Nat} {f0 : List Int} {f1 : Int} {f2 : Int} {α : Type} {d : Kd α} {e : Nat} {base : Nat} {ok : Nat → Prop} {v : Value} {xs : List α} (h : IsS62 w0 W g f0 f1 f2) (ho : d.R e W base ok v xs) (ht : e ≠ 62) : some g ≠ v.ownBlock := by
 obtain ⟨A0, c0, hb, hg, hr0⟩ := h
 exact Kd.R_ne ho hb ht
theorem IsS62.apartQ {w0 W : World} {g : Nat} {f0 : List Int} {f1 : Int} {f2 : Int} {α : Type} {d : Kd α} {e : Nat} {base : Nat} {ok : Nat → Prop} {v : Value} {xs : List α} (h : IsS62 w0 W g f0 f1 f2) (ho : d.Q e W base ok v xs) (ht : ∀ q, q ∈ e :: d.E → q ≠ 62) : d.Q e W base (fun k => ok k ∧ k ≠ g) v xs := by
 obtain ⟨A0, c0, hb, hg, hr0⟩ := h
 exact Kd.Q_types ho hb ht
theorem IsS62.own_neQ {w0 W : World} {g : Nat} {f0 : List Int} {f1 : Int} {f2 : Int} {α : Type} {d : Kd α} {e : Nat} {base : Nat} {ok : Nat → Prop} {v : Value} {xs : List α} (h : IsS62 w0 W g f0 f1 f2) (ho : d.Q e W base ok v xs) (ht : e ≠ 62) : some g ≠ v.ownBlock := by
 obtain ⟨A0, c0, hb, hg, hr0⟩ := h
 exact Kd.Q_ne ho hb ht
theorem IsS62.apartS {w0 W : World} {g : Nat} {f0 : List Int} {f1 : Int} {f2 : Int} {α : Type} {d : Kd α} {e : Nat} {base : Nat} {ok : Nat → Prop} {v : Value} {xs : List α} (h : IsS62 w0 W g f0 f1 f2) (ho : d.S e W base ok v xs) (ht : ∀ q, q ∈ e :: d.E → q ≠ 62) : d.S e W base (fun k => ok k ∧ k ≠ g) v xs := by
 obtain ⟨A0, c0, hb, hg, hr0⟩ := h
 exact Kd.S_types ho hb ht
theorem IsS62.own_neS {w0 W : World} {g : Nat} {f0 : List Int} {f1 : Int} {f2 : Int} {α : Type} {d : Kd α} {e : Nat} {base : Nat} {ok : Nat → Prop} {v : Value} {xs : List α} (h : IsS62 w0 W g f0 f1 f2) (ho : d.S e W base ok v xs) (ht : e ≠ 62) : some g ≠ v.ownBlock := by
 obtain ⟨A0, c0, hb, hg, hr0⟩ := h
 exact Kd.S_ne ho hb ht
theorem IsS62.lt {w0 W : World} {g : Nat} {f0 : List Int} {f1 : Int} {f2 : Int} (h : IsS62 w0 W g f0 f1 f2) : g < W.heap.size := by
 obtain ⟨A0, c0, hb, hg, hr0⟩ := h
 exact blk_lt hb
theorem IsS62.ge {w0 W : World} {g : Nat} {f0 : List Int} {f1 : Int} {f2 : Int} (h : IsS62 w0 W g f0 f1 f2) : w0.heap.size ≤ g := by
 obtain ⟨A0, c0, hb, hg, hr0⟩ := h
 exact hg
theorem IsS62.ne_blk {w0 W : World} {g : Nat} {f0 : List Int} {f1 : Int} {f2 : Int} {a : Nat} {cs : Array Value} {t : TypeId} {fr : Nat × Nat} (h : IsS62 w0 W g f0 f1 f2) (hb2 : W.heap[a]? = some (.cells cs t fr)) (ht : t ≠ 62) : g ≠ a := by
 obtain ⟨A0, c0, hb, hg, hr0⟩ := h
 rintro rfl
 rw [hb] at hb2
 injection hb2 with hb2
 injection hb2 with _ ht2
 exact ht ht2.symm
theorem IsS62.far {w0 W : World} {g : Nat} {f0 : List Int} {f1 : Int} {f2 : Int} {p : Addr} (h : IsS62 w0 W g f0 f1 f2) (hne : g ≠ p.block) (u : Value) : IsS62 w0 (W.setCell p u) g f0 f1 f2 := by
 obtain ⟨A0, c0, hb, hg, hr0⟩ := h
 exact ⟨A0, c0, blk_far hb hne u, hg, hr0⟩
theorem cellS62_0 {W : World} {g : Nat} {A0 : Option Addr} {c0 : Nat} {f0 : List Int} {f1 : Int} {f2 : Int} (h : W.heap[g]? = some (.cells #[.slice A0 f0.length c0, .int .i64 f1, .int .i64 f2] 62 (0, 0))) : W.cell? ⟨g, 0, none⟩ = some (.slice A0 f0.length c0) := (blk_cell h 0).trans rfl
theorem cellS62_1 {W : World} {g : Nat} {A0 : Option Addr} {c0 : Nat} {f0 : List Int} {f1 : Int} {f2 : Int} (h : W.heap[g]? = some (.cells #[.slice A0 f0.length c0, .int .i64 f1, .int .i64 f2] 62 (0, 0))) : W.cell? ⟨g, 1, none⟩ = some (.int .i64 f1) := (blk_cell h 1).trans rfl
theorem IsS62.set_1 {w0 W : World} {g : Nat} {f0 : List Int} {f1 : Int} {f2 : Int} (h : IsS62 w0 W g f0 f1 f2) (x : Int) : IsS62 w0 (W.setCell ⟨g, 1, none⟩ (.int .i64 x)) g f0 x f2 := by
 obtain ⟨A0, c0, hb, hg, hr0⟩ := h
 exact ⟨A0, c0, by simpa using blk_set hb 1 (.int .i64 x), hg, hr0⟩
theorem cellS62_2 {W : World} {g : Nat} {A0 : Option Addr} {c0 : Nat} {f0 : List Int} {f1 : Int} {f2 : Int} (h : W.heap[g]? = some (.cells #[.slice A0 f0.length c0, .int .i64 f1, .int .i64 f2] 62 (0, 0))) : W.cell? ⟨g, 2, none⟩ = some (.int .i64 f2) := (blk_cell h 2).trans rfl
theorem IsS62.set_2 {w0 W : World} {g : Nat} {f0 : List Int} {f1 : Int} {f2 : Int} (h : IsS62 w0 W g f0 f1 f2) (x : Int) : IsS62 w0 (W.setCell ⟨g, 2, none⟩ (.int .i64 x)) g f0 f1 x := by
 obtain ⟨A0, c0, hb, hg, hr0⟩ := h
 exact ⟨A0, c0, by simpa using blk_set hb 2 (.int .i64 x), hg, hr0⟩
theorem IsS62.new (w0 W : World) (A0 : Option Addr) (c0 : Nat) (f0 : List Int) (f1 : Int) (f2 : Int) (hB : Below w0.heap.size w0 W) (hr0 : Kd.C (Kd.int .u8) w0 A0 f0.length f0) : IsS62 w0 (W.alloc (.cells #[.slice A0 f0.length c0, .int .i64 f1, .int .i64 f2] 62)) W.heap.size f0 f1 f2 := ⟨A0, c0, by simpa using heap_alloc_new W _, hB.size, hr0⟩

/-! ### spec_l01Open: function 49 -/
def spec_l01Open.f (l0 : List Int) : Option (List Int × Int × Int) := some (l0, 0, 89 + ((l0.length : Int) % 1000))
set_option maxHeartbeats 8000000 in
set_option maxRecDepth 100000 in
theorem spec_l01Open.calls (A0 : Option Addr) (c0 : Nat) (l0 : List Int) (r1 : List Int) (r2 : Int) (r3 : Int) (w0 w : World) (hB : Below w0.heap.size w0 w) (hr0 : Kd.C (Kd.int .u8) w0 A0 l0.length l0) (hc0 : l0.length ≤ c0) (h : spec_l01Open.f l0 = some (r1, r2, r3)) :
  Calls Try.prog 49 #[.slice A0 l0.length c0] w fun e w' => ∃ g_ : Nat, e = .returned (.pointer (some ⟨g_, 0, none⟩)) ∧ IsS62 w0 w' g_ r1 r2 r3 ∧ Below w0.heap.size w0 w' ∧ Below w.heap.size w w' := by
 have hu62:=Try.underlying62
 have HR0:=mk0 hr0
 have HC0:=mk0 hc0
 clear hr0 hc0
 have HBW:=mk0 (Below.refl w.heap.size w)
 have HW0:=mk0 hB.size
 have HB:=mk0 hB
 clear hB
 have H:(some (l0,0,89 + ((l0.length:Int) % 1000))) = some (r1,r2,r3):=h
 clear h
 simp only [Option.some.injEq,Prod.mk.injEq] at H
 obtain⟨rfl,rfl,rfl⟩:=H
 go_enter Try.func49,Try.ntmps49
 go_wp2_with (first|((with_reducible refine gate_dst (N:=9) rfl ?_);refine box_event ?hg (N:=9) ?hd (cs:=#[.slice A0 l0.length c0,.int .i64 0,.int .i64 (89 + ((l0.length:Int) % 1000))]) (t:=62) ?hr ?_;(case hd=>rfl);(case hg=>rfl);(case hr=>first|(go_simp;done)|(go_simp;rfl));intro gb231 hg w2 hbox hb;have n0_:=mk0 (below_step HBW.out hb);have n1_:=mk0 (below_step (by repeat (first|(with_reducible first|exact HB.out|apply aZ|apply nZ|apply dZ)|exact HB.out)) hb);have n2_:=mk0 (hbox);have n3_:=mk0 ((by rw [hg];exact (below_size (by repeat (first|(with_reducible first|exact HBW.out|apply aZ|apply nZ|apply dZ)|exact HBW.out))):w.heap.size ≤ gb231));have n4_:=mk0 ((Nat.le_trans HW0.out (by rw [hg];exact (below_size (by repeat (first|(with_reducible first|exact HBW.out|apply aZ|apply nZ|apply dZ)|exact HBW.out))):w.heap.size ≤ gb231):w0.heap.size ≤ gb231));clear HBW HB;have HBW:=n0_;have HB:=n1_;have BK231:=n2_;have GW231:=n3_;have GE231:=n4_;clear n0_ n1_ n2_ n3_ n4_ hb hbox hg))
 go_ret
 exact⟨_,rfl,(show IsS62 w0 _ gb231 l0 0 (89 + ((l0.length:Int) % 1000)) from ⟨_,_,by (with_reducible repeat (first|apply nB|apply dB|apply aB));exact BK231.out,GE231.out,HR0.out⟩),by repeat (first|(with_reducible first|exact HB.out|apply aZ|apply nZ|apply dZ|refine sZ ?_ GE231.out)|exact HB.out),by repeat (first|(with_reducible first|exact HBW.out|apply aZ|apply nZ|apply dZ|refine sZ ?_ GW231.out)|exact HBW.out)⟩

/-! ### spec_l01Cur_pick: function 52 -/
def spec_l01Cur_pick.f (s0_0 : List Int) (s0_1 : Int) (s0_2 : Int) (a1 : Int) : Option (Int × Int × Int) := if a1 < 2 then (some (0, s0_1, s0_2)) else (if s0_1 < (s0_0.length : Int) then (if 0 ≤ s0_1 then (if a1 = 0 then (none) else (some (Int.tmod (wrap64 (rd s0_0 s0_1)) a1, wrap64 (s0_1 + 1), s0_2))) else (none)) else (if (s0_0.length : Int) > 0 then (if (s0_0.length : Int) = 0 then (none) else (if 0 ≤ (Int.tmod s0_1 (s0_0.length : Int)) then (if (Int.tmod s0_1 (s0_0.length : Int)) < (s0_0.length : Int) then (if a1 = 0 then (none) else (some (Int.tmod (wrap64 ((wrap64 (Int.tdiv (Int.tmod (wrap64 ((wrap64 (s0_2 * 1103)) + 12345)) 65521) 7)) + (wrap64 (rd s0_0 (Int.tmod s0_1 (s0_0.length : Int)))))) a1, wrap64 (s0_1 + 1), Int.tmod (wrap64 ((wrap64 (s0_2 * 1103)) + 12345)) 65521))) else (none)) else (none))) else (if a1 = 0 then (none) else (some ((0 : Int) % a1, wrap64 (s0_1 + 1), Int.tmod (wrap64 ((wrap64 (s0_2 * 1103)) + 12345)) 65521)))))
set_option maxHeartbeats 8000000 in
set_option maxRecDepth 100000 in
theorem spec_l01Cur_pick.calls (g : Nat) (s0_0 : List Int) (s0_1 : Int) (s0_2 : Int) (a1 : Int) (r1 : Int) (r2 : Int) (r3 : Int) (w0 w : World) (hI : IsS62 w0 w g s0_0 s0_1 s0_2) (hB : Below w0.heap.size w0 w) (h : spec_l01Cur_pick.f s0_0 s0_1 s0_2 a1 = some (r1, r2, r3)) :
  Calls Try.prog 52 #[.pointer (some ⟨g, 0, none⟩), .int .i64 a1] w fun e w' => e = .returned (.int .i64 r1) ∧ IsS62 w0 w' g s0_0 r2 r3 ∧ Below w0.heap.size w0 w' ∧ KeepBut w w' g none := by
 have HI0:=mk0 hI
 have HK:=mk0 (KeepBut.refl w g none)
 have HL:=mk0 hB.size
 clear hI
 have HW0:=mk0 hB.size
 have HB:=mk0 hB
 clear hB
 have H:(if a1 < 2 then (some (0,s0_1,s0_2)) else (if s0_1 < (s0_0.length:Int) then (if 0 ≤ s0_1 then (if a1 = 0 then (none) else (some (Int.tmod (wrap64 (rd s0_0 s0_1)) a1,wrap64 (s0_1 + 1),s0_2))) else (none)) else (if (s0_0.length:Int) > 0 then (if (s0_0.length:Int) = 0 then (none) else (if 0 ≤ (Int.tmod s0_1 (s0_0.length:Int)) then (if (Int.tmod s0_1 (s0_0.length:Int)) < (s0_0.length:Int) then (if a1 = 0 then (none) else (some (Int.tmod (wrap64 ((wrap64 (Int.tdiv (Int.tmod (wrap64 ((wrap64 (s0_2 * 1103)) + 12345)) 65521) 7)) + (wrap64 (rd s0_0 (Int.tmod s0_1 (s0_0.length:Int)))))) a1,wrap64 (s0_1 + 1),Int.tmod (wrap64 ((wrap64 (s0_2 * 1103)) + 12345)) 65521))) else (none)) else (none))) else (if a1 = 0 then (none) else (some ((0:Int) % a1,wrap64 (s0_1 + 1),Int.tmod (wrap64 ((wrap64 (s0_2 * 1103)) + 12345)) 65521)))))) = some (r1,r2,r3):=h
 clear h
 by_cases c3:a1 < 2
 ·rw [if_pos c3] at H
  have c3b0:decide (a1 < 2) = true:=decide_eq_true c3
  clear c3
  simp only [Option.some.injEq,Prod.mk.injEq] at H
  obtain⟨rfl,rfl,rfl⟩:=H
  go_enter Try.func52,Try.ntmps52
  go_wp2
  repeat (go_quiet (fail);try go_wp2)
  go_ret
  exact⟨by first|rfl|(simp [errW_none,errW_some] <;> rfl)|(simp [*,errW_none,errW_some] <;> rfl),by repeat (first|(with_reducible first|exact HI0.out|apply IsS62.alloc|apply IsS62.drewN|apply IsS62.drew|apply IsS62.set_1|apply IsS62.set_2)|exact HI0.out),by repeat (first|(with_reducible first|exact HB.out|apply aZ|apply nZ|apply dZ|refine sZ ?_ (IsS62.ge HI0.out))|exact HB.out),by repeat (first|(with_reducible first|exact HK.out|apply KeepBut.set_|apply keep_drewN|apply keep_drew|apply keep_alloc)|exact HK.out)⟩
 ·rw [if_neg c3] at H
  have c3b0:decide (a1 < 2) = false:=decide_eq_false c3
  clear c3
  by_cases c4:s0_1 < (s0_0.length:Int)
  ·rw [if_pos c4] at H
   have c4b0:decide (s0_1 < (s0_0.length:Int)) = true:=decide_eq_true c4
   clear c4
   by_cases c5:0 ≤ s0_1
   ·rw [if_pos c5] at H
    have c5b0:decide (0 ≤ s0_1) = true:=decide_eq_true c5
    clear c5
    by_cases c6:a1 = 0
    ·rw [if_pos c6] at H
     exact absurd H (by simp)
    ·rw [if_neg c6] at H
     have c6b0:(a1 == 0) = false:=beq_eq_false_iff_ne.mpr c6
     have c6b1:(a1 != 0) = true:=bne_iff_ne.mpr c6
     simp only [Option.some.injEq,Prod.mk.injEq] at H
     obtain⟨rfl,rfl,rfl⟩:=H
     obtain⟨ASz7_0,cSz7_0,HGz7,hgz7,HSz7_0⟩:=HI0.out
     have hcz7_0:=cellS62_0 HGz7
     have hcz7_1:=cellS62_1 HGz7
     have hcz7_2:=cellS62_2 HGz7
     have hfz7_1:=blk_frozen HGz7 1
     have hfz7_2:=blk_frozen HGz7 2
     clear HGz7 hgz7
     have p232:0 ≤ (s0_1:Int):=of_decide_eq_true (by first|(with_reducible assumption)|assumption)
     have q232:s0_1 < (s0_0.length:Int):=of_decide_eq_true (by first|(with_reducible assumption)|assumption)
     obtain⟨ad232,e232,hx232_0⟩:=Kd.at_int HSz7_0 s0_1 p232 q232
     cases e232
     replace hx232_0:=pw_cell_below HB.out hx232_0
     replace p232:=eq_true p232
     replace q232:=eq_true q232
     go_enter Try.func52,Try.ntmps52
     go_wp2
     repeat (go_quiet (fail);try go_wp2)
     go_ret
     exact⟨by first|rfl|(simp [errW_none,errW_some] <;> rfl)|(simp [*,errW_none,errW_some] <;> rfl),by repeat (first|(with_reducible first|exact HI0.out|apply IsS62.alloc|apply IsS62.drewN|apply IsS62.drew|apply IsS62.set_1|apply IsS62.set_2)|exact HI0.out),by repeat (first|(with_reducible first|exact HB.out|apply aZ|apply nZ|apply dZ|refine sZ ?_ (IsS62.ge HI0.out))|exact HB.out),by repeat (first|(with_reducible first|exact HK.out|apply KeepBut.set_|apply keep_drewN|apply keep_drew|apply keep_alloc)|exact HK.out)⟩
   ·rw [if_neg c5] at H
    exact absurd H (by simp)
  ·rw [if_neg c4] at H
   have c4b0:decide (s0_1 < (s0_0.length:Int)) = false:=decide_eq_false c4
   clear c4
   by_cases c8:(s0_0.length:Int) > 0
   ·rw [if_pos c8] at H
    have c8b0:decide (0 < (s0_0.length:Int)) = true:=decide_eq_true c8
    have c8b1:decide (0 < s0_0.length) = true:=decide_eq_true (by omega)
    clear c8
    by_cases c9:(s0_0.length:Int) = 0
    ·rw [if_pos c9] at H
     exact absurd H (by simp)
    ·rw [if_neg c9] at H
     have c9b0:((s0_0.length:Int) == 0) = false:=beq_eq_false_iff_ne.mpr c9
     have c9b1:((s0_0.length:Int) != 0) = true:=bne_iff_ne.mpr c9
     have c9b2:¬ (s0_0 = []):=fun h_=>c9 (by rw [h_];rfl)
     obtain⟨ji10,hji10⟩:∃ j_:Int,(Int.tmod s0_1 (s0_0.length:Int)) = j_:=⟨_,rfl⟩
     replace H:(if 0 ≤ (ji10) then (if (ji10) < (s0_0.length:Int) then (if a1 = 0 then (none) else (some (Int.tmod (wrap64 ((wrap64 (Int.tdiv (Int.tmod (wrap64 ((wrap64 (s0_2 * 1103)) + 12345)) 65521) 7)) + (wrap64 (rd s0_0 (ji10))))) a1,wrap64 (s0_1 + 1),Int.tmod (wrap64 ((wrap64 (s0_2 * 1103)) + 12345)) 65521))) else (none)) else (none)) = some (r1,r2,r3):=by first|(rw [hji10] at H;exact H)|(simp only [hji10] at H ⊢;exact H)
     by_cases c11:0 ≤ (ji10)
     ·rw [if_pos c11] at H
      have c11b0:decide (0 ≤ (ji10)) = true:=decide_eq_true c11
      clear c11
      by_cases c12:(ji10) < (s0_0.length:Int)
      ·rw [if_pos c12] at H
       have c12b0:decide ((ji10) < (s0_0.length:Int)) = true:=decide_eq_true c12
       clear c12
       by_cases c13:a1 = 0
       ·rw [if_pos c13] at H
        exact absurd H (by simp)
       ·rw [if_neg c13] at H
        have c13b0:(a1 == 0) = false:=beq_eq_false_iff_ne.mpr c13
        have c13b1:(a1 != 0) = true:=bne_iff_ne.mpr c13
        simp only [Option.some.injEq,Prod.mk.injEq] at H
        obtain⟨rfl,rfl,rfl⟩:=H
        obtain⟨ASz14_0,cSz14_0,HGz14,hgz14,HSz14_0⟩:=HI0.out
        have hcz14_0:=cellS62_0 HGz14
        have hcz14_1:=cellS62_1 HGz14
        have hcz14_2:=cellS62_2 HGz14
        have hfz14_1:=blk_frozen HGz14 1
        have hfz14_2:=blk_frozen HGz14 2
        clear HGz14 hgz14
        have p233:0 ≤ ((ji10):Int):=of_decide_eq_true (by first|(with_reducible assumption)|assumption)
        have q233:(ji10) < (s0_0.length:Int):=of_decide_eq_true (by first|(with_reducible assumption)|assumption)
        obtain⟨ad233,e233,hx233_0⟩:=Kd.at_int HSz14_0 (ji10) p233 q233
        cases e233
        have hn233_0:ad233.block ≠ g:=Nat.ne_of_lt (Nat.lt_of_lt_of_le (by have:=World.block_lt_of_cell? _ _ hx233_0;first|rwa [add_block] at this|exact this) (IsS62.ge HI0.out))
        replace hx233_0:=pw_cell_below HB.out hx233_0
        replace hx233_0:=(cell_far (p:=⟨g,2,none⟩) (by first|(rw [add_block];exact hn233_0)|(show (Addr.add _ _).block ≠ _;rw [add_block];exact hn233_0)|exact hn233_0) (.int .i64 (Int.tmod (wrap64 ((wrap64 (s0_2 * 1103)) + 12345)) 65521))).trans hx233_0
        (try have hy233_0:=fun (n_:Nat)=>(show (((w.drewN n_).setCell ⟨g,2,none⟩ (.int .i64 (Int.tmod (wrap64 ((wrap64 (s0_2 * 1103)) + 12345)) 65521)))).cell? _ = some _ from hx233_0))
        clear hn233_0
        replace p233:=eq_true p233
        replace q233:=eq_true q233
        go_enter Try.func52,Try.ntmps52
        go_wp2
        repeat (go_quiet (fail);try go_wp2)
        go_ret
        exact⟨by first|rfl|(simp [errW_none,errW_some] <;> rfl)|(simp only [← hji10];first|rfl|(simp [errW_none,errW_some] <;> rfl))|(simp [*,errW_none,errW_some] <;> rfl),by repeat (first|(with_reducible first|exact HI0.out|apply IsS62.alloc|apply IsS62.drewN|apply IsS62.drew|apply IsS62.set_1|apply IsS62.set_2)|exact HI0.out),by repeat (first|(with_reducible first|exact HB.out|apply aZ|apply nZ|apply dZ|refine sZ ?_ (IsS62.ge HI0.out))|exact HB.out),by repeat (first|(with_reducible first|exact HK.out|apply KeepBut.set_|apply keep_drewN|apply keep_drew|apply keep_alloc)|exact HK.out)⟩
      ·rw [if_neg c12] at H
       exact absurd H (by simp)
     ·rw [if_neg c11] at H
      exact absurd H (by simp)
   ·rw [if_neg c8] at H
    have c8b0:decide (0 < (s0_0.length:Int)) = false:=decide_eq_false c8
    have c8b1:decide (0 < s0_0.length) = false:=decide_eq_false (by omega)
    clear c8
    by_cases c15:a1 = 0
    ·rw [if_pos c15] at H
     exact absurd H (by simp)
    ·rw [if_neg c15] at H
     have c15b0:(a1 == 0) = false:=beq_eq_false_iff_ne.mpr c15
     have c15b1:(a1 != 0) = true:=bne_iff_ne.mpr c15
     simp only [Option.some.injEq,Prod.mk.injEq] at H
     obtain⟨rfl,rfl,rfl⟩:=H
     obtain⟨ASz16_0,cSz16_0,HGz16,hgz16,HSz16_0⟩:=HI0.out
     have hcz16_0:=cellS62_0 HGz16
     have hcz16_1:=cellS62_1 HGz16
     have hcz16_2:=cellS62_2 HGz16
     have hfz16_1:=blk_frozen HGz16 1
     have hfz16_2:=blk_frozen HGz16 2
     clear HGz16 hgz16
     go_enter Try.func52,Try.ntmps52
     go_wp2
     repeat (go_quiet (fail);try go_wp2)
     go_ret
     exact⟨by first|rfl|(simp [errW_none,errW_some] <;> rfl)|(simp [*,errW_none,errW_some] <;> rfl),by repeat (first|(with_reducible first|exact HI0.out|apply IsS62.alloc|apply IsS62.drewN|apply IsS62.drew|apply IsS62.set_1|apply IsS62.set_2)|exact HI0.out),by repeat (first|(with_reducible first|exact HB.out|apply aZ|apply nZ|apply dZ|refine sZ ?_ (IsS62.ge HI0.out))|exact HB.out),by repeat (first|(with_reducible first|exact HK.out|apply KeepBut.set_|apply keep_drewN|apply keep_drew|apply keep_alloc)|exact HK.out)⟩

/-! ### spec_l01Cur_raw: function 53 -/
def spec_l01Cur_raw.f (s0_0 : List Int) (s0_1 : Int) (s0_2 : Int) : Option (Int × Int × Int) := (spec_l01Cur_pick.f s0_0 s0_1 s0_2 8).bind fun bt234 => (if bt234.1 = 0 then ((spec_l01Cur_pick.f s0_0 bt234.2.1 bt234.2.2 256).bind fun bt237 => (some (wrap64 (bt237.1 - 128), bt237.2.1, bt237.2.2))) else (if bt234.1 = 1 then ((some (([9223372036854775807, (-9223372036854775808), 4611686018427387904, 4294967295, 4294967296, (-1000), 1000, 257] : List Int) : List Int)).bind fun y240 => ((spec_l01Cur_pick.f s0_0 bt234.2.1 bt234.2.2 8).bind fun bt243 => (if 0 ≤ bt243.1 then (if bt243.1 < (y240.length : Int) then (some (rd y240 bt243.1, bt243.2.1, bt243.2.2)) else (none)) else (none)))) else ((spec_l01Cur_pick.f s0_0 bt234.2.1 bt234.2.2 14).bind fun bt247 => (some (wrap64 (bt247.1 - 3), bt247.2.1, bt247.2.2)))))
set_option maxHeartbeats 8000000 in
set_option maxRecDepth 100000 in
theorem spec_l01Cur_raw.calls (g : Nat) (s0_0 : List Int) (s0_1 : Int) (s0_2 : Int) (r1 : Int) (r2 : Int) (r3 : Int) (w0 w : World) (hI : IsS62 w0 w g s0_0 s0_1 s0_2) (hB : Below w0.heap.size w0 w) (h : spec_l01Cur_raw.f s0_0 s0_1 s0_2 = some (r1, r2, r3)) :
  Calls Try.prog 53 #[.pointer (some ⟨g, 0, none⟩)] w fun e w' => e = .returned (.int .i64 r1) ∧ IsS62 w0 w' g s0_0 r2 r3 ∧ Below w0.heap.size w0 w' ∧ KeepBut w w' g none := by
 have HI0:=mk0 hI
 have HK:=mk0 (KeepBut.refl w g none)
 have HL:=mk0 hB.size
 clear hI
 have HW0:=mk0 hB.size
 have HB:=mk0 hB
 clear hB
 have H:((spec_l01Cur_pick.f s0_0 s0_1 s0_2 8).bind fun bt234=>(if bt234.1 = 0 then ((spec_l01Cur_pick.f s0_0 bt234.2.1 bt234.2.2 256).bind fun bt237=>(some (wrap64 (bt237.1 - 128),bt237.2.1,bt237.2.2))) else (if bt234.1 = 1 then ((some (([9223372036854775807,(-9223372036854775808),4611686018427387904,4294967295,4294967296,(-1000),1000,257]:List Int):List Int)).bind fun y240=>((spec_l01Cur_pick.f s0_0 bt234.2.1 bt234.2.2 8).bind fun bt243=>(if 0 ≤ bt243.1 then (if bt243.1 < (y240.length:Int) then (some (rd y240 bt243.1,bt243.2.1,bt243.2.2)) else (none)) else (none)))) else ((spec_l01Cur_pick.f s0_0 bt234.2.1 bt234.2.2 14).bind fun bt247=>(some (wrap64 (bt247.1 - 3),bt247.2.1,bt247.2.2)))))) = some (r1,r2,r3):=h
 clear h
 replace H:=Option.bind_eq_some_iff.mp H
 obtain⟨⟨t234,t235,t236⟩,A20,H⟩:=H
 replace H:(if t234 = 0 then ((spec_l01Cur_pick.f s0_0 t235 t236 256).bind fun bt237=>(some (wrap64 (bt237.1 - 128),bt237.2.1,bt237.2.2))) else (if t234 = 1 then ((some (([9223372036854775807,(-9223372036854775808),4611686018427387904,4294967295,4294967296,(-1000),1000,257]:List Int):List Int)).bind fun y240=>((spec_l01Cur_pick.f s0_0 t235 t236 8).bind fun bt243=>(if 0 ≤ bt243.1 then (if bt243.1 < (y240.length:Int) then (some (rd y240 bt243.1,bt243.2.1,bt243.2.2)) else (none)) else (none)))) else ((spec_l01Cur_pick.f s0_0 t235 t236 14).bind fun bt247=>(some (wrap64 (bt247.1 - 3),bt247.2.1,bt247.2.2))))) = some (r1,r2,r3):=H
 have A2:=mk0 A20
 clear A20
 by_cases c3:t234 = 0
 ·rw [if_pos c3] at H
  have c3b0:(t234 == 0) = true:=beq_iff_eq.mpr c3
  have c3b1:(t234 != 0) = false:=bne_eq_false_iff_eq.mpr c3
  clear c3
  replace H:=Option.bind_eq_some_iff.mp H
  obtain⟨⟨t237,t238,t239⟩,A40,H⟩:=H
  replace H:(some (wrap64 (t237 - 128),t238,t239)) = some (r1,r2,r3):=H
  have A4:=mk0 A40
  clear A40
  simp only [Option.some.injEq,Prod.mk.injEq] at H
  obtain⟨rfl,rfl,rfl⟩:=H
  go_enter Try.func53,Try.ntmps53
  go_wp2_with (first|((with_reducible refine gate_callee (f:=52) rfl ?_);refine goesL_ (some 4) rfl rfl Try.func52 (by kernel_rfl) rfl #[.pointer (some ⟨g,0,none⟩),.int .i64 8] rfl (by (try simp only [mA,mC,mN]);first|done|rfl|(simp only [List.length_drop,List.length_take];rfl)) ?_;(with_reducible refine (spec_l01Cur_pick.calls g s0_0 s0_1 s0_2 8 t234 t235 t236 w0 _ ?side1 ?side2 A2.out).mono ?_);(case side1=>repeat (first|(with_reducible first|exact HI0.out|apply IsS62.alloc|apply IsS62.drewN|apply IsS62.drew|apply IsS62.set_1|apply IsS62.set_2)|exact HI0.out));(case side2=>repeat (first|(with_reducible first|exact HB.out|apply aZ|apply nZ|apply dZ|refine sZ ?_ (IsS62.ge HI0.out))|exact HB.out));rintro e w5 ⟨rfl,hi,hb,hk⟩;refine⟨_,rfl,?_⟩;have n0_:=mk0 (KeepBut.trans (by repeat (first|(with_reducible first|exact HK.out|apply KeepBut.set_|apply keep_drewN|apply keep_drew|apply keep_alloc)|exact HK.out)) hk (.inl rfl));have n1_:=mk0 (hb);have n2_:=mk0 (hi);clear HK HB HI0;have HK:=n0_;have HB:=n1_;have HI0:=n2_;clear n0_ n1_ n2_;(try clear hb);(try clear hb2);(try clear hk);(try clear hi))|((with_reducible refine gate_callee (f:=52) rfl ?_);refine goesL_ (some 8) rfl rfl Try.func52 (by kernel_rfl) rfl #[.pointer (some ⟨g,0,none⟩),.int .i64 256] rfl (by (try simp only [mA,mC,mN]);first|done|rfl|(simp only [List.length_drop,List.length_take];rfl)) ?_;(with_reducible refine (spec_l01Cur_pick.calls g s0_0 t235 t236 256 t237 t238 t239 w0 _ ?side1 ?side2 A4.out).mono ?_);(case side1=>repeat (first|(with_reducible first|exact HI0.out|apply IsS62.alloc|apply IsS62.drewN|apply IsS62.drew|apply IsS62.set_1|apply IsS62.set_2)|exact HI0.out));(case side2=>repeat (first|(with_reducible first|exact HB.out|apply aZ|apply nZ|apply dZ|refine sZ ?_ (IsS62.ge HI0.out))|exact HB.out));rintro e w6 ⟨rfl,hi,hb,hk⟩;refine⟨_,rfl,?_⟩;have n0_:=mk0 (KeepBut.trans (by repeat (first|(with_reducible first|exact HK.out|apply KeepBut.set_|apply keep_drewN|apply keep_drew|apply keep_alloc)|exact HK.out)) hk (.inl rfl));have n1_:=mk0 (hb);have n2_:=mk0 (hi);clear HK HB HI0;have HK:=n0_;have HB:=n1_;have HI0:=n2_;clear n0_ n1_ n2_;(try clear hb);(try clear hb2);(try clear hk);(try clear hi)))
  go_ret
  exact⟨by first|rfl|(simp [errW_none,errW_some] <;> rfl)|(simp [*,errW_none,errW_some] <;> rfl),by repeat (first|(with_reducible first|exact HI0.out|apply IsS62.alloc|apply IsS62.drewN|apply IsS62.drew|apply IsS62.set_1|apply IsS62.set_2)|exact HI0.out),by repeat (first|(with_reducible first|exact HB.out|apply aZ|apply nZ|apply dZ|refine sZ ?_ (IsS62.ge HI0.out))|exact HB.out),by repeat (first|(with_reducible first|exact HK.out|apply KeepBut.set_|apply keep_drewN|apply keep_drew|apply keep_alloc)|exact HK.out)⟩
 ·rw [if_neg c3] at H
  have c3b0:(t234 == 0) = false:=beq_eq_false_iff_ne.mpr c3
  have c3b1:(t234 != 0) = true:=bne_iff_ne.mpr c3
  by_cases c7:t234 = 1
  ·rw [if_pos c7] at H
   have c7b0:(t234 == 1) = true:=beq_iff_eq.mpr c7
   have c7b1:(t234 != 1) = false:=bne_eq_false_iff_eq.mpr c7
   clear c7
   obtain⟨y240,hy240⟩:∃ y_:List Int,y_ = (([9223372036854775807,(-9223372036854775808),4611686018427387904,4294967295,4294967296,(-1000),1000,257]:List Int)):=⟨_,rfl⟩
   replace H:((spec_l01Cur_pick.f s0_0 t235 t236 8).bind fun bt243=>(if 0 ≤ bt243.1 then (if bt243.1 < (y240.length:Int) then (some (rd y240 bt243.1,bt243.2.1,bt243.2.2)) else (none)) else (none))) = some (r1,r2,r3):=by first|(rw [hy240];with_reducible exact H)|(have H2_:=(Option.bind_some _ _).symm.trans H;rw [hy240];with_reducible exact H2_)|(have H2_:=(Option.bind_some _ _).symm.trans H;with_reducible exact H2_)|with_reducible exact H|(rw [hy240];exact H)|exact H
   have Ny240:=mk0 hy240
   clear hy240
   replace H:=Option.bind_eq_some_iff.mp H
   obtain⟨⟨t243,t244,t245⟩,A80,H⟩:=H
   replace H:(if 0 ≤ t243 then (if t243 < (y240.length:Int) then (some (rd y240 t243,t244,t245)) else (none)) else (none)) = some (r1,r2,r3):=H
   have A8:=mk0 A80
   clear A80
   by_cases c9:0 ≤ t243
   ·rw [if_pos c9] at H
    have c9b0:decide (0 ≤ t243) = true:=decide_eq_true c9
    clear c9
    by_cases c10:t243 < (y240.length:Int)
    ·rw [if_pos c10] at H
     have c10b0:decide (t243 < (y240.length:Int)) = true:=decide_eq_true c10
     clear c10
     simp only [Option.some.injEq,Prod.mk.injEq] at H
     obtain⟨rfl,rfl,rfl⟩:=H
     go_enter Try.func53,Try.ntmps53
     go_wp2_with (first|((with_reducible refine gate_callee (f:=52) rfl ?_);refine goesL_ (some 4) rfl rfl Try.func52 (by kernel_rfl) rfl #[.pointer (some ⟨g,0,none⟩),.int .i64 8] rfl (by (try simp only [mA,mC,mN]);first|done|rfl|(simp only [List.length_drop,List.length_take];rfl)) ?_;(with_reducible refine (spec_l01Cur_pick.calls g s0_0 s0_1 s0_2 8 t234 t235 t236 w0 _ ?side1 ?side2 A2.out).mono ?_);(case side1=>repeat (first|(with_reducible first|exact HI0.out|apply IsS62.alloc|apply IsS62.drewN|apply IsS62.drew|apply IsS62.set_1|apply IsS62.set_2)|exact HI0.out));(case side2=>repeat (first|(with_reducible first|exact HB.out|apply aZ|apply nZ|apply dZ|refine sZ ?_ (IsS62.ge HI0.out))|exact HB.out));rintro e w11 ⟨rfl,hi,hb,hk⟩;refine⟨_,rfl,?_⟩;have n0_:=mk0 (KeepBut.trans (by repeat (first|(with_reducible first|exact HK.out|apply KeepBut.set_|apply keep_drewN|apply keep_drew|apply keep_alloc)|exact HK.out)) hk (.inl rfl));have n1_:=mk0 (hb);have n2_:=mk0 (hi);clear HK HB HI0;have HK:=n0_;have HB:=n1_;have HI0:=n2_;clear n0_ n1_ n2_;(try clear hb);(try clear hb2);(try clear hk);(try clear hi))|((with_reducible refine gate_dst (N:=12) rfl ?_);refine Kd.R_lit (Kd.int .i64) _ 3 ?hg (N:=12) ?hd (xs:=([9223372036854775807,(-9223372036854775808),4611686018427387904,4294967295,4294967296,(-1000),1000,257]:List Int)) (inner:=[.int .i64 9223372036854775807,.int .i64 (-9223372036854775808),.int .i64 4611686018427387904,.int .i64 4294967295,.int .i64 4294967296,.int .i64 (-1000),.int .i64 1000,.int .i64 257]) (ok:=fun _=>True) (okp:=fun _=>True) ?hr ?hp (fun _ hk=>hk) trivial (Below.refl _ _) (Nat.le_refl _) (by simp) ?_;(case hd=>rfl);(case hg=>rfl);(case hr=>first|(go_simp;done)|(go_simp;rfl));(case hp=>exact (Reps.one (show Kd.M (Kd.int .i64) _ _ _ 9223372036854775807 [.int .i64 9223372036854775807] from rfl) (Reps.one (show Kd.M (Kd.int .i64) _ _ _ (-9223372036854775808) [.int .i64 (-9223372036854775808)] from rfl) (Reps.one (show Kd.M (Kd.int .i64) _ _ _ 4611686018427387904 [.int .i64 4611686018427387904] from rfl) (Reps.one (show Kd.M (Kd.int .i64) _ _ _ 4294967295 [.int .i64 4294967295] from rfl) (Reps.one (show Kd.M (Kd.int .i64) _ _ _ 4294967296 [.int .i64 4294967296] from rfl) (Reps.one (show Kd.M (Kd.int .i64) _ _ _ (-1000) [.int .i64 (-1000)] from rfl) (Reps.one (show Kd.M (Kd.int .i64) _ _ _ 1000 [.int .i64 1000] from rfl) (Reps.one (show Kd.M (Kd.int .i64) _ _ _ 257 [.int .i64 257] from rfl) (Reps.none _ _))))))))));intro v241 w12 ho13 hb hg_ hnew_;clear hg_ hnew_;(first|rw [← Ny240.out] at ho13|(simp only [Int.reduceToNat] at ho13;rw [← Ny240.out] at ho13));have n0_:=mk0 (Kd.R_lower ho13 (keep_size (w:=w) (g:=g) (row:=none) (by repeat (first|(with_reducible first|exact HK.out|apply KeepBut.set_|apply keep_drewN|apply keep_drew|apply keep_alloc)|exact HK.out))));have n1_:=mk0 (IsS62.below (by repeat (first|(with_reducible first|exact HI0.out|apply IsS62.alloc|apply IsS62.drewN|apply IsS62.drew|apply IsS62.set_1|apply IsS62.set_2)|exact HI0.out)) hb);have n2_:=mk0 (KeepBut.trans (by repeat (first|(with_reducible first|exact HK.out|apply KeepBut.set_|apply keep_drewN|apply keep_drew|apply keep_alloc)|exact HK.out)) (KeepBut.of_below hb g none) (.inl rfl));have n3_:=mk0 (below_step (by repeat (first|(with_reducible first|exact HB.out|apply aZ|apply nZ|apply dZ|refine sZ ?_ (IsS62.ge HI0.out))|exact HB.out)) hb);clear HI0 HK HB;have HO242:=n0_;have HI0:=n1_;have HK:=n2_;have HB:=n3_;clear n0_ n1_ n2_ n3_ hb ho13)|((with_reducible refine gate_callee (f:=52) rfl ?_);refine goesL_ (some 14) rfl rfl Try.func52 (by kernel_rfl) rfl #[.pointer (some ⟨g,0,none⟩),.int .i64 8] rfl (by (try simp only [mA,mC,mN]);first|done|rfl|(simp only [List.length_drop,List.length_take];rfl)) ?_;(with_reducible refine (spec_l01Cur_pick.calls g s0_0 t235 t236 8 t243 t244 t245 w0 _ ?side1 ?side2 A8.out).mono ?_);(case side1=>repeat (first|(with_reducible first|exact HI0.out|apply IsS62.alloc|apply IsS62.drewN|apply IsS62.drew|apply IsS62.set_1|apply IsS62.set_2)|exact HI0.out));(case side2=>repeat (first|(with_reducible first|exact HB.out|apply aZ|apply nZ|apply dZ|refine sZ ?_ (IsS62.ge HI0.out))|exact HB.out));rintro e w14 ⟨rfl,hi,hb,hk⟩;refine⟨_,rfl,?_⟩;have n0_:=mk0 (Kd.R_mono (Kd.R_keep (IsS62.apart (show IsS62 w0 _ g s0_0 t235 t236 from by repeat (first|(with_reducible first|exact HI0.out|apply IsS62.alloc|apply IsS62.drewN|apply IsS62.drew|apply IsS62.set_1|apply IsS62.set_2)|exact HI0.out)) (by (with_reducible repeat (first|apply aR|apply nR|apply dR));exact HO242.out) (by decide)) hk (fun _ h=>h.2)) (fun _ h=>h.1));have n1_:=mk0 (KeepBut.trans (by repeat (first|(with_reducible first|exact HK.out|apply KeepBut.set_|apply keep_drewN|apply keep_drew|apply keep_alloc)|exact HK.out)) hk (.inl rfl));have n2_:=mk0 (hb);have n3_:=mk0 (hi);clear HO242 HK HB HI0;have HO242:=n0_;have HK:=n1_;have HB:=n2_;have HI0:=n3_;clear n0_ n1_ n2_ n3_;(try clear hb);(try clear hb2);(try clear hk);(try clear hi);obtain⟨Ao15,co15,eo15⟩:=Kd.R_slice HO242.out;subst eo15;have p246:0 ≤ (t243:Int):=of_decide_eq_true (by first|(with_reducible assumption)|assumption);have q246:t243 < (y240.length:Int):=of_decide_eq_true (by first|(with_reducible assumption)|assumption);obtain⟨ad246,e246,hx246_0⟩:=Kd.at_int (Kd.R_reads' HO242.out).2.2 t243 p246 q246;cases e246;replace p246:=eq_true p246;replace q246:=eq_true q246))
     go_ret
     exact⟨by first|rfl|(simp [errW_none,errW_some] <;> rfl)|(simp [*,errW_none,errW_some] <;> rfl),by repeat (first|(with_reducible first|exact HI0.out|apply IsS62.alloc|apply IsS62.drewN|apply IsS62.drew|apply IsS62.set_1|apply IsS62.set_2)|exact HI0.out),by repeat (first|(with_reducible first|exact HB.out|apply aZ|apply nZ|apply dZ|refine sZ ?_ (IsS62.ge HI0.out))|exact HB.out),by repeat (first|(with_reducible first|exact HK.out|apply KeepBut.set_|apply keep_drewN|apply keep_drew|apply keep_alloc)|exact HK.out)⟩
    ·rw [if_neg c10] at H
     exact absurd H (by simp)
   ·rw [if_neg c9] at H
    exact absurd H (by simp)
  ·rw [if_neg c7] at H
   have c7b0:(t234 == 1) = false:=beq_eq_false_iff_ne.mpr c7
   have c7b1:(t234 != 1) = true:=bne_iff_ne.mpr c7
   replace H:=Option.bind_eq_some_iff.mp H
   obtain⟨⟨t247,t248,t249⟩,A160,H⟩:=H
   replace H:(some (wrap64 (t247 - 3),t248,t249)) = some (r1,r2,r3):=H
   have A16:=mk0 A160
   clear A160
   simp only [Option.some.injEq,Prod.mk.injEq] at H
   obtain⟨rfl,rfl,rfl⟩:=H
   go_enter Try.func53,Try.ntmps53
   go_wp2_with (first|((with_reducible refine gate_callee (f:=52) rfl ?_);refine goesL_ (some 4) rfl rfl Try.func52 (by kernel_rfl) rfl #[.pointer (some ⟨g,0,none⟩),.int .i64 8] rfl (by (try simp only [mA,mC,mN]);first|done|rfl|(simp only [List.length_drop,List.length_take];rfl)) ?_;(with_reducible refine (spec_l01Cur_pick.calls g s0_0 s0_1 s0_2 8 t234 t235 t236 w0 _ ?side1 ?side2 A2.out).mono ?_);(case side1=>repeat (first|(with_reducible first|exact HI0.out|apply IsS62.alloc|apply IsS62.drewN|apply IsS62.drew|apply IsS62.set_1|apply IsS62.set_2)|exact HI0.out));(case side2=>repeat (first|(with_reducible first|exact HB.out|apply aZ|apply nZ|apply dZ|refine sZ ?_ (IsS62.ge HI0.out))|exact HB.out));rintro e w17 ⟨rfl,hi,hb,hk⟩;refine⟨_,rfl,?_⟩;have n0_:=mk0 (KeepBut.trans (by repeat (first|(with_reducible first|exact HK.out|apply KeepBut.set_|apply keep_drewN|apply keep_drew|apply keep_alloc)|exact HK.out)) hk (.inl rfl));have n1_:=mk0 (hb);have n2_:=mk0 (hi);clear HK HB HI0;have HK:=n0_;have HB:=n1_;have HI0:=n2_;clear n0_ n1_ n2_;(try clear hb);(try clear hb2);(try clear hk);(try clear hi))|((with_reducible refine gate_callee (f:=52) rfl ?_);refine goesL_ (some 18) rfl rfl Try.func52 (by kernel_rfl) rfl #[.pointer (some ⟨g,0,none⟩),.int .i64 14] rfl (by (try simp only [mA,mC,mN]);first|done|rfl|(simp only [List.length_drop,List.length_take];rfl)) ?_;(with_reducible refine (spec_l01Cur_pick.calls g s0_0 t235 t236 14 t247 t248 t249 w0 _ ?side1 ?side2 A16.out).mono ?_);(case side1=>repeat (first|(with_reducible first|exact HI0.out|apply IsS62.alloc|apply IsS62.drewN|apply IsS62.drew|apply IsS62.set_1|apply IsS62.set_2)|exact HI0.out));(case side2=>repeat (first|(with_reducible first|exact HB.out|apply aZ|apply nZ|apply dZ|refine sZ ?_ (IsS62.ge HI0.out))|exact HB.out));rintro e w18 ⟨rfl,hi,hb,hk⟩;refine⟨_,rfl,?_⟩;have n0_:=mk0 (KeepBut.trans (by repeat (first|(with_reducible first|exact HK.out|apply KeepBut.set_|apply keep_drewN|apply keep_drew|apply keep_alloc)|exact HK.out)) hk (.inl rfl));have n1_:=mk0 (hb);have n2_:=mk0 (hi);clear HK HB HI0;have HK:=n0_;have HB:=n1_;have HI0:=n2_;clear n0_ n1_ n2_;(try clear hb);(try clear hb2);(try clear hk);(try clear hi)))
   go_ret
   exact⟨by first|rfl|(simp [errW_none,errW_some] <;> rfl)|(simp [*,errW_none,errW_some] <;> rfl),by repeat (first|(with_reducible first|exact HI0.out|apply IsS62.alloc|apply IsS62.drewN|apply IsS62.drew|apply IsS62.set_1|apply IsS62.set_2)|exact HI0.out),by repeat (first|(with_reducible first|exact HB.out|apply aZ|apply nZ|apply dZ|refine sZ ?_ (IsS62.ge HI0.out))|exact HB.out),by repeat (first|(with_reducible first|exact HK.out|apply KeepBut.set_|apply keep_drewN|apply keep_drew|apply keep_alloc)|exact HK.out)⟩

/-! ### spec_l01Cur_size: function 65 -/
def spec_l01Cur_size.f (s0_0 : List Int) (s0_1 : Int) (s0_2 : Int) (a1 : Int) : Option (Int × Int × Int) := (spec_l01Cur_pick.f s0_0 s0_1 s0_2 (wrap64 ((mn a1 (wrap64 (1 + (wrap64 ((s0_0.length : Int) / 8))))) + 1))).bind fun bt250 => (some (bt250.1, bt250.2.1, bt250.2.2))
set_option maxHeartbeats 8000000 in
set_option maxRecDepth 100000 in
theorem spec_l01Cur_size.calls (g : Nat) (s0_0 : List Int) (s0_1 : Int) (s0_2 : Int) (a1 : Int) (r1 : Int) (r2 : Int) (r3 : Int) (w0 w : World) (hI : IsS62 w0 w g s0_0 s0_1 s0_2) (hB : Below w0.heap.size w0 w) (h : spec_l01Cur_size.f s0_0 s0_1 s0_2 a1 = some (r1, r2, r3)) :
  Calls Try.prog 65 #[.pointer (some ⟨g, 0, none⟩), .int .i64 a1] w fun e w' => e = .returned (.int .i64 r1) ∧ IsS62 w0 w' g s0_0 r2 r3 ∧ Below w0.heap.size w0 w' ∧ KeepBut w w' g none := by
 have HI0:=mk0 hI
 have HK:=mk0 (KeepBut.refl w g none)
 have HL:=mk0 hB.size
 clear hI
 have HW0:=mk0 hB.size
 have HB:=mk0 hB
 clear hB
 have H:((spec_l01Cur_pick.f s0_0 s0_1 s0_2 (wrap64 ((mn a1 (wrap64 (1 + (wrap64 ((s0_0.length:Int) / 8))))) + 1))).bind fun bt250=>(some (bt250.1,bt250.2.1,bt250.2.2))) = some (r1,r2,r3):=h
 clear h
 obtain⟨ji3,hji3⟩:∃ j_:Int,(mn a1 (wrap64 (1 + (wrap64 ((s0_0.length:Int) / 8))))) = j_:=⟨_,rfl⟩
 replace H:((spec_l01Cur_pick.f s0_0 s0_1 s0_2 (wrap64 ((ji3) + 1))).bind fun bt250=>(some (bt250.1,bt250.2.1,bt250.2.2))) = some (r1,r2,r3):=by first|(rw [hji3] at H;exact H)|(simp only [hji3] at H ⊢;exact H)
 have hji3_:(if (wrap64 (1 + (wrap64 ((s0_0.length:Int) / 8)))) < a1 then (wrap64 (1 + (wrap64 ((s0_0.length:Int) / 8)))) else a1) = ji3:=hji3
 replace H:=Option.bind_eq_some_iff.mp H
 obtain⟨⟨t250,t251,t252⟩,A40,H⟩:=H
 replace H:(some (t250,t251,t252)) = some (r1,r2,r3):=H
 have A4:=mk0 A40
 clear A40
 simp only [Option.some.injEq,Prod.mk.injEq] at H
 obtain⟨rfl,rfl,rfl⟩:=H
 obtain⟨ASz5_0,cSz5_0,HGz5,hgz5,HSz5_0⟩:=HI0.out
 have hcz5_0:=cellS62_0 HGz5
 have hcz5_1:=cellS62_1 HGz5
 have hcz5_2:=cellS62_2 HGz5
 have hfz5_1:=blk_frozen HGz5 1
 have hfz5_2:=blk_frozen HGz5 2
 clear HGz5 hgz5
 go_enter Try.func65,Try.ntmps65
 go_wp2_with (first|((with_reducible refine gate_callee (f:=52) rfl ?_);refine goesL_ (some 16) rfl rfl Try.func52 (by kernel_rfl) rfl #[.pointer (some ⟨g,0,none⟩),.int .i64 (wrap64 ((ji3) + 1))] rfl (by (try simp only [mA,mC,mN]);first|done|(simp only [hji3];rfl)|rfl|(simp only [List.length_drop,List.length_take];rfl)) ?_;(with_reducible refine (spec_l01Cur_pick.calls g s0_0 s0_1 s0_2 (wrap64 ((ji3) + 1)) t250 t251 t252 w0 _ ?side1 ?side2 A4.out).mono ?_);(case side1=>repeat (first|(with_reducible first|exact HI0.out|apply IsS62.alloc|apply IsS62.drewN|apply IsS62.drew|apply IsS62.set_1|apply IsS62.set_2)|exact HI0.out));(case side2=>repeat (first|(with_reducible first|exact HB.out|apply aZ|apply nZ|apply dZ|refine sZ ?_ (IsS62.ge HI0.out))|exact HB.out));rintro e w6 ⟨rfl,hi,hb,hk⟩;refine⟨_,rfl,?_⟩;have n0_:=mk0 (KeepBut.trans (by repeat (first|(with_reducible first|exact HK.out|apply KeepBut.set_|apply keep_drewN|apply keep_drew|apply keep_alloc)|exact HK.out)) hk (.inl rfl));have n1_:=mk0 (hb);have n2_:=mk0 (hi);clear HK HB HI0;have HK:=n0_;have HB:=n1_;have HI0:=n2_;clear n0_ n1_ n2_;(try clear hb);(try clear hb2);(try clear hk);(try clear hi)))
 go_ret
 exact⟨by first|rfl|(simp [errW_none,errW_some] <;> rfl)|(simp only [← hji3];first|rfl|(simp [errW_none,errW_some] <;> rfl))|(simp [*,errW_none,errW_some] <;> rfl),by repeat (first|(with_reducible first|exact HI0.out|apply IsS62.alloc|apply IsS62.drewN|apply IsS62.drew|apply IsS62.set_1|apply IsS62.set_2)|exact HI0.out),by repeat (first|(with_reducible first|exact HB.out|apply aZ|apply nZ|apply dZ|refine sZ ?_ (IsS62.ge HI0.out))|exact HB.out),by repeat (first|(with_reducible first|exact HK.out|apply KeepBut.set_|apply keep_drewN|apply keep_drew|apply keep_alloc)|exact HK.out)⟩

/-! ### spec_l01Cur_wide: function 66 -/
def spec_l01Cur_wide.f (s0_0 : List Int) (s0_1 : Int) (s0_2 : Int) (a1 : Int) : Option (Int × Int × Int) := (spec_l01Cur_pick.f s0_0 s0_1 s0_2 256).bind fun bt253 => ((spec_l01Cur_pick.f s0_0 bt253.2.1 bt253.2.2 256).bind fun bt256 => ((spec_l01Cur_pick.f s0_0 bt256.2.1 bt256.2.2 256).bind fun bt259 => (if a1 = 0 then (none) else (some (Int.tmod (wrap64 ((wrap64 ((wrap64 (65536 * bt253.1)) + (wrap64 (256 * bt256.1)))) + bt259.1)) a1, bt259.2.1, bt259.2.2)))))
set_option maxHeartbeats 8000000 in
set_option maxRecDepth 100000 in
theorem spec_l01Cur_wide.calls (g : Nat) (s0_0 : List Int) (s0_1 : Int) (s0_2 : Int) (a1 : Int) (r1 : Int) (r2 : Int) (r3 : Int) (w0 w : World) (hI : IsS62 w0 w g s0_0 s0_1 s0_2) (hB : Below w0.heap.size w0 w) (h : spec_l01Cur_wide.f s0_0 s0_1 s0_2 a1 = some (r1, r2, r3)) :
  Calls Try.prog 66 #[.pointer (some ⟨g, 0, none⟩), .int .i64 a1] w fun e w' => e = .returned (.int .i64 r1) ∧ IsS62 w0 w' g s0_0 r2 r3 ∧ Below w0.heap.size w0 w' ∧ KeepBut w w' g none := by
 have HI0:=mk0 hI
 have HK:=mk0 (KeepBut.refl w g none)
 have HL:=mk0 hB.size
 clear hI
 have HW0:=mk0 hB.size
 have HB:=mk0 hB
 clear hB
 have H:((spec_l01Cur_pick.f s0_0 s0_1 s0_2 256).bind fun bt253=>((spec_l01Cur_pick.f s0_0 bt253.2.1 bt253.2.2 256).bind fun bt256=>((spec_l01Cur_pick.f s0_0 bt256.2.1 bt256.2.2 256).bind fun bt259=>(if a1 = 0 then (none) else (some (Int.tmod (wrap64 ((wrap64 ((wrap64 (65536 * bt253.1)) + (wrap64 (256 * bt256.1)))) + bt259.1)) a1,bt259.2.1,bt259.2.2)))))) = some (r1,r2,r3):=h
 clear h
 replace H:=Option.bind_eq_some_iff.mp H
 obtain⟨⟨t253,t254,t255⟩,A30,H⟩:=H
 replace H:((spec_l01Cur_pick.f s0_0 t254 t255 256).bind fun bt256=>((spec_l01Cur_pick.f s0_0 bt256.2.1 bt256.2.2 256).bind fun bt259=>(if a1 = 0 then (none) else (some (Int.tmod (wrap64 ((wrap64 ((wrap64 (65536 * t253)) + (wrap64 (256 * bt256.1)))) + bt259.1)) a1,bt259.2.1,bt259.2.2))))) = some (r1,r2,r3):=H
 have A3:=mk0 A30
 clear A30
 replace H:=Option.bind_eq_some_iff.mp H
 obtain⟨⟨t256,t257,t258⟩,A40,H⟩:=H
 replace H:((spec_l01Cur_pick.f s0_0 t257 t258 256).bind fun bt259=>(if a1 = 0 then (none) else (some (Int.tmod (wrap64 ((wrap64 ((wrap64 (65536 * t253)) + (wrap64 (256 * t256)))) + bt259.1)) a1,bt259.2.1,bt259.2.2)))) = some (r1,r2,r3):=H
 have A4:=mk0 A40
 clear A40
 replace H:=Option.bind_eq_some_iff.mp H
 obtain⟨⟨t259,t260,t261⟩,A50,H⟩:=H
 replace H:(if a1 = 0 then (none) else (some (Int.tmod (wrap64 ((wrap64 ((wrap64 (65536 * t253)) + (wrap64 (256 * t256)))) + t259)) a1,t260,t261))) = some (r1,r2,r3):=H
 have A5:=mk0 A50
 clear A50
 by_cases c6:a1 = 0
 ·rw [if_pos c6] at H
  exact absurd H (by simp)
 ·rw [if_neg c6] at H
  have c6b0:(a1 == 0) = false:=beq_eq_false_iff_ne.mpr c6
  have c6b1:(a1 != 0) = true:=bne_iff_ne.mpr c6
  simp only [Option.some.injEq,Prod.mk.injEq] at H
  obtain⟨rfl,rfl,rfl⟩:=H
  go_enter Try.func66,Try.ntmps66
  go_wp2_with (first|((with_reducible refine gate_callee (f:=52) rfl ?_);refine goesL_ (some 6) rfl rfl Try.func52 (by kernel_rfl) rfl #[.pointer (some ⟨g,0,none⟩),.int .i64 256] rfl (by (try simp only [mA,mC,mN]);first|done|rfl|(simp only [List.length_drop,List.length_take];rfl)) ?_;(with_reducible refine (spec_l01Cur_pick.calls g s0_0 s0_1 s0_2 256 t253 t254 t255 w0 _ ?side1 ?side2 A3.out).mono ?_);(case side1=>repeat (first|(with_reducible first|exact HI0.out|apply IsS62.alloc|apply IsS62.drewN|apply IsS62.drew|apply IsS62.set_1|apply IsS62.set_2)|exact HI0.out));(case side2=>repeat (first|(with_reducible first|exact HB.out|apply aZ|apply nZ|apply dZ|refine sZ ?_ (IsS62.ge HI0.out))|exact HB.out));rintro e w7 ⟨rfl,hi,hb,hk⟩;refine⟨_,rfl,?_⟩;have n0_:=mk0 (KeepBut.trans (by repeat (first|(with_reducible first|exact HK.out|apply KeepBut.set_|apply keep_drewN|apply keep_drew|apply keep_alloc)|exact HK.out)) hk (.inl rfl));have n1_:=mk0 (hb);have n2_:=mk0 (hi);clear HK HB HI0;have HK:=n0_;have HB:=n1_;have HI0:=n2_;clear n0_ n1_ n2_;(try clear hb);(try clear hb2);(try clear hk);(try clear hi))|((with_reducible refine gate_callee (f:=52) rfl ?_);refine goesL_ (some 9) rfl rfl Try.func52 (by kernel_rfl) rfl #[.pointer (some ⟨g,0,none⟩),.int .i64 256] rfl (by (try simp only [mA,mC,mN]);first|done|rfl|(simp only [List.length_drop,List.length_take];rfl)) ?_;(with_reducible refine (spec_l01Cur_pick.calls g s0_0 t254 t255 256 t256 t257 t258 w0 _ ?side1 ?side2 A4.out).mono ?_);(case side1=>repeat (first|(with_reducible first|exact HI0.out|apply IsS62.alloc|apply IsS62.drewN|apply IsS62.drew|apply IsS62.set_1|apply IsS62.set_2)|exact HI0.out));(case side2=>repeat (first|(with_reducible first|exact HB.out|apply aZ|apply nZ|apply dZ|refine sZ ?_ (IsS62.ge HI0.out))|exact HB.out));rintro e w8 ⟨rfl,hi,hb,hk⟩;refine⟨_,rfl,?_⟩;have n0_:=mk0 (KeepBut.trans (by repeat (first|(with_reducible first|exact HK.out|apply KeepBut.set_|apply keep_drewN|apply keep_drew|apply keep_alloc)|exact HK.out)) hk (.inl rfl));have n1_:=mk0 (hb);have n2_:=mk0 (hi);clear HK HB HI0;have HK:=n0_;have HB:=n1_;have HI0:=n2_;clear n0_ n1_ n2_;(try clear hb);(try clear hb2);(try clear hk);(try clear hi))|((with_reducible refine gate_callee (f:=52) rfl ?_);refine goesL_ (some 13) rfl rfl Try.func52 (by kernel_rfl) rfl #[.pointer (some ⟨g,0,none⟩),.int .i64 256] rfl (by (try simp only [mA,mC,mN]);first|done|rfl|(simp only [List.length_drop,List.length_take];rfl)) ?_;(with_reducible refine (spec_l01Cur_pick.calls g s0_0 t257 t258 256 t259 t260 t261 w0 _ ?side1 ?side2 A5.out).mono ?_);(case side1=>repeat (first|(with_reducible first|exact HI0.out|apply IsS62.alloc|apply IsS62.drewN|apply IsS62.drew|apply IsS62.set_1|apply IsS62.set_2)|exact HI0.out));(case side2=>repeat (first|(with_reducible first|exact HB.out|apply aZ|apply nZ|apply dZ|refine sZ ?_ (IsS62.ge HI0.out))|exact HB.out));rintro e w9 ⟨rfl,hi,hb,hk⟩;refine⟨_,rfl,?_⟩;have n0_:=mk0 (KeepBut.trans (by repeat (first|(with_reducible first|exact HK.out|apply KeepBut.set_|apply keep_drewN|apply keep_drew|apply keep_alloc)|exact HK.out)) hk (.inl rfl));have n1_:=mk0 (hb);have n2_:=mk0 (hi);clear HK HB HI0;have HK:=n0_;have HB:=n1_;have HI0:=n2_;clear n0_ n1_ n2_;(try clear hb);(try clear hb2);(try clear hk);(try clear hi)))
  go_ret
  exact⟨by first|rfl|(simp [errW_none,errW_some] <;> rfl)|(simp [*,errW_none,errW_some] <;> rfl),by repeat (first|(with_reducible first|exact HI0.out|apply IsS62.alloc|apply IsS62.drewN|apply IsS62.drew|apply IsS62.set_1|apply IsS62.set_2)|exact HI0.out),by repeat (first|(with_reducible first|exact HB.out|apply aZ|apply nZ|apply dZ|refine sZ ?_ (IsS62.ge HI0.out))|exact HB.out),by repeat (first|(with_reducible first|exact HK.out|apply KeepBut.set_|apply keep_drewN|apply keep_drew|apply keep_alloc)|exact HK.out)⟩

/-! ### spec_l01Cur_numbers: function 60 -/
def spec_l01Cur_numbers.l0 : Nat → Int → List Int → Int → List Int → Int → Int → Option (List Int × Int × Int)
 | 0, _, _, _, _, _, _ => none
 | k + 1, x2, x7, x8, x1000, x1001, x1002 => if x8 > 0 then ((spec_l01Cur_wide.f x1000 x1001 x1002 (mx 1 x2)).bind fun bt268 => (if x7.length < 17592186044416 then (spec_l01Cur_numbers.l0 k x2 (x7 ++ [bt268.1]) (wrap64 (x8 - 1)) x1000 bt268.2.1 bt268.2.2) else (none))) else (some (x7, x1001, x1002))
def spec_l01Cur_numbers.f (k : Nat) (s0_0 : List Int) (s0_1 : Int) (s0_2 : Int) (a1 : Int) (a2 : Int) : Option (List Int × Int × Int) := (spec_l01Cur_size.f s0_0 s0_1 s0_2 a1).bind fun bt265 => (spec_l01Cur_numbers.l0 k a2 (([] : List Int)) bt265.1 s0_0 bt265.2.1 bt265.2.2)
theorem spec_l01Cur_numbers.mono_l : ∀ k, (∀ y0 y1 y2 y3 y4 y5, LeO (spec_l01Cur_numbers.l0 k y0 y1 y2 y3 y4 y5) (spec_l01Cur_numbers.l0 (k + 1) y0 y1 y2 y3 y4 y5))
 | 0 => fun _ _ _ _ _ _ r h => by simp [spec_l01Cur_numbers.l0] at h
 | k + 1 => by
  have ih0 := spec_l01Cur_numbers.mono_l k
  ·intro y0 y1 y2 y3 y4 y5
   unfold spec_l01Cur_numbers.l0
   repeat' first|(with_reducible first|exact ih0 _ _ _ _ _ _|exact LeO.refl _|exact LeO.none _|refine LeO.ite ?_ ?_|refine LeO.bind ?_ (fun _ => ?_))|exact LeO.none _|refine LeO.ite ?_ ?_|refine LeO.bind ?_ (fun _ => ?_)
theorem spec_l01Cur_numbers.mono : ∀ a0 a1 a2 a3 a4 k, LeO (spec_l01Cur_numbers.f k a0 a1 a2 a3 a4) (spec_l01Cur_numbers.f (k + 1) a0 a1 a2 a3 a4) := by
 intro a0 a1 a2 a3 a4 k
 have ih0 := spec_l01Cur_numbers.mono_l k
 unfold spec_l01Cur_numbers.f
 repeat' first|(with_reducible first|exact ih0 _ _ _ _ _ _|exact LeO.refl _|exact LeO.none _|refine LeO.ite ?_ ?_|refine LeO.bind ?_ (fun _ => ?_))|exact LeO.none _|refine LeO.ite ?_ ?_|refine LeO.bind ?_ (fun _ => ?_)
set_option maxHeartbeats 8000000 in
set_option maxRecDepth 100000 in
theorem spec_l01Cur_numbers.calls (k : Nat) (g : Nat) (s0_0 : List Int) (s0_1 : Int) (s0_2 : Int) (a1 : Int) (a2 : Int) (r1 : List Int) (r2 : Int) (r3 : Int) (w0 w : World) (hI : IsS62 w0 w g s0_0 s0_1 s0_2) (hB : Below w0.heap.size w0 w) (h : spec_l01Cur_numbers.f k s0_0 s0_1 s0_2 a1 a2 = some (r1, r2, r3)) :
  Calls Try.prog 60 #[.pointer (some ⟨g, 0, none⟩), .int .i64 a1, .int .i64 a2] w fun e w' => ∃ v0_ : Value, e = .returned (v0_) ∧ Kd.R (Kd.int .i64) 3 w' w.heap.size (fun _ => True) v0_ r1 ∧ IsS62 w0 w' g s0_0 r2 r3 ∧ Below w0.heap.size w0 w' ∧ KeepBut w w' g none := by
 have HI0:=mk0 hI
 have HK:=mk0 (KeepBut.refl w g none)
 have HL:=mk0 hB.size
 clear hI
 have HW0:=mk0 hB.size
 have HB:=mk0 hB
 clear hB
 have H:((spec_l01Cur_size.f s0_0 s0_1 s0_2 a1).bind fun bt265=>(spec_l01Cur_numbers.l0 k a2 (([]:List Int)) bt265.1 s0_0 bt265.2.1 bt265.2.2)) = some (r1,r2,r3):=h
 clear h
 obtain⟨y262,hy262⟩:∃ y_:List Int,y_ = (([]:List Int)):=⟨_,rfl⟩
 replace H:((spec_l01Cur_size.f s0_0 s0_1 s0_2 a1).bind fun bt265=>(spec_l01Cur_numbers.l0 k a2 y262 bt265.1 s0_0 bt265.2.1 bt265.2.2)) = some (r1,r2,r3):=by first|(rw [hy262];with_reducible exact H)|(have H2_:=(Option.bind_some _ _).symm.trans H;rw [hy262];with_reducible exact H2_)|(have H2_:=(Option.bind_some _ _).symm.trans H;with_reducible exact H2_)|with_reducible exact H|(rw [hy262];exact H)|exact H
 have Ny262:=mk0 hy262
 clear hy262
 replace H:=Option.bind_eq_some_iff.mp H
 obtain⟨⟨t265,t266,t267⟩,A40,H⟩:=H
 replace H:(spec_l01Cur_numbers.l0 k a2 y262 t265 s0_0 t266 t267) = some (r1,r2,r3):=H
 have A4:=mk0 A40
 clear A40
 have H':=mk0 H
 clear H
 go_enter Try.func60,Try.ntmps60
 go_wp2_with (first|((with_reducible refine gate_dst (N:=9) rfl ?_);refine Kd.R_lit (Kd.int .i64) _ 3 ?hg (N:=9) ?hd (xs:=([]:List Int)) (inner:=[]) (ok:=fun _=>True) (okp:=fun _=>True) ?hr ?hp (fun _ hk=>hk) trivial (Below.refl _ _) (Nat.le_refl _) (by simp) ?_;(case hd=>rfl);(case hg=>rfl);(case hr=>first|(go_simp;done)|(go_simp;rfl));(case hp=>exact (Reps.none _ _));intro v263 w5 ho6 hb hg_ hnew_;clear hg_ hnew_;(first|rw [← Ny262.out] at ho6|(simp only [Int.reduceToNat] at ho6;rw [← Ny262.out] at ho6));have n0_:=mk0 (Kd.R_lower ho6 (keep_size (w:=w) (g:=g) (row:=none) (by repeat (first|(with_reducible first|exact HK.out|apply KeepBut.set_|apply keep_drewN|apply keep_drew|apply keep_alloc)|exact HK.out))));have n1_:=mk0 (IsS62.below (by repeat (first|(with_reducible first|exact HI0.out|apply IsS62.alloc|apply IsS62.drewN|apply IsS62.drew|apply IsS62.set_1|apply IsS62.set_2)|exact HI0.out)) hb);have n2_:=mk0 (KeepBut.trans (by repeat (first|(with_reducible first|exact HK.out|apply KeepBut.set_|apply keep_drewN|apply keep_drew|apply keep_alloc)|exact HK.out)) (KeepBut.of_below hb g none) (.inl rfl));have n3_:=mk0 (below_step (by repeat (first|(with_reducible first|exact HB.out|apply aZ|apply nZ|apply dZ|refine sZ ?_ (IsS62.ge HI0.out))|exact HB.out)) hb);clear HI0 HK HB;have HO264:=n0_;have HI0:=n1_;have HK:=n2_;have HB:=n3_;clear n0_ n1_ n2_ n3_ hb ho6)|((with_reducible refine gate_callee (f:=65) rfl ?_);refine goesL_ (some 12) rfl rfl Try.func65 (by kernel_rfl) rfl #[.pointer (some ⟨g,0,none⟩),.int .i64 a1] rfl (by (try simp only [mA,mC,mN]);first|done|rfl|(simp only [List.length_drop,List.length_take];rfl)) ?_;(with_reducible refine (spec_l01Cur_size.calls g s0_0 s0_1 s0_2 a1 t265 t266 t267 w0 _ ?side1 ?side2 A4.out).mono ?_);(case side1=>repeat (first|(with_reducible first|exact HI0.out|apply IsS62.alloc|apply IsS62.drewN|apply IsS62.drew|apply IsS62.set_1|apply IsS62.set_2)|exact HI0.out));(case side2=>repeat (first|(with_reducible first|exact HB.out|apply aZ|apply nZ|apply dZ|refine sZ ?_ (IsS62.ge HI0.out))|exact HB.out));rintro e w7 ⟨rfl,hi,hb,hk⟩;refine⟨_,rfl,?_⟩;have n0_:=mk0 (Kd.R_mono (Kd.R_keep (IsS62.apart (show IsS62 w0 _ g s0_0 s0_1 s0_2 from by repeat (first|(with_reducible first|exact HI0.out|apply IsS62.alloc|apply IsS62.drewN|apply IsS62.drew|apply IsS62.set_1|apply IsS62.set_2)|exact HI0.out)) (by (with_reducible repeat (first|apply aR|apply nR|apply dR));exact HO264.out) (by decide)) hk (fun _ h=>h.2)) (fun _ h=>h.1));have n1_:=mk0 (KeepBut.trans (by repeat (first|(with_reducible first|exact HK.out|apply KeepBut.set_|apply keep_drewN|apply keep_drew|apply keep_alloc)|exact HK.out)) hk (.inl rfl));have n2_:=mk0 (hb);have n3_:=mk0 (hi);clear HO264 HK HB HI0;have HO264:=n0_;have HK:=n1_;have HB:=n2_;have HI0:=n3_;clear n0_ n1_ n2_ n3_;(try clear hb);(try clear hb2);(try clear hk);(try clear hi)))
 go_loopg [7,8] k (fun kq v7 v8 w'=>∃ (x7_1:List Int) (x8_1:Int) (x1001_1:Int) (x1002_1:Int),v8 = .int .i64 x8_1 ∧ Aside0 (spec_l01Cur_numbers.l0 kq a2 x7_1 x8_1 s0_0 x1001_1 x1002_1 = some (r1,r2,r3)) ∧ Aside0 (kq ≤ k) ∧ Aside0 (Kd.R (Kd.int .i64) 3 w' w.heap.size (fun _=>True) v7 x7_1) ∧ Aside0 (IsS62 w0 w' g s0_0 x1001_1 x1002_1) ∧ Aside0 (KeepBut w w' g none) ∧ Aside0 (Below w0.heap.size w0 w'))
 case atStart=>exact⟨(y262),(t265),(t266),(t267),(by first|rfl|(simp;done)|(simp [*];done)),H',⟨Nat.le_refl _⟩,⟨by (with_reducible repeat (first|apply aR|apply nR|apply dR));exact HO264.out⟩,⟨by repeat (first|(with_reducible first|exact HI0.out|apply IsS62.alloc|apply IsS62.drewN|apply IsS62.drew|apply IsS62.set_1|apply IsS62.set_2)|exact HI0.out)⟩,⟨by repeat (first|(with_reducible first|exact HK.out|apply KeepBut.set_|apply keep_drewN|apply keep_drew|apply keep_alloc)|exact HK.out)⟩,⟨by repeat (first|(with_reducible first|exact HB.out|apply aZ|apply nZ|apply dZ|refine sZ ?_ (IsS62.ge HI0.out))|exact HB.out)⟩⟩
 case round =>
  clear H'
  try clear p2
  try clear c6
  obtain⟨x7_1,x8_1,x1001_1,x1002_1,rfl,HA,HK1,HO_7,HI0,HK,HB⟩:=hrel
  cases gk with
  | zero=>exact absurd HA.out (by simp [spec_l01Cur_numbers.l0])
  | succ k1 =>
   have H:=HA.out
   clear HA
   simp only [spec_l01Cur_numbers.l0] at H
   by_cases c8:x8_1 > 0
   ·rw [if_pos c8] at H
    have c8b0:decide (0 < x8_1) = true:=decide_eq_true c8
    clear c8
    obtain⟨ji9,hji9⟩:∃ j_:Int,(mx 1 a2) = j_:=⟨_,rfl⟩
    replace H:((spec_l01Cur_wide.f s0_0 x1001_1 x1002_1 (ji9)).bind fun bt268=>(if x7_1.length < 17592186044416 then (spec_l01Cur_numbers.l0 k1 a2 (x7_1 ++ [bt268.1]) (wrap64 (x8_1 - 1)) s0_0 bt268.2.1 bt268.2.2) else (none))) = some (r1,r2,r3):=by first|(rw [hji9] at H;exact H)|(simp only [hji9] at H ⊢;exact H)
    have hji9_:(if 1 < a2 then a2 else 1) = ji9:=hji9
    replace H:=Option.bind_eq_some_iff.mp H
    obtain⟨⟨t268,t269,t270⟩,A100,H⟩:=H
    replace H:(if x7_1.length < 17592186044416 then (spec_l01Cur_numbers.l0 k1 a2 (x7_1 ++ [t268]) (wrap64 (x8_1 - 1)) s0_0 t269 t270) else (none)) = some (r1,r2,r3):=H
    have A10:=mk0 A100
    clear A100
    by_cases c11:x7_1.length < 17592186044416
    ·rw [if_pos c11] at H
     have LMc11:=mk0 c11
     clear c11
     obtain⟨y271,hy271⟩:∃ y_:List Int,y_ = (x7_1 ++ [t268]):=⟨_,rfl⟩
     replace H:(spec_l01Cur_numbers.l0 k1 a2 y271 (wrap64 (x8_1 - 1)) s0_0 t269 t270) = some (r1,r2,r3):=by first|(rw [hy271];with_reducible exact H)|(have H2_:=(Option.bind_some _ _).symm.trans H;rw [hy271];with_reducible exact H2_)|(have H2_:=(Option.bind_some _ _).symm.trans H;with_reducible exact H2_)|with_reducible exact H|(rw [hy271];exact H)|exact H
     have Ny271:=mk0 hy271
     clear hy271
     have H':=mk0 H
     clear H
     go_wp2_with (first|((with_reducible refine gate_callee (f:=66) rfl ?_);refine goesL_ (some 21) rfl rfl Try.func66 (by kernel_rfl) rfl #[.pointer (some ⟨g,0,none⟩),.int .i64 ji9] rfl (by (try simp only [mA,mC,mN]);first|done|(simp only [hji9];rfl)|rfl|(simp only [List.length_drop,List.length_take];rfl)) ?_;(with_reducible refine (spec_l01Cur_wide.calls g s0_0 x1001_1 x1002_1 ji9 t268 t269 t270 w0 _ ?side1 ?side2 A10.out).mono ?_);(case side1=>repeat (first|(with_reducible first|exact HI0.out|apply IsS62.alloc|apply IsS62.drewN|apply IsS62.drew|apply IsS62.set_1|apply IsS62.set_2)|exact HI0.out));(case side2=>repeat (first|(with_reducible first|exact HB.out|apply aZ|apply nZ|apply dZ|refine sZ ?_ (IsS62.ge HI0.out))|exact HB.out));rintro e w12 ⟨rfl,hi,hb,hk⟩;refine⟨_,rfl,?_⟩;have n0_:=mk0 (Kd.R_mono (Kd.R_keep (IsS62.apart (show IsS62 w0 _ g s0_0 x1001_1 x1002_1 from by repeat (first|(with_reducible first|exact HI0.out|apply IsS62.alloc|apply IsS62.drewN|apply IsS62.drew|apply IsS62.set_1|apply IsS62.set_2)|exact HI0.out)) (by (with_reducible repeat (first|apply aR|apply nR|apply dR));exact HO_7.out) (by decide)) hk (fun _ h=>h.2)) (fun _ h=>h.1));have n1_:=mk0 (KeepBut.trans (by repeat (first|(with_reducible first|exact HK.out|apply KeepBut.set_|apply keep_drewN|apply keep_drew|apply keep_alloc)|exact HK.out)) hk (.inl rfl));have n2_:=mk0 (hb);have n3_:=mk0 (hi);clear HO_7 HK HB HI0;have HO_7:=n0_;have HK:=n1_;have HB:=n2_;have HI0:=n3_;clear n0_ n1_ n2_ n3_;(try clear hb);(try clear hb2);(try clear hk);(try clear hi))|((with_reducible refine gate_builtin (b:=.append) (xs:=#[.tmp 17,.tmp 22]) rfl ?_);at_builtin;refine Kd.R_append (Kd.int .i64) w.heap.size rfl (.tmp 17) (.tmp 22) 22 3 (.int .i64 0) 8 rfl Try.underlying22 info3 rfl (by decide) (by omega) u7 x7_1 t268 [.int .i64 t268] (fun _=>True) (fun _=>False) rfl rfl ?aP (fun _ hk=>hk.elim) ?aF ?aO (Below.refl _ _) ?aS ?aL ?_;(case aP=>exact rfl);(case aF=>exact (fun _ _=>trivial));(case aO=>exact (by (with_reducible repeat (first|apply aR|apply nR|apply dR));exact HO_7.out));(case aS=>exact (keep_size (w:=w) (g:=g) (row:=none) (by repeat (first|(with_reducible first|exact HK.out|apply KeepBut.set_|apply keep_drewN|apply keep_drew|apply keep_alloc)|exact HK.out))));(case aL=>have:=LMc11.out;omega);intro v272 w13 ho hb hg hat;rw [← Ny271.out] at ho;have n0_:=mk0 (IsS62.grown (by repeat (first|(with_reducible first|exact HI0.out|apply IsS62.alloc|apply IsS62.drewN|apply IsS62.drew|apply IsS62.set_1|apply IsS62.set_2)|exact HI0.out)) hg (IsS62.own_ne HI0.out HO_7.out (by decide)));have n1_:=mk0 (below_weaken (by repeat (first|(with_reducible first|exact HB.out|apply aZ|apply nZ|apply dZ|refine sZ ?_ (IsS62.ge HI0.out))|exact HB.out)) HL.out hb);have n2_:=mk0 (KeepBut.trans (by repeat (first|(with_reducible first|exact HK.out|apply KeepBut.set_|apply keep_drewN|apply keep_drew|apply keep_alloc)|exact HK.out)) (KeepBut.of_grown hg g) (Kd.R_base2 HO_7.out));have n3_:=mk0 (ho);clear HI0 HB HK HO_7;have HI0:=n0_;have HB:=n1_;have HK:=n2_;have HO273:=n3_;clear n0_ n1_ n2_ n3_ ho hb hg hat))
     go_roundg k1
     case measure=>have:=HK1.out;omega
     case rel=>exact⟨(y271),(wrap64 (x8_1 - 1)),(t269),(t270),(by first|rfl|(simp;done)|(simp [*];done)),H',⟨by have:=HK1.out;omega⟩,⟨by (with_reducible repeat (first|apply aR|apply nR|apply dR));exact HO273.out⟩,⟨by repeat (first|(with_reducible first|exact HI0.out|apply IsS62.alloc|apply IsS62.drewN|apply IsS62.drew|apply IsS62.set_1|apply IsS62.set_2)|exact HI0.out)⟩,⟨by repeat (first|(with_reducible first|exact HK.out|apply KeepBut.set_|apply keep_drewN|apply keep_drew|apply keep_alloc)|exact HK.out)⟩,⟨by repeat (first|(with_reducible first|exact HB.out|apply aZ|apply nZ|apply dZ|refine sZ ?_ (IsS62.ge HI0.out))|exact HB.out)⟩⟩
    ·rw [if_neg c11] at H
     exact absurd H (by simp)
   ·rw [if_neg c8] at H
    have c8b0:decide (0 < x8_1) = false:=decide_eq_false c8
    clear c8
    simp only [Option.some.injEq,Prod.mk.injEq] at H
    obtain⟨rfl,rfl,rfl⟩:=H
    go_wp2
    go_ret
    exact⟨_,by first|rfl|(simp [errW_none,errW_some] <;> rfl)|(simp [*,errW_none,errW_some] <;> rfl),by (with_reducible repeat (first|apply aR|apply nR|apply dR));exact HO_7.out,by repeat (first|(with_reducible first|exact HI0.out|apply IsS62.alloc|apply IsS62.drewN|apply IsS62.drew|apply IsS62.set_1|apply IsS62.set_2)|exact HI0.out),by repeat (first|(with_reducible first|exact HB.out|apply aZ|apply nZ|apply dZ|refine sZ ?_ (IsS62.ge HI0.out))|exact HB.out),by repeat (first|(with_reducible first|exact HK.out|apply KeepBut.set_|apply keep_drewN|apply keep_drew|apply keep_alloc)|exact HK.out)⟩

end Go.Proofs.Ytpheodpcppclaaa.QFnMins
