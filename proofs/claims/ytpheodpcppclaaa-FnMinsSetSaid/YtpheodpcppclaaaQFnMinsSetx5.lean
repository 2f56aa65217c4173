-- A walk, made by walk.py, a program of this session's.
import Derived.Test.YtpheodpcppclaaaQFnMinsSetx0
import Derived.Test.YtpheodpcppclaaaQFnMinsSetx1
import Derived.Test.YtpheodpcppclaaaQFnMinsSetx2
import Derived.Test.YtpheodpcppclaaaQFnMinsSetx3
import Derived.Test.YtpheodpcppclaaaQFnMinsSetx4
namespace Go.Proofs.Ytpheodpcppclaaa.QFnMinsSet
open Go.RowKit Go.Proofs.YtpheodpcppclaaaW.PrintWords Go.Proofs.YtpheodpcppclaaaW.PrintLast Go.Proofs.YtpheodpcppclaaaW.PrintMore
attribute [local go_sem] max2_int min2_int max_two min_two max_three min_three max_four min_four   -- for this text's walks alone
set_option linter.unusedVariables false
set_option linter.unusedSimpArgs false

/-! ### impl_MinsRange: function 26 -/
def impl_MinsRange.j0 : Nat → Int → Int → List Int → Bool → Option (Int)
 | 0, _, _, _, _ => none
 | k + 1, x1, x2, x7, x28 => if x28 = true then (some (-1)) else (if 0 ≤ x1 then (if x1 ≤ x2 then (if x2 ≤ (x7.length : Int) then ((slices_Min_int_int.f k ((x7.take (x2 : Int).toNat).drop (x1 : Int).toNat)).bind fun t208 => (some t208)) else (none)) else (none)) else (none))
def impl_MinsRange.f (k : Nat) (a0_0 : Int) (l0_1 : List Int) (a1 : Int) (a2 : Int) : Option (Int) := (impl_Mins_read.f k a0_0 l0_1).bind fun bt198 => (if bt198.2 = true then ((impl_isRange.f a1 a2 (bt198.1.length : Int)).bind fun t202 => (if t202 = true then (impl_MinsRange.j0 k a1 a2 bt198.1 (a1 == a2)) else (impl_MinsRange.j0 k a1 a2 bt198.1 true))) else (impl_MinsRange.j0 k a1 a2 bt198.1 true))
theorem impl_MinsRange.mono_l : ∀ k, (∀ y0 y1 y2 y3, LeO (impl_MinsRange.j0 k y0 y1 y2 y3) (impl_MinsRange.j0 (k + 1) y0 y1 y2 y3))
 | 0 => fun _ _ _ _ r h => by simp [impl_MinsRange.j0] at h
 | k + 1 => by
  have ih0 := impl_MinsRange.mono_l k
  ·intro y0 y1 y2 y3
   unfold impl_MinsRange.j0
   repeat' first|(with_reducible first|exact ih0 _ _ _ _|exact impl_Mins_read.mono _ _ _|exact slices_Min_int_int.mono _ _|exact LeO.refl _|exact LeO.none _|refine LeO.ite ?_ ?_|refine LeO.bind ?_ (fun _ => ?_))|exact LeO.none _|refine LeO.ite ?_ ?_|refine LeO.bind ?_ (fun _ => ?_)
theorem impl_MinsRange.mono : ∀ a0 a1 a2 a3 k, LeO (impl_MinsRange.f k a0 a1 a2 a3) (impl_MinsRange.f (k + 1) a0 a1 a2 a3) := by
 intro a0 a1 a2 a3 k
 have ih0 := impl_MinsRange.mono_l k
 unfold impl_MinsRange.f
 repeat' first|(with_reducible first|exact ih0 _ _ _ _|exact impl_Mins_read.mono _ _ _|exact slices_Min_int_int.mono _ _|exact LeO.refl _|exact LeO.none _|refine LeO.ite ?_ ?_|refine LeO.bind ?_ (fun _ => ?_))|exact LeO.none _|refine LeO.ite ?_ ?_|refine LeO.bind ?_ (fun _ => ?_)
set_option maxHeartbeats 8000000 in
set_option maxRecDepth 100000 in
theorem impl_MinsRange.calls (k : Nat) (a0_0 : Int) (A0_1 : Option Addr) (c0_1 : Nat) (l0_1 : List Int) (a1 : Int) (a2 : Int) (r : Int) (w : World) (hr0_1 : Kd.C (Kd.int .i64) w A0_1 l0_1.length l0_1) (hc0_1 : l0_1.length ≤ c0_1) (h : impl_MinsRange.f k a0_0 l0_1 a1 a2 = some r) :
  Calls Try.prog 26 #[.agg #[.int .i64 a0_0, .slice A0_1 l0_1.length c0_1], .int .i64 a1, .int .i64 a2] w fun e w' => e = .returned (.int .i64 r) ∧ Below w.heap.size w w' := by
 have hu24:=Try.underlying24
 have HR0_1:=mk0 hr0_1
 have HC0_1:=mk0 hc0_1
 clear hr0_1 hc0_1
 have HB:=mk0 (Below.refl w.heap.size w)
 have H:((impl_Mins_read.f k a0_0 l0_1).bind fun bt198=>(if bt198.2 = true then ((impl_isRange.f a1 a2 (bt198.1.length:Int)).bind fun t202=>(if t202 = true then (impl_MinsRange.j0 k a1 a2 bt198.1 (a1 == a2)) else (impl_MinsRange.j0 k a1 a2 bt198.1 true))) else (impl_MinsRange.j0 k a1 a2 bt198.1 true))) = some r:=h
 clear h
 replace H:=Option.bind_eq_some_iff.mp H
 obtain⟨⟨t198,t201⟩,A40,H⟩:=H
 replace H:(if t201 = true then ((impl_isRange.f a1 a2 (t198.length:Int)).bind fun t202=>(if t202 = true then (impl_MinsRange.j0 k a1 a2 t198 (a1 == a2)) else (impl_MinsRange.j0 k a1 a2 t198 true))) else (impl_MinsRange.j0 k a1 a2 t198 true)) = some r:=H
 have A4:=mk0 A40
 clear A40
 have HC5:=mk0 H
 clear H
 go_enter Try.func26,Try.ntmps26
 go_upto_region 2 with (first|((with_reducible refine gate_dst (N:=3) rfl ?_);(try (refine gate_guard (by rfl) ?_;dsimp only));refine box_event ?hg (N:=3) ?hd (cs:=#[.int .i64 a0_0,.slice A0_1 l0_1.length c0_1]) (t:=24) ?hr ?_;(case hd=>rfl);(case hg=>rfl);(case hr=>first|(go_simp;done)|(go_simp;rfl));intro gb197 hg w6 hbox hb;have n0_:=mk0 (below_step (by repeat (first|(with_reducible first|exact HB.out|apply aZ|apply nZ|apply dZ)|exact HB.out)) hb);have n1_:=mk0 (hbox);have n2_:=mk0 ((by rw [hg];exact (below_size (by repeat (first|(with_reducible first|exact HB.out|apply aZ|apply nZ|apply dZ)|exact HB.out))):w.heap.size ≤ gb197));have n3_:=mk0 ((by rw [hg];exact (below_size (by repeat (first|(with_reducible first|exact HB.out|apply aZ|apply nZ|apply dZ)|exact HB.out))):w.heap.size ≤ gb197));clear HB;have HB:=n0_;have BK197:=n1_;have GW197:=n2_;have GE197:=n3_;clear n0_ n1_ n2_ n3_ hb hbox hg;have hcz7_0:w6.cell? ⟨gb197,0,none⟩ = some (.int .i64 a0_0):=(blk_cell BK197.out 0).trans rfl;have hcz7_1:w6.cell? ⟨gb197,1,none⟩ = some (.slice A0_1 l0_1.length c0_1):=(blk_cell BK197.out 1).trans rfl;have hfz7_0:=blk_frozen BK197.out 0;have hfz7_1:=blk_frozen BK197.out 1)|((with_reducible refine gate_callee (f:=43) rfl ?_);refine goesL_ (some 11) rfl rfl Try.func43 (by kernel_rfl) rfl #[.agg #[.int .i64 a0_0,.slice A0_1 l0_1.length c0_1]] rfl (by (try simp only [mA,mC,mN]);first|done|rfl|(simp only [List.length_drop,List.length_take];rfl)) ?_;(with_reducible refine (impl_Mins_read.calls k a0_0 (fun k_=>k_ < w.heap.size) _ _ l0_1 t198 t201 _ ?side1 A4.out).mono ?_);(case side1=>exact Kd.V_mk HC0_1.out (Kd.F_below (Kd.C_F (Kd.heap_int .i64) HR0_1.out) (by repeat (first|(with_reducible first|exact HB.out|apply aZ|apply nZ|apply dZ|refine sZ ?_ GE197.out)|exact HB.out))));rintro e w8 ⟨v199,rfl,ho0,hb⟩;refine⟨_,rfl,?_⟩;have n0_:=mk0 (Kd.V_lower (Kd.V_mono (ok':=fun k_=>k_ ≠ gb197) ho0 (fun k_ hk_=>Or.elim hk_ (fun hs_=>fun e_=>Nat.not_le.2 hs_ (by rw [e_];exact GW197.out)) (fun hn_=>(Kd.freshB (g:=gb197) (o:=.cells #[.int .i64 a0_0,.slice A0_1 l0_1.length c0_1] 24 (0,0)) (by (with_reducible repeat (first|apply nB|apply dB|apply aB));exact BK197.out) k_ hn_)))) (below_size (by repeat (first|(with_reducible first|exact HB.out|apply aZ|apply nZ|apply dZ|refine sZ ?_ GE197.out)|exact HB.out))));have n1_:=mk0 (blk_below (g:=gb197) (o:=.cells #[.int .i64 a0_0,.slice A0_1 l0_1.length c0_1] 24 (0,0)) (by (with_reducible repeat (first|apply nB|apply dB|apply aB));exact BK197.out) hb);have n2_:=mk0 (below_step (by repeat (first|(with_reducible first|exact HB.out|apply aZ|apply nZ|apply dZ|refine sZ ?_ GE197.out)|exact HB.out)) hb);clear BK197 HB;have HO200:=n0_;have BK197:=n1_;have HB:=n2_;clear n0_ n1_ n2_;(try clear hb);(try clear hb2);(try clear hk);(try clear hi);(try clear ho0)))
 (try simp only [Act.put,sA,sO,sS])
 go_cut [28] (fun v28 wc=>∃ (kq:Nat) (x28_4:Bool),v28 = .bool x28_4 ∧ Aside0 (impl_MinsRange.j0 kq a1 a2 t198 x28_4 = some r) ∧ Aside0 (kq ≤ k) ∧ Aside0 (Kd.V (Kd.int .i64) 3 wc w.heap.size (fun k_=>k_ ≠ gb197) v199 t198) ∧ Aside0 (wc.heap[gb197]? = some (.cells #[.int .i64 a0_0,(.slice A0_1 l0_1.length c0_1)] 24 (0,0))) ∧ Aside0 (Below w.heap.size w wc))
 case first =>
  have H:=HC5.out
  clear HC5
  by_cases c9:t201 = true
  ·subst c9
   have H1:((impl_isRange.f a1 a2 (t198.length:Int)).bind fun t202=>(if t202 = true then (impl_MinsRange.j0 k a1 a2 t198 (a1 == a2)) else (impl_MinsRange.j0 k a1 a2 t198 true))) = some r:=by rw [if_pos rfl] at H;exact H
   clear H
   have H:=H1
   clear H1
   replace H:=Option.bind_eq_some_iff.mp H
   obtain⟨t202,A100,H⟩:=H
   replace H:(if t202 = true then (impl_MinsRange.j0 k a1 a2 t198 (a1 == a2)) else (impl_MinsRange.j0 k a1 a2 t198 true)) = some r:=H
   have A10:=mk0 A100
   clear A100
   by_cases c11:t202 = true
   ·subst c11
    have H1:(impl_MinsRange.j0 k a1 a2 t198 (a1 == a2)) = some r:=by rw [if_pos rfl] at H;exact H
    clear H
    have H:=H1
    clear H1
    have H':=mk0 H
    clear H
    obtain⟨Ao12,co12,eo12⟩:=Kd.V_slice HO200.out
    subst eo12
    go_wp2_with (first|(go_at_call 45;(with_reducible refine (impl_isRange.calls a1 a2 (t198.length:Int) true _ A10.out).mono ?_);rintro e w' ⟨rfl,⟨nd,rfl⟩⟩))
    go_meet
    case rel=>exact⟨_,((a1 == a2)),(by first|rfl|(simp;done)|(simp [*];done)),H',⟨by first|omega|exact Nat.le_refl _⟩,⟨by (with_reducible repeat (first|apply aV|apply nV|apply dV));exact HO200.out⟩,⟨by (with_reducible repeat (first|apply nB|apply dB|apply aB));exact BK197.out⟩,⟨by repeat (first|(with_reducible first|exact HB.out|apply aZ|apply nZ|apply dZ|refine sZ ?_ GE197.out)|exact HB.out)⟩⟩
   ·replace c11:=Bool.eq_false_iff.mpr c11
    subst c11
    have H1:(impl_MinsRange.j0 k a1 a2 t198 true) = some r:=by rw [if_neg (show ¬ (false = true) by decide)] at H;exact H
    clear H
    have H:=H1
    clear H1
    have H':=mk0 H
    clear H
    obtain⟨Ao13,co13,eo13⟩:=Kd.V_slice HO200.out
    subst eo13
    go_wp2_with (first|(go_at_call 45;(with_reducible refine (impl_isRange.calls a1 a2 (t198.length:Int) false _ A10.out).mono ?_);rintro e w' ⟨rfl,⟨nd,rfl⟩⟩))
    go_meet
    case rel=>exact⟨_,(true),(by first|rfl|(simp;done)|(simp [*];done)),H',⟨by first|omega|exact Nat.le_refl _⟩,⟨by (with_reducible repeat (first|apply aV|apply nV|apply dV));exact HO200.out⟩,⟨by (with_reducible repeat (first|apply nB|apply dB|apply aB));exact BK197.out⟩,⟨by repeat (first|(with_reducible first|exact HB.out|apply aZ|apply nZ|apply dZ|refine sZ ?_ GE197.out)|exact HB.out)⟩⟩
  ·replace c9:=Bool.eq_false_iff.mpr c9
   subst c9
   have H1:(impl_MinsRange.j0 k a1 a2 t198 true) = some r:=by rw [if_neg (show ¬ (false = true) by decide)] at H;exact H
   clear H
   have H:=H1
   clear H1
   have H':=mk0 H
   clear H
   go_wp2
   go_meet
   case rel=>exact⟨_,(true),(by first|rfl|(simp;done)|(simp [*];done)),H',⟨by first|omega|exact Nat.le_refl _⟩,⟨by (with_reducible repeat (first|apply aV|apply nV|apply dV));exact HO200.out⟩,⟨by (with_reducible repeat (first|apply nB|apply dB|apply aB));exact BK197.out⟩,⟨by repeat (first|(with_reducible first|exact HB.out|apply aZ|apply nZ|apply dZ|refine sZ ?_ GE197.out)|exact HB.out)⟩⟩
 case rest =>
  clear HC5
  try clear c1
  try clear c2
  try clear p2
  try clear c4
  try clear c9
  try clear c11
  try clear hcz7_0
  try clear hcz7_1
  try clear hfz7_0
  try clear hfz7_1
  obtain⟨kq,x28_4,rfl,HA,HJ4,HO_7,BK197,HB⟩:=hcut
  cases kq with
  | zero=>exact absurd HA.out (by simp [impl_MinsRange.j0])
  | succ kj4 =>
   have H:=HA.out
   clear HA
   simp only [impl_MinsRange.j0] at H
   by_cases c14:x28_4 = true
   ·subst c14
    have H1:(some (-1)) = some r:=by rw [if_pos rfl] at H;exact H
    clear H
    have H:=H1
    clear H1
    obtain rfl:=Option.some.inj H
    go_wp2
    go_ret
    exact⟨by first|rfl|(simp [errW_none,errW_some] <;> rfl)|(simp [*,errW_none,errW_some] <;> rfl),by repeat (first|(with_reducible first|exact HB.out|apply aZ|apply nZ|apply dZ|refine sZ ?_ GE197.out)|exact HB.out)⟩
   ·replace c14:=Bool.eq_false_iff.mpr c14
    subst c14
    have H1:(if 0 ≤ a1 then (if a1 ≤ a2 then (if a2 ≤ (t198.length:Int) then ((slices_Min_int_int.f kj4 ((t198.take (a2:Int).toNat).drop (a1:Int).toNat)).bind fun t208=>(some t208)) else (none)) else (none)) else (none)) = some r:=by rw [if_neg (show ¬ (false = true) by decide)] at H;exact H
    clear H
    have H:=H1
    clear H1
    by_cases c15:0 ≤ a1
    ·rw [if_pos c15] at H
     have c15b0:=eq_true c15
     have c15b1:decide (0 ≤ a1) = true:=decide_eq_true c15
     clear c15
     by_cases c16:a1 ≤ a2
     ·rw [if_pos c16] at H
      have c16b0:=eq_true c16
      have c16b1:decide (a1 ≤ a2) = true:=decide_eq_true c16
      clear c16
      by_cases c17:a2 ≤ (t198.length:Int)
      ·rw [if_pos c17] at H
       have c17b0:=eq_true c17
       have c17b1:decide (a2 ≤ (t198.length:Int)) = true:=decide_eq_true c17
       clear c17
       obtain⟨y203,hy203⟩:∃ y_:List Int,y_ = ((t198.take (a2:Int).toNat).drop (a1:Int).toNat):=⟨_,rfl⟩
       replace H:((slices_Min_int_int.f kj4 y203).bind fun t208=>(some t208)) = some r:=by first|(rw [hy203];with_reducible exact H)|(have H2_:=(Option.bind_some _ _).symm.trans H;rw [hy203];with_reducible exact H2_)|(have H2_:=(Option.bind_some _ _).symm.trans H;with_reducible exact H2_)|with_reducible exact H|(rw [hy203];exact H)|exact H
       have Ny203:=mk0 hy203
       clear hy203
       replace H:=Option.bind_eq_some_iff.mp H
       obtain⟨t208,A180,H⟩:=H
       replace H:(some t208) = some r:=H
       have A18:=mk0 A180
       clear A180
       obtain rfl:=Option.some.inj H
       obtain⟨Ao20,co20,eo20⟩:=Kd.V_slice HO_7.out
       subst eo20
       have q19:(a2:Int) ≤ ((t198.length:Int):Int):=of_decide_eq_true (by first|(with_reducible assumption)|assumption)
       obtain⟨i019,hi019,_,hsz19,_⟩:=info_parts info3
       have hroom19:t198.length ≤ co20:=(Kd.V_reads' HO_7.out).2.1
       have hC19:Kd.F (Kd.int .i64) _ _ Ao20 t198.length t198:=(Kd.V_at (base:=w.heap.size) HO_7.out).2.2
       have ql19:(a1:Int) ≤ (a2:Int):=of_decide_eq_true (by first|(with_reducible assumption)|assumption)
       have q019:(0:Int) ≤ (a1:Int):=of_decide_eq_true (by first|(with_reducible assumption)|assumption)
       have hcut19:=cut_mid (P:=Try.prog) 22 3 .i64 .i64 Try.underlying22 hi019 1 hsz19 Ao20 t198.length co20 a1 a2 q019 ql19 q19 hroom19
       have hr19:=Kd.F_mid (lo:=(a1:Int).toNat) (hi:=(a2:Int).toNat) (c:=co20) hC19 (by omega) (by omega) hroom19
       obtain⟨A19,hA19⟩:∃ A1,A1 = (if co20 = (a1:Int).toNat then Ao20 else (Ao20:Option Addr).map (·.add ((a1:Int).toNat * 1))):=⟨_,rfl⟩
       obtain⟨c19,hc19⟩:∃ c1,c1 = co20 - (a1:Int).toNat:=⟨_,rfl⟩
       have hy19:y203.length = (a2:Int).toNat - (a1:Int).toNat:=(by rw [Ny203.out,List.length_drop,List.length_take] <;> omega)
       rw [show ((t198).take (a2:Int).toNat).drop (a1:Int).toNat = y203 from Ny203.out.symm] at hr19
       replace hr19:Kd.F (Kd.int .i64) _ _ A19 y203.length y203:=(by rw [hA19];exact hr19)
       rw [← hy19, ← hA19, ← hc19] at hcut19
       have HO207:=mk0 (show Kd.V (Kd.int .i64) 3 _ w.heap.size _ (.slice A19 y203.length c19) y203 from Kd.V_mk (by rw [hy19,hc19];exact Nat.sub_le_sub_right (Nat.le_trans (by omega) hroom19) _) hr19)
       have HC207:=mk0 (show y203.length ≤ c19 from by rw [hy19,hc19];exact Nat.sub_le_sub_right (Nat.le_trans (by omega) hroom19) _)
       clear hr19 hC19 hroom19 hi019 hsz19 hc19
       have KY19:=mk0 hy19
       have KA19:=mk0 hA19
       clear hy19 hA19
       replace q19:=eq_true q19
       go_wp2_with (first|((with_reducible refine gate_callee (f:=46) rfl ?_);refine goesL_ (some 33) rfl rfl Try.func46 (by kernel_rfl) rfl #[.slice A19 y203.length c19] rfl (by (try simp only [mA,mC,mN]);first|done|rfl|(simp only [List.length_drop,List.length_take];rfl)) ?_;(with_reducible refine (slices_Min_int_int.calls kj4 _ _ y203 t208 _ ?side1 ?side2 A18.out).mono ?_);(case side1=>repeat (first|exact (Kd.V_reads' HO207.out).2.2|(with_reducible first|apply aC|apply nC|apply dC)));(case side2=>exact (Kd.V_reads' HO207.out).2.1);rintro e w21 ⟨rfl,hb⟩;refine⟨_,rfl,?_⟩;have n0_:=mk0 (Kd.V_below (by (with_reducible repeat (first|apply aV|apply nV|apply dV));exact HO_7.out) hb);have n1_:=mk0 (Kd.V_below (by (with_reducible repeat (first|apply aV|apply nV|apply dV));exact HO207.out) hb);have n2_:=mk0 (blk_below (g:=gb197) (o:=.cells #[.int .i64 a0_0,.slice A0_1 l0_1.length c0_1] 24 (0,0)) (by (with_reducible repeat (first|apply nB|apply dB|apply aB));exact BK197.out) hb);have n3_:=mk0 (below_step (by repeat (first|(with_reducible first|exact HB.out|apply aZ|apply nZ|apply dZ|refine sZ ?_ GE197.out)|exact HB.out)) hb);clear HO_7 HO207 BK197 HB;have HO_7:=n0_;have HO207:=n1_;have BK197:=n2_;have HB:=n3_;clear n0_ n1_ n2_ n3_;(try clear hb);(try clear hb2);(try clear hk);(try clear hi)))
       go_ret
       exact⟨by first|rfl|(simp [errW_none,errW_some] <;> rfl)|(simp [*,errW_none,errW_some] <;> rfl),by repeat (first|(with_reducible first|exact HB.out|apply aZ|apply nZ|apply dZ|refine sZ ?_ GE197.out)|exact HB.out)⟩
      ·rw [if_neg c17] at H
       exact absurd H (by simp)
     ·rw [if_neg c16] at H
      exact absurd H (by simp)
    ·rw [if_neg c15] at H
     exact absurd H (by simp)

/-! ### spec_MinsList: function 27 -/
def spec_MinsList.f (k : Nat) (a0_0 : Int) (l0_1 : List Int) : Option (List Int) := (spec_MinsOk.f k a0_0 l0_1).bind fun t210 => (if t210 = true then ((spec_l10List.f k a0_0 l0_1).bind fun t211 => (some t211)) else (some ([] : List Int)))
theorem spec_MinsList.mono : ∀ a0 a1 k, LeO (spec_MinsList.f k a0 a1) (spec_MinsList.f (k + 1) a0 a1) := by
 intro a0 a1 k
 unfold spec_MinsList.f
 repeat' first|(with_reducible first|exact spec_MinsOk.mono _ _ _|exact spec_l10List.mono _ _ _|exact LeO.refl _|exact LeO.none _|refine LeO.ite ?_ ?_|refine LeO.bind ?_ (fun _ => ?_))|exact LeO.none _|refine LeO.ite ?_ ?_|refine LeO.bind ?_ (fun _ => ?_)
set_option maxHeartbeats 8000000 in
set_option maxRecDepth 100000 in
theorem spec_MinsList.calls (k : Nat) (a0_0 : Int) (A0_1 : Option Addr) (c0_1 : Nat) (l0_1 : List Int) (r : List Int) (w : World) (hr0_1 : Kd.C (Kd.int .i64) w A0_1 l0_1.length l0_1) (hc0_1 : l0_1.length ≤ c0_1) (h : spec_MinsList.f k a0_0 l0_1 = some r) :
  Calls Try.prog 27 #[.agg #[.int .i64 a0_0, .slice A0_1 l0_1.length c0_1]] w fun e w' => ∃ v0_ : Value, e = .returned (v0_) ∧ Kd.R (Kd.int .i64) 3 w' w.heap.size (fun _ => True) v0_ r ∧ Below w.heap.size w w' := by
 have hu24:=Try.underlying24
 have HR0_1:=mk0 hr0_1
 have HC0_1:=mk0 hc0_1
 clear hr0_1 hc0_1
 have HB:=mk0 (Below.refl w.heap.size w)
 have H:((spec_MinsOk.f k a0_0 l0_1).bind fun t210=>(if t210 = true then ((spec_l10List.f k a0_0 l0_1).bind fun t211=>(some t211)) else (some ([]:List Int)))) = some r:=h
 clear h
 replace H:=Option.bind_eq_some_iff.mp H
 obtain⟨t210,A20,H⟩:=H
 replace H:(if t210 = true then ((spec_l10List.f k a0_0 l0_1).bind fun t211=>(some t211)) else (some ([]:List Int))) = some r:=H
 have A2:=mk0 A20
 clear A20
 by_cases c3:t210 = true
 ·subst c3
  have H1:((spec_l10List.f k a0_0 l0_1).bind fun t211=>(some t211)) = some r:=by rw [if_pos rfl] at H;exact H
  clear H
  have H:=H1
  clear H1
  replace H:=Option.bind_eq_some_iff.mp H
  obtain⟨t211,A40,H⟩:=H
  replace H:(some t211) = some r:=H
  have A4:=mk0 A40
  clear A40
  obtain rfl:=Option.some.inj H
  go_enter Try.func27,Try.ntmps27
  go_wp2_with (first|((with_reducible refine gate_dst (N:=1) rfl ?_);refine box_event ?hg (N:=1) ?hd (cs:=#[.int .i64 a0_0,.slice A0_1 l0_1.length c0_1]) (t:=24) ?hr ?_;(case hd=>rfl);(case hg=>rfl);(case hr=>first|(go_simp;done)|(go_simp;rfl));intro gb209 hg w5 hbox hb;have n0_:=mk0 (below_step (by repeat (first|(with_reducible first|exact HB.out|apply aZ|apply nZ|apply dZ)|exact HB.out)) hb);have n1_:=mk0 (hbox);have n2_:=mk0 ((by rw [hg];exact (below_size (by repeat (first|(with_reducible first|exact HB.out|apply aZ|apply nZ|apply dZ)|exact HB.out))):w.heap.size ≤ gb209));have n3_:=mk0 ((by rw [hg];exact (below_size (by repeat (first|(with_reducible first|exact HB.out|apply aZ|apply nZ|apply dZ)|exact HB.out))):w.heap.size ≤ gb209));clear HB;have HB:=n0_;have BK209:=n1_;have GW209:=n2_;have GE209:=n3_;clear n0_ n1_ n2_ n3_ hb hbox hg;have hcz6_0:w5.cell? ⟨gb209,0,none⟩ = some (.int .i64 a0_0):=(blk_cell BK209.out 0).trans rfl;have hcz6_1:w5.cell? ⟨gb209,1,none⟩ = some (.slice A0_1 l0_1.length c0_1):=(blk_cell BK209.out 1).trans rfl;have hfz6_0:=blk_frozen BK209.out 0;have hfz6_1:=blk_frozen BK209.out 1)|((with_reducible refine gate_callee (f:=41) rfl ?_);refine goesL_ (some 4) rfl rfl Try.func41 (by kernel_rfl) rfl #[.agg #[.int .i64 a0_0,.slice A0_1 l0_1.length c0_1]] rfl (by (try simp only [mA,mC,mN]);first|done|rfl|(simp only [List.length_drop,List.length_take];rfl)) ?_;(with_reducible refine (spec_MinsOk.calls k a0_0 _ _ l0_1 true _ ?side1 ?side2 A2.out).mono ?_);(case side1=>repeat (first|exact (Kd.C_below HR0_1.out HB.out)|(with_reducible first|apply aC|apply nC|apply dC)));(case side2=>exact HC0_1.out);rintro e w7 ⟨rfl,hb⟩;refine⟨_,rfl,?_⟩;have n0_:=mk0 (blk_below (g:=gb209) (o:=.cells #[.int .i64 a0_0,.slice A0_1 l0_1.length c0_1] 24 (0,0)) (by (with_reducible repeat (first|apply nB|apply dB|apply aB));exact BK209.out) hb);have n1_:=mk0 (below_step (by repeat (first|(with_reducible first|exact HB.out|apply aZ|apply nZ|apply dZ|refine sZ ?_ GE209.out)|exact HB.out)) hb);clear BK209 HB;have BK209:=n0_;have HB:=n1_;clear n0_ n1_;(try clear hb);(try clear hb2);(try clear hk);(try clear hi);have hcz8_0:w7.cell? ⟨gb209,0,none⟩ = some (.int .i64 a0_0):=(blk_cell BK209.out 0).trans rfl;have hcz8_1:w7.cell? ⟨gb209,1,none⟩ = some (.slice A0_1 l0_1.length c0_1):=(blk_cell BK209.out 1).trans rfl;have hfz8_0:=blk_frozen BK209.out 0;have hfz8_1:=blk_frozen BK209.out 1)|((with_reducible refine gate_callee (f:=42) rfl ?_);refine goesL_ (some 7) rfl rfl Try.func42 (by kernel_rfl) rfl #[.agg #[.int .i64 a0_0,.slice A0_1 l0_1.length c0_1]] rfl (by (try simp only [mA,mC,mN]);first|done|rfl|(simp only [List.length_drop,List.length_take];rfl)) ?_;(with_reducible refine (spec_l10List.calls k a0_0 _ _ l0_1 t211 _ ?side1 ?side2 A4.out).mono ?_);(case side1=>repeat (first|exact (Kd.C_below HR0_1.out HB.out)|(with_reducible first|apply aC|apply nC|apply dC)));(case side2=>exact HC0_1.out);rintro e w9 ⟨v212,rfl,ho0,hb⟩;refine⟨_,rfl,?_⟩;have n0_:=mk0 (Kd.R_lower ho0 (below_size (by repeat (first|(with_reducible first|exact HB.out|apply aZ|apply nZ|apply dZ|refine sZ ?_ GE209.out)|exact HB.out))));have n1_:=mk0 (blk_below (g:=gb209) (o:=.cells #[.int .i64 a0_0,.slice A0_1 l0_1.length c0_1] 24 (0,0)) (by (with_reducible repeat (first|apply nB|apply dB|apply aB));exact BK209.out) hb);have n2_:=mk0 (below_step (by repeat (first|(with_reducible first|exact HB.out|apply aZ|apply nZ|apply dZ|refine sZ ?_ GE209.out)|exact HB.out)) hb);clear BK209 HB;have HO213:=n0_;have BK209:=n1_;have HB:=n2_;clear n0_ n1_ n2_;(try clear hb);(try clear hb2);(try clear hk);(try clear hi);(try clear ho0)))
  go_ret
  exact⟨_,by first|rfl|(simp [errW_none,errW_some] <;> rfl)|(simp [*,errW_none,errW_some] <;> rfl),by (with_reducible repeat (first|apply aR|apply nR|apply dR));exact HO213.out,by repeat (first|(with_reducible first|exact HB.out|apply aZ|apply nZ|apply dZ|refine sZ ?_ GE209.out)|exact HB.out)⟩
 ·replace c3:=Bool.eq_false_iff.mpr c3
  subst c3
  have H1:(some ([]:List Int)) = some r:=by rw [if_neg (show ¬ (false = true) by decide)] at H;exact H
  clear H
  have H:=H1
  clear H1
  obtain rfl:=Option.some.inj H
  go_enter Try.func27,Try.ntmps27
  go_wp2_with (first|((with_reducible refine gate_dst (N:=1) rfl ?_);refine box_event ?hg (N:=1) ?hd (cs:=#[.int .i64 a0_0,.slice A0_1 l0_1.length c0_1]) (t:=24) ?hr ?_;(case hd=>rfl);(case hg=>rfl);(case hr=>first|(go_simp;done)|(go_simp;rfl));intro gb209 hg w10 hbox hb;have n0_:=mk0 (below_step (by repeat (first|(with_reducible first|exact HB.out|apply aZ|apply nZ|apply dZ)|exact HB.out)) hb);have n1_:=mk0 (hbox);have n2_:=mk0 ((by rw [hg];exact (below_size (by repeat (first|(with_reducible first|exact HB.out|apply aZ|apply nZ|apply dZ)|exact HB.out))):w.heap.size ≤ gb209));have n3_:=mk0 ((by rw [hg];exact (below_size (by repeat (first|(with_reducible first|exact HB.out|apply aZ|apply nZ|apply dZ)|exact HB.out))):w.heap.size ≤ gb209));clear HB;have HB:=n0_;have BK209:=n1_;have GW209:=n2_;have GE209:=n3_;clear n0_ n1_ n2_ n3_ hb hbox hg;have hcz11_0:w10.cell? ⟨gb209,0,none⟩ = some (.int .i64 a0_0):=(blk_cell BK209.out 0).trans rfl;have hcz11_1:w10.cell? ⟨gb209,1,none⟩ = some (.slice A0_1 l0_1.length c0_1):=(blk_cell BK209.out 1).trans rfl;have hfz11_0:=blk_frozen BK209.out 0;have hfz11_1:=blk_frozen BK209.out 1)|((with_reducible refine gate_callee (f:=41) rfl ?_);refine goesL_ (some 4) rfl rfl Try.func41 (by kernel_rfl) rfl #[.agg #[.int .i64 a0_0,.slice A0_1 l0_1.length c0_1]] rfl (by (try simp only [mA,mC,mN]);first|done|rfl|(simp only [List.length_drop,List.length_take];rfl)) ?_;(with_reducible refine (spec_MinsOk.calls k a0_0 _ _ l0_1 false _ ?side1 ?side2 A2.out).mono ?_);(case side1=>repeat (first|exact (Kd.C_below HR0_1.out HB.out)|(with_reducible first|apply aC|apply nC|apply dC)));(case side2=>exact HC0_1.out);rintro e w12 ⟨rfl,hb⟩;refine⟨_,rfl,?_⟩;have n0_:=mk0 (blk_below (g:=gb209) (o:=.cells #[.int .i64 a0_0,.slice A0_1 l0_1.length c0_1] 24 (0,0)) (by (with_reducible repeat (first|apply nB|apply dB|apply aB));exact BK209.out) hb);have n1_:=mk0 (below_step (by repeat (first|(with_reducible first|exact HB.out|apply aZ|apply nZ|apply dZ|refine sZ ?_ GE209.out)|exact HB.out)) hb);clear BK209 HB;have BK209:=n0_;have HB:=n1_;clear n0_ n1_;(try clear hb);(try clear hb2);(try clear hk);(try clear hi)))
  go_ret
  exact⟨_,by first|rfl|(simp [errW_none,errW_some] <;> rfl)|(simp [*,errW_none,errW_some] <;> rfl),by first|exact Kd.R_nil _ _ _ _ _|exact Kd.N_nil _ _ _ _ _|exact Kd.V_nil _ _ _ _ _|exact Kd.Q_nil _ _ _ _ _|exact Kd.S_nil _ _ _ _ _,by repeat (first|(with_reducible first|exact HB.out|apply aZ|apply nZ|apply dZ|refine sZ ?_ GE209.out)|exact HB.out)⟩

/-! ### spec_MinsSet: function 30 -/
def spec_MinsSet.j0 : Nat → Int → Int → Bool → Int → List Int → Option (Int × List Int × Bool)
 | 0, _, _, _, _, _ => none
 | k + 1, x1, x2, x21, x215000, x215001 => if x21 = true then (some (0, ([] : List Int), false)) else ((spec_l10List.f k x215000 x215001).bind fun t217 => (if 0 ≤ x1 then (if x1 < (t217.length : Int) then ((spec_MinsOf.f k (t217.set (x1 : Int).toNat x2)).bind fun bt221 => (some (bt221.1, bt221.2.1, bt221.2.2))) else (none)) else (none)))
def spec_MinsSet.f (k : Nat) (a0_0 : Int) (l0_1 : List Int) (a1 : Int) (a2 : Int) : Option (Int × List Int × Bool) := (spec_MinsOk.f k a0_0 l0_1).bind fun t216 => (if t216 = true then (if a1 < 0 then (spec_MinsSet.j0 k a1 a2 true a0_0 l0_1) else (spec_MinsSet.j0 k a1 a2 (decide (a1 ≥ a0_0)) a0_0 l0_1)) else (spec_MinsSet.j0 k a1 a2 true a0_0 l0_1))
theorem spec_MinsSet.mono_l : ∀ k, (∀ y0 y1 y2 y3 y4, LeO (spec_MinsSet.j0 k y0 y1 y2 y3 y4) (spec_MinsSet.j0 (k + 1) y0 y1 y2 y3 y4))
 | 0 => fun _ _ _ _ _ r h => by simp [spec_MinsSet.j0] at h
 | k + 1 => by
  have ih0 := spec_MinsSet.mono_l k
  ·intro y0 y1 y2 y3 y4
   unfold spec_MinsSet.j0
   repeat' first|(with_reducible first|exact ih0 _ _ _ _ _|exact spec_MinsOf.mono _ _|exact spec_MinsOk.mono _ _ _|exact spec_l10List.mono _ _ _|exact LeO.refl _|exact LeO.none _|refine LeO.ite ?_ ?_|refine LeO.bind ?_ (fun _ => ?_))|exact LeO.none _|refine LeO.ite ?_ ?_|refine LeO.bind ?_ (fun _ => ?_)
theorem spec_MinsSet.mono : ∀ a0 a1 a2 a3 k, LeO (spec_MinsSet.f k a0 a1 a2 a3) (spec_MinsSet.f (k + 1) a0 a1 a2 a3) := by
 intro a0 a1 a2 a3 k
 have ih0 := spec_MinsSet.mono_l k
 unfold spec_MinsSet.f
 repeat' first|(with_reducible first|exact ih0 _ _ _ _ _|exact spec_MinsOf.mono _ _|exact spec_MinsOk.mono _ _ _|exact spec_l10List.mono _ _ _|exact LeO.refl _|exact LeO.none _|refine LeO.ite ?_ ?_|refine LeO.bind ?_ (fun _ => ?_))|exact LeO.none _|refine LeO.ite ?_ ?_|refine LeO.bind ?_ (fun _ => ?_)
set_option maxHeartbeats 8000000 in
set_option maxRecDepth 100000 in
theorem spec_MinsSet.calls (k : Nat) (a0_0 : Int) (A0_1 : Option Addr) (c0_1 : Nat) (l0_1 : List Int) (a1 : Int) (a2 : Int) (r1 : Int) (r2 : List Int) (r3 : Bool) (w : World) (hr0_1 : Kd.C (Kd.int .i64) w A0_1 l0_1.length l0_1) (hc0_1 : l0_1.length ≤ c0_1) (h : spec_MinsSet.f k a0_0 l0_1 a1 a2 = some (r1, r2, r3)) :
  Calls Try.prog 30 #[.agg #[.int .i64 a0_0, .slice A0_1 l0_1.length c0_1], .int .i64 a1, .int .i64 a2] w fun e w' => ∃ v1_ : Value, e = .returned (.tuple #[.agg #[.int .i64 r1, v1_], .bool r3]) ∧ Kd.R (Kd.int .i64) 3 w' w.heap.size (fun _ => True) v1_ r2 ∧ Below w.heap.size w w' := by
 have hu24:=Try.underlying24
 have HR0_1:=mk0 hr0_1
 have HC0_1:=mk0 hc0_1
 clear hr0_1 hc0_1
 have HB:=mk0 (Below.refl w.heap.size w)
 have H:((spec_MinsOk.f k a0_0 l0_1).bind fun t216=>(if t216 = true then (if a1 < 0 then (spec_MinsSet.j0 k a1 a2 true a0_0 l0_1) else (spec_MinsSet.j0 k a1 a2 (decide (a1 ≥ a0_0)) a0_0 l0_1)) else (spec_MinsSet.j0 k a1 a2 true a0_0 l0_1))) = some (r1,r2,r3):=h
 clear h
 have HC4:=mk0 H
 clear H
 go_enter Try.func30,Try.ntmps30
 go_upto_region 1 with (first|((with_reducible refine gate_dst (N:=3) rfl ?_);refine box_event ?hg (N:=3) ?hd (cs:=#[.int .i64 a0_0,.slice A0_1 l0_1.length c0_1]) (t:=24) ?hr ?_;(case hd=>rfl);(case hg=>rfl);(case hr=>first|(go_simp;done)|(go_simp;rfl));intro gb214 hg w5 hbox hb;have n0_:=mk0 (below_step (by repeat (first|(with_reducible first|exact HB.out|apply aZ|apply nZ|apply dZ)|exact HB.out)) hb);have n1_:=mk0 (hbox);have n2_:=mk0 ((by rw [hg];exact (below_size (by repeat (first|(with_reducible first|exact HB.out|apply aZ|apply nZ|apply dZ)|exact HB.out))):w.heap.size ≤ gb214));have n3_:=mk0 ((by rw [hg];exact (below_size (by repeat (first|(with_reducible first|exact HB.out|apply aZ|apply nZ|apply dZ)|exact HB.out))):w.heap.size ≤ gb214));clear HB;have HB:=n0_;have BK214:=n1_;have GW214:=n2_;have GE214:=n3_;clear n0_ n1_ n2_ n3_ hb hbox hg)|((with_reducible refine gate_dst (N:=6) rfl ?_);refine box_event ?hg (N:=6) ?hd (cs:=#[.int .i64 0,.slice none 0 0]) (t:=24) ?hr ?_;(case hd=>rfl);(case hg=>rfl);(case hr=>first|(go_simp;done)|(go_simp;rfl));intro gb215 hg w6 hbox hb;have n0_:=mk0 (blk_below (g:=gb214) (o:=.cells #[.int .i64 a0_0,.slice A0_1 l0_1.length c0_1] 24 (0,0)) (by (with_reducible repeat (first|apply nB|apply dB|apply aB));exact BK214.out) hb);have n1_:=mk0 (below_step (by repeat (first|(with_reducible first|exact HB.out|apply aZ|apply nZ|apply dZ|refine sZ ?_ GE214.out)|exact HB.out)) hb);have n2_:=mk0 (hbox);have n3_:=mk0 ((by rw [hg];exact (below_size (by repeat (first|(with_reducible first|exact HB.out|apply aZ|apply nZ|apply dZ|refine sZ ?_ GE214.out)|exact HB.out))):w.heap.size ≤ gb215));have n4_:=mk0 ((by rw [hg];exact (below_size (by repeat (first|(with_reducible first|exact HB.out|apply aZ|apply nZ|apply dZ|refine sZ ?_ GE214.out)|exact HB.out))):w.heap.size ≤ gb215));have n5_:=mk0 ((by rw [hg];exact Nat.ne_of_lt (blk_lt (g:=gb214) (o:=.cells #[.int .i64 a0_0,.slice A0_1 l0_1.length c0_1] 24 (0,0)) (by (with_reducible repeat (first|apply nB|apply dB|apply aB));exact BK214.out)):gb214 ≠ gb215));have n6_:=mk0 ((by rw [hg];exact Nat.ne_of_gt (blk_lt (g:=gb214) (o:=.cells #[.int .i64 a0_0,.slice A0_1 l0_1.length c0_1] 24 (0,0)) (by (with_reducible repeat (first|apply nB|apply dB|apply aB));exact BK214.out)):gb215 ≠ gb214));clear BK214 HB;have BK214:=n0_;have HB:=n1_;have BK215:=n2_;have GW215:=n3_;have GE215:=n4_;have NB214_215:=n5_;have NB215_214:=n6_;clear n0_ n1_ n2_ n3_ n4_ n5_ n6_ hb hbox hg))
 (try simp only [Act.put,sA,sO,sS])
 go_cut [21] (fun v21 wc=>∃ (kq:Nat) (x21_3:Bool),v21 = .bool x21_3 ∧ Aside0 (spec_MinsSet.j0 kq a1 a2 x21_3 a0_0 l0_1 = some (r1,r2,r3)) ∧ Aside0 (kq ≤ k) ∧ Aside0 (wc.heap[gb214]? = some (.cells #[.int .i64 a0_0,(.slice A0_1 l0_1.length c0_1)] 24 (0,0))) ∧ Aside0 (wc.heap[gb215]? = some (.cells #[.int .i64 0,(.slice none 0 0)] 24 (0,0))) ∧ Aside0 (Below w.heap.size w wc))
 case first =>
  have H:=HC4.out
  clear HC4
  replace H:=Option.bind_eq_some_iff.mp H
  obtain⟨t216,A70,H⟩:=H
  replace H:(if t216 = true then (if a1 < 0 then (spec_MinsSet.j0 k a1 a2 true a0_0 l0_1) else (spec_MinsSet.j0 k a1 a2 (decide (a1 ≥ a0_0)) a0_0 l0_1)) else (spec_MinsSet.j0 k a1 a2 true a0_0 l0_1)) = some (r1,r2,r3):=H
  have A7:=mk0 A70
  clear A70
  by_cases c8:t216 = true
  rotate_left
  ·replace c8:=Bool.eq_false_iff.mpr c8
   subst c8
   have H1:(spec_MinsSet.j0 k a1 a2 true a0_0 l0_1) = some (r1,r2,r3):=by rw [if_neg (show ¬ (false = true) by decide)] at H;exact H
   clear H
   have H:=H1
   clear H1
   have H':=mk0 H
   clear H
   have hnb17:=NB214_215.out
   have hnc17:=NB215_214.out
   have hcz18_0:w6.cell? ⟨gb214,0,none⟩ = some (.int .i64 a0_0):=(blk_cell BK214.out 0).trans rfl
   have hcz18_1:w6.cell? ⟨gb214,1,none⟩ = some (.slice A0_1 l0_1.length c0_1):=(blk_cell BK214.out 1).trans rfl
   have hfz18_0:=blk_frozen BK214.out 0
   have hfz18_1:=blk_frozen BK214.out 1
   go_wp2_with (first|((with_reducible refine gate_callee (f:=41) rfl ?_);refine goesL_ (some 10) rfl rfl Try.func41 (by kernel_rfl) rfl #[.agg #[.int .i64 a0_0,.slice A0_1 l0_1.length c0_1]] rfl (by (try simp only [mA,mC,mN]);first|done|rfl|(simp only [List.length_drop,List.length_take];rfl)) ?_;(with_reducible refine (spec_MinsOk.calls k a0_0 _ _ l0_1 false _ ?side1 ?side2 A7.out).mono ?_);(case side1=>repeat (first|exact (Kd.C_below HR0_1.out HB.out)|(with_reducible first|apply aC|apply nC|apply dC)));(case side2=>exact HC0_1.out);rintro e w19 ⟨rfl,hb⟩;refine⟨_,rfl,?_⟩;have n0_:=mk0 (blk_below (g:=gb214) (o:=.cells #[.int .i64 a0_0,.slice A0_1 l0_1.length c0_1] 24 (0,0)) (by (with_reducible repeat (first|apply nB|apply dB|apply aB));exact BK214.out) hb);have n1_:=mk0 (blk_below (g:=gb215) (o:=.cells #[.int .i64 0,.slice none 0 0] 24 (0,0)) (by (with_reducible repeat (first|apply nB|apply dB|apply aB));exact BK215.out) hb);have n2_:=mk0 (below_step (by repeat (first|(with_reducible first|exact HB.out|apply aZ|apply nZ|apply dZ|refine sZ ?_ GE214.out|refine sZ ?_ GE215.out)|exact HB.out)) hb);clear BK214 BK215 HB;have BK214:=n0_;have BK215:=n1_;have HB:=n2_;clear n0_ n1_ n2_;(try clear hb);(try clear hb2);(try clear hk);(try clear hi)))
   go_meet
   case rel=>exact⟨_,(true),(by first|rfl|(simp;done)|(simp [*];done)),H',⟨by first|omega|exact Nat.le_refl _⟩,⟨by (with_reducible repeat (first|apply nB|apply dB|apply aB));exact BK214.out⟩,⟨by (with_reducible repeat (first|apply nB|apply dB|apply aB));exact BK215.out⟩,⟨by repeat (first|(with_reducible first|exact HB.out|apply aZ|apply nZ|apply dZ|refine sZ ?_ GE214.out|refine sZ ?_ GE215.out)|exact HB.out)⟩⟩
  subst c8
  have H1:(if a1 < 0 then (spec_MinsSet.j0 k a1 a2 true a0_0 l0_1) else (spec_MinsSet.j0 k a1 a2 (decide (a1 ≥ a0_0)) a0_0 l0_1)) = some (r1,r2,r3):=by rw [if_pos rfl] at H;exact H
  clear H
  have H:=H1
  clear H1
  by_cases c9:a1 < 0
  ·rw [if_pos c9] at H
   have c9b0:decide (a1 < 0) = true:=decide_eq_true c9
   clear c9
   (first|rw [c9b0]|(simp only [i64_w,i32_w];rw [c9b0])|skip)
   have H':=mk0 H
   clear H
   have hnb10:=NB214_215.out
   have hnc10:=NB215_214.out
   have hcz11_0:w6.cell? ⟨gb214,0,none⟩ = some (.int .i64 a0_0):=(blk_cell BK214.out 0).trans rfl
   have hcz11_1:w6.cell? ⟨gb214,1,none⟩ = some (.slice A0_1 l0_1.length c0_1):=(blk_cell BK214.out 1).trans rfl
   have hfz11_0:=blk_frozen BK214.out 0
   have hfz11_1:=blk_frozen BK214.out 1
   go_wp2_with (first|((with_reducible refine gate_callee (f:=41) rfl ?_);refine goesL_ (some 10) rfl rfl Try.func41 (by kernel_rfl) rfl #[.agg #[.int .i64 a0_0,.slice A0_1 l0_1.length c0_1]] rfl (by (try simp only [mA,mC,mN]);first|done|rfl|(simp only [List.length_drop,List.length_take];rfl)) ?_;(with_reducible refine (spec_MinsOk.calls k a0_0 _ _ l0_1 true _ ?side1 ?side2 A7.out).mono ?_);(case side1=>repeat (first|exact (Kd.C_below HR0_1.out HB.out)|(with_reducible first|apply aC|apply nC|apply dC)));(case side2=>exact HC0_1.out);rintro e w12 ⟨rfl,hb⟩;refine⟨_,rfl,?_⟩;have n0_:=mk0 (blk_below (g:=gb214) (o:=.cells #[.int .i64 a0_0,.slice A0_1 l0_1.length c0_1] 24 (0,0)) (by (with_reducible repeat (first|apply nB|apply dB|apply aB));exact BK214.out) hb);have n1_:=mk0 (blk_below (g:=gb215) (o:=.cells #[.int .i64 0,.slice none 0 0] 24 (0,0)) (by (with_reducible repeat (first|apply nB|apply dB|apply aB));exact BK215.out) hb);have n2_:=mk0 (below_step (by repeat (first|(with_reducible first|exact HB.out|apply aZ|apply nZ|apply dZ|refine sZ ?_ GE214.out|refine sZ ?_ GE215.out)|exact HB.out)) hb);clear BK214 BK215 HB;have BK214:=n0_;have BK215:=n1_;have HB:=n2_;clear n0_ n1_ n2_;(try clear hb);(try clear hb2);(try clear hk);(try clear hi)))
   go_meet
   case rel=>exact⟨_,(true),(by first|rfl|(simp;done)|(simp [*];done)),H',⟨by first|omega|exact Nat.le_refl _⟩,⟨by (with_reducible repeat (first|apply nB|apply dB|apply aB));exact BK214.out⟩,⟨by (with_reducible repeat (first|apply nB|apply dB|apply aB));exact BK215.out⟩,⟨by repeat (first|(with_reducible first|exact HB.out|apply aZ|apply nZ|apply dZ|refine sZ ?_ GE214.out|refine sZ ?_ GE215.out)|exact HB.out)⟩⟩
  rw [if_neg c9] at H
  have c9b0:decide (a1 < 0) = false:=decide_eq_false c9
  clear c9
  (first|rw [c9b0]|(simp only [i64_w,i32_w];rw [c9b0])|skip)
  have H':=mk0 H
  clear H
  have hnb13:=NB214_215.out
  have hnc13:=NB215_214.out
  have hcz14_0:w6.cell? ⟨gb214,0,none⟩ = some (.int .i64 a0_0):=(blk_cell BK214.out 0).trans rfl
  have hcz14_1:w6.cell? ⟨gb214,1,none⟩ = some (.slice A0_1 l0_1.length c0_1):=(blk_cell BK214.out 1).trans rfl
  have hfz14_0:=blk_frozen BK214.out 0
  have hfz14_1:=blk_frozen BK214.out 1
  go_wp2_with (first|((with_reducible refine gate_callee (f:=41) rfl ?_);refine goesL_ (some 10) rfl rfl Try.func41 (by kernel_rfl) rfl #[.agg #[.int .i64 a0_0,.slice A0_1 l0_1.length c0_1]] rfl (by (try simp only [mA,mC,mN]);first|done|rfl|(simp only [List.length_drop,List.length_take];rfl)) ?_;(with_reducible refine (spec_MinsOk.calls k a0_0 _ _ l0_1 true _ ?side1 ?side2 A7.out).mono ?_);(case side1=>repeat (first|exact (Kd.C_below HR0_1.out HB.out)|(with_reducible first|apply aC|apply nC|apply dC)));(case side2=>exact HC0_1.out);rintro e w15 ⟨rfl,hb⟩;refine⟨_,rfl,?_⟩;have n0_:=mk0 (blk_below (g:=gb214) (o:=.cells #[.int .i64 a0_0,.slice A0_1 l0_1.length c0_1] 24 (0,0)) (by (with_reducible repeat (first|apply nB|apply dB|apply aB));exact BK214.out) hb);have n1_:=mk0 (blk_below (g:=gb215) (o:=.cells #[.int .i64 0,.slice none 0 0] 24 (0,0)) (by (with_reducible repeat (first|apply nB|apply dB|apply aB));exact BK215.out) hb);have n2_:=mk0 (below_step (by repeat (first|(with_reducible first|exact HB.out|apply aZ|apply nZ|apply dZ|refine sZ ?_ GE214.out|refine sZ ?_ GE215.out)|exact HB.out)) hb);clear BK214 BK215 HB;have BK214:=n0_;have BK215:=n1_;have HB:=n2_;clear n0_ n1_ n2_;(try clear hb);(try clear hb2);(try clear hk);(try clear hi);have hcz16_0:w15.cell? ⟨gb214,0,none⟩ = some (.int .i64 a0_0):=(blk_cell BK214.out 0).trans rfl;have hcz16_1:w15.cell? ⟨gb214,1,none⟩ = some (.slice A0_1 l0_1.length c0_1):=(blk_cell BK214.out 1).trans rfl;have hfz16_0:=blk_frozen BK214.out 0;have hfz16_1:=blk_frozen BK214.out 1))
  go_meet
  case rel=>exact⟨_,(decide (a1 ≥ a0_0)),(by first|rfl|(simp;done)|(simp [*];done)),H',⟨by first|omega|exact Nat.le_refl _⟩,⟨by (with_reducible repeat (first|apply nB|apply dB|apply aB));exact BK214.out⟩,⟨by (with_reducible repeat (first|apply nB|apply dB|apply aB));exact BK215.out⟩,⟨by repeat (first|(with_reducible first|exact HB.out|apply aZ|apply nZ|apply dZ|refine sZ ?_ GE214.out|refine sZ ?_ GE215.out)|exact HB.out)⟩⟩
 case rest =>
  clear HC4
  try clear c1
  try clear p2
  try clear c3
  try clear c4
  try clear c8
  try clear c9
  try clear c9b0
  try clear c10
  try clear c13
  try clear c17
  try clear hcz11_0
  try clear hcz11_1
  try clear hcz14_0
  try clear hcz14_1
  try clear hcz16_0
  try clear hcz16_1
  try clear hcz18_0
  try clear hcz18_1
  try clear hfz11_0
  try clear hfz11_1
  try clear hfz14_0
  try clear hfz14_1
  try clear hfz16_0
  try clear hfz16_1
  try clear hfz18_0
  try clear hfz18_1
  obtain⟨kq,x21_3,rfl,HA,HJ3,BK214,BK215,HB⟩:=hcut
  cases kq with
  | zero=>exact absurd HA.out (by simp [spec_MinsSet.j0])
  | succ kj3 =>
   have H:=HA.out
   clear HA
   simp only [spec_MinsSet.j0] at H
   by_cases c20:x21_3 = true
   ·subst c20
    have H1:(some (0,([]:List Int),false)) = some (r1,r2,r3):=by rw [if_pos rfl] at H;exact H
    clear H
    have H:=H1
    clear H1
    simp only [Option.some.injEq,Prod.mk.injEq] at H
    obtain⟨rfl,rfl,rfl⟩:=H
    have hnb21:=NB215_214.out
    have hnc21:=NB214_215.out
    have hcz22_0:wc.cell? ⟨gb215,0,none⟩ = some (.int .i64 0):=(blk_cell BK215.out 0).trans rfl
    have hcz22_1:wc.cell? ⟨gb215,1,none⟩ = some (.slice none 0 0):=(blk_cell BK215.out 1).trans rfl
    have hfz22_0:=blk_frozen BK215.out 0
    have hfz22_1:=blk_frozen BK215.out 1
    go_wp2
    refine bodyPost_ret (results_ct rfl _ _ gb215 24 #[.int .i64 0,.slice none 0 0] (0,0) _ rfl (by (with_reducible repeat (first|apply nB|apply dB|apply aB));refine blk_put (cs:=#[.int .i64 0,.slice none 0 0]) ?_ 1 _ rfl;(with_reducible repeat (first|apply nB|apply dB|apply aB));refine blk_put (cs:=#[.int .i64 0,.slice none 0 0]) ?_ 0 _ rfl;(with_reducible repeat (first|apply nB|apply dB|apply aB));exact BK215.out) Try.underlying24 rfl (by kernel_rfl)) rfl ?_
    exact⟨_,by first|rfl|(simp [errW_none,errW_some] <;> rfl)|(simp [*,errW_none,errW_some] <;> rfl),by first|exact Kd.R_nil _ _ _ _ _|exact Kd.N_nil _ _ _ _ _|exact Kd.V_nil _ _ _ _ _|exact Kd.Q_nil _ _ _ _ _|exact Kd.S_nil _ _ _ _ _,by repeat (first|(with_reducible first|exact HB.out|apply aZ|apply nZ|apply dZ|refine sZ ?_ GE214.out|refine sZ ?_ GE215.out)|exact HB.out)⟩
   replace c20:=Bool.eq_false_iff.mpr c20
   subst c20
   have H1:((spec_l10List.f kj3 a0_0 l0_1).bind fun t217=>(if 0 ≤ a1 then (if a1 < (t217.length:Int) then ((spec_MinsOf.f kj3 (t217.set (a1:Int).toNat a2)).bind fun bt221=>(some (bt221.1,bt221.2.1,bt221.2.2))) else (none)) else (none))) = some (r1,r2,r3):=by rw [if_neg (show ¬ (false = true) by decide)] at H;exact H
   clear H
   have H:=H1
   clear H1
   replace H:=Option.bind_eq_some_iff.mp H
   obtain⟨t217,A230,H⟩:=H
   replace H:(if 0 ≤ a1 then (if a1 < (t217.length:Int) then ((spec_MinsOf.f kj3 (t217.set (a1:Int).toNat a2)).bind fun bt221=>(some (bt221.1,bt221.2.1,bt221.2.2))) else (none)) else (none)) = some (r1,r2,r3):=H
   have A23:=mk0 A230
   clear A230
   by_cases c24:0 ≤ a1
   rotate_left
   ·rw [if_neg c24] at H
    exact absurd H (by simp)

   rw [if_pos c24] at H
   have c24b0:decide (0 ≤ a1) = true:=decide_eq_true c24
   clear c24
   by_cases c25:a1 < (t217.length:Int)
   rotate_left
   ·rw [if_neg c25] at H
    exact absurd H (by simp)
   rw [if_pos c25] at H
   have c25b0:decide (a1 < (t217.length:Int)) = true:=decide_eq_true c25
   clear c25
   obtain⟨y220,hy220⟩:∃ y_:List Int,y_ = (t217.set (a1:Int).toNat a2):=⟨_,rfl⟩
   replace H:((spec_MinsOf.f kj3 y220).bind fun bt221=>(some (bt221.1,bt221.2.1,bt221.2.2))) = some (r1,r2,r3):=by first|(rw [hy220];with_reducible exact H)|(have H2_:=(Option.bind_some _ _).symm.trans H;rw [hy220];with_reducible exact H2_)|(have H2_:=(Option.bind_some _ _).symm.trans H;with_reducible exact H2_)|with_reducible exact H|(rw [hy220];exact H)|exact H
   have Ny220:=mk0 hy220
   clear hy220
   replace H:=Option.bind_eq_some_iff.mp H
   obtain⟨⟨t221,t222,t225⟩,A270,H⟩:=H
   replace H:(some (t221,t222,t225)) = some (r1,r2,r3):=H
   have A27:=mk0 A270
   clear A270
   simp only [Option.some.injEq,Prod.mk.injEq] at H
   obtain⟨rfl,rfl,rfl⟩:=H
   have hnb28:=NB214_215.out
   have hnc28:=NB215_214.out
   have hcz29_0:wc.cell? ⟨gb214,0,none⟩ = some (.int .i64 a0_0):=(blk_cell BK214.out 0).trans rfl
   have hcz29_1:wc.cell? ⟨gb214,1,none⟩ = some (.slice A0_1 l0_1.length c0_1):=(blk_cell BK214.out 1).trans rfl
   have hfz29_0:=blk_frozen BK214.out 0
   have hfz29_1:=blk_frozen BK214.out 1
   go_wp2_with (first|((with_reducible refine gate_callee (f:=42) rfl ?_);refine goesL_ (some 24) rfl rfl Try.func42 (by kernel_rfl) rfl #[.agg #[.int .i64 a0_0,.slice A0_1 l0_1.length c0_1]] rfl (by (try simp only [mA,mC,mN]);first|done|rfl|(simp only [List.length_drop,List.length_take];rfl)) ?_;(with_reducible refine (spec_l10List.calls kj3 a0_0 _ _ l0_1 t217 _ ?side1 ?side2 A23.out).mono ?_);(case side1=>repeat (first|exact (Kd.C_below HR0_1.out HB.out)|(with_reducible first|apply aC|apply nC|apply dC)));(case side2=>exact HC0_1.out);rintro e w30 ⟨v218,rfl,ho0,hb⟩;refine⟨_,rfl,?_⟩;have n0_:=mk0 (Kd.R_lower ho0 (below_size (by repeat (first|(with_reducible first|exact HB.out|apply aZ|apply nZ|apply dZ|refine sZ ?_ GE214.out|refine sZ ?_ GE215.out)|exact HB.out))));have n1_:=mk0 (blk_below (g:=gb214) (o:=.cells #[.int .i64 a0_0,.slice A0_1 l0_1.length c0_1] 24 (0,0)) (by (with_reducible repeat (first|apply nB|apply dB|apply aB));exact BK214.out) hb);have n2_:=mk0 (blk_below (g:=gb215) (o:=.cells #[.int .i64 0,.slice none 0 0] 24 (0,0)) (by (with_reducible repeat (first|apply nB|apply dB|apply aB));exact BK215.out) hb);have n3_:=mk0 (below_step (by repeat (first|(with_reducible first|exact HB.out|apply aZ|apply nZ|apply dZ|refine sZ ?_ GE214.out|refine sZ ?_ GE215.out)|exact HB.out)) hb);clear BK214 BK215 HB;have HO219:=n0_;have BK214:=n1_;have BK215:=n2_;have HB:=n3_;clear n0_ n1_ n2_ n3_;(try clear hb);(try clear hb2);(try clear hk);(try clear hi);(try clear ho0);have p26:0 ≤ (a1:Int):=of_decide_eq_true (by first|(with_reducible assumption)|assumption);have q26:(a1:Int) < ((t217.length:Int):Int):=of_decide_eq_true (by first|(with_reducible assumption)|assumption);obtain⟨go26,co26,eo26,gb26,gl26,cl26,HG26⟩:=Kd.R_form HO219.out (by omega);(first|cases eo26|(injection eo26 with ea_ en_ ec_;(first|subst ea_|(injection ea_ with ea_;subst ea_));subst ec_;clear en_));have GB26:=mk0 gb26;have GG26:=mk0 HG26;clear gb26 gl26 HG26;obtain⟨hx26_0,hf26_0⟩:=Kd.R_celln 0 HO219.out (a1:Int) p26 q26;replace p26:=eq_true p26;replace q26:=eq_true q26;obtain⟨hy31_,hz31_⟩:=Kd.R_celln 0 HO219.out (a1:Int) (of_decide_eq_true (by first|(with_reducible assumption)|assumption)) (of_decide_eq_true (by first|(with_reducible assumption)|assumption));have HP31:=Kd.R_putg HO219.out (a1:Int) a2)|((with_reducible refine gate_store (t:=3) (p:=28) rfl ?_);refine store_event (t:=3) (p:=28) (v:=?vo_w32) (w1:=(w30.setCell ⟨go26,(a1:Int).toNat,none⟩ (.int .i64 a2))) ?hg ?ho ?hn ?hr ?_;(case ho=>rfl);(case hg=>rfl);(case hn=>rfl);(case hr=>first|(go_simp;done)|(go_simp;rfl));intro w32 hw;have hg:w30.grownBy w32 (some go26):=(by rw [hw];exact HP31.2);have hp_:Kd.R (Kd.int .i64) 3 w32 w.heap.size (fun _=>True) (.slice (some ⟨go26,0,none⟩) t217.length co26) y220:=(by rw [hw,Ny220.out];exact HP31.1);clear HP31;have n0_:=mk0 (blk_grown (g:=gb214) (o:=.cells #[.int .i64 a0_0,.slice A0_1 l0_1.length c0_1] 24 (0,0)) (by (with_reducible repeat (first|apply nB|apply dB|apply aB));exact BK214.out) hg (Kd.R_ne HO219.out BK214.out (by decide)));have n1_:=mk0 (blk_grown (g:=gb215) (o:=.cells #[.int .i64 0,.slice none 0 0] 24 (0,0)) (by (with_reducible repeat (first|apply nB|apply dB|apply aB));exact BK215.out) hg (Kd.R_ne HO219.out BK215.out (by decide)));have n2_:=mk0 (hp_);have n3_:=mk0 ((by rw [hw];exact sZ (HB.out) GB26.out:Below w.heap.size w w32));clear BK214 BK215 HO219 HB;have BK214:=n0_;have BK215:=n1_;have HO219:=n2_;have HB:=n3_;clear n0_ n1_ n2_ n3_ hg hw hp_)|((with_reducible refine gate_callee (f:=11) rfl ?_);refine goesL_ (some 30) rfl rfl Try.func11 (by kernel_rfl) rfl #[.slice (some ⟨go26,0,none⟩) y220.length co26] rfl (by (try simp only [mA,mC,mN]);first|done|(rw [show y220.length = t217.length from (Kd.R_reads' HO219.out).1.symm] <;> rfl)|rfl|(simp only [List.length_drop,List.length_take];rfl)) ?_;(with_reducible refine (spec_MinsOf.calls kj3 _ _ y220 t221 t222 t225 _ ?side1 ?side2 A27.out).mono ?_);(case side1=>repeat (first|exact (Kd.R_reads' HO219.out).2.2|(with_reducible first|apply aC|apply nC|apply dC)));(case side2=>rw [show y220.length = t217.length from (Kd.R_reads' HO219.out).1.symm];exact (Kd.R_reads' HO219.out).2.1);rintro e w33 ⟨v223,rfl,ho0,hb⟩;refine⟨_,rfl,?_⟩;have n0_:=mk0 (Kd.R_elder' (by (with_reducible repeat (first|apply aR|apply nR|apply dR));exact HO219.out) (Kd.R_base ho0) hb);have n1_:=mk0 (Kd.R_lower (Kd.R_new' ho0 (Kd.R_lt (by (with_reducible repeat (first|apply aR|apply nR|apply dR));exact HO219.out))) (below_size (by repeat (first|(with_reducible first|exact HB.out|apply aZ|apply nZ|apply dZ|refine sZ ?_ GE214.out|refine sZ ?_ GE215.out)|exact HB.out))));have n2_:=mk0 (blk_below (g:=gb214) (o:=.cells #[.int .i64 a0_0,.slice A0_1 l0_1.length c0_1] 24 (0,0)) (by (with_reducible repeat (first|apply nB|apply dB|apply aB));exact BK214.out) hb);have n3_:=mk0 (blk_below (g:=gb215) (o:=.cells #[.int .i64 0,.slice none 0 0] 24 (0,0)) (by (with_reducible repeat (first|apply nB|apply dB|apply aB));exact BK215.out) hb);have n4_:=mk0 (below_step (by repeat (first|(with_reducible first|exact HB.out|apply aZ|apply nZ|apply dZ|refine sZ ?_ GE214.out|refine sZ ?_ GE215.out)|exact HB.out)) hb);clear HO219 BK214 BK215 HB;have HO219:=n0_;have HO224:=n1_;have BK214:=n2_;have BK215:=n3_;have HB:=n4_;clear n0_ n1_ n2_ n3_ n4_;(try clear hb);(try clear hb2);(try clear hk);(try clear hi);(try clear ho0);have hcz34_0:w33.cell? ⟨gb215,0,none⟩ = some (.int .i64 0):=(blk_cell BK215.out 0).trans rfl;have hcz34_1:w33.cell? ⟨gb215,1,none⟩ = some (.slice none 0 0):=(blk_cell BK215.out 1).trans rfl;have hfz34_0:=blk_frozen BK215.out 0;have hfz34_1:=blk_frozen BK215.out 1;obtain⟨Ao35,co35,eo35⟩:=Kd.R_slice HO224.out;subst eo35))
   refine bodyPost_ret (results_ct rfl _ _ gb215 24 #[.int .i64 t221,.slice Ao35 t222.length co35] (0,0) _ rfl (by (with_reducible repeat (first|apply nB|apply dB|apply aB));refine blk_put (cs:=#[.int .i64 t221,.slice none 0 0]) ?_ 1 _ rfl;(with_reducible repeat (first|apply nB|apply dB|apply aB));refine blk_put (cs:=#[.int .i64 0,.slice none 0 0]) ?_ 0 _ rfl;(with_reducible repeat (first|apply nB|apply dB|apply aB));exact BK215.out) Try.underlying24 rfl (by kernel_rfl)) rfl ?_
   exact⟨_,by first|rfl|(simp [errW_none,errW_some] <;> rfl)|(simp [*,errW_none,errW_some] <;> rfl),by (with_reducible repeat (first|apply aR|apply nR|apply dR));exact Kd.R_mono (Kd.R_far (p:=⟨gb215,1,none⟩) (Kd.R_far (p:=⟨gb215,0,none⟩) (Kd.R_types HO224.out BK215.out (by decide)) (fun _ hk=>hk.2) (.int .i64 t221)) (fun _ hk=>hk.2) (.slice Ao35 t222.length co35)) (fun _ hk=>trivial),by repeat (first|(with_reducible first|exact HB.out|apply aZ|apply nZ|apply dZ|refine sZ ?_ GE214.out|refine sZ ?_ GE215.out)|exact HB.out)⟩

/-! ### slices_Clone_int_int: function 47 (by hand) -/
def slices_Clone_int_int.f (l0 : List Int) : Option (List Int) := if l0.length < 17592186044416 then some l0 else none
theorem slices_Clone_int_int.info : (Try.prog.info? 3).map (fun i => (i.zero, i.size, i.bytes)) = some (some (.int .i64 0), 1, 8) := by kernel_rfl
set_option maxHeartbeats 8000000 in
set_option maxRecDepth 100000 in
theorem slices_Clone_int_int.calls (A0 : Option Addr) (c0 : Nat) (l0 : List Int) (r : List Int) (w : World) (hr0 : Kd.C (Kd.int .i64) w A0 l0.length l0) (hc0 : l0.length ≤ c0) (h : slices_Clone_int_int.f l0 = some r) :
    Calls Try.prog 47 #[.slice A0 l0.length c0] w fun e w' => ∃ v0_ : Value, e = .returned (v0_) ∧ Kd.R (Kd.int .i64) 3 w' w.heap.size (fun _ => True) v0_ r ∧ Below w.heap.size w w' := by
  unfold slices_Clone_int_int.f at h
  by_cases hm : l0.length < 17592186044416
  · rw [if_pos hm] at h
    obtain rfl := Option.some.inj h
    clear h
    have HB := Aside0.mk (Below.refl w.heap.size w)
    cases A0 with
    | none =>
      have hl : l0 = [] := by
        rcases Nat.eq_zero_or_pos l0.length with h0 | h0
        · exact List.length_eq_zero_iff.1 h0
        · obtain ⟨ad, e, _⟩ := hr0.2.2 h0
          cases e
      subst hl
      clear hr0 hc0 hm
      have he_ : ∀ w_ : World, (binOp .eql 22 (.slice none 0 c0) (.slice none 0 0)).run Try.prog w_ = .ok (.bool true) w_ := fun w_ => _root_.Go.Lib.run_eql_slice_nil w_ 22 3 none 0 c0 0 0 Try.underlying22
      go_enter Try.func47, Try.ntmps47
      go_wp2
      go_ret
      exact ⟨_, by first | rfl | (simp; done), Kd.R_nil _ _ _ _ _, HB.out⟩
    | some ad =>
      have HR0 := Aside0.mk hr0
      have HC0 := Aside0.mk hc0
      have LM := Aside0.mk hm
      clear hr0 hc0 hm
      have he_ : ∀ w_ : World, (binOp .eql 22 (.slice (some ad) l0.length c0) (.slice none 0 0)).run Try.prog w_ = .ok (.bool false) w_ := fun w_ => _root_.Go.Lib.run_eql_slice_nil w_ 22 3 (some ad) l0.length c0 0 0 Try.underlying22
      go_enter Try.func47, Try.ntmps47
      go_wp2_with (first | ((with_reducible refine gate_dst (N := 5) rfl ?_); refine Kd.R_lit (Kd.int .i64) _ 3 ?hg (N := 5) ?hd (xs := ([] : List Int)) (inner := []) (ok := fun _ => True) (okp := fun _ => True) ?hr ?hp (fun _ hk => hk) trivial (Below.refl _ _) (Nat.le_refl _) (by simp) ?_; (case hd => rfl); (case hg => rfl); (case hr => first | (go_simp; done) | (go_simp; rfl)); (case hp => exact (Reps.none _ _)); intro v138 w18 ho19 hb hg_ hnew_; clear hg_ hnew_; have n0_ := Aside0.mk (Kd.R_lower ho19 (below_size (by repeat (first | (with_reducible first | exact HB.out | apply below_alloc | apply pw_below_drewN | apply below_drew1) | exact HB.out)))); have n2_ := Aside0.mk (below_step (by repeat (first | (with_reducible first | exact HB.out | apply below_alloc | apply pw_below_drewN | apply below_drew1) | exact HB.out)) hb); clear HB; have HO139 := n0_; have HB := n2_; clear n0_ n2_; clear hb ho19) | ((with_reducible refine gate_builtin (b := .append) (xs := #[.tmp 5, .tmp 6]) rfl ?_); at_builtin; refine Kd.R_append_rows (Kd.int .i64) (w0 := w) w.heap.size rfl (.tmp 5) (.tmp 6) 22 3 (.int .i64 0) 8 rfl Try.underlying22 slices_Clone_int_int.info rfl (by decide) (by omega) v138 ([] : List Int) l0 _ _ _ (fun _ => True) (fun _ => False) rfl rfl ?aO ?aR (fun _ _ h => h) (fun _ h => h.elim) ?aF ?aB ?aS ?aL ?_; (case aR => repeat (first | exact (Kd.C_below HR0.out HB.out) | (with_reducible refine Kd.C_alloc ?_ _) | (with_reducible refine Kd.C_drewN ?_ _) | (with_reducible refine Kd.C_drew ?_))); (case aB => exact (by repeat (first | (with_reducible first | exact HB.out | apply below_alloc | apply pw_below_drewN | apply below_drew1) | exact HB.out))); (case aF => exact (fun _ _ => trivial)); (case aO => exact (by (with_reducible repeat (first | apply Kd.R_alloc | apply Kd.R_drewN | apply Kd.R_drew)); exact HO139.out)); (case aS => exact (below_size (by repeat (first | (with_reducible first | exact HB.out | apply below_alloc | apply pw_below_drewN | apply below_drew1) | exact HB.out)))); (case aL => have := LM.out; simp only [List.length_nil, Nat.zero_add]; omega); intro v142 w22 ho hb hg hat; rw [List.nil_append] at ho; have n1_ := Aside0.mk (hb); have n2_ := Aside0.mk (ho); clear HB; clear HO139; have HB := n1_; have HO143 := n2_; clear n1_ n2_; clear ho hb hg hat))
      go_ret
      exact ⟨_, by first | rfl | (simp; done), by (with_reducible repeat (first | apply Kd.R_alloc | apply Kd.R_drewN | apply Kd.R_drew)); exact HO143.out, by repeat (first | (with_reducible first | exact HB.out | apply below_alloc | apply pw_below_drewN | apply below_drew1) | exact HB.out)⟩
  · rw [if_neg hm] at h
    exact absurd h (by simp)

/-! ### impl_MinsSet: function 31 -/
def impl_MinsSet.j0 : Nat → Int → Int → List Int → Bool → Option (Int × List Int × Bool)
 | 0, _, _, _, _ => none
 | k + 1, x1, x2, x8, x30 => if x30 = true then (some (0, ([] : List Int), false)) else ((slices_Clone_int_int.f x8).bind fun t234 => (if 0 ≤ x1 then (if x1 < (t234.length : Int) then ((impl_minsOf.f k (t234.set (x1 : Int).toNat x2)).bind fun bt238 => (some (bt238.1, bt238.2, true))) else (none)) else (none)))
def impl_MinsSet.f (k : Nat) (a0_0 : Int) (l0_1 : List Int) (a1 : Int) (a2 : Int) : Option (Int × List Int × Bool) := (impl_Mins_read.f k a0_0 l0_1).bind fun bt228 => (if bt228.2 = true then ((impl_within.f a1 0 (wrap64 ((bt228.1.length : Int) - 1))).bind fun t232 => (if t232 = true then ((impl_isCount.f a2).bind fun t233 => (impl_MinsSet.j0 k a1 a2 bt228.1 (!t233))) else (impl_MinsSet.j0 k a1 a2 bt228.1 true))) else (impl_MinsSet.j0 k a1 a2 bt228.1 true))
theorem impl_MinsSet.mono_l : ∀ k, (∀ y0 y1 y2 y3, LeO (impl_MinsSet.j0 k y0 y1 y2 y3) (impl_MinsSet.j0 (k + 1) y0 y1 y2 y3))
 | 0 => fun _ _ _ _ r h => by simp [impl_MinsSet.j0] at h
 | k + 1 => by
  have ih0 := impl_MinsSet.mono_l k
  ·intro y0 y1 y2 y3
   unfold impl_MinsSet.j0
   repeat' first|(with_reducible first|exact ih0 _ _ _ _|exact impl_Mins_read.mono _ _ _|exact impl_minsOf.mono _ _|exact LeO.refl _|exact LeO.none _|refine LeO.ite ?_ ?_|refine LeO.bind ?_ (fun _ => ?_))|exact LeO.none _|refine LeO.ite ?_ ?_|refine LeO.bind ?_ (fun _ => ?_)
theorem impl_MinsSet.mono : ∀ a0 a1 a2 a3 k, LeO (impl_MinsSet.f k a0 a1 a2 a3) (impl_MinsSet.f (k + 1) a0 a1 a2 a3) := by
 intro a0 a1 a2 a3 k
 have ih0 := impl_MinsSet.mono_l k
 unfold impl_MinsSet.f
 repeat' first|(with_reducible first|exact ih0 _ _ _ _|exact impl_Mins_read.mono _ _ _|exact impl_minsOf.mono _ _|exact LeO.refl _|exact LeO.none _|refine LeO.ite ?_ ?_|refine LeO.bind ?_ (fun _ => ?_))|exact LeO.none _|refine LeO.ite ?_ ?_|refine LeO.bind ?_ (fun _ => ?_)
set_option maxHeartbeats 8000000 in
set_option maxRecDepth 100000 in
theorem impl_MinsSet.calls (k : Nat) (a0_0 : Int) (A0_1 : Option Addr) (c0_1 : Nat) (l0_1 : List Int) (a1 : Int) (a2 : Int) (r1 : Int) (r2 : List Int) (r3 : Bool) (w : World) (hr0_1 : Kd.C (Kd.int .i64) w A0_1 l0_1.length l0_1) (hc0_1 : l0_1.length ≤ c0_1) (h : impl_MinsSet.f k a0_0 l0_1 a1 a2 = some (r1, r2, r3)) :
  Calls Try.prog 31 #[.agg #[.int .i64 a0_0, .slice A0_1 l0_1.length c0_1], .int .i64 a1, .int .i64 a2] w fun e w' => ∃ v1_ : Value, e = .returned (.tuple #[.agg #[.int .i64 r1, v1_], .bool r3]) ∧ Kd.R (Kd.int .i64) 3 w' w.heap.size (fun _ => True) v1_ r2 ∧ Below w.heap.size w w' := by
 have hu24:=Try.underlying24
 have HR0_1:=mk0 hr0_1
 have HC0_1:=mk0 hc0_1
 clear hr0_1 hc0_1
 have HB:=mk0 (Below.refl w.heap.size w)
 have H:((impl_Mins_read.f k a0_0 l0_1).bind fun bt228=>(if bt228.2 = true then ((impl_within.f a1 0 (wrap64 ((bt228.1.length:Int) - 1))).bind fun t232=>(if t232 = true then ((impl_isCount.f a2).bind fun t233=>(impl_MinsSet.j0 k a1 a2 bt228.1 (!t233))) else (impl_MinsSet.j0 k a1 a2 bt228.1 true))) else (impl_MinsSet.j0 k a1 a2 bt228.1 true))) = some (r1,r2,r3):=h
 clear h
 replace H:=Option.bind_eq_some_iff.mp H
 obtain⟨⟨t228,t231⟩,A40,H⟩:=H
 replace H:(if t231 = true then ((impl_within.f a1 0 (wrap64 ((t228.length:Int) - 1))).bind fun t232=>(if t232 = true then ((impl_isCount.f a2).bind fun t233=>(impl_MinsSet.j0 k a1 a2 t228 (!t233))) else (impl_MinsSet.j0 k a1 a2 t228 true))) else (impl_MinsSet.j0 k a1 a2 t228 true)) = some (r1,r2,r3):=H
 have A4:=mk0 A40
 clear A40
 have HC5:=mk0 H
 clear H
 go_enter Try.func31,Try.ntmps31
 go_upto_region 2 with (first|((with_reducible refine gate_dst (N:=3) rfl ?_);(try (refine gate_guard (by rfl) ?_;dsimp only));refine box_event ?hg (N:=3) ?hd (cs:=#[.int .i64 a0_0,.slice A0_1 l0_1.length c0_1]) (t:=24) ?hr ?_;(case hd=>rfl);(case hg=>rfl);(case hr=>first|(go_simp;done)|(go_simp;rfl));intro gb226 hg w6 hbox hb;have n0_:=mk0 (below_step (by repeat (first|(with_reducible first|exact HB.out|apply aZ|apply nZ|apply dZ)|exact HB.out)) hb);have n1_:=mk0 (hbox);have n2_:=mk0 ((by rw [hg];exact (below_size (by repeat (first|(with_reducible first|exact HB.out|apply aZ|apply nZ|apply dZ)|exact HB.out))):w.heap.size ≤ gb226));have n3_:=mk0 ((by rw [hg];exact (below_size (by repeat (first|(with_reducible first|exact HB.out|apply aZ|apply nZ|apply dZ)|exact HB.out))):w.heap.size ≤ gb226));clear HB;have HB:=n0_;have BK226:=n1_;have GW226:=n2_;have GE226:=n3_;clear n0_ n1_ n2_ n3_ hb hbox hg)|((with_reducible refine gate_dst (N:=6) rfl ?_);(try (refine gate_guard (by rfl) ?_;dsimp only));refine box_event ?hg (N:=6) ?hd (cs:=#[.int .i64 0,.slice none 0 0]) (t:=24) ?hr ?_;(case hd=>rfl);(case hg=>rfl);(case hr=>first|(go_simp;done)|(go_simp;rfl));intro gb227 hg w7 hbox hb;have n0_:=mk0 (blk_below (g:=gb226) (o:=.cells #[.int .i64 a0_0,.slice A0_1 l0_1.length c0_1] 24 (0,0)) (by (with_reducible repeat (first|apply nB|apply dB|apply aB));exact BK226.out) hb);have n1_:=mk0 (below_step (by repeat (first|(with_reducible first|exact HB.out|apply aZ|apply nZ|apply dZ|refine sZ ?_ GE226.out)|exact HB.out)) hb);have n2_:=mk0 (hbox);have n3_:=mk0 ((by rw [hg];exact (below_size (by repeat (first|(with_reducible first|exact HB.out|apply aZ|apply nZ|apply dZ|refine sZ ?_ GE226.out)|exact HB.out))):w.heap.size ≤ gb227));have n4_:=mk0 ((by rw [hg];exact (below_size (by repeat (first|(with_reducible first|exact HB.out|apply aZ|apply nZ|apply dZ|refine sZ ?_ GE226.out)|exact HB.out))):w.heap.size ≤ gb227));have n5_:=mk0 ((by rw [hg];exact Nat.ne_of_lt (blk_lt (g:=gb226) (o:=.cells #[.int .i64 a0_0,.slice A0_1 l0_1.length c0_1] 24 (0,0)) (by (with_reducible repeat (first|apply nB|apply dB|apply aB));exact BK226.out)):gb226 ≠ gb227));have n6_:=mk0 ((by rw [hg];exact Nat.ne_of_gt (blk_lt (g:=gb226) (o:=.cells #[.int .i64 a0_0,.slice A0_1 l0_1.length c0_1] 24 (0,0)) (by (with_reducible repeat (first|apply nB|apply dB|apply aB));exact BK226.out)):gb227 ≠ gb226));clear BK226 HB;have BK226:=n0_;have HB:=n1_;have BK227:=n2_;have GW227:=n3_;have GE227:=n4_;have NB226_227:=n5_;have NB227_226:=n6_;clear n0_ n1_ n2_ n3_ n4_ n5_ n6_ hb hbox hg;have hnb8:=NB226_227.out;have hnc8:=NB227_226.out;have hcz9_0:w7.cell? ⟨gb226,0,none⟩ = some (.int .i64 a0_0):=(blk_cell BK226.out 0).trans rfl;have hcz9_1:w7.cell? ⟨gb226,1,none⟩ = some (.slice A0_1 l0_1.length c0_1):=(blk_cell BK226.out 1).trans rfl;have hfz9_0:=blk_frozen BK226.out 0;have hfz9_1:=blk_frozen BK226.out 1)|((with_reducible refine gate_callee (f:=43) rfl ?_);refine goesL_ (some 13) rfl rfl Try.func43 (by kernel_rfl) rfl #[.agg #[.int .i64 a0_0,.slice A0_1 l0_1.length c0_1]] rfl (by (try simp only [mA,mC,mN]);first|done|rfl|(simp only [List.length_drop,List.length_take];rfl)) ?_;(with_reducible refine (impl_Mins_read.calls k a0_0 (fun k_=>k_ < w.heap.size) _ _ l0_1 t228 t231 _ ?side1 A4.out).mono ?_);(case side1=>exact Kd.V_mk HC0_1.out (Kd.F_below (Kd.C_F (Kd.heap_int .i64) HR0_1.out) (by repeat (first|(with_reducible first|exact HB.out|apply aZ|apply nZ|apply dZ|refine sZ ?_ GE226.out|refine sZ ?_ GE227.out)|exact HB.out))));rintro e w10 ⟨v229,rfl,ho0,hb⟩;refine⟨_,rfl,?_⟩;have n0_:=mk0 (Kd.V_lower (Kd.V_mono (ok':=fun k_=>k_ ≠ gb226 ∧ k_ ≠ gb227) ho0 (fun k_ hk_=>⟨Or.elim hk_ (fun hs_=>fun e_=>Nat.not_le.2 hs_ (by rw [e_];exact GW226.out)) (fun hn_=>(Kd.freshB (g:=gb226) (o:=.cells #[.int .i64 a0_0,.slice A0_1 l0_1.length c0_1] 24 (0,0)) (by (with_reducible repeat (first|apply nB|apply dB|apply aB));exact BK226.out) k_ hn_)),Or.elim hk_ (fun hs_=>fun e_=>Nat.not_le.2 hs_ (by rw [e_];exact GW227.out)) (fun hn_=>(Kd.freshB (g:=gb227) (o:=.cells #[.int .i64 0,.slice none 0 0] 24 (0,0)) (by (with_reducible repeat (first|apply nB|apply dB|apply aB));exact BK227.out) k_ hn_))⟩)) (below_size (by repeat (first|(with_reducible first|exact HB.out|apply aZ|apply nZ|apply dZ|refine sZ ?_ GE226.out|refine sZ ?_ GE227.out)|exact HB.out))));have n1_:=mk0 (blk_below (g:=gb226) (o:=.cells #[.int .i64 a0_0,.slice A0_1 l0_1.length c0_1] 24 (0,0)) (by (with_reducible repeat (first|apply nB|apply dB|apply aB));exact BK226.out) hb);have n2_:=mk0 (blk_below (g:=gb227) (o:=.cells #[.int .i64 0,.slice none 0 0] 24 (0,0)) (by (with_reducible repeat (first|apply nB|apply dB|apply aB));exact BK227.out) hb);have n3_:=mk0 (below_step (by repeat (first|(with_reducible first|exact HB.out|apply aZ|apply nZ|apply dZ|refine sZ ?_ GE226.out|refine sZ ?_ GE227.out)|exact HB.out)) hb);clear BK226 BK227 HB;have HO230:=n0_;have BK226:=n1_;have BK227:=n2_;have HB:=n3_;clear n0_ n1_ n2_ n3_;(try clear hb);(try clear hb2);(try clear hk);(try clear hi);(try clear ho0)))
 (try simp only [Act.put,sA,sO,sS])
 go_cut [30] (fun v30 wc=>∃ (kq:Nat) (x30_4:Bool),v30 = .bool x30_4 ∧ Aside0 (impl_MinsSet.j0 kq a1 a2 t228 x30_4 = some (r1,r2,r3)) ∧ Aside0 (kq ≤ k) ∧ Aside0 (Kd.V (Kd.int .i64) 3 wc w.heap.size (fun k_=>k_ ≠ gb226 ∧ k_ ≠ gb227) v229 t228) ∧ Aside0 (wc.heap[gb226]? = some (.cells #[.int .i64 a0_0,(.slice A0_1 l0_1.length c0_1)] 24 (0,0))) ∧ Aside0 (wc.heap[gb227]? = some (.cells #[.int .i64 0,(.slice none 0 0)] 24 (0,0))) ∧ Aside0 (Below w.heap.size w wc))
 case first =>
  have H:=HC5.out
  clear HC5
  by_cases c11:t231 = true
  rotate_left
  ·replace c11:=Bool.eq_false_iff.mpr c11
   subst c11
   have H1:(impl_MinsSet.j0 k a1 a2 t228 true) = some (r1,r2,r3):=by rw [if_neg (show ¬ (false = true) by decide)] at H;exact H
   clear H
   have H:=H1
   clear H1
   have H':=mk0 H
   clear H
   go_wp2
   go_meet
   case rel=>exact⟨_,(true),(by first|rfl|(simp;done)|(simp [*];done)),H',⟨by first|omega|exact Nat.le_refl _⟩,⟨by (with_reducible repeat (first|apply aV|apply nV|apply dV));exact HO230.out⟩,⟨by (with_reducible repeat (first|apply nB|apply dB|apply aB));exact BK226.out⟩,⟨by (with_reducible repeat (first|apply nB|apply dB|apply aB));exact BK227.out⟩,⟨by repeat (first|(with_reducible first|exact HB.out|apply aZ|apply nZ|apply dZ|refine sZ ?_ GE226.out|refine sZ ?_ GE227.out)|exact HB.out)⟩⟩
  subst c11
  have H1:((impl_within.f a1 0 (wrap64 ((t228.length:Int) - 1))).bind fun t232=>(if t232 = true then ((impl_isCount.f a2).bind fun t233=>(impl_MinsSet.j0 k a1 a2 t228 (!t233))) else (impl_MinsSet.j0 k a1 a2 t228 true))) = some (r1,r2,r3):=by rw [if_pos rfl] at H;exact H
  clear H
  have H:=H1
  clear H1
  replace H:=Option.bind_eq_some_iff.mp H
  obtain⟨t232,A120,H⟩:=H
  replace H:(if t232 = true then ((impl_isCount.f a2).bind fun t233=>(impl_MinsSet.j0 k a1 a2 t228 (!t233))) else (impl_MinsSet.j0 k a1 a2 t228 true)) = some (r1,r2,r3):=H
  have A12:=mk0 A120
  clear A120
  by_cases c13:t232 = true
  rotate_left
  ·replace c13:=Bool.eq_false_iff.mpr c13
   subst c13
   have H1:(impl_MinsSet.j0 k a1 a2 t228 true) = some (r1,r2,r3):=by rw [if_neg (show ¬ (false = true) by decide)] at H;exact H
   clear H
   have H:=H1
   clear H1
   have H':=mk0 H
   clear H
   obtain⟨Ao16,co16,eo16⟩:=Kd.V_slice HO230.out
   subst eo16
   go_wp2_with (first|(go_at_call 44;(with_reducible refine (impl_within.calls a1 0 (wrap64 ((t228.length:Int) - 1)) false _ A12.out).mono ?_);rintro e w' ⟨rfl,⟨nd,rfl⟩⟩))
   go_meet
   case rel=>exact⟨_,(true),(by first|rfl|(simp;done)|(simp [*];done)),H',⟨by first|omega|exact Nat.le_refl _⟩,⟨by (with_reducible repeat (first|apply aV|apply nV|apply dV));exact HO230.out⟩,⟨by (with_reducible repeat (first|apply nB|apply dB|apply aB));exact BK226.out⟩,⟨by (with_reducible repeat (first|apply nB|apply dB|apply aB));exact BK227.out⟩,⟨by repeat (first|(with_reducible first|exact HB.out|apply aZ|apply nZ|apply dZ|refine sZ ?_ GE226.out|refine sZ ?_ GE227.out)|exact HB.out)⟩⟩
  subst c13
  have H1:((impl_isCount.f a2).bind fun t233=>(impl_MinsSet.j0 k a1 a2 t228 (!t233))) = some (r1,r2,r3):=by rw [if_pos rfl] at H;exact H
  clear H
  have H:=H1
  clear H1
  replace H:=Option.bind_eq_some_iff.mp H
  obtain⟨t233,A140,H⟩:=H
  replace H:(impl_MinsSet.j0 k a1 a2 t228 (!t233)) = some (r1,r2,r3):=H
  have A14:=mk0 A140
  clear A140
  have H':=mk0 H
  clear H
  obtain⟨Ao15,co15,eo15⟩:=Kd.V_slice HO230.out
  subst eo15
  go_wp2_with (first|(go_at_call 44;(with_reducible refine (impl_within.calls a1 0 (wrap64 ((t228.length:Int) - 1)) true _ A12.out).mono ?_);rintro e w' ⟨rfl,⟨nd,rfl⟩⟩)|(go_at_call 48;(with_reducible refine (impl_isCount.calls a2 t233 _ A14.out).mono ?_);rintro e w' ⟨rfl,⟨nd,rfl⟩⟩))
  go_meet
  case rel=>exact⟨_,(!t233),(by first|rfl|(simp;done)|(simp [*];done)),H',⟨by first|omega|exact Nat.le_refl _⟩,⟨by (with_reducible repeat (first|apply aV|apply nV|apply dV));exact HO230.out⟩,⟨by (with_reducible repeat (first|apply nB|apply dB|apply aB));exact BK226.out⟩,⟨by (with_reducible repeat (first|apply nB|apply dB|apply aB));exact BK227.out⟩,⟨by repeat (first|(with_reducible first|exact HB.out|apply aZ|apply nZ|apply dZ|refine sZ ?_ GE226.out|refine sZ ?_ GE227.out)|exact HB.out)⟩⟩
 case rest =>
  clear HC5
  try clear c1
  try clear p2
  try clear c3
  try clear c4
  try clear p6
  try clear c8
  try clear c11
  try clear c13
  try clear hcz9_0
  try clear hcz9_1
  try clear hfz9_0
  try clear hfz9_1
  obtain⟨kq,x30_4,rfl,HA,HJ4,HO_8,BK226,BK227,HB⟩:=hcut
  cases kq with
  | zero=>exact absurd HA.out (by simp [impl_MinsSet.j0])
  | succ kj4 =>
   have H:=HA.out
   clear HA
   simp only [impl_MinsSet.j0] at H
   by_cases c17:x30_4 = true
   ·subst c17
    have H1:(some (0,([]:List Int),false)) = some (r1,r2,r3):=by rw [if_pos rfl] at H;exact H
    clear H
    have H:=H1
    clear H1
    simp only [Option.some.injEq,Prod.mk.injEq] at H
    obtain⟨rfl,rfl,rfl⟩:=H
    have hnb18:=NB227_226.out
    have hnc18:=NB226_227.out
    have hcz19_0:wc.cell? ⟨gb227,0,none⟩ = some (.int .i64 0):=(blk_cell BK227.out 0).trans rfl
    have hcz19_1:wc.cell? ⟨gb227,1,none⟩ = some (.slice none 0 0):=(blk_cell BK227.out 1).trans rfl
    have hfz19_0:=blk_frozen BK227.out 0
    have hfz19_1:=blk_frozen BK227.out 1
    go_wp2
    refine bodyPost_ret (results_ct rfl _ _ gb227 24 #[.int .i64 0,.slice none 0 0] (0,0) _ rfl (by (with_reducible repeat (first|apply nB|apply dB|apply aB));refine blk_put (cs:=#[.int .i64 0,.slice none 0 0]) ?_ 1 _ rfl;(with_reducible repeat (first|apply nB|apply dB|apply aB));refine blk_put (cs:=#[.int .i64 0,.slice none 0 0]) ?_ 0 _ rfl;(with_reducible repeat (first|apply nB|apply dB|apply aB));exact BK227.out) Try.underlying24 rfl (by kernel_rfl)) rfl ?_
    exact⟨_,by first|rfl|(simp [errW_none,errW_some] <;> rfl)|(simp [*,errW_none,errW_some] <;> rfl),by first|exact Kd.R_nil _ _ _ _ _|exact Kd.N_nil _ _ _ _ _|exact Kd.V_nil _ _ _ _ _|exact Kd.Q_nil _ _ _ _ _|exact Kd.S_nil _ _ _ _ _,by repeat (first|(with_reducible first|exact HB.out|apply aZ|apply nZ|apply dZ|refine sZ ?_ GE226.out|refine sZ ?_ GE227.out)|exact HB.out)⟩
   replace c17:=Bool.eq_false_iff.mpr c17
   subst c17
   have H1:((slices_Clone_int_int.f t228).bind fun t234=>(if 0 ≤ a1 then (if a1 < (t234.length:Int) then ((impl_minsOf.f kj4 (t234.set (a1:Int).toNat a2)).bind fun bt238=>(some (bt238.1,bt238.2,true))) else (none)) else (none))) = some (r1,r2,r3):=by rw [if_neg (show ¬ (false = true) by decide)] at H;exact H
   clear H
   have H:=H1
   clear H1
   replace H:=Option.bind_eq_some_iff.mp H
   obtain⟨t234,A200,H⟩:=H
   replace H:(if 0 ≤ a1 then (if a1 < (t234.length:Int) then ((impl_minsOf.f kj4 (t234.set (a1:Int).toNat a2)).bind fun bt238=>(some (bt238.1,bt238.2,true))) else (none)) else (none)) = some (r1,r2,r3):=H
   have A20:=mk0 A200
   clear A200
   by_cases c21:0 ≤ a1
   rotate_left
   ·rw [if_neg c21] at H
    exact absurd H (by simp)

   rw [if_pos c21] at H
   have c21b0:decide (0 ≤ a1) = true:=decide_eq_true c21
   clear c21
   by_cases c22:a1 < (t234.length:Int)
   rotate_left
   ·rw [if_neg c22] at H
    exact absurd H (by simp)
   rw [if_pos c22] at H
   have c22b0:decide (a1 < (t234.length:Int)) = true:=decide_eq_true c22
   clear c22
   obtain⟨y237,hy237⟩:∃ y_:List Int,y_ = (t234.set (a1:Int).toNat a2):=⟨_,rfl⟩
   replace H:((impl_minsOf.f kj4 y237).bind fun bt238=>(some (bt238.1,bt238.2,true))) = some (r1,r2,r3):=by first|(rw [hy237];with_reducible exact H)|(have H2_:=(Option.bind_some _ _).symm.trans H;rw [hy237];with_reducible exact H2_)|(have H2_:=(Option.bind_some _ _).symm.trans H;with_reducible exact H2_)|with_reducible exact H|(rw [hy237];exact H)|exact H
   have Ny237:=mk0 hy237
   clear hy237
   replace H:=Option.bind_eq_some_iff.mp H
   obtain⟨⟨t238,t239⟩,A240,H⟩:=H
   replace H:(some (t238,t239,true)) = some (r1,r2,r3):=H
   have A24:=mk0 A240
   clear A240
   simp only [Option.some.injEq,Prod.mk.injEq] at H
   obtain⟨rfl,rfl,rfl⟩:=H
   obtain⟨Ao25,co25,eo25⟩:=Kd.V_slice HO_8.out
   subst eo25
   go_wp2_with (first|((with_reducible refine gate_callee (f:=47) rfl ?_);refine goesL_ (some 33) rfl rfl Try.func47 (by kernel_rfl) rfl #[.slice Ao25 t228.length co25] rfl (by (try simp only [mA,mC,mN]);first|done|rfl|(simp only [List.length_drop,List.length_take];rfl)) ?_;(with_reducible refine (slices_Clone_int_int.calls _ _ t228 t234 _ ?side1 ?side2 A20.out).mono ?_);(case side1=>repeat (first|exact (Kd.V_reads' HO_8.out).2.2|(with_reducible first|apply aC|apply nC|apply dC)));(case side2=>exact (Kd.V_reads' HO_8.out).2.1);rintro e w26 ⟨v235,rfl,ho0,hb⟩;refine⟨_,rfl,?_⟩;have n0_:=mk0 (Kd.V_elder' (by (with_reducible repeat (first|apply aV|apply nV|apply dV));exact HO_8.out) (Kd.R_base ho0) hb);have n1_:=mk0 (Kd.R_lower ho0 (below_size (by repeat (first|(with_reducible first|exact HB.out|apply aZ|apply nZ|apply dZ|refine sZ ?_ GE226.out|refine sZ ?_ GE227.out)|exact HB.out))));have n2_:=mk0 (blk_below (g:=gb226) (o:=.cells #[.int .i64 a0_0,.slice A0_1 l0_1.length c0_1] 24 (0,0)) (by (with_reducible repeat (first|apply nB|apply dB|apply aB));exact BK226.out) hb);have n3_:=mk0 (blk_below (g:=gb227) (o:=.cells #[.int .i64 0,.slice none 0 0] 24 (0,0)) (by (with_reducible repeat (first|apply nB|apply dB|apply aB));exact BK227.out) hb);have n4_:=mk0 (below_step (by repeat (first|(with_reducible first|exact HB.out|apply aZ|apply nZ|apply dZ|refine sZ ?_ GE226.out|refine sZ ?_ GE227.out)|exact HB.out)) hb);clear HO_8 BK226 BK227 HB;have HO_8:=n0_;have HO236:=n1_;have BK226:=n2_;have BK227:=n3_;have HB:=n4_;clear n0_ n1_ n2_ n3_ n4_;(try clear hb);(try clear hb2);(try clear hk);(try clear hi);(try clear ho0);have p23:0 ≤ (a1:Int):=of_decide_eq_true (by first|(with_reducible assumption)|assumption);have q23:(a1:Int) < ((t234.length:Int):Int):=of_decide_eq_true (by first|(with_reducible assumption)|assumption);obtain⟨go23,co23,eo23,gb23,gl23,cl23,HG23⟩:=Kd.R_form HO236.out (by omega);(first|cases eo23|(injection eo23 with ea_ en_ ec_;(first|subst ea_|(injection ea_ with ea_;subst ea_));subst ec_;clear en_));have GB23:=mk0 gb23;have GG23:=mk0 HG23;clear gb23 gl23 HG23;obtain⟨hx23_0,hf23_0⟩:=Kd.R_celln 0 HO236.out (a1:Int) p23 q23;replace p23:=eq_true p23;replace q23:=eq_true q23;obtain⟨hy27_,hz27_⟩:=Kd.R_celln 0 HO236.out (a1:Int) (of_decide_eq_true (by first|(with_reducible assumption)|assumption)) (of_decide_eq_true (by first|(with_reducible assumption)|assumption));have HP27:=Kd.R_putg HO236.out (a1:Int) a2)|((with_reducible refine gate_store (t:=3) (p:=37) rfl ?_);refine store_event (t:=3) (p:=37) (v:=?vo_w28) (w1:=(w26.setCell ⟨go23,(a1:Int).toNat,none⟩ (.int .i64 a2))) ?hg ?ho ?hn ?hr ?_;(case ho=>rfl);(case hg=>rfl);(case hn=>rfl);(case hr=>first|(go_simp;done)|(go_simp;rfl));intro w28 hw;have hg:w26.grownBy w28 (some go23):=(by rw [hw];exact HP27.2);have hp_:Kd.R (Kd.int .i64) 3 w28 w.heap.size (fun _=>True) (.slice (some ⟨go23,0,none⟩) t234.length co23) y237:=(by rw [hw,Ny237.out];exact HP27.1);clear HP27;have n0_:=mk0 (Kd.V_afterv (v:=(.slice (some ⟨go23,0,none⟩) t234.length co23)) (v1:=(.slice (some ⟨go23,0,none⟩) t234.length co23)) (ok:=(fun k_=>k_ ≠ gb226 ∧ k_ ≠ gb227)) (by (with_reducible repeat (first|apply aV|apply nV|apply dV));exact HO_8.out) hg (.inl rfl));have n1_:=mk0 (blk_grown (g:=gb226) (o:=.cells #[.int .i64 a0_0,.slice A0_1 l0_1.length c0_1] 24 (0,0)) (by (with_reducible repeat (first|apply nB|apply dB|apply aB));exact BK226.out) hg (Kd.R_ne HO236.out BK226.out (by decide)));have n2_:=mk0 (blk_grown (g:=gb227) (o:=.cells #[.int .i64 0,.slice none 0 0] 24 (0,0)) (by (with_reducible repeat (first|apply nB|apply dB|apply aB));exact BK227.out) hg (Kd.R_ne HO236.out BK227.out (by decide)));have n3_:=mk0 (hp_);have n4_:=mk0 ((by rw [hw];exact sZ (HB.out) GB23.out:Below w.heap.size w w28));clear HO_8 BK226 BK227 HO236 HB;have HO_8:=n0_;have BK226:=n1_;have BK227:=n2_;have HO236:=n3_;have HB:=n4_;clear n0_ n1_ n2_ n3_ n4_ hg hw hp_)|((with_reducible refine gate_callee (f:=39) rfl ?_);refine goesL_ (some 39) rfl rfl Try.func39 (by kernel_rfl) rfl #[.slice (some ⟨go23,0,none⟩) y237.length co23] rfl (by (try simp only [mA,mC,mN]);first|done|(rw [show y237.length = t234.length from (Kd.R_reads' HO236.out).1.symm] <;> rfl)|rfl|(simp only [List.length_drop,List.length_take];rfl)) ?_;(with_reducible refine (impl_minsOf.calls kj4 _ _ y237 t238 t239 _ ?side1 ?side2 A24.out).mono ?_);(case side1=>repeat (first|exact (Kd.R_reads' HO236.out).2.2|(with_reducible first|apply aC|apply nC|apply dC)));(case side2=>rw [show y237.length = t234.length from (Kd.R_reads' HO236.out).1.symm];exact (Kd.R_reads' HO236.out).2.1);rintro e w29 ⟨v240,rfl,ho0,hb⟩;refine⟨_,rfl,?_⟩;have n0_:=mk0 (Kd.V_elder' (by (with_reducible repeat (first|apply aV|apply nV|apply dV));exact HO_8.out) (Kd.R_base ho0) hb);have n1_:=mk0 (Kd.R_elder' (by (with_reducible repeat (first|apply aR|apply nR|apply dR));exact HO236.out) (Kd.R_base ho0) hb);have n2_:=mk0 (Kd.R_lower (Kd.R_new' ho0 (Kd.R_lt (by (with_reducible repeat (first|apply aR|apply nR|apply dR));exact HO236.out))) (below_size (by repeat (first|(with_reducible first|exact HB.out|apply aZ|apply nZ|apply dZ|refine sZ ?_ GE226.out|refine sZ ?_ GE227.out)|exact HB.out))));have n3_:=mk0 (blk_below (g:=gb226) (o:=.cells #[.int .i64 a0_0,.slice A0_1 l0_1.length c0_1] 24 (0,0)) (by (with_reducible repeat (first|apply nB|apply dB|apply aB));exact BK226.out) hb);have n4_:=mk0 (blk_below (g:=gb227) (o:=.cells #[.int .i64 0,.slice none 0 0] 24 (0,0)) (by (with_reducible repeat (first|apply nB|apply dB|apply aB));exact BK227.out) hb);have n5_:=mk0 (below_step (by repeat (first|(with_reducible first|exact HB.out|apply aZ|apply nZ|apply dZ|refine sZ ?_ GE226.out|refine sZ ?_ GE227.out)|exact HB.out)) hb);clear HO_8 HO236 BK226 BK227 HB;have HO_8:=n0_;have HO236:=n1_;have HO241:=n2_;have BK226:=n3_;have BK227:=n4_;have HB:=n5_;clear n0_ n1_ n2_ n3_ n4_ n5_;(try clear hb);(try clear hb2);(try clear hk);(try clear hi);(try clear ho0);have hnb30:=NB227_226.out;have hnc30:=NB226_227.out;have hcz31_0:w29.cell? ⟨gb227,0,none⟩ = some (.int .i64 0):=(blk_cell BK227.out 0).trans rfl;have hcz31_1:w29.cell? ⟨gb227,1,none⟩ = some (.slice none 0 0):=(blk_cell BK227.out 1).trans rfl;have hfz31_0:=blk_frozen BK227.out 0;have hfz31_1:=blk_frozen BK227.out 1;obtain⟨Ao32,co32,eo32⟩:=Kd.R_slice HO241.out;subst eo32))
   refine bodyPost_ret (results_ct rfl _ _ gb227 24 #[.int .i64 t238,.slice Ao32 t239.length co32] (0,0) _ rfl (by (with_reducible repeat (first|apply nB|apply dB|apply aB));refine blk_put (cs:=#[.int .i64 t238,.slice none 0 0]) ?_ 1 _ rfl;(with_reducible repeat (first|apply nB|apply dB|apply aB));refine blk_put (cs:=#[.int .i64 0,.slice none 0 0]) ?_ 0 _ rfl;(with_reducible repeat (first|apply nB|apply dB|apply aB));exact BK227.out) Try.underlying24 rfl (by kernel_rfl)) rfl ?_
   exact⟨_,by first|rfl|(simp [errW_none,errW_some] <;> rfl)|(simp [*,errW_none,errW_some] <;> rfl),by (with_reducible repeat (first|apply aR|apply nR|apply dR));exact Kd.R_mono (Kd.R_far (p:=⟨gb227,1,none⟩) (Kd.R_far (p:=⟨gb227,0,none⟩) (Kd.R_types HO241.out BK227.out (by decide)) (fun _ hk=>hk.2) (.int .i64 t238)) (fun _ hk=>hk.2) (.slice Ao32 t239.length co32)) (fun _ hk=>trivial),by repeat (first|(with_reducible first|exact HB.out|apply aZ|apply nZ|apply dZ|refine sZ ?_ GE226.out|refine sZ ?_ GE227.out)|exact HB.out)⟩
/-! ### laws_big: function 32 -/
def laws_big.f (l0 : List Int) : Option (Bool) := some (decide ((l0.length : Int) > 1048576))
set_option maxHeartbeats 8000000 in
set_option maxRecDepth 100000 in
theorem laws_big.calls (A0 : Option Addr) (c0 : Nat) (l0 : List Int) (r : Bool) (w : World) (hr0 : Kd.C (Kd.int .u8) w A0 l0.length l0) (hc0 : l0.length ≤ c0) (h : laws_big.f l0 = some r) :
  Calls Try.prog 32 #[.slice A0 l0.length c0] w fun e w' => e = .returned (.bool r) ∧ Drawn0 w w' := by
 have HR0:=mk0 hr0
 have HC0:=mk0 hc0
 clear hr0 hc0
 have H:(some (decide ((l0.length:Int) > 1048576))) = some r:=h
 clear h
 obtain rfl:=Option.some.inj H
 go_enter Try.func32,Try.ntmps32
 go_wp2
 go_ret
 exact⟨by first|rfl|(simp;done)|(simp [*];done),by repeat (first|exact Drawn0.refl _|apply Drawn0.step)⟩

/-- A state of type 62 at block g of W; what its slices lead to came in by w0. -/
def IsS62 (w0 W : World) (g : Nat) (f0 : List Int) (f1 : Int) (f2 : Int) : Prop := ∃ A0 c0, W.heap[g]? = some (.cells #[.slice A0 f0.length c0, .int .i64 f1, .int .i64 f2] 62 (0, 0)) ∧ w0.heap.size ≤ g ∧ Kd.C (Kd.int .u8) w0 A0 f0.length f0
theorem IsS62.grown {w0 W : World} {g : Nat} {f0 : List Int} {f1 : Int} {f2 : Int} {W1 : World} {row : Option Nat} (h : IsS62 w0 W g f0 f1 f2) (hw : W.grownBy W1 row) (hne : some g ≠ row) : IsS62 w0 W1 g f0 f1 f2 := by
 obtain ⟨A0, c0, hb, hg, hr0⟩ := h
 exact ⟨A0, c0, blk_grown hb hw hne, hg, hr0⟩
theorem IsS62.own_neN {w0 W : World} {g : Nat} {f0 : List Int} {f1 : Int} {f2 : Int} {α : Type} {d : Kd α} {e : Nat} {base : Nat} {ok : Nat → Prop} {v : Value} {xs : List α} (h : IsS62 w0 W g f0 f1 f2) (ho : Kd.N d e W base ok v xs) (ht : e ≠ 62) : some g ≠ v.ownBlock := by
 obtain ⟨A0, c0, hb, hg, hr0⟩ := h
 exact Kd.N_ne ho hb ht
theorem IsS62.fresh {w0 W : World} {g : Nat} {f0 : List Int} {f1 : Int} {f2 : Int} (h : IsS62 w0 W g f0 f1 f2) : ∀ k, W.heap.size ≤ k → k ≠ g := by
 obtain ⟨A0, c0, hb, hg, hr0⟩ := h
 exact Kd.freshB hb
theorem IsS62.kept {w0 W : World} {g : Nat} {f0 : List Int} {f1 : Int} {f2 : Int} {W1 : World} {S : Nat → Prop} (h : IsS62 w0 W g f0 f1 f2) (hk : Kept W W1 S) (hne : ¬ S g) : IsS62 w0 W1 g f0 f1 f2 := by
 obtain ⟨A0, c0, hb, hg, hr0⟩ := h
 exact ⟨A0, c0, blk_kept hb hk hne, hg, hr0⟩
theorem IsS62.below {w0 W : World} {g : Nat} {f0 : List Int} {f1 : Int} {f2 : Int} {W1 : World} (h : IsS62 w0 W g f0 f1 f2) (hw : Below W.heap.size W W1) : IsS62 w0 W1 g f0 f1 f2 := h.grown (grown_of_below hw none) (by simp)
theorem IsS62.alloc {w0 W : World} {g : Nat} {f0 : List Int} {f1 : Int} {f2 : Int} (h : IsS62 w0 W g f0 f1 f2) (o : Obj) : IsS62 w0 (W.alloc o) g f0 f1 f2 := h.below (below_alloc (Below.refl _ _) o)
theorem IsS62.drewN {w0 W : World} {g : Nat} {f0 : List Int} {f1 : Int} {f2 : Int} (h : IsS62 w0 W g f0 f1 f2) (m : Nat) : IsS62 w0 (W.drewN m) g f0 f1 f2 := h
theorem IsS62.drew {w0 W : World} {g : Nat} {f0 : List Int} {f1 : Int} {f2 : Int} (h : IsS62 w0 W g f0 f1 f2) : IsS62 w0 W.drew g f0 f1 f2 := h
theorem IsS62.at_ {w0 W : World} {g : Nat} {f0 : List Int} {f1 : Int} {f2 : Int} {w' : World} {m : Nat} (hq : W.drewN m = w') (h : IsS62 w0 W g f0 f1 f2) : IsS62 w0 w' g f0 f1 f2 := by subst hq; exact IsS62.drewN h m
theorem IsS62.apart {w0 W : World} {g : Nat} {f0 : List Int} {f1 : Int} {f2 : Int} {α : Type} {d : Kd α} {e : Nat} {base : Nat} {ok : Nat → Prop} {v : Value} {xs : List α} (h : IsS62 w0 W g f0 f1 f2) (ho : d.R e W base ok v xs) (ht : ∀ q, q ∈ e :: d.E → q ≠ 62) : d.R e W base (fun k => ok k ∧ k ≠ g) v xs := by
 obtain ⟨A0, c0, hb, hg, hr0⟩ := h
 exact Kd.R_types ho hb ht
theorem IsS62.own_ne {w0 W : World} {g : Nat} {f0 : List Int} {f1 : Int} {f2 : Int} {α : Type} {d : Kd α} {e : Nat} {base : Nat} {ok : Nat → Prop} {v : Value} {xs : List α} (h : IsS62 w0 W g f0 f1 f2) (ho : d.R e W base ok v xs) (ht : e ≠ 62) : some g ≠ v.ownBlock := by
 obtain ⟨A0, c0, hb, hg, hr0⟩ := h
 exact Kd.R_ne ho hb ht
theorem IsS62.apartQ {w0 W : World} {g : Nat} {f0 : List Int} {f1 : Int} {f2 : Int} {α : Type} {d : Kd α} {e : Nat} {base : Nat} {ok : Nat → Prop} {v : Value} {xs : List α} (h : IsS62 w0 W g f0 f1 f2) (ho : d.Q e W base ok v xs) (ht : ∀ q, q ∈ e :: d.E → q ≠ 62) : d.Q e W base (fun k => ok k ∧ k ≠ g) v xs := by
 obtain ⟨A0, c0, hb, hg, hr0⟩ := h
 exact Kd.Q_types ho hb ht
theorem IsS62.own_neQ {w0 W : World} {g : Nat} {f0 : List Int} {f1 : Int} {f2 : Int} {α : Type} {d : Kd α} {e : Nat} {base : Nat} {ok : Nat → Prop} {v : Value} {xs : List α} (h : IsS62 w0 W g f0 f1 f2) (ho : d.Q e W base ok v xs) (ht : e ≠ 62) : some g ≠ v.ownBlock := by
 obtain ⟨A0, c0, hb, hg, hr0⟩ := h
 exact Kd.Q_ne ho hb ht
theorem IsS62.apartS {w0 W : World} {g : Nat} {f0 : List Int} {f1 : Int} {f2 : Int} {α : Type} {d : Kd α} {e : Nat} {base : Nat} {ok : Nat → Prop} {v : Value} {xs : List α} (h : IsS62 w0 W g f0 f1 f2) (ho : d.S e W base ok v xs) (ht : ∀ q, q ∈ e :: d.E → q ≠ 62) : d.S e W base (fun k => ok k ∧ k ≠ g) v xs := by
 obtain ⟨A0, c0, hb, hg, hr0⟩ := h
 exact Kd.S_types ho hb ht
theorem IsS62.own_neS {w0 W : World} {g : Nat} {f0 : List Int} {f1 : Int} {f2 : Int} {α : Type} {d : Kd α} {e : Nat} {base : Nat} {ok : Nat → Prop} {v : Value} {xs : List α} (h : IsS62 w0 W g f0 f1 f2) (ho : d.S e W base ok v xs) (ht : e ≠ 62) : some g ≠ v.ownBlock := by
 obtain ⟨A0, c0, hb, hg, hr0⟩ := h
 exact Kd.S_ne ho hb ht
theorem IsS62.lt {w0 W : World} {g : Nat} {f0 : List Int} {f1 : Int} {f2 : Int} (h : IsS62 w0 W g f0 f1 f2) : g < W.heap.size := by
 obtain ⟨A0, c0, hb, hg, hr0⟩ := h
 exact blk_lt hb
theorem IsS62.ge {w0 W : World} {g : Nat} {f0 : List Int} {f1 : Int} {f2 : Int} (h : IsS62 w0 W g f0 f1 f2) : w0.heap.size ≤ g := by
 obtain ⟨A0, c0, hb, hg, hr0⟩ := h
 exact hg
theorem IsS62.ne_blk {w0 W : World} {g : Nat} {f0 : List Int} {f1 : Int} {f2 : Int} {a : Nat} {cs : Array Value} {t : TypeId} {fr : Nat × Nat} (h : IsS62 w0 W g f0 f1 f2) (hb2 : W.heap[a]? = some (.cells cs t fr)) (ht : t ≠ 62) : g ≠ a := by
 obtain ⟨A0, c0, hb, hg, hr0⟩ := h
 rintro rfl
 rw [hb] at hb2
 injection hb2 with hb2
 injection hb2 with _ ht2
 exact ht ht2.symm
theorem IsS62.far {w0 W : World} {g : Nat} {f0 : List Int} {f1 : Int} {f2 : Int} {p : Addr} (h : IsS62 w0 W g f0 f1 f2) (hne : g ≠ p.block) (u : Value) : IsS62 w0 (W.setCell p u) g f0 f1 f2 := by
 obtain ⟨A0, c0, hb, hg, hr0⟩ := h
 exact ⟨A0, c0, blk_far hb hne u, hg, hr0⟩
theorem cellS62_0 {W : World} {g : Nat} {A0 : Option Addr} {c0 : Nat} {f0 : List Int} {f1 : Int} {f2 : Int} (h : W.heap[g]? = some (.cells #[.slice A0 f0.length c0, .int .i64 f1, .int .i64 f2] 62 (0, 0))) : W.cell? ⟨g, 0, none⟩ = some (.slice A0 f0.length c0) := (blk_cell h 0).trans rfl
theorem cellS62_1 {W : World} {g : Nat} {A0 : Option Addr} {c0 : Nat} {f0 : List Int} {f1 : Int} {f2 : Int} (h : W.heap[g]? = some (.cells #[.slice A0 f0.length c0, .int .i64 f1, .int .i64 f2] 62 (0, 0))) : W.cell? ⟨g, 1, none⟩ = some (.int .i64 f1) := (blk_cell h 1).trans rfl
theorem IsS62.set_1 {w0 W : World} {g : Nat} {f0 : List Int} {f1 : Int} {f2 : Int} (h : IsS62 w0 W g f0 f1 f2) (x : Int) : IsS62 w0 (W.setCell ⟨g, 1, none⟩ (.int .i64 x)) g f0 x f2 := by
 obtain ⟨A0, c0, hb, hg, hr0⟩ := h
 exact ⟨A0, c0, by simpa using blk_set hb 1 (.int .i64 x), hg, hr0⟩
theorem cellS62_2 {W : World} {g : Nat} {A0 : Option Addr} {c0 : Nat} {f0 : List Int} {f1 : Int} {f2 : Int} (h : W.heap[g]? = some (.cells #[.slice A0 f0.length c0, .int .i64 f1, .int .i64 f2] 62 (0, 0))) : W.cell? ⟨g, 2, none⟩ = some (.int .i64 f2) := (blk_cell h 2).trans rfl
theorem IsS62.set_2 {w0 W : World} {g : Nat} {f0 : List Int} {f1 : Int} {f2 : Int} (h : IsS62 w0 W g f0 f1 f2) (x : Int) : IsS62 w0 (W.setCell ⟨g, 2, none⟩ (.int .i64 x)) g f0 f1 x := by
 obtain ⟨A0, c0, hb, hg, hr0⟩ := h
 exact ⟨A0, c0, by simpa using blk_set hb 2 (.int .i64 x), hg, hr0⟩
theorem IsS62.new (w0 W : World) (A0 : Option Addr) (c0 : Nat) (f0 : List Int) (f1 : Int) (f2 : Int) (hB : Below w0.heap.size w0 W) (hr0 : Kd.C (Kd.int .u8) w0 A0 f0.length f0) : IsS62 w0 (W.alloc (.cells #[.slice A0 f0.length c0, .int .i64 f1, .int .i64 f2] 62)) W.heap.size f0 f1 f2 := ⟨A0, c0, by simpa using heap_alloc_new W _, hB.size, hr0⟩

/-! ### spec_l01Open: function 49 -/
def spec_l01Open.f (l0 : List Int) : Option (List Int × Int × Int) := some (l0, 0, 89 + ((l0.length : Int) % 1000))
set_option maxHeartbeats 8000000 in
set_option maxRecDepth 100000 in
theorem spec_l01Open.calls (A0 : Option Addr) (c0 : Nat) (l0 : List Int) (r1 : List Int) (r2 : Int) (r3 : Int) (w0 w : World) (hB : Below w0.heap.size w0 w) (hr0 : Kd.C (Kd.int .u8) w0 A0 l0.length l0) (hc0 : l0.length ≤ c0) (h : spec_l01Open.f l0 = some (r1, r2, r3)) :
  Calls Try.prog 49 #[.slice A0 l0.length c0] w fun e w' => ∃ g_ : Nat, e = .returned (.pointer (some ⟨g_, 0, none⟩)) ∧ IsS62 w0 w' g_ r1 r2 r3 ∧ Below w0.heap.size w0 w' ∧ Below w.heap.size w w' := by
 have hu62:=Try.underlying62
 have HR0:=mk0 hr0
 have HC0:=mk0 hc0
 clear hr0 hc0
 have HBW:=mk0 (Below.refl w.heap.size w)
 have HW0:=mk0 hB.size
 have HB:=mk0 hB
 clear hB
 have H:(some (l0,0,89 + ((l0.length:Int) % 1000))) = some (r1,r2,r3):=h
 clear h
 simp only [Option.some.injEq,Prod.mk.injEq] at H
 obtain⟨rfl,rfl,rfl⟩:=H
 go_enter Try.func49,Try.ntmps49
 go_wp2_with (first|((with_reducible refine gate_dst (N:=9) rfl ?_);refine box_event ?hg (N:=9) ?hd (cs:=#[.slice A0 l0.length c0,.int .i64 0,.int .i64 (89 + ((l0.length:Int) % 1000))]) (t:=62) ?hr ?_;(case hd=>rfl);(case hg=>rfl);(case hr=>first|(go_simp;done)|(go_simp;rfl));intro gb242 hg w2 hbox hb;have n0_:=mk0 (below_step HBW.out hb);have n1_:=mk0 (below_step (by repeat (first|(with_reducible first|exact HB.out|apply aZ|apply nZ|apply dZ)|exact HB.out)) hb);have n2_:=mk0 (hbox);have n3_:=mk0 ((by rw [hg];exact (below_size (by repeat (first|(with_reducible first|exact HBW.out|apply aZ|apply nZ|apply dZ)|exact HBW.out))):w.heap.size ≤ gb242));have n4_:=mk0 ((Nat.le_trans HW0.out (by rw [hg];exact (below_size (by repeat (first|(with_reducible first|exact HBW.out|apply aZ|apply nZ|apply dZ)|exact HBW.out))):w.heap.size ≤ gb242):w0.heap.size ≤ gb242));clear HBW HB;have HBW:=n0_;have HB:=n1_;have BK242:=n2_;have GW242:=n3_;have GE242:=n4_;clear n0_ n1_ n2_ n3_ n4_ hb hbox hg))
 go_ret
 exact⟨_,rfl,(show IsS62 w0 _ gb242 l0 0 (89 + ((l0.length:Int) % 1000)) from ⟨_,_,by (with_reducible repeat (first|apply nB|apply dB|apply aB));exact BK242.out,GE242.out,HR0.out⟩),by repeat (first|(with_reducible first|exact HB.out|apply aZ|apply nZ|apply dZ|refine sZ ?_ GE242.out)|exact HB.out),by repeat (first|(with_reducible first|exact HBW.out|apply aZ|apply nZ|apply dZ|refine sZ ?_ GW242.out)|exact HBW.out)⟩

/-! ### spec_l01Cur_pick: function 52 -/
def spec_l01Cur_pick.f (s0_0 : List Int) (s0_1 : Int) (s0_2 : Int) (a1 : Int) : Option (Int × Int × Int) := if a1 < 2 then (some (0, s0_1, s0_2)) else (if s0_1 < (s0_0.length : Int) then (if 0 ≤ s0_1 then (if a1 = 0 then (none) else (some (Int.tmod (wrap64 (rd s0_0 s0_1)) a1, wrap64 (s0_1 + 1), s0_2))) else (none)) else (if (s0_0.length : Int) > 0 then (if (s0_0.length : Int) = 0 then (none) else (if 0 ≤ (Int.tmod s0_1 (s0_0.length : Int)) then (if (Int.tmod s0_1 (s0_0.length : Int)) < (s0_0.length : Int) then (if a1 = 0 then (none) else (some (Int.tmod (wrap64 ((wrap64 (Int.tdiv (Int.tmod (wrap64 ((wrap64 (s0_2 * 1103)) + 12345)) 65521) 7)) + (wrap64 (rd s0_0 (Int.tmod s0_1 (s0_0.length : Int)))))) a1, wrap64 (s0_1 + 1), Int.tmod (wrap64 ((wrap64 (s0_2 * 1103)) + 12345)) 65521))) else (none)) else (none))) else (if a1 = 0 then (none) else (some ((0 : Int) % a1, wrap64 (s0_1 + 1), Int.tmod (wrap64 ((wrap64 (s0_2 * 1103)) + 12345)) 65521)))))
set_option maxHeartbeats 8000000 in
set_option maxRecDepth 100000 in
theorem spec_l01Cur_pick.calls (g : Nat) (s0_0 : List Int) (s0_1 : Int) (s0_2 : Int) (a1 : Int) (r1 : Int) (r2 : Int) (r3 : Int) (w0 w : World) (hI : IsS62 w0 w g s0_0 s0_1 s0_2) (hB : Below w0.heap.size w0 w) (h : spec_l01Cur_pick.f s0_0 s0_1 s0_2 a1 = some (r1, r2, r3)) :
  Calls Try.prog 52 #[.pointer (some ⟨g, 0, none⟩), .int .i64 a1] w fun e w' => e = .returned (.int .i64 r1) ∧ IsS62 w0 w' g s0_0 r2 r3 ∧ Below w0.heap.size w0 w' ∧ KeepBut w w' g none := by
 have HI0:=mk0 hI
 have HK:=mk0 (KeepBut.refl w g none)
 have HL:=mk0 hB.size
 clear hI
 have HW0:=mk0 hB.size
 have HB:=mk0 hB
 clear hB
 have H:(if a1 < 2 then (some (0,s0_1,s0_2)) else (if s0_1 < (s0_0.length:Int) then (if 0 ≤ s0_1 then (if a1 = 0 then (none) else (some (Int.tmod (wrap64 (rd s0_0 s0_1)) a1,wrap64 (s0_1 + 1),s0_2))) else (none)) else (if (s0_0.length:Int) > 0 then (if (s0_0.length:Int) = 0 then (none) else (if 0 ≤ (Int.tmod s0_1 (s0_0.length:Int)) then (if (Int.tmod s0_1 (s0_0.length:Int)) < (s0_0.length:Int) then (if a1 = 0 then (none) else (some (Int.tmod (wrap64 ((wrap64 (Int.tdiv (Int.tmod (wrap64 ((wrap64 (s0_2 * 1103)) + 12345)) 65521) 7)) + (wrap64 (rd s0_0 (Int.tmod s0_1 (s0_0.length:Int)))))) a1,wrap64 (s0_1 + 1),Int.tmod (wrap64 ((wrap64 (s0_2 * 1103)) + 12345)) 65521))) else (none)) else (none))) else (if a1 = 0 then (none) else (some ((0:Int) % a1,wrap64 (s0_1 + 1),Int.tmod (wrap64 ((wrap64 (s0_2 * 1103)) + 12345)) 65521)))))) = some (r1,r2,r3):=h
 clear h
 by_cases c3:a1 < 2
 ·rw [if_pos c3] at H
  have c3b0:decide (a1 < 2) = true:=decide_eq_true c3
  clear c3
  simp only [Option.some.injEq,Prod.mk.injEq] at H
  obtain⟨rfl,rfl,rfl⟩:=H
  go_enter Try.func52,Try.ntmps52
  go_wp2
  repeat (go_quiet (fail);try go_wp2)
  go_ret
  exact⟨by first|rfl|(simp [errW_none,errW_some] <;> rfl)|(simp [*,errW_none,errW_some] <;> rfl),by repeat (first|(with_reducible first|exact HI0.out|apply IsS62.alloc|apply IsS62.drewN|apply IsS62.drew|apply IsS62.set_1|apply IsS62.set_2)|exact HI0.out),by repeat (first|(with_reducible first|exact HB.out|apply aZ|apply nZ|apply dZ|refine sZ ?_ (IsS62.ge HI0.out))|exact HB.out),by repeat (first|(with_reducible first|exact HK.out|apply KeepBut.set_|apply keep_drewN|apply keep_drew|apply keep_alloc)|exact HK.out)⟩
 ·rw [if_neg c3] at H
  have c3b0:decide (a1 < 2) = false:=decide_eq_false c3
  clear c3
  by_cases c4:s0_1 < (s0_0.length:Int)
  ·rw [if_pos c4] at H
   have c4b0:decide (s0_1 < (s0_0.length:Int)) = true:=decide_eq_true c4
   clear c4
   by_cases c5:0 ≤ s0_1
   ·rw [if_pos c5] at H
    have c5b0:decide (0 ≤ s0_1) = true:=decide_eq_true c5
    clear c5
    by_cases c6:a1 = 0
    ·rw [if_pos c6] at H
     exact absurd H (by simp)
    ·rw [if_neg c6] at H
     have c6b0:(a1 == 0) = false:=beq_eq_false_iff_ne.mpr c6
     have c6b1:(a1 != 0) = true:=bne_iff_ne.mpr c6
     simp only [Option.some.injEq,Prod.mk.injEq] at H
     obtain⟨rfl,rfl,rfl⟩:=H
     obtain⟨ASz7_0,cSz7_0,HGz7,hgz7,HSz7_0⟩:=HI0.out
     have hcz7_0:=cellS62_0 HGz7
     have hcz7_1:=cellS62_1 HGz7
     have hcz7_2:=cellS62_2 HGz7
     have hfz7_1:=blk_frozen HGz7 1
     have hfz7_2:=blk_frozen HGz7 2
     clear HGz7 hgz7
     have p243:0 ≤ (s0_1:Int):=of_decide_eq_true (by first|(with_reducible assumption)|assumption)
     have q243:s0_1 < (s0_0.length:Int):=of_decide_eq_true (by first|(with_reducible assumption)|assumption)
     obtain⟨ad243,e243,hx243_0⟩:=Kd.at_int HSz7_0 s0_1 p243 q243
     cases e243
     replace hx243_0:=pw_cell_below HB.out hx243_0
     replace p243:=eq_true p243
     replace q243:=eq_true q243
     go_enter Try.func52,Try.ntmps52
     go_wp2
     repeat (go_quiet (fail);try go_wp2)
     go_ret
     exact⟨by first|rfl|(simp [errW_none,errW_some] <;> rfl)|(simp [*,errW_none,errW_some] <;> rfl),by repeat (first|(with_reducible first|exact HI0.out|apply IsS62.alloc|apply IsS62.drewN|apply IsS62.drew|apply IsS62.set_1|apply IsS62.set_2)|exact HI0.out),by repeat (first|(with_reducible first|exact HB.out|apply aZ|apply nZ|apply dZ|refine sZ ?_ (IsS62.ge HI0.out))|exact HB.out),by repeat (first|(with_reducible first|exact HK.out|apply KeepBut.set_|apply keep_drewN|apply keep_drew|apply keep_alloc)|exact HK.out)⟩
   ·rw [if_neg c5] at H
    exact absurd H (by simp)
  ·rw [if_neg c4] at H
   have c4b0:decide (s0_1 < (s0_0.length:Int)) = false:=decide_eq_false c4
   clear c4
   by_cases c8:(s0_0.length:Int) > 0
   ·rw [if_pos c8] at H
    have c8b0:decide (0 < (s0_0.length:Int)) = true:=decide_eq_true c8
    have c8b1:decide (0 < s0_0.length) = true:=decide_eq_true (by omega)
    clear c8
    by_cases c9:(s0_0.length:Int) = 0
    ·rw [if_pos c9] at H
     exact absurd H (by simp)
    ·rw [if_neg c9] at H
     have c9b0:((s0_0.length:Int) == 0) = false:=beq_eq_false_iff_ne.mpr c9
     have c9b1:((s0_0.length:Int) != 0) = true:=bne_iff_ne.mpr c9
     have c9b2:¬ (s0_0 = []):=fun h_=>c9 (by rw [h_];rfl)
     obtain⟨ji10,hji10⟩:∃ j_:Int,(Int.tmod s0_1 (s0_0.length:Int)) = j_:=⟨_,rfl⟩
     replace H:(if 0 ≤ (ji10) then (if (ji10) < (s0_0.length:Int) then (if a1 = 0 then (none) else (some (Int.tmod (wrap64 ((wrap64 (Int.tdiv (Int.tmod (wrap64 ((wrap64 (s0_2 * 1103)) + 12345)) 65521) 7)) + (wrap64 (rd s0_0 (ji10))))) a1,wrap64 (s0_1 + 1),Int.tmod (wrap64 ((wrap64 (s0_2 * 1103)) + 12345)) 65521))) else (none)) else (none)) = some (r1,r2,r3):=by first|(rw [hji10] at H;exact H)|(simp only [hji10] at H ⊢;exact H)
     by_cases c11:0 ≤ (ji10)
     ·rw [if_pos c11] at H
      have c11b0:decide (0 ≤ (ji10)) = true:=decide_eq_true c11
      clear c11
      by_cases c12:(ji10) < (s0_0.length:Int)
      ·rw [if_pos c12] at H
       have c12b0:decide ((ji10) < (s0_0.length:Int)) = true:=decide_eq_true c12
       clear c12
       by_cases c13:a1 = 0
       ·rw [if_pos c13] at H
        exact absurd H (by simp)
       ·rw [if_neg c13] at H
        have c13b0:(a1 == 0) = false:=beq_eq_false_iff_ne.mpr c13
        have c13b1:(a1 != 0) = true:=bne_iff_ne.mpr c13
        simp only [Option.some.injEq,Prod.mk.injEq] at H
        obtain⟨rfl,rfl,rfl⟩:=H
        obtain⟨ASz14_0,cSz14_0,HGz14,hgz14,HSz14_0⟩:=HI0.out
        have hcz14_0:=cellS62_0 HGz14
        have hcz14_1:=cellS62_1 HGz14
        have hcz14_2:=cellS62_2 HGz14
        have hfz14_1:=blk_frozen HGz14 1
        have hfz14_2:=blk_frozen HGz14 2
        clear HGz14 hgz14
        have p244:0 ≤ ((ji10):Int):=of_decide_eq_true (by first|(with_reducible assumption)|assumption)
        have q244:(ji10) < (s0_0.length:Int):=of_decide_eq_true (by first|(with_reducible assumption)|assumption)
        obtain⟨ad244,e244,hx244_0⟩:=Kd.at_int HSz14_0 (ji10) p244 q244
        cases e244
        have hn244_0:ad244.block ≠ g:=Nat.ne_of_lt (Nat.lt_of_lt_of_le (by have:=World.block_lt_of_cell? _ _ hx244_0;first|rwa [add_block] at this|exact this) (IsS62.ge HI0.out))
        replace hx244_0:=pw_cell_below HB.out hx244_0
        replace hx244_0:=(cell_far (p:=⟨g,2,none⟩) (by first|(rw [add_block];exact hn244_0)|(show (Addr.add _ _).block ≠ _;rw [add_block];exact hn244_0)|exact hn244_0) (.int .i64 (Int.tmod (wrap64 ((wrap64 (s0_2 * 1103)) + 12345)) 65521))).trans hx244_0
        (try have hy244_0:=fun (n_:Nat)=>(show (((w.drewN n_).setCell ⟨g,2,none⟩ (.int .i64 (Int.tmod (wrap64 ((wrap64 (s0_2 * 1103)) + 12345)) 65521)))).cell? _ = some _ from hx244_0))
        clear hn244_0
        replace p244:=eq_true p244
        replace q244:=eq_true q244
        go_enter Try.func52,Try.ntmps52
        go_wp2
        repeat (go_quiet (fail);try go_wp2)
        go_ret
        exact⟨by first|rfl|(simp [errW_none,errW_some] <;> rfl)|(simp only [← hji10];first|rfl|(simp [errW_none,errW_some] <;> rfl))|(simp [*,errW_none,errW_some] <;> rfl),by repeat (first|(with_reducible first|exact HI0.out|apply IsS62.alloc|apply IsS62.drewN|apply IsS62.drew|apply IsS62.set_1|apply IsS62.set_2)|exact HI0.out),by repeat (first|(with_reducible first|exact HB.out|apply aZ|apply nZ|apply dZ|refine sZ ?_ (IsS62.ge HI0.out))|exact HB.out),by repeat (first|(with_reducible first|exact HK.out|apply KeepBut.set_|apply keep_drewN|apply keep_drew|apply keep_alloc)|exact HK.out)⟩
      ·rw [if_neg c12] at H
       exact absurd H (by simp)
     ·rw [if_neg c11] at H
      exact absurd H (by simp)
   ·rw [if_neg c8] at H
    have c8b0:decide (0 < (s0_0.length:Int)) = false:=decide_eq_false c8
    have c8b1:decide (0 < s0_0.length) = false:=decide_eq_false (by omega)
    clear c8
    by_cases c15:a1 = 0
    ·rw [if_pos c15] at H
     exact absurd H (by simp)
    ·rw [if_neg c15] at H
     have c15b0:(a1 == 0) = false:=beq_eq_false_iff_ne.mpr c15
     have c15b1:(a1 != 0) = true:=bne_iff_ne.mpr c15
     simp only [Option.some.injEq,Prod.mk.injEq] at H
     obtain⟨rfl,rfl,rfl⟩:=H
     obtain⟨ASz16_0,cSz16_0,HGz16,hgz16,HSz16_0⟩:=HI0.out
     have hcz16_0:=cellS62_0 HGz16
     have hcz16_1:=cellS62_1 HGz16
     have hcz16_2:=cellS62_2 HGz16
     have hfz16_1:=blk_frozen HGz16 1
     have hfz16_2:=blk_frozen HGz16 2
     clear HGz16 hgz16
     go_enter Try.func52,Try.ntmps52
     go_wp2
     repeat (go_quiet (fail);try go_wp2)
     go_ret
     exact⟨by first|rfl|(simp [errW_none,errW_some] <;> rfl)|(simp [*,errW_none,errW_some] <;> rfl),by repeat (first|(with_reducible first|exact HI0.out|apply IsS62.alloc|apply IsS62.drewN|apply IsS62.drew|apply IsS62.set_1|apply IsS62.set_2)|exact HI0.out),by repeat (first|(with_reducible first|exact HB.out|apply aZ|apply nZ|apply dZ|refine sZ ?_ (IsS62.ge HI0.out))|exact HB.out),by repeat (first|(with_reducible first|exact HK.out|apply KeepBut.set_|apply keep_drewN|apply keep_drew|apply keep_alloc)|exact HK.out)⟩

end Go.Proofs.Ytpheodpcppclaaa.QFnMinsSet
