-- A walk, made by walk.py, a program of this session's.
import Derived.Test.YtpheodpcppclaaaQFnMinsx0
import Derived.Test.YtpheodpcppclaaaQFnMinsx3
import Derived.Test.YtpheodpcppclaaaQFnMinsx4
import Derived.Test.YtpheodpcppclaaaQFnMinsx6
import Derived.Test.YtpheodpcppclaaaQFnMinsx7
import Derived.Test.YtpheodpcppclaaaQFnMinsx9
namespace Go.Proofs.Ytpheodpcppclaaa.QFnMins
open Go.RowKit Go.Proofs.YtpheodpcppclaaaW.PrintWords Go.Proofs.YtpheodpcppclaaaW.PrintLast Go.Proofs.YtpheodpcppclaaaW.PrintMore
attribute [local go_sem] max2_int min2_int max_two min_two max_three min_three max_four min_four   -- for this text's walks alone
set_option linter.unusedVariables false
set_option linter.unusedSimpArgs false

/-! ### laws_FnMins: function 10 -/
mutual
def laws_FnMins.j0 : Nat → Int → Int → Int → Bool → Int → List Int → Option (Bool)
 | 0, _, _, _, _, _, _ => none
 | k + 1, x4, x5, x6, x33, x369000, x369001 => if x33 = true then ((spec_MinsRange.f k x369000 x369001 x4 x5).bind fun t371 => (some (x6 == t371))) else ((impl_MinsList.f k x369000 x369001).bind fun t372 => (if (t372.length : Int) = x369000 then (laws_FnMins.l0 k x4 x5 x6 t372 x4 x369000 x369001) else (some false)))
def laws_FnMins.l0 : Nat → Int → Int → Int → List Int → Int → Int → List Int → Option (Bool)
 | 0, _, _, _, _, _, _, _ => none
 | k + 1, x4, x5, x6, x7, x8, x369000, x369001 => if x8 < x5 then (if 0 ≤ x8 then (if x8 < (x7.length : Int) then (if (rd x7 x8) < x6 then (some false) else (laws_FnMins.l0 k x4 x5 x6 x7 (wrap64 (x8 + 1)) x369000 x369001)) else (none)) else (none)) else ((impl_MinsPrev.f k x369000 x369001 x4 x6).bind fun t376 => ((impl_MinsNext.f k x369000 x369001 x5 x6).bind fun t377 => (laws_FnMins.l1 k x4 x5 x6 x7 t376 t377 (wrap64 (t376 + 1)) x369000 x369001)))
def laws_FnMins.l1 : Nat → Int → Int → Int → List Int → Int → Int → Int → Int → List Int → Option (Bool)
 | 0, _, _, _, _, _, _, _, _, _ => none
 | k + 1, x4, x5, x6, x7, x9, x10, x11, x369000, x369001 => if x11 < x10 then (if 0 ≤ x11 then (if x11 < (x7.length : Int) then (if (rd x7 x11) < x6 then (some false) else (laws_FnMins.l1 k x4 x5 x6 x7 x9 x10 (wrap64 (x11 + 1)) x369000 x369001)) else (none)) else (none)) else (if 0 ≤ x4 then (if x4 ≤ x5 then (if x5 ≤ (x7.length : Int) then ((laws_count.f k ((x7.take (x5 : Int).toNat).drop (x4 : Int).toNat) x6).bind fun t383 => (if t383 > 0 then (if x9 < 0 then (if x10 = x369000 then (some true) else (if 0 ≤ x10 then (if x10 < (x7.length : Int) then (some (decide ((rd x7 x10) < x6))) else (none)) else (none))) else (if 0 ≤ x9 then (if x9 < (x7.length : Int) then (if (rd x7 x9) < x6 then (if x10 = x369000 then (some true) else (if 0 ≤ x10 then (if x10 < (x7.length : Int) then (some (decide ((rd x7 x10) < x6))) else (none)) else (none))) else (some false)) else (none)) else (none))) else (some false))) else (none)) else (none)) else (none))
end
def laws_FnMins.f (k : Nat) (l0 : List Int) : Option (Bool) := (laws_big.f l0).bind fun t361 => (if t361 = true then (some true) else ((spec_DrawMinsRange.f k l0).bind fun bt362 => ((impl_MinsRange.f k bt362.1 bt362.2.1 bt362.2.2.1 bt362.2.2.2).bind fun t369 => ((spec_MinsRange.f k bt362.1 bt362.2.1 bt362.2.2.1 bt362.2.2.2).bind fun t370 => (if t369 = t370 then (laws_FnMins.j0 k bt362.2.2.1 bt362.2.2.2 t369 (decide (t369 < 0)) bt362.1 bt362.2.1) else (laws_FnMins.j0 k bt362.2.2.1 bt362.2.2.2 t369 true bt362.1 bt362.2.1))))))
theorem laws_FnMins.mono_l : ∀ k, (∀ y0 y1 y2 y3 y4 y5, LeO (laws_FnMins.j0 k y0 y1 y2 y3 y4 y5) (laws_FnMins.j0 (k + 1) y0 y1 y2 y3 y4 y5)) ∧ (∀ y0 y1 y2 y3 y4 y5 y6, LeO (laws_FnMins.l0 k y0 y1 y2 y3 y4 y5 y6) (laws_FnMins.l0 (k + 1) y0 y1 y2 y3 y4 y5 y6)) ∧ (∀ y0 y1 y2 y3 y4 y5 y6 y7 y8, LeO (laws_FnMins.l1 k y0 y1 y2 y3 y4 y5 y6 y7 y8) (laws_FnMins.l1 (k + 1) y0 y1 y2 y3 y4 y5 y6 y7 y8))
 | 0 => ⟨fun _ _ _ _ _ _ r h => by simp [laws_FnMins.j0] at h, fun _ _ _ _ _ _ _ r h => by simp [laws_FnMins.l0] at h, fun _ _ _ _ _ _ _ _ _ r h => by simp [laws_FnMins.l1] at h⟩
 | k + 1 => by
  obtain ⟨ih0, ih1, ih2⟩ := laws_FnMins.mono_l k
  refine ⟨?_, ?_, ?_⟩
  ·intro y0 y1 y2 y3 y4 y5
   unfold laws_FnMins.j0
   repeat' first|(with_reducible first|exact ih0 _ _ _ _ _ _|exact ih1 _ _ _ _ _ _ _|exact ih2 _ _ _ _ _ _ _ _ _|exact impl_MinsList.mono _ _ _|exact impl_MinsNext.mono _ _ _ _ _|exact impl_MinsPrev.mono _ _ _ _ _|exact impl_MinsRange.mono _ _ _ _ _|exact laws_count.mono _ _ _|exact spec_DrawMinsRange.mono _ _|exact spec_MinsRange.mono _ _ _ _ _|exact LeO.refl _|exact LeO.none _|refine LeO.ite ?_ ?_|refine LeO.bind ?_ (fun _ => ?_))|exact LeO.none _|refine LeO.ite ?_ ?_|refine LeO.bind ?_ (fun _ => ?_)
  ·intro y0 y1 y2 y3 y4 y5 y6
   unfold laws_FnMins.l0
   repeat' first|(with_reducible first|exact ih0 _ _ _ _ _ _|exact ih1 _ _ _ _ _ _ _|exact ih2 _ _ _ _ _ _ _ _ _|exact impl_MinsList.mono _ _ _|exact impl_MinsNext.mono _ _ _ _ _|exact impl_MinsPrev.mono _ _ _ _ _|exact impl_MinsRange.mono _ _ _ _ _|exact laws_count.mono _ _ _|exact spec_DrawMinsRange.mono _ _|exact spec_MinsRange.mono _ _ _ _ _|exact LeO.refl _|exact LeO.none _|refine LeO.ite ?_ ?_|refine LeO.bind ?_ (fun _ => ?_))|exact LeO.none _|refine LeO.ite ?_ ?_|refine LeO.bind ?_ (fun _ => ?_)
  ·intro y0 y1 y2 y3 y4 y5 y6 y7 y8
   unfold laws_FnMins.l1
   repeat' first|(with_reducible first|exact ih0 _ _ _ _ _ _|exact ih1 _ _ _ _ _ _ _|exact ih2 _ _ _ _ _ _ _ _ _|exact impl_MinsList.mono _ _ _|exact impl_MinsNext.mono _ _ _ _ _|exact impl_MinsPrev.mono _ _ _ _ _|exact impl_MinsRange.mono _ _ _ _ _|exact laws_count.mono _ _ _|exact spec_DrawMinsRange.mono _ _|exact spec_MinsRange.mono _ _ _ _ _|exact LeO.refl _|exact LeO.none _|refine LeO.ite ?_ ?_|refine LeO.bind ?_ (fun _ => ?_))|exact LeO.none _|refine LeO.ite ?_ ?_|refine LeO.bind ?_ (fun _ => ?_)
theorem laws_FnMins.mono : ∀ a0 k, LeO (laws_FnMins.f k a0) (laws_FnMins.f (k + 1) a0) := by
 intro a0 k
 obtain ⟨ih0, ih1, ih2⟩ := laws_FnMins.mono_l k
 unfold laws_FnMins.f
 repeat' first|(with_reducible first|exact ih0 _ _ _ _ _ _|exact ih1 _ _ _ _ _ _ _|exact ih2 _ _ _ _ _ _ _ _ _|exact impl_MinsList.mono _ _ _|exact impl_MinsNext.mono _ _ _ _ _|exact impl_MinsPrev.mono _ _ _ _ _|exact impl_MinsRange.mono _ _ _ _ _|exact laws_count.mono _ _ _|exact spec_DrawMinsRange.mono _ _|exact spec_MinsRange.mono _ _ _ _ _|exact LeO.refl _|exact LeO.none _|refine LeO.ite ?_ ?_|refine LeO.bind ?_ (fun _ => ?_))|exact LeO.none _|refine LeO.ite ?_ ?_|refine LeO.bind ?_ (fun _ => ?_)
set_option maxHeartbeats 8000000 in
set_option maxRecDepth 100000 in
theorem laws_FnMins.calls (k : Nat) (A0 : Option Addr) (c0 : Nat) (l0 : List Int) (r : Bool) (w : World) (hr0 : Kd.C (Kd.int .u8) w A0 l0.length l0) (hc0 : l0.length ≤ c0) (h : laws_FnMins.f k l0 = some r) :
  Calls Try.prog 10 #[.slice A0 l0.length c0] w fun e w' => e = .returned (.bool r) ∧ Below w.heap.size w w' := by
 have hu24:=Try.underlying24
 have HR0:=mk0 hr0
 have HC0:=mk0 hc0
 clear hr0 hc0
 have HB:=mk0 (Below.refl w.heap.size w)
 have H:((laws_big.f l0).bind fun t361=>(if t361 = true then (some true) else ((spec_DrawMinsRange.f k l0).bind fun bt362=>((impl_MinsRange.f k bt362.1 bt362.2.1 bt362.2.2.1 bt362.2.2.2).bind fun t369=>((spec_MinsRange.f k bt362.1 bt362.2.1 bt362.2.2.1 bt362.2.2.2).bind fun t370=>(if t369 = t370 then (laws_FnMins.j0 k bt362.2.2.1 bt362.2.2.2 t369 (decide (t369 < 0)) bt362.1 bt362.2.1) else (laws_FnMins.j0 k bt362.2.2.1 bt362.2.2.2 t369 true bt362.1 bt362.2.1))))))) = some r:=h
 clear h
 replace H:=Option.bind_eq_some_iff.mp H
 obtain⟨t361,A20,H⟩:=H
 replace H:(if t361 = true then (some true) else ((spec_DrawMinsRange.f k l0).bind fun bt362=>((impl_MinsRange.f k bt362.1 bt362.2.1 bt362.2.2.1 bt362.2.2.2).bind fun t369=>((spec_MinsRange.f k bt362.1 bt362.2.1 bt362.2.2.1 bt362.2.2.2).bind fun t370=>(if t369 = t370 then (laws_FnMins.j0 k bt362.2.2.1 bt362.2.2.2 t369 (decide (t369 < 0)) bt362.1 bt362.2.1) else (laws_FnMins.j0 k bt362.2.2.1 bt362.2.2.2 t369 true bt362.1 bt362.2.1)))))) = some r:=H
 have A2:=mk0 A20
 clear A20
 by_cases c3:t361 = true
 ·subst c3
  have H1:(some true) = some r:=by rw [if_pos rfl] at H;exact H
  clear H
  have H:=H1
  clear H1
  obtain rfl:=Option.some.inj H
  go_enter Try.func10,Try.ntmps10
  go_wp2_with (first|((with_reducible refine gate_callee (f:=32) rfl ?_);refine goesL_ (some 13) rfl rfl Try.func32 (by kernel_rfl) rfl #[.slice A0 l0.length c0] rfl (by (try simp only [mA,mC,mN]);first|done|rfl|(simp only [List.length_drop,List.length_take];rfl)) ?_;(with_reducible refine (laws_big.calls _ _ l0 true _ ?side1 ?side2 A2.out).mono ?_);(case side1=>repeat (first|exact HR0.out|(with_reducible first|apply aC|apply nC|apply dC)));(case side2=>exact HC0.out);rintro e w' ⟨rfl,⟨nd,rfl⟩⟩;refine⟨_,rfl,?_⟩))
  go_ret
  exact⟨by first|rfl|(simp [errW_none,errW_some] <;> rfl)|(simp [*,errW_none,errW_some] <;> rfl),by repeat (first|(with_reducible first|exact HB.out|apply aZ|apply nZ|apply dZ)|exact HB.out)⟩
 replace c3:=Bool.eq_false_iff.mpr c3
 subst c3
 have H1:((spec_DrawMinsRange.f k l0).bind fun bt362=>((impl_MinsRange.f k bt362.1 bt362.2.1 bt362.2.2.1 bt362.2.2.2).bind fun t369=>((spec_MinsRange.f k bt362.1 bt362.2.1 bt362.2.2.1 bt362.2.2.2).bind fun t370=>(if t369 = t370 then (laws_FnMins.j0 k bt362.2.2.1 bt362.2.2.2 t369 (decide (t369 < 0)) bt362.1 bt362.2.1) else (laws_FnMins.j0 k bt362.2.2.1 bt362.2.2.2 t369 true bt362.1 bt362.2.1))))) = some r:=by rw [if_neg (show ¬ (false = true) by decide)] at H;exact H
 clear H
 have H:=H1
 clear H1
 replace H:=Option.bind_eq_some_iff.mp H
 obtain⟨⟨t362,t363,t366,t367⟩,A40,H⟩:=H
 replace H:((impl_MinsRange.f k t362 t363 t366 t367).bind fun t369=>((spec_MinsRange.f k t362 t363 t366 t367).bind fun t370=>(if t369 = t370 then (laws_FnMins.j0 k t366 t367 t369 (decide (t369 < 0)) t362 t363) else (laws_FnMins.j0 k t366 t367 t369 true t362 t363)))) = some r:=H
 have A4:=mk0 A40
 clear A40
 replace H:=Option.bind_eq_some_iff.mp H
 obtain⟨t369,A50,H⟩:=H
 replace H:((spec_MinsRange.f k t362 t363 t366 t367).bind fun t370=>(if t369 = t370 then (laws_FnMins.j0 k t366 t367 t369 (decide (t369 < 0)) t362 t363) else (laws_FnMins.j0 k t366 t367 t369 true t362 t363))) = some r:=H
 have A5:=mk0 A50
 clear A50
 have HC6:=mk0 H
 clear H
 go_enter Try.func10,Try.ntmps10
 go_upto_region 5 with (first|((with_reducible refine gate_callee (f:=32) rfl ?_);refine goesL_ (some 13) rfl rfl Try.func32 (by kernel_rfl) rfl #[.slice A0 l0.length c0] rfl (by (try simp only [mA,mC,mN]);first|done|rfl|(simp only [List.length_drop,List.length_take];rfl)) ?_;(with_reducible refine (laws_big.calls _ _ l0 false _ ?side1 ?side2 A2.out).mono ?_);(case side1=>repeat (first|exact HR0.out|(with_reducible first|apply aC|apply nC|apply dC)));(case side2=>exact HC0.out);rintro e w' ⟨rfl,⟨nd,rfl⟩⟩;refine⟨_,rfl,?_⟩)|((with_reducible refine gate_callee (f:=36) rfl ?_);refine goesL_ (some 16) rfl rfl Try.func36 (by kernel_rfl) rfl #[.slice A0 l0.length c0] rfl (by (try simp only [mA,mC,mN]);first|done|rfl|(simp only [List.length_drop,List.length_take];rfl)) ?_;(with_reducible refine (spec_DrawMinsRange.calls k _ _ l0 t362 t363 t366 t367 _ ?side1 ?side2 A4.out).mono ?_);(case side1=>repeat (first|exact HR0.out|(with_reducible first|apply aC|apply nC|apply dC)));(case side2=>exact HC0.out);rintro e w7 ⟨v364,rfl,ho0,hb⟩;refine⟨_,rfl,?_⟩;have n0_:=mk0 (Kd.R_lower ho0 (below_size (by repeat (first|(with_reducible first|exact HB.out|apply aZ|apply nZ|apply dZ)|exact HB.out))));have n1_:=mk0 (below_step (by repeat (first|(with_reducible first|exact HB.out|apply aZ|apply nZ|apply dZ)|exact HB.out)) hb);clear HB;have HO365:=n0_;have HB:=n1_;clear n0_ n1_;(try clear hb);(try clear hb2);(try clear hk);(try clear hi);(try clear ho0))|((with_reducible refine gate_dst (N:=3) rfl ?_);refine box_event ?hg (N:=3) ?hd (cs:=#[.int .i64 0,.slice none 0 0]) (t:=24) ?hr ?_;(case hd=>rfl);(case hg=>rfl);(case hr=>first|(go_simp;done)|(go_simp;rfl));intro gb368 hg w8 hbox hb;have n0_:=mk0 (Kd.R_below (by (with_reducible repeat (first|apply aR|apply nR|apply dR));exact HO365.out) hb);have n1_:=mk0 (below_step (by repeat (first|(with_reducible first|exact HB.out|apply aZ|apply nZ|apply dZ)|exact HB.out)) hb);have n2_:=mk0 (hbox);have n3_:=mk0 ((by rw [hg];exact (below_size (by repeat (first|(with_reducible first|exact HB.out|apply aZ|apply nZ|apply dZ)|exact HB.out))):w.heap.size ≤ gb368));have n4_:=mk0 ((by rw [hg];exact (below_size (by repeat (first|(with_reducible first|exact HB.out|apply aZ|apply nZ|apply dZ)|exact HB.out))):w.heap.size ≤ gb368));clear HO365 HB;have HO365:=n0_;have HB:=n1_;have BK368:=n2_;have GW368:=n3_;have GE368:=n4_;clear n0_ n1_ n2_ n3_ n4_ hb hbox hg;have hcz9_0:w8.cell? ⟨gb368,0,none⟩ = some (.int .i64 0):=(blk_cell BK368.out 0).trans rfl;have hcz9_1:w8.cell? ⟨gb368,1,none⟩ = some (.slice none 0 0):=(blk_cell BK368.out 1).trans rfl;have hfz9_0:=blk_frozen BK368.out 0;have hfz9_1:=blk_frozen BK368.out 1;obtain⟨Ao10,co10,eo10⟩:=Kd.R_slice HO365.out;subst eo10)|((with_reducible refine gate_callee (f:=26) rfl ?_);refine goesL_ (some 23) rfl rfl Try.func26 (by kernel_rfl) rfl #[.agg #[.int .i64 t362,.slice Ao10 t363.length co10],.int .i64 t366,.int .i64 t367] rfl (by (try simp only [mA,mC,mN]);first|done|rfl|(simp only [List.length_drop,List.length_take];rfl)) ?_;(with_reducible refine (impl_MinsRange.calls k t362 _ _ t363 t366 t367 t369 _ ?side1 ?side2 A5.out).mono ?_);(case side1=>refine (Kd.R_reads' (e:=3) (base:=w.heap.size) (ok:=fun k_=>True) (n:=t363.length) (c:=co10) ?_).2.2;exact (by (with_reducible repeat (first|apply aR|apply nR|apply dR));exact (Kd.R_mono (Kd.R_far (p:=⟨gb368,1,none⟩) (Kd.R_far (p:=⟨gb368,0,none⟩) (Kd.R_types HO365.out BK368.out (by decide)) (by first|exact fun _ hk=>hk.2|(intro k_ hk;simp only [hk,ne_eq,and_self,not_false_eq_true])) (.int .i64 t362)) (by first|exact fun _ hk=>hk.2|(intro k_ hk;simp only [hk,ne_eq,and_self,not_false_eq_true])) (.slice Ao10 t363.length co10)) (fun _ h_=>h_.1))));(case side2=>exact (Kd.R_reads' HO365.out).2.1);rintro e w11 ⟨rfl,hb⟩;refine⟨_,rfl,?_⟩;have n0_:=mk0 (Kd.R_below (by (with_reducible repeat (first|apply aR|apply nR|apply dR));exact (Kd.R_mono (Kd.R_far (p:=⟨gb368,1,none⟩) (Kd.R_far (p:=⟨gb368,0,none⟩) (Kd.R_types HO365.out BK368.out (by decide)) (by first|exact fun _ hk=>hk.2|(intro k_ hk;simp only [hk,ne_eq,and_self,not_false_eq_true])) (.int .i64 t362)) (by first|exact fun _ hk=>hk.2|(intro k_ hk;simp only [hk,ne_eq,and_self,not_false_eq_true])) (.slice Ao10 t363.length co10)) (fun _ h_=>h_.1))) hb);have n1_:=mk0 (blk_below (g:=gb368) (o:=.cells #[.int .i64 t362,.slice Ao10 t363.length co10] 24 (0,0)) (by (with_reducible repeat (first|apply nB|apply dB|apply aB));refine blk_put (cs:=#[.int .i64 t362,.slice none 0 0]) ?_ 1 _ rfl;(with_reducible repeat (first|apply nB|apply dB|apply aB));refine blk_put (cs:=#[.int .i64 0,.slice none 0 0]) ?_ 0 _ rfl;(with_reducible repeat (first|apply nB|apply dB|apply aB));exact BK368.out) hb);have n2_:=mk0 (below_step (by repeat (first|(with_reducible first|exact HB.out|apply aZ|apply nZ|apply dZ|refine sZ ?_ GE368.out)|exact HB.out)) hb);clear HO365 BK368 HB;have HO365:=n0_;have BK368:=n1_;have HB:=n2_;clear n0_ n1_ n2_;(try clear hb);(try clear hb2);(try clear hk);(try clear hi)))
 (try simp only [Act.put,sA,sO,sS])
 go_cut [33] (fun v33 wc=>∃ (kq:Nat) (x33_5:Bool),v33 = .bool x33_5 ∧ Aside0 (laws_FnMins.j0 kq t366 t367 t369 x33_5 t362 t363 = some r) ∧ Aside0 (kq ≤ k) ∧ Aside0 (Kd.R (Kd.int .i64) 3 wc w.heap.size (fun _=>True) (.slice Ao10 t363.length co10) t363) ∧ Aside0 (wc.heap[gb368]? = some (.cells #[.int .i64 t362,(.slice Ao10 t363.length co10)] 24 (0,0))) ∧ Aside0 (Below w.heap.size w wc))
 case first =>
  have H:=HC6.out
  clear HC6
  replace H:=Option.bind_eq_some_iff.mp H
  obtain⟨t370,A120,H⟩:=H
  replace H:(if t369 = t370 then (laws_FnMins.j0 k t366 t367 t369 (decide (t369 < 0)) t362 t363) else (laws_FnMins.j0 k t366 t367 t369 true t362 t363)) = some r:=H
  have A12:=mk0 A120
  clear A120
  by_cases c13:t369 = t370
  rotate_left
  ·rw [if_neg c13] at H
   have c13b0:(t369 == t370) = false:=beq_eq_false_iff_ne.mpr c13
   have c13b1:(t369 != t370) = true:=bne_iff_ne.mpr c13
   (first|rw [c13b0]|(simp only [i64_w,i32_w];rw [c13b0])|skip)
   have H':=mk0 H
   clear H
   have hcz16_0:w11.cell? ⟨gb368,0,none⟩ = some (.int .i64 t362):=(blk_cell BK368.out 0).trans rfl
   have hcz16_1:w11.cell? ⟨gb368,1,none⟩ = some (.slice Ao10 t363.length co10):=(blk_cell BK368.out 1).trans rfl
   have hfz16_0:=blk_frozen BK368.out 0
   have hfz16_1:=blk_frozen BK368.out 1
   go_wp2_with (first|((with_reducible refine gate_callee (f:=25) rfl ?_);refine goesL_ (some 28) rfl rfl Try.func25 (by kernel_rfl) rfl #[.agg #[.int .i64 t362,.slice Ao10 t363.length co10],.int .i64 t366,.int .i64 t367] rfl (by (try simp only [mA,mC,mN]);first|done|rfl|(simp only [List.length_drop,List.length_take];rfl)) ?_;(with_reducible refine (spec_MinsRange.calls k t362 _ _ t363 t366 t367 t370 _ ?side1 ?side2 A12.out).mono ?_);(case side1=>repeat (first|exact (Kd.R_reads' HO365.out).2.2|(with_reducible first|apply aC|apply nC|apply dC)));(case side2=>exact (Kd.R_reads' HO365.out).2.1);rintro e w17 ⟨rfl,hb⟩;refine⟨_,rfl,?_⟩;have n0_:=mk0 (Kd.R_below (by (with_reducible repeat (first|apply aR|apply nR|apply dR));exact HO365.out) hb);have n1_:=mk0 (blk_below (g:=gb368) (o:=.cells #[.int .i64 t362,.slice Ao10 t363.length co10] 24 (0,0)) (by (with_reducible repeat (first|apply nB|apply dB|apply aB));exact BK368.out) hb);have n2_:=mk0 (below_step (by repeat (first|(with_reducible first|exact HB.out|apply aZ|apply nZ|apply dZ|refine sZ ?_ GE368.out)|exact HB.out)) hb);clear HO365 BK368 HB;have HO365:=n0_;have BK368:=n1_;have HB:=n2_;clear n0_ n1_ n2_;(try clear hb);(try clear hb2);(try clear hk);(try clear hi)))
   go_meet
   case rel=>exact⟨_,(true),(by first|rfl|(simp;done)|(simp [*];done)),H',⟨by first|omega|exact Nat.le_refl _⟩,⟨by (with_reducible repeat (first|apply aR|apply nR|apply dR));exact HO365.out⟩,⟨by (with_reducible repeat (first|apply nB|apply dB|apply aB));exact BK368.out⟩,⟨by repeat (first|(with_reducible first|exact HB.out|apply aZ|apply nZ|apply dZ|refine sZ ?_ GE368.out)|exact HB.out)⟩⟩
  rw [if_pos c13] at H
  have c13b0:(t369 == t370) = true:=beq_iff_eq.mpr c13
  have c13b1:(t369 != t370) = false:=bne_eq_false_iff_eq.mpr c13
  clear c13
  (first|rw [c13b0]|(simp only [i64_w,i32_w];rw [c13b0])|skip)
  have H':=mk0 H
  clear H
  have hcz14_0:w11.cell? ⟨gb368,0,none⟩ = some (.int .i64 t362):=(blk_cell BK368.out 0).trans rfl
  have hcz14_1:w11.cell? ⟨gb368,1,none⟩ = some (.slice Ao10 t363.length co10):=(blk_cell BK368.out 1).trans rfl
  have hfz14_0:=blk_frozen BK368.out 0
  have hfz14_1:=blk_frozen BK368.out 1
  go_wp2_with (first|((with_reducible refine gate_callee (f:=25) rfl ?_);refine goesL_ (some 28) rfl rfl Try.func25 (by kernel_rfl) rfl #[.agg #[.int .i64 t362,.slice Ao10 t363.length co10],.int .i64 t366,.int .i64 t367] rfl (by (try simp only [mA,mC,mN]);first|done|rfl|(simp only [List.length_drop,List.length_take];rfl)) ?_;(with_reducible refine (spec_MinsRange.calls k t362 _ _ t363 t366 t367 t370 _ ?side1 ?side2 A12.out).mono ?_);(case side1=>repeat (first|exact (Kd.R_reads' HO365.out).2.2|(with_reducible first|apply aC|apply nC|apply dC)));(case side2=>exact (Kd.R_reads' HO365.out).2.1);rintro e w15 ⟨rfl,hb⟩;refine⟨_,rfl,?_⟩;have n0_:=mk0 (Kd.R_below (by (with_reducible repeat (first|apply aR|apply nR|apply dR));exact HO365.out) hb);have n1_:=mk0 (blk_below (g:=gb368) (o:=.cells #[.int .i64 t362,.slice Ao10 t363.length co10] 24 (0,0)) (by (with_reducible repeat (first|apply nB|apply dB|apply aB));exact BK368.out) hb);have n2_:=mk0 (below_step (by repeat (first|(with_reducible first|exact HB.out|apply aZ|apply nZ|apply dZ|refine sZ ?_ GE368.out)|exact HB.out)) hb);clear HO365 BK368 HB;have HO365:=n0_;have BK368:=n1_;have HB:=n2_;clear n0_ n1_ n2_;(try clear hb);(try clear hb2);(try clear hk);(try clear hi)))
  go_meet
  case rel=>exact⟨_,(decide (t369 < 0)),(by first|rfl|(simp;done)|(simp [*];done)),H',⟨by first|omega|exact Nat.le_refl _⟩,⟨by (with_reducible repeat (first|apply aR|apply nR|apply dR));exact HO365.out⟩,⟨by (with_reducible repeat (first|apply nB|apply dB|apply aB));exact BK368.out⟩,⟨by repeat (first|(with_reducible first|exact HB.out|apply aZ|apply nZ|apply dZ|refine sZ ?_ GE368.out)|exact HB.out)⟩⟩
 case rest =>
  clear HC6
  try clear c1
  try clear c2
  try clear p2
  try clear c3
  try clear c10
  try clear c13
  try clear c13b0
  try clear c13b1
  try clear hcz14_0
  try clear hcz14_1
  try clear hcz16_0
  try clear hcz16_1
  try clear hcz9_0
  try clear hcz9_1
  try clear hfz14_0
  try clear hfz14_1
  try clear hfz16_0
  try clear hfz16_1
  try clear hfz9_0
  try clear hfz9_1
  obtain⟨kq,x33_5,rfl,HA,HJ5,HO_369001,BK368,HB⟩:=hcut
  cases kq with
  | zero=>exact absurd HA.out (by simp [laws_FnMins.j0])
  | succ kj5 =>
   have H:=HA.out
   clear HA
   simp only [laws_FnMins.j0] at H
   by_cases c18:x33_5 = true
   ·subst c18
    have H1:((spec_MinsRange.f kj5 t362 t363 t366 t367).bind fun t371=>(some (t369 == t371))) = some r:=by rw [if_pos rfl] at H;exact H
    clear H
    have H:=H1
    clear H1
    replace H:=Option.bind_eq_some_iff.mp H
    obtain⟨t371,A190,H⟩:=H
    replace H:(some (t369 == t371)) = some r:=H
    have A19:=mk0 A190
    clear A190
    obtain rfl:=Option.some.inj H
    have hcz20_0:wc.cell? ⟨gb368,0,none⟩ = some (.int .i64 t362):=(blk_cell BK368.out 0).trans rfl
    have hcz20_1:wc.cell? ⟨gb368,1,none⟩ = some (.slice Ao10 t363.length co10):=(blk_cell BK368.out 1).trans rfl
    have hfz20_0:=blk_frozen BK368.out 0
    have hfz20_1:=blk_frozen BK368.out 1
    go_wp2_with (first|((with_reducible refine gate_callee (f:=25) rfl ?_);refine goesL_ (some 38) rfl rfl Try.func25 (by kernel_rfl) rfl #[.agg #[.int .i64 t362,.slice Ao10 t363.length co10],.int .i64 t366,.int .i64 t367] rfl (by (try simp only [mA,mC,mN]);first|done|rfl|(simp only [List.length_drop,List.length_take];rfl)) ?_;(with_reducible refine (spec_MinsRange.calls kj5 t362 _ _ t363 t366 t367 t371 _ ?side1 ?side2 A19.out).mono ?_);(case side1=>repeat (first|exact (Kd.R_reads' HO_369001.out).2.2|(with_reducible first|apply aC|apply nC|apply dC)));(case side2=>exact (Kd.R_reads' HO_369001.out).2.1);rintro e w21 ⟨rfl,hb⟩;refine⟨_,rfl,?_⟩;have n0_:=mk0 (Kd.R_below (by (with_reducible repeat (first|apply aR|apply nR|apply dR));exact HO_369001.out) hb);have n1_:=mk0 (blk_below (g:=gb368) (o:=.cells #[.int .i64 t362,.slice Ao10 t363.length co10] 24 (0,0)) (by (with_reducible repeat (first|apply nB|apply dB|apply aB));exact BK368.out) hb);have n2_:=mk0 (below_step (by repeat (first|(with_reducible first|exact HB.out|apply aZ|apply nZ|apply dZ|refine sZ ?_ GE368.out)|exact HB.out)) hb);clear HO_369001 BK368 HB;have HO_369001:=n0_;have BK368:=n1_;have HB:=n2_;clear n0_ n1_ n2_;(try clear hb);(try clear hb2);(try clear hk);(try clear hi)))
    go_ret
    exact⟨by first|rfl|(simp [errW_none,errW_some] <;> rfl)|(simp [*,errW_none,errW_some] <;> rfl),by repeat (first|(with_reducible first|exact HB.out|apply aZ|apply nZ|apply dZ|refine sZ ?_ GE368.out)|exact HB.out)⟩
   replace c18:=Bool.eq_false_iff.mpr c18
   subst c18
   have H1:((impl_MinsList.f kj5 t362 t363).bind fun t372=>(if (t372.length:Int) = t362 then (laws_FnMins.l0 kj5 t366 t367 t369 t372 t366 t362 t363) else (some false))) = some r:=by rw [if_neg (show ¬ (false = true) by decide)] at H;exact H
   clear H
   have H:=H1
   clear H1
   replace H:=Option.bind_eq_some_iff.mp H
   obtain⟨t372,A220,H⟩:=H
   replace H:(if (t372.length:Int) = t362 then (laws_FnMins.l0 kj5 t366 t367 t369 t372 t366 t362 t363) else (some false)) = some r:=H
   have A22:=mk0 A220
   clear A220
   by_cases c23:(t372.length:Int) = t362
   rotate_left
   ·rw [if_neg c23] at H
    have c23b0:((t372.length:Int) == t362) = false:=beq_eq_false_iff_ne.mpr c23
    have c23b1:((t372.length:Int) != t362) = true:=bne_iff_ne.mpr c23
    obtain rfl:=Option.some.inj H
    have hcz67_0:wc.cell? ⟨gb368,0,none⟩ = some (.int .i64 t362):=(blk_cell BK368.out 0).trans rfl
    have hcz67_1:wc.cell? ⟨gb368,1,none⟩ = some (.slice Ao10 t363.length co10):=(blk_cell BK368.out 1).trans rfl
    have hfz67_0:=blk_frozen BK368.out 0
    have hfz67_1:=blk_frozen BK368.out 1
    go_wp2_with (first|((with_reducible refine gate_callee (f:=28) rfl ?_);refine goesL_ (some 41) rfl rfl Try.func28 (by kernel_rfl) rfl #[.agg #[.int .i64 t362,.slice Ao10 t363.length co10]] rfl (by (try simp only [mA,mC,mN]);first|done|rfl|(simp only [List.length_drop,List.length_take];rfl)) ?_;(with_reducible refine (impl_MinsList.calls kj5 t362 _ _ t363 t372 _ ?side1 ?side2 A22.out).mono ?_);(case side1=>repeat (first|exact (Kd.R_reads' HO_369001.out).2.2|(with_reducible first|apply aC|apply nC|apply dC)));(case side2=>exact (Kd.R_reads' HO_369001.out).2.1);rintro e w68 ⟨v373,rfl,ho0,hb⟩;refine⟨_,rfl,?_⟩;have n0_:=mk0 (Kd.R_elder' (by (with_reducible repeat (first|apply aR|apply nR|apply dR));exact HO_369001.out) (Kd.R_base ho0) hb);have n1_:=mk0 (Kd.R_lower (Kd.R_new' ho0 (Kd.R_lt (by (with_reducible repeat (first|apply aR|apply nR|apply dR));exact HO_369001.out))) (below_size (by repeat (first|(with_reducible first|exact HB.out|apply aZ|apply nZ|apply dZ|refine sZ ?_ GE368.out)|exact HB.out))));have n2_:=mk0 (blk_below (g:=gb368) (o:=.cells #[.int .i64 t362,.slice Ao10 t363.length co10] 24 (0,0)) (by (with_reducible repeat (first|apply nB|apply dB|apply aB));exact BK368.out) hb);have n3_:=mk0 (below_step (by repeat (first|(with_reducible first|exact HB.out|apply aZ|apply nZ|apply dZ|refine sZ ?_ GE368.out)|exact HB.out)) hb);clear HO_369001 BK368 HB;have HO_369001:=n0_;have HO374:=n1_;have BK368:=n2_;have HB:=n3_;clear n0_ n1_ n2_ n3_;(try clear hb);(try clear hb2);(try clear hk);(try clear hi);(try clear ho0);obtain⟨Ao69,co69,eo69⟩:=Kd.R_slice HO374.out;subst eo69;have hcz70_0:w68.cell? ⟨gb368,0,none⟩ = some (.int .i64 t362):=(blk_cell BK368.out 0).trans rfl;have hcz70_1:w68.cell? ⟨gb368,1,none⟩ = some (.slice Ao10 t363.length co10):=(blk_cell BK368.out 1).trans rfl;have hfz70_0:=blk_frozen BK368.out 0;have hfz70_1:=blk_frozen BK368.out 1))
    go_ret
    exact⟨by first|rfl|(simp [errW_none,errW_some] <;> rfl)|(simp [*,errW_none,errW_some] <;> rfl),by repeat (first|(with_reducible first|exact HB.out|apply aZ|apply nZ|apply dZ|refine sZ ?_ GE368.out)|exact HB.out)⟩

   rw [if_pos c23] at H
   have c23b0:((t372.length:Int) == t362) = true:=beq_iff_eq.mpr c23
   have c23b1:((t372.length:Int) != t362) = false:=bne_eq_false_iff_eq.mpr c23
   clear c23
   have H':=mk0 H
   clear H
   have hcz24_0:wc.cell? ⟨gb368,0,none⟩ = some (.int .i64 t362):=(blk_cell BK368.out 0).trans rfl
   have hcz24_1:wc.cell? ⟨gb368,1,none⟩ = some (.slice Ao10 t363.length co10):=(blk_cell BK368.out 1).trans rfl
   have hfz24_0:=blk_frozen BK368.out 0
   have hfz24_1:=blk_frozen BK368.out 1
   go_wp2_with (first|((with_reducible refine gate_callee (f:=28) rfl ?_);refine goesL_ (some 41) rfl rfl Try.func28 (by kernel_rfl) rfl #[.agg #[.int .i64 t362,.slice Ao10 t363.length co10]] rfl (by (try simp only [mA,mC,mN]);first|done|rfl|(simp only [List.length_drop,List.length_take];rfl)) ?_;(with_reducible refine (impl_MinsList.calls kj5 t362 _ _ t363 t372 _ ?side1 ?side2 A22.out).mono ?_);(case side1=>repeat (first|exact (Kd.R_reads' HO_369001.out).2.2|(with_reducible first|apply aC|apply nC|apply dC)));(case side2=>exact (Kd.R_reads' HO_369001.out).2.1);rintro e w25 ⟨v373,rfl,ho0,hb⟩;refine⟨_,rfl,?_⟩;have n0_:=mk0 (Kd.R_elder' (by (with_reducible repeat (first|apply aR|apply nR|apply dR));exact HO_369001.out) (Kd.R_base ho0) hb);have n1_:=mk0 (Kd.R_lower (Kd.R_new' ho0 (Kd.R_lt (by (with_reducible repeat (first|apply aR|apply nR|apply dR));exact HO_369001.out))) (below_size (by repeat (first|(with_reducible first|exact HB.out|apply aZ|apply nZ|apply dZ|refine sZ ?_ GE368.out)|exact HB.out))));have n2_:=mk0 (blk_below (g:=gb368) (o:=.cells #[.int .i64 t362,.slice Ao10 t363.length co10] 24 (0,0)) (by (with_reducible repeat (first|apply nB|apply dB|apply aB));exact BK368.out) hb);have n3_:=mk0 (below_step (by repeat (first|(with_reducible first|exact HB.out|apply aZ|apply nZ|apply dZ|refine sZ ?_ GE368.out)|exact HB.out)) hb);clear HO_369001 BK368 HB;have HO_369001:=n0_;have HO374:=n1_;have BK368:=n2_;have HB:=n3_;clear n0_ n1_ n2_ n3_;(try clear hb);(try clear hb2);(try clear hk);(try clear hi);(try clear ho0);obtain⟨Ao26,co26,eo26⟩:=Kd.R_slice HO374.out;subst eo26;have hcz27_0:w25.cell? ⟨gb368,0,none⟩ = some (.int .i64 t362):=(blk_cell BK368.out 0).trans rfl;have hcz27_1:w25.cell? ⟨gb368,1,none⟩ = some (.slice Ao10 t363.length co10):=(blk_cell BK368.out 1).trans rfl;have hfz27_0:=blk_frozen BK368.out 0;have hfz27_1:=blk_frozen BK368.out 1))
   go_loopg [8] kj5 (fun kq v8 w'=>∃ (x8_2:Int),v8 = .int .i64 x8_2 ∧ Aside0 (laws_FnMins.l0 kq t366 t367 t369 t372 x8_2 t362 t363 = some r) ∧ Aside0 (kq ≤ kj5) ∧ Aside0 (Kd.R (Kd.int .i64) 3 w' w.heap.size (fun k_=>some k_ ≠ ((.slice Ao10 t363.length co10):Value).ownBlock) (.slice Ao26 t372.length co26) t372) ∧ Aside0 (Kd.R (Kd.int .i64) 3 w' w.heap.size (fun k_=>some k_ ≠ ((.slice Ao26 t372.length co26):Value).ownBlock) (.slice Ao10 t363.length co10) t363) ∧ Aside0 (w'.heap[gb368]? = some (.cells #[.int .i64 t362,(.slice Ao10 t363.length co10)] 24 (0,0))) ∧ Aside0 (Below w.heap.size w w'))
   case atStart=>exact⟨(t366),(by first|rfl|(simp;done)|(simp [*];done)),H',⟨Nat.le_refl _⟩,⟨by (with_reducible repeat (first|apply aR|apply nR|apply dR));exact Kd.R_mono HO374.out (by first|exact fun _ hk=>hk.2|(intro k_ hk;simp only [hk,ne_eq,and_self,not_false_eq_true]))⟩,⟨by (with_reducible repeat (first|apply aR|apply nR|apply dR));exact Kd.R_mono HO_369001.out (by first|exact fun _ hk=>hk.2|(intro k_ hk;simp only [hk,ne_eq,and_self,not_false_eq_true]))⟩,⟨by (with_reducible repeat (first|apply nB|apply dB|apply aB));exact BK368.out⟩,⟨by repeat (first|(with_reducible first|exact HB.out|apply aZ|apply nZ|apply dZ|refine sZ ?_ GE368.out)|exact HB.out)⟩⟩
   case round =>
    clear H'
    try clear c1
    try clear c2
    try clear p2
    try clear c3
    try clear c10
    try clear c13
    try clear c13b0
    try clear c13b1
    try clear c18
    try clear c23
    try clear c23b0
    try clear c23b1
    try clear c25
    try clear c26
    try clear hcz14_0
    try clear hcz14_1
    try clear hcz16_0
    try clear hcz16_1
    try clear hcz20_0
    try clear hcz20_1
    try clear hcz24_0
    try clear hcz24_1
    try clear hcz27_0
    try clear hcz27_1
    try clear hcz9_0
    try clear hcz9_1
    try clear hfz14_0
    try clear hfz14_1
    try clear hfz16_0
    try clear hfz16_1
    try clear hfz20_0
    try clear hfz20_1
    try clear hfz24_0
    try clear hfz24_1
    try clear hfz27_0
    try clear hfz27_1
    try clear hfz9_0
    try clear hfz9_1
    try clear p2
    obtain⟨x8_2,rfl,HA,HK2,HO_7,HO_369001,BK368,HB⟩:=hrel
    cases gk with
    | zero=>exact absurd HA.out (by simp [laws_FnMins.l0])
    | succ k2 =>
     have H:=HA.out
     clear HA
     simp only [laws_FnMins.l0] at H
     by_cases c28:x8_2 < t367
     ·rw [if_pos c28] at H
      have c28b0:decide (x8_2 < t367) = true:=decide_eq_true c28
      clear c28
      by_cases c29:0 ≤ x8_2
      rotate_left
      ·rw [if_neg c29] at H
       exact absurd H (by simp)
      rw [if_pos c29] at H
      have c29b0:decide (0 ≤ x8_2) = true:=decide_eq_true c29
      clear c29
      by_cases c30:x8_2 < (t372.length:Int)
      rotate_left
      ·rw [if_neg c30] at H
       exact absurd H (by simp)
      rw [if_pos c30] at H
      have c30b0:decide (x8_2 < (t372.length:Int)) = true:=decide_eq_true c30
      clear c30
      by_cases c31:(rd t372 x8_2) < t369
      ·rw [if_pos c31] at H
       have c31b0:decide ((rd t372 x8_2) < t369) = true:=decide_eq_true c31
       clear c31
       obtain rfl:=Option.some.inj H
       have p375:0 ≤ (x8_2:Int):=of_decide_eq_true (by first|(with_reducible assumption)|assumption)
       have q375:x8_2 < (t372.length:Int):=of_decide_eq_true (by first|(with_reducible assumption)|assumption)
       obtain⟨ad375,e375,hx375_0⟩:=Kd.at_int (Kd.R_reads' HO_7.out).2.2 x8_2 p375 q375
       cases e375
       replace p375:=eq_true p375
       replace q375:=eq_true q375
       go_wp2
       go_ret
       exact⟨by first|rfl|(simp [errW_none,errW_some] <;> rfl)|(simp [*,errW_none,errW_some] <;> rfl),by repeat (first|(with_reducible first|exact HB.out|apply aZ|apply nZ|apply dZ|refine sZ ?_ GE368.out)|exact HB.out)⟩
      rw [if_neg c31] at H
      have c31b0:decide ((rd t372 x8_2) < t369) = false:=decide_eq_false c31
      clear c31
      have H':=mk0 H
      clear H
      have p375:0 ≤ (x8_2:Int):=of_decide_eq_true (by first|(with_reducible assumption)|assumption)
      have q375:x8_2 < (t372.length:Int):=of_decide_eq_true (by first|(with_reducible assumption)|assumption)
      obtain⟨ad375,e375,hx375_0⟩:=Kd.at_int (Kd.R_reads' HO_7.out).2.2 x8_2 p375 q375
      cases e375
      replace p375:=eq_true p375
      replace q375:=eq_true q375
      go_wp2
      go_roundg k2
      case measure=>have:=HJ5.out;have:=HK2.out;omega
      case rel=>exact⟨(wrap64 (x8_2 + 1)),(by first|rfl|(simp;done)|(simp [*];done)),H',⟨by have:=HJ5.out;have:=HK2.out;omega⟩,⟨by (with_reducible repeat (first|apply aR|apply nR|apply dR));exact HO_7.out⟩,⟨by (with_reducible repeat (first|apply aR|apply nR|apply dR));exact HO_369001.out⟩,⟨by (with_reducible repeat (first|apply nB|apply dB|apply aB));exact BK368.out⟩,⟨by repeat (first|(with_reducible first|exact HB.out|apply aZ|apply nZ|apply dZ|refine sZ ?_ GE368.out)|exact HB.out)⟩⟩
     rw [if_neg c28] at H
     have c28b0:decide (x8_2 < t367) = false:=decide_eq_false c28
     clear c28
     replace H:=Option.bind_eq_some_iff.mp H
     obtain⟨t376,A320,H⟩:=H
     replace H:((impl_MinsNext.f k2 t362 t363 t367 t369).bind fun t377=>(laws_FnMins.l1 k2 t366 t367 t369 t372 t376 t377 (wrap64 (t376 + 1)) t362 t363)) = some r:=H
     have A32:=mk0 A320
     clear A320
     replace H:=Option.bind_eq_some_iff.mp H
     obtain⟨t377,A330,H⟩:=H
     replace H:(laws_FnMins.l1 k2 t366 t367 t369 t372 t376 t377 (wrap64 (t376 + 1)) t362 t363) = some r:=H
     have A33:=mk0 A330
     clear A330
     have H':=mk0 H
     clear H
     have hcz34_0:wr.cell? ⟨gb368,0,none⟩ = some (.int .i64 t362):=(blk_cell BK368.out 0).trans rfl
     have hcz34_1:wr.cell? ⟨gb368,1,none⟩ = some (.slice Ao10 t363.length co10):=(blk_cell BK368.out 1).trans rfl
     have hfz34_0:=blk_frozen BK368.out 0
     have hfz34_1:=blk_frozen BK368.out 1
     go_wp2_with (first|((with_reducible refine gate_callee (f:=22) rfl ?_);refine goesL_ (some 62) rfl rfl Try.func22 (by kernel_rfl) rfl #[.agg #[.int .i64 t362,.slice Ao10 t363.length co10],.int .i64 t366,.int .i64 t369] rfl (by (try simp only [mA,mC,mN]);first|done|rfl|(simp only [List.length_drop,List.length_take];rfl)) ?_;(with_reducible refine (impl_MinsPrev.calls k2 t362 _ _ t363 t366 t369 t376 _ ?side1 ?side2 A32.out).mono ?_);(case side1=>repeat (first|exact (Kd.R_reads' HO_369001.out).2.2|(with_reducible first|apply aC|apply nC|apply dC)));(case side2=>exact (Kd.R_reads' HO_369001.out).2.1);rintro e w35 ⟨rfl,hb⟩;refine⟨_,rfl,?_⟩;have n0_:=mk0 (Kd.R_below (by (with_reducible repeat (first|apply aR|apply nR|apply dR));exact HO_7.out) hb);have n1_:=mk0 (Kd.R_below (by (with_reducible repeat (first|apply aR|apply nR|apply dR));exact HO_369001.out) hb);have n2_:=mk0 (blk_below (g:=gb368) (o:=.cells #[.int .i64 t362,.slice Ao10 t363.length co10] 24 (0,0)) (by (with_reducible repeat (first|apply nB|apply dB|apply aB));exact BK368.out) hb);have n3_:=mk0 (below_step (by repeat (first|(with_reducible first|exact HB.out|apply aZ|apply nZ|apply dZ|refine sZ ?_ GE368.out)|exact HB.out)) hb);clear HO_7 HO_369001 BK368 HB;have HO_7:=n0_;have HO_369001:=n1_;have BK368:=n2_;have HB:=n3_;clear n0_ n1_ n2_ n3_;(try clear hb);(try clear hb2);(try clear hk);(try clear hi);have hcz36_0:w35.cell? ⟨gb368,0,none⟩ = some (.int .i64 t362):=(blk_cell BK368.out 0).trans rfl;have hcz36_1:w35.cell? ⟨gb368,1,none⟩ = some (.slice Ao10 t363.length co10):=(blk_cell BK368.out 1).trans rfl;have hfz36_0:=blk_frozen BK368.out 0;have hfz36_1:=blk_frozen BK368.out 1)|((with_reducible refine gate_callee (f:=24) rfl ?_);refine goesL_ (some 66) rfl rfl Try.func24 (by kernel_rfl) rfl #[.agg #[.int .i64 t362,.slice Ao10 t363.length co10],.int .i64 t367,.int .i64 t369] rfl (by (try simp only [mA,mC,mN]);first|done|rfl|(simp only [List.length_drop,List.length_take];rfl)) ?_;(with_reducible refine (impl_MinsNext.calls k2 t362 _ _ t363 t367 t369 t377 _ ?side1 ?side2 A33.out).mono ?_);(case side1=>repeat (first|exact (Kd.R_reads' HO_369001.out).2.2|(with_reducible first|apply aC|apply nC|apply dC)));(case side2=>exact (Kd.R_reads' HO_369001.out).2.1);rintro e w37 ⟨rfl,hb⟩;refine⟨_,rfl,?_⟩;have n0_:=mk0 (Kd.R_below (by (with_reducible repeat (first|apply aR|apply nR|apply dR));exact HO_7.out) hb);have n1_:=mk0 (Kd.R_below (by (with_reducible repeat (first|apply aR|apply nR|apply dR));exact HO_369001.out) hb);have n2_:=mk0 (blk_below (g:=gb368) (o:=.cells #[.int .i64 t362,.slice Ao10 t363.length co10] 24 (0,0)) (by (with_reducible repeat (first|apply nB|apply dB|apply aB));exact BK368.out) hb);have n3_:=mk0 (below_step (by repeat (first|(with_reducible first|exact HB.out|apply aZ|apply nZ|apply dZ|refine sZ ?_ GE368.out)|exact HB.out)) hb);clear HO_7 HO_369001 BK368 HB;have HO_7:=n0_;have HO_369001:=n1_;have BK368:=n2_;have HB:=n3_;clear n0_ n1_ n2_ n3_;(try clear hb);(try clear hb2);(try clear hk);(try clear hi)))
     go_loopg [11] k2 (fun kq v11 w'=>∃ (x11_3:Int),v11 = .int .i64 x11_3 ∧ Aside0 (laws_FnMins.l1 kq t366 t367 t369 t372 t376 t377 x11_3 t362 t363 = some r) ∧ Aside0 (kq ≤ k2) ∧ Aside0 (Kd.R (Kd.int .i64) 3 w' w.heap.size (fun k_=>some k_ ≠ ((.slice Ao10 t363.length co10):Value).ownBlock) (.slice Ao26 t372.length co26) t372) ∧ Aside0 (Kd.R (Kd.int .i64) 3 w' w.heap.size (fun k_=>some k_ ≠ ((.slice Ao26 t372.length co26):Value).ownBlock) (.slice Ao10 t363.length co10) t363) ∧ Aside0 (w'.heap[gb368]? = some (.cells #[.int .i64 t362,(.slice Ao10 t363.length co10)] 24 (0,0))) ∧ Aside0 (Below w.heap.size w w'))
     case atStart=>exact⟨(wrap64 (t376 + 1)),(by first|rfl|(simp;done)|(simp [*];done)),H',⟨Nat.le_refl _⟩,⟨by (with_reducible repeat (first|apply aR|apply nR|apply dR));exact HO_7.out⟩,⟨by (with_reducible repeat (first|apply aR|apply nR|apply dR));exact HO_369001.out⟩,⟨by (with_reducible repeat (first|apply nB|apply dB|apply aB));exact BK368.out⟩,⟨by repeat (first|(with_reducible first|exact HB.out|apply aZ|apply nZ|apply dZ|refine sZ ?_ GE368.out)|exact HB.out)⟩⟩
     case round =>
      clear H'
      try clear c1
      try clear c2
      try clear p2
      try clear c3
      try clear p3
      try clear q3
      try clear hx3
      try clear p6
      try clear c10
      try clear c13
      try clear c13b0
      try clear c13b1
      try clear c18
      try clear c22
      try clear c23
      try clear c23b0
      try clear c23b1
      try clear c24
      try clear c25
      try clear c26
      try clear c28
      try clear c28b0
      try clear c29
      try clear c29b0
      try clear c30
      try clear c30b0
      try clear c31
      try clear c31b0
      try clear c32
      try clear c36
      try clear p37
      try clear q37
      try clear hx37
      try clear hcz14_0
      try clear hcz14_1
      try clear hcz16_0
      try clear hcz16_1
      try clear hcz20_0
      try clear hcz20_1
      try clear hcz24_0
      try clear hcz24_1
      try clear hcz27_0
      try clear hcz27_1
      try clear hcz34_0
      try clear hcz34_1
      try clear hcz36_0
      try clear hcz36_1
      try clear hcz9_0
      try clear hcz9_1
      try clear hfz14_0
      try clear hfz14_1
      try clear hfz16_0
      try clear hfz16_1
      try clear hfz20_0
      try clear hfz20_1
      try clear hfz24_0
      try clear hfz24_1
      try clear hfz27_0
      try clear hfz27_1
      try clear hfz34_0
      try clear hfz34_1
      try clear hfz36_0
      try clear hfz36_1
      try clear hfz9_0
      try clear hfz9_1
      try clear hx375_0
      try clear p2
      try clear p375
      try clear q375
      obtain⟨x11_3,rfl,HA,HK3,HO_7,HO_369001,BK368,HB⟩:=hrel
      cases gk with
      | zero=>exact absurd HA.out (by simp [laws_FnMins.l1])
      | succ k3 =>
       have H:=HA.out
       clear HA
       simp only [laws_FnMins.l1] at H
       by_cases c38:x11_3 < t377
       ·rw [if_pos c38] at H
        have c38b0:decide (x11_3 < t377) = true:=decide_eq_true c38
        clear c38
        by_cases c39:0 ≤ x11_3
        rotate_left
        ·rw [if_neg c39] at H
         exact absurd H (by simp)
        rw [if_pos c39] at H
        have c39b0:decide (0 ≤ x11_3) = true:=decide_eq_true c39
        clear c39
        by_cases c40:x11_3 < (t372.length:Int)
        rotate_left
        ·rw [if_neg c40] at H
         exact absurd H (by simp)
        rw [if_pos c40] at H
        have c40b0:decide (x11_3 < (t372.length:Int)) = true:=decide_eq_true c40
        clear c40
        by_cases c41:(rd t372 x11_3) < t369
        ·rw [if_pos c41] at H
         have c41b0:decide ((rd t372 x11_3) < t369) = true:=decide_eq_true c41
         clear c41
         obtain rfl:=Option.some.inj H
         have p378:0 ≤ (x11_3:Int):=of_decide_eq_true (by first|(with_reducible assumption)|assumption)
         have q378:x11_3 < (t372.length:Int):=of_decide_eq_true (by first|(with_reducible assumption)|assumption)
         obtain⟨ad378,e378,hx378_0⟩:=Kd.at_int (Kd.R_reads' HO_7.out).2.2 x11_3 p378 q378
         cases e378
         replace p378:=eq_true p378
         replace q378:=eq_true q378
         go_wp2
         go_ret
         exact⟨by first|rfl|(simp [errW_none,errW_some] <;> rfl)|(simp [*,errW_none,errW_some] <;> rfl),by repeat (first|(with_reducible first|exact HB.out|apply aZ|apply nZ|apply dZ|refine sZ ?_ GE368.out)|exact HB.out)⟩
        rw [if_neg c41] at H
        have c41b0:decide ((rd t372 x11_3) < t369) = false:=decide_eq_false c41
        clear c41
        have H':=mk0 H
        clear H
        have p378:0 ≤ (x11_3:Int):=of_decide_eq_true (by first|(with_reducible assumption)|assumption)
        have q378:x11_3 < (t372.length:Int):=of_decide_eq_true (by first|(with_reducible assumption)|assumption)
        obtain⟨ad378,e378,hx378_0⟩:=Kd.at_int (Kd.R_reads' HO_7.out).2.2 x11_3 p378 q378
        cases e378
        replace p378:=eq_true p378
        replace q378:=eq_true q378
        go_wp2
        go_roundg k3
        case measure=>have:=HJ5.out;have:=HK2.out;have:=HK3.out;omega
        case rel=>exact⟨(wrap64 (x11_3 + 1)),(by first|rfl|(simp;done)|(simp [*];done)),H',⟨by have:=HJ5.out;have:=HK2.out;have:=HK3.out;omega⟩,⟨by (with_reducible repeat (first|apply aR|apply nR|apply dR));exact HO_7.out⟩,⟨by (with_reducible repeat (first|apply aR|apply nR|apply dR));exact HO_369001.out⟩,⟨by (with_reducible repeat (first|apply nB|apply dB|apply aB));exact BK368.out⟩,⟨by repeat (first|(with_reducible first|exact HB.out|apply aZ|apply nZ|apply dZ|refine sZ ?_ GE368.out)|exact HB.out)⟩⟩
       rw [if_neg c38] at H
       have c38b0:decide (x11_3 < t377) = false:=decide_eq_false c38
       clear c38
       by_cases c42:0 ≤ t366
       rotate_left
       ·rw [if_neg c42] at H
        exact absurd H (by simp)
       rw [if_pos c42] at H
       have c42b0:=eq_true c42
       have c42b1:decide (0 ≤ t366) = true:=decide_eq_true c42
       clear c42
       by_cases c43:t366 ≤ t367
       rotate_left
       ·rw [if_neg c43] at H
        exact absurd H (by simp)
       rw [if_pos c43] at H
       have c43b0:=eq_true c43
       have c43b1:decide (t366 ≤ t367) = true:=decide_eq_true c43
       clear c43
       by_cases c44:t367 ≤ (t372.length:Int)
       rotate_left
       ·rw [if_neg c44] at H
        exact absurd H (by simp)
       rw [if_pos c44] at H
       have c44b0:=eq_true c44
       have c44b1:decide (t367 ≤ (t372.length:Int)) = true:=decide_eq_true c44
       clear c44
       obtain⟨y379,hy379⟩:∃ y_:List Int,y_ = ((t372.take (t367:Int).toNat).drop (t366:Int).toNat):=⟨_,rfl⟩
       replace H:((laws_count.f k3 y379 t369).bind fun t383=>(if t383 > 0 then (if t376 < 0 then (if t377 = t362 then (some true) else (if 0 ≤ t377 then (if t377 < (t372.length:Int) then (some (decide ((rd t372 t377) < t369))) else (none)) else (none))) else (if 0 ≤ t376 then (if t376 < (t372.length:Int) then (if (rd t372 t376) < t369 then (if t377 = t362 then (some true) else (if 0 ≤ t377 then (if t377 < (t372.length:Int) then (some (decide ((rd t372 t377) < t369))) else (none)) else (none))) else (some false)) else (none)) else (none))) else (some false))) = some r:=by first|(rw [hy379];with_reducible exact H)|(have H2_:=(Option.bind_some _ _).symm.trans H;rw [hy379];with_reducible exact H2_)|(have H2_:=(Option.bind_some _ _).symm.trans H;with_reducible exact H2_)|with_reducible exact H|(rw [hy379];exact H)|exact H
       have Ny379:=mk0 hy379
       clear hy379
       replace H:=Option.bind_eq_some_iff.mp H
       obtain⟨t383,A450,H⟩:=H
       replace H:(if t383 > 0 then (if t376 < 0 then (if t377 = t362 then (some true) else (if 0 ≤ t377 then (if t377 < (t372.length:Int) then (some (decide ((rd t372 t377) < t369))) else (none)) else (none))) else (if 0 ≤ t376 then (if t376 < (t372.length:Int) then (if (rd t372 t376) < t369 then (if t377 = t362 then (some true) else (if 0 ≤ t377 then (if t377 < (t372.length:Int) then (some (decide ((rd t372 t377) < t369))) else (none)) else (none))) else (some false)) else (none)) else (none))) else (some false)) = some r:=H
       have A45:=mk0 A450
       clear A450
       by_cases c46:t383 > 0
       rotate_left
       ·rw [if_neg c46] at H
        have c46b0:decide (0 < t383) = false:=decide_eq_false c46
        clear c46
        obtain rfl:=Option.some.inj H
        have q66:(t367:Int) ≤ ((t372.length:Int):Int):=of_decide_eq_true (by first|(with_reducible assumption)|assumption)
        obtain⟨i066,hi066,_,hsz66,_⟩:=info_parts info3
        have hroom66:t372.length ≤ co26:=(Kd.R_reads' HO_7.out).2.1
        have hC66:Kd.C (Kd.int .i64) _ Ao26 t372.length t372:=(Kd.R_reads' HO_7.out).2.2
        have ql66:(t366:Int) ≤ (t367:Int):=of_decide_eq_true (by first|(with_reducible assumption)|assumption)
        have q066:(0:Int) ≤ (t366:Int):=of_decide_eq_true (by first|(with_reducible assumption)|assumption)
        have hcut66:=cut_mid (P:=Try.prog) 22 3 .i64 .i64 Try.underlying22 hi066 1 hsz66 Ao26 t372.length co26 t366 t367 q066 ql66 q66 hroom66
        have hr66:=Kd.C_mid (lo:=(t366:Int).toNat) (hi:=(t367:Int).toNat) (c:=co26) hC66 (by omega) (by omega) hroom66
        obtain⟨A66,hA66⟩:∃ A1,A1 = (if co26 = (t366:Int).toNat then Ao26 else (Ao26:Option Addr).map (·.add ((t366:Int).toNat * 1))):=⟨_,rfl⟩
        obtain⟨c66,hc66⟩:∃ c1,c1 = co26 - (t366:Int).toNat:=⟨_,rfl⟩
        have hy66:y379.length = (t367:Int).toNat - (t366:Int).toNat:=(by rw [Ny379.out,List.length_drop,List.length_take] <;> omega)
        rw [show ((t372).take (t367:Int).toNat).drop (t366:Int).toNat = y379 from Ny379.out.symm] at hr66
        replace hr66:Kd.C (Kd.int .i64) _ A66 y379.length y379:=(by rw [hA66];exact hr66)
        rw [← hy66, ← hA66, ← hc66] at hcut66
        have HR382:=mk0 hr66
        have HC382:=mk0 (show y379.length ≤ c66 from by rw [hy66,hc66];exact Nat.sub_le_sub_right (Nat.le_trans (by omega) hroom66) _)
        clear hr66 hC66 hroom66 hi066 hsz66 hc66
        have KY66:=mk0 hy66
        have KA66:=mk0 hA66
        clear hy66 hA66
        have KL66:=mk0 (show (t367:Int).toNat ≤ t372.length from by omega)
        have KM66:=mk0 (show (t366:Int).toNat ≤ (t367:Int).toNat from by omega)
        replace q66:=eq_true q66
        go_wp2_with (first|((with_reducible refine gate_callee (f:=37) rfl ?_);refine goesL_ (some 85) rfl rfl Try.func37 (by kernel_rfl) rfl #[.slice A66 y379.length c66,.int .i64 t369] rfl (by (try simp only [mA,mC,mN]);first|done|rfl|(simp only [List.length_drop,List.length_take];rfl)) ?_;(with_reducible refine (laws_count.calls k3 _ _ y379 t369 t383 _ ?side1 ?side2 A45.out).mono ?_);(case side1=>repeat (first|exact (by repeat (first|(with_reducible exact HR382.out)|(with_reducible first|apply aC|apply nC|apply dC)|exact HR382.out))|(with_reducible first|apply aC|apply nC|apply dC)));(case side2=>exact HC382.out);rintro e w' ⟨rfl,⟨nd,rfl⟩⟩;refine⟨_,rfl,?_⟩))
        go_ret
        exact⟨by first|rfl|(simp [errW_none,errW_some] <;> rfl)|(simp [*,errW_none,errW_some] <;> rfl),by repeat (first|(with_reducible first|exact HB.out|apply aZ|apply nZ|apply dZ|refine sZ ?_ GE368.out)|exact HB.out)⟩
       rw [if_pos c46] at H
       have c46b0:decide (0 < t383) = true:=decide_eq_true c46
       clear c46
       by_cases c47:t376 < 0
       ·rw [if_pos c47] at H
        have c47b0:decide (t376 < 0) = true:=decide_eq_true c47
        clear c47
        by_cases c48:t377 = t362
        ·rw [if_pos c48] at H
         have c48b0:(t377 == t362) = true:=beq_iff_eq.mpr c48
         have c48b1:(t377 != t362) = false:=bne_eq_false_iff_eq.mpr c48
         clear c48
         obtain rfl:=Option.some.inj H
         have q49:(t367:Int) ≤ ((t372.length:Int):Int):=of_decide_eq_true (by first|(with_reducible assumption)|assumption)
         obtain⟨i049,hi049,_,hsz49,_⟩:=info_parts info3
         have hroom49:t372.length ≤ co26:=(Kd.R_reads' HO_7.out).2.1
         have hC49:Kd.C (Kd.int .i64) _ Ao26 t372.length t372:=(Kd.R_reads' HO_7.out).2.2
         have ql49:(t366:Int) ≤ (t367:Int):=of_decide_eq_true (by first|(with_reducible assumption)|assumption)
         have q049:(0:Int) ≤ (t366:Int):=of_decide_eq_true (by first|(with_reducible assumption)|assumption)
         have hcut49:=cut_mid (P:=Try.prog) 22 3 .i64 .i64 Try.underlying22 hi049 1 hsz49 Ao26 t372.length co26 t366 t367 q049 ql49 q49 hroom49
         have hr49:=Kd.C_mid (lo:=(t366:Int).toNat) (hi:=(t367:Int).toNat) (c:=co26) hC49 (by omega) (by omega) hroom49
         obtain⟨A49,hA49⟩:∃ A1,A1 = (if co26 = (t366:Int).toNat then Ao26 else (Ao26:Option Addr).map (·.add ((t366:Int).toNat * 1))):=⟨_,rfl⟩
         obtain⟨c49,hc49⟩:∃ c1,c1 = co26 - (t366:Int).toNat:=⟨_,rfl⟩
         have hy49:y379.length = (t367:Int).toNat - (t366:Int).toNat:=(by rw [Ny379.out,List.length_drop,List.length_take] <;> omega)
         rw [show ((t372).take (t367:Int).toNat).drop (t366:Int).toNat = y379 from Ny379.out.symm] at hr49
         replace hr49:Kd.C (Kd.int .i64) _ A49 y379.length y379:=(by rw [hA49];exact hr49)
         rw [← hy49, ← hA49, ← hc49] at hcut49
         have HR382:=mk0 hr49
         have HC382:=mk0 (show y379.length ≤ c49 from by rw [hy49,hc49];exact Nat.sub_le_sub_right (Nat.le_trans (by omega) hroom49) _)
         clear hr49 hC49 hroom49 hi049 hsz49 hc49
         have KY49:=mk0 hy49
         have KA49:=mk0 hA49
         clear hy49 hA49
         have KL49:=mk0 (show (t367:Int).toNat ≤ t372.length from by omega)
         have KM49:=mk0 (show (t366:Int).toNat ≤ (t367:Int).toNat from by omega)
         replace q49:=eq_true q49
         go_wp2_with (first|((with_reducible refine gate_callee (f:=37) rfl ?_);refine goesL_ (some 85) rfl rfl Try.func37 (by kernel_rfl) rfl #[.slice A49 y379.length c49,.int .i64 t369] rfl (by (try simp only [mA,mC,mN]);first|done|rfl|(simp only [List.length_drop,List.length_take];rfl)) ?_;(with_reducible refine (laws_count.calls k3 _ _ y379 t369 t383 _ ?side1 ?side2 A45.out).mono ?_);(case side1=>repeat (first|exact (by repeat (first|(with_reducible exact HR382.out)|(with_reducible first|apply aC|apply nC|apply dC)|exact HR382.out))|(with_reducible first|apply aC|apply nC|apply dC)));(case side2=>exact HC382.out);rintro e w' ⟨rfl,⟨nd,rfl⟩⟩;refine⟨_,rfl,?_⟩;have hcz50_0:wr.cell? ⟨gb368,0,none⟩ = some (.int .i64 t362):=(blk_cell BK368.out 0).trans rfl;have hcz50_1:wr.cell? ⟨gb368,1,none⟩ = some (.slice Ao10 t363.length co10):=(blk_cell BK368.out 1).trans rfl;have hfz50_0:=blk_frozen BK368.out 0;have hfz50_1:=blk_frozen BK368.out 1))
         go_ret
         exact⟨by first|rfl|(simp [errW_none,errW_some] <;> rfl)|(simp [*,errW_none,errW_some] <;> rfl),by repeat (first|(with_reducible first|exact HB.out|apply aZ|apply nZ|apply dZ|refine sZ ?_ GE368.out)|exact HB.out)⟩
        rw [if_neg c48] at H
        have c48b0:(t377 == t362) = false:=beq_eq_false_iff_ne.mpr c48
        have c48b1:(t377 != t362) = true:=bne_iff_ne.mpr c48
        by_cases c51:0 ≤ t377
        rotate_left
        ·rw [if_neg c51] at H
         exact absurd H (by simp)
        rw [if_pos c51] at H
        have c51b0:decide (0 ≤ t377) = true:=decide_eq_true c51
        clear c51
        by_cases c52:t377 < (t372.length:Int)
        rotate_left
        ·rw [if_neg c52] at H
         exact absurd H (by simp)
        rw [if_pos c52] at H
        have c52b0:decide (t377 < (t372.length:Int)) = true:=decide_eq_true c52
        clear c52
        obtain rfl:=Option.some.inj H
        have q53:(t367:Int) ≤ ((t372.length:Int):Int):=of_decide_eq_true (by first|(with_reducible assumption)|assumption)
        obtain⟨i053,hi053,_,hsz53,_⟩:=info_parts info3
        have hroom53:t372.length ≤ co26:=(Kd.R_reads' HO_7.out).2.1
        have hC53:Kd.C (Kd.int .i64) _ Ao26 t372.length t372:=(Kd.R_reads' HO_7.out).2.2
        have ql53:(t366:Int) ≤ (t367:Int):=of_decide_eq_true (by first|(with_reducible assumption)|assumption)
        have q053:(0:Int) ≤ (t366:Int):=of_decide_eq_true (by first|(with_reducible assumption)|assumption)
        have hcut53:=cut_mid (P:=Try.prog) 22 3 .i64 .i64 Try.underlying22 hi053 1 hsz53 Ao26 t372.length co26 t366 t367 q053 ql53 q53 hroom53
        have hr53:=Kd.C_mid (lo:=(t366:Int).toNat) (hi:=(t367:Int).toNat) (c:=co26) hC53 (by omega) (by omega) hroom53
        obtain⟨A53,hA53⟩:∃ A1,A1 = (if co26 = (t366:Int).toNat then Ao26 else (Ao26:Option Addr).map (·.add ((t366:Int).toNat * 1))):=⟨_,rfl⟩
        obtain⟨c53,hc53⟩:∃ c1,c1 = co26 - (t366:Int).toNat:=⟨_,rfl⟩
        have hy53:y379.length = (t367:Int).toNat - (t366:Int).toNat:=(by rw [Ny379.out,List.length_drop,List.length_take] <;> omega)
        rw [show ((t372).take (t367:Int).toNat).drop (t366:Int).toNat = y379 from Ny379.out.symm] at hr53
        replace hr53:Kd.C (Kd.int .i64) _ A53 y379.length y379:=(by rw [hA53];exact hr53)
        rw [← hy53, ← hA53, ← hc53] at hcut53
        have HR382:=mk0 hr53
        have HC382:=mk0 (show y379.length ≤ c53 from by rw [hy53,hc53];exact Nat.sub_le_sub_right (Nat.le_trans (by omega) hroom53) _)
        clear hr53 hC53 hroom53 hi053 hsz53 hc53
        have KY53:=mk0 hy53
        have KA53:=mk0 hA53
        clear hy53 hA53
        have KL53:=mk0 (show (t367:Int).toNat ≤ t372.length from by omega)
        have KM53:=mk0 (show (t366:Int).toNat ≤ (t367:Int).toNat from by omega)
        replace q53:=eq_true q53
        go_wp2_with (first|((with_reducible refine gate_callee (f:=37) rfl ?_);refine goesL_ (some 85) rfl rfl Try.func37 (by kernel_rfl) rfl #[.slice A53 y379.length c53,.int .i64 t369] rfl (by (try simp only [mA,mC,mN]);first|done|rfl|(simp only [List.length_drop,List.length_take];rfl)) ?_;(with_reducible refine (laws_count.calls k3 _ _ y379 t369 t383 _ ?side1 ?side2 A45.out).mono ?_);(case side1=>repeat (first|exact (by repeat (first|(with_reducible exact HR382.out)|(with_reducible first|apply aC|apply nC|apply dC)|exact HR382.out))|(with_reducible first|apply aC|apply nC|apply dC)));(case side2=>exact HC382.out);rintro e w' ⟨rfl,⟨nd,rfl⟩⟩;refine⟨_,rfl,?_⟩;have hcz54_0:wr.cell? ⟨gb368,0,none⟩ = some (.int .i64 t362):=(blk_cell BK368.out 0).trans rfl;have hcz54_1:wr.cell? ⟨gb368,1,none⟩ = some (.slice Ao10 t363.length co10):=(blk_cell BK368.out 1).trans rfl;have hfz54_0:=blk_frozen BK368.out 0;have hfz54_1:=blk_frozen BK368.out 1;have p384:0 ≤ (t377:Int):=of_decide_eq_true (by first|(with_reducible assumption)|assumption);have q384:t377 < (t372.length:Int):=of_decide_eq_true (by first|(with_reducible assumption)|assumption);obtain⟨ad384,e384,hx384_0⟩:=Kd.at_int (Kd.R_reads' HO_7.out).2.2 t377 p384 q384;cases e384;replace p384:=eq_true p384;replace q384:=eq_true q384))
        go_ret
        exact⟨by first|rfl|(simp [errW_none,errW_some] <;> rfl)|(simp [*,errW_none,errW_some] <;> rfl),by repeat (first|(with_reducible first|exact HB.out|apply aZ|apply nZ|apply dZ|refine sZ ?_ GE368.out)|exact HB.out)⟩
       rw [if_neg c47] at H
       have c47b0:decide (t376 < 0) = false:=decide_eq_false c47
       clear c47
       by_cases c55:0 ≤ t376
       rotate_left
       ·rw [if_neg c55] at H
        exact absurd H (by simp)
       rw [if_pos c55] at H
       have c55b0:decide (0 ≤ t376) = true:=decide_eq_true c55
       clear c55
       by_cases c56:t376 < (t372.length:Int)
       rotate_left
       ·rw [if_neg c56] at H
        exact absurd H (by simp)
       rw [if_pos c56] at H
       have c56b0:decide (t376 < (t372.length:Int)) = true:=decide_eq_true c56
       clear c56
       by_cases c57:(rd t372 t376) < t369
       rotate_left
       ·rw [if_neg c57] at H
        have c57b0:decide ((rd t372 t376) < t369) = false:=decide_eq_false c57
        clear c57
        obtain rfl:=Option.some.inj H
        have q65:(t367:Int) ≤ ((t372.length:Int):Int):=of_decide_eq_true (by first|(with_reducible assumption)|assumption)
        obtain⟨i065,hi065,_,hsz65,_⟩:=info_parts info3
        have hroom65:t372.length ≤ co26:=(Kd.R_reads' HO_7.out).2.1
        have hC65:Kd.C (Kd.int .i64) _ Ao26 t372.length t372:=(Kd.R_reads' HO_7.out).2.2
        have ql65:(t366:Int) ≤ (t367:Int):=of_decide_eq_true (by first|(with_reducible assumption)|assumption)
        have q065:(0:Int) ≤ (t366:Int):=of_decide_eq_true (by first|(with_reducible assumption)|assumption)
        have hcut65:=cut_mid (P:=Try.prog) 22 3 .i64 .i64 Try.underlying22 hi065 1 hsz65 Ao26 t372.length co26 t366 t367 q065 ql65 q65 hroom65
        have hr65:=Kd.C_mid (lo:=(t366:Int).toNat) (hi:=(t367:Int).toNat) (c:=co26) hC65 (by omega) (by omega) hroom65
        obtain⟨A65,hA65⟩:∃ A1,A1 = (if co26 = (t366:Int).toNat then Ao26 else (Ao26:Option Addr).map (·.add ((t366:Int).toNat * 1))):=⟨_,rfl⟩
        obtain⟨c65,hc65⟩:∃ c1,c1 = co26 - (t366:Int).toNat:=⟨_,rfl⟩
        have hy65:y379.length = (t367:Int).toNat - (t366:Int).toNat:=(by rw [Ny379.out,List.length_drop,List.length_take] <;> omega)
        rw [show ((t372).take (t367:Int).toNat).drop (t366:Int).toNat = y379 from Ny379.out.symm] at hr65
        replace hr65:Kd.C (Kd.int .i64) _ A65 y379.length y379:=(by rw [hA65];exact hr65)
        rw [← hy65, ← hA65, ← hc65] at hcut65
        have HR382:=mk0 hr65
        have HC382:=mk0 (show y379.length ≤ c65 from by rw [hy65,hc65];exact Nat.sub_le_sub_right (Nat.le_trans (by omega) hroom65) _)
        clear hr65 hC65 hroom65 hi065 hsz65 hc65
        have KY65:=mk0 hy65
        have KA65:=mk0 hA65
        clear hy65 hA65
        have KL65:=mk0 (show (t367:Int).toNat ≤ t372.length from by omega)
        have KM65:=mk0 (show (t366:Int).toNat ≤ (t367:Int).toNat from by omega)
        replace q65:=eq_true q65
        go_wp2_with (first|((with_reducible refine gate_callee (f:=37) rfl ?_);refine goesL_ (some 85) rfl rfl Try.func37 (by kernel_rfl) rfl #[.slice A65 y379.length c65,.int .i64 t369] rfl (by (try simp only [mA,mC,mN]);first|done|rfl|(simp only [List.length_drop,List.length_take];rfl)) ?_;(with_reducible refine (laws_count.calls k3 _ _ y379 t369 t383 _ ?side1 ?side2 A45.out).mono ?_);(case side1=>repeat (first|exact (by repeat (first|(with_reducible exact HR382.out)|(with_reducible first|apply aC|apply nC|apply dC)|exact HR382.out))|(with_reducible first|apply aC|apply nC|apply dC)));(case side2=>exact HC382.out);rintro e w' ⟨rfl,⟨nd,rfl⟩⟩;refine⟨_,rfl,?_⟩;have p385:0 ≤ (t376:Int):=of_decide_eq_true (by first|(with_reducible assumption)|assumption);have q385:t376 < (t372.length:Int):=of_decide_eq_true (by first|(with_reducible assumption)|assumption);obtain⟨ad385,e385,hx385_0⟩:=Kd.at_int (Kd.R_reads' HO_7.out).2.2 t376 p385 q385;cases e385;replace p385:=eq_true p385;replace q385:=eq_true q385))
        go_ret
        exact⟨by first|rfl|(simp [errW_none,errW_some] <;> rfl)|(simp [*,errW_none,errW_some] <;> rfl),by repeat (first|(with_reducible first|exact HB.out|apply aZ|apply nZ|apply dZ|refine sZ ?_ GE368.out)|exact HB.out)⟩
       rw [if_pos c57] at H
       have c57b0:decide ((rd t372 t376) < t369) = true:=decide_eq_true c57
       clear c57
       by_cases c58:t377 = t362
       ·rw [if_pos c58] at H
        have c58b0:(t377 == t362) = true:=beq_iff_eq.mpr c58
        have c58b1:(t377 != t362) = false:=bne_eq_false_iff_eq.mpr c58
        clear c58
        obtain rfl:=Option.some.inj H
        have q59:(t367:Int) ≤ ((t372.length:Int):Int):=of_decide_eq_true (by first|(with_reducible assumption)|assumption)
        obtain⟨i059,hi059,_,hsz59,_⟩:=info_parts info3
        have hroom59:t372.length ≤ co26:=(Kd.R_reads' HO_7.out).2.1
        have hC59:Kd.C (Kd.int .i64) _ Ao26 t372.length t372:=(Kd.R_reads' HO_7.out).2.2
        have ql59:(t366:Int) ≤ (t367:Int):=of_decide_eq_true (by first|(with_reducible assumption)|assumption)
        have q059:(0:Int) ≤ (t366:Int):=of_decide_eq_true (by first|(with_reducible assumption)|assumption)
        have hcut59:=cut_mid (P:=Try.prog) 22 3 .i64 .i64 Try.underlying22 hi059 1 hsz59 Ao26 t372.length co26 t366 t367 q059 ql59 q59 hroom59
        have hr59:=Kd.C_mid (lo:=(t366:Int).toNat) (hi:=(t367:Int).toNat) (c:=co26) hC59 (by omega) (by omega) hroom59
        obtain⟨A59,hA59⟩:∃ A1,A1 = (if co26 = (t366:Int).toNat then Ao26 else (Ao26:Option Addr).map (·.add ((t366:Int).toNat * 1))):=⟨_,rfl⟩
        obtain⟨c59,hc59⟩:∃ c1,c1 = co26 - (t366:Int).toNat:=⟨_,rfl⟩
        have hy59:y379.length = (t367:Int).toNat - (t366:Int).toNat:=(by rw [Ny379.out,List.length_drop,List.length_take] <;> omega)
        rw [show ((t372).take (t367:Int).toNat).drop (t366:Int).toNat = y379 from Ny379.out.symm] at hr59
        replace hr59:Kd.C (Kd.int .i64) _ A59 y379.length y379:=(by rw [hA59];exact hr59)
        rw [← hy59, ← hA59, ← hc59] at hcut59
        have HR382:=mk0 hr59
        have HC382:=mk0 (show y379.length ≤ c59 from by rw [hy59,hc59];exact Nat.sub_le_sub_right (Nat.le_trans (by omega) hroom59) _)
        clear hr59 hC59 hroom59 hi059 hsz59 hc59
        have KY59:=mk0 hy59
        have KA59:=mk0 hA59
        clear hy59 hA59
        have KL59:=mk0 (show (t367:Int).toNat ≤ t372.length from by omega)
        have KM59:=mk0 (show (t366:Int).toNat ≤ (t367:Int).toNat from by omega)
        replace q59:=eq_true q59
        go_wp2_with (first|((with_reducible refine gate_callee (f:=37) rfl ?_);refine goesL_ (some 85) rfl rfl Try.func37 (by kernel_rfl) rfl #[.slice A59 y379.length c59,.int .i64 t369] rfl (by (try simp only [mA,mC,mN]);first|done|rfl|(simp only [List.length_drop,List.length_take];rfl)) ?_;(with_reducible refine (laws_count.calls k3 _ _ y379 t369 t383 _ ?side1 ?side2 A45.out).mono ?_);(case side1=>repeat (first|exact (by repeat (first|(with_reducible exact HR382.out)|(with_reducible first|apply aC|apply nC|apply dC)|exact HR382.out))|(with_reducible first|apply aC|apply nC|apply dC)));(case side2=>exact HC382.out);rintro e w' ⟨rfl,⟨nd,rfl⟩⟩;refine⟨_,rfl,?_⟩;have p385:0 ≤ (t376:Int):=of_decide_eq_true (by first|(with_reducible assumption)|assumption);have q385:t376 < (t372.length:Int):=of_decide_eq_true (by first|(with_reducible assumption)|assumption);obtain⟨ad385,e385,hx385_0⟩:=Kd.at_int (Kd.R_reads' HO_7.out).2.2 t376 p385 q385;cases e385;replace p385:=eq_true p385;replace q385:=eq_true q385;have hcz60_0:wr.cell? ⟨gb368,0,none⟩ = some (.int .i64 t362):=(blk_cell BK368.out 0).trans rfl;have hcz60_1:wr.cell? ⟨gb368,1,none⟩ = some (.slice Ao10 t363.length co10):=(blk_cell BK368.out 1).trans rfl;have hfz60_0:=blk_frozen BK368.out 0;have hfz60_1:=blk_frozen BK368.out 1))
        go_ret
        exact⟨by first|rfl|(simp [errW_none,errW_some] <;> rfl)|(simp [*,errW_none,errW_some] <;> rfl),by repeat (first|(with_reducible first|exact HB.out|apply aZ|apply nZ|apply dZ|refine sZ ?_ GE368.out)|exact HB.out)⟩
       rw [if_neg c58] at H
       have c58b0:(t377 == t362) = false:=beq_eq_false_iff_ne.mpr c58
       have c58b1:(t377 != t362) = true:=bne_iff_ne.mpr c58
       by_cases c61:0 ≤ t377
       rotate_left
       ·rw [if_neg c61] at H
        exact absurd H (by simp)
       rw [if_pos c61] at H
       have c61b0:decide (0 ≤ t377) = true:=decide_eq_true c61
       clear c61
       by_cases c62:t377 < (t372.length:Int)
       rotate_left
       ·rw [if_neg c62] at H
        exact absurd H (by simp)
       rw [if_pos c62] at H
       have c62b0:decide (t377 < (t372.length:Int)) = true:=decide_eq_true c62
       clear c62
       obtain rfl:=Option.some.inj H
       have q63:(t367:Int) ≤ ((t372.length:Int):Int):=of_decide_eq_true (by first|(with_reducible assumption)|assumption)
       obtain⟨i063,hi063,_,hsz63,_⟩:=info_parts info3
       have hroom63:t372.length ≤ co26:=(Kd.R_reads' HO_7.out).2.1
       have hC63:Kd.C (Kd.int .i64) _ Ao26 t372.length t372:=(Kd.R_reads' HO_7.out).2.2
       have ql63:(t366:Int) ≤ (t367:Int):=of_decide_eq_true (by first|(with_reducible assumption)|assumption)
       have q063:(0:Int) ≤ (t366:Int):=of_decide_eq_true (by first|(with_reducible assumption)|assumption)
       have hcut63:=cut_mid (P:=Try.prog) 22 3 .i64 .i64 Try.underlying22 hi063 1 hsz63 Ao26 t372.length co26 t366 t367 q063 ql63 q63 hroom63
       have hr63:=Kd.C_mid (lo:=(t366:Int).toNat) (hi:=(t367:Int).toNat) (c:=co26) hC63 (by omega) (by omega) hroom63
       obtain⟨A63,hA63⟩:∃ A1,A1 = (if co26 = (t366:Int).toNat then Ao26 else (Ao26:Option Addr).map (·.add ((t366:Int).toNat * 1))):=⟨_,rfl⟩
       obtain⟨c63,hc63⟩:∃ c1,c1 = co26 - (t366:Int).toNat:=⟨_,rfl⟩
       have hy63:y379.length = (t367:Int).toNat - (t366:Int).toNat:=(by rw [Ny379.out,List.length_drop,List.length_take] <;> omega)
       rw [show ((t372).take (t367:Int).toNat).drop (t366:Int).toNat = y379 from Ny379.out.symm] at hr63
       replace hr63:Kd.C (Kd.int .i64) _ A63 y379.length y379:=(by rw [hA63];exact hr63)
       rw [← hy63, ← hA63, ← hc63] at hcut63
       have HR382:=mk0 hr63
       have HC382:=mk0 (show y379.length ≤ c63 from by rw [hy63,hc63];exact Nat.sub_le_sub_right (Nat.le_trans (by omega) hroom63) _)
       clear hr63 hC63 hroom63 hi063 hsz63 hc63
       have KY63:=mk0 hy63
       have KA63:=mk0 hA63
       clear hy63 hA63
       have KL63:=mk0 (show (t367:Int).toNat ≤ t372.length from by omega)
       have KM63:=mk0 (show (t366:Int).toNat ≤ (t367:Int).toNat from by omega)
       replace q63:=eq_true q63
       go_wp2_with (first|((with_reducible refine gate_callee (f:=37) rfl ?_);refine goesL_ (some 85) rfl rfl Try.func37 (by kernel_rfl) rfl #[.slice A63 y379.length c63,.int .i64 t369] rfl (by (try simp only [mA,mC,mN]);first|done|rfl|(simp only [List.length_drop,List.length_take];rfl)) ?_;(with_reducible refine (laws_count.calls k3 _ _ y379 t369 t383 _ ?side1 ?side2 A45.out).mono ?_);(case side1=>repeat (first|exact (by repeat (first|(with_reducible exact HR382.out)|(with_reducible first|apply aC|apply nC|apply dC)|exact HR382.out))|(with_reducible first|apply aC|apply nC|apply dC)));(case side2=>exact HC382.out);rintro e w' ⟨rfl,⟨nd,rfl⟩⟩;refine⟨_,rfl,?_⟩;have p385:0 ≤ (t376:Int):=of_decide_eq_true (by first|(with_reducible assumption)|assumption);have q385:t376 < (t372.length:Int):=of_decide_eq_true (by first|(with_reducible assumption)|assumption);obtain⟨ad385,e385,hx385_0⟩:=Kd.at_int (Kd.R_reads' HO_7.out).2.2 t376 p385 q385;cases e385;replace p385:=eq_true p385;replace q385:=eq_true q385;have hcz64_0:wr.cell? ⟨gb368,0,none⟩ = some (.int .i64 t362):=(blk_cell BK368.out 0).trans rfl;have hcz64_1:wr.cell? ⟨gb368,1,none⟩ = some (.slice Ao10 t363.length co10):=(blk_cell BK368.out 1).trans rfl;have hfz64_0:=blk_frozen BK368.out 0;have hfz64_1:=blk_frozen BK368.out 1;have p386:0 ≤ (t377:Int):=of_decide_eq_true (by first|(with_reducible assumption)|assumption);have q386:t377 < (t372.length:Int):=of_decide_eq_true (by first|(with_reducible assumption)|assumption);obtain⟨ad386,e386,hx386_0⟩:=Kd.at_int (Kd.R_reads' HO_7.out).2.2 t377 p386 q386;obtain rfl:ad385 = ad386:=(by injection e386);replace p386:=eq_true p386;replace q386:=eq_true q386))
       go_ret
       exact⟨by first|rfl|(simp [errW_none,errW_some] <;> rfl)|(simp [*,errW_none,errW_some] <;> rfl),by repeat (first|(with_reducible first|exact HB.out|apply aZ|apply nZ|apply dZ|refine sZ ?_ GE368.out)|exact HB.out)⟩
/-- THE ONE PURE STATEMENT of laws_FnMins: yours. -/
def laws_FnMins.Pure : Prop := ∀ (l0 : List Int), l0.length ≤ maxLen → l0.length * 1 ≤ 140737488351232 → (∀ x ∈ l0, (Lit.int .u8 x).wf = true) → ∃ k, laws_FnMins.f k l0 = some true
theorem laws_FnMins.walk (P : laws_FnMins.Pure) (a0 : Option Addr) (len0 cap0 : Nat) (z0 : List Int) (w : World) (w0 : (a0 = none ∧ len0 = 0 ∧ cap0 = 0 ∧ z0 = []) ∨ ∃ x, a0 = some x ∧ len0 ≤ cap0 ∧ cap0 ≤ maxLen ∧ z0.length = cap0 ∧ (∀ i, i < z0.length → w.cell? (x.add i) = some (.int .u8 (z0.getD i 0))) ∧ ∀ n ∈ z0, (Lit.int .u8 n).wf = true) (y0 : len0 * 1 ≤ 140737488351232) :
    Calls Try.prog 10 #[.slice a0 len0 cap0] w fun e w' => e = .returned (.bool true) ∧ Below w.heap.size w w' := by
  obtain ⟨l0, rfl, hr0, hm0, hw0, hc0⟩ := ReadsInt.ofRowC w0
  obtain ⟨k, h⟩ := P l0 hm0 y0 hw0
  refine (laws_FnMins.calls k _ _ l0 true w (Kd.C_of_reads (d := (0 : Int)) (h1 := fun _ => rfl) hr0) hc0 h).mono ?_
  rintro e w' ⟨rfl, hd⟩
  exact ⟨rfl, hd⟩

end Go.Proofs.Ytpheodpcppclaaa.QFnMins
