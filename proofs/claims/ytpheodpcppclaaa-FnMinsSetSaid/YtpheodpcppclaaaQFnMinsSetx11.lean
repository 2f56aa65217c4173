-- A walk, made by walk.py, a program of this session's.
import Derived.Test.YtpheodpcppclaaaQFnMinsSetx0
import Derived.Test.YtpheodpcppclaaaQFnMinsSetx1
import Derived.Test.YtpheodpcppclaaaQFnMinsSetx2
import Derived.Test.YtpheodpcppclaaaQFnMinsSetx5
import Derived.Test.YtpheodpcppclaaaQFnMinsSetx9
import Derived.Test.YtpheodpcppclaaaQFnMinsSetx10
namespace Go.Proofs.Ytpheodpcppclaaa.QFnMinsSet
open Go.RowKit Go.Proofs.YtpheodpcppclaaaW.PrintWords Go.Proofs.YtpheodpcppclaaaW.PrintLast Go.Proofs.YtpheodpcppclaaaW.PrintMore
attribute [local go_sem] max2_int min2_int max_two min_two max_three min_three max_four min_four   -- for this text's walks alone
set_option linter.unusedVariables false
set_option linter.unusedSimpArgs false

/-! ### laws_FnMinsSet: function 9 -/
def laws_FnMinsSet.j0 : Nat → Int → Int → Bool → Bool → Bool → Int → List Int → Int → List Int → Option (Bool)
 | 0, _, _, _, _, _, _, _, _, _ => none
 | k + 1, x4, x5, x7, x9, x41, x396000, x396001, x408000, x408001 => if x41 = true then (some (x9 == x7)) else ((spec_MinsList.f k x396000 x396001).bind fun t408 => (if 0 ≤ x4 then (if x4 < (t408.length : Int) then ((spec_MinsOf.f k (t408.set (x4 : Int).toNat x5)).bind fun bt412 => ((laws_same.f k x408001 bt412.2.1).bind fun t418 => (if t418 = true then ((impl_MinsRange.f k x408000 x408001 0 x396000).bind fun t419 => ((spec_MinsRange.f k bt412.1 bt412.2.1 0 x396000).bind fun t420 => (if t419 = t420 then ((impl_MinsOk.f k x408000 x408001).bind fun t421 => (some t421)) else (some false)))) else (some false)))) else (none)) else (none)))
def laws_FnMinsSet.f (k : Nat) (l0 : List Int) : Option (Bool) := (laws_big.f l0).bind fun t388 => (if t388 = true then (some true) else ((spec_DrawMinsSet.f k l0).bind fun bt389 => ((spec_MinsSet.f k bt389.1 bt389.2.1 bt389.2.2.1 bt389.2.2.2).bind fun bt396 => ((impl_MinsSet.f k bt389.1 bt389.2.1 bt389.2.2.1 bt389.2.2.2).bind fun bt402 => (if (bt402.2.2 != bt396.2.2) = true then (laws_FnMinsSet.j0 k bt389.2.2.1 bt389.2.2.2 bt396.2.2 bt402.2.2 true bt389.1 bt389.2.1 bt402.1 bt402.2.1) else (laws_FnMinsSet.j0 k bt389.2.2.1 bt389.2.2.2 bt396.2.2 bt402.2.2 (!bt402.2.2) bt389.1 bt389.2.1 bt402.1 bt402.2.1))))))
theorem laws_FnMinsSet.mono_l : ∀ k, (∀ y0 y1 y2 y3 y4 y5 y6 y7 y8, LeO (laws_FnMinsSet.j0 k y0 y1 y2 y3 y4 y5 y6 y7 y8) (laws_FnMinsSet.j0 (k + 1) y0 y1 y2 y3 y4 y5 y6 y7 y8))
 | 0 => fun _ _ _ _ _ _ _ _ _ r h => by simp [laws_FnMinsSet.j0] at h
 | k + 1 => by
  have ih0 := laws_FnMinsSet.mono_l k
  ·intro y0 y1 y2 y3 y4 y5 y6 y7 y8
   unfold laws_FnMinsSet.j0
   repeat' first|(with_reducible first|exact ih0 _ _ _ _ _ _ _ _ _|exact impl_MinsOk.mono _ _ _|exact impl_MinsRange.mono _ _ _ _ _|exact impl_MinsSet.mono _ _ _ _ _|exact laws_same.mono _ _ _|exact spec_DrawMinsSet.mono _ _|exact spec_MinsList.mono _ _ _|exact spec_MinsOf.mono _ _|exact spec_MinsRange.mono _ _ _ _ _|exact spec_MinsSet.mono _ _ _ _ _|exact LeO.refl _|exact LeO.none _|refine LeO.ite ?_ ?_|refine LeO.bind ?_ (fun _ => ?_))|exact LeO.none _|refine LeO.ite ?_ ?_|refine LeO.bind ?_ (fun _ => ?_)
theorem laws_FnMinsSet.mono : ∀ a0 k, LeO (laws_FnMinsSet.f k a0) (laws_FnMinsSet.f (k + 1) a0) := by
 intro a0 k
 have ih0 := laws_FnMinsSet.mono_l k
 unfold laws_FnMinsSet.f
 repeat' first|(with_reducible first|exact ih0 _ _ _ _ _ _ _ _ _|exact impl_MinsOk.mono _ _ _|exact impl_MinsRange.mono _ _ _ _ _|exact impl_MinsSet.mono _ _ _ _ _|exact laws_same.mono _ _ _|exact spec_DrawMinsSet.mono _ _|exact spec_MinsList.mono _ _ _|exact spec_MinsOf.mono _ _|exact spec_MinsRange.mono _ _ _ _ _|exact spec_MinsSet.mono _ _ _ _ _|exact LeO.refl _|exact LeO.none _|refine LeO.ite ?_ ?_|refine LeO.bind ?_ (fun _ => ?_))|exact LeO.none _|refine LeO.ite ?_ ?_|refine LeO.bind ?_ (fun _ => ?_)
def laws_FnMinsSet.T11 : Bool × List (List Nat × List Nat) := (true, [([], []), ([0], [0]), ([], []), ([2], [2]), ([1, 3], [1, 3]), ([4, 4], [4]), ([5], [5]), ([5], [5]), ([7, 5], [5, 7]), ([6, 8, 5, 5], [5, 6, 8]), ([5], [5]), ([5], [5]), ([11, 5], [5, 11]), ([10, 12, 9, 5], [5, 10, 12]), ([9, 13, 5], [5, 9, 13]), ([5, 14], [5, 14]), ([15, 13], [15]), ([16], [16]), ([17, 16, 16], [16, 17]), ([16, 18], [16, 18]), ([19, 18, 0, 1, 2, 3, 4, 5, 6, 7, 8, 9, 10, 11, 12, 13, 14, 15, 16, 17, 18, 19], [19])])
def laws_FnMinsSet.B11 : List Nat := [0, 1, 0, 4, 15, 31, 63, 63, 191, 511, 63, 63, 2111, 8191, 16383, 32767, 65535, 131071, 262143, 524287, 1048575]
theorem laws_FnMinsSet.tab11 : rtab .any (opsOf Try.f9 11) = laws_FnMinsSet.T11 := by kernel_rfl
theorem laws_FnMinsSet.bits11 : waitsOk laws_FnMinsSet.T11.2 laws_FnMinsSet.B11 = true := by kernel_rfl
abbrev laws_FnMinsSet.m0 : Array Bool := #[F,F,F,F,F,F,F,F,F,F,F,F,F,F,F,F,F,F,F,F,F]
abbrev laws_FnMinsSet.m1 : Array Bool := #[T,F,F,F,F,F,F,F,F,F,F,F,F,F,F,F,F,F,F,F,F]
abbrev laws_FnMinsSet.m2 : Array Bool := #[T,F,T,F,F,F,F,F,F,F,F,F,F,F,F,F,F,F,F,F,F]
abbrev laws_FnMinsSet.m3 : Array Bool := #[T,T,T,F,F,F,F,F,F,F,F,F,F,F,F,F,F,F,F,F,F]
abbrev laws_FnMinsSet.m4 : Array Bool := #[T,T,T,T,F,F,F,F,F,F,F,F,F,F,F,F,F,F,F,F,F]
abbrev laws_FnMinsSet.m5 : Array Bool := #[T,T,T,T,T,F,F,F,F,F,F,F,F,F,F,F,F,F,F,F,F]
abbrev laws_FnMinsSet.m6 : Array Bool := #[T,T,T,T,T,T,F,F,F,F,F,F,F,F,F,F,F,F,F,F,F]
abbrev laws_FnMinsSet.m7 : Array Bool := #[T,T,T,T,T,T,T,F,F,F,F,F,F,F,F,F,F,F,F,F,F]
abbrev laws_FnMinsSet.m8 : Array Bool := #[T,T,T,T,T,T,T,T,F,F,F,F,F,F,F,F,F,F,F,F,F]
abbrev laws_FnMinsSet.m9 : Array Bool := #[T,T,T,T,T,T,T,T,T,F,F,F,F,F,F,F,F,F,F,F,F]
abbrev laws_FnMinsSet.m10 : Array Bool := #[T,T,T,T,T,T,T,T,T,T,F,F,F,F,F,F,F,F,F,F,F]
abbrev laws_FnMinsSet.m11 : Array Bool := #[T,T,T,T,T,T,T,T,T,T,T,F,F,F,F,F,F,F,F,F,F]
abbrev laws_FnMinsSet.m12 : Array Bool := #[T,T,T,T,T,T,T,T,T,T,T,T,F,F,F,F,F,F,F,F,F]
abbrev laws_FnMinsSet.m13 : Array Bool := #[T,T,T,T,T,T,T,T,T,T,T,T,T,F,F,F,F,F,F,F,F]
abbrev laws_FnMinsSet.m14 : Array Bool := #[T,T,T,T,T,T,T,T,T,T,T,T,T,T,F,F,F,F,F,F,F]
abbrev laws_FnMinsSet.m15 : Array Bool := #[T,T,T,T,T,T,T,T,T,T,T,T,T,T,T,F,F,F,F,F,F]
abbrev laws_FnMinsSet.m16 : Array Bool := #[T,T,T,T,T,T,T,T,T,T,T,T,T,T,T,T,F,F,F,F,F]
abbrev laws_FnMinsSet.m17 : Array Bool := #[T,T,T,T,T,T,T,T,T,T,T,T,T,T,T,T,T,F,F,F,F]
abbrev laws_FnMinsSet.m18 : Array Bool := #[T,T,T,T,T,T,T,T,T,T,T,T,T,T,T,T,T,T,F,F,F]
abbrev laws_FnMinsSet.m19 : Array Bool := #[T,T,T,T,T,T,T,T,T,T,T,T,T,T,T,T,T,T,T,F,F]
abbrev laws_FnMinsSet.m20 : Array Bool := #[T,T,T,T,T,T,T,T,T,T,T,T,T,T,T,T,T,T,T,T,F]
abbrev laws_FnMinsSet.m21 : Array Bool := #[T,T,T,T,T,T,T,T,T,T,T,T,T,T,T,T,T,T,T,T,T]
abbrev laws_FnMinsSet.m22 : Array Bool := #[T,T,T,T,T,T,F,T,F,F,F,F,F,F,F,F,F,F,F,F,F]
abbrev laws_FnMinsSet.m23 : Array Bool := #[T,T,T,T,T,T,F,T,F,F,F,T,F,F,F,F,F,F,F,F,F]
abbrev laws_FnMinsSet.m24 : Array Bool := #[T,T,T,T,T,T,T,T,F,F,F,T,F,F,F,F,F,F,F,F,F]
abbrev laws_FnMinsSet.m25 : Array Bool := #[T,T,T,T,T,T,T,T,T,F,F,T,F,F,F,F,F,F,F,F,F]
abbrev laws_FnMinsSet.m26 : Array Bool := #[T,T,T,T,T,T,T,T,T,F,T,T,F,F,F,F,F,F,F,F,F]
abbrev laws_FnMinsSet.m27 : Array Bool := #[T,T,T,T,T,T,T,T,T,F,T,T,T,F,F,F,F,F,F,F,F]
set_option maxHeartbeats 8000000 in
set_option maxRecDepth 100000 in
theorem laws_FnMinsSet.calls (k : Nat) (A0 : Option Addr) (c0 : Nat) (l0 : List Int) (r : Bool) (w : World) (hr0 : Kd.C (Kd.int .u8) w A0 l0.length l0) (hc0 : l0.length ≤ c0) (h : laws_FnMinsSet.f k l0 = some r) :
  Calls Try.prog 9 #[.slice A0 l0.length c0] w fun e w' => e = .returned (.bool r) ∧ Below w.heap.size w w' := by
 have hu24:=Try.underlying24
 have HR0:=mk0 hr0
 have HC0:=mk0 hc0
 clear hr0 hc0
 have HB:=mk0 (Below.refl w.heap.size w)
 have H:((laws_big.f l0).bind fun t388=>(if t388 = true then (some true) else ((spec_DrawMinsSet.f k l0).bind fun bt389=>((spec_MinsSet.f k bt389.1 bt389.2.1 bt389.2.2.1 bt389.2.2.2).bind fun bt396=>((impl_MinsSet.f k bt389.1 bt389.2.1 bt389.2.2.1 bt389.2.2.2).bind fun bt402=>(if (bt402.2.2 != bt396.2.2) = true then (laws_FnMinsSet.j0 k bt389.2.2.1 bt389.2.2.2 bt396.2.2 bt402.2.2 true bt389.1 bt389.2.1 bt402.1 bt402.2.1) else (laws_FnMinsSet.j0 k bt389.2.2.1 bt389.2.2.2 bt396.2.2 bt402.2.2 (!bt402.2.2) bt389.1 bt389.2.1 bt402.1 bt402.2.1))))))) = some r:=h
 clear h
 replace H:=Option.bind_eq_some_iff.mp H
 obtain⟨t388,A20,H⟩:=H
 replace H:(if t388 = true then (some true) else ((spec_DrawMinsSet.f k l0).bind fun bt389=>((spec_MinsSet.f k bt389.1 bt389.2.1 bt389.2.2.1 bt389.2.2.2).bind fun bt396=>((impl_MinsSet.f k bt389.1 bt389.2.1 bt389.2.2.1 bt389.2.2.2).bind fun bt402=>(if (bt402.2.2 != bt396.2.2) = true then (laws_FnMinsSet.j0 k bt389.2.2.1 bt389.2.2.2 bt396.2.2 bt402.2.2 true bt389.1 bt389.2.1 bt402.1 bt402.2.1) else (laws_FnMinsSet.j0 k bt389.2.2.1 bt389.2.2.2 bt396.2.2 bt402.2.2 (!bt402.2.2) bt389.1 bt389.2.1 bt402.1 bt402.2.1)))))) = some r:=H
 have A2:=mk0 A20
 clear A20
 by_cases c3:t388 = true
 ·subst c3
  have H1:(some true) = some r:=by rw [if_pos rfl] at H;exact H
  clear H
  have H:=H1
  clear H1
  obtain rfl:=Option.some.inj H
  go_enter Try.func9,Try.ntmps9
  go_wp2_with (first|((with_reducible refine gate_callee (f:=32) rfl ?_);refine goesL_ (some 14) rfl rfl Try.func32 (by kernel_rfl) rfl #[.slice A0 l0.length c0] rfl (by (try simp only [mA,mC,mN]);first|done|rfl|(simp only [List.length_drop,List.length_take];rfl)) ?_;(with_reducible refine (laws_big.calls _ _ l0 true _ ?side1 ?side2 A2.out).mono ?_);(case side1=>repeat (first|exact HR0.out|(with_reducible first|apply aC|apply nC|apply dC)));(case side2=>exact HC0.out);rintro e w' ⟨rfl,⟨nd,rfl⟩⟩;refine⟨_,rfl,?_⟩))
  go_ret
  exact⟨by first|rfl|(simp [errW_none,errW_some] <;> rfl)|(simp [*,errW_none,errW_some] <;> rfl),by repeat (first|(with_reducible first|exact HB.out|apply aZ|apply nZ|apply dZ)|exact HB.out)⟩
 replace c3:=Bool.eq_false_iff.mpr c3
 subst c3
 have H1:((spec_DrawMinsSet.f k l0).bind fun bt389=>((spec_MinsSet.f k bt389.1 bt389.2.1 bt389.2.2.1 bt389.2.2.2).bind fun bt396=>((impl_MinsSet.f k bt389.1 bt389.2.1 bt389.2.2.1 bt389.2.2.2).bind fun bt402=>(if (bt402.2.2 != bt396.2.2) = true then (laws_FnMinsSet.j0 k bt389.2.2.1 bt389.2.2.2 bt396.2.2 bt402.2.2 true bt389.1 bt389.2.1 bt402.1 bt402.2.1) else (laws_FnMinsSet.j0 k bt389.2.2.1 bt389.2.2.2 bt396.2.2 bt402.2.2 (!bt402.2.2) bt389.1 bt389.2.1 bt402.1 bt402.2.1))))) = some r:=by rw [if_neg (show ¬ (false = true) by decide)] at H;exact H
 clear H
 have H:=H1
 clear H1
 replace H:=Option.bind_eq_some_iff.mp H
 obtain⟨⟨t389,t390,t393,t394⟩,A40,H⟩:=H
 replace H:((spec_MinsSet.f k t389 t390 t393 t394).bind fun bt396=>((impl_MinsSet.f k t389 t390 t393 t394).bind fun bt402=>(if (bt402.2.2 != bt396.2.2) = true then (laws_FnMinsSet.j0 k t393 t394 bt396.2.2 bt402.2.2 true t389 t390 bt402.1 bt402.2.1) else (laws_FnMinsSet.j0 k t393 t394 bt396.2.2 bt402.2.2 (!bt402.2.2) t389 t390 bt402.1 bt402.2.1)))) = some r:=H
 have A4:=mk0 A40
 clear A40
 replace H:=Option.bind_eq_some_iff.mp H
 obtain⟨⟨t396,t397,t400⟩,A50,H⟩:=H
 replace H:((impl_MinsSet.f k t389 t390 t393 t394).bind fun bt402=>(if (bt402.2.2 != t400) = true then (laws_FnMinsSet.j0 k t393 t394 t400 bt402.2.2 true t389 t390 bt402.1 bt402.2.1) else (laws_FnMinsSet.j0 k t393 t394 t400 bt402.2.2 (!bt402.2.2) t389 t390 bt402.1 bt402.2.1))) = some r:=H
 have A5:=mk0 A50
 clear A50
 replace H:=Option.bind_eq_some_iff.mp H
 obtain⟨⟨t402,t403,t406⟩,A60,H⟩:=H
 replace H:(if (t406 != t400) = true then (laws_FnMinsSet.j0 k t393 t394 t400 t406 true t389 t390 t402 t403) else (laws_FnMinsSet.j0 k t393 t394 t400 t406 (!t406) t389 t390 t402 t403)) = some r:=H
 have A6:=mk0 A60
 clear A60
 have HC7:=mk0 H
 clear H
 go_enter Try.func9,Try.ntmps9
 go_upto_region 6 with (first|((with_reducible refine gate_callee (f:=32) rfl ?_);refine goesL_ (some 14) rfl rfl Try.func32 (by kernel_rfl) rfl #[.slice A0 l0.length c0] rfl (by (try simp only [mA,mC,mN]);first|done|rfl|(simp only [List.length_drop,List.length_take];rfl)) ?_;(with_reducible refine (laws_big.calls _ _ l0 false _ ?side1 ?side2 A2.out).mono ?_);(case side1=>repeat (first|exact HR0.out|(with_reducible first|apply aC|apply nC|apply dC)));(case side2=>exact HC0.out);rintro e w' ⟨rfl,⟨nd,rfl⟩⟩;refine⟨_,rfl,?_⟩)|((with_reducible refine gate_callee (f:=33) rfl ?_);refine goesL_ (some 17) rfl rfl Try.func33 (by kernel_rfl) rfl #[.slice A0 l0.length c0] rfl (by (try simp only [mA,mC,mN]);first|done|rfl|(simp only [List.length_drop,List.length_take];rfl)) ?_;(with_reducible refine (spec_DrawMinsSet.calls k _ _ l0 t389 t390 t393 t394 _ ?side1 ?side2 A4.out).mono ?_);(case side1=>repeat (first|exact HR0.out|(with_reducible first|apply aC|apply nC|apply dC)));(case side2=>exact HC0.out);rintro e w8 ⟨v391,rfl,ho0,hb⟩;refine⟨_,rfl,?_⟩;have n0_:=mk0 (Kd.R_lower ho0 (below_size (by repeat (first|(with_reducible first|exact HB.out|apply aZ|apply nZ|apply dZ)|exact HB.out))));have n1_:=mk0 (below_step (by repeat (first|(with_reducible first|exact HB.out|apply aZ|apply nZ|apply dZ)|exact HB.out)) hb);clear HB;have HO392:=n0_;have HB:=n1_;clear n0_ n1_;(try clear hb);(try clear hb2);(try clear hk);(try clear hi);(try clear ho0))|((with_reducible refine gate_dst (N:=3) rfl ?_);refine box_event ?hg (N:=3) ?hd (cs:=#[.int .i64 0,.slice none 0 0]) (t:=24) ?hr ?_;(case hd=>rfl);(case hg=>rfl);(case hr=>first|(go_simp;done)|(go_simp;rfl));intro gb395 hg w9 hbox hb;have n0_:=mk0 (Kd.R_below (by (with_reducible repeat (first|apply aR|apply nR|apply dR));exact HO392.out) hb);have n1_:=mk0 (below_step (by repeat (first|(with_reducible first|exact HB.out|apply aZ|apply nZ|apply dZ)|exact HB.out)) hb);have n2_:=mk0 (hbox);have n3_:=mk0 ((by rw [hg];exact (below_size (by repeat (first|(with_reducible first|exact HB.out|apply aZ|apply nZ|apply dZ)|exact HB.out))):w.heap.size ≤ gb395));have n4_:=mk0 ((by rw [hg];exact (below_size (by repeat (first|(with_reducible first|exact HB.out|apply aZ|apply nZ|apply dZ)|exact HB.out))):w.heap.size ≤ gb395));clear HO392 HB;have HO392:=n0_;have HB:=n1_;have BK395:=n2_;have GW395:=n3_;have GE395:=n4_;clear n0_ n1_ n2_ n3_ n4_ hb hbox hg;have hcz10_0:w9.cell? ⟨gb395,0,none⟩ = some (.int .i64 0):=(blk_cell BK395.out 0).trans rfl;have hcz10_1:w9.cell? ⟨gb395,1,none⟩ = some (.slice none 0 0):=(blk_cell BK395.out 1).trans rfl;have hfz10_0:=blk_frozen BK395.out 0;have hfz10_1:=blk_frozen BK395.out 1;obtain⟨Ao11,co11,eo11⟩:=Kd.R_slice HO392.out;subst eo11)|((with_reducible refine gate_callee (f:=30) rfl ?_);refine goesL_ (some 25) rfl rfl Try.func30 (by kernel_rfl) rfl #[.agg #[.int .i64 t389,.slice Ao11 t390.length co11],.int .i64 t393,.int .i64 t394] rfl (by (try simp only [mA,mC,mN]);first|done|rfl|(simp only [List.length_drop,List.length_take];rfl)) ?_;(with_reducible refine (spec_MinsSet.calls k t389 _ _ t390 t393 t394 t396 t397 t400 _ ?side1 ?side2 A5.out).mono ?_);(case side1=>refine (Kd.R_reads' (e:=3) (base:=w.heap.size) (ok:=fun k_=>True) (n:=t390.length) (c:=co11) ?_).2.2;exact (by (with_reducible repeat (first|apply aR|apply nR|apply dR));exact (Kd.R_mono (Kd.R_far (p:=⟨gb395,1,none⟩) (Kd.R_far (p:=⟨gb395,0,none⟩) (Kd.R_types HO392.out BK395.out (by decide)) (fun _ hk=>hk.2) (.int .i64 t389)) (fun _ hk=>hk.2) (.slice Ao11 t390.length co11)) (fun _ h_=>h_.1))));(case side2=>exact (Kd.R_reads' HO392.out).2.1);rintro e w12 ⟨v398,rfl,ho0,hb⟩;refine⟨_,rfl,?_⟩;have n0_:=mk0 (Kd.R_elder' (by (with_reducible repeat (first|apply aR|apply nR|apply dR));exact (Kd.R_mono (Kd.R_far (p:=⟨gb395,1,none⟩) (Kd.R_far (p:=⟨gb395,0,none⟩) (Kd.R_types HO392.out BK395.out (by decide)) (fun _ hk=>hk.2) (.int .i64 t389)) (fun _ hk=>hk.2) (.slice Ao11 t390.length co11)) (fun _ h_=>h_.1))) (Kd.R_base ho0) hb);have n1_:=mk0 (Kd.R_lower (Kd.R_new' ho0 (Kd.R_lt (by (with_reducible repeat (first|apply aR|apply nR|apply dR));exact (Kd.R_mono (Kd.R_far (p:=⟨gb395,1,none⟩) (Kd.R_far (p:=⟨gb395,0,none⟩) (Kd.R_types HO392.out BK395.out (by decide)) (fun _ hk=>hk.2) (.int .i64 t389)) (fun _ hk=>hk.2) (.slice Ao11 t390.length co11)) (fun _ h_=>h_.1))))) (below_size (by repeat (first|(with_reducible first|exact HB.out|apply aZ|apply nZ|apply dZ|refine sZ ?_ GE395.out)|exact HB.out))));have n2_:=mk0 (blk_below (g:=gb395) (o:=.cells #[.int .i64 t389,.slice Ao11 t390.length co11] 24 (0,0)) (by (with_reducible repeat (first|apply nB|apply dB|apply aB));refine blk_put (cs:=#[.int .i64 t389,.slice none 0 0]) ?_ 1 _ rfl;(with_reducible repeat (first|apply nB|apply dB|apply aB));refine blk_put (cs:=#[.int .i64 0,.slice none 0 0]) ?_ 0 _ rfl;(with_reducible repeat (first|apply nB|apply dB|apply aB));exact BK395.out) hb);have n3_:=mk0 (below_step (by repeat (first|(with_reducible first|exact HB.out|apply aZ|apply nZ|apply dZ|refine sZ ?_ GE395.out)|exact HB.out)) hb);clear HO392 BK395 HB;have HO392:=n0_;have HO399:=n1_;have BK395:=n2_;have HB:=n3_;clear n0_ n1_ n2_ n3_;(try clear hb);(try clear hb2);(try clear hk);(try clear hi);(try clear ho0))|((with_reducible refine gate_dst (N:=6) rfl ?_);refine box_event ?hg (N:=6) ?hd (cs:=#[.int .i64 0,.slice none 0 0]) (t:=24) ?hr ?_;(case hd=>rfl);(case hg=>rfl);(case hr=>first|(go_simp;done)|(go_simp;rfl));intro gb401 hg w13 hbox hb;have n0_:=mk0 (Kd.R_below (by (with_reducible repeat (first|apply aR|apply nR|apply dR));exact HO392.out) hb);have n1_:=mk0 (Kd.R_below (by (with_reducible repeat (first|apply aR|apply nR|apply dR));exact HO399.out) hb);have n2_:=mk0 (blk_below (g:=gb395) (o:=.cells #[.int .i64 t389,.slice Ao11 t390.length co11] 24 (0,0)) (by (with_reducible repeat (first|apply nB|apply dB|apply aB));exact BK395.out) hb);have n3_:=mk0 (below_step (by repeat (first|(with_reducible first|exact HB.out|apply aZ|apply nZ|apply dZ|refine sZ ?_ GE395.out)|exact HB.out)) hb);have n4_:=mk0 (hbox);have n5_:=mk0 ((by rw [hg];exact (below_size (by repeat (first|(with_reducible first|exact HB.out|apply aZ|apply nZ|apply dZ|refine sZ ?_ GE395.out)|exact HB.out))):w.heap.size ≤ gb401));have n6_:=mk0 ((by rw [hg];exact (below_size (by repeat (first|(with_reducible first|exact HB.out|apply aZ|apply nZ|apply dZ|refine sZ ?_ GE395.out)|exact HB.out))):w.heap.size ≤ gb401));have n7_:=mk0 ((by rw [hg];exact Nat.ne_of_lt (blk_lt (g:=gb395) (o:=.cells #[.int .i64 t389,.slice Ao11 t390.length co11] 24 (0,0)) (by (with_reducible repeat (first|apply nB|apply dB|apply aB));exact BK395.out)):gb395 ≠ gb401));have n8_:=mk0 ((by rw [hg];exact Nat.ne_of_gt (blk_lt (g:=gb395) (o:=.cells #[.int .i64 t389,.slice Ao11 t390.length co11] 24 (0,0)) (by (with_reducible repeat (first|apply nB|apply dB|apply aB));exact BK395.out)):gb401 ≠ gb395));clear HO392 HO399 BK395 HB;have HO392:=n0_;have HO399:=n1_;have BK395:=n2_;have HB:=n3_;have BK401:=n4_;have GW401:=n5_;have GE401:=n6_;have NB395_401:=n7_;have NB401_395:=n8_;clear n0_ n1_ n2_ n3_ n4_ n5_ n6_ n7_ n8_ hb hbox hg;have hnb14:=NB401_395.out;have hnc14:=NB395_401.out;have hcz15_0:w13.cell? ⟨gb401,0,none⟩ = some (.int .i64 0):=(blk_cell BK401.out 0).trans rfl;have hcz15_1:w13.cell? ⟨gb401,1,none⟩ = some (.slice none 0 0):=(blk_cell BK401.out 1).trans rfl;have hfz15_0:=blk_frozen BK401.out 0;have hfz15_1:=blk_frozen BK401.out 1;obtain⟨Ao16,co16,eo16⟩:=Kd.R_slice HO399.out;subst eo16;have hcz17_0:w13.cell? ⟨gb395,0,none⟩ = some (.int .i64 t389):=(blk_cell BK395.out 0).trans rfl;have hcz17_1:w13.cell? ⟨gb395,1,none⟩ = some (.slice Ao11 t390.length co11):=(blk_cell BK395.out 1).trans rfl;have hfz17_0:=blk_frozen BK395.out 0;have hfz17_1:=blk_frozen BK395.out 1)|((with_reducible refine gate_callee (f:=31) rfl ?_);refine goesL_ (some 32) rfl rfl Try.func31 (by kernel_rfl) rfl #[.agg #[.int .i64 t389,.slice Ao11 t390.length co11],.int .i64 t393,.int .i64 t394] rfl (by (try simp only [mA,mC,mN]);first|done|rfl|(simp only [List.length_drop,List.length_take];rfl)) ?_;(with_reducible refine (impl_MinsSet.calls k t389 _ _ t390 t393 t394 t402 t403 t406 _ ?side1 ?side2 A6.out).mono ?_);(case side1=>refine (Kd.R_reads' (e:=3) (base:=w.heap.size) (ok:=fun k_=>(True ∧ some k_ ≠ (.slice Ao16 t397.length co16:Value).ownBlock)) (n:=t390.length) (c:=co11) ?_).2.2;exact (by (with_reducible repeat (first|apply aR|apply nR|apply dR));exact (Kd.R_mono (Kd.R_far (p:=⟨gb401,1,none⟩) (Kd.R_far (p:=⟨gb401,0,none⟩) (Kd.R_types HO392.out BK401.out (by decide)) (fun _ hk=>hk.2) (.int .i64 t396)) (fun _ hk=>hk.2) (.slice Ao16 t397.length co16)) (fun _ h_=>h_.1))));(case side2=>exact (Kd.R_reads' HO392.out).2.1);rintro e w18 ⟨v404,rfl,ho0,hb⟩;refine⟨_,rfl,?_⟩;have n0_:=mk0 (Kd.R_elder' (by (with_reducible repeat (first|apply aR|apply nR|apply dR));exact (Kd.R_mono (Kd.R_far (p:=⟨gb401,1,none⟩) (Kd.R_far (p:=⟨gb401,0,none⟩) (Kd.R_types HO392.out BK401.out (by decide)) (fun _ hk=>hk.2) (.int .i64 t396)) (fun _ hk=>hk.2) (.slice Ao16 t397.length co16)) (fun _ h_=>h_.1))) (Kd.R_base ho0) hb);have n1_:=mk0 (Kd.R_elder' (by (with_reducible repeat (first|apply aR|apply nR|apply dR));exact (Kd.R_mono (Kd.R_far (p:=⟨gb401,1,none⟩) (Kd.R_far (p:=⟨gb401,0,none⟩) (Kd.R_types HO399.out BK401.out (by decide)) (fun _ hk=>hk.2) (.int .i64 t396)) (fun _ hk=>hk.2) (.slice Ao16 t397.length co16)) (fun _ h_=>h_.1))) (Kd.R_base ho0) hb);have n2_:=mk0 (Kd.R_lower (Kd.R_new' (Kd.R_new' ho0 (Kd.R_lt (by (with_reducible repeat (first|apply aR|apply nR|apply dR));exact (Kd.R_mono (Kd.R_far (p:=⟨gb401,1,none⟩) (Kd.R_far (p:=⟨gb401,0,none⟩) (Kd.R_types HO392.out BK401.out (by decide)) (fun _ hk=>hk.2) (.int .i64 t396)) (fun _ hk=>hk.2) (.slice Ao16 t397.length co16)) (fun _ h_=>h_.1))))) (Kd.R_lt (by (with_reducible repeat (first|apply aR|apply nR|apply dR));exact (Kd.R_mono (Kd.R_far (p:=⟨gb401,1,none⟩) (Kd.R_far (p:=⟨gb401,0,none⟩) (Kd.R_types HO399.out BK401.out (by decide)) (fun _ hk=>hk.2) (.int .i64 t396)) (fun _ hk=>hk.2) (.slice Ao16 t397.length co16)) (fun _ h_=>h_.1))))) (below_size (by repeat (first|(with_reducible first|exact HB.out|apply aZ|apply nZ|apply dZ|refine sZ ?_ GE395.out|refine sZ ?_ GE401.out)|exact HB.out))));have n3_:=mk0 (blk_below (g:=gb395) (o:=.cells #[.int .i64 t389,.slice Ao11 t390.length co11] 24 (0,0)) (by (with_reducible repeat (first|apply nB|apply dB|apply aB));refine blk_far ?_ NB395_401.out _;(with_reducible repeat (first|apply nB|apply dB|apply aB));refine blk_far ?_ NB395_401.out _;(with_reducible repeat (first|apply nB|apply dB|apply aB));exact BK395.out) hb);have n4_:=mk0 (blk_below (g:=gb401) (o:=.cells #[.int .i64 t396,.slice Ao16 t397.length co16] 24 (0,0)) (by (with_reducible repeat (first|apply nB|apply dB|apply aB));refine blk_put (cs:=#[.int .i64 t396,.slice none 0 0]) ?_ 1 _ rfl;(with_reducible repeat (first|apply nB|apply dB|apply aB));refine blk_put (cs:=#[.int .i64 0,.slice none 0 0]) ?_ 0 _ rfl;(with_reducible repeat (first|apply nB|apply dB|apply aB));exact BK401.out) hb);have n5_:=mk0 (below_step (by repeat (first|(with_reducible first|exact HB.out|apply aZ|apply nZ|apply dZ|refine sZ ?_ GE395.out|refine sZ ?_ GE401.out)|exact HB.out)) hb);clear HO392 HO399 BK395 BK401 HB;have HO392:=n0_;have HO399:=n1_;have HO405:=n2_;have BK395:=n3_;have BK401:=n4_;have HB:=n5_;clear n0_ n1_ n2_ n3_ n4_ n5_;(try clear hb);(try clear hb2);(try clear hk);(try clear hi);(try clear ho0))|((with_reducible refine gate_dst (N:=8) rfl ?_);refine box_event ?hg (N:=8) ?hd (cs:=#[.int .i64 0,.slice none 0 0]) (t:=24) ?hr ?_;(case hd=>rfl);(case hg=>rfl);(case hr=>first|(go_simp;done)|(go_simp;rfl));intro gb407 hg w19 hbox hb;have n0_:=mk0 (Kd.R_below (by (with_reducible repeat (first|apply aR|apply nR|apply dR));exact HO392.out) hb);have n1_:=mk0 (Kd.R_below (by (with_reducible repeat (first|apply aR|apply nR|apply dR));exact HO399.out) hb);have n2_:=mk0 (Kd.R_below (by (with_reducible repeat (first|apply aR|apply nR|apply dR));exact HO405.out) hb);have n3_:=mk0 (blk_below (g:=gb395) (o:=.cells #[.int .i64 t389,.slice Ao11 t390.length co11] 24 (0,0)) (by (with_reducible repeat (first|apply nB|apply dB|apply aB));exact BK395.out) hb);have n4_:=mk0 (blk_below (g:=gb401) (o:=.cells #[.int .i64 t396,.slice Ao16 t397.length co16] 24 (0,0)) (by (with_reducible repeat (first|apply nB|apply dB|apply aB));exact BK401.out) hb);have n5_:=mk0 (below_step (by repeat (first|(with_reducible first|exact HB.out|apply aZ|apply nZ|apply dZ|refine sZ ?_ GE395.out|refine sZ ?_ GE401.out)|exact HB.out)) hb);have n6_:=mk0 (hbox);have n7_:=mk0 ((by rw [hg];exact (below_size (by repeat (first|(with_reducible first|exact HB.out|apply aZ|apply nZ|apply dZ|refine sZ ?_ GE395.out|refine sZ ?_ GE401.out)|exact HB.out))):w.heap.size ≤ gb407));have n8_:=mk0 ((by rw [hg];exact (below_size (by repeat (first|(with_reducible first|exact HB.out|apply aZ|apply nZ|apply dZ|refine sZ ?_ GE395.out|refine sZ ?_ GE401.out)|exact HB.out))):w.heap.size ≤ gb407));have n9_:=mk0 ((by rw [hg];exact Nat.ne_of_lt (blk_lt (g:=gb395) (o:=.cells #[.int .i64 t389,.slice Ao11 t390.length co11] 24 (0,0)) (by (with_reducible repeat (first|apply nB|apply dB|apply aB));exact BK395.out)):gb395 ≠ gb407));have n10_:=mk0 ((by rw [hg];exact Nat.ne_of_gt (blk_lt (g:=gb395) (o:=.cells #[.int .i64 t389,.slice Ao11 t390.length co11] 24 (0,0)) (by (with_reducible repeat (first|apply nB|apply dB|apply aB));exact BK395.out)):gb407 ≠ gb395));have n11_:=mk0 ((by rw [hg];exact Nat.ne_of_lt (blk_lt (g:=gb401) (o:=.cells #[.int .i64 t396,.slice Ao16 t397.length co16] 24 (0,0)) (by (with_reducible repeat (first|apply nB|apply dB|apply aB));exact BK401.out)):gb401 ≠ gb407));have n12_:=mk0 ((by rw [hg];exact Nat.ne_of_gt (blk_lt (g:=gb401) (o:=.cells #[.int .i64 t396,.slice Ao16 t397.length co16] 24 (0,0)) (by (with_reducible repeat (first|apply nB|apply dB|apply aB));exact BK401.out)):gb407 ≠ gb401));clear HO392 HO399 HO405 BK395 BK401 HB;have HO392:=n0_;have HO399:=n1_;have HO405:=n2_;have BK395:=n3_;have BK401:=n4_;have HB:=n5_;have BK407:=n6_;have GW407:=n7_;have GE407:=n8_;have NB395_407:=n9_;have NB407_395:=n10_;have NB401_407:=n11_;have NB407_401:=n12_;clear n0_ n1_ n2_ n3_ n4_ n5_ n6_ n7_ n8_ n9_ n10_ n11_ n12_ hb hbox hg;have hnb20:=NB407_395.out;have hnc20:=NB395_407.out;have hnb21:=NB407_401.out;have hnc21:=NB401_407.out;have hcz22_0:w19.cell? ⟨gb407,0,none⟩ = some (.int .i64 0):=(blk_cell BK407.out 0).trans rfl;have hcz22_1:w19.cell? ⟨gb407,1,none⟩ = some (.slice none 0 0):=(blk_cell BK407.out 1).trans rfl;have hfz22_0:=blk_frozen BK407.out 0;have hfz22_1:=blk_frozen BK407.out 1;obtain⟨Ao23,co23,eo23⟩:=Kd.R_slice HO405.out;subst eo23))
 (try simp only [Act.put,sA,sO,sS])
 go_cut [41] (fun v41 wc=>∃ (kq:Nat) (x41_6:Bool),v41 = .bool x41_6 ∧ Aside0 (laws_FnMinsSet.j0 kq t393 t394 t400 t406 x41_6 t389 t390 t402 t403 = some r) ∧ Aside0 (kq ≤ k) ∧ Aside0 (Kd.R (Kd.int .i64) 3 wc w.heap.size (fun k_=>some k_ ≠ ((.slice Ao16 t397.length co16):Value).ownBlock ∧ some k_ ≠ ((.slice Ao23 t403.length co23):Value).ownBlock) (.slice Ao11 t390.length co11) t390) ∧ Aside0 (Kd.R (Kd.int .i64) 3 wc w.heap.size (fun k_=>some k_ ≠ ((.slice Ao11 t390.length co11):Value).ownBlock ∧ some k_ ≠ ((.slice Ao23 t403.length co23):Value).ownBlock) (.slice Ao16 t397.length co16) t397) ∧ Aside0 (Kd.R (Kd.int .i64) 3 wc w.heap.size (fun k_=>some k_ ≠ ((.slice Ao11 t390.length co11):Value).ownBlock ∧ some k_ ≠ ((.slice Ao16 t397.length co16):Value).ownBlock) (.slice Ao23 t403.length co23) t403) ∧ Aside0 (wc.heap[gb395]? = some (.cells #[.int .i64 t389,(.slice Ao11 t390.length co11)] 24 (0,0))) ∧ Aside0 (wc.heap[gb401]? = some (.cells #[.int .i64 t396,(.slice Ao16 t397.length co16)] 24 (0,0))) ∧ Aside0 (wc.heap[gb407]? = some (.cells #[.int .i64 t402,(.slice Ao23 t403.length co23)] 24 (0,0))) ∧ Aside0 (Below w.heap.size w wc))
 case first =>
  have H:=HC7.out
  clear HC7
  by_cases c24:(t406 != t400) = true
  rotate_left
  ·rw [if_neg c24] at H
   have c24b0:(t406 != t400) = false:=by simpa using c24
   (try (have c24b1:decide (t406 = t400) = true:=by simpa using c24))
   (try (have c24b2:(t406 == t400) = true:=by simpa using c24))
   clear c24
   (first|rw [c24b0]|(simp only [i64_w,i32_w];rw [c24b0])|skip)
   have H':=mk0 H
   clear H
   go_wp2
   go_meet
   case rel=>exact⟨_,(!t406),(by first|rfl|(simp;done)|(simp [*];done)),H',⟨by first|omega|exact Nat.le_refl _⟩,⟨by (with_reducible repeat (first|apply aR|apply nR|apply dR));exact Kd.R_mono (Kd.R_far (p:=⟨gb407,1,none⟩) (Kd.R_far (p:=⟨gb407,0,none⟩) (Kd.R_types HO392.out BK407.out (by decide)) (fun _ hk=>hk.2) (.int .i64 t402)) (fun _ hk=>hk.2) (.slice Ao23 t403.length co23)) (fun _ hk=>⟨hk.1.1.2,hk.1.2⟩)⟩,⟨by (with_reducible repeat (first|apply aR|apply nR|apply dR));exact Kd.R_mono (Kd.R_far (p:=⟨gb407,1,none⟩) (Kd.R_far (p:=⟨gb407,0,none⟩) (Kd.R_types HO399.out BK407.out (by decide)) (fun _ hk=>hk.2) (.int .i64 t402)) (fun _ hk=>hk.2) (.slice Ao23 t403.length co23)) (fun _ hk=>⟨hk.1.1.2,hk.1.2⟩)⟩,⟨by (with_reducible repeat (first|apply aR|apply nR|apply dR));exact Kd.R_mono (Kd.R_far (p:=⟨gb407,1,none⟩) (Kd.R_far (p:=⟨gb407,0,none⟩) (Kd.R_types HO405.out BK407.out (by decide)) (fun _ hk=>hk.2) (.int .i64 t402)) (fun _ hk=>hk.2) (.slice Ao23 t403.length co23)) (fun _ hk=>⟨hk.1.1.2,hk.1.2⟩)⟩,⟨by (with_reducible repeat (first|apply nB|apply dB|apply aB));refine blk_far ?_ NB395_407.out _;(with_reducible repeat (first|apply nB|apply dB|apply aB));refine blk_far ?_ NB395_407.out _;(with_reducible repeat (first|apply nB|apply dB|apply aB));exact BK395.out⟩,⟨by (with_reducible repeat (first|apply nB|apply dB|apply aB));refine blk_far ?_ NB401_407.out _;(with_reducible repeat (first|apply nB|apply dB|apply aB));refine blk_far ?_ NB401_407.out _;(with_reducible repeat (first|apply nB|apply dB|apply aB));exact BK401.out⟩,⟨by (with_reducible repeat (first|apply nB|apply dB|apply aB));refine blk_put (cs:=#[.int .i64 t402,.slice none 0 0]) ?_ 1 _ rfl;(with_reducible repeat (first|apply nB|apply dB|apply aB));refine blk_put (cs:=#[.int .i64 0,.slice none 0 0]) ?_ 0 _ rfl;(with_reducible repeat (first|apply nB|apply dB|apply aB));exact BK407.out⟩,⟨by repeat (first|(with_reducible first|exact HB.out|apply aZ|apply nZ|apply dZ|refine sZ ?_ GE395.out|refine sZ ?_ GE401.out|refine sZ ?_ GE407.out)|exact HB.out)⟩⟩
  rw [if_pos c24] at H
  have c24b0:(t406 != t400) = true:=c24
  (try (have c24b1:decide (t406 = t400) = false:=by simpa using c24))
  (try (have c24b2:(t406 == t400) = false:=by simpa using c24))
  (try (have c24b3:¬ (t406 = t400):=by simpa using c24))
  clear c24
  (first|rw [c24b0]|(simp only [i64_w,i32_w];rw [c24b0])|skip)
  have H':=mk0 H
  clear H
  go_wp2
  go_meet
  case rel=>exact⟨_,(true),(by first|rfl|(simp;done)|(simp [*];done)),H',⟨by first|omega|exact Nat.le_refl _⟩,⟨by (with_reducible repeat (first|apply aR|apply nR|apply dR));exact Kd.R_mono (Kd.R_far (p:=⟨gb407,1,none⟩) (Kd.R_far (p:=⟨gb407,0,none⟩) (Kd.R_types HO392.out BK407.out (by decide)) (fun _ hk=>hk.2) (.int .i64 t402)) (fun _ hk=>hk.2) (.slice Ao23 t403.length co23)) (fun _ hk=>⟨hk.1.1.2,hk.1.2⟩)⟩,⟨by (with_reducible repeat (first|apply aR|apply nR|apply dR));exact Kd.R_mono (Kd.R_far (p:=⟨gb407,1,none⟩) (Kd.R_far (p:=⟨gb407,0,none⟩) (Kd.R_types HO399.out BK407.out (by decide)) (fun _ hk=>hk.2) (.int .i64 t402)) (fun _ hk=>hk.2) (.slice Ao23 t403.length co23)) (fun _ hk=>⟨hk.1.1.2,hk.1.2⟩)⟩,⟨by (with_reducible repeat (first|apply aR|apply nR|apply dR));exact Kd.R_mono (Kd.R_far (p:=⟨gb407,1,none⟩) (Kd.R_far (p:=⟨gb407,0,none⟩) (Kd.R_types HO405.out BK407.out (by decide)) (fun _ hk=>hk.2) (.int .i64 t402)) (fun _ hk=>hk.2) (.slice Ao23 t403.length co23)) (fun _ hk=>⟨hk.1.1.2,hk.1.2⟩)⟩,⟨by (with_reducible repeat (first|apply nB|apply dB|apply aB));refine blk_far ?_ NB395_407.out _;(with_reducible repeat (first|apply nB|apply dB|apply aB));refine blk_far ?_ NB395_407.out _;(with_reducible repeat (first|apply nB|apply dB|apply aB));exact BK395.out⟩,⟨by (with_reducible repeat (first|apply nB|apply dB|apply aB));refine blk_far ?_ NB401_407.out _;(with_reducible repeat (first|apply nB|apply dB|apply aB));refine blk_far ?_ NB401_407.out _;(with_reducible repeat (first|apply nB|apply dB|apply aB));exact BK401.out⟩,⟨by (with_reducible repeat (first|apply nB|apply dB|apply aB));refine blk_put (cs:=#[.int .i64 t402,.slice none 0 0]) ?_ 1 _ rfl;(with_reducible repeat (first|apply nB|apply dB|apply aB));refine blk_put (cs:=#[.int .i64 0,.slice none 0 0]) ?_ 0 _ rfl;(with_reducible repeat (first|apply nB|apply dB|apply aB));exact BK407.out⟩,⟨by repeat (first|(with_reducible first|exact HB.out|apply aZ|apply nZ|apply dZ|refine sZ ?_ GE395.out|refine sZ ?_ GE401.out|refine sZ ?_ GE407.out)|exact HB.out)⟩⟩
 case rest =>
  clear HC7
  try clear c1
  try clear c2
  try clear p2
  try clear c3
  try clear c9
  try clear c14
  try clear c20
  try clear c21
  try clear c24
  try clear c24b0
  try clear c24b1
  try clear c24b2
  try clear hcz10_0
  try clear hcz10_1
  try clear hcz15_0
  try clear hcz15_1
  try clear hcz17_0
  try clear hcz17_1
  try clear hcz22_0
  try clear hcz22_1
  try clear hfz10_0
  try clear hfz10_1
  try clear hfz15_0
  try clear hfz15_1
  try clear hfz17_0
  try clear hfz17_1
  try clear hfz22_0
  try clear hfz22_1
  obtain⟨kq,x41_6,rfl,HA,HJ6,HO_396001,HO_402001,HO_408001,BK395,BK401,BK407,HB⟩:=hcut
  cases kq with
  | zero=>exact absurd HA.out (by simp [laws_FnMinsSet.j0])
  | succ kj6 =>
   have H:=HA.out
   clear HA
   simp only [laws_FnMinsSet.j0] at H
   by_cases c25:x41_6 = true
   ·subst c25
    have H1:(some (t406 == t400)) = some r:=by rw [if_pos rfl] at H;exact H
    clear H
    have H:=H1
    clear H1
    obtain rfl:=Option.some.inj H
    go_wp2
    go_ret
    exact⟨by first|rfl|(simp [errW_none,errW_some] <;> rfl)|(simp [*,errW_none,errW_some] <;> rfl),by repeat (first|(with_reducible first|exact HB.out|apply aZ|apply nZ|apply dZ|refine sZ ?_ GE395.out|refine sZ ?_ GE401.out|refine sZ ?_ GE407.out)|exact HB.out)⟩
   replace c25:=Bool.eq_false_iff.mpr c25
   subst c25
   have H1:((spec_MinsList.f kj6 t389 t390).bind fun t408=>(if 0 ≤ t393 then (if t393 < (t408.length:Int) then ((spec_MinsOf.f kj6 (t408.set (t393:Int).toNat t394)).bind fun bt412=>((laws_same.f kj6 t403 bt412.2.1).bind fun t418=>(if t418 = true then ((impl_MinsRange.f kj6 t402 t403 0 t389).bind fun t419=>((spec_MinsRange.f kj6 bt412.1 bt412.2.1 0 t389).bind fun t420=>(if t419 = t420 then ((impl_MinsOk.f kj6 t402 t403).bind fun t421=>(some t421)) else (some false)))) else (some false)))) else (none)) else (none))) = some r:=by rw [if_neg (show ¬ (false = true) by decide)] at H;exact H
   clear H
   have H:=H1
   clear H1
   replace H:=Option.bind_eq_some_iff.mp H
   obtain⟨t408,A260,H⟩:=H
   replace H:(if 0 ≤ t393 then (if t393 < (t408.length:Int) then ((spec_MinsOf.f kj6 (t408.set (t393:Int).toNat t394)).bind fun bt412=>((laws_same.f kj6 t403 bt412.2.1).bind fun t418=>(if t418 = true then ((impl_MinsRange.f kj6 t402 t403 0 t389).bind fun t419=>((spec_MinsRange.f kj6 bt412.1 bt412.2.1 0 t389).bind fun t420=>(if t419 = t420 then ((impl_MinsOk.f kj6 t402 t403).bind fun t421=>(some t421)) else (some false)))) else (some false)))) else (none)) else (none)) = some r:=H
   have A26:=mk0 A260
   clear A260
   by_cases c27:0 ≤ t393
   rotate_left
   ·rw [if_neg c27] at H
    exact absurd H (by simp)

   rw [if_pos c27] at H
   have c27b0:decide (0 ≤ t393) = true:=decide_eq_true c27
   clear c27
   by_cases c28:t393 < (t408.length:Int)
   rotate_left
   ·rw [if_neg c28] at H
    exact absurd H (by simp)
   rw [if_pos c28] at H
   have c28b0:decide (t393 < (t408.length:Int)) = true:=decide_eq_true c28
   clear c28
   obtain⟨y411,hy411⟩:∃ y_:List Int,y_ = (t408.set (t393:Int).toNat t394):=⟨_,rfl⟩
   replace H:((spec_MinsOf.f kj6 y411).bind fun bt412=>((laws_same.f kj6 t403 bt412.2.1).bind fun t418=>(if t418 = true then ((impl_MinsRange.f kj6 t402 t403 0 t389).bind fun t419=>((spec_MinsRange.f kj6 bt412.1 bt412.2.1 0 t389).bind fun t420=>(if t419 = t420 then ((impl_MinsOk.f kj6 t402 t403).bind fun t421=>(some t421)) else (some false)))) else (some false)))) = some r:=by first|(rw [hy411];with_reducible exact H)|(have H2_:=(Option.bind_some _ _).symm.trans H;rw [hy411];with_reducible exact H2_)|(have H2_:=(Option.bind_some _ _).symm.trans H;with_reducible exact H2_)|with_reducible exact H|(rw [hy411];exact H)|exact H
   have Ny411:=mk0 hy411
   clear hy411
   replace H:=Option.bind_eq_some_iff.mp H
   obtain⟨⟨t412,t413,t416⟩,A300,H⟩:=H
   replace H:((laws_same.f kj6 t403 t413).bind fun t418=>(if t418 = true then ((impl_MinsRange.f kj6 t402 t403 0 t389).bind fun t419=>((spec_MinsRange.f kj6 t412 t413 0 t389).bind fun t420=>(if t419 = t420 then ((impl_MinsOk.f kj6 t402 t403).bind fun t421=>(some t421)) else (some false)))) else (some false))) = some r:=H
   have A30:=mk0 A300
   clear A300
   replace H:=Option.bind_eq_some_iff.mp H
   obtain⟨t418,A310,H⟩:=H
   replace H:(if t418 = true then ((impl_MinsRange.f kj6 t402 t403 0 t389).bind fun t419=>((spec_MinsRange.f kj6 t412 t413 0 t389).bind fun t420=>(if t419 = t420 then ((impl_MinsOk.f kj6 t402 t403).bind fun t421=>(some t421)) else (some false)))) else (some false)) = some r:=H
   have A31:=mk0 A310
   clear A310
   by_cases c32:t418 = true
   rotate_left
   ·replace c32:=Bool.eq_false_iff.mpr c32
    subst c32
    have H1:(some false) = some r:=by rw [if_neg (show ¬ (false = true) by decide)] at H;exact H
    clear H
    have H:=H1
    clear H1
    obtain rfl:=Option.some.inj H
    have hnb72:=NB395_401.out
    have hnc72:=NB401_395.out
    have hnb73:=NB395_407.out
    have hnc73:=NB407_395.out
    have hcz74_0:wc.cell? ⟨gb395,0,none⟩ = some (.int .i64 t389):=(blk_cell BK395.out 0).trans rfl
    have hcz74_1:wc.cell? ⟨gb395,1,none⟩ = some (.slice Ao11 t390.length co11):=(blk_cell BK395.out 1).trans rfl
    have hfz74_0:=blk_frozen BK395.out 0
    have hfz74_1:=blk_frozen BK395.out 1
    try go_wp2_with (first|((with_reducible refine gate_callee (f:=27) rfl ?_);refine goesL_ (some 46) rfl rfl Try.func27 (by kernel_rfl) rfl #[.agg #[.int .i64 t389,.slice Ao11 t390.length co11]] rfl (by (try simp only [mA,mC,mN]);first|done|rfl|(simp only [List.length_drop,List.length_take];rfl)) ?_;(with_reducible refine (spec_MinsList.calls kj6 t389 _ _ t390 t408 _ ?side1 ?side2 A26.out).mono ?_);(case side1=>repeat (first|exact (Kd.R_reads' HO_396001.out).2.2|(with_reducible first|apply aC|apply nC|apply dC)));(case side2=>exact (Kd.R_reads' HO_396001.out).2.1);rintro e w75 ⟨v409,rfl,ho0,hb⟩;refine⟨_,rfl,?_⟩;have n0_:=mk0 (Kd.R_elder' (by (with_reducible repeat (first|apply aR|apply nR|apply dR));exact HO_396001.out) (Kd.R_base ho0) hb);have n1_:=mk0 (Kd.R_elder' (by (with_reducible repeat (first|apply aR|apply nR|apply dR));exact HO_402001.out) (Kd.R_base ho0) hb);have n2_:=mk0 (Kd.R_elder' (by (with_reducible repeat (first|apply aR|apply nR|apply dR));exact HO_408001.out) (Kd.R_base ho0) hb);have n3_:=mk0 (Kd.R_lower (Kd.R_new' (Kd.R_new' (Kd.R_new' ho0 (Kd.R_lt (by (with_reducible repeat (first|apply aR|apply nR|apply dR));exact HO_396001.out))) (Kd.R_lt (by (with_reducible repeat (first|apply aR|apply nR|apply dR));exact HO_402001.out))) (Kd.R_lt (by (with_reducible repeat (first|apply aR|apply nR|apply dR));exact HO_408001.out))) (below_size (by repeat (first|(with_reducible first|exact HB.out|apply aZ|apply nZ|apply dZ|refine sZ ?_ GE395.out|refine sZ ?_ GE401.out|refine sZ ?_ GE407.out)|exact HB.out))));have n4_:=mk0 (blk_below (g:=gb395) (o:=.cells #[.int .i64 t389,.slice Ao11 t390.length co11] 24 (0,0)) (by (with_reducible repeat (first|apply nB|apply dB|apply aB));exact BK395.out) hb);have n5_:=mk0 (blk_below (g:=gb401) (o:=.cells #[.int .i64 t396,.slice Ao16 t397.length co16] 24 (0,0)) (by (with_reducible repeat (first|apply nB|apply dB|apply aB));exact BK401.out) hb);have n6_:=mk0 (blk_below (g:=gb407) (o:=.cells #[.int .i64 t402,.slice Ao23 t403.length co23] 24 (0,0)) (by (with_reducible repeat (first|apply nB|apply dB|apply aB));exact BK407.out) hb);have n7_:=mk0 (below_step (by repeat (first|(with_reducible first|exact HB.out|apply aZ|apply nZ|apply dZ|refine sZ ?_ GE395.out|refine sZ ?_ GE401.out|refine sZ ?_ GE407.out)|exact HB.out)) hb);clear HO_396001 HO_402001 HO_408001 BK395 BK401 BK407 HB;have HO_396001:=n0_;have HO_402001:=n1_;have HO_408001:=n2_;have HO410:=n3_;have BK395:=n4_;have BK401:=n5_;have BK407:=n6_;have HB:=n7_;clear n0_ n1_ n2_ n3_ n4_ n5_ n6_ n7_;(try clear hb);(try clear hb2);(try clear hk);(try clear hi);(try clear ho0);have p29:0 ≤ (t393:Int):=of_decide_eq_true (by first|(with_reducible assumption)|assumption);have q29:(t393:Int) < ((t408.length:Int):Int):=of_decide_eq_true (by first|(with_reducible assumption)|assumption);obtain⟨go29,co29,eo29,gb29,gl29,cl29,HG29⟩:=Kd.R_form HO410.out (by omega);(first|cases eo29|(injection eo29 with ea_ en_ ec_;(first|subst ea_|(injection ea_ with ea_;subst ea_));subst ec_;clear en_));have GB29:=mk0 gb29;have GG29:=mk0 HG29;clear gb29 gl29 HG29;obtain⟨hx29_0,hf29_0⟩:=Kd.R_celln 0 HO410.out (t393:Int) p29 q29;replace p29:=eq_true p29;replace q29:=eq_true q29;have n_:=mk0 (Kd.R_mono (ok':=(fun k_=>some k_ ≠ (.slice Ao11 t390.length co11:Value).ownBlock ∧ some k_ ≠ (.slice Ao16 t397.length co16:Value).ownBlock ∧ some k_ ≠ (.slice Ao23 t403.length co23:Value).ownBlock)) HO410.out (fun k_ hk=>⟨hk.1.1.2,⟨hk.1.2,hk.2⟩⟩));clear HO410;have HO410:=n_;clear n_;obtain⟨hy76_,hz76_⟩:=Kd.R_celln 0 HO410.out (t393:Int) (of_decide_eq_true (by first|(with_reducible assumption)|assumption)) (of_decide_eq_true (by first|(with_reducible assumption)|assumption));have HP76:=Kd.R_putg HO410.out (t393:Int) t394)|((with_reducible refine gate_store (t:=3) (p:=50) rfl ?_);refine store_event (t:=3) (p:=50) (v:=?vo_w77) (w1:=(w75.setCell ⟨go29,(t393:Int).toNat,none⟩ (.int .i64 t394))) ?hg ?ho ?hn ?hr ?_;(case ho=>rfl);(case hg=>rfl);(case hn=>rfl);(case hr=>first|(go_simp;done)|(go_simp;rfl));intro w77 hw;have hg:w75.grownBy w77 (some go29):=(by rw [hw];exact HP76.2);have hp_:Kd.R (Kd.int .i64) 3 w77 w.heap.size (fun k_=>some k_ ≠ (.slice Ao11 t390.length co11:Value).ownBlock ∧ some k_ ≠ (.slice Ao16 t397.length co16:Value).ownBlock ∧ some k_ ≠ (.slice Ao23 t403.length co23:Value).ownBlock) (.slice (some ⟨go29,0,none⟩) t408.length co29) y411:=(by rw [hw,Ny411.out];exact HP76.1);clear HP76;have n0_:=mk0 (Kd.R_after (v:=(.slice (some ⟨go29,0,none⟩) t408.length co29)) (v1:=(.slice (some ⟨go29,0,none⟩) t408.length co29)) (ok:=(fun k_=>some k_ ≠ (.slice Ao16 t397.length co16:Value).ownBlock ∧ some k_ ≠ (.slice Ao23 t403.length co23:Value).ownBlock)) (by (with_reducible repeat (first|apply aR|apply nR|apply dR));exact HO_396001.out) hg (.inl rfl));have n1_:=mk0 (Kd.R_after (v:=(.slice (some ⟨go29,0,none⟩) t408.length co29)) (v1:=(.slice (some ⟨go29,0,none⟩) t408.length co29)) (ok:=(fun k_=>some k_ ≠ (.slice Ao11 t390.length co11:Value).ownBlock ∧ some k_ ≠ (.slice Ao23 t403.length co23:Value).ownBlock)) (by (with_reducible repeat (first|apply aR|apply nR|apply dR));exact HO_402001.out) hg (.inl rfl));have n2_:=mk0 (Kd.R_after (v:=(.slice (some ⟨go29,0,none⟩) t408.length co29)) (v1:=(.slice (some ⟨go29,0,none⟩) t408.length co29)) (ok:=(fun k_=>some k_ ≠ (.slice Ao11 t390.length co11:Value).ownBlock ∧ some k_ ≠ (.slice Ao16 t397.length co16:Value).ownBlock)) (by (with_reducible repeat (first|apply aR|apply nR|apply dR));exact HO_408001.out) hg (.inl rfl));have n3_:=mk0 (blk_grown (g:=gb395) (o:=.cells #[.int .i64 t389,.slice Ao11 t390.length co11] 24 (0,0)) (by (with_reducible repeat (first|apply nB|apply dB|apply aB));exact BK395.out) hg (Kd.R_ne HO410.out BK395.out (by decide)));have n4_:=mk0 (blk_grown (g:=gb401) (o:=.cells #[.int .i64 t396,.slice Ao16 t397.length co16] 24 (0,0)) (by (with_reducible repeat (first|apply nB|apply dB|apply aB));exact BK401.out) hg (Kd.R_ne HO410.out BK401.out (by decide)));have n5_:=mk0 (blk_grown (g:=gb407) (o:=.cells #[.int .i64 t402,.slice Ao23 t403.length co23] 24 (0,0)) (by (with_reducible repeat (first|apply nB|apply dB|apply aB));exact BK407.out) hg (Kd.R_ne HO410.out BK407.out (by decide)));have n6_:=mk0 (hp_);have n7_:=mk0 ((by rw [hw];exact sZ (HB.out) GB29.out:Below w.heap.size w w77));clear HO_396001 HO_402001 HO_408001 BK395 BK401 BK407 HO410 HB;have HO_396001:=n0_;have HO_402001:=n1_;have HO_408001:=n2_;have BK395:=n3_;have BK401:=n4_;have BK407:=n5_;have HO410:=n6_;have HB:=n7_;clear n0_ n1_ n2_ n3_ n4_ n5_ n6_ n7_ hg hw hp_)|((with_reducible refine gate_callee (f:=11) rfl ?_);refine goesL_ (some 53) rfl rfl Try.func11 (by kernel_rfl) rfl #[.slice (some ⟨go29,0,none⟩) y411.length co29] rfl (by (try simp only [mA,mC,mN]);first|done|(rw [show y411.length = t408.length from (Kd.R_reads' HO410.out).1.symm] <;> rfl)|rfl|(simp only [List.length_drop,List.length_take];rfl)) ?_;(with_reducible refine (spec_MinsOf.calls kj6 _ _ y411 t412 t413 t416 _ ?side1 ?side2 A30.out).mono ?_);(case side1=>repeat (first|exact (Kd.R_reads' HO410.out).2.2|(with_reducible first|apply aC|apply nC|apply dC)));(case side2=>rw [show y411.length = t408.length from (Kd.R_reads' HO410.out).1.symm];exact (Kd.R_reads' HO410.out).2.1);rintro e w78 ⟨v414,rfl,ho0,hb⟩;refine⟨_,rfl,?_⟩;have n0_:=mk0 (Kd.R_elder' (by (with_reducible repeat (first|apply aR|apply nR|apply dR));exact HO_396001.out) (Kd.R_base ho0) hb);have n1_:=mk0 (Kd.R_elder' (by (with_reducible repeat (first|apply aR|apply nR|apply dR));exact HO_402001.out) (Kd.R_base ho0) hb);have n2_:=mk0 (Kd.R_elder' (by (with_reducible repeat (first|apply aR|apply nR|apply dR));exact HO_408001.out) (Kd.R_base ho0) hb);have n3_:=mk0 (Kd.R_elder' (by (with_reducible repeat (first|apply aR|apply nR|apply dR));exact HO410.out) (Kd.R_base ho0) hb);have n4_:=mk0 (Kd.R_lower (Kd.R_new' (Kd.R_new' (Kd.R_new' (Kd.R_new' ho0 (Kd.R_lt (by (with_reducible repeat (first|apply aR|apply nR|apply dR));exact HO_396001.out))) (Kd.R_lt (by (with_reducible repeat (first|apply aR|apply nR|apply dR));exact HO_402001.out))) (Kd.R_lt (by (with_reducible repeat (first|apply aR|apply nR|apply dR));exact HO_408001.out))) (Kd.R_lt (by (with_reducible repeat (first|apply aR|apply nR|apply dR));exact HO410.out))) (below_size (by repeat (first|(with_reducible first|exact HB.out|apply aZ|apply nZ|apply dZ|refine sZ ?_ GE395.out|refine sZ ?_ GE401.out|refine sZ ?_ GE407.out)|exact HB.out))));have n5_:=mk0 (blk_below (g:=gb395) (o:=.cells #[.int .i64 t389,.slice Ao11 t390.length co11] 24 (0,0)) (by (with_reducible repeat (first|apply nB|apply dB|apply aB));exact BK395.out) hb);have n6_:=mk0 (blk_below (g:=gb401) (o:=.cells #[.int .i64 t396,.slice Ao16 t397.length co16] 24 (0,0)) (by (with_reducible repeat (first|apply nB|apply dB|apply aB));exact BK401.out) hb);have n7_:=mk0 (blk_below (g:=gb407) (o:=.cells #[.int .i64 t402,.slice Ao23 t403.length co23] 24 (0,0)) (by (with_reducible repeat (first|apply nB|apply dB|apply aB));exact BK407.out) hb);have n8_:=mk0 (below_step (by repeat (first|(with_reducible first|exact HB.out|apply aZ|apply nZ|apply dZ|refine sZ ?_ GE395.out|refine sZ ?_ GE401.out|refine sZ ?_ GE407.out)|exact HB.out)) hb);clear HO_396001 HO_402001 HO_408001 HO410 BK395 BK401 BK407 HB;have HO_396001:=n0_;have HO_402001:=n1_;have HO_408001:=n2_;have HO410:=n3_;have HO415:=n4_;have BK395:=n5_;have BK401:=n6_;have BK407:=n7_;have HB:=n8_;clear n0_ n1_ n2_ n3_ n4_ n5_ n6_ n7_ n8_;(try clear hb);(try clear hb2);(try clear hk);(try clear hi);(try clear ho0))|((with_reducible refine gate_dst (N:=11) rfl ?_);refine box_event ?hg (N:=11) ?hd (cs:=#[.int .i64 0,.slice none 0 0]) (t:=24) ?hr ?_;(case hd=>rfl);(case hg=>rfl);(case hr=>first|(go_simp;done)|(go_simp;rfl));intro gb417 hg w79 hbox hb;have n0_:=mk0 (Kd.R_below (by (with_reducible repeat (first|apply aR|apply nR|apply dR));exact HO_396001.out) hb);have n1_:=mk0 (Kd.R_below (by (with_reducible repeat (first|apply aR|apply nR|apply dR));exact HO_402001.out) hb);have n2_:=mk0 (Kd.R_below (by (with_reducible repeat (first|apply aR|apply nR|apply dR));exact HO_408001.out) hb);have n3_:=mk0 (Kd.R_below (by (with_reducible repeat (first|apply aR|apply nR|apply dR));exact HO410.out) hb);have n4_:=mk0 (Kd.R_below (by (with_reducible repeat (first|apply aR|apply nR|apply dR));exact HO415.out) hb);have n5_:=mk0 (blk_below (g:=gb395) (o:=.cells #[.int .i64 t389,.slice Ao11 t390.length co11] 24 (0,0)) (by (with_reducible repeat (first|apply nB|apply dB|apply aB));exact BK395.out) hb);have n6_:=mk0 (blk_below (g:=gb401) (o:=.cells #[.int .i64 t396,.slice Ao16 t397.length co16] 24 (0,0)) (by (with_reducible repeat (first|apply nB|apply dB|apply aB));exact BK401.out) hb);have n7_:=mk0 (blk_below (g:=gb407) (o:=.cells #[.int .i64 t402,.slice Ao23 t403.length co23] 24 (0,0)) (by (with_reducible repeat (first|apply nB|apply dB|apply aB));exact BK407.out) hb);have n8_:=mk0 (below_step (by repeat (first|(with_reducible first|exact HB.out|apply aZ|apply nZ|apply dZ|refine sZ ?_ GE395.out|refine sZ ?_ GE401.out|refine sZ ?_ GE407.out)|exact HB.out)) hb);have n9_:=mk0 (hbox);have n10_:=mk0 ((by rw [hg];exact (below_size (by repeat (first|(with_reducible first|exact HB.out|apply aZ|apply nZ|apply dZ|refine sZ ?_ GE395.out|refine sZ ?_ GE401.out|refine sZ ?_ GE407.out)|exact HB.out))):w.heap.size ≤ gb417));have n11_:=mk0 ((by rw [hg];exact (below_size (by repeat (first|(with_reducible first|exact HB.out|apply aZ|apply nZ|apply dZ|refine sZ ?_ GE395.out|refine sZ ?_ GE401.out|refine sZ ?_ GE407.out)|exact HB.out))):w.heap.size ≤ gb417));have n12_:=mk0 ((by rw [hg];exact Nat.ne_of_lt (blk_lt (g:=gb395) (o:=.cells #[.int .i64 t389,.slice Ao11 t390.length co11] 24 (0,0)) (by (with_reducible repeat (first|apply nB|apply dB|apply aB));exact BK395.out)):gb395 ≠ gb417));have n13_:=mk0 ((by rw [hg];exact Nat.ne_of_gt (blk_lt (g:=gb395) (o:=.cells #[.int .i64 t389,.slice Ao11 t390.length co11] 24 (0,0)) (by (with_reducible repeat (first|apply nB|apply dB|apply aB));exact BK395.out)):gb417 ≠ gb395));have n14_:=mk0 ((by rw [hg];exact Nat.ne_of_lt (blk_lt (g:=gb401) (o:=.cells #[.int .i64 t396,.slice Ao16 t397.length co16] 24 (0,0)) (by (with_reducible repeat (first|apply nB|apply dB|apply aB));exact BK401.out)):gb401 ≠ gb417));have n15_:=mk0 ((by rw [hg];exact Nat.ne_of_gt (blk_lt (g:=gb401) (o:=.cells #[.int .i64 t396,.slice Ao16 t397.length co16] 24 (0,0)) (by (with_reducible repeat (first|apply nB|apply dB|apply aB));exact BK401.out)):gb417 ≠ gb401));have n16_:=mk0 ((by rw [hg];exact Nat.ne_of_lt (blk_lt (g:=gb407) (o:=.cells #[.int .i64 t402,.slice Ao23 t403.length co23] 24 (0,0)) (by (with_reducible repeat (first|apply nB|apply dB|apply aB));exact BK407.out)):gb407 ≠ gb417));have n17_:=mk0 ((by rw [hg];exact Nat.ne_of_gt (blk_lt (g:=gb407) (o:=.cells #[.int .i64 t402,.slice Ao23 t403.length co23] 24 (0,0)) (by (with_reducible repeat (first|apply nB|apply dB|apply aB));exact BK407.out)):gb417 ≠ gb407));clear HO_396001 HO_402001 HO_408001 HO410 HO415 BK395 BK401 BK407 HB;have HO_396001:=n0_;have HO_402001:=n1_;have HO_408001:=n2_;have HO410:=n3_;have HO415:=n4_;have BK395:=n5_;have BK401:=n6_;have BK407:=n7_;have HB:=n8_;have BK417:=n9_;have GW417:=n10_;have GE417:=n11_;have NB395_417:=n12_;have NB417_395:=n13_;have NB401_417:=n14_;have NB417_401:=n15_;have NB407_417:=n16_;have NB417_407:=n17_;clear n0_ n1_ n2_ n3_ n4_ n5_ n6_ n7_ n8_ n9_ n10_ n11_ n12_ n13_ n14_ n15_ n16_ n17_ hb hbox hg;have hnb80:=NB417_395.out;have hnc80:=NB395_417.out;have hnb81:=NB417_401.out;have hnc81:=NB401_417.out;have hnb82:=NB417_407.out;have hnc82:=NB407_417.out;have hcz83_0:w79.cell? ⟨gb417,0,none⟩ = some (.int .i64 0):=(blk_cell BK417.out 0).trans rfl;have hcz83_1:w79.cell? ⟨gb417,1,none⟩ = some (.slice none 0 0):=(blk_cell BK417.out 1).trans rfl;have hfz83_0:=blk_frozen BK417.out 0;have hfz83_1:=blk_frozen BK417.out 1;obtain⟨Ao84,co84,eo84⟩:=Kd.R_slice HO415.out;subst eo84))
    have n0_:Aside0 (Kd.R (Kd.int .i64) 3 ((w79.setCell ⟨gb417,0,none⟩ (.int .i64 t412)).setCell ⟨gb417,1,none⟩ (.slice Ao84 t413.length co84)) w.heap.size (fun k_=>some k_ ≠ (.slice Ao16 t397.length co16:Value).ownBlock ∧ some k_ ≠ (.slice Ao23 t403.length co23:Value).ownBlock ∧ some k_ ≠ (.slice (some ⟨go29,0,none⟩) t408.length co29:Value).ownBlock ∧ some k_ ≠ (.slice Ao84 t413.length co84:Value).ownBlock) (.slice Ao11 t390.length co11) t390):=⟨by (with_reducible repeat (first|apply aR|apply nR|apply dR));exact Kd.R_mono (Kd.R_far (p:=⟨gb417,1,none⟩) (Kd.R_far (p:=⟨gb417,0,none⟩) (Kd.R_types HO_396001.out BK417.out (by decide)) (fun _ hk=>hk.2) (.int .i64 t412)) (fun _ hk=>hk.2) (.slice Ao84 t413.length co84)) (fun _ hk=>⟨hk.1.1.1.1,⟨hk.1.1.1.2,⟨hk.1.1.2,hk.1.2⟩⟩⟩)⟩
    have n1_:Aside0 (Kd.R (Kd.int .i64) 3 ((w79.setCell ⟨gb417,0,none⟩ (.int .i64 t412)).setCell ⟨gb417,1,none⟩ (.slice Ao84 t413.length co84)) w.heap.size (fun k_=>some k_ ≠ (.slice Ao11 t390.length co11:Value).ownBlock ∧ some k_ ≠ (.slice Ao23 t403.length co23:Value).ownBlock ∧ some k_ ≠ (.slice (some ⟨go29,0,none⟩) t408.length co29:Value).ownBlock ∧ some k_ ≠ (.slice Ao84 t413.length co84:Value).ownBlock) (.slice Ao16 t397.length co16) t397):=⟨by (with_reducible repeat (first|apply aR|apply nR|apply dR));exact Kd.R_mono (Kd.R_far (p:=⟨gb417,1,none⟩) (Kd.R_far (p:=⟨gb417,0,none⟩) (Kd.R_types HO_402001.out BK417.out (by decide)) (fun _ hk=>hk.2) (.int .i64 t412)) (fun _ hk=>hk.2) (.slice Ao84 t413.length co84)) (fun _ hk=>⟨hk.1.1.1.1,⟨hk.1.1.1.2,⟨hk.1.1.2,hk.1.2⟩⟩⟩)⟩
    have n2_:Aside0 (Kd.R (Kd.int .i64) 3 ((w79.setCell ⟨gb417,0,none⟩ (.int .i64 t412)).setCell ⟨gb417,1,none⟩ (.slice Ao84 t413.length co84)) w.heap.size (fun k_=>some k_ ≠ (.slice Ao11 t390.length co11:Value).ownBlock ∧ some k_ ≠ (.slice Ao16 t397.length co16:Value).ownBlock ∧ some k_ ≠ (.slice (some ⟨go29,0,none⟩) t408.length co29:Value).ownBlock ∧ some k_ ≠ (.slice Ao84 t413.length co84:Value).ownBlock) (.slice Ao23 t403.length co23) t403):=⟨by (with_reducible repeat (first|apply aR|apply nR|apply dR));exact Kd.R_mono (Kd.R_far (p:=⟨gb417,1,none⟩) (Kd.R_far (p:=⟨gb417,0,none⟩) (Kd.R_types HO_408001.out BK417.out (by decide)) (fun _ hk=>hk.2) (.int .i64 t412)) (fun _ hk=>hk.2) (.slice Ao84 t413.length co84)) (fun _ hk=>⟨hk.1.1.1.1,⟨hk.1.1.1.2,⟨hk.1.1.2,hk.1.2⟩⟩⟩)⟩
    have n3_:Aside0 (Kd.R (Kd.int .i64) 3 ((w79.setCell ⟨gb417,0,none⟩ (.int .i64 t412)).setCell ⟨gb417,1,none⟩ (.slice Ao84 t413.length co84)) w.heap.size (fun k_=>some k_ ≠ (.slice Ao11 t390.length co11:Value).ownBlock ∧ some k_ ≠ (.slice Ao16 t397.length co16:Value).ownBlock ∧ some k_ ≠ (.slice Ao23 t403.length co23:Value).ownBlock ∧ some k_ ≠ (.slice Ao84 t413.length co84:Value).ownBlock) (.slice (some ⟨go29,0,none⟩) t408.length co29) y411):=⟨by (with_reducible repeat (first|apply aR|apply nR|apply dR));exact Kd.R_mono (Kd.R_far (p:=⟨gb417,1,none⟩) (Kd.R_far (p:=⟨gb417,0,none⟩) (Kd.R_types HO410.out BK417.out (by decide)) (fun _ hk=>hk.2) (.int .i64 t412)) (fun _ hk=>hk.2) (.slice Ao84 t413.length co84)) (fun _ hk=>⟨hk.1.1.1,⟨hk.1.1.2.1,⟨hk.1.1.2.2,hk.1.2⟩⟩⟩)⟩
    have n4_:Aside0 (Kd.R (Kd.int .i64) 3 ((w79.setCell ⟨gb417,0,none⟩ (.int .i64 t412)).setCell ⟨gb417,1,none⟩ (.slice Ao84 t413.length co84)) w.heap.size (fun k_=>some k_ ≠ (.slice Ao11 t390.length co11:Value).ownBlock ∧ some k_ ≠ (.slice Ao16 t397.length co16:Value).ownBlock ∧ some k_ ≠ (.slice Ao23 t403.length co23:Value).ownBlock ∧ some k_ ≠ (.slice (some ⟨go29,0,none⟩) t408.length co29:Value).ownBlock) (.slice Ao84 t413.length co84) t413):=⟨by (with_reducible repeat (first|apply aR|apply nR|apply dR));exact Kd.R_mono (Kd.R_far (p:=⟨gb417,1,none⟩) (Kd.R_far (p:=⟨gb417,0,none⟩) (Kd.R_types HO415.out BK417.out (by decide)) (fun _ hk=>hk.2) (.int .i64 t412)) (fun _ hk=>hk.2) (.slice Ao84 t413.length co84)) (fun _ hk=>⟨hk.1.1.1.1.2,⟨hk.1.1.1.2,⟨hk.1.1.2,hk.1.2⟩⟩⟩)⟩
    have n5_:Aside0 (((w79.setCell ⟨gb417,0,none⟩ (.int .i64 t412)).setCell ⟨gb417,1,none⟩ (.slice Ao84 t413.length co84)).heap[gb395]? = some (.cells #[.int .i64 t389,.slice Ao11 t390.length co11] 24 (0,0))):=⟨by (with_reducible repeat (first|apply nB|apply dB|apply aB));refine blk_far ?_ NB395_417.out _;(with_reducible repeat (first|apply nB|apply dB|apply aB));refine blk_far ?_ NB395_417.out _;(with_reducible repeat (first|apply nB|apply dB|apply aB));exact BK395.out⟩
    have n6_:Aside0 (((w79.setCell ⟨gb417,0,none⟩ (.int .i64 t412)).setCell ⟨gb417,1,none⟩ (.slice Ao84 t413.length co84)).heap[gb401]? = some (.cells #[.int .i64 t396,.slice Ao16 t397.length co16] 24 (0,0))):=⟨by (with_reducible repeat (first|apply nB|apply dB|apply aB));refine blk_far ?_ NB401_417.out _;(with_reducible repeat (first|apply nB|apply dB|apply aB));refine blk_far ?_ NB401_417.out _;(with_reducible repeat (first|apply nB|apply dB|apply aB));exact BK401.out⟩
    have n7_:Aside0 (((w79.setCell ⟨gb417,0,none⟩ (.int .i64 t412)).setCell ⟨gb417,1,none⟩ (.slice Ao84 t413.length co84)).heap[gb407]? = some (.cells #[.int .i64 t402,.slice Ao23 t403.length co23] 24 (0,0))):=⟨by (with_reducible repeat (first|apply nB|apply dB|apply aB));refine blk_far ?_ NB407_417.out _;(with_reducible repeat (first|apply nB|apply dB|apply aB));refine blk_far ?_ NB407_417.out _;(with_reducible repeat (first|apply nB|apply dB|apply aB));exact BK407.out⟩
    have n8_:Aside0 (((w79.setCell ⟨gb417,0,none⟩ (.int .i64 t412)).setCell ⟨gb417,1,none⟩ (.slice Ao84 t413.length co84)).heap[gb417]? = some (.cells #[.int .i64 t412,.slice Ao84 t413.length co84] 24 (0,0))):=⟨by (with_reducible repeat (first|apply nB|apply dB|apply aB));refine blk_put (cs:=#[.int .i64 t412,.slice none 0 0]) ?_ 1 _ rfl;(with_reducible repeat (first|apply nB|apply dB|apply aB));refine blk_put (cs:=#[.int .i64 0,.slice none 0 0]) ?_ 0 _ rfl;(with_reducible repeat (first|apply nB|apply dB|apply aB));exact BK417.out⟩
    have n9_:Aside0 (Below w.heap.size w ((w79.setCell ⟨gb417,0,none⟩ (.int .i64 t412)).setCell ⟨gb417,1,none⟩ (.slice Ao84 t413.length co84))):=⟨by repeat (first|(with_reducible first|exact HB.out|apply aZ|apply nZ|apply dZ|refine sZ ?_ GE395.out|refine sZ ?_ GE401.out|refine sZ ?_ GE407.out|refine sZ ?_ GE417.out)|exact HB.out)⟩
    (try clear HO_396001)
    (try clear HO_402001)
    (try clear HO_408001)
    (try clear HO410)
    (try clear HO415)
    (try clear BK395)
    (try clear BK401)
    (try clear BK407)
    (try clear BK417)
    (try clear HB)
    generalize ((w79.setCell ⟨gb417,0,none⟩ (.int .i64 t412)).setCell ⟨gb417,1,none⟩ (.slice Ao84 t413.length co84)) = w85 at n0_ n1_ n2_ n3_ n4_ n5_ n6_ n7_ n8_ n9_ ⊢
    have HO_396001:=n0_
    have HO_402001:=n1_
    have HO_408001:=n2_
    have HO410:=n3_
    have HO415:=n4_
    have BK395:=n5_
    have BK401:=n6_
    have BK407:=n7_
    have BK417:=n8_
    have HB:=n9_
    clear n0_ n1_ n2_ n3_ n4_ n5_ n6_ n7_ n8_ n9_
    have n0_:=mk0 (dR HO_396001.out)
    have n1_:=mk0 (dR HO_402001.out)
    have n2_:=mk0 (dR HO_408001.out)
    have n3_:=mk0 (dR HO410.out)
    have n4_:=mk0 (dR HO415.out)
    have n5_:=mk0 (dB BK395.out)
    have n6_:=mk0 (dB BK401.out)
    have n7_:=mk0 (dB BK407.out)
    have n8_:=mk0 (dB BK417.out)
    have n9_:=mk0 (dZ HB.out)
    clear HO_396001
    clear HO_402001
    clear HO_408001
    clear HO410
    clear HO415
    clear BK395
    clear BK401
    clear BK407
    clear BK417
    clear HB
    have HO_396001:=n0_
    have HO_402001:=n1_
    have HO_408001:=n2_
    have HO410:=n3_
    have HO415:=n4_
    have BK395:=n5_
    have BK401:=n6_
    have BK407:=n7_
    have BK417:=n8_
    have HB:=n9_
    clear n0_ n1_ n2_ n3_ n4_ n5_ n6_ n7_ n8_ n9_
    refine start_ (n:=21) (S:=fun w'=>w'.cell? ⟨gb407,0,none⟩ = some (.int .i64 t402) ∧ w'.cell? ⟨gb407,1,none⟩ = some (.slice Ao23 t403.length co23) ∧ w'.cell? ⟨gb417,0,none⟩ = some (.int .i64 t412) ∧ w'.cell? ⟨gb417,1,none⟩ = some (.slice Ao84 t413.length co84)) (ds:=[]) laws_FnMinsSet.m0 (by kernel_rfl) rfl rfl ⟨(blk_cell BK407.out 0).trans rfl,(blk_cell BK407.out 1).trans rfl,(blk_cell BK417.out 0).trans rfl,(blk_cell BK417.out 1).trans rfl⟩ (fun hHeld=>?_);refine with_tabW laws_FnMinsSet.tab11 laws_FnMinsSet.bits11 (fun HT_ HW_=>?_)
    generalize w85.drew = w86 at HO_396001 HO_402001 HO_408001 HO410 HO415 BK395 BK401 BK407 BK417 HB hHeld ⊢
    refine pure_ (i:=0) (N:=some 56) (v:=?_) (a':=?_) laws_FnMinsSet.m1 rfl rfl (any_of HT_.out (by kernel_rfl)) (fun _ _ _ h=>h) (Or.inl ⟨by rfl,?_⟩) ?_ ?_
    rotate_left
    ·intro w'
     go_simp
     with_reducible rfl
    rotate_left
    ·simp only [Act.put,sA,sO,sS,i64_w,i32_w]
     rfl
    refine pure_ (i:=2) (N:=some 58) (v:=?_) (a':=?_) laws_FnMinsSet.m2 rfl rfl (any_of HT_.out (by kernel_rfl)) (fun _ _ _ h=>h) (Or.inl ⟨by rfl,?_⟩) ?_ ?_
    rotate_left
    ·intro w'
     go_simp
     with_reducible rfl
    rotate_left
    ·simp only [Act.put,sA,sO,sS,i64_w,i32_w]
     rfl
    refine take_ (i:=1) (N:=some 57) (v:=?_) (a':=?_) laws_FnMinsSet.m3 rfl rfl (take_ofW HT_.out HW_.out (by kernel_rfl)) (fun _ _ _ h=>h) (Or.inl ⟨by rfl,?_⟩) hHeld ?_ ?_
    rotate_left
    ·rintro w' ⟨s0,s1,s2,s3⟩
     go_simp
     with_reducible rfl
    rotate_left
    ·simp only [Act.put,sA,sO,sS,i64_w,i32_w]
     rfl
    refine take_ (i:=3) (N:=some 59) (v:=?_) (a':=?_) laws_FnMinsSet.m4 rfl rfl (take_ofW HT_.out HW_.out (by kernel_rfl)) (fun _ _ _ h=>h) (Or.inl ⟨by rfl,?_⟩) hHeld ?_ ?_
    rotate_left
    ·rintro w' ⟨s0,s1,s2,s3⟩
     go_simp
     with_reducible rfl
    rotate_left
    ·simp only [Act.put,sA,sO,sS,i64_w,i32_w]
     rfl
    refine one_ (i:=4) (N:=some 60) laws_FnMinsSet.m5 rfl rfl (one_of HT_.out (by kernel_rfl)) (by decide) (fun K hK=>?_)
    refine goes_ Try.func34 (by kernel_rfl) rfl #[.slice Ao23 t403.length co23,.slice Ao84 t413.length co84] (by rfl) rfl rfl (by (try simp only [mA,mC,mN]);first|done|rfl|(simp only [List.length_drop,List.length_take];rfl)) ?_
    with_reducible refine (laws_same.calls kj6 _ _ t403 _ _ t413 false _ ?side1 ?side2 ?side3 ?side4 A31.out).mono ?_
    (case side1=>repeat (first|exact (Kd.R_reads' HO_408001.out).2.2|(with_reducible first|apply aC|apply nC|apply dC)))
    (case side2=>exact (Kd.R_reads' HO_408001.out).2.1)
    (case side3=>repeat (first|exact (Kd.R_reads' HO415.out).2.2|(with_reducible first|apply aC|apply nC|apply dC)))
    (case side4=>exact (Kd.R_reads' HO415.out).2.1)
    rintro e w' ⟨rfl,⟨nd,rfl⟩⟩
    refine⟨_,rfl,?_⟩
    refine hK.out _ _ ⟨(blk_cell BK407.out 0).trans rfl,(blk_cell BK407.out 1).trans rfl,(blk_cell BK417.out 0).trans rfl,(blk_cell BK417.out 1).trans rfl⟩ (fun hHeld=>?_)
    clear hK K
    refine norm_ (a':=?_) ?_ ?_
    rotate_left
    ·show Act.put _ (some 60) _ = _
     simp only [Act.put,sA,sO,sS,i64_w,i32_w]
     rfl
    refine pure_ (i:=5) (N:=some 61) (v:=?_) (a':=?_) laws_FnMinsSet.m6 rfl rfl (any_of HT_.out (by kernel_rfl)) (fun _ _ _ h=>h) (Or.inl ⟨by rfl,?_⟩) ?_ ?_
    rotate_left
    ·intro w'
     go_simp
     with_reducible rfl
    rotate_left
    ·simp only [Act.put,sA,sO,sS,i64_w,i32_w]
     rfl
    refine pure_ (i:=6) (N:=some 62) (v:=undef) (a':=?_) laws_FnMinsSet.m7 rfl rfl (any_of HT_.out (by kernel_rfl)) (fun _ _ _ h=>h) (Or.inr ⟨by rfl,rfl⟩) ?_ ?_
    rotate_left
    ·simp only [Act.put,sA,sO,sS,i64_w,i32_w]
     rfl
    refine pure_ (i:=7) (N:=some 63) (v:=undef) (a':=?_) laws_FnMinsSet.m8 rfl rfl (any_of HT_.out (by kernel_rfl)) (fun _ _ _ h=>h) (Or.inr ⟨by rfl,rfl⟩) ?_ ?_
    rotate_left
    ·simp only [Act.put,sA,sO,sS,i64_w,i32_w]
     rfl
    refine pure_ (i:=8) (N:=some 64) (v:=undef) (a':=?_) laws_FnMinsSet.m9 rfl rfl (any_of HT_.out (by kernel_rfl)) (fun _ _ _ h=>h) (Or.inr ⟨by rfl,rfl⟩) ?_ ?_
    rotate_left
    ·simp only [Act.put,sA,sO,sS,i64_w,i32_w]
     rfl
    refine pure_ (i:=9) (N:=some 65) (v:=undef) (a':=?_) laws_FnMinsSet.m10 rfl rfl (any_of HT_.out (by kernel_rfl)) (fun _ _ _ h=>h) (Or.inr ⟨by rfl,rfl⟩) ?_ ?_
    rotate_left
    ·simp only [Act.put,sA,sO,sS,i64_w,i32_w]
     rfl
    refine pure_ (i:=10) (N:=some 66) (v:=undef) (a':=?_) laws_FnMinsSet.m11 rfl rfl (any_of HT_.out (by kernel_rfl)) (fun _ _ _ h=>h) (Or.inr ⟨by rfl,rfl⟩) ?_ ?_
    rotate_left
    ·simp only [Act.put,sA,sO,sS,i64_w,i32_w]
     rfl
    refine pure_ (i:=11) (N:=some 67) (v:=undef) (a':=?_) laws_FnMinsSet.m12 rfl rfl (any_of HT_.out (by kernel_rfl)) (fun _ _ _ h=>h) (Or.inr ⟨by rfl,rfl⟩) ?_ ?_
    rotate_left
    ·simp only [Act.put,sA,sO,sS,i64_w,i32_w]
     rfl
    refine pure_ (i:=12) (N:=some 68) (v:=undef) (a':=?_) laws_FnMinsSet.m13 rfl rfl (any_of HT_.out (by kernel_rfl)) (fun _ _ _ h=>h) (Or.inr ⟨by rfl,rfl⟩) ?_ ?_
    rotate_left
    ·simp only [Act.put,sA,sO,sS,i64_w,i32_w]
     rfl
    refine pure_ (i:=13) (N:=some 69) (v:=undef) (a':=?_) laws_FnMinsSet.m14 rfl rfl (any_of HT_.out (by kernel_rfl)) (fun _ _ _ h=>h) (Or.inr ⟨by rfl,rfl⟩) ?_ ?_
    rotate_left
    ·simp only [Act.put,sA,sO,sS,i64_w,i32_w]
     rfl
    refine pure_ (i:=14) (N:=some 70) (v:=undef) (a':=?_) laws_FnMinsSet.m15 rfl rfl (any_of HT_.out (by kernel_rfl)) (fun _ _ _ h=>h) (Or.inr ⟨by rfl,rfl⟩) ?_ ?_
    rotate_left
    ·simp only [Act.put,sA,sO,sS,i64_w,i32_w]
     rfl
    refine pure_ (i:=15) (N:=some 71) (v:=?_) (a':=?_) laws_FnMinsSet.m16 rfl rfl (any_of HT_.out (by kernel_rfl)) (fun _ _ _ h=>h) (Or.inl ⟨by rfl,?_⟩) ?_ ?_
    rotate_left
    ·intro w'
     go_simp
     with_reducible rfl
    rotate_left
    ·simp only [Act.put,sA,sO,sS,i64_w,i32_w]
     rfl
    refine pure_ (i:=16) (N:=some 72) (v:=?_) (a':=?_) laws_FnMinsSet.m17 rfl rfl (any_of HT_.out (by kernel_rfl)) (fun _ _ _ h=>h) (Or.inl ⟨by rfl,?_⟩) ?_ ?_
    rotate_left
    ·intro w'
     go_simp
     with_reducible rfl
    rotate_left
    ·simp only [Act.put,sA,sO,sS,i64_w,i32_w]
     rfl
    refine pure_ (i:=17) (N:=some 73) (v:=undef) (a':=?_) laws_FnMinsSet.m18 rfl rfl (any_of HT_.out (by kernel_rfl)) (fun _ _ _ h=>h) (Or.inr ⟨by rfl,rfl⟩) ?_ ?_
    rotate_left
    ·simp only [Act.put,sA,sO,sS,i64_w,i32_w]
     rfl
    refine pure_ (i:=18) (N:=some 74) (v:=undef) (a':=?_) laws_FnMinsSet.m19 rfl rfl (any_of HT_.out (by kernel_rfl)) (fun _ _ _ h=>h) (Or.inr ⟨by rfl,rfl⟩) ?_ ?_
    rotate_left
    ·simp only [Act.put,sA,sO,sS,i64_w,i32_w]
     rfl
    refine pure_ (i:=19) (N:=some 75) (v:=?_) (a':=?_) laws_FnMinsSet.m20 rfl rfl (any_of HT_.out (by kernel_rfl)) (fun _ _ _ h=>h) (Or.inl ⟨by rfl,?_⟩) ?_ ?_
    rotate_left
    ·intro w'
     go_simp
     with_reducible rfl
    rotate_left
    ·simp only [Act.put,sA,sO,sS,i64_w,i32_w]
     rfl
    refine pure_ (i:=20) (N:=some 2) (v:=?_) (a':=?_) laws_FnMinsSet.m21 rfl rfl (any_of HT_.out (by kernel_rfl)) (fun _ _ _ h=>h) (Or.inl ⟨by rfl,?_⟩) ?_ ?_
    rotate_left
    ·intro w'
     go_simp
     with_reducible rfl
    rotate_left
    ·simp only [Act.put,sA,sO,sS,i64_w,i32_w]
     rfl
    refine done_ (done_of HT_.out (by kernel_rfl)) ?_
    try go_wp2
    go_ret
    exact⟨by first|rfl|(simp [errW_none,errW_some] <;> rfl)|(simp [*,errW_none,errW_some] <;> rfl),by repeat (first|(with_reducible first|exact HB.out|apply aZ|apply nZ|apply dZ|refine sZ ?_ GE395.out|refine sZ ?_ GE401.out|refine sZ ?_ GE407.out|refine sZ ?_ GE417.out)|exact HB.out)⟩
   subst c32
   have H1:((impl_MinsRange.f kj6 t402 t403 0 t389).bind fun t419=>((spec_MinsRange.f kj6 t412 t413 0 t389).bind fun t420=>(if t419 = t420 then ((impl_MinsOk.f kj6 t402 t403).bind fun t421=>(some t421)) else (some false)))) = some r:=by rw [if_pos rfl] at H;exact H
   clear H
   have H:=H1
   clear H1
   replace H:=Option.bind_eq_some_iff.mp H
   obtain⟨t419,A330,H⟩:=H
   replace H:((spec_MinsRange.f kj6 t412 t413 0 t389).bind fun t420=>(if t419 = t420 then ((impl_MinsOk.f kj6 t402 t403).bind fun t421=>(some t421)) else (some false))) = some r:=H
   have A33:=mk0 A330
   clear A330
   replace H:=Option.bind_eq_some_iff.mp H
   obtain⟨t420,A340,H⟩:=H
   replace H:(if t419 = t420 then ((impl_MinsOk.f kj6 t402 t403).bind fun t421=>(some t421)) else (some false)) = some r:=H
   have A34:=mk0 A340
   clear A340
   by_cases c35:t419 = t420
   rotate_left
   ·rw [if_neg c35] at H
    have c35b0:(t419 == t420) = false:=beq_eq_false_iff_ne.mpr c35
    have c35b1:(t419 != t420) = true:=bne_iff_ne.mpr c35
    obtain rfl:=Option.some.inj H
    have hnb55:=NB395_401.out
    have hnc55:=NB401_395.out
    have hnb56:=NB395_407.out
    have hnc56:=NB407_395.out
    have hcz57_0:wc.cell? ⟨gb395,0,none⟩ = some (.int .i64 t389):=(blk_cell BK395.out 0).trans rfl
    have hcz57_1:wc.cell? ⟨gb395,1,none⟩ = some (.slice Ao11 t390.length co11):=(blk_cell BK395.out 1).trans rfl
    have hfz57_0:=blk_frozen BK395.out 0
    have hfz57_1:=blk_frozen BK395.out 1
    try go_wp2_with (first|((with_reducible refine gate_callee (f:=27) rfl ?_);refine goesL_ (some 46) rfl rfl Try.func27 (by kernel_rfl) rfl #[.agg #[.int .i64 t389,.slice Ao11 t390.length co11]] rfl (by (try simp only [mA,mC,mN]);first|done|rfl|(simp only [List.length_drop,List.length_take];rfl)) ?_;(with_reducible refine (spec_MinsList.calls kj6 t389 _ _ t390 t408 _ ?side1 ?side2 A26.out).mono ?_);(case side1=>repeat (first|exact (Kd.R_reads' HO_396001.out).2.2|(with_reducible first|apply aC|apply nC|apply dC)));(case side2=>exact (Kd.R_reads' HO_396001.out).2.1);rintro e w58 ⟨v409,rfl,ho0,hb⟩;refine⟨_,rfl,?_⟩;have n0_:=mk0 (Kd.R_elder' (by (with_reducible repeat (first|apply aR|apply nR|apply dR));exact HO_396001.out) (Kd.R_base ho0) hb);have n1_:=mk0 (Kd.R_elder' (by (with_reducible repeat (first|apply aR|apply nR|apply dR));exact HO_402001.out) (Kd.R_base ho0) hb);have n2_:=mk0 (Kd.R_elder' (by (with_reducible repeat (first|apply aR|apply nR|apply dR));exact HO_408001.out) (Kd.R_base ho0) hb);have n3_:=mk0 (Kd.R_lower (Kd.R_new' (Kd.R_new' (Kd.R_new' ho0 (Kd.R_lt (by (with_reducible repeat (first|apply aR|apply nR|apply dR));exact HO_396001.out))) (Kd.R_lt (by (with_reducible repeat (first|apply aR|apply nR|apply dR));exact HO_402001.out))) (Kd.R_lt (by (with_reducible repeat (first|apply aR|apply nR|apply dR));exact HO_408001.out))) (below_size (by repeat (first|(with_reducible first|exact HB.out|apply aZ|apply nZ|apply dZ|refine sZ ?_ GE395.out|refine sZ ?_ GE401.out|refine sZ ?_ GE407.out)|exact HB.out))));have n4_:=mk0 (blk_below (g:=gb395) (o:=.cells #[.int .i64 t389,.slice Ao11 t390.length co11] 24 (0,0)) (by (with_reducible repeat (first|apply nB|apply dB|apply aB));exact BK395.out) hb);have n5_:=mk0 (blk_below (g:=gb401) (o:=.cells #[.int .i64 t396,.slice Ao16 t397.length co16] 24 (0,0)) (by (with_reducible repeat (first|apply nB|apply dB|apply aB));exact BK401.out) hb);have n6_:=mk0 (blk_below (g:=gb407) (o:=.cells #[.int .i64 t402,.slice Ao23 t403.length co23] 24 (0,0)) (by (with_reducible repeat (first|apply nB|apply dB|apply aB));exact BK407.out) hb);have n7_:=mk0 (below_step (by repeat (first|(with_reducible first|exact HB.out|apply aZ|apply nZ|apply dZ|refine sZ ?_ GE395.out|refine sZ ?_ GE401.out|refine sZ ?_ GE407.out)|exact HB.out)) hb);clear HO_396001 HO_402001 HO_408001 BK395 BK401 BK407 HB;have HO_396001:=n0_;have HO_402001:=n1_;have HO_408001:=n2_;have HO410:=n3_;have BK395:=n4_;have BK401:=n5_;have BK407:=n6_;have HB:=n7_;clear n0_ n1_ n2_ n3_ n4_ n5_ n6_ n7_;(try clear hb);(try clear hb2);(try clear hk);(try clear hi);(try clear ho0);have p29:0 ≤ (t393:Int):=of_decide_eq_true (by first|(with_reducible assumption)|assumption);have q29:(t393:Int) < ((t408.length:Int):Int):=of_decide_eq_true (by first|(with_reducible assumption)|assumption);obtain⟨go29,co29,eo29,gb29,gl29,cl29,HG29⟩:=Kd.R_form HO410.out (by omega);(first|cases eo29|(injection eo29 with ea_ en_ ec_;(first|subst ea_|(injection ea_ with ea_;subst ea_));subst ec_;clear en_));have GB29:=mk0 gb29;have GG29:=mk0 HG29;clear gb29 gl29 HG29;obtain⟨hx29_0,hf29_0⟩:=Kd.R_celln 0 HO410.out (t393:Int) p29 q29;replace p29:=eq_true p29;replace q29:=eq_true q29;have n_:=mk0 (Kd.R_mono (ok':=(fun k_=>some k_ ≠ (.slice Ao11 t390.length co11:Value).ownBlock ∧ some k_ ≠ (.slice Ao16 t397.length co16:Value).ownBlock ∧ some k_ ≠ (.slice Ao23 t403.length co23:Value).ownBlock)) HO410.out (fun k_ hk=>⟨hk.1.1.2,⟨hk.1.2,hk.2⟩⟩));clear HO410;have HO410:=n_;clear n_;obtain⟨hy59_,hz59_⟩:=Kd.R_celln 0 HO410.out (t393:Int) (of_decide_eq_true (by first|(with_reducible assumption)|assumption)) (of_decide_eq_true (by first|(with_reducible assumption)|assumption));have HP59:=Kd.R_putg HO410.out (t393:Int) t394)|((with_reducible refine gate_store (t:=3) (p:=50) rfl ?_);refine store_event (t:=3) (p:=50) (v:=?vo_w60) (w1:=(w58.setCell ⟨go29,(t393:Int).toNat,none⟩ (.int .i64 t394))) ?hg ?ho ?hn ?hr ?_;(case ho=>rfl);(case hg=>rfl);(case hn=>rfl);(case hr=>first|(go_simp;done)|(go_simp;rfl));intro w60 hw;have hg:w58.grownBy w60 (some go29):=(by rw [hw];exact HP59.2);have hp_:Kd.R (Kd.int .i64) 3 w60 w.heap.size (fun k_=>some k_ ≠ (.slice Ao11 t390.length co11:Value).ownBlock ∧ some k_ ≠ (.slice Ao16 t397.length co16:Value).ownBlock ∧ some k_ ≠ (.slice Ao23 t403.length co23:Value).ownBlock) (.slice (some ⟨go29,0,none⟩) t408.length co29) y411:=(by rw [hw,Ny411.out];exact HP59.1);clear HP59;have n0_:=mk0 (Kd.R_after (v:=(.slice (some ⟨go29,0,none⟩) t408.length co29)) (v1:=(.slice (some ⟨go29,0,none⟩) t408.length co29)) (ok:=(fun k_=>some k_ ≠ (.slice Ao16 t397.length co16:Value).ownBlock ∧ some k_ ≠ (.slice Ao23 t403.length co23:Value).ownBlock)) (by (with_reducible repeat (first|apply aR|apply nR|apply dR));exact HO_396001.out) hg (.inl rfl));have n1_:=mk0 (Kd.R_after (v:=(.slice (some ⟨go29,0,none⟩) t408.length co29)) (v1:=(.slice (some ⟨go29,0,none⟩) t408.length co29)) (ok:=(fun k_=>some k_ ≠ (.slice Ao11 t390.length co11:Value).ownBlock ∧ some k_ ≠ (.slice Ao23 t403.length co23:Value).ownBlock)) (by (with_reducible repeat (first|apply aR|apply nR|apply dR));exact HO_402001.out) hg (.inl rfl));have n2_:=mk0 (Kd.R_after (v:=(.slice (some ⟨go29,0,none⟩) t408.length co29)) (v1:=(.slice (some ⟨go29,0,none⟩) t408.length co29)) (ok:=(fun k_=>some k_ ≠ (.slice Ao11 t390.length co11:Value).ownBlock ∧ some k_ ≠ (.slice Ao16 t397.length co16:Value).ownBlock)) (by (with_reducible repeat (first|apply aR|apply nR|apply dR));exact HO_408001.out) hg (.inl rfl));have n3_:=mk0 (blk_grown (g:=gb395) (o:=.cells #[.int .i64 t389,.slice Ao11 t390.length co11] 24 (0,0)) (by (with_reducible repeat (first|apply nB|apply dB|apply aB));exact BK395.out) hg (Kd.R_ne HO410.out BK395.out (by decide)));have n4_:=mk0 (blk_grown (g:=gb401) (o:=.cells #[.int .i64 t396,.slice Ao16 t397.length co16] 24 (0,0)) (by (with_reducible repeat (first|apply nB|apply dB|apply aB));exact BK401.out) hg (Kd.R_ne HO410.out BK401.out (by decide)));have n5_:=mk0 (blk_grown (g:=gb407) (o:=.cells #[.int .i64 t402,.slice Ao23 t403.length co23] 24 (0,0)) (by (with_reducible repeat (first|apply nB|apply dB|apply aB));exact BK407.out) hg (Kd.R_ne HO410.out BK407.out (by decide)));have n6_:=mk0 (hp_);have n7_:=mk0 ((by rw [hw];exact sZ (HB.out) GB29.out:Below w.heap.size w w60));clear HO_396001 HO_402001 HO_408001 BK395 BK401 BK407 HO410 HB;have HO_396001:=n0_;have HO_402001:=n1_;have HO_408001:=n2_;have BK395:=n3_;have BK401:=n4_;have BK407:=n5_;have HO410:=n6_;have HB:=n7_;clear n0_ n1_ n2_ n3_ n4_ n5_ n6_ n7_ hg hw hp_)|((with_reducible refine gate_callee (f:=11) rfl ?_);refine goesL_ (some 53) rfl rfl Try.func11 (by kernel_rfl) rfl #[.slice (some ⟨go29,0,none⟩) y411.length co29] rfl (by (try simp only [mA,mC,mN]);first|done|(rw [show y411.length = t408.length from (Kd.R_reads' HO410.out).1.symm] <;> rfl)|rfl|(simp only [List.length_drop,List.length_take];rfl)) ?_;(with_reducible refine (spec_MinsOf.calls kj6 _ _ y411 t412 t413 t416 _ ?side1 ?side2 A30.out).mono ?_);(case side1=>repeat (first|exact (Kd.R_reads' HO410.out).2.2|(with_reducible first|apply aC|apply nC|apply dC)));(case side2=>rw [show y411.length = t408.length from (Kd.R_reads' HO410.out).1.symm];exact (Kd.R_reads' HO410.out).2.1);rintro e w61 ⟨v414,rfl,ho0,hb⟩;refine⟨_,rfl,?_⟩;have n0_:=mk0 (Kd.R_elder' (by (with_reducible repeat (first|apply aR|apply nR|apply dR));exact HO_396001.out) (Kd.R_base ho0) hb);have n1_:=mk0 (Kd.R_elder' (by (with_reducible repeat (first|apply aR|apply nR|apply dR));exact HO_402001.out) (Kd.R_base ho0) hb);have n2_:=mk0 (Kd.R_elder' (by (with_reducible repeat (first|apply aR|apply nR|apply dR));exact HO_408001.out) (Kd.R_base ho0) hb);have n3_:=mk0 (Kd.R_elder' (by (with_reducible repeat (first|apply aR|apply nR|apply dR));exact HO410.out) (Kd.R_base ho0) hb);have n4_:=mk0 (Kd.R_lower (Kd.R_new' (Kd.R_new' (Kd.R_new' (Kd.R_new' ho0 (Kd.R_lt (by (with_reducible repeat (first|apply aR|apply nR|apply dR));exact HO_396001.out))) (Kd.R_lt (by (with_reducible repeat (first|apply aR|apply nR|apply dR));exact HO_402001.out))) (Kd.R_lt (by (with_reducible repeat (first|apply aR|apply nR|apply dR));exact HO_408001.out))) (Kd.R_lt (by (with_reducible repeat (first|apply aR|apply nR|apply dR));exact HO410.out))) (below_size (by repeat (first|(with_reducible first|exact HB.out|apply aZ|apply nZ|apply dZ|refine sZ ?_ GE395.out|refine sZ ?_ GE401.out|refine sZ ?_ GE407.out)|exact HB.out))));have n5_:=mk0 (blk_below (g:=gb395) (o:=.cells #[.int .i64 t389,.slice Ao11 t390.length co11] 24 (0,0)) (by (with_reducible repeat (first|apply nB|apply dB|apply aB));exact BK395.out) hb);have n6_:=mk0 (blk_below (g:=gb401) (o:=.cells #[.int .i64 t396,.slice Ao16 t397.length co16] 24 (0,0)) (by (with_reducible repeat (first|apply nB|apply dB|apply aB));exact BK401.out) hb);have n7_:=mk0 (blk_below (g:=gb407) (o:=.cells #[.int .i64 t402,.slice Ao23 t403.length co23] 24 (0,0)) (by (with_reducible repeat (first|apply nB|apply dB|apply aB));exact BK407.out) hb);have n8_:=mk0 (below_step (by repeat (first|(with_reducible first|exact HB.out|apply aZ|apply nZ|apply dZ|refine sZ ?_ GE395.out|refine sZ ?_ GE401.out|refine sZ ?_ GE407.out)|exact HB.out)) hb);clear HO_396001 HO_402001 HO_408001 HO410 BK395 BK401 BK407 HB;have HO_396001:=n0_;have HO_402001:=n1_;have HO_408001:=n2_;have HO410:=n3_;have HO415:=n4_;have BK395:=n5_;have BK401:=n6_;have BK407:=n7_;have HB:=n8_;clear n0_ n1_ n2_ n3_ n4_ n5_ n6_ n7_ n8_;(try clear hb);(try clear hb2);(try clear hk);(try clear hi);(try clear ho0))|((with_reducible refine gate_dst (N:=11) rfl ?_);refine box_event ?hg (N:=11) ?hd (cs:=#[.int .i64 0,.slice none 0 0]) (t:=24) ?hr ?_;(case hd=>rfl);(case hg=>rfl);(case hr=>first|(go_simp;done)|(go_simp;rfl));intro gb417 hg w62 hbox hb;have n0_:=mk0 (Kd.R_below (by (with_reducible repeat (first|apply aR|apply nR|apply dR));exact HO_396001.out) hb);have n1_:=mk0 (Kd.R_below (by (with_reducible repeat (first|apply aR|apply nR|apply dR));exact HO_402001.out) hb);have n2_:=mk0 (Kd.R_below (by (with_reducible repeat (first|apply aR|apply nR|apply dR));exact HO_408001.out) hb);have n3_:=mk0 (Kd.R_below (by (with_reducible repeat (first|apply aR|apply nR|apply dR));exact HO410.out) hb);have n4_:=mk0 (Kd.R_below (by (with_reducible repeat (first|apply aR|apply nR|apply dR));exact HO415.out) hb);have n5_:=mk0 (blk_below (g:=gb395) (o:=.cells #[.int .i64 t389,.slice Ao11 t390.length co11] 24 (0,0)) (by (with_reducible repeat (first|apply nB|apply dB|apply aB));exact BK395.out) hb);have n6_:=mk0 (blk_below (g:=gb401) (o:=.cells #[.int .i64 t396,.slice Ao16 t397.length co16] 24 (0,0)) (by (with_reducible repeat (first|apply nB|apply dB|apply aB));exact BK401.out) hb);have n7_:=mk0 (blk_below (g:=gb407) (o:=.cells #[.int .i64 t402,.slice Ao23 t403.length co23] 24 (0,0)) (by (with_reducible repeat (first|apply nB|apply dB|apply aB));exact BK407.out) hb);have n8_:=mk0 (below_step (by repeat (first|(with_reducible first|exact HB.out|apply aZ|apply nZ|apply dZ|refine sZ ?_ GE395.out|refine sZ ?_ GE401.out|refine sZ ?_ GE407.out)|exact HB.out)) hb);have n9_:=mk0 (hbox);have n10_:=mk0 ((by rw [hg];exact (below_size (by repeat (first|(with_reducible first|exact HB.out|apply aZ|apply nZ|apply dZ|refine sZ ?_ GE395.out|refine sZ ?_ GE401.out|refine sZ ?_ GE407.out)|exact HB.out))):w.heap.size ≤ gb417));have n11_:=mk0 ((by rw [hg];exact (below_size (by repeat (first|(with_reducible first|exact HB.out|apply aZ|apply nZ|apply dZ|refine sZ ?_ GE395.out|refine sZ ?_ GE401.out|refine sZ ?_ GE407.out)|exact HB.out))):w.heap.size ≤ gb417));have n12_:=mk0 ((by rw [hg];exact Nat.ne_of_lt (blk_lt (g:=gb395) (o:=.cells #[.int .i64 t389,.slice Ao11 t390.length co11] 24 (0,0)) (by (with_reducible repeat (first|apply nB|apply dB|apply aB));exact BK395.out)):gb395 ≠ gb417));have n13_:=mk0 ((by rw [hg];exact Nat.ne_of_gt (blk_lt (g:=gb395) (o:=.cells #[.int .i64 t389,.slice Ao11 t390.length co11] 24 (0,0)) (by (with_reducible repeat (first|apply nB|apply dB|apply aB));exact BK395.out)):gb417 ≠ gb395));have n14_:=mk0 ((by rw [hg];exact Nat.ne_of_lt (blk_lt (g:=gb401) (o:=.cells #[.int .i64 t396,.slice Ao16 t397.length co16] 24 (0,0)) (by (with_reducible repeat (first|apply nB|apply dB|apply aB));exact BK401.out)):gb401 ≠ gb417));have n15_:=mk0 ((by rw [hg];exact Nat.ne_of_gt (blk_lt (g:=gb401) (o:=.cells #[.int .i64 t396,.slice Ao16 t397.length co16] 24 (0,0)) (by (with_reducible repeat (first|apply nB|apply dB|apply aB));exact BK401.out)):gb417 ≠ gb401));have n16_:=mk0 ((by rw [hg];exact Nat.ne_of_lt (blk_lt (g:=gb407) (o:=.cells #[.int .i64 t402,.slice Ao23 t403.length co23] 24 (0,0)) (by (with_reducible repeat (first|apply nB|apply dB|apply aB));exact BK407.out)):gb407 ≠ gb417));have n17_:=mk0 ((by rw [hg];exact Nat.ne_of_gt (blk_lt (g:=gb407) (o:=.cells #[.int .i64 t402,.slice Ao23 t403.length co23] 24 (0,0)) (by (with_reducible repeat (first|apply nB|apply dB|apply aB));exact BK407.out)):gb417 ≠ gb407));clear HO_396001 HO_402001 HO_408001 HO410 HO415 BK395 BK401 BK407 HB;have HO_396001:=n0_;have HO_402001:=n1_;have HO_408001:=n2_;have HO410:=n3_;have HO415:=n4_;have BK395:=n5_;have BK401:=n6_;have BK407:=n7_;have HB:=n8_;have BK417:=n9_;have GW417:=n10_;have GE417:=n11_;have NB395_417:=n12_;have NB417_395:=n13_;have NB401_417:=n14_;have NB417_401:=n15_;have NB407_417:=n16_;have NB417_407:=n17_;clear n0_ n1_ n2_ n3_ n4_ n5_ n6_ n7_ n8_ n9_ n10_ n11_ n12_ n13_ n14_ n15_ n16_ n17_ hb hbox hg;have hnb63:=NB417_395.out;have hnc63:=NB395_417.out;have hnb64:=NB417_401.out;have hnc64:=NB401_417.out;have hnb65:=NB417_407.out;have hnc65:=NB407_417.out;have hcz66_0:w62.cell? ⟨gb417,0,none⟩ = some (.int .i64 0):=(blk_cell BK417.out 0).trans rfl;have hcz66_1:w62.cell? ⟨gb417,1,none⟩ = some (.slice none 0 0):=(blk_cell BK417.out 1).trans rfl;have hfz66_0:=blk_frozen BK417.out 0;have hfz66_1:=blk_frozen BK417.out 1;obtain⟨Ao67,co67,eo67⟩:=Kd.R_slice HO415.out;subst eo67))
    have n0_:Aside0 (Kd.R (Kd.int .i64) 3 ((w62.setCell ⟨gb417,0,none⟩ (.int .i64 t412)).setCell ⟨gb417,1,none⟩ (.slice Ao67 t413.length co67)) w.heap.size (fun k_=>some k_ ≠ (.slice Ao16 t397.length co16:Value).ownBlock ∧ some k_ ≠ (.slice Ao23 t403.length co23:Value).ownBlock ∧ some k_ ≠ (.slice (some ⟨go29,0,none⟩) t408.length co29:Value).ownBlock ∧ some k_ ≠ (.slice Ao67 t413.length co67:Value).ownBlock) (.slice Ao11 t390.length co11) t390):=⟨by (with_reducible repeat (first|apply aR|apply nR|apply dR));exact Kd.R_mono (Kd.R_far (p:=⟨gb417,1,none⟩) (Kd.R_far (p:=⟨gb417,0,none⟩) (Kd.R_types HO_396001.out BK417.out (by decide)) (fun _ hk=>hk.2) (.int .i64 t412)) (fun _ hk=>hk.2) (.slice Ao67 t413.length co67)) (fun _ hk=>⟨hk.1.1.1.1,⟨hk.1.1.1.2,⟨hk.1.1.2,hk.1.2⟩⟩⟩)⟩
    have n1_:Aside0 (Kd.R (Kd.int .i64) 3 ((w62.setCell ⟨gb417,0,none⟩ (.int .i64 t412)).setCell ⟨gb417,1,none⟩ (.slice Ao67 t413.length co67)) w.heap.size (fun k_=>some k_ ≠ (.slice Ao11 t390.length co11:Value).ownBlock ∧ some k_ ≠ (.slice Ao23 t403.length co23:Value).ownBlock ∧ some k_ ≠ (.slice (some ⟨go29,0,none⟩) t408.length co29:Value).ownBlock ∧ some k_ ≠ (.slice Ao67 t413.length co67:Value).ownBlock) (.slice Ao16 t397.length co16) t397):=⟨by (with_reducible repeat (first|apply aR|apply nR|apply dR));exact Kd.R_mono (Kd.R_far (p:=⟨gb417,1,none⟩) (Kd.R_far (p:=⟨gb417,0,none⟩) (Kd.R_types HO_402001.out BK417.out (by decide)) (fun _ hk=>hk.2) (.int .i64 t412)) (fun _ hk=>hk.2) (.slice Ao67 t413.length co67)) (fun _ hk=>⟨hk.1.1.1.1,⟨hk.1.1.1.2,⟨hk.1.1.2,hk.1.2⟩⟩⟩)⟩
    have n2_:Aside0 (Kd.R (Kd.int .i64) 3 ((w62.setCell ⟨gb417,0,none⟩ (.int .i64 t412)).setCell ⟨gb417,1,none⟩ (.slice Ao67 t413.length co67)) w.heap.size (fun k_=>some k_ ≠ (.slice Ao11 t390.length co11:Value).ownBlock ∧ some k_ ≠ (.slice Ao16 t397.length co16:Value).ownBlock ∧ some k_ ≠ (.slice (some ⟨go29,0,none⟩) t408.length co29:Value).ownBlock ∧ some k_ ≠ (.slice Ao67 t413.length co67:Value).ownBlock) (.slice Ao23 t403.length co23) t403):=⟨by (with_reducible repeat (first|apply aR|apply nR|apply dR));exact Kd.R_mono (Kd.R_far (p:=⟨gb417,1,none⟩) (Kd.R_far (p:=⟨gb417,0,none⟩) (Kd.R_types HO_408001.out BK417.out (by decide)) (fun _ hk=>hk.2) (.int .i64 t412)) (fun _ hk=>hk.2) (.slice Ao67 t413.length co67)) (fun _ hk=>⟨hk.1.1.1.1,⟨hk.1.1.1.2,⟨hk.1.1.2,hk.1.2⟩⟩⟩)⟩
    have n3_:Aside0 (Kd.R (Kd.int .i64) 3 ((w62.setCell ⟨gb417,0,none⟩ (.int .i64 t412)).setCell ⟨gb417,1,none⟩ (.slice Ao67 t413.length co67)) w.heap.size (fun k_=>some k_ ≠ (.slice Ao11 t390.length co11:Value).ownBlock ∧ some k_ ≠ (.slice Ao16 t397.length co16:Value).ownBlock ∧ some k_ ≠ (.slice Ao23 t403.length co23:Value).ownBlock ∧ some k_ ≠ (.slice Ao67 t413.length co67:Value).ownBlock) (.slice (some ⟨go29,0,none⟩) t408.length co29) y411):=⟨by (with_reducible repeat (first|apply aR|apply nR|apply dR));exact Kd.R_mono (Kd.R_far (p:=⟨gb417,1,none⟩) (Kd.R_far (p:=⟨gb417,0,none⟩) (Kd.R_types HO410.out BK417.out (by decide)) (fun _ hk=>hk.2) (.int .i64 t412)) (fun _ hk=>hk.2) (.slice Ao67 t413.length co67)) (fun _ hk=>⟨hk.1.1.1,⟨hk.1.1.2.1,⟨hk.1.1.2.2,hk.1.2⟩⟩⟩)⟩
    have n4_:Aside0 (Kd.R (Kd.int .i64) 3 ((w62.setCell ⟨gb417,0,none⟩ (.int .i64 t412)).setCell ⟨gb417,1,none⟩ (.slice Ao67 t413.length co67)) w.heap.size (fun k_=>some k_ ≠ (.slice Ao11 t390.length co11:Value).ownBlock ∧ some k_ ≠ (.slice Ao16 t397.length co16:Value).ownBlock ∧ some k_ ≠ (.slice Ao23 t403.length co23:Value).ownBlock ∧ some k_ ≠ (.slice (some ⟨go29,0,none⟩) t408.length co29:Value).ownBlock) (.slice Ao67 t413.length co67) t413):=⟨by (with_reducible repeat (first|apply aR|apply nR|apply dR));exact Kd.R_mono (Kd.R_far (p:=⟨gb417,1,none⟩) (Kd.R_far (p:=⟨gb417,0,none⟩) (Kd.R_types HO415.out BK417.out (by decide)) (fun _ hk=>hk.2) (.int .i64 t412)) (fun _ hk=>hk.2) (.slice Ao67 t413.length co67)) (fun _ hk=>⟨hk.1.1.1.1.2,⟨hk.1.1.1.2,⟨hk.1.1.2,hk.1.2⟩⟩⟩)⟩
    have n5_:Aside0 (((w62.setCell ⟨gb417,0,none⟩ (.int .i64 t412)).setCell ⟨gb417,1,none⟩ (.slice Ao67 t413.length co67)).heap[gb395]? = some (.cells #[.int .i64 t389,.slice Ao11 t390.length co11] 24 (0,0))):=⟨by (with_reducible repeat (first|apply nB|apply dB|apply aB));refine blk_far ?_ NB395_417.out _;(with_reducible repeat (first|apply nB|apply dB|apply aB));refine blk_far ?_ NB395_417.out _;(with_reducible repeat (first|apply nB|apply dB|apply aB));exact BK395.out⟩
    have n6_:Aside0 (((w62.setCell ⟨gb417,0,none⟩ (.int .i64 t412)).setCell ⟨gb417,1,none⟩ (.slice Ao67 t413.length co67)).heap[gb401]? = some (.cells #[.int .i64 t396,.slice Ao16 t397.length co16] 24 (0,0))):=⟨by (with_reducible repeat (first|apply nB|apply dB|apply aB));refine blk_far ?_ NB401_417.out _;(with_reducible repeat (first|apply nB|apply dB|apply aB));refine blk_far ?_ NB401_417.out _;(with_reducible repeat (first|apply nB|apply dB|apply aB));exact BK401.out⟩
    have n7_:Aside0 (((w62.setCell ⟨gb417,0,none⟩ (.int .i64 t412)).setCell ⟨gb417,1,none⟩ (.slice Ao67 t413.length co67)).heap[gb407]? = some (.cells #[.int .i64 t402,.slice Ao23 t403.length co23] 24 (0,0))):=⟨by (with_reducible repeat (first|apply nB|apply dB|apply aB));refine blk_far ?_ NB407_417.out _;(with_reducible repeat (first|apply nB|apply dB|apply aB));refine blk_far ?_ NB407_417.out _;(with_reducible repeat (first|apply nB|apply dB|apply aB));exact BK407.out⟩
    have n8_:Aside0 (((w62.setCell ⟨gb417,0,none⟩ (.int .i64 t412)).setCell ⟨gb417,1,none⟩ (.slice Ao67 t413.length co67)).heap[gb417]? = some (.cells #[.int .i64 t412,.slice Ao67 t413.length co67] 24 (0,0))):=⟨by (with_reducible repeat (first|apply nB|apply dB|apply aB));refine blk_put (cs:=#[.int .i64 t412,.slice none 0 0]) ?_ 1 _ rfl;(with_reducible repeat (first|apply nB|apply dB|apply aB));refine blk_put (cs:=#[.int .i64 0,.slice none 0 0]) ?_ 0 _ rfl;(with_reducible repeat (first|apply nB|apply dB|apply aB));exact BK417.out⟩
    have n9_:Aside0 (Below w.heap.size w ((w62.setCell ⟨gb417,0,none⟩ (.int .i64 t412)).setCell ⟨gb417,1,none⟩ (.slice Ao67 t413.length co67))):=⟨by repeat (first|(with_reducible first|exact HB.out|apply aZ|apply nZ|apply dZ|refine sZ ?_ GE395.out|refine sZ ?_ GE401.out|refine sZ ?_ GE407.out|refine sZ ?_ GE417.out)|exact HB.out)⟩
    (try clear HO_396001)
    (try clear HO_402001)
    (try clear HO_408001)
    (try clear HO410)
    (try clear HO415)
    (try clear BK395)
    (try clear BK401)
    (try clear BK407)
    (try clear BK417)
    (try clear HB)
    generalize ((w62.setCell ⟨gb417,0,none⟩ (.int .i64 t412)).setCell ⟨gb417,1,none⟩ (.slice Ao67 t413.length co67)) = w68 at n0_ n1_ n2_ n3_ n4_ n5_ n6_ n7_ n8_ n9_ ⊢
    have HO_396001:=n0_
    have HO_402001:=n1_
    have HO_408001:=n2_
    have HO410:=n3_
    have HO415:=n4_
    have BK395:=n5_
    have BK401:=n6_
    have BK407:=n7_
    have BK417:=n8_
    have HB:=n9_
    clear n0_ n1_ n2_ n3_ n4_ n5_ n6_ n7_ n8_ n9_
    have n0_:=mk0 (dR HO_396001.out)
    have n1_:=mk0 (dR HO_402001.out)
    have n2_:=mk0 (dR HO_408001.out)
    have n3_:=mk0 (dR HO410.out)
    have n4_:=mk0 (dR HO415.out)
    have n5_:=mk0 (dB BK395.out)
    have n6_:=mk0 (dB BK401.out)
    have n7_:=mk0 (dB BK407.out)
    have n8_:=mk0 (dB BK417.out)
    have n9_:=mk0 (dZ HB.out)
    clear HO_396001
    clear HO_402001
    clear HO_408001
    clear HO410
    clear HO415
    clear BK395
    clear BK401
    clear BK407
    clear BK417
    clear HB
    have HO_396001:=n0_
    have HO_402001:=n1_
    have HO_408001:=n2_
    have HO410:=n3_
    have HO415:=n4_
    have BK395:=n5_
    have BK401:=n6_
    have BK407:=n7_
    have BK417:=n8_
    have HB:=n9_
    clear n0_ n1_ n2_ n3_ n4_ n5_ n6_ n7_ n8_ n9_
    refine start_ (n:=21) (S:=fun w'=>w'.cell? ⟨gb407,0,none⟩ = some (.int .i64 t402) ∧ w'.cell? ⟨gb407,1,none⟩ = some (.slice Ao23 t403.length co23) ∧ w'.cell? ⟨gb417,0,none⟩ = some (.int .i64 t412) ∧ w'.cell? ⟨gb417,1,none⟩ = some (.slice Ao67 t413.length co67) ∧ w'.cell? ⟨gb395,0,none⟩ = some (.int .i64 t389) ∧ w'.cell? ⟨gb395,1,none⟩ = some (.slice Ao11 t390.length co11)) (ds:=[]) laws_FnMinsSet.m0 (by kernel_rfl) rfl rfl ⟨(blk_cell BK407.out 0).trans rfl,(blk_cell BK407.out 1).trans rfl,(blk_cell BK417.out 0).trans rfl,(blk_cell BK417.out 1).trans rfl,(blk_cell BK395.out 0).trans rfl,(blk_cell BK395.out 1).trans rfl⟩ (fun hHeld=>?_);refine with_tabW laws_FnMinsSet.tab11 laws_FnMinsSet.bits11 (fun HT_ HW_=>?_)
    generalize w68.drew = w69 at HO_396001 HO_402001 HO_408001 HO410 HO415 BK395 BK401 BK407 BK417 HB hHeld ⊢
    refine pure_ (i:=0) (N:=some 56) (v:=?_) (a':=?_) laws_FnMinsSet.m1 rfl rfl (any_of HT_.out (by kernel_rfl)) (fun _ _ _ h=>h) (Or.inl ⟨by rfl,?_⟩) ?_ ?_
    rotate_left
    ·intro w'
     go_simp
     with_reducible rfl
    rotate_left
    ·simp only [Act.put,sA,sO,sS,i64_w,i32_w]
     rfl
    refine pure_ (i:=2) (N:=some 58) (v:=?_) (a':=?_) laws_FnMinsSet.m2 rfl rfl (any_of HT_.out (by kernel_rfl)) (fun _ _ _ h=>h) (Or.inl ⟨by rfl,?_⟩) ?_ ?_
    rotate_left
    ·intro w'
     go_simp
     with_reducible rfl
    rotate_left
    ·simp only [Act.put,sA,sO,sS,i64_w,i32_w]
     rfl
    refine take_ (i:=1) (N:=some 57) (v:=?_) (a':=?_) laws_FnMinsSet.m3 rfl rfl (take_ofW HT_.out HW_.out (by kernel_rfl)) (fun _ _ _ h=>h) (Or.inl ⟨by rfl,?_⟩) hHeld ?_ ?_
    rotate_left
    ·rintro w' ⟨s0,s1,s2,s3,s4,s5⟩
     go_simp
     with_reducible rfl
    rotate_left
    ·simp only [Act.put,sA,sO,sS,i64_w,i32_w]
     rfl
    refine take_ (i:=3) (N:=some 59) (v:=?_) (a':=?_) laws_FnMinsSet.m4 rfl rfl (take_ofW HT_.out HW_.out (by kernel_rfl)) (fun _ _ _ h=>h) (Or.inl ⟨by rfl,?_⟩) hHeld ?_ ?_
    rotate_left
    ·rintro w' ⟨s0,s1,s2,s3,s4,s5⟩
     go_simp
     with_reducible rfl
    rotate_left
    ·simp only [Act.put,sA,sO,sS,i64_w,i32_w]
     rfl
    refine one_ (i:=4) (N:=some 60) laws_FnMinsSet.m5 rfl rfl (one_of HT_.out (by kernel_rfl)) (by decide) (fun K hK=>?_)
    refine goes_ Try.func34 (by kernel_rfl) rfl #[.slice Ao23 t403.length co23,.slice Ao67 t413.length co67] (by rfl) rfl rfl (by (try simp only [mA,mC,mN]);first|done|rfl|(simp only [List.length_drop,List.length_take];rfl)) ?_
    with_reducible refine (laws_same.calls kj6 _ _ t403 _ _ t413 true _ ?side1 ?side2 ?side3 ?side4 A31.out).mono ?_
    (case side1=>repeat (first|exact (Kd.R_reads' HO_408001.out).2.2|(with_reducible first|apply aC|apply nC|apply dC)))
    (case side2=>exact (Kd.R_reads' HO_408001.out).2.1)
    (case side3=>repeat (first|exact (Kd.R_reads' HO415.out).2.2|(with_reducible first|apply aC|apply nC|apply dC)))
    (case side4=>exact (Kd.R_reads' HO415.out).2.1)
    rintro e w' ⟨rfl,⟨nd,rfl⟩⟩
    refine⟨_,rfl,?_⟩
    refine hK.out _ _ ⟨(blk_cell BK407.out 0).trans rfl,(blk_cell BK407.out 1).trans rfl,(blk_cell BK417.out 0).trans rfl,(blk_cell BK417.out 1).trans rfl,(blk_cell BK395.out 0).trans rfl,(blk_cell BK395.out 1).trans rfl⟩ (fun hHeld=>?_)
    clear hK K
    refine norm_ (a':=?_) ?_ ?_
    rotate_left
    ·show Act.put _ (some 60) _ = _
     simp only [Act.put,sA,sO,sS,i64_w,i32_w]
     rfl
    refine pure_ (i:=5) (N:=some 61) (v:=?_) (a':=?_) laws_FnMinsSet.m6 rfl rfl (any_of HT_.out (by kernel_rfl)) (fun _ _ _ h=>h) (Or.inl ⟨by rfl,?_⟩) ?_ ?_
    rotate_left
    ·intro w'
     go_simp
     with_reducible rfl
    rotate_left
    ·simp only [Act.put,sA,sO,sS,i64_w,i32_w]
     rfl
    refine pure_ (i:=7) (N:=some 63) (v:=?_) (a':=?_) laws_FnMinsSet.m22 rfl rfl (any_of HT_.out (by kernel_rfl)) (fun _ _ _ h=>h) (Or.inl ⟨by rfl,?_⟩) ?_ ?_
    rotate_left
    ·intro w'
     go_simp
     with_reducible rfl
    rotate_left
    ·simp only [Act.put,sA,sO,sS,i64_w,i32_w]
     rfl
    refine pure_ (i:=11) (N:=some 67) (v:=?_) (a':=?_) laws_FnMinsSet.m23 rfl rfl (any_of HT_.out (by kernel_rfl)) (fun _ _ _ h=>h) (Or.inl ⟨by rfl,?_⟩) ?_ ?_
    rotate_left
    ·intro w'
     go_simp
     with_reducible rfl
    rotate_left
    ·simp only [Act.put,sA,sO,sS,i64_w,i32_w]
     rfl
    refine take_ (i:=6) (N:=some 62) (v:=?_) (a':=?_) laws_FnMinsSet.m24 rfl rfl (take_ofW HT_.out HW_.out (by kernel_rfl)) (fun _ _ _ h=>h) (Or.inl ⟨by rfl,?_⟩) hHeld ?_ ?_
    rotate_left
    ·rintro w' ⟨s0,s1,s2,s3,s4,s5⟩
     go_simp
     with_reducible rfl
    rotate_left
    ·simp only [Act.put,sA,sO,sS,i64_w,i32_w]
     rfl
    refine take_ (i:=8) (N:=some 64) (v:=?_) (a':=?_) laws_FnMinsSet.m25 rfl rfl (take_ofW HT_.out HW_.out (by kernel_rfl)) (fun _ _ _ h=>h) (Or.inl ⟨by rfl,?_⟩) hHeld ?_ ?_
    rotate_left
    ·rintro w' ⟨s0,s1,s2,s3,s4,s5⟩
     go_simp
     with_reducible rfl
    rotate_left
    ·simp only [Act.put,sA,sO,sS,i64_w,i32_w]
     rfl
    refine take_ (i:=10) (N:=some 66) (v:=?_) (a':=?_) laws_FnMinsSet.m26 rfl rfl (take_ofW HT_.out HW_.out (by kernel_rfl)) (fun _ _ _ h=>h) (Or.inl ⟨by rfl,?_⟩) hHeld ?_ ?_
    rotate_left
    ·rintro w' ⟨s0,s1,s2,s3,s4,s5⟩
     go_simp
     with_reducible rfl
    rotate_left
    ·simp only [Act.put,sA,sO,sS,i64_w,i32_w]
     rfl
    refine take_ (i:=12) (N:=some 68) (v:=?_) (a':=?_) laws_FnMinsSet.m27 rfl rfl (take_ofW HT_.out HW_.out (by kernel_rfl)) (fun _ _ _ h=>h) (Or.inl ⟨by rfl,?_⟩) hHeld ?_ ?_
    rotate_left
    ·rintro w' ⟨s0,s1,s2,s3,s4,s5⟩
     go_simp
     with_reducible rfl
    rotate_left
    ·simp only [Act.put,sA,sO,sS,i64_w,i32_w]
     rfl
    refine one_ (i:=9) (N:=some 65) laws_FnMinsSet.m13 rfl rfl (one_of HT_.out (by kernel_rfl)) (by decide) (fun K hK=>?_)
    refine goes_ Try.func26 (by kernel_rfl) rfl #[.agg #[.int .i64 t402,.slice Ao23 t403.length co23],.int .i64 0,.int .i64 t389] (by rfl) rfl rfl (by (try simp only [mA,mC,mN]);first|done|rfl|(simp only [List.length_drop,List.length_take];rfl)) ?_
    with_reducible refine (impl_MinsRange.calls kj6 t402 _ _ t403 0 t389 t419 _ ?side1 ?side2 A33.out).mono ?_
    (case side1=>repeat (first|exact (Kd.R_reads' HO_408001.out).2.2|(with_reducible first|apply aC|apply nC|apply dC)))
    (case side2=>exact (Kd.R_reads' HO_408001.out).2.1)
    rintro e w70 ⟨rfl,hb⟩
    refine⟨_,rfl,?_⟩
    have n0_:=mk0 (Kd.R_below (by (with_reducible repeat (first|apply aR|apply nR|apply dR));exact HO_396001.out) hb)
    have n1_:=mk0 (Kd.R_below (by (with_reducible repeat (first|apply aR|apply nR|apply dR));exact HO_402001.out) hb)
    have n2_:=mk0 (Kd.R_below (by (with_reducible repeat (first|apply aR|apply nR|apply dR));exact HO_408001.out) hb)
    have n3_:=mk0 (Kd.R_below (by (with_reducible repeat (first|apply aR|apply nR|apply dR));exact HO410.out) hb)
    have n4_:=mk0 (Kd.R_below (by (with_reducible repeat (first|apply aR|apply nR|apply dR));exact HO415.out) hb)
    have n5_:=mk0 (blk_below (g:=gb395) (o:=.cells #[.int .i64 t389,.slice Ao11 t390.length co11] 24 (0,0)) (by (with_reducible repeat (first|apply nB|apply dB|apply aB));exact BK395.out) hb)
    have n6_:=mk0 (blk_below (g:=gb401) (o:=.cells #[.int .i64 t396,.slice Ao16 t397.length co16] 24 (0,0)) (by (with_reducible repeat (first|apply nB|apply dB|apply aB));exact BK401.out) hb)
    have n7_:=mk0 (blk_below (g:=gb407) (o:=.cells #[.int .i64 t402,.slice Ao23 t403.length co23] 24 (0,0)) (by (with_reducible repeat (first|apply nB|apply dB|apply aB));exact BK407.out) hb)
    have n8_:=mk0 (blk_below (g:=gb417) (o:=.cells #[.int .i64 t412,.slice Ao67 t413.length co67] 24 (0,0)) (by (with_reducible repeat (first|apply nB|apply dB|apply aB));exact BK417.out) hb)
    have n9_:=mk0 (below_step (by repeat (first|(with_reducible first|exact HB.out|apply aZ|apply nZ|apply dZ|refine sZ ?_ GE395.out|refine sZ ?_ GE401.out|refine sZ ?_ GE407.out|refine sZ ?_ GE417.out)|exact HB.out)) hb)
    clear HO_396001
    clear HO_402001
    clear HO_408001
    clear HO410
    clear HO415
    clear BK395
    clear BK401
    clear BK407
    clear BK417
    clear HB
    have HO_396001:=n0_
    have HO_402001:=n1_
    have HO_408001:=n2_
    have HO410:=n3_
    have HO415:=n4_
    have BK395:=n5_
    have BK401:=n6_
    have BK407:=n7_
    have BK417:=n8_
    have HB:=n9_
    clear n0_ n1_ n2_ n3_ n4_ n5_ n6_ n7_ n8_ n9_
    (try clear hb)
    (try clear hb2)
    (try clear hk)
    (try clear hi)
    refine hK.out _ _ ⟨(blk_cell BK407.out 0).trans rfl,(blk_cell BK407.out 1).trans rfl,(blk_cell BK417.out 0).trans rfl,(blk_cell BK417.out 1).trans rfl,(blk_cell BK395.out 0).trans rfl,(blk_cell BK395.out 1).trans rfl⟩ (fun hHeld=>?_)
    clear hK K
    refine norm_ (a':=?_) ?_ ?_
    rotate_left
    ·show Act.put _ (some 65) _ = _
     simp only [Act.put,sA,sO,sS,i64_w,i32_w]
     rfl
    refine one_ (i:=13) (N:=some 69) laws_FnMinsSet.m14 rfl rfl (one_of HT_.out (by kernel_rfl)) (by decide) (fun K hK=>?_)
    refine goes_ Try.func25 (by kernel_rfl) rfl #[.agg #[.int .i64 t412,.slice Ao67 t413.length co67],.int .i64 0,.int .i64 t389] (by rfl) rfl rfl (by (try simp only [mA,mC,mN]);first|done|rfl|(simp only [List.length_drop,List.length_take];rfl)) ?_
    with_reducible refine (spec_MinsRange.calls kj6 t412 _ _ t413 0 t389 t420 _ ?side1 ?side2 A34.out).mono ?_
    (case side1=>repeat (first|exact (Kd.R_reads' HO415.out).2.2|(with_reducible first|apply aC|apply nC|apply dC)))
    (case side2=>exact (Kd.R_reads' HO415.out).2.1)
    rintro e w71 ⟨rfl,hb⟩
    refine⟨_,rfl,?_⟩
    have n0_:=mk0 (Kd.R_below (by (with_reducible repeat (first|apply aR|apply nR|apply dR));exact HO_396001.out) hb)
    have n1_:=mk0 (Kd.R_below (by (with_reducible repeat (first|apply aR|apply nR|apply dR));exact HO_402001.out) hb)
    have n2_:=mk0 (Kd.R_below (by (with_reducible repeat (first|apply aR|apply nR|apply dR));exact HO_408001.out) hb)
    have n3_:=mk0 (Kd.R_below (by (with_reducible repeat (first|apply aR|apply nR|apply dR));exact HO410.out) hb)
    have n4_:=mk0 (Kd.R_below (by (with_reducible repeat (first|apply aR|apply nR|apply dR));exact HO415.out) hb)
    have n5_:=mk0 (blk_below (g:=gb395) (o:=.cells #[.int .i64 t389,.slice Ao11 t390.length co11] 24 (0,0)) (by (with_reducible repeat (first|apply nB|apply dB|apply aB));exact BK395.out) hb)
    have n6_:=mk0 (blk_below (g:=gb401) (o:=.cells #[.int .i64 t396,.slice Ao16 t397.length co16] 24 (0,0)) (by (with_reducible repeat (first|apply nB|apply dB|apply aB));exact BK401.out) hb)
    have n7_:=mk0 (blk_below (g:=gb407) (o:=.cells #[.int .i64 t402,.slice Ao23 t403.length co23] 24 (0,0)) (by (with_reducible repeat (first|apply nB|apply dB|apply aB));exact BK407.out) hb)
    have n8_:=mk0 (blk_below (g:=gb417) (o:=.cells #[.int .i64 t412,.slice Ao67 t413.length co67] 24 (0,0)) (by (with_reducible repeat (first|apply nB|apply dB|apply aB));exact BK417.out) hb)
    have n9_:=mk0 (below_step (by repeat (first|(with_reducible first|exact HB.out|apply aZ|apply nZ|apply dZ|refine sZ ?_ GE395.out|refine sZ ?_ GE401.out|refine sZ ?_ GE407.out|refine sZ ?_ GE417.out)|exact HB.out)) hb)
    clear HO_396001
    clear HO_402001
    clear HO_408001
    clear HO410
    clear HO415
    clear BK395
    clear BK401
    clear BK407
    clear BK417
    clear HB
    have HO_396001:=n0_
    have HO_402001:=n1_
    have HO_408001:=n2_
    have HO410:=n3_
    have HO415:=n4_
    have BK395:=n5_
    have BK401:=n6_
    have BK407:=n7_
    have BK417:=n8_
    have HB:=n9_
    clear n0_ n1_ n2_ n3_ n4_ n5_ n6_ n7_ n8_ n9_
    (try clear hb)
    (try clear hb2)
    (try clear hk)
    (try clear hi)
    refine hK.out _ _ ⟨(blk_cell BK407.out 0).trans rfl,(blk_cell BK407.out 1).trans rfl,(blk_cell BK417.out 0).trans rfl,(blk_cell BK417.out 1).trans rfl,(blk_cell BK395.out 0).trans rfl,(blk_cell BK395.out 1).trans rfl⟩ (fun hHeld=>?_)
    clear hK K
    refine norm_ (a':=?_) ?_ ?_
    rotate_left
    ·show Act.put _ (some 69) _ = _
     simp only [Act.put,sA,sO,sS,i64_w,i32_w]
     rfl
    refine pure_ (i:=14) (N:=some 70) (v:=?_) (a':=?_) laws_FnMinsSet.m15 rfl rfl (any_of HT_.out (by kernel_rfl)) (fun _ _ _ h=>h) (Or.inl ⟨by rfl,?_⟩) ?_ ?_
    rotate_left
    ·intro w'
     go_simp
     with_reducible rfl
    rotate_left
    ·simp only [Act.put,sA,sO,sS,i64_w,i32_w]
     rfl
    refine pure_ (i:=15) (N:=some 71) (v:=?_) (a':=?_) laws_FnMinsSet.m16 rfl rfl (any_of HT_.out (by kernel_rfl)) (fun _ _ _ h=>h) (Or.inl ⟨by rfl,?_⟩) ?_ ?_
    rotate_left
    ·intro w'
     go_simp
     with_reducible rfl
    rotate_left
    ·simp only [Act.put,sA,sO,sS,i64_w,i32_w]
     rfl
    refine pure_ (i:=16) (N:=some 72) (v:=?_) (a':=?_) laws_FnMinsSet.m17 rfl rfl (any_of HT_.out (by kernel_rfl)) (fun _ _ _ h=>h) (Or.inl ⟨by rfl,?_⟩) ?_ ?_
    rotate_left
    ·intro w'
     go_simp
     with_reducible rfl
    rotate_left
    ·simp only [Act.put,sA,sO,sS,i64_w,i32_w]
     rfl
    refine pure_ (i:=17) (N:=some 73) (v:=undef) (a':=?_) laws_FnMinsSet.m18 rfl rfl (any_of HT_.out (by kernel_rfl)) (fun _ _ _ h=>h) (Or.inr ⟨by rfl,rfl⟩) ?_ ?_
    rotate_left
    ·simp only [Act.put,sA,sO,sS,i64_w,i32_w]
     rfl
    refine pure_ (i:=18) (N:=some 74) (v:=undef) (a':=?_) laws_FnMinsSet.m19 rfl rfl (any_of HT_.out (by kernel_rfl)) (fun _ _ _ h=>h) (Or.inr ⟨by rfl,rfl⟩) ?_ ?_
    rotate_left
    ·simp only [Act.put,sA,sO,sS,i64_w,i32_w]
     rfl
    refine pure_ (i:=19) (N:=some 75) (v:=?_) (a':=?_) laws_FnMinsSet.m20 rfl rfl (any_of HT_.out (by kernel_rfl)) (fun _ _ _ h=>h) (Or.inl ⟨by rfl,?_⟩) ?_ ?_
    rotate_left
    ·intro w'
     go_simp
     with_reducible rfl
    rotate_left
    ·simp only [Act.put,sA,sO,sS,i64_w,i32_w]
     rfl
    refine pure_ (i:=20) (N:=some 2) (v:=?_) (a':=?_) laws_FnMinsSet.m21 rfl rfl (any_of HT_.out (by kernel_rfl)) (fun _ _ _ h=>h) (Or.inl ⟨by rfl,?_⟩) ?_ ?_
    rotate_left
    ·intro w'
     go_simp
     with_reducible rfl
    rotate_left
    ·simp only [Act.put,sA,sO,sS,i64_w,i32_w]
     rfl
    refine done_ (done_of HT_.out (by kernel_rfl)) ?_
    try go_wp2
    go_ret
    exact⟨by first|rfl|(simp [errW_none,errW_some] <;> rfl)|(simp [*,errW_none,errW_some] <;> rfl),by repeat (first|(with_reducible first|exact HB.out|apply aZ|apply nZ|apply dZ|refine sZ ?_ GE395.out|refine sZ ?_ GE401.out|refine sZ ?_ GE407.out|refine sZ ?_ GE417.out)|exact HB.out)⟩
   rw [if_pos c35] at H
   have c35b0:(t419 == t420) = true:=beq_iff_eq.mpr c35
   have c35b1:(t419 != t420) = false:=bne_eq_false_iff_eq.mpr c35
   clear c35
   replace H:=Option.bind_eq_some_iff.mp H
   obtain⟨t421,A360,H⟩:=H
   replace H:(some t421) = some r:=H
   have A36:=mk0 A360
   clear A360
   obtain rfl:=Option.some.inj H
   have hnb37:=NB395_401.out
   have hnc37:=NB401_395.out
   have hnb38:=NB395_407.out
   have hnc38:=NB407_395.out
   have hcz39_0:wc.cell? ⟨gb395,0,none⟩ = some (.int .i64 t389):=(blk_cell BK395.out 0).trans rfl
   have hcz39_1:wc.cell? ⟨gb395,1,none⟩ = some (.slice Ao11 t390.length co11):=(blk_cell BK395.out 1).trans rfl
   have hfz39_0:=blk_frozen BK395.out 0
   have hfz39_1:=blk_frozen BK395.out 1
   try go_wp2_with (first|((with_reducible refine gate_callee (f:=27) rfl ?_);refine goesL_ (some 46) rfl rfl Try.func27 (by kernel_rfl) rfl #[.agg #[.int .i64 t389,.slice Ao11 t390.length co11]] rfl (by (try simp only [mA,mC,mN]);first|done|rfl|(simp only [List.length_drop,List.length_take];rfl)) ?_;(with_reducible refine (spec_MinsList.calls kj6 t389 _ _ t390 t408 _ ?side1 ?side2 A26.out).mono ?_);(case side1=>repeat (first|exact (Kd.R_reads' HO_396001.out).2.2|(with_reducible first|apply aC|apply nC|apply dC)));(case side2=>exact (Kd.R_reads' HO_396001.out).2.1);rintro e w40 ⟨v409,rfl,ho0,hb⟩;refine⟨_,rfl,?_⟩;have n0_:=mk0 (Kd.R_elder' (by (with_reducible repeat (first|apply aR|apply nR|apply dR));exact HO_396001.out) (Kd.R_base ho0) hb);have n1_:=mk0 (Kd.R_elder' (by (with_reducible repeat (first|apply aR|apply nR|apply dR));exact HO_402001.out) (Kd.R_base ho0) hb);have n2_:=mk0 (Kd.R_elder' (by (with_reducible repeat (first|apply aR|apply nR|apply dR));exact HO_408001.out) (Kd.R_base ho0) hb);have n3_:=mk0 (Kd.R_lower (Kd.R_new' (Kd.R_new' (Kd.R_new' ho0 (Kd.R_lt (by (with_reducible repeat (first|apply aR|apply nR|apply dR));exact HO_396001.out))) (Kd.R_lt (by (with_reducible repeat (first|apply aR|apply nR|apply dR));exact HO_402001.out))) (Kd.R_lt (by (with_reducible repeat (first|apply aR|apply nR|apply dR));exact HO_408001.out))) (below_size (by repeat (first|(with_reducible first|exact HB.out|apply aZ|apply nZ|apply dZ|refine sZ ?_ GE395.out|refine sZ ?_ GE401.out|refine sZ ?_ GE407.out)|exact HB.out))));have n4_:=mk0 (blk_below (g:=gb395) (o:=.cells #[.int .i64 t389,.slice Ao11 t390.length co11] 24 (0,0)) (by (with_reducible repeat (first|apply nB|apply dB|apply aB));exact BK395.out) hb);have n5_:=mk0 (blk_below (g:=gb401) (o:=.cells #[.int .i64 t396,.slice Ao16 t397.length co16] 24 (0,0)) (by (with_reducible repeat (first|apply nB|apply dB|apply aB));exact BK401.out) hb);have n6_:=mk0 (blk_below (g:=gb407) (o:=.cells #[.int .i64 t402,.slice Ao23 t403.length co23] 24 (0,0)) (by (with_reducible repeat (first|apply nB|apply dB|apply aB));exact BK407.out) hb);have n7_:=mk0 (below_step (by repeat (first|(with_reducible first|exact HB.out|apply aZ|apply nZ|apply dZ|refine sZ ?_ GE395.out|refine sZ ?_ GE401.out|refine sZ ?_ GE407.out)|exact HB.out)) hb);clear HO_396001 HO_402001 HO_408001 BK395 BK401 BK407 HB;have HO_396001:=n0_;have HO_402001:=n1_;have HO_408001:=n2_;have HO410:=n3_;have BK395:=n4_;have BK401:=n5_;have BK407:=n6_;have HB:=n7_;clear n0_ n1_ n2_ n3_ n4_ n5_ n6_ n7_;(try clear hb);(try clear hb2);(try clear hk);(try clear hi);(try clear ho0);have p29:0 ≤ (t393:Int):=of_decide_eq_true (by first|(with_reducible assumption)|assumption);have q29:(t393:Int) < ((t408.length:Int):Int):=of_decide_eq_true (by first|(with_reducible assumption)|assumption);obtain⟨go29,co29,eo29,gb29,gl29,cl29,HG29⟩:=Kd.R_form HO410.out (by omega);(first|cases eo29|(injection eo29 with ea_ en_ ec_;(first|subst ea_|(injection ea_ with ea_;subst ea_));subst ec_;clear en_));have GB29:=mk0 gb29;have GG29:=mk0 HG29;clear gb29 gl29 HG29;obtain⟨hx29_0,hf29_0⟩:=Kd.R_celln 0 HO410.out (t393:Int) p29 q29;replace p29:=eq_true p29;replace q29:=eq_true q29;have n_:=mk0 (Kd.R_mono (ok':=(fun k_=>some k_ ≠ (.slice Ao11 t390.length co11:Value).ownBlock ∧ some k_ ≠ (.slice Ao16 t397.length co16:Value).ownBlock ∧ some k_ ≠ (.slice Ao23 t403.length co23:Value).ownBlock)) HO410.out (fun k_ hk=>⟨hk.1.1.2,⟨hk.1.2,hk.2⟩⟩));clear HO410;have HO410:=n_;clear n_;obtain⟨hy41_,hz41_⟩:=Kd.R_celln 0 HO410.out (t393:Int) (of_decide_eq_true (by first|(with_reducible assumption)|assumption)) (of_decide_eq_true (by first|(with_reducible assumption)|assumption));have HP41:=Kd.R_putg HO410.out (t393:Int) t394)|((with_reducible refine gate_store (t:=3) (p:=50) rfl ?_);refine store_event (t:=3) (p:=50) (v:=?vo_w42) (w1:=(w40.setCell ⟨go29,(t393:Int).toNat,none⟩ (.int .i64 t394))) ?hg ?ho ?hn ?hr ?_;(case ho=>rfl);(case hg=>rfl);(case hn=>rfl);(case hr=>first|(go_simp;done)|(go_simp;rfl));intro w42 hw;have hg:w40.grownBy w42 (some go29):=(by rw [hw];exact HP41.2);have hp_:Kd.R (Kd.int .i64) 3 w42 w.heap.size (fun k_=>some k_ ≠ (.slice Ao11 t390.length co11:Value).ownBlock ∧ some k_ ≠ (.slice Ao16 t397.length co16:Value).ownBlock ∧ some k_ ≠ (.slice Ao23 t403.length co23:Value).ownBlock) (.slice (some ⟨go29,0,none⟩) t408.length co29) y411:=(by rw [hw,Ny411.out];exact HP41.1);clear HP41;have n0_:=mk0 (Kd.R_after (v:=(.slice (some ⟨go29,0,none⟩) t408.length co29)) (v1:=(.slice (some ⟨go29,0,none⟩) t408.length co29)) (ok:=(fun k_=>some k_ ≠ (.slice Ao16 t397.length co16:Value).ownBlock ∧ some k_ ≠ (.slice Ao23 t403.length co23:Value).ownBlock)) (by (with_reducible repeat (first|apply aR|apply nR|apply dR));exact HO_396001.out) hg (.inl rfl));have n1_:=mk0 (Kd.R_after (v:=(.slice (some ⟨go29,0,none⟩) t408.length co29)) (v1:=(.slice (some ⟨go29,0,none⟩) t408.length co29)) (ok:=(fun k_=>some k_ ≠ (.slice Ao11 t390.length co11:Value).ownBlock ∧ some k_ ≠ (.slice Ao23 t403.length co23:Value).ownBlock)) (by (with_reducible repeat (first|apply aR|apply nR|apply dR));exact HO_402001.out) hg (.inl rfl));have n2_:=mk0 (Kd.R_after (v:=(.slice (some ⟨go29,0,none⟩) t408.length co29)) (v1:=(.slice (some ⟨go29,0,none⟩) t408.length co29)) (ok:=(fun k_=>some k_ ≠ (.slice Ao11 t390.length co11:Value).ownBlock ∧ some k_ ≠ (.slice Ao16 t397.length co16:Value).ownBlock)) (by (with_reducible repeat (first|apply aR|apply nR|apply dR));exact HO_408001.out) hg (.inl rfl));have n3_:=mk0 (blk_grown (g:=gb395) (o:=.cells #[.int .i64 t389,.slice Ao11 t390.length co11] 24 (0,0)) (by (with_reducible repeat (first|apply nB|apply dB|apply aB));exact BK395.out) hg (Kd.R_ne HO410.out BK395.out (by decide)));have n4_:=mk0 (blk_grown (g:=gb401) (o:=.cells #[.int .i64 t396,.slice Ao16 t397.length co16] 24 (0,0)) (by (with_reducible repeat (first|apply nB|apply dB|apply aB));exact BK401.out) hg (Kd.R_ne HO410.out BK401.out (by decide)));have n5_:=mk0 (blk_grown (g:=gb407) (o:=.cells #[.int .i64 t402,.slice Ao23 t403.length co23] 24 (0,0)) (by (with_reducible repeat (first|apply nB|apply dB|apply aB));exact BK407.out) hg (Kd.R_ne HO410.out BK407.out (by decide)));have n6_:=mk0 (hp_);have n7_:=mk0 ((by rw [hw];exact sZ (HB.out) GB29.out:Below w.heap.size w w42));clear HO_396001 HO_402001 HO_408001 BK395 BK401 BK407 HO410 HB;have HO_396001:=n0_;have HO_402001:=n1_;have HO_408001:=n2_;have BK395:=n3_;have BK401:=n4_;have BK407:=n5_;have HO410:=n6_;have HB:=n7_;clear n0_ n1_ n2_ n3_ n4_ n5_ n6_ n7_ hg hw hp_)|((with_reducible refine gate_callee (f:=11) rfl ?_);refine goesL_ (some 53) rfl rfl Try.func11 (by kernel_rfl) rfl #[.slice (some ⟨go29,0,none⟩) y411.length co29] rfl (by (try simp only [mA,mC,mN]);first|done|(rw [show y411.length = t408.length from (Kd.R_reads' HO410.out).1.symm] <;> rfl)|rfl|(simp only [List.length_drop,List.length_take];rfl)) ?_;(with_reducible refine (spec_MinsOf.calls kj6 _ _ y411 t412 t413 t416 _ ?side1 ?side2 A30.out).mono ?_);(case side1=>repeat (first|exact (Kd.R_reads' HO410.out).2.2|(with_reducible first|apply aC|apply nC|apply dC)));(case side2=>rw [show y411.length = t408.length from (Kd.R_reads' HO410.out).1.symm];exact (Kd.R_reads' HO410.out).2.1);rintro e w43 ⟨v414,rfl,ho0,hb⟩;refine⟨_,rfl,?_⟩;have n0_:=mk0 (Kd.R_elder' (by (with_reducible repeat (first|apply aR|apply nR|apply dR));exact HO_396001.out) (Kd.R_base ho0) hb);have n1_:=mk0 (Kd.R_elder' (by (with_reducible repeat (first|apply aR|apply nR|apply dR));exact HO_402001.out) (Kd.R_base ho0) hb);have n2_:=mk0 (Kd.R_elder' (by (with_reducible repeat (first|apply aR|apply nR|apply dR));exact HO_408001.out) (Kd.R_base ho0) hb);have n3_:=mk0 (Kd.R_elder' (by (with_reducible repeat (first|apply aR|apply nR|apply dR));exact HO410.out) (Kd.R_base ho0) hb);have n4_:=mk0 (Kd.R_lower (Kd.R_new' (Kd.R_new' (Kd.R_new' (Kd.R_new' ho0 (Kd.R_lt (by (with_reducible repeat (first|apply aR|apply nR|apply dR));exact HO_396001.out))) (Kd.R_lt (by (with_reducible repeat (first|apply aR|apply nR|apply dR));exact HO_402001.out))) (Kd.R_lt (by (with_reducible repeat (first|apply aR|apply nR|apply dR));exact HO_408001.out))) (Kd.R_lt (by (with_reducible repeat (first|apply aR|apply nR|apply dR));exact HO410.out))) (below_size (by repeat (first|(with_reducible first|exact HB.out|apply aZ|apply nZ|apply dZ|refine sZ ?_ GE395.out|refine sZ ?_ GE401.out|refine sZ ?_ GE407.out)|exact HB.out))));have n5_:=mk0 (blk_below (g:=gb395) (o:=.cells #[.int .i64 t389,.slice Ao11 t390.length co11] 24 (0,0)) (by (with_reducible repeat (first|apply nB|apply dB|apply aB));exact BK395.out) hb);have n6_:=mk0 (blk_below (g:=gb401) (o:=.cells #[.int .i64 t396,.slice Ao16 t397.length co16] 24 (0,0)) (by (with_reducible repeat (first|apply nB|apply dB|apply aB));exact BK401.out) hb);have n7_:=mk0 (blk_below (g:=gb407) (o:=.cells #[.int .i64 t402,.slice Ao23 t403.length co23] 24 (0,0)) (by (with_reducible repeat (first|apply nB|apply dB|apply aB));exact BK407.out) hb);have n8_:=mk0 (below_step (by repeat (first|(with_reducible first|exact HB.out|apply aZ|apply nZ|apply dZ|refine sZ ?_ GE395.out|refine sZ ?_ GE401.out|refine sZ ?_ GE407.out)|exact HB.out)) hb);clear HO_396001 HO_402001 HO_408001 HO410 BK395 BK401 BK407 HB;have HO_396001:=n0_;have HO_402001:=n1_;have HO_408001:=n2_;have HO410:=n3_;have HO415:=n4_;have BK395:=n5_;have BK401:=n6_;have BK407:=n7_;have HB:=n8_;clear n0_ n1_ n2_ n3_ n4_ n5_ n6_ n7_ n8_;(try clear hb);(try clear hb2);(try clear hk);(try clear hi);(try clear ho0))|((with_reducible refine gate_dst (N:=11) rfl ?_);refine box_event ?hg (N:=11) ?hd (cs:=#[.int .i64 0,.slice none 0 0]) (t:=24) ?hr ?_;(case hd=>rfl);(case hg=>rfl);(case hr=>first|(go_simp;done)|(go_simp;rfl));intro gb417 hg w44 hbox hb;have n0_:=mk0 (Kd.R_below (by (with_reducible repeat (first|apply aR|apply nR|apply dR));exact HO_396001.out) hb);have n1_:=mk0 (Kd.R_below (by (with_reducible repeat (first|apply aR|apply nR|apply dR));exact HO_402001.out) hb);have n2_:=mk0 (Kd.R_below (by (with_reducible repeat (first|apply aR|apply nR|apply dR));exact HO_408001.out) hb);have n3_:=mk0 (Kd.R_below (by (with_reducible repeat (first|apply aR|apply nR|apply dR));exact HO410.out) hb);have n4_:=mk0 (Kd.R_below (by (with_reducible repeat (first|apply aR|apply nR|apply dR));exact HO415.out) hb);have n5_:=mk0 (blk_below (g:=gb395) (o:=.cells #[.int .i64 t389,.slice Ao11 t390.length co11] 24 (0,0)) (by (with_reducible repeat (first|apply nB|apply dB|apply aB));exact BK395.out) hb);have n6_:=mk0 (blk_below (g:=gb401) (o:=.cells #[.int .i64 t396,.slice Ao16 t397.length co16] 24 (0,0)) (by (with_reducible repeat (first|apply nB|apply dB|apply aB));exact BK401.out) hb);have n7_:=mk0 (blk_below (g:=gb407) (o:=.cells #[.int .i64 t402,.slice Ao23 t403.length co23] 24 (0,0)) (by (with_reducible repeat (first|apply nB|apply dB|apply aB));exact BK407.out) hb);have n8_:=mk0 (below_step (by repeat (first|(with_reducible first|exact HB.out|apply aZ|apply nZ|apply dZ|refine sZ ?_ GE395.out|refine sZ ?_ GE401.out|refine sZ ?_ GE407.out)|exact HB.out)) hb);have n9_:=mk0 (hbox);have n10_:=mk0 ((by rw [hg];exact (below_size (by repeat (first|(with_reducible first|exact HB.out|apply aZ|apply nZ|apply dZ|refine sZ ?_ GE395.out|refine sZ ?_ GE401.out|refine sZ ?_ GE407.out)|exact HB.out))):w.heap.size ≤ gb417));have n11_:=mk0 ((by rw [hg];exact (below_size (by repeat (first|(with_reducible first|exact HB.out|apply aZ|apply nZ|apply dZ|refine sZ ?_ GE395.out|refine sZ ?_ GE401.out|refine sZ ?_ GE407.out)|exact HB.out))):w.heap.size ≤ gb417));have n12_:=mk0 ((by rw [hg];exact Nat.ne_of_lt (blk_lt (g:=gb395) (o:=.cells #[.int .i64 t389,.slice Ao11 t390.length co11] 24 (0,0)) (by (with_reducible repeat (first|apply nB|apply dB|apply aB));exact BK395.out)):gb395 ≠ gb417));have n13_:=mk0 ((by rw [hg];exact Nat.ne_of_gt (blk_lt (g:=gb395) (o:=.cells #[.int .i64 t389,.slice Ao11 t390.length co11] 24 (0,0)) (by (with_reducible repeat (first|apply nB|apply dB|apply aB));exact BK395.out)):gb417 ≠ gb395));have n14_:=mk0 ((by rw [hg];exact Nat.ne_of_lt (blk_lt (g:=gb401) (o:=.cells #[.int .i64 t396,.slice Ao16 t397.length co16] 24 (0,0)) (by (with_reducible repeat (first|apply nB|apply dB|apply aB));exact BK401.out)):gb401 ≠ gb417));have n15_:=mk0 ((by rw [hg];exact Nat.ne_of_gt (blk_lt (g:=gb401) (o:=.cells #[.int .i64 t396,.slice Ao16 t397.length co16] 24 (0,0)) (by (with_reducible repeat (first|apply nB|apply dB|apply aB));exact BK401.out)):gb417 ≠ gb401));have n16_:=mk0 ((by rw [hg];exact Nat.ne_of_lt (blk_lt (g:=gb407) (o:=.cells #[.int .i64 t402,.slice Ao23 t403.length co23] 24 (0,0)) (by (with_reducible repeat (first|apply nB|apply dB|apply aB));exact BK407.out)):gb407 ≠ gb417));have n17_:=mk0 ((by rw [hg];exact Nat.ne_of_gt (blk_lt (g:=gb407) (o:=.cells #[.int .i64 t402,.slice Ao23 t403.length co23] 24 (0,0)) (by (with_reducible repeat (first|apply nB|apply dB|apply aB));exact BK407.out)):gb417 ≠ gb407));clear HO_396001 HO_402001 HO_408001 HO410 HO415 BK395 BK401 BK407 HB;have HO_396001:=n0_;have HO_402001:=n1_;have HO_408001:=n2_;have HO410:=n3_;have HO415:=n4_;have BK395:=n5_;have BK401:=n6_;have BK407:=n7_;have HB:=n8_;have BK417:=n9_;have GW417:=n10_;have GE417:=n11_;have NB395_417:=n12_;have NB417_395:=n13_;have NB401_417:=n14_;have NB417_401:=n15_;have NB407_417:=n16_;have NB417_407:=n17_;clear n0_ n1_ n2_ n3_ n4_ n5_ n6_ n7_ n8_ n9_ n10_ n11_ n12_ n13_ n14_ n15_ n16_ n17_ hb hbox hg;have hnb45:=NB417_395.out;have hnc45:=NB395_417.out;have hnb46:=NB417_401.out;have hnc46:=NB401_417.out;have hnb47:=NB417_407.out;have hnc47:=NB407_417.out;have hcz48_0:w44.cell? ⟨gb417,0,none⟩ = some (.int .i64 0):=(blk_cell BK417.out 0).trans rfl;have hcz48_1:w44.cell? ⟨gb417,1,none⟩ = some (.slice none 0 0):=(blk_cell BK417.out 1).trans rfl;have hfz48_0:=blk_frozen BK417.out 0;have hfz48_1:=blk_frozen BK417.out 1;obtain⟨Ao49,co49,eo49⟩:=Kd.R_slice HO415.out;subst eo49))
   have n0_:Aside0 (Kd.R (Kd.int .i64) 3 ((w44.setCell ⟨gb417,0,none⟩ (.int .i64 t412)).setCell ⟨gb417,1,none⟩ (.slice Ao49 t413.length co49)) w.heap.size (fun k_=>some k_ ≠ (.slice Ao16 t397.length co16:Value).ownBlock ∧ some k_ ≠ (.slice Ao23 t403.length co23:Value).ownBlock ∧ some k_ ≠ (.slice (some ⟨go29,0,none⟩) t408.length co29:Value).ownBlock ∧ some k_ ≠ (.slice Ao49 t413.length co49:Value).ownBlock) (.slice Ao11 t390.length co11) t390):=⟨by (with_reducible repeat (first|apply aR|apply nR|apply dR));exact Kd.R_mono (Kd.R_far (p:=⟨gb417,1,none⟩) (Kd.R_far (p:=⟨gb417,0,none⟩) (Kd.R_types HO_396001.out BK417.out (by decide)) (fun _ hk=>hk.2) (.int .i64 t412)) (fun _ hk=>hk.2) (.slice Ao49 t413.length co49)) (fun _ hk=>⟨hk.1.1.1.1,⟨hk.1.1.1.2,⟨hk.1.1.2,hk.1.2⟩⟩⟩)⟩
   have n1_:Aside0 (Kd.R (Kd.int .i64) 3 ((w44.setCell ⟨gb417,0,none⟩ (.int .i64 t412)).setCell ⟨gb417,1,none⟩ (.slice Ao49 t413.length co49)) w.heap.size (fun k_=>some k_ ≠ (.slice Ao11 t390.length co11:Value).ownBlock ∧ some k_ ≠ (.slice Ao23 t403.length co23:Value).ownBlock ∧ some k_ ≠ (.slice (some ⟨go29,0,none⟩) t408.length co29:Value).ownBlock ∧ some k_ ≠ (.slice Ao49 t413.length co49:Value).ownBlock) (.slice Ao16 t397.length co16) t397):=⟨by (with_reducible repeat (first|apply aR|apply nR|apply dR));exact Kd.R_mono (Kd.R_far (p:=⟨gb417,1,none⟩) (Kd.R_far (p:=⟨gb417,0,none⟩) (Kd.R_types HO_402001.out BK417.out (by decide)) (fun _ hk=>hk.2) (.int .i64 t412)) (fun _ hk=>hk.2) (.slice Ao49 t413.length co49)) (fun _ hk=>⟨hk.1.1.1.1,⟨hk.1.1.1.2,⟨hk.1.1.2,hk.1.2⟩⟩⟩)⟩
   have n2_:Aside0 (Kd.R (Kd.int .i64) 3 ((w44.setCell ⟨gb417,0,none⟩ (.int .i64 t412)).setCell ⟨gb417,1,none⟩ (.slice Ao49 t413.length co49)) w.heap.size (fun k_=>some k_ ≠ (.slice Ao11 t390.length co11:Value).ownBlock ∧ some k_ ≠ (.slice Ao16 t397.length co16:Value).ownBlock ∧ some k_ ≠ (.slice (some ⟨go29,0,none⟩) t408.length co29:Value).ownBlock ∧ some k_ ≠ (.slice Ao49 t413.length co49:Value).ownBlock) (.slice Ao23 t403.length co23) t403):=⟨by (with_reducible repeat (first|apply aR|apply nR|apply dR));exact Kd.R_mono (Kd.R_far (p:=⟨gb417,1,none⟩) (Kd.R_far (p:=⟨gb417,0,none⟩) (Kd.R_types HO_408001.out BK417.out (by decide)) (fun _ hk=>hk.2) (.int .i64 t412)) (fun _ hk=>hk.2) (.slice Ao49 t413.length co49)) (fun _ hk=>⟨hk.1.1.1.1,⟨hk.1.1.1.2,⟨hk.1.1.2,hk.1.2⟩⟩⟩)⟩
   have n3_:Aside0 (Kd.R (Kd.int .i64) 3 ((w44.setCell ⟨gb417,0,none⟩ (.int .i64 t412)).setCell ⟨gb417,1,none⟩ (.slice Ao49 t413.length co49)) w.heap.size (fun k_=>some k_ ≠ (.slice Ao11 t390.length co11:Value).ownBlock ∧ some k_ ≠ (.slice Ao16 t397.length co16:Value).ownBlock ∧ some k_ ≠ (.slice Ao23 t403.length co23:Value).ownBlock ∧ some k_ ≠ (.slice Ao49 t413.length co49:Value).ownBlock) (.slice (some ⟨go29,0,none⟩) t408.length co29) y411):=⟨by (with_reducible repeat (first|apply aR|apply nR|apply dR));exact Kd.R_mono (Kd.R_far (p:=⟨gb417,1,none⟩) (Kd.R_far (p:=⟨gb417,0,none⟩) (Kd.R_types HO410.out BK417.out (by decide)) (fun _ hk=>hk.2) (.int .i64 t412)) (fun _ hk=>hk.2) (.slice Ao49 t413.length co49)) (fun _ hk=>⟨hk.1.1.1,⟨hk.1.1.2.1,⟨hk.1.1.2.2,hk.1.2⟩⟩⟩)⟩
   have n4_:Aside0 (Kd.R (Kd.int .i64) 3 ((w44.setCell ⟨gb417,0,none⟩ (.int .i64 t412)).setCell ⟨gb417,1,none⟩ (.slice Ao49 t413.length co49)) w.heap.size (fun k_=>some k_ ≠ (.slice Ao11 t390.length co11:Value).ownBlock ∧ some k_ ≠ (.slice Ao16 t397.length co16:Value).ownBlock ∧ some k_ ≠ (.slice Ao23 t403.length co23:Value).ownBlock ∧ some k_ ≠ (.slice (some ⟨go29,0,none⟩) t408.length co29:Value).ownBlock) (.slice Ao49 t413.length co49) t413):=⟨by (with_reducible repeat (first|apply aR|apply nR|apply dR));exact Kd.R_mono (Kd.R_far (p:=⟨gb417,1,none⟩) (Kd.R_far (p:=⟨gb417,0,none⟩) (Kd.R_types HO415.out BK417.out (by decide)) (fun _ hk=>hk.2) (.int .i64 t412)) (fun _ hk=>hk.2) (.slice Ao49 t413.length co49)) (fun _ hk=>⟨hk.1.1.1.1.2,⟨hk.1.1.1.2,⟨hk.1.1.2,hk.1.2⟩⟩⟩)⟩
   have n5_:Aside0 (((w44.setCell ⟨gb417,0,none⟩ (.int .i64 t412)).setCell ⟨gb417,1,none⟩ (.slice Ao49 t413.length co49)).heap[gb395]? = some (.cells #[.int .i64 t389,.slice Ao11 t390.length co11] 24 (0,0))):=⟨by (with_reducible repeat (first|apply nB|apply dB|apply aB));refine blk_far ?_ NB395_417.out _;(with_reducible repeat (first|apply nB|apply dB|apply aB));refine blk_far ?_ NB395_417.out _;(with_reducible repeat (first|apply nB|apply dB|apply aB));exact BK395.out⟩
   have n6_:Aside0 (((w44.setCell ⟨gb417,0,none⟩ (.int .i64 t412)).setCell ⟨gb417,1,none⟩ (.slice Ao49 t413.length co49)).heap[gb401]? = some (.cells #[.int .i64 t396,.slice Ao16 t397.length co16] 24 (0,0))):=⟨by (with_reducible repeat (first|apply nB|apply dB|apply aB));refine blk_far ?_ NB401_417.out _;(with_reducible repeat (first|apply nB|apply dB|apply aB));refine blk_far ?_ NB401_417.out _;(with_reducible repeat (first|apply nB|apply dB|apply aB));exact BK401.out⟩
   have n7_:Aside0 (((w44.setCell ⟨gb417,0,none⟩ (.int .i64 t412)).setCell ⟨gb417,1,none⟩ (.slice Ao49 t413.length co49)).heap[gb407]? = some (.cells #[.int .i64 t402,.slice Ao23 t403.length co23] 24 (0,0))):=⟨by (with_reducible repeat (first|apply nB|apply dB|apply aB));refine blk_far ?_ NB407_417.out _;(with_reducible repeat (first|apply nB|apply dB|apply aB));refine blk_far ?_ NB407_417.out _;(with_reducible repeat (first|apply nB|apply dB|apply aB));exact BK407.out⟩
   have n8_:Aside0 (((w44.setCell ⟨gb417,0,none⟩ (.int .i64 t412)).setCell ⟨gb417,1,none⟩ (.slice Ao49 t413.length co49)).heap[gb417]? = some (.cells #[.int .i64 t412,.slice Ao49 t413.length co49] 24 (0,0))):=⟨by (with_reducible repeat (first|apply nB|apply dB|apply aB));refine blk_put (cs:=#[.int .i64 t412,.slice none 0 0]) ?_ 1 _ rfl;(with_reducible repeat (first|apply nB|apply dB|apply aB));refine blk_put (cs:=#[.int .i64 0,.slice none 0 0]) ?_ 0 _ rfl;(with_reducible repeat (first|apply nB|apply dB|apply aB));exact BK417.out⟩
   have n9_:Aside0 (Below w.heap.size w ((w44.setCell ⟨gb417,0,none⟩ (.int .i64 t412)).setCell ⟨gb417,1,none⟩ (.slice Ao49 t413.length co49))):=⟨by repeat (first|(with_reducible first|exact HB.out|apply aZ|apply nZ|apply dZ|refine sZ ?_ GE395.out|refine sZ ?_ GE401.out|refine sZ ?_ GE407.out|refine sZ ?_ GE417.out)|exact HB.out)⟩
   (try clear HO_396001)
   (try clear HO_402001)
   (try clear HO_408001)
   (try clear HO410)
   (try clear HO415)
   (try clear BK395)
   (try clear BK401)
   (try clear BK407)
   (try clear BK417)
   (try clear HB)
   generalize ((w44.setCell ⟨gb417,0,none⟩ (.int .i64 t412)).setCell ⟨gb417,1,none⟩ (.slice Ao49 t413.length co49)) = w50 at n0_ n1_ n2_ n3_ n4_ n5_ n6_ n7_ n8_ n9_ ⊢
   have HO_396001:=n0_
   have HO_402001:=n1_
   have HO_408001:=n2_
   have HO410:=n3_
   have HO415:=n4_
   have BK395:=n5_
   have BK401:=n6_
   have BK407:=n7_
   have BK417:=n8_
   have HB:=n9_
   clear n0_ n1_ n2_ n3_ n4_ n5_ n6_ n7_ n8_ n9_
   have n0_:=mk0 (dR HO_396001.out)
   have n1_:=mk0 (dR HO_402001.out)
   have n2_:=mk0 (dR HO_408001.out)
   have n3_:=mk0 (dR HO410.out)
   have n4_:=mk0 (dR HO415.out)
   have n5_:=mk0 (dB BK395.out)
   have n6_:=mk0 (dB BK401.out)
   have n7_:=mk0 (dB BK407.out)
   have n8_:=mk0 (dB BK417.out)
   have n9_:=mk0 (dZ HB.out)
   clear HO_396001
   clear HO_402001
   clear HO_408001
   clear HO410
   clear HO415
   clear BK395
   clear BK401
   clear BK407
   clear BK417
   clear HB
   have HO_396001:=n0_
   have HO_402001:=n1_
   have HO_408001:=n2_
   have HO410:=n3_
   have HO415:=n4_
   have BK395:=n5_
   have BK401:=n6_
   have BK407:=n7_
   have BK417:=n8_
   have HB:=n9_
   clear n0_ n1_ n2_ n3_ n4_ n5_ n6_ n7_ n8_ n9_
   refine start_ (n:=21) (S:=fun w'=>w'.cell? ⟨gb407,0,none⟩ = some (.int .i64 t402) ∧ w'.cell? ⟨gb407,1,none⟩ = some (.slice Ao23 t403.length co23) ∧ w'.cell? ⟨gb417,0,none⟩ = some (.int .i64 t412) ∧ w'.cell? ⟨gb417,1,none⟩ = some (.slice Ao49 t413.length co49) ∧ w'.cell? ⟨gb395,0,none⟩ = some (.int .i64 t389) ∧ w'.cell? ⟨gb395,1,none⟩ = some (.slice Ao11 t390.length co11)) (ds:=[]) laws_FnMinsSet.m0 (by kernel_rfl) rfl rfl ⟨(blk_cell BK407.out 0).trans rfl,(blk_cell BK407.out 1).trans rfl,(blk_cell BK417.out 0).trans rfl,(blk_cell BK417.out 1).trans rfl,(blk_cell BK395.out 0).trans rfl,(blk_cell BK395.out 1).trans rfl⟩ (fun hHeld=>?_);refine with_tabW laws_FnMinsSet.tab11 laws_FnMinsSet.bits11 (fun HT_ HW_=>?_)
   generalize w50.drew = w51 at HO_396001 HO_402001 HO_408001 HO410 HO415 BK395 BK401 BK407 BK417 HB hHeld ⊢
   refine pure_ (i:=0) (N:=some 56) (v:=?_) (a':=?_) laws_FnMinsSet.m1 rfl rfl (any_of HT_.out (by kernel_rfl)) (fun _ _ _ h=>h) (Or.inl ⟨by rfl,?_⟩) ?_ ?_
   rotate_left
   ·intro w'
    go_simp
    with_reducible rfl
   rotate_left
   ·simp only [Act.put,sA,sO,sS,i64_w,i32_w]
    rfl
   refine pure_ (i:=2) (N:=some 58) (v:=?_) (a':=?_) laws_FnMinsSet.m2 rfl rfl (any_of HT_.out (by kernel_rfl)) (fun _ _ _ h=>h) (Or.inl ⟨by rfl,?_⟩) ?_ ?_
   rotate_left
   ·intro w'
    go_simp
    with_reducible rfl
   rotate_left
   ·simp only [Act.put,sA,sO,sS,i64_w,i32_w]
    rfl
   refine take_ (i:=1) (N:=some 57) (v:=?_) (a':=?_) laws_FnMinsSet.m3 rfl rfl (take_ofW HT_.out HW_.out (by kernel_rfl)) (fun _ _ _ h=>h) (Or.inl ⟨by rfl,?_⟩) hHeld ?_ ?_
   rotate_left
   ·rintro w' ⟨s0,s1,s2,s3,s4,s5⟩
    go_simp
    with_reducible rfl
   rotate_left
   ·simp only [Act.put,sA,sO,sS,i64_w,i32_w]
    rfl
   refine take_ (i:=3) (N:=some 59) (v:=?_) (a':=?_) laws_FnMinsSet.m4 rfl rfl (take_ofW HT_.out HW_.out (by kernel_rfl)) (fun _ _ _ h=>h) (Or.inl ⟨by rfl,?_⟩) hHeld ?_ ?_
   rotate_left
   ·rintro w' ⟨s0,s1,s2,s3,s4,s5⟩
    go_simp
    with_reducible rfl
   rotate_left
   ·simp only [Act.put,sA,sO,sS,i64_w,i32_w]
    rfl
   refine one_ (i:=4) (N:=some 60) laws_FnMinsSet.m5 rfl rfl (one_of HT_.out (by kernel_rfl)) (by decide) (fun K hK=>?_)
   refine goes_ Try.func34 (by kernel_rfl) rfl #[.slice Ao23 t403.length co23,.slice Ao49 t413.length co49] (by rfl) rfl rfl (by (try simp only [mA,mC,mN]);first|done|rfl|(simp only [List.length_drop,List.length_take];rfl)) ?_
   with_reducible refine (laws_same.calls kj6 _ _ t403 _ _ t413 true _ ?side1 ?side2 ?side3 ?side4 A31.out).mono ?_
   (case side1=>repeat (first|exact (Kd.R_reads' HO_408001.out).2.2|(with_reducible first|apply aC|apply nC|apply dC)))
   (case side2=>exact (Kd.R_reads' HO_408001.out).2.1)
   (case side3=>repeat (first|exact (Kd.R_reads' HO415.out).2.2|(with_reducible first|apply aC|apply nC|apply dC)))
   (case side4=>exact (Kd.R_reads' HO415.out).2.1)
   rintro e w' ⟨rfl,⟨nd,rfl⟩⟩
   refine⟨_,rfl,?_⟩
   refine hK.out _ _ ⟨(blk_cell BK407.out 0).trans rfl,(blk_cell BK407.out 1).trans rfl,(blk_cell BK417.out 0).trans rfl,(blk_cell BK417.out 1).trans rfl,(blk_cell BK395.out 0).trans rfl,(blk_cell BK395.out 1).trans rfl⟩ (fun hHeld=>?_)
   clear hK K
   refine norm_ (a':=?_) ?_ ?_
   rotate_left
   ·show Act.put _ (some 60) _ = _
    simp only [Act.put,sA,sO,sS,i64_w,i32_w]
    rfl
   refine pure_ (i:=5) (N:=some 61) (v:=?_) (a':=?_) laws_FnMinsSet.m6 rfl rfl (any_of HT_.out (by kernel_rfl)) (fun _ _ _ h=>h) (Or.inl ⟨by rfl,?_⟩) ?_ ?_
   rotate_left
   ·intro w'
    go_simp
    with_reducible rfl
   rotate_left
   ·simp only [Act.put,sA,sO,sS,i64_w,i32_w]
    rfl
   refine pure_ (i:=7) (N:=some 63) (v:=?_) (a':=?_) laws_FnMinsSet.m22 rfl rfl (any_of HT_.out (by kernel_rfl)) (fun _ _ _ h=>h) (Or.inl ⟨by rfl,?_⟩) ?_ ?_
   rotate_left
   ·intro w'
    go_simp
    with_reducible rfl
   rotate_left
   ·simp only [Act.put,sA,sO,sS,i64_w,i32_w]
    rfl
   refine pure_ (i:=11) (N:=some 67) (v:=?_) (a':=?_) laws_FnMinsSet.m23 rfl rfl (any_of HT_.out (by kernel_rfl)) (fun _ _ _ h=>h) (Or.inl ⟨by rfl,?_⟩) ?_ ?_
   rotate_left
   ·intro w'
    go_simp
    with_reducible rfl
   rotate_left
   ·simp only [Act.put,sA,sO,sS,i64_w,i32_w]
    rfl
   refine take_ (i:=6) (N:=some 62) (v:=?_) (a':=?_) laws_FnMinsSet.m24 rfl rfl (take_ofW HT_.out HW_.out (by kernel_rfl)) (fun _ _ _ h=>h) (Or.inl ⟨by rfl,?_⟩) hHeld ?_ ?_
   rotate_left
   ·rintro w' ⟨s0,s1,s2,s3,s4,s5⟩
    go_simp
    with_reducible rfl
   rotate_left
   ·simp only [Act.put,sA,sO,sS,i64_w,i32_w]
    rfl
   refine take_ (i:=8) (N:=some 64) (v:=?_) (a':=?_) laws_FnMinsSet.m25 rfl rfl (take_ofW HT_.out HW_.out (by kernel_rfl)) (fun _ _ _ h=>h) (Or.inl ⟨by rfl,?_⟩) hHeld ?_ ?_
   rotate_left
   ·rintro w' ⟨s0,s1,s2,s3,s4,s5⟩
    go_simp
    with_reducible rfl
   rotate_left
   ·simp only [Act.put,sA,sO,sS,i64_w,i32_w]
    rfl
   refine take_ (i:=10) (N:=some 66) (v:=?_) (a':=?_) laws_FnMinsSet.m26 rfl rfl (take_ofW HT_.out HW_.out (by kernel_rfl)) (fun _ _ _ h=>h) (Or.inl ⟨by rfl,?_⟩) hHeld ?_ ?_
   rotate_left
   ·rintro w' ⟨s0,s1,s2,s3,s4,s5⟩
    go_simp
    with_reducible rfl
   rotate_left
   ·simp only [Act.put,sA,sO,sS,i64_w,i32_w]
    rfl
   refine take_ (i:=12) (N:=some 68) (v:=?_) (a':=?_) laws_FnMinsSet.m27 rfl rfl (take_ofW HT_.out HW_.out (by kernel_rfl)) (fun _ _ _ h=>h) (Or.inl ⟨by rfl,?_⟩) hHeld ?_ ?_
   rotate_left
   ·rintro w' ⟨s0,s1,s2,s3,s4,s5⟩
    go_simp
    with_reducible rfl
   rotate_left
   ·simp only [Act.put,sA,sO,sS,i64_w,i32_w]
    rfl
   refine one_ (i:=9) (N:=some 65) laws_FnMinsSet.m13 rfl rfl (one_of HT_.out (by kernel_rfl)) (by decide) (fun K hK=>?_)
   refine goes_ Try.func26 (by kernel_rfl) rfl #[.agg #[.int .i64 t402,.slice Ao23 t403.length co23],.int .i64 0,.int .i64 t389] (by rfl) rfl rfl (by (try simp only [mA,mC,mN]);first|done|rfl|(simp only [List.length_drop,List.length_take];rfl)) ?_
   with_reducible refine (impl_MinsRange.calls kj6 t402 _ _ t403 0 t389 t419 _ ?side1 ?side2 A33.out).mono ?_
   (case side1=>repeat (first|exact (Kd.R_reads' HO_408001.out).2.2|(with_reducible first|apply aC|apply nC|apply dC)))
   (case side2=>exact (Kd.R_reads' HO_408001.out).2.1)
   rintro e w52 ⟨rfl,hb⟩
   refine⟨_,rfl,?_⟩
   have n0_:=mk0 (Kd.R_below (by (with_reducible repeat (first|apply aR|apply nR|apply dR));exact HO_396001.out) hb)
   have n1_:=mk0 (Kd.R_below (by (with_reducible repeat (first|apply aR|apply nR|apply dR));exact HO_402001.out) hb)
   have n2_:=mk0 (Kd.R_below (by (with_reducible repeat (first|apply aR|apply nR|apply dR));exact HO_408001.out) hb)
   have n3_:=mk0 (Kd.R_below (by (with_reducible repeat (first|apply aR|apply nR|apply dR));exact HO410.out) hb)
   have n4_:=mk0 (Kd.R_below (by (with_reducible repeat (first|apply aR|apply nR|apply dR));exact HO415.out) hb)
   have n5_:=mk0 (blk_below (g:=gb395) (o:=.cells #[.int .i64 t389,.slice Ao11 t390.length co11] 24 (0,0)) (by (with_reducible repeat (first|apply nB|apply dB|apply aB));exact BK395.out) hb)
   have n6_:=mk0 (blk_below (g:=gb401) (o:=.cells #[.int .i64 t396,.slice Ao16 t397.length co16] 24 (0,0)) (by (with_reducible repeat (first|apply nB|apply dB|apply aB));exact BK401.out) hb)
   have n7_:=mk0 (blk_below (g:=gb407) (o:=.cells #[.int .i64 t402,.slice Ao23 t403.length co23] 24 (0,0)) (by (with_reducible repeat (first|apply nB|apply dB|apply aB));exact BK407.out) hb)
   have n8_:=mk0 (blk_below (g:=gb417) (o:=.cells #[.int .i64 t412,.slice Ao49 t413.length co49] 24 (0,0)) (by (with_reducible repeat (first|apply nB|apply dB|apply aB));exact BK417.out) hb)
   have n9_:=mk0 (below_step (by repeat (first|(with_reducible first|exact HB.out|apply aZ|apply nZ|apply dZ|refine sZ ?_ GE395.out|refine sZ ?_ GE401.out|refine sZ ?_ GE407.out|refine sZ ?_ GE417.out)|exact HB.out)) hb)
   clear HO_396001
   clear HO_402001
   clear HO_408001
   clear HO410
   clear HO415
   clear BK395
   clear BK401
   clear BK407
   clear BK417
   clear HB
   have HO_396001:=n0_
   have HO_402001:=n1_
   have HO_408001:=n2_
   have HO410:=n3_
   have HO415:=n4_
   have BK395:=n5_
   have BK401:=n6_
   have BK407:=n7_
   have BK417:=n8_
   have HB:=n9_
   clear n0_ n1_ n2_ n3_ n4_ n5_ n6_ n7_ n8_ n9_
   (try clear hb)
   (try clear hb2)
   (try clear hk)
   (try clear hi)
   refine hK.out _ _ ⟨(blk_cell BK407.out 0).trans rfl,(blk_cell BK407.out 1).trans rfl,(blk_cell BK417.out 0).trans rfl,(blk_cell BK417.out 1).trans rfl,(blk_cell BK395.out 0).trans rfl,(blk_cell BK395.out 1).trans rfl⟩ (fun hHeld=>?_)
   clear hK K
   refine norm_ (a':=?_) ?_ ?_
   rotate_left
   ·show Act.put _ (some 65) _ = _
    simp only [Act.put,sA,sO,sS,i64_w,i32_w]
    rfl
   refine one_ (i:=13) (N:=some 69) laws_FnMinsSet.m14 rfl rfl (one_of HT_.out (by kernel_rfl)) (by decide) (fun K hK=>?_)
   refine goes_ Try.func25 (by kernel_rfl) rfl #[.agg #[.int .i64 t412,.slice Ao49 t413.length co49],.int .i64 0,.int .i64 t389] (by rfl) rfl rfl (by (try simp only [mA,mC,mN]);first|done|rfl|(simp only [List.length_drop,List.length_take];rfl)) ?_
   with_reducible refine (spec_MinsRange.calls kj6 t412 _ _ t413 0 t389 t420 _ ?side1 ?side2 A34.out).mono ?_
   (case side1=>repeat (first|exact (Kd.R_reads' HO415.out).2.2|(with_reducible first|apply aC|apply nC|apply dC)))
   (case side2=>exact (Kd.R_reads' HO415.out).2.1)
   rintro e w53 ⟨rfl,hb⟩
   refine⟨_,rfl,?_⟩
   have n0_:=mk0 (Kd.R_below (by (with_reducible repeat (first|apply aR|apply nR|apply dR));exact HO_396001.out) hb)
   have n1_:=mk0 (Kd.R_below (by (with_reducible repeat (first|apply aR|apply nR|apply dR));exact HO_402001.out) hb)
   have n2_:=mk0 (Kd.R_below (by (with_reducible repeat (first|apply aR|apply nR|apply dR));exact HO_408001.out) hb)
   have n3_:=mk0 (Kd.R_below (by (with_reducible repeat (first|apply aR|apply nR|apply dR));exact HO410.out) hb)
   have n4_:=mk0 (Kd.R_below (by (with_reducible repeat (first|apply aR|apply nR|apply dR));exact HO415.out) hb)
   have n5_:=mk0 (blk_below (g:=gb395) (o:=.cells #[.int .i64 t389,.slice Ao11 t390.length co11] 24 (0,0)) (by (with_reducible repeat (first|apply nB|apply dB|apply aB));exact BK395.out) hb)
   have n6_:=mk0 (blk_below (g:=gb401) (o:=.cells #[.int .i64 t396,.slice Ao16 t397.length co16] 24 (0,0)) (by (with_reducible repeat (first|apply nB|apply dB|apply aB));exact BK401.out) hb)
   have n7_:=mk0 (blk_below (g:=gb407) (o:=.cells #[.int .i64 t402,.slice Ao23 t403.length co23] 24 (0,0)) (by (with_reducible repeat (first|apply nB|apply dB|apply aB));exact BK407.out) hb)
   have n8_:=mk0 (blk_below (g:=gb417) (o:=.cells #[.int .i64 t412,.slice Ao49 t413.length co49] 24 (0,0)) (by (with_reducible repeat (first|apply nB|apply dB|apply aB));exact BK417.out) hb)
   have n9_:=mk0 (below_step (by repeat (first|(with_reducible first|exact HB.out|apply aZ|apply nZ|apply dZ|refine sZ ?_ GE395.out|refine sZ ?_ GE401.out|refine sZ ?_ GE407.out|refine sZ ?_ GE417.out)|exact HB.out)) hb)
   clear HO_396001
   clear HO_402001
   clear HO_408001
   clear HO410
   clear HO415
   clear BK395
   clear BK401
   clear BK407
   clear BK417
   clear HB
   have HO_396001:=n0_
   have HO_402001:=n1_
   have HO_408001:=n2_
   have HO410:=n3_
   have HO415:=n4_
   have BK395:=n5_
   have BK401:=n6_
   have BK407:=n7_
   have BK417:=n8_
   have HB:=n9_
   clear n0_ n1_ n2_ n3_ n4_ n5_ n6_ n7_ n8_ n9_
   (try clear hb)
   (try clear hb2)
   (try clear hk)
   (try clear hi)
   refine hK.out _ _ ⟨(blk_cell BK407.out 0).trans rfl,(blk_cell BK407.out 1).trans rfl,(blk_cell BK417.out 0).trans rfl,(blk_cell BK417.out 1).trans rfl,(blk_cell BK395.out 0).trans rfl,(blk_cell BK395.out 1).trans rfl⟩ (fun hHeld=>?_)
   clear hK K
   refine norm_ (a':=?_) ?_ ?_
   rotate_left
   ·show Act.put _ (some 69) _ = _
    simp only [Act.put,sA,sO,sS,i64_w,i32_w]
    rfl
   refine pure_ (i:=14) (N:=some 70) (v:=?_) (a':=?_) laws_FnMinsSet.m15 rfl rfl (any_of HT_.out (by kernel_rfl)) (fun _ _ _ h=>h) (Or.inl ⟨by rfl,?_⟩) ?_ ?_
   rotate_left
   ·intro w'
    go_simp
    with_reducible rfl
   rotate_left
   ·simp only [Act.put,sA,sO,sS,i64_w,i32_w]
    rfl
   refine pure_ (i:=15) (N:=some 71) (v:=?_) (a':=?_) laws_FnMinsSet.m16 rfl rfl (any_of HT_.out (by kernel_rfl)) (fun _ _ _ h=>h) (Or.inl ⟨by rfl,?_⟩) ?_ ?_
   rotate_left
   ·intro w'
    go_simp
    with_reducible rfl
   rotate_left
   ·simp only [Act.put,sA,sO,sS,i64_w,i32_w]
    rfl
   refine pure_ (i:=16) (N:=some 72) (v:=?_) (a':=?_) laws_FnMinsSet.m17 rfl rfl (any_of HT_.out (by kernel_rfl)) (fun _ _ _ h=>h) (Or.inl ⟨by rfl,?_⟩) ?_ ?_
   rotate_left
   ·intro w'
    go_simp
    with_reducible rfl
   rotate_left
   ·simp only [Act.put,sA,sO,sS,i64_w,i32_w]
    rfl
   refine take_ (i:=17) (N:=some 73) (v:=?_) (a':=?_) laws_FnMinsSet.m18 rfl rfl (take_ofW HT_.out HW_.out (by kernel_rfl)) (fun _ _ _ h=>h) (Or.inl ⟨by rfl,?_⟩) hHeld ?_ ?_
   rotate_left
   ·rintro w' ⟨s0,s1,s2,s3,s4,s5⟩
    go_simp
    with_reducible rfl
   rotate_left
   ·simp only [Act.put,sA,sO,sS,i64_w,i32_w]
    rfl
   refine one_ (i:=18) (N:=some 74) laws_FnMinsSet.m19 rfl rfl (one_of HT_.out (by kernel_rfl)) (by decide) (fun K hK=>?_)
   refine goes_ Try.func35 (by kernel_rfl) rfl #[.agg #[.int .i64 t402,.slice Ao23 t403.length co23]] (by rfl) rfl rfl (by (try simp only [mA,mC,mN]);first|done|rfl|(simp only [List.length_drop,List.length_take];rfl)) ?_
   with_reducible refine (impl_MinsOk.calls kj6 t402 _ _ t403 t421 _ ?side1 ?side2 A36.out).mono ?_
   (case side1=>repeat (first|exact (Kd.R_reads' HO_408001.out).2.2|(with_reducible first|apply aC|apply nC|apply dC)))
   (case side2=>exact (Kd.R_reads' HO_408001.out).2.1)
   rintro e w54 ⟨rfl,hb⟩
   refine⟨_,rfl,?_⟩
   have n0_:=mk0 (Kd.R_below (by (with_reducible repeat (first|apply aR|apply nR|apply dR));exact HO_396001.out) hb)
   have n1_:=mk0 (Kd.R_below (by (with_reducible repeat (first|apply aR|apply nR|apply dR));exact HO_402001.out) hb)
   have n2_:=mk0 (Kd.R_below (by (with_reducible repeat (first|apply aR|apply nR|apply dR));exact HO_408001.out) hb)
   have n3_:=mk0 (Kd.R_below (by (with_reducible repeat (first|apply aR|apply nR|apply dR));exact HO410.out) hb)
   have n4_:=mk0 (Kd.R_below (by (with_reducible repeat (first|apply aR|apply nR|apply dR));exact HO415.out) hb)
   have n5_:=mk0 (blk_below (g:=gb395) (o:=.cells #[.int .i64 t389,.slice Ao11 t390.length co11] 24 (0,0)) (by (with_reducible repeat (first|apply nB|apply dB|apply aB));exact BK395.out) hb)
   have n6_:=mk0 (blk_below (g:=gb401) (o:=.cells #[.int .i64 t396,.slice Ao16 t397.length co16] 24 (0,0)) (by (with_reducible repeat (first|apply nB|apply dB|apply aB));exact BK401.out) hb)
   have n7_:=mk0 (blk_below (g:=gb407) (o:=.cells #[.int .i64 t402,.slice Ao23 t403.length co23] 24 (0,0)) (by (with_reducible repeat (first|apply nB|apply dB|apply aB));exact BK407.out) hb)
   have n8_:=mk0 (blk_below (g:=gb417) (o:=.cells #[.int .i64 t412,.slice Ao49 t413.length co49] 24 (0,0)) (by (with_reducible repeat (first|apply nB|apply dB|apply aB));exact BK417.out) hb)
   have n9_:=mk0 (below_step (by repeat (first|(with_reducible first|exact HB.out|apply aZ|apply nZ|apply dZ|refine sZ ?_ GE395.out|refine sZ ?_ GE401.out|refine sZ ?_ GE407.out|refine sZ ?_ GE417.out)|exact HB.out)) hb)
   clear HO_396001
   clear HO_402001
   clear HO_408001
   clear HO410
   clear HO415
   clear BK395
   clear BK401
   clear BK407
   clear BK417
   clear HB
   have HO_396001:=n0_
   have HO_402001:=n1_
   have HO_408001:=n2_
   have HO410:=n3_
   have HO415:=n4_
   have BK395:=n5_
   have BK401:=n6_
   have BK407:=n7_
   have BK417:=n8_
   have HB:=n9_
   clear n0_ n1_ n2_ n3_ n4_ n5_ n6_ n7_ n8_ n9_
   (try clear hb)
   (try clear hb2)
   (try clear hk)
   (try clear hi)
   refine hK.out _ _ ⟨(blk_cell BK407.out 0).trans rfl,(blk_cell BK407.out 1).trans rfl,(blk_cell BK417.out 0).trans rfl,(blk_cell BK417.out 1).trans rfl,(blk_cell BK395.out 0).trans rfl,(blk_cell BK395.out 1).trans rfl⟩ (fun hHeld=>?_)
   clear hK K
   refine norm_ (a':=?_) ?_ ?_
   rotate_left
   ·show Act.put _ (some 74) _ = _
    simp only [Act.put,sA,sO,sS,i64_w,i32_w]
    rfl
   refine pure_ (i:=19) (N:=some 75) (v:=?_) (a':=?_) laws_FnMinsSet.m20 rfl rfl (any_of HT_.out (by kernel_rfl)) (fun _ _ _ h=>h) (Or.inl ⟨by rfl,?_⟩) ?_ ?_
   rotate_left
   ·intro w'
    go_simp
    with_reducible rfl
   rotate_left
   ·simp only [Act.put,sA,sO,sS,i64_w,i32_w]
    rfl
   refine pure_ (i:=20) (N:=some 2) (v:=?_) (a':=?_) laws_FnMinsSet.m21 rfl rfl (any_of HT_.out (by kernel_rfl)) (fun _ _ _ h=>h) (Or.inl ⟨by rfl,?_⟩) ?_ ?_
   rotate_left
   ·intro w'
    go_simp
    with_reducible rfl
   rotate_left
   ·simp only [Act.put,sA,sO,sS,i64_w,i32_w]
    rfl
   refine done_ (done_of HT_.out (by kernel_rfl)) ?_
   try go_wp2
   go_ret
   exact⟨by first|rfl|(simp [errW_none,errW_some] <;> rfl)|(simp [*,errW_none,errW_some] <;> rfl),by repeat (first|(with_reducible first|exact HB.out|apply aZ|apply nZ|apply dZ|refine sZ ?_ GE395.out|refine sZ ?_ GE401.out|refine sZ ?_ GE407.out|refine sZ ?_ GE417.out)|exact HB.out)⟩
/-- THE ONE PURE STATEMENT of laws_FnMinsSet: yours. -/
def laws_FnMinsSet.Pure : Prop := ∀ (l0 : List Int), l0.length ≤ maxLen → l0.length * 1 ≤ 140737488351232 → (∀ x ∈ l0, (Lit.int .u8 x).wf = true) → ∃ k, laws_FnMinsSet.f k l0 = some true
theorem laws_FnMinsSet.walk (P : laws_FnMinsSet.Pure) (a0 : Option Addr) (len0 cap0 : Nat) (z0 : List Int) (w : World) (w0 : (a0 = none ∧ len0 = 0 ∧ cap0 = 0 ∧ z0 = []) ∨ ∃ x, a0 = some x ∧ len0 ≤ cap0 ∧ cap0 ≤ maxLen ∧ z0.length = cap0 ∧ (∀ i, i < z0.length → w.cell? (x.add i) = some (.int .u8 (z0.getD i 0))) ∧ ∀ n ∈ z0, (Lit.int .u8 n).wf = true) (y0 : len0 * 1 ≤ 140737488351232) :
    Calls Try.prog 9 #[.slice a0 len0 cap0] w fun e w' => e = .returned (.bool true) ∧ Below w.heap.size w w' := by
  obtain ⟨l0, rfl, hr0, hm0, hw0, hc0⟩ := ReadsInt.ofRowC w0
  obtain ⟨k, h⟩ := P l0 hm0 y0 hw0
  refine (laws_FnMinsSet.calls k _ _ l0 true w (Kd.C_of_reads (d := (0 : Int)) (h1 := fun _ => rfl) hr0) hc0 h).mono ?_
  rintro e w' ⟨rfl, hd⟩
  exact ⟨rfl, hd⟩

end Go.Proofs.Ytpheodpcppclaaa.QFnMinsSet
