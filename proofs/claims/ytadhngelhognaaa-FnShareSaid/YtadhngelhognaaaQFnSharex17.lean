-- A walk, made by walk.py, a program of this session's.
import Derived.Test.YtadhngelhognaaaQFnSharex0
import Derived.Test.YtadhngelhognaaaQFnSharex7
import Derived.Test.YtadhngelhognaaaQFnSharex8
import Derived.Test.YtadhngelhognaaaQFnSharex10
import Derived.Test.YtadhngelhognaaaQFnSharex12
import Derived.Test.YtadhngelhognaaaQFnSharex14
import Derived.Test.YtadhngelhognaaaQFnSharex15
import Derived.Test.YtadhngelhognaaaQFnSharex16
namespace Go.Proofs.Ytadhngelhognaaa.QFnShare
open Go.RowKit Go.Proofs.YtadhngelhognaaaW.PrintWords Go.Proofs.YtadhngelhognaaaW.PrintLast Go.Proofs.YtadhngelhognaaaW.PrintMore
attribute [local go_sem] max2_int min2_int max_two min_two max_three min_three max_four min_four   -- for this text's walks alone
set_option linter.unusedVariables false
set_option linter.unusedSimpArgs false
/-! ### impl_ShareOk: function 22 -/
def impl_ShareOk.f (k : Nat) (l0 : List Int) (l1 : List Int) (l2 : List (S56)) : Option (Bool) := (impl_isShared.f l0 l1 0).bind fun t670 => (if t670 = true then ((impl_bwtOf.f k l0).bind fun t671 => ((impl_bwtOf.f k l1).bind fun t674 => ((impl_CommonOk.f k t671 t674 l2).bind fun t677 => (some t677)))) else (some false))
set_option maxHeartbeats 8000000 in
set_option maxRecDepth 100000 in
theorem impl_ShareOk.calls (k : Nat) (A0 : Option Addr) (c0 : Nat) (l0 : List Int) (A1 : Option Addr) (c1 : Nat) (l1 : List Int) (A2 : Option Addr) (c2 : Nat) (l2 : List (S56)) (r : Bool) (w : World) (hr0 : Kd.C (Kd.int .u8) w A0 l0.length l0) (hc0 : l0.length ≤ c0) (hr1 : Kd.C (Kd.int .u8) w A1 l1.length l1) (hc1 : l1.length ≤ c1) (hr2 : Kd.C k56 w A2 l2.length l2) (hc2 : l2.length ≤ c2) (h : impl_ShareOk.f k l0 l1 l2 = some r) :
  Calls Try.prog 22 #[.slice A0 l0.length c0, .slice A1 l1.length c1, .slice A2 l2.length c2] w fun e w' => e = .returned (.bool r) ∧ Below w.heap.size w w' := by
 have HR0:=mk0 hr0
 have HC0:=mk0 hc0
 clear hr0 hc0
 have HR1:=mk0 hr1
 have HC1:=mk0 hc1
 clear hr1 hc1
 have HR2:=mk0 hr2
 have HC2:=mk0 hc2
 clear hr2 hc2
 have HB:=mk0 (Below.refl w.heap.size w)
 have H:((impl_isShared.f l0 l1 0).bind fun t670=>(if t670 = true then ((impl_bwtOf.f k l0).bind fun t671=>((impl_bwtOf.f k l1).bind fun t674=>((impl_CommonOk.f k t671 t674 l2).bind fun t677=>(some t677)))) else (some false))) = some r:=h
 clear h
 replace H:=bE H
 obtain⟨t670,A4,H⟩:=H
 by_cases c5:t670 = true
 ·subst c5
  replace H:=iT H
  replace H:=bE H
  obtain⟨t671,A6,H⟩:=H
  replace H:=bE H
  obtain⟨t674,A7,H⟩:=H
  replace H:=bE H
  obtain⟨t677,A8,H⟩:=H
  obtain rfl:=Option.some.inj H
  go_enter Try.func22,Try.ntmps22
  go_wp2_with (first|((with_reducible refine gate_callee (f:=38) rfl ?_);refine gL (some 9) Try.func38 #[.slice A0 l0.length c0,.slice A1 l1.length c1,.int .i64 0] ?_;(with_reducible refine (impl_isShared.calls _ _ l0 _ _ l1 0 true _ ?side1 ?side2 ?side3 ?side4 A4.out).mono ?_);(case side1=>exact kC HR0.out);(case side2=>exact HC0.out);(case side3=>exact kC HR1.out);(case side4=>exact HC1.out);rintro e w' ⟨rfl,⟨nd,rfl⟩⟩;refine⟨_,rfl,?_⟩)|(go_at_call 40;(with_reducible refine (impl_bwtOf.calls k _ _ l0 t671 _ ?side1 ?side2 A6.out).mono ?_);(case side1=>exact kC HR0.out);(case side2=>exact HC0.out);rintro e w9 ⟨v672,rfl,ho0,hb⟩;have HO673:=mk0 (Kd.R_lower ho0 (kZ HB.out));replace HB:=mk0 (kS HB.out hb);(try clear hb);(try clear ho0))|(go_at_call 40;(with_reducible refine (impl_bwtOf.calls k _ _ l1 t674 _ ?side1 ?side2 A7.out).mono ?_);(case side1=>exact kC (Kd.C_below HR1.out HB.out));(case side2=>exact HC1.out);rintro e w10 ⟨v675,rfl,ho0,hb⟩;have HO676:=mk0 (Kd.R_lower (Kd.R_new' ho0 (Kd.R_lt (rR HO673.out))) (kZ HB.out));replace HO673:=mk0 (Kd.R_elder' (rR HO673.out) (Kd.R_base ho0) hb);replace HB:=mk0 (kS HB.out hb);(try clear hb);(try clear ho0);obtain⟨Ao11,co11,eo11⟩:=Kd.R_slice HO673.out;subst eo11;obtain⟨Ao12,co12,eo12⟩:=Kd.R_slice HO676.out;subst eo12)|(go_at_call 50;(with_reducible refine (impl_CommonOk.calls k _ _ t671 _ _ t674 _ _ l2 t677 _ ?side1 ?side2 ?side3 ?side4 ?side5 ?side6 A8.out).mono ?_);(case side1=>exact kC (Kd.R_reads' HO673.out).2.2);(case side2=>exact (Kd.R_reads' HO673.out).2.1);(case side3=>exact kC (Kd.R_reads' HO676.out).2.2);(case side4=>exact (Kd.R_reads' HO676.out).2.1);(case side5=>exact kC (Kd.C_below HR2.out HB.out));(case side6=>exact HC2.out);rintro e w13 ⟨rfl,hb⟩;replace HO673:=mk0 (bR HO673.out hb);replace HO676:=mk0 (bR HO676.out hb);replace HB:=mk0 (kS HB.out hb);(try clear hb)))
  go_ret
  exact⟨eR,kB HB.out⟩
 ·replace c5:=Bool.eq_false_iff.mpr c5
  subst c5
  replace H:=iF H
  obtain rfl:=Option.some.inj H
  go_enter Try.func22,Try.ntmps22
  go_wp2_with (first|((with_reducible refine gate_callee (f:=38) rfl ?_);refine gL (some 9) Try.func38 #[.slice A0 l0.length c0,.slice A1 l1.length c1,.int .i64 0] ?_;(with_reducible refine (impl_isShared.calls _ _ l0 _ _ l1 0 false _ ?side1 ?side2 ?side3 ?side4 A4.out).mono ?_);(case side1=>exact kC HR0.out);(case side2=>exact HC0.out);(case side3=>exact kC HR1.out);(case side4=>exact HC1.out);rintro e w' ⟨rfl,⟨nd,rfl⟩⟩;refine⟨_,rfl,?_⟩))
  go_ret
  exact⟨eR,kB HB.out⟩
/-! ### laws_pairs: function 23 -/
def laws_pairs.f (l0 : List (S56)) : Option ((List (S56))) := (some (([] : List (S56)) : List (S56))).bind fun y678 => (if y678.length + l0.length < 8796093022208 then (some (y678 ++ l0)) else (none))
set_option maxHeartbeats 8000000 in
set_option maxRecDepth 100000 in
theorem laws_pairs.calls (A0 : Option Addr) (c0 : Nat) (l0 : List (S56)) (r : List (S56)) (w : World) (hr0 : Kd.C k56 w A0 l0.length l0) (hc0 : l0.length ≤ c0) (h : laws_pairs.f l0 = some r) :
  Calls Try.prog 23 #[.slice A0 l0.length c0] w fun e w' => ∃ v0_ : Value, e = .returned (v0_) ∧ Kd.R k56 56 w' w.heap.size (fun _ => True) v0_ r ∧ Below w.heap.size w w' := by
 have HR0:=mk0 hr0
 have HC0:=mk0 hc0
 clear hr0 hc0
 have HB:=mk0 (Below.refl w.heap.size w)
 have H:((some (([]:List (S56)):List (S56))).bind fun y678=>(if y678.length + l0.length < 8796093022208 then (some (y678 ++ l0)) else (none))) = some r:=h
 clear h
 obtain⟨y678,hy678⟩:∃ y_:List (S56),y_ = (([]:List (S56))):=⟨_,rfl⟩
 first|(with_reducible replace H:=yB hy678 H)|rw [← hy678] at H|skip
 have Ny678:=mk0 hy678
 clear hy678
 by_cases c2:y678.length + l0.length < 8796093022208
 ·rw [if_pos c2] at H
  have LMc2:=mk0 c2
  clear c2
  obtain⟨y681,hy681⟩:∃ y_:List (S56),y_ = (y678 ++ l0):=⟨_,rfl⟩
  first|(with_reducible replace H:=yB hy681 H)|rw [← hy681] at H|skip
  have Ny681:=mk0 hy681
  clear hy681
  obtain rfl:=Option.some.inj H
  go_enter Try.func23,Try.ntmps23
  go_wp2_with (first|((with_reducible refine gate_dst (N:=3) rfl ?_);refine Kd.R_lit k56 _ 56 ?hg (N:=3) ?hd (xs:=([]:List (S56))) (inner:=[]) (ok:=fun _=>True) (okp:=fun _=>True) ?hr ?hp (fun _ hk=>hk) trivial (Below.refl _ _) (Nat.le_refl _) (by simp) ?_;(case hd=>rfl);(case hg=>rfl);(case hr=>first|(go_simp;done)|(go_simp;rfl));(case hp=>exact (Reps.none _ _));intro v679 w3 ho4 hb hg_ hnew_;clear hg_ hnew_;(first|rw [← Ny678.out] at ho4|(simp only [Int.reduceToNat] at ho4;rw [← Ny678.out] at ho4));have HO680:=mk0 (Kd.R_lower ho4 (kZ HB.out));replace HB:=mk0 (kS HB.out hb);clear hb ho4)|((with_reducible refine gate_builtin (b:=.append) (xs:=#[.tmp 3,.tmp 4]) rfl ?_);at_builtin;refine Kd.R_append_rows k56 (w0:=w) w.heap.size rfl (.tmp 3) (.tmp 4) 27 56 (.agg #[(.int .i64 0),(.int .i64 0)]) 16 rfl Try.underlying27 info56 rfl (by decide) (by omega) v679 y678 l0 _ _ _ (fun _=>True) (fun _=>False) rfl rfl ?aO ?aR (fun _ _ h=>h) (fun _ h=>h.elim) ?aF ?aB ?aS ?aL ?_;(case aR=>repeat (first|exact (Kd.C_below HR0.out HB.out)|(with_reducible first|apply aC|apply nC|apply dC)));(case aB=>exact (kB HB.out));(case aF=>exact (fun _ _=>trivial));(case aO=>exact (rR HO680.out));(case aS=>exact (kZ HB.out));(case aL=>have:=LMc2.out;omega);intro v682 w5 ho hb hg hat;rw [← Ny681.out] at ho;replace HB:=mk0 (hb);have HO683:=mk0 (ho);clear HO680 ho hb hg hat))
  go_ret
  exact⟨_,eR,rR HO683.out,kB HB.out⟩
 ·rw [if_neg c2] at H
  exact nn H
/-! ### laws_FnShare: function 5 -/
mutual
def laws_FnShare.j0 : Nat → List Int → List Int → Int → Int → List (S56) → Int → Bool → Option (Bool)
 | 0, _, _, _, _, _, _, _ => none
 | k + 1, x3, x4, x5, x6, x8, x9, x47 => if x47 = true then (some false) else (if x9 < 0 then (some ((x8.length : Int) == 0)) else ((spec_ShareOk.f k x3 x4 x8).bind fun t701 => (if t701 = true then ((laws_pairs.f x8).bind fun t702 => ((impl_ShareOk.f k x3 x4 t702).bind fun t705 => (if t705 = true then (if x6 < 1000000 then ((impl_ShareLost.f k x3 x4 x5 (wrap64 (x6 + 1))).bind fun t706 => (laws_FnShare.j1 k x3 x4 (decide (t706 > x9)))) else (laws_FnShare.j1 k x3 x4 false)) else (laws_FnShare.j1 k x3 x4 true)))) else (laws_FnShare.j1 k x3 x4 true))))
def laws_FnShare.j1 : Nat → List Int → List Int → Bool → Option (Bool)
 | 0, _, _, _ => none
 | k + 1, x3, x4, x79 => if x79 = true then (some false) else ((impl_ShareLost.f k x3 x4 0 1000).bind fun t707 => (some (t707 == 0)))
end
def laws_FnShare.f (k : Nat) (l0 : List Int) : Option (Bool) := (laws_big.f l0).bind fun t684 => (if t684 = true then (some true) else ((spec_DrawShareOf.f k l0).bind fun bt685 => ((spec_ShareOf.f k bt685.1 bt685.2.1 bt685.2.2.1 bt685.2.2.2).bind fun t693 => ((impl_ShareOf.f k bt685.1 bt685.2.1 bt685.2.2.1 bt685.2.2.2).bind fun t696 => ((impl_ShareLost.f k bt685.1 bt685.2.1 bt685.2.2.1 bt685.2.2.2).bind fun t699 => (if (t696.length : Int) = (t693.length : Int) then ((spec_ShareLost.f k bt685.1 bt685.2.1 bt685.2.2.1 bt685.2.2.2).bind fun t700 => (laws_FnShare.j0 k bt685.1 bt685.2.1 bt685.2.2.1 bt685.2.2.2 t696 t699 (t699 != t700))) else (laws_FnShare.j0 k bt685.1 bt685.2.1 bt685.2.2.1 bt685.2.2.2 t696 t699 true)))))))
set_option maxHeartbeats 8000000 in
set_option maxRecDepth 100000 in
theorem laws_FnShare.calls (k : Nat) (A0 : Option Addr) (c0 : Nat) (l0 : List Int) (r : Bool) (w : World) (hr0 : Kd.C (Kd.int .u8) w A0 l0.length l0) (hc0 : l0.length ≤ c0) (h : laws_FnShare.f k l0 = some r) :
  Calls Try.prog 5 #[.slice A0 l0.length c0] w fun e w' => e = .returned (.bool r) ∧ Below w.heap.size w w' := by
 have HR0:=mk0 hr0
 have HC0:=mk0 hc0
 clear hr0 hc0
 have HB:=mk0 (Below.refl w.heap.size w)
 have H:((laws_big.f l0).bind fun t684=>(if t684 = true then (some true) else ((spec_DrawShareOf.f k l0).bind fun bt685=>((spec_ShareOf.f k bt685.1 bt685.2.1 bt685.2.2.1 bt685.2.2.2).bind fun t693=>((impl_ShareOf.f k bt685.1 bt685.2.1 bt685.2.2.1 bt685.2.2.2).bind fun t696=>((impl_ShareLost.f k bt685.1 bt685.2.1 bt685.2.2.1 bt685.2.2.2).bind fun t699=>(if (t696.length:Int) = (t693.length:Int) then ((spec_ShareLost.f k bt685.1 bt685.2.1 bt685.2.2.1 bt685.2.2.2).bind fun t700=>(laws_FnShare.j0 k bt685.1 bt685.2.1 bt685.2.2.1 bt685.2.2.2 t696 t699 (t699 != t700))) else (laws_FnShare.j0 k bt685.1 bt685.2.1 bt685.2.2.1 bt685.2.2.2 t696 t699 true)))))))) = some r:=h
 clear h
 replace H:=bE H
 obtain⟨t684,A2,H⟩:=H
 by_cases c3:t684 = true
 ·subst c3
  replace H:=iT H
  obtain rfl:=Option.some.inj H
  go_enter Try.func5,Try.ntmps5
  go_wp2_with (first|((with_reducible refine gate_callee (f:=19) rfl ?_);refine gL (some 11) Try.func19 #[.slice A0 l0.length c0] ?_;(with_reducible refine (laws_big.calls _ _ l0 true _ ?side1 ?side2 A2.out).mono ?_);(case side1=>exact kC HR0.out);(case side2=>exact HC0.out);rintro e w' ⟨rfl,⟨nd,rfl⟩⟩;refine⟨_,rfl,?_⟩))
  go_ret
  exact⟨eR,kB HB.out⟩
 replace c3:=Bool.eq_false_iff.mpr c3
 subst c3
 replace H:=iF H
 replace H:=bE H
 obtain⟨⟨t685,t686,t687,t688⟩,A4,H⟩:=H
 dsimp only at H
 replace H:=bE H
 obtain⟨t693,A5,H⟩:=H
 replace H:=bE H
 obtain⟨t696,A6,H⟩:=H
 replace H:=bE H
 obtain⟨t699,A7,H⟩:=H
 have HC8:=mk0 H
 clear H
 go_enter Try.func5,Try.ntmps5
 go_upto_region 7 with (first|((with_reducible refine gate_callee (f:=19) rfl ?_);refine gL (some 11) Try.func19 #[.slice A0 l0.length c0] ?_;(with_reducible refine (laws_big.calls _ _ l0 false _ ?side1 ?side2 A2.out).mono ?_);(case side1=>exact kC HR0.out);(case side2=>exact HC0.out);rintro e w' ⟨rfl,⟨nd,rfl⟩⟩;refine⟨_,rfl,?_⟩)|((with_reducible refine gate_callee (f:=20) rfl ?_);refine gL (some 14) Try.func20 #[.slice A0 l0.length c0] ?_;(with_reducible refine (spec_DrawShareOf.calls k _ _ l0 t685 t686 t687 t688 _ ?side1 ?side2 A4.out).mono ?_);(case side1=>exact kC HR0.out);(case side2=>exact HC0.out);rintro e w9 ⟨v689,v691,rfl,ho0,ho1,hb⟩;refine⟨_,rfl,?_⟩;have HO690:=mk0 (Kd.R_lower ho0 (kZ HB.out));have HO692:=mk0 (Kd.R_lower ho1 (kZ HB.out));replace HB:=mk0 (kS HB.out hb);(try clear hb);(try clear ho0);(try clear ho1);obtain⟨Ao10,co10,eo10⟩:=Kd.R_slice HO690.out;subst eo10;obtain⟨Ao11,co11,eo11⟩:=Kd.R_slice HO692.out;subst eo11)|((with_reducible refine gate_callee (f:=13) rfl ?_);refine gL (some 23) Try.func13 #[.slice Ao10 t685.length co10,.slice Ao11 t686.length co11,.int .i64 t687,.int .i64 t688] ?_;(with_reducible refine (spec_ShareOf.calls k _ _ t685 _ _ t686 t687 t688 t693 _ ?side1 ?side2 ?side3 ?side4 A5.out).mono ?_);(case side1=>exact kC (Kd.R_reads' HO690.out).2.2);(case side2=>exact (Kd.R_reads' HO690.out).2.1);(case side3=>exact kC (Kd.R_reads' HO692.out).2.2);(case side4=>exact (Kd.R_reads' HO692.out).2.1);rintro e w12 ⟨v694,rfl,ho0,hb⟩;refine⟨_,rfl,?_⟩;replace HO690:=mk0 (bR HO690.out hb);replace HO692:=mk0 (bR HO692.out hb);have HO695:=mk0 (Kd.R_lower ho0 (kZ HB.out));replace HB:=mk0 (kS HB.out hb);(try clear hb);(try clear ho0))|((with_reducible refine gate_callee (f:=14) rfl ?_);refine gL (some 28) Try.func14 #[.slice Ao10 t685.length co10,.slice Ao11 t686.length co11,.int .i64 t687,.int .i64 t688] ?_;(with_reducible refine (impl_ShareOf.calls k _ _ t685 _ _ t686 t687 t688 t696 _ ?side1 ?side2 ?side3 ?side4 A6.out).mono ?_);(case side1=>exact kC (Kd.R_reads' HO690.out).2.2);(case side2=>exact (Kd.R_reads' HO690.out).2.1);(case side3=>exact kC (Kd.R_reads' HO692.out).2.2);(case side4=>exact (Kd.R_reads' HO692.out).2.1);rintro e w13 ⟨v697,rfl,ho0,hb⟩;refine⟨_,rfl,?_⟩;replace HO690:=mk0 (bR HO690.out hb);replace HO692:=mk0 (bR HO692.out hb);have HO698:=mk0 (Kd.R_lower (Kd.R_new' ho0 (Kd.R_lt (rR HO695.out))) (kZ HB.out));replace HO695:=mk0 (Kd.R_elder' (rR HO695.out) (Kd.R_base ho0) hb);replace HB:=mk0 (kS HB.out hb);(try clear hb);(try clear ho0))|((with_reducible refine gate_callee (f:=11) rfl ?_);refine gL (some 33) Try.func11 #[.slice Ao10 t685.length co10,.slice Ao11 t686.length co11,.int .i64 t687,.int .i64 t688] ?_;(with_reducible refine (impl_ShareLost.calls k _ _ t685 _ _ t686 t687 t688 t699 _ ?side1 ?side2 ?side3 ?side4 A7.out).mono ?_);(case side1=>exact kC (Kd.R_reads' HO690.out).2.2);(case side2=>exact (Kd.R_reads' HO690.out).2.1);(case side3=>exact kC (Kd.R_reads' HO692.out).2.2);(case side4=>exact (Kd.R_reads' HO692.out).2.1);rintro e w14 ⟨rfl,hb⟩;refine⟨_,rfl,?_⟩;replace HO690:=mk0 (bR HO690.out hb);replace HO692:=mk0 (bR HO692.out hb);replace HO695:=mk0 (bR HO695.out hb);replace HO698:=mk0 (bR HO698.out hb);replace HB:=mk0 (kS HB.out hb);(try clear hb)))
 (try simp only [Act.put,sA,sO,sS])
 go_cut [47] (fun v47 wc=>∃ (kq:Nat) (x47_7:Bool),v47 = .bool x47_7 ∧ Aside0 (laws_FnShare.j0 kq t685 t686 t687 t688 t696 t699 x47_7 = some r) ∧ Aside0 (kq ≤ k) ∧ Aside0 (Kd.R (Kd.int .u8) 5 wc w.heap.size (fun k_=>some k_ ≠ ((.slice Ao11 t686.length co11):Value).ownBlock) (.slice Ao10 t685.length co10) t685) ∧ Aside0 (Kd.R (Kd.int .u8) 5 wc w.heap.size (fun k_=>some k_ ≠ ((.slice Ao10 t685.length co10):Value).ownBlock) (.slice Ao11 t686.length co11) t686) ∧ Aside0 (Kd.R k56 56 wc w.heap.size (fun _=>True) v697 t696) ∧ Aside0 (Below w.heap.size w wc))
 case first =>
  have H:=HC8.out
  clear HC8
  by_cases c15:(t696.length:Int) = (t693.length:Int)
  rotate_left
  ·rw [if_neg c15] at H
   have c15b0:((t696.length:Int) == (t693.length:Int)) = false:=beq_eq_false_iff_ne.mpr c15
   have c15b1:((t696.length:Int) != (t693.length:Int)) = true:=bne_iff_ne.mpr c15
   have c15b2:(t696.length == t693.length) = false:=by first|simpa using c15|(simp at c15 ⊢;omega)
   (first|rw [c15b0]|(simp only [i64_w,i32_w];rw [c15b0])|skip)
   have H':=mk0 H
   clear H
   obtain⟨Ao20,co20,eo20⟩:=Kd.R_slice HO698.out
   subst eo20
   obtain⟨Ao21,co21,eo21⟩:=Kd.R_slice HO695.out
   subst eo21
   go_wp2
   go_meet
   case rel=>exact⟨_,(true),eS,H',⟨by first|omega|exact Nat.le_refl _⟩,⟨rR HO690.out⟩,⟨rR HO692.out⟩,⟨rR (Kd.R_mono HO698.out (fun _ hk=>trivial))⟩,⟨kB HB.out⟩⟩
  rw [if_pos c15] at H
  have c15b0:((t696.length:Int) == (t693.length:Int)) = true:=beq_iff_eq.mpr c15
  have c15b1:((t696.length:Int) != (t693.length:Int)) = false:=bne_eq_false_iff_eq.mpr c15
  have c15b2:(t696.length == t693.length) = true:=by first|simpa using c15|(simp at c15 ⊢;omega)
  clear c15
  (first|rw [c15b0]|(simp only [i64_w,i32_w];rw [c15b0])|skip)
  replace H:=bE H
  obtain⟨t700,A16,H⟩:=H
  have H':=mk0 H
  clear H
  obtain⟨Ao17,co17,eo17⟩:=Kd.R_slice HO698.out
  subst eo17
  obtain⟨Ao18,co18,eo18⟩:=Kd.R_slice HO695.out
  subst eo18
  go_wp2_with (first|(go_at_call 9;(with_reducible refine (spec_ShareLost.calls k _ _ t685 _ _ t686 t687 t688 t700 _ ?side1 ?side2 ?side3 ?side4 A16.out).mono ?_);(case side1=>exact kC (Kd.R_reads' HO690.out).2.2);(case side2=>exact (Kd.R_reads' HO690.out).2.1);(case side3=>exact kC (Kd.R_reads' HO692.out).2.2);(case side4=>exact (Kd.R_reads' HO692.out).2.1);rintro e w19 ⟨rfl,hb⟩;replace HO690:=mk0 (bR HO690.out hb);replace HO692:=mk0 (bR HO692.out hb);replace HO695:=mk0 (bR HO695.out hb);replace HO698:=mk0 (bR HO698.out hb);replace HB:=mk0 (kS HB.out hb);(try clear hb)))
  go_meet
  case rel=>exact⟨_,((t699 != t700)),eS,H',⟨by first|omega|exact Nat.le_refl _⟩,⟨rR HO690.out⟩,⟨rR HO692.out⟩,⟨rR (Kd.R_mono HO698.out (fun _ hk=>trivial))⟩,⟨kB HB.out⟩⟩
 case rest =>
  clear HC8
  try clear c1
  try clear c2
  try clear p2
  try clear c3
  try clear c5
  try clear c11
  try clear c13
  try clear c14
  try clear c15
  try clear c15b0
  try clear c15b1
  try clear c15b2
  try clear c19
  try clear c20
  obtain⟨kq,x47_7,rfl,HA,HJ7,HO_3,HO_4,HO_8,HB⟩:=hcut
  cases kq with
  | zero=>exact absurd HA.out (by simp [laws_FnShare.j0])
  | succ kj7 =>
   have H:=HA.out
   clear HA
   simp only [laws_FnShare.j0] at H
   by_cases c22:x47_7 = true
   ·subst c22
    replace H:=iT H
    obtain rfl:=Option.some.inj H
    go_wp2
    go_ret
    exact⟨eR,kB HB.out⟩
   replace c22:=Bool.eq_false_iff.mpr c22
   subst c22
   replace H:=iF H
   by_cases c23:t699 < 0
   ·rw [if_pos c23] at H
    have c23b0:decide (t699 < 0) = true:=decide_eq_true c23
    clear c23
    obtain rfl:=Option.some.inj H
    obtain⟨Ao24,co24,eo24⟩:=Kd.R_slice HO_8.out
    subst eo24
    go_wp2
    go_ret
    exact⟨eR,kB HB.out⟩
   rw [if_neg c23] at H
   have c23b0:decide (t699 < 0) = false:=decide_eq_false c23
   clear c23
   have HC25:=mk0 H
   clear H
   go_upto_region 11 with (fail)
   go_cut [79] (fun v79 wc=>∃ (kq:Nat) (x79_24:Bool),v79 = .bool x79_24 ∧ Aside0 (laws_FnShare.j1 kq t685 t686 x79_24 = some r) ∧ Aside0 (kq ≤ kj7) ∧ Aside0 (Kd.R (Kd.int .u8) 5 wc w.heap.size (fun k_=>some k_ ≠ ((.slice Ao11 t686.length co11):Value).ownBlock) (.slice Ao10 t685.length co10) t685) ∧ Aside0 (Kd.R (Kd.int .u8) 5 wc w.heap.size (fun k_=>some k_ ≠ ((.slice Ao10 t685.length co10):Value).ownBlock) (.slice Ao11 t686.length co11) t686) ∧ Aside0 (Below w.heap.size w wc))
   case first =>
    have H:=HC25.out
    clear HC25
    replace H:=bE H
    obtain⟨t701,A26,H⟩:=H
    by_cases c27:t701 = true
    rotate_left
    ·replace c27:=Bool.eq_false_iff.mpr c27
     subst c27
     replace H:=iF H
     have H':=mk0 H
     clear H
     obtain⟨Ao49,co49,eo49⟩:=Kd.R_slice HO_8.out
     subst eo49
     go_wp2_with (first|((with_reducible refine gate_callee (f:=21) rfl ?_);refine gL (some 56) Try.func21 #[.slice Ao10 t685.length co10,.slice Ao11 t686.length co11,.slice Ao49 t696.length co49] ?_;(with_reducible refine (spec_ShareOk.calls kj7 _ _ t685 _ _ t686 _ _ t696 false _ ?side1 ?side2 ?side3 ?side4 ?side5 ?side6 A26.out).mono ?_);(case side1=>exact kC (Kd.R_reads' HO_3.out).2.2);(case side2=>exact (Kd.R_reads' HO_3.out).2.1);(case side3=>exact kC (Kd.R_reads' HO_4.out).2.2);(case side4=>exact (Kd.R_reads' HO_4.out).2.1);(case side5=>exact kC (Kd.R_reads' HO_8.out).2.2);(case side6=>exact (Kd.R_reads' HO_8.out).2.1);rintro e w50 ⟨rfl,hb⟩;refine⟨_,rfl,?_⟩;replace HO_3:=mk0 (bR HO_3.out hb);replace HO_4:=mk0 (bR HO_4.out hb);replace HO_8:=mk0 (bR HO_8.out hb);replace HB:=mk0 (kS HB.out hb);(try clear hb)))
     go_meet
     case rel=>exact⟨_,(true),eS,H',⟨by have:=HJ7.out;first|omega|exact Nat.le_refl _⟩,⟨rR HO_3.out⟩,⟨rR HO_4.out⟩,⟨kB HB.out⟩⟩
    subst c27
    replace H:=iT H
    replace H:=bE H
    obtain⟨t702,A28,H⟩:=H
    replace H:=bE H
    obtain⟨t705,A29,H⟩:=H
    by_cases c30:t705 = true
    rotate_left
    ·replace c30:=Bool.eq_false_iff.mpr c30
     subst c30
     replace H:=iF H
     have H':=mk0 H
     clear H
     obtain⟨Ao44,co44,eo44⟩:=Kd.R_slice HO_8.out
     subst eo44
     go_wp2_with (first|((with_reducible refine gate_callee (f:=21) rfl ?_);refine gL (some 56) Try.func21 #[.slice Ao10 t685.length co10,.slice Ao11 t686.length co11,.slice Ao44 t696.length co44] ?_;(with_reducible refine (spec_ShareOk.calls kj7 _ _ t685 _ _ t686 _ _ t696 true _ ?side1 ?side2 ?side3 ?side4 ?side5 ?side6 A26.out).mono ?_);(case side1=>exact kC (Kd.R_reads' HO_3.out).2.2);(case side2=>exact (Kd.R_reads' HO_3.out).2.1);(case side3=>exact kC (Kd.R_reads' HO_4.out).2.2);(case side4=>exact (Kd.R_reads' HO_4.out).2.1);(case side5=>exact kC (Kd.R_reads' HO_8.out).2.2);(case side6=>exact (Kd.R_reads' HO_8.out).2.1);rintro e w45 ⟨rfl,hb⟩;refine⟨_,rfl,?_⟩;replace HO_3:=mk0 (bR HO_3.out hb);replace HO_4:=mk0 (bR HO_4.out hb);replace HO_8:=mk0 (bR HO_8.out hb);replace HB:=mk0 (kS HB.out hb);(try clear hb))|(go_at_call 23;(with_reducible refine (laws_pairs.calls _ _ t696 t702 _ ?side1 ?side2 A28.out).mono ?_);(case side1=>exact kC (Kd.R_reads' HO_8.out).2.2);(case side2=>exact (Kd.R_reads' HO_8.out).2.1);rintro e w46 ⟨v703,rfl,ho0,hb⟩;replace HO_3:=mk0 (bR HO_3.out hb);replace HO_4:=mk0 (bR HO_4.out hb);have HO704:=mk0 (Kd.R_lower (Kd.R_new' ho0 (Kd.R_lt (rR HO_8.out))) (kZ HB.out));replace HO_8:=mk0 (Kd.R_elder' (rR HO_8.out) (Kd.R_base ho0) hb);replace HB:=mk0 (kS HB.out hb);(try clear hb);(try clear ho0);obtain⟨Ao47,co47,eo47⟩:=Kd.R_slice HO704.out;subst eo47)|(go_at_call 22;(with_reducible refine (impl_ShareOk.calls kj7 _ _ t685 _ _ t686 _ _ t702 false _ ?side1 ?side2 ?side3 ?side4 ?side5 ?side6 A29.out).mono ?_);(case side1=>exact kC (Kd.R_reads' HO_3.out).2.2);(case side2=>exact (Kd.R_reads' HO_3.out).2.1);(case side3=>exact kC (Kd.R_reads' HO_4.out).2.2);(case side4=>exact (Kd.R_reads' HO_4.out).2.1);(case side5=>exact kC (Kd.R_reads' HO704.out).2.2);(case side6=>exact (Kd.R_reads' HO704.out).2.1);rintro e w48 ⟨rfl,hb⟩;replace HO_3:=mk0 (bR HO_3.out hb);replace HO_4:=mk0 (bR HO_4.out hb);replace HO_8:=mk0 (bR HO_8.out hb);replace HO704:=mk0 (bR HO704.out hb);replace HB:=mk0 (kS HB.out hb);(try clear hb)))
     go_meet
     case rel=>exact⟨_,(true),eS,H',⟨by have:=HJ7.out;first|omega|exact Nat.le_refl _⟩,⟨rR HO_3.out⟩,⟨rR HO_4.out⟩,⟨kB HB.out⟩⟩
    subst c30
    replace H:=iT H
    by_cases c31:t688 < 1000000
    rotate_left
    ·rw [if_neg c31] at H
     have c31b0:decide (t688 < 1000000) = false:=decide_eq_false c31
     clear c31
     (first|rw [c31b0]|(simp only [i64_w,i32_w];rw [c31b0])|skip)
     have H':=mk0 H
     clear H
     obtain⟨Ao39,co39,eo39⟩:=Kd.R_slice HO_8.out
     subst eo39
     go_wp2_with (first|((with_reducible refine gate_callee (f:=21) rfl ?_);refine gL (some 56) Try.func21 #[.slice Ao10 t685.length co10,.slice Ao11 t686.length co11,.slice Ao39 t696.length co39] ?_;(with_reducible refine (spec_ShareOk.calls kj7 _ _ t685 _ _ t686 _ _ t696 true _ ?side1 ?side2 ?side3 ?side4 ?side5 ?side6 A26.out).mono ?_);(case side1=>exact kC (Kd.R_reads' HO_3.out).2.2);(case side2=>exact (Kd.R_reads' HO_3.out).2.1);(case side3=>exact kC (Kd.R_reads' HO_4.out).2.2);(case side4=>exact (Kd.R_reads' HO_4.out).2.1);(case side5=>exact kC (Kd.R_reads' HO_8.out).2.2);(case side6=>exact (Kd.R_reads' HO_8.out).2.1);rintro e w40 ⟨rfl,hb⟩;refine⟨_,rfl,?_⟩;replace HO_3:=mk0 (bR HO_3.out hb);replace HO_4:=mk0 (bR HO_4.out hb);replace HO_8:=mk0 (bR HO_8.out hb);replace HB:=mk0 (kS HB.out hb);(try clear hb))|(go_at_call 23;(with_reducible refine (laws_pairs.calls _ _ t696 t702 _ ?side1 ?side2 A28.out).mono ?_);(case side1=>exact kC (Kd.R_reads' HO_8.out).2.2);(case side2=>exact (Kd.R_reads' HO_8.out).2.1);rintro e w41 ⟨v703,rfl,ho0,hb⟩;replace HO_3:=mk0 (bR HO_3.out hb);replace HO_4:=mk0 (bR HO_4.out hb);have HO704:=mk0 (Kd.R_lower (Kd.R_new' ho0 (Kd.R_lt (rR HO_8.out))) (kZ HB.out));replace HO_8:=mk0 (Kd.R_elder' (rR HO_8.out) (Kd.R_base ho0) hb);replace HB:=mk0 (kS HB.out hb);(try clear hb);(try clear ho0);obtain⟨Ao42,co42,eo42⟩:=Kd.R_slice HO704.out;subst eo42)|(go_at_call 22;(with_reducible refine (impl_ShareOk.calls kj7 _ _ t685 _ _ t686 _ _ t702 true _ ?side1 ?side2 ?side3 ?side4 ?side5 ?side6 A29.out).mono ?_);(case side1=>exact kC (Kd.R_reads' HO_3.out).2.2);(case side2=>exact (Kd.R_reads' HO_3.out).2.1);(case side3=>exact kC (Kd.R_reads' HO_4.out).2.2);(case side4=>exact (Kd.R_reads' HO_4.out).2.1);(case side5=>exact kC (Kd.R_reads' HO704.out).2.2);(case side6=>exact (Kd.R_reads' HO704.out).2.1);rintro e w43 ⟨rfl,hb⟩;replace HO_3:=mk0 (bR HO_3.out hb);replace HO_4:=mk0 (bR HO_4.out hb);replace HO_8:=mk0 (bR HO_8.out hb);replace HO704:=mk0 (bR HO704.out hb);replace HB:=mk0 (kS HB.out hb);(try clear hb)))
     go_meet
     case rel=>exact⟨_,(false),eS,H',⟨by have:=HJ7.out;first|omega|exact Nat.le_refl _⟩,⟨rR HO_3.out⟩,⟨rR HO_4.out⟩,⟨kB HB.out⟩⟩
    rw [if_pos c31] at H
    have c31b0:decide (t688 < 1000000) = true:=decide_eq_true c31
    clear c31
    (first|rw [c31b0]|(simp only [i64_w,i32_w];rw [c31b0])|skip)
    replace H:=bE H
    obtain⟨t706,A32,H⟩:=H
    have H':=mk0 H
    clear H
    obtain⟨Ao33,co33,eo33⟩:=Kd.R_slice HO_8.out
    subst eo33
    go_wp2_with (first|((with_reducible refine gate_callee (f:=21) rfl ?_);refine gL (some 56) Try.func21 #[.slice Ao10 t685.length co10,.slice Ao11 t686.length co11,.slice Ao33 t696.length co33] ?_;(with_reducible refine (spec_ShareOk.calls kj7 _ _ t685 _ _ t686 _ _ t696 true _ ?side1 ?side2 ?side3 ?side4 ?side5 ?side6 A26.out).mono ?_);(case side1=>exact kC (Kd.R_reads' HO_3.out).2.2);(case side2=>exact (Kd.R_reads' HO_3.out).2.1);(case side3=>exact kC (Kd.R_reads' HO_4.out).2.2);(case side4=>exact (Kd.R_reads' HO_4.out).2.1);(case side5=>exact kC (Kd.R_reads' HO_8.out).2.2);(case side6=>exact (Kd.R_reads' HO_8.out).2.1);rintro e w34 ⟨rfl,hb⟩;refine⟨_,rfl,?_⟩;replace HO_3:=mk0 (bR HO_3.out hb);replace HO_4:=mk0 (bR HO_4.out hb);replace HO_8:=mk0 (bR HO_8.out hb);replace HB:=mk0 (kS HB.out hb);(try clear hb))|(go_at_call 23;(with_reducible refine (laws_pairs.calls _ _ t696 t702 _ ?side1 ?side2 A28.out).mono ?_);(case side1=>exact kC (Kd.R_reads' HO_8.out).2.2);(case side2=>exact (Kd.R_reads' HO_8.out).2.1);rintro e w35 ⟨v703,rfl,ho0,hb⟩;replace HO_3:=mk0 (bR HO_3.out hb);replace HO_4:=mk0 (bR HO_4.out hb);have HO704:=mk0 (Kd.R_lower (Kd.R_new' ho0 (Kd.R_lt (rR HO_8.out))) (kZ HB.out));replace HO_8:=mk0 (Kd.R_elder' (rR HO_8.out) (Kd.R_base ho0) hb);replace HB:=mk0 (kS HB.out hb);(try clear hb);(try clear ho0);obtain⟨Ao36,co36,eo36⟩:=Kd.R_slice HO704.out;subst eo36)|(go_at_call 22;(with_reducible refine (impl_ShareOk.calls kj7 _ _ t685 _ _ t686 _ _ t702 true _ ?side1 ?side2 ?side3 ?side4 ?side5 ?side6 A29.out).mono ?_);(case side1=>exact kC (Kd.R_reads' HO_3.out).2.2);(case side2=>exact (Kd.R_reads' HO_3.out).2.1);(case side3=>exact kC (Kd.R_reads' HO_4.out).2.2);(case side4=>exact (Kd.R_reads' HO_4.out).2.1);(case side5=>exact kC (Kd.R_reads' HO704.out).2.2);(case side6=>exact (Kd.R_reads' HO704.out).2.1);rintro e w37 ⟨rfl,hb⟩;replace HO_3:=mk0 (bR HO_3.out hb);replace HO_4:=mk0 (bR HO_4.out hb);replace HO_8:=mk0 (bR HO_8.out hb);replace HO704:=mk0 (bR HO704.out hb);replace HB:=mk0 (kS HB.out hb);(try clear hb))|(go_at_call 11;(with_reducible refine (impl_ShareLost.calls kj7 _ _ t685 _ _ t686 t687 (wrap64 (t688 + 1)) t706 _ ?side1 ?side2 ?side3 ?side4 A32.out).mono ?_);(case side1=>exact kC (Kd.R_reads' HO_3.out).2.2);(case side2=>exact (Kd.R_reads' HO_3.out).2.1);(case side3=>exact kC (Kd.R_reads' HO_4.out).2.2);(case side4=>exact (Kd.R_reads' HO_4.out).2.1);rintro e w38 ⟨rfl,hb⟩;replace HO_3:=mk0 (bR HO_3.out hb);replace HO_4:=mk0 (bR HO_4.out hb);replace HO_8:=mk0 (bR HO_8.out hb);replace HO704:=mk0 (bR HO704.out hb);replace HB:=mk0 (kS HB.out hb);(try clear hb)))
    go_meet
    case rel=>exact⟨_,(decide (t706 > t699)),eS,H',⟨by have:=HJ7.out;first|omega|exact Nat.le_refl _⟩,⟨rR HO_3.out⟩,⟨rR HO_4.out⟩,⟨kB HB.out⟩⟩
   case rest =>
    clear HC25
    try clear c1
    try clear c2
    try clear p2
    try clear c3
    try clear c5
    try clear p6
    try clear c11
    try clear c13
    try clear c14
    try clear c15
    try clear c15b0
    try clear c15b1
    try clear c15b2
    try clear c19
    try clear c20
    try clear c21
    try clear c22
    try clear c23
    try clear c23b0
    try clear c27
    try clear c30
    try clear c31
    try clear c31b0
    try clear p2
    obtain⟨kq,x79_24,rfl,HA,HJ24,HO_3,HO_4,HB⟩:=hcut
    cases kq with
    | zero=>exact absurd HA.out (by simp [laws_FnShare.j1])
    | succ kj24 =>
     have H:=HA.out
     clear HA
     simp only [laws_FnShare.j1] at H
     by_cases c51:x79_24 = true
     ·subst c51
      replace H:=iT H
      obtain rfl:=Option.some.inj H
      go_wp2
      go_ret
      exact⟨eR,kB HB.out⟩
     replace c51:=Bool.eq_false_iff.mpr c51
     subst c51
     replace H:=iF H
     replace H:=bE H
     obtain⟨t707,A52,H⟩:=H
     obtain rfl:=Option.some.inj H
     go_wp2_with (first|((with_reducible refine gate_callee (f:=11) rfl ?_);refine gL (some 82) Try.func11 #[.slice Ao10 t685.length co10,.slice Ao11 t686.length co11,.int .i64 0,.int .i64 1000] ?_;(with_reducible refine (impl_ShareLost.calls kj24 _ _ t685 _ _ t686 0 1000 t707 _ ?side1 ?side2 ?side3 ?side4 A52.out).mono ?_);(case side1=>exact kC (Kd.R_reads' HO_3.out).2.2);(case side2=>exact (Kd.R_reads' HO_3.out).2.1);(case side3=>exact kC (Kd.R_reads' HO_4.out).2.2);(case side4=>exact (Kd.R_reads' HO_4.out).2.1);rintro e w53 ⟨rfl,hb⟩;refine⟨_,rfl,?_⟩;replace HO_3:=mk0 (bR HO_3.out hb);replace HO_4:=mk0 (bR HO_4.out hb);replace HB:=mk0 (kS HB.out hb);(try clear hb)))
     go_ret
     exact⟨eR,kB HB.out⟩
/-- THE ONE PURE STATEMENT of laws_FnShare: yours. -/
def laws_FnShare.Pure : Prop := ∀ (l0 : List Int), l0.length ≤ maxLen → l0.length * 1 ≤ 140737488351232 → (∀ x ∈ l0, (Lit.int .u8 x).wf = true) → ∃ k, laws_FnShare.f k l0 = some true
theorem laws_FnShare.walk (P : laws_FnShare.Pure) (a0 : Option Addr) (len0 cap0 : Nat) (z0 : List Int) (w : World) (w0 : (a0 = none ∧ len0 = 0 ∧ cap0 = 0 ∧ z0 = []) ∨ ∃ x, a0 = some x ∧ len0 ≤ cap0 ∧ cap0 ≤ maxLen ∧ z0.length = cap0 ∧ (∀ i, i < z0.length → w.cell? (x.add i) = some (.int .u8 (z0.getD i 0))) ∧ ∀ n ∈ z0, (Lit.int .u8 n).wf = true) (y0 : len0 * 1 ≤ 140737488351232) :
    Calls Try.prog 5 #[.slice a0 len0 cap0] w fun e w' => e = .returned (.bool true) ∧ Below w.heap.size w w' := by
  obtain ⟨l0, rfl, hr0, hm0, hw0, hc0⟩ := ReadsInt.ofRowC w0
  obtain ⟨k, h⟩ := P l0 hm0 y0 hw0
  refine (laws_FnShare.calls k _ _ l0 true w (Kd.C_of_reads (d := (0 : Int)) (h1 := fun _ => rfl) hr0) hc0 h).mono ?_
  rintro e w' ⟨rfl, hd⟩
  exact ⟨rfl, hd⟩
end Go.Proofs.Ytadhngelhognaaa.QFnShare
