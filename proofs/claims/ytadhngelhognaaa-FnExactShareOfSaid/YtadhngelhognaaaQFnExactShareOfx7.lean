-- A walk, made by walk.py, a program of this session's.
import Derived.Test.YtadhngelhognaaaQFnExactShareOfx0
import Derived.Test.YtadhngelhognaaaQFnExactShareOfx3
import Derived.Test.YtadhngelhognaaaQFnExactShareOfx4
import Derived.Test.YtadhngelhognaaaQFnExactShareOfx6
namespace Go.Proofs.Ytadhngelhognaaa.QFnExactShareOf
open Go.RowKit Go.Proofs.YtadhngelhognaaaW.PrintWords Go.Proofs.YtadhngelhognaaaW.PrintLast Go.Proofs.YtadhngelhognaaaW.PrintMore
set_option linter.unusedVariables false
set_option linter.unusedSimpArgs false
attribute [local go_sem] max2_int min2_int max_two min_two max_three min_three max_four min_four
mutual
def spec_ShareOf.l0 : Nat → Int → List (S56) → Int → List (S48) → List Int → List Int → Option ((List (S56)))
 | 0, _, _, _, _, _, _ => none
 | k + 1, x3, x9, x13, x21, x23, x25 => if x13 < (x21.length : Int) then (if 0 ≤ x13 then (if 0 ≤ ((rd_T48 x21 x13).f1) then (if ((rd_T48 x21 x13).f1) ≤ ((rd_T48 x21 x13).f2) then (if ((rd_T48 x21 x13).f2) ≤ (x23.length : Int) then (if 0 ≤ ((rd_T48 x21 x13).f3) then (if ((rd_T48 x21 x13).f3) ≤ ((rd_T48 x21 x13).f4) then (if ((rd_T48 x21 x13).f4) ≤ (x25.length : Int) then ((spec_CommonWithin.f k ((x23.take (((rd_T48 x21 x13).f2) : Int).toNat).drop (((rd_T48 x21 x13).f1) : Int).toNat) ((x25.take (((rd_T48 x21 x13).f4) : Int).toNat).drop (((rd_T48 x21 x13).f3) : Int).toNat) x3).bind fun t330 => (spec_ShareOf.l1 k x3 x9 x13 0 x21 x23 x25 t330 ((rd_T48 x21 x13).f0) ((rd_T48 x21 x13).f1) ((rd_T48 x21 x13).f2) ((rd_T48 x21 x13).f3) ((rd_T48 x21 x13).f4))) else (none)) else (none)) else (none)) else (none)) else (none)) else (none)) else (none)) else (some x9)
def spec_ShareOf.l1 : Nat → Int → List (S56) → Int → Int → List (S48) → List Int → List Int → List (S56) → List Int → Int → Int → Int → Int → Option ((List (S56)))
 | 0, _, _, _, _, _, _, _, _, _, _, _, _, _ => none
 | k + 1, x3, x9, x13, x16, x21, x23, x25, x49, x320000, x320001, x320002, x320003, x320004 => if x16 < (x49.length : Int) then (if 0 ≤ x16 then (if x9.length < 8796093022208 then (spec_ShareOf.l1 k x3 (x9 ++ [(⟨wrap64 (((rd_T56 x49 x16).f0) + x320001), wrap64 (((rd_T56 x49 x16).f1) + x320003)⟩ : S56)]) x13 (wrap64 (x16 + 1)) x21 x23 x25 x49 x320000 x320001 x320002 x320003 x320004) else (none)) else (none)) else (spec_ShareOf.l0 k x3 x9 (wrap64 (x13 + 1)) x21 x23 x25)
end
def spec_ShareOf.f (k : Nat) (l0 : List Int) (l1 : List Int) (a2 : Int) (a3 : Int) : Option ((List (S56))) := (spec_Parts.f k l0 l1 a2).bind fun t309 => ((spec_BwtOf.f k l0).bind fun t312 => ((spec_BwtOf.f k l1).bind fun t315 => (spec_ShareOf.l0 k a3 (([] : List (S56))) 0 t309 t312 t315)))
theorem spec_ShareOf.mono_l : ∀ k, (∀ y0 y1 y2 y3 y4 y5, LeO (spec_ShareOf.l0 k y0 y1 y2 y3 y4 y5) (spec_ShareOf.l0 (k + 1) y0 y1 y2 y3 y4 y5)) ∧ (∀ y0 y1 y2 y3 y4 y5 y6 y7 y8 y9 y10 y11 y12, LeO (spec_ShareOf.l1 k y0 y1 y2 y3 y4 y5 y6 y7 y8 y9 y10 y11 y12) (spec_ShareOf.l1 (k + 1) y0 y1 y2 y3 y4 y5 y6 y7 y8 y9 y10 y11 y12))
 | 0 => ⟨fun _ _ _ _ _ _ r h => by simp [spec_ShareOf.l0] at h, fun _ _ _ _ _ _ _ _ _ _ _ _ _ r h => by simp [spec_ShareOf.l1] at h⟩
 | k + 1 => by
  obtain ⟨ih0, ih1⟩ := spec_ShareOf.mono_l k
  refine ⟨?_, ?_⟩
  ·intro y0 y1 y2 y3 y4 y5
   unfold spec_ShareOf.l0
   repeat' first|(with_reducible first|exact ih0 _ _ _ _ _ _|exact ih1 _ _ _ _ _ _ _ _ _ _ _ _ _|exact spec_BwtOf.mono _ _|exact spec_CommonWithin.mono _ _ _ _|exact spec_Parts.mono _ _ _ _|exact LeO.refl _|exact LeO.none _|refine LeO.ite ?_ ?_|refine LeO.bind ?_ (fun _ => ?_))|exact LeO.none _|refine LeO.ite ?_ ?_|refine LeO.bind ?_ (fun _ => ?_)
  ·intro y0 y1 y2 y3 y4 y5 y6 y7 y8 y9 y10 y11 y12
   unfold spec_ShareOf.l1
   repeat' first|(with_reducible first|exact ih0 _ _ _ _ _ _|exact ih1 _ _ _ _ _ _ _ _ _ _ _ _ _|exact spec_BwtOf.mono _ _|exact spec_CommonWithin.mono _ _ _ _|exact spec_Parts.mono _ _ _ _|exact LeO.refl _|exact LeO.none _|refine LeO.ite ?_ ?_|refine LeO.bind ?_ (fun _ => ?_))|exact LeO.none _|refine LeO.ite ?_ ?_|refine LeO.bind ?_ (fun _ => ?_)
theorem spec_ShareOf.mono : ∀ a0 a1 a2 a3 k, LeO (spec_ShareOf.f k a0 a1 a2 a3) (spec_ShareOf.f (k + 1) a0 a1 a2 a3) := by
 intro a0 a1 a2 a3 k
 obtain ⟨ih0, ih1⟩ := spec_ShareOf.mono_l k
 unfold spec_ShareOf.f
 repeat' first|(with_reducible first|exact ih0 _ _ _ _ _ _|exact ih1 _ _ _ _ _ _ _ _ _ _ _ _ _|exact spec_BwtOf.mono _ _|exact spec_CommonWithin.mono _ _ _ _|exact spec_Parts.mono _ _ _ _|exact LeO.refl _|exact LeO.none _|refine LeO.ite ?_ ?_|refine LeO.bind ?_ (fun _ => ?_))|exact LeO.none _|refine LeO.ite ?_ ?_|refine LeO.bind ?_ (fun _ => ?_)
def spec_ShareOf.T9 : Bool × List (List Nat × List Nat) := (true, [([], []), ([], []), ([1], [1]), ([], []), ([3], [3]), ([0, 2, 4], [0, 2, 4]), ([], []), ([], []), ([7], [7]), ([], []), ([9], [9]), ([6, 8, 10], [6, 8, 10]), ([], []), ([5, 11, 12], [5, 11, 12]), ([13, 13, 0, 1, 2, 3, 4, 5, 6, 7, 8, 9, 10, 11, 12, 13], [13])])
def spec_ShareOf.B9 : List Nat := [0, 0, 2, 0, 8, 31, 0, 0, 128, 0, 512, 1984, 0, 8191, 16383]
theorem spec_ShareOf.tab9 : rtab .any (opsOf Try.f13 9) = spec_ShareOf.T9 := by kernel_rfl
theorem spec_ShareOf.bits9 : waitsOk spec_ShareOf.T9.2 spec_ShareOf.B9 = true := by kernel_rfl
def spec_ShareOf.T13 : Bool × List (List Nat × List Nat) := (true, [([], []), ([], []), ([], []), ([1, 2], [1, 2]), ([3], [3]), ([4], [4]), ([], []), ([6], [6]), ([5, 7], [5, 7]), ([], []), ([], []), ([9, 10], [9, 10]), ([11], [11]), ([12], [12]), ([], []), ([14], [14]), ([13, 15], [13, 15]), ([8, 16], [8, 16]), ([17], [17]), ([0, 18], [0, 18]), ([19, 19, 0, 1, 2, 3, 4, 5, 6, 7, 8, 9, 10, 11, 12, 13, 14, 15, 16, 17, 18, 19], [0, 19])])
def spec_ShareOf.B13 : List Nat := [0, 0, 0, 6, 14, 30, 0, 64, 254, 0, 0, 1536, 3584, 7680, 0, 16384, 65024, 131070, 262142, 524287, 1048575]
theorem spec_ShareOf.tab13 : rtab .any (opsOf Try.f13 13) = spec_ShareOf.T13 := by kernel_rfl
theorem spec_ShareOf.bits13 : waitsOk spec_ShareOf.T13.2 spec_ShareOf.B13 = true := by kernel_rfl
abbrev spec_ShareOf.m0 : Array Bool := #[F,F,F,F,F,F,F,F,F,F,F,F,F,F,F]
abbrev spec_ShareOf.m1 : Array Bool := #[T,F,F,F,F,F,F,F,F,F,F,F,F,F,F]
abbrev spec_ShareOf.m2 : Array Bool := #[T,T,F,F,F,F,F,F,F,F,F,F,F,F,F]
abbrev spec_ShareOf.m3 : Array Bool := #[T,T,F,T,F,F,F,F,F,F,F,F,F,F,F]
abbrev spec_ShareOf.m4 : Array Bool := #[T,T,F,T,F,F,T,F,F,F,F,F,F,F,F]
abbrev spec_ShareOf.m5 : Array Bool := #[T,T,F,T,F,F,T,T,F,F,F,F,F,F,F]
abbrev spec_ShareOf.m6 : Array Bool := #[T,T,F,T,F,F,T,T,F,T,F,F,F,F,F]
abbrev spec_ShareOf.m7 : Array Bool := #[T,T,F,T,F,F,T,T,F,T,F,F,T,F,F]
abbrev spec_ShareOf.m8 : Array Bool := #[T,T,T,T,F,F,T,T,F,T,F,F,T,F,F]
abbrev spec_ShareOf.m9 : Array Bool := #[T,T,T,T,T,F,T,T,F,T,F,F,T,F,F]
abbrev spec_ShareOf.m10 : Array Bool := #[T,T,T,T,T,T,T,T,F,T,F,F,T,F,F]
abbrev spec_ShareOf.m11 : Array Bool := #[T,T,T,T,T,T,T,T,T,T,F,F,T,F,F]
abbrev spec_ShareOf.m12 : Array Bool := #[T,T,T,T,T,T,T,T,T,T,T,F,T,F,F]
abbrev spec_ShareOf.m13 : Array Bool := #[T,T,T,T,T,T,T,T,T,T,T,T,T,F,F]
abbrev spec_ShareOf.m14 : Array Bool := #[T,T,T,T,T,T,T,T,T,T,T,T,T,T,F]
abbrev spec_ShareOf.m15 : Array Bool := #[T,T,T,T,T,T,T,T,T,T,T,T,T,T,T]
abbrev spec_ShareOf.m16 : Array Bool := #[F,F,F,F,F,F,F,F,F,F,F,F,F,F,F,F,F,F,F,F,F]
abbrev spec_ShareOf.m17 : Array Bool := #[T,F,F,F,F,F,F,F,F,F,F,F,F,F,F,F,F,F,F,F,F]
abbrev spec_ShareOf.m18 : Array Bool := #[T,T,F,F,F,F,F,F,F,F,F,F,F,F,F,F,F,F,F,F,F]
abbrev spec_ShareOf.m19 : Array Bool := #[T,T,T,F,F,F,F,F,F,F,F,F,F,F,F,F,F,F,F,F,F]
abbrev spec_ShareOf.m20 : Array Bool := #[T,T,T,T,F,F,F,F,F,F,F,F,F,F,F,F,F,F,F,F,F]
abbrev spec_ShareOf.m21 : Array Bool := #[T,T,T,T,T,F,F,F,F,F,F,F,F,F,F,F,F,F,F,F,F]
abbrev spec_ShareOf.m22 : Array Bool := #[T,T,T,T,T,F,T,F,F,F,F,F,F,F,F,F,F,F,F,F,F]
abbrev spec_ShareOf.m23 : Array Bool := #[T,T,T,T,T,F,T,F,F,T,F,F,F,F,F,F,F,F,F,F,F]
abbrev spec_ShareOf.m24 : Array Bool := #[T,T,T,T,T,F,T,F,F,T,T,F,F,F,F,F,F,F,F,F,F]
abbrev spec_ShareOf.m25 : Array Bool := #[T,T,T,T,T,F,T,F,F,T,T,T,F,F,F,F,F,F,F,F,F]
abbrev spec_ShareOf.m26 : Array Bool := #[T,T,T,T,T,F,T,F,F,T,T,T,T,F,F,F,F,F,F,F,F]
abbrev spec_ShareOf.m27 : Array Bool := #[T,T,T,T,T,F,T,F,F,T,T,T,T,F,T,F,F,F,F,F,F]
abbrev spec_ShareOf.m28 : Array Bool := #[T,T,T,T,T,T,T,F,F,T,T,T,T,F,T,F,F,F,F,F,F]
abbrev spec_ShareOf.m29 : Array Bool := #[T,T,T,T,T,T,T,T,F,T,T,T,T,F,T,F,F,F,F,F,F]
abbrev spec_ShareOf.m30 : Array Bool := #[T,T,T,T,T,T,T,T,T,T,T,T,T,F,T,F,F,F,F,F,F]
abbrev spec_ShareOf.m31 : Array Bool := #[T,T,T,T,T,T,T,T,T,T,T,T,T,T,T,F,F,F,F,F,F]
abbrev spec_ShareOf.m32 : Array Bool := #[T,T,T,T,T,T,T,T,T,T,T,T,T,T,T,T,F,F,F,F,F]
abbrev spec_ShareOf.m33 : Array Bool := #[T,T,T,T,T,T,T,T,T,T,T,T,T,T,T,T,T,F,F,F,F]
abbrev spec_ShareOf.m34 : Array Bool := #[T,T,T,T,T,T,T,T,T,T,T,T,T,T,T,T,T,T,F,F,F]
abbrev spec_ShareOf.m35 : Array Bool := #[T,T,T,T,T,T,T,T,T,T,T,T,T,T,T,T,T,T,T,F,F]
abbrev spec_ShareOf.m36 : Array Bool := #[T,T,T,T,T,T,T,T,T,T,T,T,T,T,T,T,T,T,T,T,F]
abbrev spec_ShareOf.m37 : Array Bool := #[T,T,T,T,T,T,T,T,T,T,T,T,T,T,T,T,T,T,T,T,T]
set_option maxHeartbeats 8000000 in
set_option maxRecDepth 100000 in
theorem spec_ShareOf.calls (k : Nat) (A0 : Option Addr) (c0 : Nat) (l0 : List Int) (A1 : Option Addr) (c1 : Nat) (l1 : List Int) (a2 : Int) (a3 : Int) (r : List (S56)) (w : World) (hr0 : Kd.C (Kd.int .u8) w A0 l0.length l0) (hc0 : l0.length ≤ c0) (hr1 : Kd.C (Kd.int .u8) w A1 l1.length l1) (hc1 : l1.length ≤ c1) (h : spec_ShareOf.f k l0 l1 a2 a3 = some r) :
  Calls Try.prog 13 #[.slice A0 l0.length c0, .slice A1 l1.length c1, .int .i64 a2, .int .i64 a3] w fun e w' => ∃ v0_ : Value, e = .returned (v0_) ∧ Kd.R k56 56 w' w.heap.size (fun _ => True) v0_ r ∧ Below w.heap.size w w' := by
 have hu48:=Try.underlying48
 have hu56:=Try.underlying56
 have HR0:=mk0 hr0
 have HC0:=mk0 hc0
 clear hr0 hc0
 have HR1:=mk0 hr1
 have HC1:=mk0 hc1
 clear hr1 hc1
 have HB:=mk0 (Below.refl w.heap.size w)
 have H:((spec_Parts.f k l0 l1 a2).bind fun t309=>((spec_BwtOf.f k l0).bind fun t312=>((spec_BwtOf.f k l1).bind fun t315=>(spec_ShareOf.l0 k a3 (([]:List (S56))) 0 t309 t312 t315)))) = some r:=h
 clear h
 obtain⟨y306,hy306⟩:∃ y_:List (S56),y_ = (([]:List (S56))):=⟨_,rfl⟩
 replace H:((spec_Parts.f k l0 l1 a2).bind fun t309=>((spec_BwtOf.f k l0).bind fun t312=>((spec_BwtOf.f k l1).bind fun t315=>(spec_ShareOf.l0 k a3 y306 0 t309 t312 t315)))) = some r:=by first|(rw [hy306];with_reducible exact H)|(have H2_:=(Option.bind_some _ _).symm.trans H;rw [hy306];with_reducible exact H2_)|(have H2_:=(Option.bind_some _ _).symm.trans H;with_reducible exact H2_)|with_reducible exact H|(rw [hy306];exact H)|exact H
 have Ny306:=mk0 hy306
 clear hy306
 replace H:=Option.bind_eq_some_iff.mp H
 obtain⟨t309,A50,H⟩:=H
 replace H:((spec_BwtOf.f k l0).bind fun t312=>((spec_BwtOf.f k l1).bind fun t315=>(spec_ShareOf.l0 k a3 y306 0 t309 t312 t315))) = some r:=H
 have A5:=mk0 A50
 clear A50
 replace H:=Option.bind_eq_some_iff.mp H
 obtain⟨t312,A60,H⟩:=H
 replace H:((spec_BwtOf.f k l1).bind fun t315=>(spec_ShareOf.l0 k a3 y306 0 t309 t312 t315)) = some r:=H
 have A6:=mk0 A60
 clear A60
 replace H:=Option.bind_eq_some_iff.mp H
 obtain⟨t315,A70,H⟩:=H
 replace H:(spec_ShareOf.l0 k a3 y306 0 t309 t312 t315) = some r:=H
 have A7:=mk0 A70
 clear A70
 have H':=mk0 H
 clear H
 go_enter Try.func13,Try.ntmps13
 go_wp2_with (first|((with_reducible refine gate_dst (N:=17) rfl ?_);refine Kd.R_lit k56 _ 56 ?hg (N:=17) ?hd (xs:=([]:List (S56))) (inner:=[]) (ok:=fun _=>True) (okp:=fun _=>True) ?hr ?hp (fun _ hk=>hk) trivial (Below.refl _ _) (Nat.le_refl _) (by simp) ?_;(case hd=>rfl);(case hg=>rfl);(case hr=>first|(go_simp;done)|(go_simp;rfl));(case hp=>exact (Reps.none _ _));intro v307 w8 ho9 hb hg_ hnew_;clear hg_ hnew_;(first|rw [← Ny306.out] at ho9|(simp only [Int.reduceToNat] at ho9;rw [← Ny306.out] at ho9));have HO308:=mk0 (Kd.R_lower ho9 (kZ HB.out));replace HB:=mk0 (kS HB.out hb);clear hb ho9)|((with_reducible refine gate_callee (f:=27) rfl ?_);refine goesL_ (some 21) rfl rfl Try.func27 (by kernel_rfl) rfl #[.slice A0 l0.length c0,.slice A1 l1.length c1,.int .i64 a2] rfl (by (try simp only [mA,mC,mN]);first|done|rfl|(simp only [List.length_drop,List.length_take];done)|(simp only [List.length_drop,List.length_take];rfl)) ?_;(with_reducible refine (spec_Parts.calls k (fun k_=>k_ < w.heap.size) _ _ l0 (fun k_=>k_ < w.heap.size) _ _ l1 a2 t309 _ ?side1 ?side2 A5.out).mono ?_);(case side1=>exact Kd.V_mk HC0.out (Kd.F_below (Kd.C_F (Kd.heap_int .u8) HR0.out) (kB HB.out)));(case side2=>exact Kd.V_mk HC1.out (Kd.F_below (Kd.C_F (Kd.heap_int .u8) HR1.out) (kB HB.out)));rintro e w10 ⟨v310,rfl,ho0,hb⟩;refine⟨_,rfl,?_⟩;have HO311:=mk0 (Kd.N_lower (Kd.N_mono (ok':=fun k_=>some k_ ≠ (v307:Value).ownBlock) ho0 (fun k_ hk_=>Or.elim hk_ (fun hs_=>Or.elim hs_ (fun hs_=>fun e_=>Nat.not_le.2 hs_ (Kd.R_base HO308.out k_ e_.symm)) (fun hs_=>fun e_=>Nat.not_le.2 hs_ (Kd.R_base HO308.out k_ e_.symm))) (fun hn_=>(Kd.fresh' (Kd.R_lt (rR HO308.out)) k_ hn_)))) (kZ HB.out));replace HO308:=mk0 (bR HO308.out hb);replace HB:=mk0 (kS HB.out hb);(try clear hb);(try clear ho0))|((with_reducible refine gate_callee (f:=37) rfl ?_);refine goesL_ (some 23) rfl rfl Try.func37 (by kernel_rfl) rfl #[.slice A0 l0.length c0] rfl (by (try simp only [mA,mC,mN]);first|done|rfl|(simp only [List.length_drop,List.length_take];done)|(simp only [List.length_drop,List.length_take];rfl)) ?_;(with_reducible refine (spec_BwtOf.calls k _ _ l0 t312 _ ?side1 ?side2 A6.out).mono ?_);(case side1=>exact kC (Kd.C_below HR0.out HB.out));(case side2=>exact HC0.out);rintro e w11 ⟨v313,rfl,ho0,hb⟩;refine⟨_,rfl,?_⟩;replace HO308:=mk0 (bR HO308.out hb);replace HO311:=mk0 (Kd.N_elder' (rN HO311.out) (Kd.R_base ho0) hb);have HO314:=mk0 (Kd.R_lower ho0 (kZ HB.out));replace HB:=mk0 (kS HB.out hb);(try clear hb);(try clear ho0))|((with_reducible refine gate_callee (f:=37) rfl ?_);refine goesL_ (some 25) rfl rfl Try.func37 (by kernel_rfl) rfl #[.slice A1 l1.length c1] rfl (by (try simp only [mA,mC,mN]);first|done|rfl|(simp only [List.length_drop,List.length_take];done)|(simp only [List.length_drop,List.length_take];rfl)) ?_;(with_reducible refine (spec_BwtOf.calls k _ _ l1 t315 _ ?side1 ?side2 A7.out).mono ?_);(case side1=>exact kC (Kd.C_below HR1.out HB.out));(case side2=>exact HC1.out);rintro e w12 ⟨v316,rfl,ho0,hb⟩;refine⟨_,rfl,?_⟩;replace HO308:=mk0 (bR HO308.out hb);replace HO311:=mk0 (Kd.N_elder' (rN HO311.out) (Kd.R_base ho0) hb);have HO317:=mk0 (Kd.R_lower (Kd.R_new' ho0 (Kd.R_lt (rR HO314.out))) (kZ HB.out));replace HO314:=mk0 (Kd.R_elder' (rR HO314.out) (Kd.R_base ho0) hb);replace HB:=mk0 (kS HB.out hb);(try clear hb);(try clear ho0)))
 go_loopg [9,13] k (fun kq v9 v13 w'=>∃ (x9_1:List (S56)) (x13_1:Int),v13 = .int .i64 x13_1 ∧ Aside0 (spec_ShareOf.l0 kq a3 x9_1 x13_1 t309 t312 t315 = some r) ∧ Aside0 (kq ≤ k) ∧ Aside0 (Kd.R k56 56 w' w.heap.size (fun _=>True) v9 x9_1) ∧ Aside0 (Kd.N k48 48 w' w.heap.size (fun k_=>some k_ ≠ (v9:Value).ownBlock ∧ some k_ ≠ (v313:Value).ownBlock ∧ some k_ ≠ (v316:Value).ownBlock) v310 t309) ∧ Aside0 (Kd.R (Kd.int .i64) 3 w' w.heap.size (fun k_=>some k_ ≠ (v316:Value).ownBlock) v313 t312) ∧ Aside0 (Kd.R (Kd.int .i64) 3 w' w.heap.size (fun k_=>some k_ ≠ (v313:Value).ownBlock) v316 t315) ∧ Aside0 (Below w.heap.size w w'))
 case atStart=>exact⟨(y306),(0),(by first|rfl|(simp;done)|(simp [*];done)),H',⟨Nat.le_refl _⟩,⟨rR HO308.out⟩,⟨rN (Kd.N_mono HO311.out (fun _ hk=>⟨hk.1.1,⟨hk.1.2,hk.2⟩⟩))⟩,⟨rR (Kd.R_mono HO314.out (fun _ hk=>hk.2))⟩,⟨rR (Kd.R_mono HO317.out (fun _ hk=>hk.2))⟩,⟨kB HB.out⟩⟩
 case round =>
  clear H'
  try clear c1
  try clear c2
  try clear p2
  try clear c3
  obtain⟨x9_1,x13_1,rfl,HA,HK1,HO_9,HO_21,HO_23,HO_25,HB⟩:=hrel
  cases gk with
  | zero=>exact absurd HA.out (by simp [spec_ShareOf.l0])
  | succ k1 =>
   have H:=HA.out
   clear HA
   simp only [spec_ShareOf.l0] at H
   by_cases c13:x13_1 < (t309.length:Int)
   rotate_left
   ·rw [if_neg c13] at H
    have c13b0:decide (x13_1 < (t309.length:Int)) = false:=decide_eq_false c13
    (try simp only [hl318_0] at c13b0)
    clear c13
    obtain rfl:=Option.some.inj H
    obtain⟨Ao39,co39,eo39⟩:=Kd.N_slice HO_21.out
    subst eo39
    go_wp2
    go_ret
    exact⟨_,by first|rfl|(simp [errW_none,errW_some] <;> rfl)|(simp [*,errW_none,errW_some] <;> rfl),rR HO_9.out,kB HB.out⟩
   rw [if_pos c13] at H
   have c13b0:decide (x13_1 < (t309.length:Int)) = true:=decide_eq_true c13
   (try simp only [hl318_0] at c13b0)
   clear c13
   by_cases c14:0 ≤ x13_1
   rotate_left
   ·rw [if_neg c14] at H
    exact absurd H (by simp)
   rw [if_pos c14] at H
   have c14b0:decide (0 ≤ x13_1) = true:=decide_eq_true c14
   clear c14
   by_cases c15:0 ≤ ((rd_T48 t309 x13_1).f1)
   rotate_left
   ·rw [if_neg c15] at H
    exact absurd H (by simp)
   rw [if_pos c15] at H
   have c15b0:=eq_true c15
   have c15b1:decide (0 ≤ ((rd_T48 t309 x13_1).f1)) = true:=decide_eq_true c15
   clear c15
   by_cases c16:((rd_T48 t309 x13_1).f1) ≤ ((rd_T48 t309 x13_1).f2)
   rotate_left
   ·rw [if_neg c16] at H
    exact absurd H (by simp)
   rw [if_pos c16] at H
   have c16b0:=eq_true c16
   have c16b1:decide (((rd_T48 t309 x13_1).f1) ≤ ((rd_T48 t309 x13_1).f2)) = true:=decide_eq_true c16
   clear c16
   by_cases c17:((rd_T48 t309 x13_1).f2) ≤ (t312.length:Int)
   rotate_left
   ·rw [if_neg c17] at H
    exact absurd H (by simp)
   rw [if_pos c17] at H
   have c17b0:=eq_true c17
   have c17b1:decide (((rd_T48 t309 x13_1).f2) ≤ (t312.length:Int)) = true:=decide_eq_true c17
   (try simp only [hl318_0] at c17b1)
   clear c17
   obtain⟨y320,hy320⟩:∃ y_:List Int,y_ = ((t312.take (((rd_T48 t309 x13_1).f2):Int).toNat).drop (((rd_T48 t309 x13_1).f1):Int).toNat):=⟨_,rfl⟩
   replace H:(if 0 ≤ ((rd_T48 t309 x13_1).f3) then (if ((rd_T48 t309 x13_1).f3) ≤ ((rd_T48 t309 x13_1).f4) then (if ((rd_T48 t309 x13_1).f4) ≤ (t315.length:Int) then ((spec_CommonWithin.f k1 y320 ((t315.take (((rd_T48 t309 x13_1).f4):Int).toNat).drop (((rd_T48 t309 x13_1).f3):Int).toNat) a3).bind fun t330=>(spec_ShareOf.l1 k1 a3 x9_1 x13_1 0 t309 t312 t315 t330 ((rd_T48 t309 x13_1).f0) ((rd_T48 t309 x13_1).f1) ((rd_T48 t309 x13_1).f2) ((rd_T48 t309 x13_1).f3) ((rd_T48 t309 x13_1).f4))) else (none)) else (none)) else (none)) = some r:=by first|(rw [hy320];with_reducible exact H)|(have H2_:=(Option.bind_some _ _).symm.trans H;rw [hy320];with_reducible exact H2_)|(have H2_:=(Option.bind_some _ _).symm.trans H;with_reducible exact H2_)|with_reducible exact H|(rw [hy320];exact H)|exact H
   have Ny320:=mk0 hy320
   clear hy320
   by_cases c18:0 ≤ ((rd_T48 t309 x13_1).f3)
   rotate_left
   ·rw [if_neg c18] at H
    exact absurd H (by simp)
   rw [if_pos c18] at H
   have c18b0:=eq_true c18
   have c18b1:decide (0 ≤ ((rd_T48 t309 x13_1).f3)) = true:=decide_eq_true c18
   clear c18
   by_cases c19:((rd_T48 t309 x13_1).f3) ≤ ((rd_T48 t309 x13_1).f4)
   rotate_left
   ·rw [if_neg c19] at H
    exact absurd H (by simp)
   rw [if_pos c19] at H
   have c19b0:=eq_true c19
   have c19b1:decide (((rd_T48 t309 x13_1).f3) ≤ ((rd_T48 t309 x13_1).f4)) = true:=decide_eq_true c19
   clear c19
   by_cases c20:((rd_T48 t309 x13_1).f4) ≤ (t315.length:Int)
   rotate_left
   ·rw [if_neg c20] at H
    exact absurd H (by simp)
   rw [if_pos c20] at H
   have c20b0:=eq_true c20
   have c20b1:decide (((rd_T48 t309 x13_1).f4) ≤ (t315.length:Int)) = true:=decide_eq_true c20
   (try simp only [hl318_0] at c20b1)
   clear c20
   obtain⟨y325,hy325⟩:∃ y_:List Int,y_ = ((t315.take (((rd_T48 t309 x13_1).f4):Int).toNat).drop (((rd_T48 t309 x13_1).f3):Int).toNat):=⟨_,rfl⟩
   replace H:((spec_CommonWithin.f k1 y320 y325 a3).bind fun t330=>(spec_ShareOf.l1 k1 a3 x9_1 x13_1 0 t309 t312 t315 t330 ((rd_T48 t309 x13_1).f0) ((rd_T48 t309 x13_1).f1) ((rd_T48 t309 x13_1).f2) ((rd_T48 t309 x13_1).f3) ((rd_T48 t309 x13_1).f4))) = some r:=by first|(rw [hy325];with_reducible exact H)|(have H2_:=(Option.bind_some _ _).symm.trans H;rw [hy325];with_reducible exact H2_)|(have H2_:=(Option.bind_some _ _).symm.trans H;with_reducible exact H2_)|with_reducible exact H|(rw [hy325];exact H)|exact H
   have Ny325:=mk0 hy325
   clear hy325
   replace H:=Option.bind_eq_some_iff.mp H
   obtain⟨t330,A210,H⟩:=H
   replace H:(spec_ShareOf.l1 k1 a3 x9_1 x13_1 0 t309 t312 t315 t330 ((rd_T48 t309 x13_1).f0) ((rd_T48 t309 x13_1).f1) ((rd_T48 t309 x13_1).f2) ((rd_T48 t309 x13_1).f3) ((rd_T48 t309 x13_1).f4)) = some r:=H
   have A21:=mk0 A210
   clear A210
   have H':=mk0 H
   clear H
   obtain⟨Ao22,co22,eo22⟩:=Kd.N_slice HO_21.out
   subst eo22
   have p318:0 ≤ (x13_1:Int):=of_decide_eq_true (by first|(with_reducible assumption)|assumption)
   have q318:x13_1 < (t309.length:Int):=of_decide_eq_true (by first|(with_reducible assumption)|assumption)
   obtain⟨ad318,A318_0,c318_0,e318,hx318_0,hx318_1,hx318_2,hx318_3,hx318_4,hl318_0,hi318_0⟩:=at_T48 (Kd.N_reads' HO_21.out).2.2 x13_1 p318 q318
   cases e318
   obtain⟨ce318,hce318,hMe318,hcc318⟩:=Kd.N_get HO_21.out z48 x13_1 p318 (by first|exact q318|exact of_decide_eq_true (by first|(with_reducible assumption)|assumption)|(have e_:=(Kd.N_reads' HO_21.out).1;omega))
   obtain⟨ua318_0,uc318_0,rfl,ul318_0,ge318_0⟩:=k48_openF hMe318
   have hv318_0:=hcc318 0 _ rfl
   rw [Nat.add_zero] at hv318_0
   replace hv318_0:=Option.some.inj (hv318_0.symm.trans hx318_0)
   injection hv318_0 with hva_ hvn_ hvc_
   rw [hva_] at ge318_0
   rw [hvc_] at ul318_0
   have HL318_0:=mk0 (show Kd.V (Kd.int .u8) 5 _ w.heap.size _ _ ((rd_T48 t309 x13_1).f0) from Kd.V_mk ul318_0 ge318_0)
   clear hva_ hvn_ hvc_ ge318_0 ul318_0
   clear hcc318 hce318
   have HR318_0:=mk0 hi318_0
   have HC318_0:=mk0 hl318_0
   clear hi318_0 hl318_0
   replace p318:=eq_true p318
   replace q318:=eq_true q318
   try go_wp2_with (first|((with_reducible refine gate_dst (N:=14) rfl ?_);refine box_event ?hg (N:=14) ?hd (cs:=#[.slice none 0 0,.int .i64 0,.int .i64 0,.int .i64 0,.int .i64 0]) (t:=48) ?hr ?_;(case hd=>rfl);(case hg=>rfl);(case hr=>first|(go_simp;done)|(go_simp;rfl));intro gb319 hg w23 hbox hb;replace HO_9:=mk0 (bR HO_9.out hb);replace HO_21:=mk0 (Kd.N_below (Kd.N_elderB (rN HO_21.out) gb319 (Nat.le_of_eq hg.symm)) hb);replace HO_23:=mk0 (bR HO_23.out hb);replace HO_25:=mk0 (bR HO_25.out hb);replace HR318_0:=mk0 (Kd.C_below (by repeat (first|(with_reducible exact HR318_0.out)|(with_reducible first|apply aC|apply nC|apply dC)|exact HR318_0.out|exact (Kd.V_reads' HL318_0.out).2.2)) hb);replace HL318_0:=mk0 (Kd.V_below (Kd.V_elderB (rV HL318_0.out) gb319 (Nat.le_of_eq hg.symm)) hb);have BK319:=mk0 (hbox);have GW319:=mk0 ((by rw [hg];exact (kZ HB.out):w.heap.size ≤ gb319));have GE319:=mk0 ((by rw [hg];exact (kZ HB.out):w.heap.size ≤ gb319));replace HB:=mk0 (kS HB.out hb);clear hb hbox hg;obtain⟨hcz24_0,hcz24_1,hcz24_2,hcz24_3,hcz24_4,hfz24_0,hfz24_1,hfz24_2,hfz24_3,hfz24_4⟩:=cz5 BK319.out))
   have n0_:Aside0 (Kd.R k56 56 (((((w23.setCell ⟨gb319,0,none⟩ (.slice A318_0 ((rd_T48 t309 x13_1).f0).length c318_0)).setCell ⟨gb319,1,none⟩ (.int .i64 ((rd_T48 t309 x13_1).f1))).setCell ⟨gb319,2,none⟩ (.int .i64 ((rd_T48 t309 x13_1).f2))).setCell ⟨gb319,3,none⟩ (.int .i64 ((rd_T48 t309 x13_1).f3))).setCell ⟨gb319,4,none⟩ (.int .i64 ((rd_T48 t309 x13_1).f4))) w.heap.size (fun _=>True) u9 x9_1):=⟨by (with_reducible repeat (first|apply aR|apply nR|apply dR));exact Kd.R_mono (Kd.R_far (p:=⟨gb319,4,none⟩) (Kd.R_far (p:=⟨gb319,3,none⟩) (Kd.R_far (p:=⟨gb319,2,none⟩) (Kd.R_far (p:=⟨gb319,1,none⟩) (Kd.R_far (p:=⟨gb319,0,none⟩) (Kd.R_types HO_9.out BK319.out (by decide)) (fun _ hk=>hk.2) (.slice A318_0 ((rd_T48 t309 x13_1).f0).length c318_0)) (fun _ hk=>hk.2) (.int .i64 ((rd_T48 t309 x13_1).f1))) (fun _ hk=>hk.2) (.int .i64 ((rd_T48 t309 x13_1).f2))) (fun _ hk=>hk.2) (.int .i64 ((rd_T48 t309 x13_1).f3))) (fun _ hk=>hk.2) (.int .i64 ((rd_T48 t309 x13_1).f4))) (fun _ hk=>trivial)⟩
   have n1_:Aside0 (Kd.N k48 48 (((((w23.setCell ⟨gb319,0,none⟩ (.slice A318_0 ((rd_T48 t309 x13_1).f0).length c318_0)).setCell ⟨gb319,1,none⟩ (.int .i64 ((rd_T48 t309 x13_1).f1))).setCell ⟨gb319,2,none⟩ (.int .i64 ((rd_T48 t309 x13_1).f2))).setCell ⟨gb319,3,none⟩ (.int .i64 ((rd_T48 t309 x13_1).f3))).setCell ⟨gb319,4,none⟩ (.int .i64 ((rd_T48 t309 x13_1).f4))) w.heap.size (fun k_=>some k_ ≠ (u9:Value).ownBlock ∧ some k_ ≠ (v313:Value).ownBlock ∧ some k_ ≠ (v316:Value).ownBlock ∧ k_ ≠ gb319) (.slice (some ad318) t309.length co22) t309):=⟨by (with_reducible repeat (first|apply aN|apply nN|apply dN));exact Kd.N_mono (Kd.N_far (p:=⟨gb319,4,none⟩) (Kd.N_far (p:=⟨gb319,3,none⟩) (Kd.N_far (p:=⟨gb319,2,none⟩) (Kd.N_far (p:=⟨gb319,1,none⟩) (Kd.N_far (p:=⟨gb319,0,none⟩) (Kd.N_mono HO_21.out (fun k_ hk=>(⟨hk,hk.2⟩:_ ∧ k_ ≠ gb319))) (fun _ hk=>hk.2) (.slice A318_0 ((rd_T48 t309 x13_1).f0).length c318_0)) (fun _ hk=>hk.2) (.int .i64 ((rd_T48 t309 x13_1).f1))) (fun _ hk=>hk.2) (.int .i64 ((rd_T48 t309 x13_1).f2))) (fun _ hk=>hk.2) (.int .i64 ((rd_T48 t309 x13_1).f3))) (fun _ hk=>hk.2) (.int .i64 ((rd_T48 t309 x13_1).f4))) (fun _ hk=>⟨hk.1.1.1,⟨hk.1.1.2.1,⟨hk.1.1.2.2,hk.1.2⟩⟩⟩)⟩
   have n2_:Aside0 (Kd.R (Kd.int .i64) 3 (((((w23.setCell ⟨gb319,0,none⟩ (.slice A318_0 ((rd_T48 t309 x13_1).f0).length c318_0)).setCell ⟨gb319,1,none⟩ (.int .i64 ((rd_T48 t309 x13_1).f1))).setCell ⟨gb319,2,none⟩ (.int .i64 ((rd_T48 t309 x13_1).f2))).setCell ⟨gb319,3,none⟩ (.int .i64 ((rd_T48 t309 x13_1).f3))).setCell ⟨gb319,4,none⟩ (.int .i64 ((rd_T48 t309 x13_1).f4))) w.heap.size (fun k_=>some k_ ≠ (v316:Value).ownBlock) v313 t312):=⟨by (with_reducible repeat (first|apply aR|apply nR|apply dR));exact Kd.R_mono (Kd.R_far (p:=⟨gb319,4,none⟩) (Kd.R_far (p:=⟨gb319,3,none⟩) (Kd.R_far (p:=⟨gb319,2,none⟩) (Kd.R_far (p:=⟨gb319,1,none⟩) (Kd.R_far (p:=⟨gb319,0,none⟩) (Kd.R_types HO_23.out BK319.out (by decide)) (fun _ hk=>hk.2) (.slice A318_0 ((rd_T48 t309 x13_1).f0).length c318_0)) (fun _ hk=>hk.2) (.int .i64 ((rd_T48 t309 x13_1).f1))) (fun _ hk=>hk.2) (.int .i64 ((rd_T48 t309 x13_1).f2))) (fun _ hk=>hk.2) (.int .i64 ((rd_T48 t309 x13_1).f3))) (fun _ hk=>hk.2) (.int .i64 ((rd_T48 t309 x13_1).f4))) (fun _ hk=>hk.1)⟩
   have n3_:Aside0 (Kd.R (Kd.int .i64) 3 (((((w23.setCell ⟨gb319,0,none⟩ (.slice A318_0 ((rd_T48 t309 x13_1).f0).length c318_0)).setCell ⟨gb319,1,none⟩ (.int .i64 ((rd_T48 t309 x13_1).f1))).setCell ⟨gb319,2,none⟩ (.int .i64 ((rd_T48 t309 x13_1).f2))).setCell ⟨gb319,3,none⟩ (.int .i64 ((rd_T48 t309 x13_1).f3))).setCell ⟨gb319,4,none⟩ (.int .i64 ((rd_T48 t309 x13_1).f4))) w.heap.size (fun k_=>some k_ ≠ (v313:Value).ownBlock) v316 t315):=⟨by (with_reducible repeat (first|apply aR|apply nR|apply dR));exact Kd.R_mono (Kd.R_far (p:=⟨gb319,4,none⟩) (Kd.R_far (p:=⟨gb319,3,none⟩) (Kd.R_far (p:=⟨gb319,2,none⟩) (Kd.R_far (p:=⟨gb319,1,none⟩) (Kd.R_far (p:=⟨gb319,0,none⟩) (Kd.R_types HO_25.out BK319.out (by decide)) (fun _ hk=>hk.2) (.slice A318_0 ((rd_T48 t309 x13_1).f0).length c318_0)) (fun _ hk=>hk.2) (.int .i64 ((rd_T48 t309 x13_1).f1))) (fun _ hk=>hk.2) (.int .i64 ((rd_T48 t309 x13_1).f2))) (fun _ hk=>hk.2) (.int .i64 ((rd_T48 t309 x13_1).f3))) (fun _ hk=>hk.2) (.int .i64 ((rd_T48 t309 x13_1).f4))) (fun _ hk=>hk.1)⟩
   have n4_:Aside0 (Kd.V (Kd.int .u8) 5 (((((w23.setCell ⟨gb319,0,none⟩ (.slice A318_0 ((rd_T48 t309 x13_1).f0).length c318_0)).setCell ⟨gb319,1,none⟩ (.int .i64 ((rd_T48 t309 x13_1).f1))).setCell ⟨gb319,2,none⟩ (.int .i64 ((rd_T48 t309 x13_1).f2))).setCell ⟨gb319,3,none⟩ (.int .i64 ((rd_T48 t309 x13_1).f3))).setCell ⟨gb319,4,none⟩ (.int .i64 ((rd_T48 t309 x13_1).f4))) w.heap.size (fun k_=>some k_ ≠ (u9:Value).ownBlock ∧ some k_ ≠ (.slice (some ad318) t309.length co22:Value).ownBlock ∧ some k_ ≠ (v313:Value).ownBlock ∧ some k_ ≠ (v316:Value).ownBlock ∧ k_ ≠ gb319) (.slice A318_0 ((rd_T48 t309 x13_1).f0).length c318_0) ((rd_T48 t309 x13_1).f0)):=⟨by (with_reducible repeat (first|apply aV|apply nV|apply dV));exact Kd.V_mono (Kd.V_far (p:=⟨gb319,4,none⟩) (Kd.V_far (p:=⟨gb319,3,none⟩) (Kd.V_far (p:=⟨gb319,2,none⟩) (Kd.V_far (p:=⟨gb319,1,none⟩) (Kd.V_far (p:=⟨gb319,0,none⟩) (Kd.V_mono HL318_0.out (fun k_ hk=>(⟨hk,hk.2⟩:_ ∧ k_ ≠ gb319))) (fun _ hk=>hk.2) (.slice A318_0 ((rd_T48 t309 x13_1).f0).length c318_0)) (fun _ hk=>hk.2) (.int .i64 ((rd_T48 t309 x13_1).f1))) (fun _ hk=>hk.2) (.int .i64 ((rd_T48 t309 x13_1).f2))) (fun _ hk=>hk.2) (.int .i64 ((rd_T48 t309 x13_1).f3))) (fun _ hk=>hk.2) (.int .i64 ((rd_T48 t309 x13_1).f4))) (fun _ hk=>⟨hk.1.1.1.1,⟨hk.1.1.2,⟨hk.1.1.1.2.1,⟨hk.1.1.1.2.2,hk.1.2⟩⟩⟩⟩)⟩
   have n5_:Aside0 ((((((w23.setCell ⟨gb319,0,none⟩ (.slice A318_0 ((rd_T48 t309 x13_1).f0).length c318_0)).setCell ⟨gb319,1,none⟩ (.int .i64 ((rd_T48 t309 x13_1).f1))).setCell ⟨gb319,2,none⟩ (.int .i64 ((rd_T48 t309 x13_1).f2))).setCell ⟨gb319,3,none⟩ (.int .i64 ((rd_T48 t309 x13_1).f3))).setCell ⟨gb319,4,none⟩ (.int .i64 ((rd_T48 t309 x13_1).f4))).heap[gb319]? = some (.cells #[.slice A318_0 ((rd_T48 t309 x13_1).f0).length c318_0,.int .i64 ((rd_T48 t309 x13_1).f1),.int .i64 ((rd_T48 t309 x13_1).f2),.int .i64 ((rd_T48 t309 x13_1).f3),.int .i64 ((rd_T48 t309 x13_1).f4)] 48 (0,0))):=⟨by (with_reducible repeat (first|apply nB|apply dB|apply aB));refine blk_put (cs:=#[.slice A318_0 ((rd_T48 t309 x13_1).f0).length c318_0,.int .i64 ((rd_T48 t309 x13_1).f1),.int .i64 ((rd_T48 t309 x13_1).f2),.int .i64 ((rd_T48 t309 x13_1).f3),.int .i64 0]) ?_ 4 _ rfl;(with_reducible repeat (first|apply nB|apply dB|apply aB));refine blk_put (cs:=#[.slice A318_0 ((rd_T48 t309 x13_1).f0).length c318_0,.int .i64 ((rd_T48 t309 x13_1).f1),.int .i64 ((rd_T48 t309 x13_1).f2),.int .i64 0,.int .i64 0]) ?_ 3 _ rfl;(with_reducible repeat (first|apply nB|apply dB|apply aB));refine blk_put (cs:=#[.slice A318_0 ((rd_T48 t309 x13_1).f0).length c318_0,.int .i64 ((rd_T48 t309 x13_1).f1),.int .i64 0,.int .i64 0,.int .i64 0]) ?_ 2 _ rfl;(with_reducible repeat (first|apply nB|apply dB|apply aB));refine blk_put (cs:=#[.slice A318_0 ((rd_T48 t309 x13_1).f0).length c318_0,.int .i64 0,.int .i64 0,.int .i64 0,.int .i64 0]) ?_ 1 _ rfl;(with_reducible repeat (first|apply nB|apply dB|apply aB));refine blk_put (cs:=#[.slice none 0 0,.int .i64 0,.int .i64 0,.int .i64 0,.int .i64 0]) ?_ 0 _ rfl;(with_reducible repeat (first|apply nB|apply dB|apply aB));exact BK319.out⟩
   have n6_:Aside0 (Below w.heap.size w (((((w23.setCell ⟨gb319,0,none⟩ (.slice A318_0 ((rd_T48 t309 x13_1).f0).length c318_0)).setCell ⟨gb319,1,none⟩ (.int .i64 ((rd_T48 t309 x13_1).f1))).setCell ⟨gb319,2,none⟩ (.int .i64 ((rd_T48 t309 x13_1).f2))).setCell ⟨gb319,3,none⟩ (.int .i64 ((rd_T48 t309 x13_1).f3))).setCell ⟨gb319,4,none⟩ (.int .i64 ((rd_T48 t309 x13_1).f4)))):=⟨kB HB.out⟩
   (try clear HO_9)
   (try clear HO_21)
   (try clear HO_23)
   (try clear HO_25)
   (try clear HL318_0)
   (try clear BK319)
   (try clear HB)
   generalize (((((w23.setCell ⟨gb319,0,none⟩ (.slice A318_0 ((rd_T48 t309 x13_1).f0).length c318_0)).setCell ⟨gb319,1,none⟩ (.int .i64 ((rd_T48 t309 x13_1).f1))).setCell ⟨gb319,2,none⟩ (.int .i64 ((rd_T48 t309 x13_1).f2))).setCell ⟨gb319,3,none⟩ (.int .i64 ((rd_T48 t309 x13_1).f3))).setCell ⟨gb319,4,none⟩ (.int .i64 ((rd_T48 t309 x13_1).f4))) = w25 at n0_ n1_ n2_ n3_ n4_ n5_ n6_ ⊢
   have HO_9:=n0_
   have HO_21:=n1_
   have HO_23:=n2_
   have HO_25:=n3_
   have HL318_0:=n4_
   have BK319:=n5_
   have HB:=n6_
   clear n0_ n1_ n2_ n3_ n4_ n5_ n6_
   replace HO_9:=mk0 (dR HO_9.out)
   replace HO_21:=mk0 (dN HO_21.out)
   replace HO_23:=mk0 (dR HO_23.out)
   replace HO_25:=mk0 (dR HO_25.out)
   replace HL318_0:=mk0 (dV HL318_0.out)
   replace BK319:=mk0 (dB BK319.out)
   replace HB:=mk0 (dZ HB.out)
   obtain⟨Ao28,co28,eo28⟩:=Kd.R_slice HO_23.out
   (first|subst eo28|(injection eo28 with f1_ f2_ f3_;have f4_:=f1_.symm;have f5_:=f3_.symm;clear f1_ f2_ f3_;subst f4_;subst f5_))
   have q27:(((rd_T48 t309 x13_1).f2):Int) ≤ ((t312.length:Int):Int):=of_decide_eq_true (by first|(with_reducible assumption)|assumption)
   obtain⟨i027,hi027,_,hsz27,_⟩:=info_parts info3
   have hroom27:t312.length ≤ co28:=(Kd.R_reads' HO_23.out).2.1
   have hC27:Kd.F (Kd.int .i64) _ _ Ao28 t312.length t312:=(Kd.V_at (base:=w.heap.size) (Kd.R_V (Kd.R_types (Kd.R_apart' (Kd.R_apart' (HO_23.out) (Kd.R_typed HO_9.out) (by decide)) (Kd.N_typed HO_21.out) (by decide)) BK319.out (by decide)))).2.2
   have ql27:(((rd_T48 t309 x13_1).f1):Int) ≤ (((rd_T48 t309 x13_1).f2):Int):=of_decide_eq_true (by first|(with_reducible assumption)|assumption)
   have q027:(0:Int) ≤ (((rd_T48 t309 x13_1).f1):Int):=of_decide_eq_true (by first|(with_reducible assumption)|assumption)
   have hcut27:=cut_mid (P:=Try.prog) 45 3 .i64 .i64 Try.underlying45 hi027 1 hsz27 Ao28 t312.length co28 ((rd_T48 t309 x13_1).f1) ((rd_T48 t309 x13_1).f2) q027 ql27 q27 hroom27
   have hr27:=Kd.F_mid (lo:=(((rd_T48 t309 x13_1).f1):Int).toNat) (hi:=(((rd_T48 t309 x13_1).f2):Int).toNat) (c:=co28) hC27 (by omega) (by omega) hroom27
   obtain⟨A27,hA27⟩:∃ A1,A1 = (if co28 = (((rd_T48 t309 x13_1).f1):Int).toNat then Ao28 else (Ao28:Option Addr).map (·.add ((((rd_T48 t309 x13_1).f1):Int).toNat * 1))):=⟨_,rfl⟩
   obtain⟨c27,hc27⟩:∃ c1,c1 = co28 - (((rd_T48 t309 x13_1).f1):Int).toNat:=⟨_,rfl⟩
   have hy27:y320.length = (((rd_T48 t309 x13_1).f2):Int).toNat - (((rd_T48 t309 x13_1).f1):Int).toNat:=(by rw [Ny320.out,List.length_drop,List.length_take] <;> omega)
   rw [show ((t312).take (((rd_T48 t309 x13_1).f2):Int).toNat).drop (((rd_T48 t309 x13_1).f1):Int).toNat = y320 from Ny320.out.symm] at hr27
   replace hr27:Kd.F (Kd.int .i64) _ _ A27 y320.length y320:=(by rw [hA27];exact hr27)
   rw [← hy27, ← hA27, ← hc27] at hcut27
   have HO324:=mk0 (show Kd.V (Kd.int .i64) 3 _ w.heap.size _ (.slice A27 y320.length c27) y320 from Kd.V_mk (by rw [hy27,hc27];exact Nat.sub_le_sub_right (Nat.le_trans (by omega) hroom27) _) hr27)
   have HC324:=mk0 (show y320.length ≤ c27 from by rw [hy27,hc27];exact Nat.sub_le_sub_right (Nat.le_trans (by omega) hroom27) _)
   clear hr27 hC27 hroom27 hi027 hsz27 hc27
   have KY27:=mk0 hy27
   have KA27:=mk0 hA27
   clear hy27 hA27
   replace q27:=eq_true q27
   obtain⟨Ao30,co30,eo30⟩:=Kd.R_slice HO_25.out
   (first|subst eo30|(injection eo30 with f1_ f2_ f3_;have f4_:=f1_.symm;have f5_:=f3_.symm;clear f1_ f2_ f3_;subst f4_;subst f5_))
   have q29:(((rd_T48 t309 x13_1).f4):Int) ≤ ((t315.length:Int):Int):=of_decide_eq_true (by first|(with_reducible assumption)|assumption)
   obtain⟨i029,hi029,_,hsz29,_⟩:=info_parts info3
   have hroom29:t315.length ≤ co30:=(Kd.R_reads' HO_25.out).2.1
   have hC29:Kd.F (Kd.int .i64) _ _ Ao30 t315.length t315:=(Kd.V_at (base:=w.heap.size) (Kd.R_V (Kd.R_types (Kd.R_apart' (Kd.R_apart' (HO_25.out) (Kd.R_typed HO_9.out) (by decide)) (Kd.N_typed HO_21.out) (by decide)) BK319.out (by decide)))).2.2
   have ql29:(((rd_T48 t309 x13_1).f3):Int) ≤ (((rd_T48 t309 x13_1).f4):Int):=of_decide_eq_true (by first|(with_reducible assumption)|assumption)
   have q029:(0:Int) ≤ (((rd_T48 t309 x13_1).f3):Int):=of_decide_eq_true (by first|(with_reducible assumption)|assumption)
   have hcut29:=cut_mid (P:=Try.prog) 45 3 .i64 .i64 Try.underlying45 hi029 1 hsz29 Ao30 t315.length co30 ((rd_T48 t309 x13_1).f3) ((rd_T48 t309 x13_1).f4) q029 ql29 q29 hroom29
   have hr29:=Kd.F_mid (lo:=(((rd_T48 t309 x13_1).f3):Int).toNat) (hi:=(((rd_T48 t309 x13_1).f4):Int).toNat) (c:=co30) hC29 (by omega) (by omega) hroom29
   obtain⟨A29,hA29⟩:∃ A1,A1 = (if co30 = (((rd_T48 t309 x13_1).f3):Int).toNat then Ao30 else (Ao30:Option Addr).map (·.add ((((rd_T48 t309 x13_1).f3):Int).toNat * 1))):=⟨_,rfl⟩
   obtain⟨c29,hc29⟩:∃ c1,c1 = co30 - (((rd_T48 t309 x13_1).f3):Int).toNat:=⟨_,rfl⟩
   have hy29:y325.length = (((rd_T48 t309 x13_1).f4):Int).toNat - (((rd_T48 t309 x13_1).f3):Int).toNat:=(by rw [Ny325.out,List.length_drop,List.length_take] <;> omega)
   rw [show ((t315).take (((rd_T48 t309 x13_1).f4):Int).toNat).drop (((rd_T48 t309 x13_1).f3):Int).toNat = y325 from Ny325.out.symm] at hr29
   replace hr29:Kd.F (Kd.int .i64) _ _ A29 y325.length y325:=(by rw [hA29];exact hr29)
   rw [← hy29, ← hA29, ← hc29] at hcut29
   have HO329:=mk0 (show Kd.V (Kd.int .i64) 3 _ w.heap.size _ (.slice A29 y325.length c29) y325 from Kd.V_mk (by rw [hy29,hc29];exact Nat.sub_le_sub_right (Nat.le_trans (by omega) hroom29) _) hr29)
   have HC329:=mk0 (show y325.length ≤ c29 from by rw [hy29,hc29];exact Nat.sub_le_sub_right (Nat.le_trans (by omega) hroom29) _)
   clear hr29 hC29 hroom29 hi029 hsz29 hc29
   have KY29:=mk0 hy29
   have KA29:=mk0 hA29
   clear hy29 hA29
   replace q29:=eq_true q29
   refine start_ (n:=15) (S:=fun w'=>w'.cell? ⟨gb319,0,none⟩ = some (.slice A318_0 ((rd_T48 t309 x13_1).f0).length c318_0) ∧ w'.cell? ⟨gb319,1,none⟩ = some (.int .i64 ((rd_T48 t309 x13_1).f1)) ∧ w'.cell? ⟨gb319,2,none⟩ = some (.int .i64 ((rd_T48 t309 x13_1).f2)) ∧ w'.cell? ⟨gb319,3,none⟩ = some (.int .i64 ((rd_T48 t309 x13_1).f3)) ∧ w'.cell? ⟨gb319,4,none⟩ = some (.int .i64 ((rd_T48 t309 x13_1).f4))) (ds:=[]) spec_ShareOf.m0 (by kernel_rfl) rfl rfl (ck5 BK319.out) (fun hHeld=>?_);refine with_tabW spec_ShareOf.tab9 spec_ShareOf.bits9 (fun HT_ HW_=>?_)
   generalize w25.drew = w26 at HO_9 HO_21 HO_23 HO_25 HL318_0 BK319 HB HO324 HO329 hHeld ⊢
   refine pure_ (i:=0) (N:=some 36) (v:=?_) (a':=?_) spec_ShareOf.m1 rfl rfl (any_of HT_.out (by kernel_rfl)) (fun _ _ _ h=>h) (Or.inl ⟨by rfl,?_⟩) ?_ ?_
   rotate_left
   ·intro w'
    go_simp
    with_reducible rfl
   rotate_left
   ·simp only [Act.put,sA,sO,sS,i64_w,i32_w]
    rfl
   refine pure_ (i:=1) (N:=some 37) (v:=?_) (a':=?_) spec_ShareOf.m2 rfl rfl (any_of HT_.out (by kernel_rfl)) (fun _ _ _ h=>h) (Or.inl ⟨by rfl,?_⟩) ?_ ?_
   rotate_left
   ·intro w'
    go_simp
    with_reducible rfl
   rotate_left
   ·simp only [Act.put,sA,sO,sS,i64_w,i32_w]
    rfl
   refine pure_ (i:=3) (N:=some 39) (v:=?_) (a':=?_) spec_ShareOf.m3 rfl rfl (any_of HT_.out (by kernel_rfl)) (fun _ _ _ h=>h) (Or.inl ⟨by rfl,?_⟩) ?_ ?_
   rotate_left
   ·intro w'
    go_simp
    with_reducible rfl
   rotate_left
   ·simp only [Act.put,sA,sO,sS,i64_w,i32_w]
    rfl
   refine pure_ (i:=6) (N:=some 42) (v:=?_) (a':=?_) spec_ShareOf.m4 rfl rfl (any_of HT_.out (by kernel_rfl)) (fun _ _ _ h=>h) (Or.inl ⟨by rfl,?_⟩) ?_ ?_
   rotate_left
   ·intro w'
    go_simp
    with_reducible rfl
   rotate_left
   ·simp only [Act.put,sA,sO,sS,i64_w,i32_w]
    rfl
   refine pure_ (i:=7) (N:=some 43) (v:=?_) (a':=?_) spec_ShareOf.m5 rfl rfl (any_of HT_.out (by kernel_rfl)) (fun _ _ _ h=>h) (Or.inl ⟨by rfl,?_⟩) ?_ ?_
   rotate_left
   ·intro w'
    go_simp
    with_reducible rfl
   rotate_left
   ·simp only [Act.put,sA,sO,sS,i64_w,i32_w]
    rfl
   refine pure_ (i:=9) (N:=some 45) (v:=?_) (a':=?_) spec_ShareOf.m6 rfl rfl (any_of HT_.out (by kernel_rfl)) (fun _ _ _ h=>h) (Or.inl ⟨by rfl,?_⟩) ?_ ?_
   rotate_left
   ·intro w'
    go_simp
    with_reducible rfl
   rotate_left
   ·simp only [Act.put,sA,sO,sS,i64_w,i32_w]
    rfl
   refine pure_ (i:=12) (N:=some 48) (v:=?_) (a':=?_) spec_ShareOf.m7 rfl rfl (any_of HT_.out (by kernel_rfl)) (fun _ _ _ h=>h) (Or.inl ⟨by rfl,?_⟩) ?_ ?_
   rotate_left
   ·intro w'
    go_simp
    with_reducible rfl
   rotate_left
   ·simp only [Act.put,sA,sO,sS,i64_w,i32_w]
    rfl
   refine take_ (i:=2) (N:=some 38) (v:=?_) (a':=?_) spec_ShareOf.m8 rfl rfl (take_ofW HT_.out HW_.out (by kernel_rfl)) (fun _ _ _ h=>h) (Or.inl ⟨by rfl,?_⟩) hHeld ?_ ?_
   rotate_left
   ·rintro w' ⟨s0,s1,s2,s3,s4⟩
    go_simp
    with_reducible rfl
   rotate_left
   ·simp only [Act.put,sA,sO,sS,i64_w,i32_w]
    rfl
   refine take_ (i:=4) (N:=some 40) (v:=?_) (a':=?_) spec_ShareOf.m9 rfl rfl (take_ofW HT_.out HW_.out (by kernel_rfl)) (fun _ _ _ h=>h) (Or.inl ⟨by rfl,?_⟩) hHeld ?_ ?_
   rotate_left
   ·rintro w' ⟨s0,s1,s2,s3,s4⟩
    go_simp
    with_reducible rfl
   rotate_left
   ·simp only [Act.put,sA,sO,sS,i64_w,i32_w]
    rfl
   refine pure_ (i:=5) (N:=some 41) (v:=?_) (a':=?_) spec_ShareOf.m10 rfl rfl (any_of HT_.out (by kernel_rfl)) (fun _ _ _ h=>h) (Or.inl ⟨by rfl,?_⟩) ?_ ?_
   rotate_left
   ·intro w'
    go_simp
    with_reducible rfl
   rotate_left
   ·simp only [Act.put,sA,sO,sS,i64_w,i32_w]
    rfl
   refine take_ (i:=8) (N:=some 44) (v:=?_) (a':=?_) spec_ShareOf.m11 rfl rfl (take_ofW HT_.out HW_.out (by kernel_rfl)) (fun _ _ _ h=>h) (Or.inl ⟨by rfl,?_⟩) hHeld ?_ ?_
   rotate_left
   ·rintro w' ⟨s0,s1,s2,s3,s4⟩
    go_simp
    with_reducible rfl
   rotate_left
   ·simp only [Act.put,sA,sO,sS,i64_w,i32_w]
    rfl
   refine take_ (i:=10) (N:=some 46) (v:=?_) (a':=?_) spec_ShareOf.m12 rfl rfl (take_ofW HT_.out HW_.out (by kernel_rfl)) (fun _ _ _ h=>h) (Or.inl ⟨by rfl,?_⟩) hHeld ?_ ?_
   rotate_left
   ·rintro w' ⟨s0,s1,s2,s3,s4⟩
    go_simp
    with_reducible rfl
   rotate_left
   ·simp only [Act.put,sA,sO,sS,i64_w,i32_w]
    rfl
   refine pure_ (i:=11) (N:=some 47) (v:=?_) (a':=?_) spec_ShareOf.m13 rfl rfl (any_of HT_.out (by kernel_rfl)) (fun _ _ _ h=>h) (Or.inl ⟨by rfl,?_⟩) ?_ ?_
   rotate_left
   ·intro w'
    go_simp
    with_reducible rfl
   rotate_left
   ·simp only [Act.put,sA,sO,sS,i64_w,i32_w]
    rfl
   refine one_ (i:=13) (N:=some 49) spec_ShareOf.m14 rfl rfl (one_of HT_.out (by kernel_rfl)) (by decide) (fun K hK=>?_)
   refine goes_ Try.func42 (by kernel_rfl) rfl #[.slice A27 y320.length c27,.slice A29 y325.length c29,.int .i64 a3] (by rfl) rfl rfl (by (try simp only [mA,mC,mN]);first|done|rfl|(simp only [List.length_drop,List.length_take];done)|(simp only [List.length_drop,List.length_take];rfl)) ?_
   with_reducible refine (spec_CommonWithin.calls k1 _ _ y320 _ _ y325 a3 t330 _ ?side1 ?side2 ?side3 ?side4 A21.out).mono ?_
   (case side1=>exact kC (Kd.V_reads' HO324.out).2.2)
   (case side2=>exact (Kd.V_reads' HO324.out).2.1)
   (case side3=>exact kC (Kd.V_reads' HO329.out).2.2)
   (case side4=>exact (Kd.V_reads' HO329.out).2.1)
   rintro e w31 ⟨v331,rfl,ho0,hb⟩
   refine⟨_,rfl,?_⟩
   replace HO_21:=mk0 (Kd.N_elder' (rN HO_21.out) (Kd.R_base ho0) hb)
   replace HO_23:=mk0 (bR HO_23.out hb)
   replace HO_25:=mk0 (bR HO_25.out hb)
   replace HL318_0:=mk0 (Kd.V_elder' (rV HL318_0.out) (Kd.R_base ho0) hb)
   replace HO324:=mk0 (Kd.V_elder' (rV HO324.out) (Kd.R_base ho0) hb)
   replace HO329:=mk0 (Kd.V_elder' (rV HO329.out) (Kd.R_base ho0) hb)
   have HO332:=mk0 (Kd.R_lower (Kd.R_new' ho0 (Kd.R_lt (rR HO_9.out))) (kZ HB.out))
   replace HO_9:=mk0 (Kd.R_elder' (rR HO_9.out) (Kd.R_base ho0) hb)
   replace BK319:=mk0 (kK BK319.out hb)
   replace HB:=mk0 (kS HB.out hb)
   (try clear hb)
   (try clear ho0)
   refine hK.out _ _ (ck5 BK319.out) (fun hHeld=>?_)
   clear hK K
   refine norm_ (a':=?_) ?_ ?_
   rotate_left
   ·show Act.put _ (some 49) _ = _
    simp only [Act.put,sA,sO,sS,i64_w,i32_w]
    rfl
   refine pure_ (i:=14) (N:=some 15) (v:=?_) (a':=?_) spec_ShareOf.m15 rfl rfl (any_of HT_.out (by kernel_rfl)) (fun _ _ _ h=>h) (Or.inl ⟨by rfl,?_⟩) ?_ ?_
   rotate_left
   ·intro w'
    go_simp
    with_reducible rfl
   rotate_left
   ·simp only [Act.put,sA,sO,sS,i64_w,i32_w]
    rfl
   refine done_ (done_of HT_.out (by kernel_rfl)) ?_
   try go_wp2
   go_loopg [9,16] k1 (fun kq v9 v16 w'=>∃ (x9_2:List (S56)) (x16_2:Int),v16 = .int .i64 x16_2 ∧ Aside0 (spec_ShareOf.l1 kq a3 x9_2 x13_1 x16_2 t309 t312 t315 t330 ((rd_T48 t309 x13_1).f0) ((rd_T48 t309 x13_1).f1) ((rd_T48 t309 x13_1).f2) ((rd_T48 t309 x13_1).f3) ((rd_T48 t309 x13_1).f4) = some r) ∧ Aside0 (kq ≤ k1) ∧ Aside0 (Kd.R k56 56 w' w.heap.size (fun k_=>some k_ ≠ (v331:Value).ownBlock) v9 x9_2) ∧ Aside0 (Kd.N k48 48 w' w.heap.size (fun k_=>some k_ ≠ (v9:Value).ownBlock ∧ some k_ ≠ ((.slice Ao28 t312.length co28):Value).ownBlock ∧ some k_ ≠ ((.slice Ao30 t315.length co30):Value).ownBlock ∧ some k_ ≠ (v331:Value).ownBlock ∧ k_ ≠ gb319) (.slice (some ad318) t309.length co22) t309) ∧ Aside0 (Kd.R (Kd.int .i64) 3 w' w.heap.size (fun k_=>some k_ ≠ ((.slice Ao30 t315.length co30):Value).ownBlock) (.slice Ao28 t312.length co28) t312) ∧ Aside0 (Kd.R (Kd.int .i64) 3 w' w.heap.size (fun k_=>some k_ ≠ ((.slice Ao28 t312.length co28):Value).ownBlock) (.slice Ao30 t315.length co30) t315) ∧ Aside0 (Kd.R k56 56 w' w.heap.size (fun k_=>some k_ ≠ (v9:Value).ownBlock) v331 t330) ∧ Aside0 (w'.heap[gb319]? = some (.cells #[(.slice A318_0 ((rd_T48 t309 x13_1).f0).length c318_0),.int .i64 ((rd_T48 t309 x13_1).f1),.int .i64 ((rd_T48 t309 x13_1).f2),.int .i64 ((rd_T48 t309 x13_1).f3),.int .i64 ((rd_T48 t309 x13_1).f4)] 48 (0,0))) ∧ Aside0 (Below w.heap.size w w'))
   case atStart=>exact⟨(x9_1),(0),(by first|rfl|(simp;done)|(simp [*];done)),H',⟨Nat.le_refl _⟩,⟨rR (Kd.R_mono HO_9.out (fun _ hk=>hk.2))⟩,⟨rN (Kd.N_mono HO_21.out (fun _ hk=>⟨hk.1.1,⟨hk.1.2.1,⟨hk.1.2.2.1,⟨hk.2,hk.1.2.2.2⟩⟩⟩⟩))⟩,⟨rR HO_23.out⟩,⟨rR HO_25.out⟩,⟨rR (Kd.R_mono HO332.out (fun _ hk=>hk.2))⟩,⟨kN BK319.out⟩,⟨kB HB.out⟩⟩
   case round =>
    clear H'
    try clear c1
    try clear c2
    try clear p2
    try clear q2
    try clear c3
    try clear p3
    try clear q3
    try clear hx3
    try clear c4
    try clear c13
    try clear c13b0
    try clear c14
    try clear c14b0
    try clear c15
    try clear c15b0
    try clear c15b1
    try clear c16
    try clear c16b0
    try clear c16b1
    try clear c17
    try clear c17b0
    try clear c17b1
    try clear c18
    try clear c18b0
    try clear c18b1
    try clear c19
    try clear c19b0
    try clear c19b1
    try clear c20
    try clear c20b0
    try clear c20b1
    try clear c27
    try clear q27
    try clear c29
    try clear q29
    try clear c31
    try clear p31
    try clear q31
    try clear hx31
    try clear hcz24_0
    try clear hcz24_1
    try clear hcz24_2
    try clear hcz24_3
    try clear hcz24_4
    try clear hfz24_0
    try clear hfz24_1
    try clear hfz24_2
    try clear hfz24_3
    try clear hfz24_4
    try clear hx318_0
    try clear hx318_1
    try clear hx318_2
    try clear hx318_3
    try clear hx318_4
    try clear p2
    try clear p318
    try clear q027
    try clear q029
    try clear q27
    try clear q29
    try clear q318
    obtain⟨x9_2,x16_2,rfl,HA,HK2,HO_9,HO_21,HO_23,HO_25,HO_49,BK319,HB⟩:=hrel
    cases gk with
    | zero=>exact absurd HA.out (by simp [spec_ShareOf.l1])
    | succ k2 =>
     have H:=HA.out
     clear HA
     simp only [spec_ShareOf.l1] at H
     by_cases c32:x16_2 < (t330.length:Int)
     rotate_left
     ·rw [if_neg c32] at H
      have c32b0:decide (x16_2 < (t330.length:Int)) = false:=decide_eq_false c32
      (try simp only [hl318_0] at c32b0)
      clear c32
      have H':=mk0 H
      clear H
      obtain⟨Ao38,co38,eo38⟩:=Kd.R_slice HO_49.out
      subst eo38
      go_wp2
      go_roundg k2
      case measure=>have:=HK1.out;have:=HK2.out;omega
      case rel=>exact⟨(x9_2),(wrap64 (x13_1 + 1)),(by first|rfl|(simp;done)|(simp [*];done)),H',⟨by have:=HK1.out;have:=HK2.out;omega⟩,⟨rR (Kd.R_mono HO_9.out (fun _ hk=>trivial))⟩,⟨rN (Kd.N_mono HO_21.out (fun _ hk=>⟨hk.1,⟨hk.2.1,hk.2.2.1⟩⟩))⟩,⟨rR HO_23.out⟩,⟨rR HO_25.out⟩,⟨kB HB.out⟩⟩
     rw [if_pos c32] at H
     have c32b0:decide (x16_2 < (t330.length:Int)) = true:=decide_eq_true c32
     (try simp only [hl318_0] at c32b0)
     clear c32
     by_cases c33:0 ≤ x16_2
     rotate_left
     ·rw [if_neg c33] at H
      exact absurd H (by simp)
     rw [if_pos c33] at H
     have c33b0:decide (0 ≤ x16_2) = true:=decide_eq_true c33
     clear c33
     by_cases c34:x9_2.length < 8796093022208
     rotate_left
     ·rw [if_neg c34] at H
      exact absurd H (by simp)
     rw [if_pos c34] at H
     have LMc34:=mk0 c34
     clear c34
     obtain⟨y335,hy335⟩:∃ y_:List (S56),y_ = (x9_2 ++ [(⟨wrap64 (((rd_T56 t330 x16_2).f0) + ((rd_T48 t309 x13_1).f1)),wrap64 (((rd_T56 t330 x16_2).f1) + ((rd_T48 t309 x13_1).f3))⟩:S56)]):=⟨_,rfl⟩
     replace H:(spec_ShareOf.l1 k2 a3 y335 x13_1 (wrap64 (x16_2 + 1)) t309 t312 t315 t330 ((rd_T48 t309 x13_1).f0) ((rd_T48 t309 x13_1).f1) ((rd_T48 t309 x13_1).f2) ((rd_T48 t309 x13_1).f3) ((rd_T48 t309 x13_1).f4)) = some r:=by first|(rw [hy335];with_reducible exact H)|(have H2_:=(Option.bind_some _ _).symm.trans H;rw [hy335];with_reducible exact H2_)|(have H2_:=(Option.bind_some _ _).symm.trans H;with_reducible exact H2_)|with_reducible exact H|(rw [hy335];exact H)|exact H
     have Ny335:=mk0 hy335
     clear hy335
     have H':=mk0 H
     clear H
     obtain⟨Ao35,co35,eo35⟩:=Kd.R_slice HO_49.out
     subst eo35
     try go_wp2
     replace HO_9:=mk0 (dR HO_9.out)
     replace HO_21:=mk0 (dN HO_21.out)
     replace HO_23:=mk0 (dR HO_23.out)
     replace HO_25:=mk0 (dR HO_25.out)
     replace HO_49:=mk0 (dR HO_49.out)
     replace BK319:=mk0 (dB BK319.out)
     replace HB:=mk0 (dZ HB.out)
     have p333:0 ≤ (x16_2:Int):=of_decide_eq_true (by first|(with_reducible assumption)|assumption)
     have q333:x16_2 < (t330.length:Int):=of_decide_eq_true (by first|(with_reducible assumption)|assumption)
     obtain⟨ad333,e333,hx333_0,hx333_1⟩:=at_T56 (Kd.R_reads' HO_49.out).2.2 x16_2 p333 q333
     cases e333
     replace p333:=eq_true p333
     replace q333:=eq_true q333
     have p334:0 ≤ (x16_2:Int):=of_decide_eq_true (by first|(with_reducible assumption)|assumption)
     have q334:x16_2 < (t330.length:Int):=of_decide_eq_true (by first|(with_reducible assumption)|assumption)
     obtain⟨ad334,e334,hx334_0,hx334_1⟩:=at_T56 (Kd.R_reads' HO_49.out).2.2 x16_2 p334 q334
     obtain rfl:ad333 = ad334:=(by injection e334)
     replace p334:=eq_true p334
     replace q334:=eq_true q334
     refine start_ (n:=21) (S:=fun w'=>w'.cell? ⟨gb319,0,none⟩ = some (.slice A318_0 ((rd_T48 t309 x13_1).f0).length c318_0) ∧ w'.cell? ⟨gb319,1,none⟩ = some (.int .i64 ((rd_T48 t309 x13_1).f1)) ∧ w'.cell? ⟨gb319,2,none⟩ = some (.int .i64 ((rd_T48 t309 x13_1).f2)) ∧ w'.cell? ⟨gb319,3,none⟩ = some (.int .i64 ((rd_T48 t309 x13_1).f3)) ∧ w'.cell? ⟨gb319,4,none⟩ = some (.int .i64 ((rd_T48 t309 x13_1).f4)) ∧ w'.cell? (ad333.add ((x16_2).toNat * 2)) = some (.int .i64 ((rd_T56 t330 x16_2).f0)) ∧ w'.cell? ⟨(ad333.add ((x16_2).toNat * 2)).block,(ad333.add ((x16_2).toNat * 2)).off + 1,none⟩ = some (.int .i64 ((rd_T56 t330 x16_2).f1)) ∧ w'.cell? (ad333.add ((x16_2).toNat * 2)) = some (.int .i64 ((rd_T56 t330 x16_2).f0)) ∧ w'.cell? ⟨(ad333.add ((x16_2).toNat * 2)).block,(ad333.add ((x16_2).toNat * 2)).off + 1,none⟩ = some (.int .i64 ((rd_T56 t330 x16_2).f1))) (ds:=[18,19]) spec_ShareOf.m16 (by kernel_rfl) rfl rfl ⟨(blk_cell BK319.out 0).trans rfl,(blk_cell BK319.out 1).trans rfl,(blk_cell BK319.out 2).trans rfl,(blk_cell BK319.out 3).trans rfl,(blk_cell BK319.out 4).trans rfl,hx333_0,hx333_1,hx334_0,hx334_1⟩ (fun hHeld=>?_);refine with_tabW spec_ShareOf.tab13 spec_ShareOf.bits13 (fun HT_ HW_=>?_)
     generalize wr.drew = w36 at HO_9 HO_21 HO_23 HO_25 HO_49 BK319 HB hx333_0 hx333_1 hx334_0 hx334_1 hHeld ⊢
     refine pure_ (i:=0) (N:=some 56) (v:=?_) (a':=?_) spec_ShareOf.m17 rfl rfl (any_of HT_.out (by kernel_rfl)) (fun _ _ _ h=>h) (Or.inl ⟨by rfl,?_⟩) ?_ ?_
     rotate_left
     ·intro w'
      go_simp
      with_reducible rfl
     rotate_left
     ·simp only [Act.put,sA,sO,sS,i64_w,i32_w]
      rfl
     refine pure_ (i:=1) (N:=some 57) (v:=?_) (a':=?_) spec_ShareOf.m18 rfl rfl (any_of HT_.out (by kernel_rfl)) (fun _ _ _ h=>h) (Or.inl ⟨by rfl,?_⟩) ?_ ?_
     rotate_left
     ·intro w'
      go_simp
      with_reducible rfl
     rotate_left
     ·simp only [Act.put,sA,sO,sS,i64_w,i32_w]
      rfl
     refine pure_ (i:=2) (N:=some 58) (v:=?_) (a':=?_) spec_ShareOf.m19 rfl rfl (any_of HT_.out (by kernel_rfl)) (fun _ _ _ h=>h) (Or.inl ⟨by rfl,?_⟩) ?_ ?_
     rotate_left
     ·intro w'
      go_simp
      with_reducible rfl
     rotate_left
     ·simp only [Act.put,sA,sO,sS,i64_w,i32_w]
      rfl
     refine pure_ (i:=3) (N:=some 59) (v:=?_) (a':=?_) spec_ShareOf.m20 rfl rfl (any_of HT_.out (by kernel_rfl)) (fun _ _ _ h=>h) (Or.inl ⟨by rfl,?_⟩) ?_ ?_
     rotate_left
     ·intro w'
      go_simp
      with_reducible rfl
     rotate_left
     ·simp only [Act.put,sA,sO,sS,i64_w,i32_w]
      rfl
     refine pure_ (i:=4) (N:=some 60) (v:=?_) (a':=?_) spec_ShareOf.m21 rfl rfl (any_of HT_.out (by kernel_rfl)) (fun _ _ _ h=>h) (Or.inl ⟨by rfl,?_⟩) ?_ ?_
     rotate_left
     ·intro w'
      go_simp
      with_reducible rfl
     rotate_left
     ·simp only [Act.put,sA,sO,sS,i64_w,i32_w]
      rfl
     refine pure_ (i:=6) (N:=some 62) (v:=?_) (a':=?_) spec_ShareOf.m22 rfl rfl (any_of HT_.out (by kernel_rfl)) (fun _ _ _ h=>h) (Or.inl ⟨by rfl,?_⟩) ?_ ?_
     rotate_left
     ·intro w'
      go_simp
      with_reducible rfl
     rotate_left
     ·simp only [Act.put,sA,sO,sS,i64_w,i32_w]
      rfl
     refine pure_ (i:=9) (N:=some 65) (v:=?_) (a':=?_) spec_ShareOf.m23 rfl rfl (any_of HT_.out (by kernel_rfl)) (fun _ _ _ h=>h) (Or.inl ⟨by rfl,?_⟩) ?_ ?_
     rotate_left
     ·intro w'
      go_simp
      with_reducible rfl
     rotate_left
     ·simp only [Act.put,sA,sO,sS,i64_w,i32_w]
      rfl
     refine pure_ (i:=10) (N:=some 66) (v:=?_) (a':=?_) spec_ShareOf.m24 rfl rfl (any_of HT_.out (by kernel_rfl)) (fun _ _ _ h=>h) (Or.inl ⟨by rfl,?_⟩) ?_ ?_
     rotate_left
     ·intro w'
      go_simp
      with_reducible rfl
     rotate_left
     ·simp only [Act.put,sA,sO,sS,i64_w,i32_w]
      rfl
     refine pure_ (i:=11) (N:=some 67) (v:=?_) (a':=?_) spec_ShareOf.m25 rfl rfl (any_of HT_.out (by kernel_rfl)) (fun _ _ _ h=>h) (Or.inl ⟨by rfl,?_⟩) ?_ ?_
     rotate_left
     ·intro w'
      go_simp
      with_reducible rfl
     rotate_left
     ·simp only [Act.put,sA,sO,sS,i64_w,i32_w]
      rfl
     refine pure_ (i:=12) (N:=some 68) (v:=?_) (a':=?_) spec_ShareOf.m26 rfl rfl (any_of HT_.out (by kernel_rfl)) (fun _ _ _ h=>h) (Or.inl ⟨by rfl,?_⟩) ?_ ?_
     rotate_left
     ·intro w'
      go_simp
      with_reducible rfl
     rotate_left
     ·simp only [Act.put,sA,sO,sS,i64_w,i32_w]
      rfl
     refine pure_ (i:=14) (N:=some 70) (v:=?_) (a':=?_) spec_ShareOf.m27 rfl rfl (any_of HT_.out (by kernel_rfl)) (fun _ _ _ h=>h) (Or.inl ⟨by rfl,?_⟩) ?_ ?_
     rotate_left
     ·intro w'
      go_simp
      with_reducible rfl
     rotate_left
     ·simp only [Act.put,sA,sO,sS,i64_w,i32_w]
      rfl
     refine take_ (i:=5) (N:=some 61) (v:=?_) (a':=?_) spec_ShareOf.m28 rfl rfl (take_ofW HT_.out HW_.out (by kernel_rfl)) (fun _ _ _ h=>h) (Or.inl ⟨by rfl,?_⟩) hHeld ?_ ?_
     rotate_left
     ·rintro w' ⟨s0,s1,s2,s3,s4,s5,s6,s7,s8⟩
      go_simp
      with_reducible rfl
     rotate_left
     ·simp only [Act.put,sA,sO,sS,i64_w,i32_w]
      rfl
     refine take_ (i:=7) (N:=some 63) (v:=?_) (a':=?_) spec_ShareOf.m29 rfl rfl (take_ofW HT_.out HW_.out (by kernel_rfl)) (fun _ _ _ h=>h) (Or.inl ⟨by rfl,?_⟩) hHeld ?_ ?_
     rotate_left
     ·rintro w' ⟨s0,s1,s2,s3,s4,s5,s6,s7,s8⟩
      go_simp
      with_reducible rfl
     rotate_left
     ·simp only [Act.put,sA,sO,sS,i64_w,i32_w]
      rfl
     refine pure_ (i:=8) (N:=some 64) (v:=?_) (a':=?_) spec_ShareOf.m30 rfl rfl (any_of HT_.out (by kernel_rfl)) (fun _ _ _ h=>h) (Or.inl ⟨by rfl,?_⟩) ?_ ?_
     rotate_left
     ·intro w'
      go_simp
      with_reducible rfl
     rotate_left
     ·simp only [Act.put,sA,sO,sS,i64_w,i32_w]
      rfl
     refine take_ (i:=13) (N:=some 69) (v:=?_) (a':=?_) spec_ShareOf.m31 rfl rfl (take_ofW HT_.out HW_.out (by kernel_rfl)) (fun _ _ _ h=>h) (Or.inl ⟨by rfl,?_⟩) hHeld ?_ ?_
     rotate_left
     ·rintro w' ⟨s0,s1,s2,s3,s4,s5,s6,s7,s8⟩
      go_simp
      with_reducible rfl
     rotate_left
     ·simp only [Act.put,sA,sO,sS,i64_w,i32_w]
      rfl
     refine take_ (i:=15) (N:=some 71) (v:=?_) (a':=?_) spec_ShareOf.m32 rfl rfl (take_ofW HT_.out HW_.out (by kernel_rfl)) (fun _ _ _ h=>h) (Or.inl ⟨by rfl,?_⟩) hHeld ?_ ?_
     rotate_left
     ·rintro w' ⟨s0,s1,s2,s3,s4,s5,s6,s7,s8⟩
      go_simp
      with_reducible rfl
     rotate_left
     ·simp only [Act.put,sA,sO,sS,i64_w,i32_w]
      rfl
     refine pure_ (i:=16) (N:=some 72) (v:=?_) (a':=?_) spec_ShareOf.m33 rfl rfl (any_of HT_.out (by kernel_rfl)) (fun _ _ _ h=>h) (Or.inl ⟨by rfl,?_⟩) ?_ ?_
     rotate_left
     ·intro w'
      go_simp
      with_reducible rfl
     rotate_left
     ·simp only [Act.put,sA,sO,sS,i64_w,i32_w]
      rfl
     refine pure_ (i:=17) (N:=some 73) (v:=?_) (a':=?_) spec_ShareOf.m34 rfl rfl (any_of HT_.out (by kernel_rfl)) (fun _ _ _ h=>h) (Or.inl ⟨by rfl,?_⟩) ?_ ?_
     rotate_left
     ·intro w'
      go_simp
      with_reducible rfl
     rotate_left
     ·simp only [Act.put,sA,sO,sS,i64_w,i32_w]
      rfl
     refine last_ (i:=18) (N:=some 74) spec_ShareOf.m35 rfl rfl (one_of HT_.out (by kernel_rfl)) (by decide) (fun K hK=>?_)
     refine value_ (w1:=?_) (v:=?_) (by rfl) rfl ?_ ?_
     rotate_left 2
     ·go_simp
      constructor
      ·rfl
      ·rfl
     refine hK.out _ _ ?_
     clear hK K
     refine norm_ (a':=?_) ?_ ?_
     rotate_left
     ·show Act.put _ (some 74) _ = _
      simp only [Act.put,sA,sO,sS,i64_w,i32_w]
      rfl
     refine last_ (i:=19) (N:=some 75) spec_ShareOf.m36 rfl rfl (one_of HT_.out (by kernel_rfl)) (by decide) (fun K hK=>?_)
     refine Kd.R_append_step k56 (w0:=w) w.heap.size (by rfl) (.tmp 56) (.tmp 74) 27 56 (.agg #[(.int .i64 0),(.int .i64 0)]) 16 rfl Try.underlying27 info56 rfl (by decide) (by omega) u9 x9_2 (⟨wrap64 (((rd_T56 t330 x16_2).f0) + ((rd_T48 t309 x13_1).f1)),wrap64 (((rd_T56 t330 x16_2).f1) + ((rd_T48 t309 x13_1).f3))⟩:S56) [.int .i64 (wrap64 (((rd_T56 t330 x16_2).f0) + ((rd_T48 t309 x13_1).f1))),.int .i64 (wrap64 (((rd_T56 t330 x16_2).f1) + ((rd_T48 t309 x13_1).f3)))] (fun k_=>some k_ ≠ (.slice (some ad333) t330.length co35:Value).ownBlock) (fun _=>False) rfl rfl ?aP (fun _ hk=>hk.elim) ?aF ?aO ?aB ?aS ?aL ?_
     (case aP=>exact k56_mkM _ _ _ (⟨wrap64 (((rd_T56 t330 x16_2).f0) + ((rd_T48 t309 x13_1).f1)),wrap64 (((rd_T56 t330 x16_2).f1) + ((rd_T48 t309 x13_1).f3))⟩:S56))
     (case aB=>exact (kB HB.out))
     (case aF=>exact (fun k_ hk=>Kd.fresh' (Kd.R_lt (rR HO_49.out)) k_ hk))
     (case aO=>exact (rR HO_9.out))
     (case aS=>exact (kZ HB.out))
     (case aL=>have:=LMc34.out;omega)
     intro v336 w37 ho hb hg hat
     rw [← Ny335.out] at ho
     replace HO_21:=mk0 (Kd.N_afterv (ok:=(fun k_=>some k_ ≠ (.slice Ao28 t312.length co28:Value).ownBlock ∧ some k_ ≠ (.slice Ao30 t315.length co30:Value).ownBlock ∧ some k_ ≠ (.slice (some ad333) t330.length co35:Value).ownBlock ∧ k_ ≠ gb319)) (rN (Kd.N_mono HO_21.out (fun _ hk=>⟨⟨hk.2.1,⟨hk.2.2.1,⟨hk.2.2.2.1,hk.2.2.2.2⟩⟩⟩,hk.1⟩))) hg hat)
     replace HO_23:=mk0 (Kd.R_over' (rR HO_23.out) (Kd.R_typed (rR HO_9.out)) (by decide) hg)
     replace HO_25:=mk0 (Kd.R_over' (rR HO_25.out) (Kd.R_typed (rR HO_9.out)) (by decide) hg)
     replace HO_49:=mk0 (Kd.R_after (ok:=(fun _=>True)) (rR (Kd.R_mono HO_49.out (fun _ hk=>⟨trivial,hk⟩))) hg hat)
     replace BK319:=mk0 (blk_grown (kN BK319.out) hg (Kd.R_ne HO_9.out BK319.out (by decide)))
     replace HB:=mk0 (hb)
     have HO337:=mk0 (ho)
     clear HO_9
     clear ho hb hg hat
     refine hK.out _ _ ?_
     clear hK K
     refine norm_ (a':=?_) ?_ ?_
     rotate_left
     ·show Act.put _ (some 75) _ = _
      simp only [Act.put,sA,sO,sS,i64_w,i32_w]
      rfl
     refine pure_ (i:=20) (N:=some 9) (v:=?_) (a':=?_) spec_ShareOf.m37 rfl rfl (any_of HT_.out (by kernel_rfl)) (fun _ _ _ h=>h) (Or.inl ⟨by rfl,?_⟩) ?_ ?_
     rotate_left
     ·intro w'
      go_simp
      with_reducible rfl
     rotate_left
     ·simp only [Act.put,sA,sO,sS,i64_w,i32_w]
      rfl
     refine done_ (done_of HT_.out (by kernel_rfl)) ?_
     try go_wp2
     go_roundg k2
     case measure=>have:=HK1.out;have:=HK2.out;omega
     case rel=>exact⟨(y335),(wrap64 (x16_2 + 1)),(by first|rfl|(simp;done)|(simp [*];done)),H',⟨by have:=HK1.out;have:=HK2.out;omega⟩,⟨rR HO337.out⟩,⟨rN (Kd.N_mono HO_21.out (fun _ hk=>⟨hk.2,⟨hk.1.1,⟨hk.1.2.1,⟨hk.1.2.2.1,hk.1.2.2.2⟩⟩⟩⟩))⟩,⟨rR HO_23.out⟩,⟨rR HO_25.out⟩,⟨rR (Kd.R_mono HO_49.out (fun _ hk=>hk.2))⟩,⟨kN BK319.out⟩,⟨kB HB.out⟩⟩
def impl_TextOk.f (l0 : List Int) : Option (Bool) := some (decide ((l0.length : Int) ≤ 300))
set_option maxHeartbeats 8000000 in
set_option maxRecDepth 100000 in
theorem impl_TextOk.calls (A0 : Option Addr) (c0 : Nat) (l0 : List Int) (r : Bool) (w : World) (hr0 : Kd.C (Kd.int .u8) w A0 l0.length l0) (hc0 : l0.length ≤ c0) (h : impl_TextOk.f l0 = some r) :
  Calls Try.prog 60 #[.slice A0 l0.length c0] w fun e w' => e = .returned (.bool r) ∧ Drawn0 w w' := by
 have HR0:=mk0 hr0
 have HC0:=mk0 hc0
 clear hr0 hc0
 have H:(some (decide ((l0.length:Int) ≤ 300))) = some r:=h
 clear h
 obtain rfl:=Option.some.inj H
 go_enter Try.func60,Try.ntmps60
 go_wp2
 go_ret
 exact⟨by first|rfl|(simp;done)|(simp [*];done),by repeat (first|exact Drawn0.refl _|apply Drawn0.step)⟩
def impl_within.f (a0 : Int) (a1 : Int) (a2 : Int) : Option (Bool) := if a1 ≤ a0 then (some (decide (a0 ≤ a2))) else (some false)
set_option maxHeartbeats 8000000 in
set_option maxRecDepth 100000 in
theorem impl_within.calls (a0 : Int) (a1 : Int) (a2 : Int) (r : Bool) (w : World) (h : impl_within.f a0 a1 a2 = some r) :
  Calls Try.prog 61 #[.int .i64 a0, .int .i64 a1, .int .i64 a2] w fun e w' => e = .returned (.bool r) ∧ Drawn0 w w' := by
 have H:(if a1 ≤ a0 then (some (decide (a0 ≤ a2))) else (some false)) = some r:=h
 clear h
 by_cases c4:a1 ≤ a0
 ·rw [if_pos c4] at H
  have c4b0:decide (a1 ≤ a0) = true:=decide_eq_true c4
  clear c4
  obtain rfl:=Option.some.inj H
  go_enter Try.func61,Try.ntmps61
  go_wp2
  go_ret
  exact⟨by first|rfl|(simp;done)|(simp [*];done),by repeat (first|exact Drawn0.refl _|apply Drawn0.step)⟩
 ·rw [if_neg c4] at H
  have c4b0:decide (a1 ≤ a0) = false:=decide_eq_false c4
  clear c4
  obtain rfl:=Option.some.inj H
  go_enter Try.func61,Try.ntmps61
  go_wp2
  go_ret
  exact⟨by first|rfl|(simp;done)|(simp [*];done),by repeat (first|exact Drawn0.refl _|apply Drawn0.step)⟩
def impl_isShared.f (l0 : List Int) (l1 : List Int) (a2 : Int) : Option (Bool) := (impl_TextOk.f l0).bind fun t338 => (if t338 = true then ((impl_TextOk.f l1).bind fun t339 => (if t339 = true then ((impl_within.f a2 0 8).bind fun t340 => (some t340)) else (some false))) else (some false))
set_option maxHeartbeats 8000000 in
set_option maxRecDepth 100000 in
theorem impl_isShared.calls (A0 : Option Addr) (c0 : Nat) (l0 : List Int) (A1 : Option Addr) (c1 : Nat) (l1 : List Int) (a2 : Int) (r : Bool) (w : World) (hr0 : Kd.C (Kd.int .u8) w A0 l0.length l0) (hc0 : l0.length ≤ c0) (hr1 : Kd.C (Kd.int .u8) w A1 l1.length l1) (hc1 : l1.length ≤ c1) (h : impl_isShared.f l0 l1 a2 = some r) :
  Calls Try.prog 38 #[.slice A0 l0.length c0, .slice A1 l1.length c1, .int .i64 a2] w fun e w' => e = .returned (.bool r) ∧ Drawn0 w w' := by
 have HR0:=mk0 hr0
 have HC0:=mk0 hc0
 clear hr0 hc0
 have HR1:=mk0 hr1
 have HC1:=mk0 hc1
 clear hr1 hc1
 have H:((impl_TextOk.f l0).bind fun t338=>(if t338 = true then ((impl_TextOk.f l1).bind fun t339=>(if t339 = true then ((impl_within.f a2 0 8).bind fun t340=>(some t340)) else (some false))) else (some false))) = some r:=h
 clear h
 replace H:=Option.bind_eq_some_iff.mp H
 obtain⟨t338,A40,H⟩:=H
 replace H:(if t338 = true then ((impl_TextOk.f l1).bind fun t339=>(if t339 = true then ((impl_within.f a2 0 8).bind fun t340=>(some t340)) else (some false))) else (some false)) = some r:=H
 have A4:=mk0 A40
 clear A40
 by_cases c5:t338 = true
 ·subst c5
  have H1:((impl_TextOk.f l1).bind fun t339=>(if t339 = true then ((impl_within.f a2 0 8).bind fun t340=>(some t340)) else (some false))) = some r:=by rw [if_pos rfl] at H;exact H
  clear H
  have H:=H1
  clear H1
  replace H:=Option.bind_eq_some_iff.mp H
  obtain⟨t339,A60,H⟩:=H
  replace H:(if t339 = true then ((impl_within.f a2 0 8).bind fun t340=>(some t340)) else (some false)) = some r:=H
  have A6:=mk0 A60
  clear A60
  by_cases c7:t339 = true
  ·subst c7
   have H1:((impl_within.f a2 0 8).bind fun t340=>(some t340)) = some r:=by rw [if_pos rfl] at H;exact H
   clear H
   have H:=H1
   clear H1
   replace H:=Option.bind_eq_some_iff.mp H
   obtain⟨t340,A80,H⟩:=H
   replace H:(some t340) = some r:=H
   have A8:=mk0 A80
   clear A80
   obtain rfl:=Option.some.inj H
   go_enter Try.func38,Try.ntmps38
   go_wp2_with (first|((with_reducible refine gate_callee (f:=60) rfl ?_);refine goesL_ (some 8) rfl rfl Try.func60 (by kernel_rfl) rfl #[.slice A0 l0.length c0] rfl (by (try simp only [mA,mC,mN]);first|done|rfl|(simp only [List.length_drop,List.length_take];done)|(simp only [List.length_drop,List.length_take];rfl)) ?_;(with_reducible refine (impl_TextOk.calls _ _ l0 true _ ?side1 ?side2 A4.out).mono ?_);(case side1=>repeat (first|exact HR0.out|(with_reducible first|apply aC|apply nC|apply dC)));(case side2=>exact HC0.out);rintro e w' ⟨rfl,⟨nd,rfl⟩⟩;refine⟨_,rfl,?_⟩)|(go_at_call 60;(with_reducible refine (impl_TextOk.calls _ _ l1 true _ ?side1 ?side2 A6.out).mono ?_);(case side1=>repeat (first|exact HR1.out|(with_reducible first|apply aC|apply nC|apply dC)));(case side2=>exact HC1.out);rintro e w' ⟨rfl,⟨nd,rfl⟩⟩)|(go_at_call 61;(with_reducible refine (impl_within.calls a2 0 8 t340 _ A8.out).mono ?_);rintro e w' ⟨rfl,⟨nd,rfl⟩⟩))
   go_ret
   exact⟨by first|rfl|(simp;done)|(simp [*];done),by repeat (first|exact Drawn0.refl _|apply Drawn0.step)⟩
  ·replace c7:=Bool.eq_false_iff.mpr c7
   subst c7
   have H1:(some false) = some r:=by rw [if_neg (show ¬ (false = true) by decide)] at H;exact H
   clear H
   have H:=H1
   clear H1
   obtain rfl:=Option.some.inj H
   go_enter Try.func38,Try.ntmps38
   go_wp2_with (first|((with_reducible refine gate_callee (f:=60) rfl ?_);refine goesL_ (some 8) rfl rfl Try.func60 (by kernel_rfl) rfl #[.slice A0 l0.length c0] rfl (by (try simp only [mA,mC,mN]);first|done|rfl|(simp only [List.length_drop,List.length_take];done)|(simp only [List.length_drop,List.length_take];rfl)) ?_;(with_reducible refine (impl_TextOk.calls _ _ l0 true _ ?side1 ?side2 A4.out).mono ?_);(case side1=>repeat (first|exact HR0.out|(with_reducible first|apply aC|apply nC|apply dC)));(case side2=>exact HC0.out);rintro e w' ⟨rfl,⟨nd,rfl⟩⟩;refine⟨_,rfl,?_⟩)|(go_at_call 60;(with_reducible refine (impl_TextOk.calls _ _ l1 false _ ?side1 ?side2 A6.out).mono ?_);(case side1=>repeat (first|exact HR1.out|(with_reducible first|apply aC|apply nC|apply dC)));(case side2=>exact HC1.out);rintro e w' ⟨rfl,⟨nd,rfl⟩⟩))
   go_ret
   exact⟨by first|rfl|(simp;done)|(simp [*];done),by repeat (first|exact Drawn0.refl _|apply Drawn0.step)⟩
 ·replace c5:=Bool.eq_false_iff.mpr c5
  subst c5
  have H1:(some false) = some r:=by rw [if_neg (show ¬ (false = true) by decide)] at H;exact H
  clear H
  have H:=H1
  clear H1
  obtain rfl:=Option.some.inj H
  go_enter Try.func38,Try.ntmps38
  go_wp2_with (first|((with_reducible refine gate_callee (f:=60) rfl ?_);refine goesL_ (some 8) rfl rfl Try.func60 (by kernel_rfl) rfl #[.slice A0 l0.length c0] rfl (by (try simp only [mA,mC,mN]);first|done|rfl|(simp only [List.length_drop,List.length_take];done)|(simp only [List.length_drop,List.length_take];rfl)) ?_;(with_reducible refine (impl_TextOk.calls _ _ l0 false _ ?side1 ?side2 A4.out).mono ?_);(case side1=>repeat (first|exact HR0.out|(with_reducible first|apply aC|apply nC|apply dC)));(case side2=>exact HC0.out);rintro e w' ⟨rfl,⟨nd,rfl⟩⟩;refine⟨_,rfl,?_⟩))
  go_ret
  exact⟨by first|rfl|(simp;done)|(simp [*];done),by repeat (first|exact Drawn0.refl _|apply Drawn0.step)⟩
-- NOT PRINTED: function 96 (slices_insertionSortCmpFunc_int)
-- NOT PRINTED: function 115 (slices_siftDownCmpFunc_int)
-- NOT PRINTED: function 97 (slices_heapSortCmpFunc_int)
-- NOT PRINTED: function 104 (bits_Len32)
end Go.Proofs.Ytadhngelhognaaa.QFnExactShareOf
