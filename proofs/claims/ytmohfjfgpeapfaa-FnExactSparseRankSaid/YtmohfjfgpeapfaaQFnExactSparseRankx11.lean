-- A walk, made by walk.py, a program of this session's.
import Derived.Test.YtmohfjfgpeapfaaQFnExactSparseRankx0
import Derived.Test.YtmohfjfgpeapfaaQFnExactSparseRankx6
import Derived.Test.YtmohfjfgpeapfaaQFnExactSparseRankx10
namespace Go.Proofs.Ytmohfjfgpeapfaa.QFnExactSparseRank
open Go.RowKit Go.Proofs.YtmohfjfgpeapfaaW.PrintWords Go.Proofs.YtmohfjfgpeapfaaW.PrintLast Go.Proofs.YtmohfjfgpeapfaaW.PrintMore
attribute [local go_sem] max2_int min2_int max_two min_two max_three min_three max_four min_four   -- for this text's walks alone
set_option linter.unusedVariables false
set_option linter.unusedSimpArgs false

/-! ### spec_l03List: function 49 -/
def spec_l03List.l0 : Nat → List Int → Int → Int → List Int → List Int → Int → Int → Int → Int → Int → List Int → Int → List Int → Option (List Int)
 | 0, _, _, _, _, _, _, _, _, _, _, _, _, _ => none
 | k + 1, x3, x6, x7, x11, x14, x408000, x408001, x408002, x408003, x408004, x408005, x408006, x408007 => if x7 < (x14.length : Int) then (if 0 ≤ x7 then (if (rd x14 x7) = 0 then (spec_l03List.l0 k x3 (wrap64 (x6 + 1)) (wrap64 (x7 + 1)) x11 x14 x408000 x408001 x408002 x408003 x408004 x408005 x408006 x408007) else (if (x3.length : Int) < (x11.length : Int) then ((spec_l02Pow.f k x408002).bind fun t418 => (if 0 ≤ (x3.length : Int) then (if x3.length < 17592186044416 then (spec_l03List.l0 k (x3 ++ [wrap64 ((wrap64 (x6 * t418)) + (rd x11 (x3.length : Int)))]) x6 (wrap64 (x7 + 1)) x11 x14 x408000 x408001 x408002 x408003 x408004 x408005 x408006 x408007) else (none)) else (none))) else (spec_l03List.l0 k x3 x6 (wrap64 (x7 + 1)) x11 x14 x408000 x408001 x408002 x408003 x408004 x408005 x408006 x408007))) else (none)) else (some x3)
def spec_l03List.f (k : Nat) (a0_0 : Int) (a0_1 : Int) (a0_2 : Int) (a0_3 : Int) (a0_4 : Int) (l0_5 : List Int) (a0_6 : Int) (l0_7 : List Int) : Option (List Int) := (spec_PackList.f k a0_2 a0_3 a0_4 l0_5).bind fun t411 => ((spec_l01List.f k a0_6 l0_7).bind fun t414 => (spec_l03List.l0 k (([] : List Int)) 0 0 t411 t414 a0_0 a0_1 a0_2 a0_3 a0_4 l0_5 a0_6 l0_7))
theorem spec_l03List.mono_l : ∀ k, (∀ y0 y1 y2 y3 y4 y5 y6 y7 y8 y9 y10 y11 y12, LeO (spec_l03List.l0 k y0 y1 y2 y3 y4 y5 y6 y7 y8 y9 y10 y11 y12) (spec_l03List.l0 (k + 1) y0 y1 y2 y3 y4 y5 y6 y7 y8 y9 y10 y11 y12))
 | 0 => fun _ _ _ _ _ _ _ _ _ _ _ _ _ r h => by simp [spec_l03List.l0] at h
 | k + 1 => by
  have ih0 := spec_l03List.mono_l k
  ·intro y0 y1 y2 y3 y4 y5 y6 y7 y8 y9 y10 y11 y12
   unfold spec_l03List.l0
   repeat' first|(with_reducible first|exact ih0 _ _ _ _ _ _ _ _ _ _ _ _ _|exact spec_PackList.mono _ _ _ _ _|exact spec_l01List.mono _ _ _|exact spec_l02Pow.mono _ _|exact LeO.refl _|exact LeO.none _|refine LeO.ite ?_ ?_|refine LeO.bind ?_ (fun _ => ?_))|exact LeO.none _|refine LeO.ite ?_ ?_|refine LeO.bind ?_ (fun _ => ?_)
theorem spec_l03List.mono : ∀ a0 a1 a2 a3 a4 a5 a6 a7 k, LeO (spec_l03List.f k a0 a1 a2 a3 a4 a5 a6 a7) (spec_l03List.f (k + 1) a0 a1 a2 a3 a4 a5 a6 a7) := by
 intro a0 a1 a2 a3 a4 a5 a6 a7 k
 have ih0 := spec_l03List.mono_l k
 unfold spec_l03List.f
 repeat' first|(with_reducible first|exact ih0 _ _ _ _ _ _ _ _ _ _ _ _ _|exact spec_PackList.mono _ _ _ _ _|exact spec_l01List.mono _ _ _|exact spec_l02Pow.mono _ _|exact LeO.refl _|exact LeO.none _|refine LeO.ite ?_ ?_|refine LeO.bind ?_ (fun _ => ?_))|exact LeO.none _|refine LeO.ite ?_ ?_|refine LeO.bind ?_ (fun _ => ?_)
def spec_l03List.T11 : Bool × List (List Nat × List Nat) := (true, [([], []), ([], []), ([], []), ([2], [2]), ([3], [3]), ([4], [4]), ([1, 5], [1, 5]), ([], []), ([], []), ([8], [8]), ([7, 9], [7, 9]), ([10], [10]), ([6, 11], [6, 11]), ([12], [12]), ([0, 13, 5], [0, 13]), ([14, 14, 0, 1, 2, 3, 4, 5, 6, 7, 8, 9, 10, 11, 12, 13, 14], [0, 8, 14])])
def spec_l03List.B11 : List Nat := [0, 0, 0, 4, 12, 28, 62, 0, 0, 256, 896, 1920, 4094, 8190, 16383, 32767]
theorem spec_l03List.tab11 : rtab .any (opsOf Try.f49 11) = spec_l03List.T11 := by kernel_rfl
theorem spec_l03List.bits11 : waitsOk spec_l03List.T11.2 spec_l03List.B11 = true := by kernel_rfl
abbrev spec_l03List.m0 : Array Bool := #[F,F,F,F,F,F,F,F,F,F,F,F,F,F,F,F]
abbrev spec_l03List.m1 : Array Bool := #[T,F,F,F,F,F,F,F,F,F,F,F,F,F,F,F]
abbrev spec_l03List.m2 : Array Bool := #[T,T,F,F,F,F,F,F,F,F,F,F,F,F,F,F]
abbrev spec_l03List.m3 : Array Bool := #[T,T,T,F,F,F,F,F,F,F,F,F,F,F,F,F]
abbrev spec_l03List.m4 : Array Bool := #[T,T,T,T,F,F,F,F,F,F,F,F,F,F,F,F]
abbrev spec_l03List.m5 : Array Bool := #[T,T,T,T,F,F,F,T,F,F,F,F,F,F,F,F]
abbrev spec_l03List.m6 : Array Bool := #[T,T,T,T,F,F,F,T,T,F,F,F,F,F,F,F]
abbrev spec_l03List.m7 : Array Bool := #[T,T,T,T,F,F,F,T,T,T,F,F,F,F,F,F]
abbrev spec_l03List.m8 : Array Bool := #[T,T,T,T,F,F,F,T,T,T,T,F,F,F,F,F]
abbrev spec_l03List.m9 : Array Bool := #[T,T,T,T,T,F,F,T,T,T,T,F,F,F,F,F]
abbrev spec_l03List.m10 : Array Bool := #[T,T,T,T,T,F,F,T,T,T,T,T,F,F,F,F]
abbrev spec_l03List.m11 : Array Bool := #[T,T,T,T,T,T,F,T,T,T,T,T,F,F,F,F]
abbrev spec_l03List.m12 : Array Bool := #[T,T,T,T,T,T,T,T,T,T,T,T,F,F,F,F]
abbrev spec_l03List.m13 : Array Bool := #[T,T,T,T,T,T,T,T,T,T,T,T,T,F,F,F]
abbrev spec_l03List.m14 : Array Bool := #[T,T,T,T,T,T,T,T,T,T,T,T,T,T,F,F]
abbrev spec_l03List.m15 : Array Bool := #[T,T,T,T,T,T,T,T,T,T,T,T,T,T,T,F]
abbrev spec_l03List.m16 : Array Bool := #[T,T,T,T,T,T,T,T,T,T,T,T,T,T,T,T]
set_option maxHeartbeats 8000000 in
set_option maxRecDepth 100000 in
theorem spec_l03List.calls (k : Nat) (a0_0 : Int) (a0_1 : Int) (a0_2 : Int) (a0_3 : Int) (a0_4 : Int) (A0_5 : Option Addr) (c0_5 : Nat) (l0_5 : List Int) (a0_6 : Int) (A0_7 : Option Addr) (c0_7 : Nat) (l0_7 : List Int) (r : List Int) (w : World) (hr0_5 : Kd.C (Kd.int .u64) w A0_5 l0_5.length l0_5) (hc0_5 : l0_5.length ≤ c0_5) (hr0_7 : Kd.C (Kd.int .u64) w A0_7 l0_7.length l0_7) (hc0_7 : l0_7.length ≤ c0_7) (h : spec_l03List.f k a0_0 a0_1 a0_2 a0_3 a0_4 l0_5 a0_6 l0_7 = some r) :
  Calls Try.prog 49 #[.agg #[.int .i64 a0_0, .int .i64 a0_1, .int .i64 a0_2, .int .i64 a0_3, .int .i64 a0_4, .slice A0_5 l0_5.length c0_5, .int .i64 a0_6, .slice A0_7 l0_7.length c0_7]] w fun e w' => ∃ v0_ : Value, e = .returned (v0_) ∧ Kd.R (Kd.int .i64) 3 w' w.heap.size (fun _ => True) v0_ r ∧ Below w.heap.size w w' := by
 have hu33:=Try.underlying33
 have hu31:=Try.underlying31
 have hu29:=Try.underlying29
 have HR0_5:=mk0 hr0_5
 have HC0_5:=mk0 hc0_5
 clear hr0_5 hc0_5
 have HR0_7:=mk0 hr0_7
 have HC0_7:=mk0 hc0_7
 clear hr0_7 hc0_7
 have HB:=mk0 (Below.refl w.heap.size w)
 have H:((spec_PackList.f k a0_2 a0_3 a0_4 l0_5).bind fun t411=>((spec_l01List.f k a0_6 l0_7).bind fun t414=>(spec_l03List.l0 k (([]:List Int)) 0 0 t411 t414 a0_0 a0_1 a0_2 a0_3 a0_4 l0_5 a0_6 l0_7))) = some r:=h
 clear h
 obtain⟨y408,hy408⟩:∃ y_:List Int,y_ = (([]:List Int)):=⟨_,rfl⟩
 replace H:((spec_PackList.f k a0_2 a0_3 a0_4 l0_5).bind fun t411=>((spec_l01List.f k a0_6 l0_7).bind fun t414=>(spec_l03List.l0 k y408 0 0 t411 t414 a0_0 a0_1 a0_2 a0_3 a0_4 l0_5 a0_6 l0_7))) = some r:=by first|(rw [hy408];with_reducible exact H)|(have H2_:=(Option.bind_some _ _).symm.trans H;rw [hy408];with_reducible exact H2_)|(have H2_:=(Option.bind_some _ _).symm.trans H;with_reducible exact H2_)|with_reducible exact H|(rw [hy408];exact H)|exact H
 have Ny408:=mk0 hy408
 clear hy408
 replace H:=Option.bind_eq_some_iff.mp H
 obtain⟨t411,A20,H⟩:=H
 replace H:((spec_l01List.f k a0_6 l0_7).bind fun t414=>(spec_l03List.l0 k y408 0 0 t411 t414 a0_0 a0_1 a0_2 a0_3 a0_4 l0_5 a0_6 l0_7)) = some r:=H
 have A2:=mk0 A20
 clear A20
 replace H:=Option.bind_eq_some_iff.mp H
 obtain⟨t414,A30,H⟩:=H
 replace H:(spec_l03List.l0 k y408 0 0 t411 t414 a0_0 a0_1 a0_2 a0_3 a0_4 l0_5 a0_6 l0_7) = some r:=H
 have A3:=mk0 A30
 clear A30
 have H':=mk0 H
 clear H
 go_enter Try.func49,Try.ntmps49
 go_wp2_with (first|((with_reducible refine gate_dst (N:=1) rfl ?_);refine box_event ?hg (N:=1) ?hd (cs:=#[.int .i64 a0_0,.int .i64 a0_1,.int .i64 a0_2,.int .i64 a0_3,.int .i64 a0_4,.slice A0_5 l0_5.length c0_5,.int .i64 a0_6,.slice A0_7 l0_7.length c0_7]) (t:=33) ?hr ?_;(case hd=>rfl);(case hg=>rfl);(case hr=>first|(go_simp;done)|(go_simp;rfl));intro gb407 hg w4 hbox hb;have BK407:=mk0 (hbox);have GW407:=mk0 ((by rw [hg];exact (kZ HB.out):w.heap.size ≤ gb407));have GE407:=mk0 ((by rw [hg];exact (kZ HB.out):w.heap.size ≤ gb407));replace HB:=mk0 (kS HB.out hb);clear hb hbox hg)|((with_reducible refine gate_dst (N:=8) rfl ?_);refine Kd.R_lit (Kd.int .i64) _ 3 ?hg (N:=8) ?hd (xs:=([]:List Int)) (inner:=[]) (ok:=fun _=>True) (okp:=fun _=>True) ?hr ?hp (fun _ hk=>hk) trivial (Below.refl _ _) (Nat.le_refl _) (by simp) ?_;(case hd=>rfl);(case hg=>rfl);(case hr=>first|(go_simp;done)|(go_simp;rfl));(case hp=>exact (Reps.none _ _));intro v409 w5 ho6 hb hg_ hnew_;clear hg_ hnew_;(first|rw [← Ny408.out] at ho6|(simp only [Int.reduceToNat] at ho6;rw [← Ny408.out] at ho6));have HO410:=mk0 (Kd.R_lower ho6 (kZ HB.out));replace BK407:=mk0 (kK BK407.out hb);replace HB:=mk0 (kS HB.out hb);clear hb ho6;obtain⟨hcz7_0,hcz7_1,hcz7_2,hcz7_3,hcz7_4,hcz7_5,hcz7_6,hcz7_7,hfz7_0,hfz7_1,hfz7_2,hfz7_3,hfz7_4,hfz7_5,hfz7_6,hfz7_7⟩:=cz8 BK407.out)|((with_reducible refine gate_callee (f:=72) rfl ?_);refine goesL_ (some 11) rfl rfl Try.func72 (by kernel_rfl) rfl #[.agg #[.int .i64 a0_2,.int .i64 a0_3,.int .i64 a0_4,.slice A0_5 l0_5.length c0_5]] rfl (by (try simp only [mA,mC,mN]);first|done|rfl|(simp only [List.length_drop,List.length_take];rfl)) ?_;(with_reducible refine (spec_PackList.calls k a0_2 a0_3 a0_4 _ _ l0_5 t411 _ ?side1 ?side2 A2.out).mono ?_);(case side1=>exact kC (Kd.C_below HR0_5.out HB.out));(case side2=>exact HC0_5.out);rintro e w8 ⟨v412,rfl,ho0,hb⟩;refine⟨_,rfl,?_⟩;have HO413:=mk0 (Kd.R_lower (Kd.R_new' ho0 (Kd.R_lt (rR HO410.out))) (kZ HB.out));replace HO410:=mk0 (Kd.R_elder' (rR HO410.out) (Kd.R_base ho0) hb);replace BK407:=mk0 (kK BK407.out hb);replace HB:=mk0 (kS HB.out hb);(try clear hb);(try clear ho0);obtain⟨hcz9_0,hcz9_1,hcz9_2,hcz9_3,hcz9_4,hcz9_5,hcz9_6,hcz9_7,hfz9_0,hfz9_1,hfz9_2,hfz9_3,hfz9_4,hfz9_5,hfz9_6,hfz9_7⟩:=cz8 BK407.out)|((with_reducible refine gate_callee (f:=73) rfl ?_);refine goesL_ (some 14) rfl rfl Try.func73 (by kernel_rfl) rfl #[.agg #[.int .i64 a0_6,.slice A0_7 l0_7.length c0_7]] rfl (by (try simp only [mA,mC,mN]);first|done|rfl|(simp only [List.length_drop,List.length_take];rfl)) ?_;(with_reducible refine (spec_l01List.calls k a0_6 _ _ l0_7 t414 _ ?side1 ?side2 A3.out).mono ?_);(case side1=>exact kC (Kd.C_below HR0_7.out HB.out));(case side2=>exact HC0_7.out);rintro e w10 ⟨v415,rfl,ho0,hb⟩;refine⟨_,rfl,?_⟩;have HO416:=mk0 (Kd.R_lower (Kd.R_new' (Kd.R_new' ho0 (Kd.R_lt (rR HO410.out))) (Kd.R_lt (rR HO413.out))) (kZ HB.out));replace HO410:=mk0 (Kd.R_elder' (rR HO410.out) (Kd.R_base ho0) hb);replace HO413:=mk0 (Kd.R_elder' (rR HO413.out) (Kd.R_base ho0) hb);replace BK407:=mk0 (kK BK407.out hb);replace HB:=mk0 (kS HB.out hb);(try clear hb);(try clear ho0)))
 go_loopg [3,6,7] k (fun kq v3 v6 v7 w'=>∃ (x3_1:List Int) (x6_1:Int) (x7_1:Int),v6 = .int .i64 x6_1 ∧ v7 = .int .i64 x7_1 ∧ Aside0 (spec_l03List.l0 kq x3_1 x6_1 x7_1 t411 t414 a0_0 a0_1 a0_2 a0_3 a0_4 l0_5 a0_6 l0_7 = some r) ∧ Aside0 (kq ≤ k) ∧ Aside0 (Kd.R (Kd.int .i64) 3 w' w.heap.size (fun k_=>some k_ ≠ (v412:Value).ownBlock ∧ some k_ ≠ (v415:Value).ownBlock) v3 x3_1) ∧ Aside0 (Kd.R (Kd.int .i64) 3 w' w.heap.size (fun k_=>some k_ ≠ (v3:Value).ownBlock ∧ some k_ ≠ (v415:Value).ownBlock) v412 t411) ∧ Aside0 (Kd.R (Kd.int .i64) 3 w' w.heap.size (fun k_=>some k_ ≠ (v3:Value).ownBlock ∧ some k_ ≠ (v412:Value).ownBlock) v415 t414) ∧ Aside0 (w'.heap[gb407]? = some (.cells #[.int .i64 a0_0,.int .i64 a0_1,.int .i64 a0_2,.int .i64 a0_3,.int .i64 a0_4,(.slice A0_5 l0_5.length c0_5),.int .i64 a0_6,(.slice A0_7 l0_7.length c0_7)] 33 (0,0))) ∧ Aside0 (Below w.heap.size w w'))
 case atStart=>exact⟨(y408),(0),(0),(by first|rfl|(simp;done)|(simp [*];done)),(by first|rfl|(simp;done)|(simp [*];done)),H',⟨Nat.le_refl _⟩,⟨rR (Kd.R_mono HO410.out (fun _ hk=>⟨hk.1.2,hk.2⟩))⟩,⟨rR (Kd.R_mono HO413.out (fun _ hk=>⟨hk.1.2,hk.2⟩))⟩,⟨rR (Kd.R_mono HO416.out (fun _ hk=>⟨hk.1.2,hk.2⟩))⟩,⟨kN BK407.out⟩,⟨kB HB.out⟩⟩
 case round =>
  clear H'
  try clear p2
  try clear c4
  try clear c7
  try clear hcz7_0
  try clear hcz7_1
  try clear hcz7_2
  try clear hcz7_3
  try clear hcz7_4
  try clear hcz7_5
  try clear hcz7_6
  try clear hcz7_7
  try clear hcz9_0
  try clear hcz9_1
  try clear hcz9_2
  try clear hcz9_3
  try clear hcz9_4
  try clear hcz9_5
  try clear hcz9_6
  try clear hcz9_7
  try clear hfz7_0
  try clear hfz7_1
  try clear hfz7_2
  try clear hfz7_3
  try clear hfz7_4
  try clear hfz7_5
  try clear hfz7_6
  try clear hfz7_7
  try clear hfz9_0
  try clear hfz9_1
  try clear hfz9_2
  try clear hfz9_3
  try clear hfz9_4
  try clear hfz9_5
  try clear hfz9_6
  try clear hfz9_7
  obtain⟨x3_1,x6_1,x7_1,rfl,rfl,HA,HK1,HO_3,HO_11,HO_14,BK407,HB⟩:=hrel
  cases gk with
  | zero=>exact absurd HA.out (by simp [spec_l03List.l0])
  | succ k1 =>
   have H:=HA.out
   clear HA
   simp only [spec_l03List.l0] at H
   by_cases c11:x7_1 < (t414.length:Int)
   rotate_left
   ·rw [if_neg c11] at H
    have c11b0:decide (x7_1 < (t414.length:Int)) = false:=decide_eq_false c11
    clear c11
    obtain rfl:=Option.some.inj H
    obtain⟨Ao27,co27,eo27⟩:=Kd.R_slice HO_14.out
    subst eo27
    go_wp2
    go_ret
    exact⟨_,by first|rfl|(simp [errW_none,errW_some] <;> rfl)|(simp [*,errW_none,errW_some] <;> rfl),rR (Kd.R_mono HO_3.out (fun _ hk=>trivial)),kB HB.out⟩

   rw [if_pos c11] at H
   have c11b0:decide (x7_1 < (t414.length:Int)) = true:=decide_eq_true c11
   clear c11
   by_cases c12:0 ≤ x7_1
   rotate_left
   ·rw [if_neg c12] at H
    exact absurd H (by simp)
   rw [if_pos c12] at H
   have c12b0:decide (0 ≤ x7_1) = true:=decide_eq_true c12
   clear c12
   by_cases c13:(rd t414 x7_1) = 0
   ·rw [if_pos c13] at H
    have c13b0:((rd t414 x7_1) == 0) = true:=beq_iff_eq.mpr c13
    have c13b1:((rd t414 x7_1) != 0) = false:=bne_eq_false_iff_eq.mpr c13
    clear c13
    have H':=mk0 H
    clear H
    obtain⟨Ao14,co14,eo14⟩:=Kd.R_slice HO_14.out
    subst eo14
    have p417:0 ≤ (x7_1:Int):=of_decide_eq_true (by first|(with_reducible assumption)|assumption)
    have q417:x7_1 < (t414.length:Int):=of_decide_eq_true (by first|(with_reducible assumption)|assumption)
    obtain⟨ad417,e417,hx417_0⟩:=Kd.at_int (Kd.R_reads' HO_14.out).2.2 x7_1 p417 q417
    cases e417
    replace p417:=eq_true p417
    replace q417:=eq_true q417
    go_wp2
    go_roundg k1
    case measure=>have:=HK1.out;omega
    case rel=>exact⟨(x3_1),(wrap64 (x6_1 + 1)),(wrap64 (x7_1 + 1)),(by first|rfl|(simp;done)|(simp [*];done)),(by first|rfl|(simp;done)|(simp [*];done)),H',⟨by have:=HK1.out;omega⟩,⟨rR HO_3.out⟩,⟨rR HO_11.out⟩,⟨rR HO_14.out⟩,⟨kN BK407.out⟩,⟨kB HB.out⟩⟩
   rw [if_neg c13] at H
   have c13b0:((rd t414 x7_1) == 0) = false:=beq_eq_false_iff_ne.mpr c13
   have c13b1:((rd t414 x7_1) != 0) = true:=bne_iff_ne.mpr c13
   by_cases c15:(x3_1.length:Int) < (t411.length:Int)
   rotate_left
   ·rw [if_neg c15] at H
    have c15b0:decide ((x3_1.length:Int) < (t411.length:Int)) = false:=decide_eq_false c15
    have c15b1:decide (x3_1.length < t411.length) = false:=decide_eq_false (fun h=>c15 (Int.ofNat_lt.mpr h))
    clear c15
    have H':=mk0 H
    clear H
    obtain⟨Ao24,co24,eo24⟩:=Kd.R_slice HO_14.out
    subst eo24
    have p417:0 ≤ (x7_1:Int):=of_decide_eq_true (by first|(with_reducible assumption)|assumption)
    have q417:x7_1 < (t414.length:Int):=of_decide_eq_true (by first|(with_reducible assumption)|assumption)
    obtain⟨ad417,e417,hx417_0⟩:=Kd.at_int (Kd.R_reads' HO_14.out).2.2 x7_1 p417 q417
    cases e417
    replace p417:=eq_true p417
    replace q417:=eq_true q417
    obtain⟨Ao25,co25,eo25⟩:=Kd.R_slice HO_3.out
    subst eo25
    obtain⟨Ao26,co26,eo26⟩:=Kd.R_slice HO_11.out
    subst eo26
    go_wp2
    go_roundg k1
    case measure=>have:=HK1.out;omega
    case rel=>exact⟨(x3_1),(x6_1),(wrap64 (x7_1 + 1)),(by first|rfl|(simp;done)|(simp [*];done)),(by first|rfl|(simp;done)|(simp [*];done)),H',⟨by have:=HK1.out;omega⟩,⟨rR HO_3.out⟩,⟨rR HO_11.out⟩,⟨rR HO_14.out⟩,⟨kN BK407.out⟩,⟨kB HB.out⟩⟩
   rw [if_pos c15] at H
   have c15b0:decide ((x3_1.length:Int) < (t411.length:Int)) = true:=decide_eq_true c15
   have c15b1:decide (x3_1.length < t411.length) = true:=decide_eq_true (Int.ofNat_lt.mp c15)
   clear c15
   replace H:=Option.bind_eq_some_iff.mp H
   obtain⟨t418,A160,H⟩:=H
   replace H:(if 0 ≤ (x3_1.length:Int) then (if x3_1.length < 17592186044416 then (spec_l03List.l0 k1 (x3_1 ++ [wrap64 ((wrap64 (x6_1 * t418)) + (rd t411 (x3_1.length:Int)))]) x6_1 (wrap64 (x7_1 + 1)) t411 t414 a0_0 a0_1 a0_2 a0_3 a0_4 l0_5 a0_6 l0_7) else (none)) else (none)) = some r:=H
   have A16:=mk0 A160
   clear A160
   by_cases c17:0 ≤ (x3_1.length:Int)
   rotate_left
   ·rw [if_neg c17] at H
    exact absurd H (by simp)
   rw [if_pos c17] at H
   have c17b0:decide (0 ≤ (x3_1.length:Int)) = true:=decide_eq_true c17
   have c17b1:decide (0 ≤ x3_1.length) = true:=decide_eq_true (by omega)
   clear c17
   by_cases c18:x3_1.length < 17592186044416
   rotate_left
   ·rw [if_neg c18] at H
    exact absurd H (by simp)
   rw [if_pos c18] at H
   have LMc18:=mk0 c18
   clear c18
   obtain⟨y420,hy420⟩:∃ y_:List Int,y_ = (x3_1 ++ [wrap64 ((wrap64 (x6_1 * t418)) + (rd t411 (x3_1.length:Int)))]):=⟨_,rfl⟩
   replace H:(spec_l03List.l0 k1 y420 x6_1 (wrap64 (x7_1 + 1)) t411 t414 a0_0 a0_1 a0_2 a0_3 a0_4 l0_5 a0_6 l0_7) = some r:=by first|(rw [hy420];with_reducible exact H)|(have H2_:=(Option.bind_some _ _).symm.trans H;rw [hy420];with_reducible exact H2_)|(have H2_:=(Option.bind_some _ _).symm.trans H;with_reducible exact H2_)|with_reducible exact H|(rw [hy420];exact H)|exact H
   have Ny420:=mk0 hy420
   clear hy420
   have H':=mk0 H
   clear H
   obtain⟨Ao19,co19,eo19⟩:=Kd.R_slice HO_14.out
   subst eo19
   have p417:0 ≤ (x7_1:Int):=of_decide_eq_true (by first|(with_reducible assumption)|assumption)
   have q417:x7_1 < (t414.length:Int):=of_decide_eq_true (by first|(with_reducible assumption)|assumption)
   obtain⟨ad417,e417,hx417_0⟩:=Kd.at_int (Kd.R_reads' HO_14.out).2.2 x7_1 p417 q417
   cases e417
   replace p417:=eq_true p417
   replace q417:=eq_true q417
   obtain⟨Ao20,co20,eo20⟩:=Kd.R_slice HO_3.out
   subst eo20
   obtain⟨Ao21,co21,eo21⟩:=Kd.R_slice HO_11.out
   subst eo21
   try go_wp2
   replace HO_3:=mk0 (dR HO_3.out)
   replace HO_11:=mk0 (dR HO_11.out)
   replace HO_14:=mk0 (dR HO_14.out)
   replace BK407:=mk0 (dB BK407.out)
   replace HB:=mk0 (dZ HB.out)
   have p419:0 ≤ ((x3_1.length:Int):Int):=of_decide_eq_true (by first|(with_reducible assumption)|assumption)
   have q419:(x3_1.length:Int) < (t411.length:Int):=of_decide_eq_true (by first|(with_reducible assumption)|assumption)
   obtain⟨ad419,e419,hx419_0⟩:=Kd.at_int (Kd.R_reads' HO_11.out).2.2 (x3_1.length:Int) p419 q419
   cases e419
   (try simp only [Go.IntWalk.toNatUp] at hx419_0)
   replace p419:=eq_true p419
   replace q419:=eq_true q419
   refine start_ (n:=16) (S:=fun w'=>w'.cell? ⟨gb407,0,none⟩ = some (.int .i64 a0_0) ∧ w'.cell? ⟨gb407,1,none⟩ = some (.int .i64 a0_1) ∧ w'.cell? ⟨gb407,2,none⟩ = some (.int .i64 a0_2) ∧ w'.cell? ⟨gb407,3,none⟩ = some (.int .i64 a0_3) ∧ w'.cell? ⟨gb407,4,none⟩ = some (.int .i64 a0_4) ∧ w'.cell? ⟨gb407,5,none⟩ = some (.slice A0_5 l0_5.length c0_5) ∧ w'.cell? ⟨gb407,6,none⟩ = some (.int .i64 a0_6) ∧ w'.cell? ⟨gb407,7,none⟩ = some (.slice A0_7 l0_7.length c0_7) ∧ w'.cell? (ad419.add x3_1.length) = some (.int .i64 (rd t411 (x3_1.length:Int)))) (ds:=[13,14]) spec_l03List.m0 (by kernel_rfl) rfl rfl ⟨(blk_cell BK407.out 0).trans rfl,(blk_cell BK407.out 1).trans rfl,(blk_cell BK407.out 2).trans rfl,(blk_cell BK407.out 3).trans rfl,(blk_cell BK407.out 4).trans rfl,(blk_cell BK407.out 5).trans rfl,(blk_cell BK407.out 6).trans rfl,(blk_cell BK407.out 7).trans rfl,hx419_0⟩ (fun hHeld=>?_);refine with_tabW spec_l03List.tab11 spec_l03List.bits11 (fun HT_ HW_=>?_)
   generalize wr.drew = w22 at HO_3 HO_11 HO_14 BK407 HB hx419_0 hHeld ⊢
   refine pure_ (i:=0) (N:=some 33) (v:=?_) (a':=?_) spec_l03List.m1 rfl rfl (any_of HT_.out (by kernel_rfl)) (fun _ _ _ h=>h) (Or.inl ⟨by rfl,?_⟩) ?_ ?_
   rotate_left
   ·intro w'
    go_simp
    with_reducible rfl
   rotate_left
   ·simp only [Act.put,sA,sO,sS,i64_w,i32_w]
    rfl
   refine pure_ (i:=1) (N:=some 34) (v:=?_) (a':=?_) spec_l03List.m2 rfl rfl (any_of HT_.out (by kernel_rfl)) (fun _ _ _ h=>h) (Or.inl ⟨by rfl,?_⟩) ?_ ?_
   rotate_left
   ·intro w'
    go_simp
    with_reducible rfl
   rotate_left
   ·simp only [Act.put,sA,sO,sS,i64_w,i32_w]
    rfl
   refine pure_ (i:=2) (N:=some 35) (v:=?_) (a':=?_) spec_l03List.m3 rfl rfl (any_of HT_.out (by kernel_rfl)) (fun _ _ _ h=>h) (Or.inl ⟨by rfl,?_⟩) ?_ ?_
   rotate_left
   ·intro w'
    go_simp
    with_reducible rfl
   rotate_left
   ·simp only [Act.put,sA,sO,sS,i64_w,i32_w]
    rfl
   refine pure_ (i:=3) (N:=some 36) (v:=?_) (a':=?_) spec_l03List.m4 rfl rfl (any_of HT_.out (by kernel_rfl)) (fun _ _ _ h=>h) (Or.inl ⟨by rfl,?_⟩) ?_ ?_
   rotate_left
   ·intro w'
    go_simp
    with_reducible rfl
   rotate_left
   ·simp only [Act.put,sA,sO,sS,i64_w,i32_w]
    rfl
   refine pure_ (i:=7) (N:=some 40) (v:=?_) (a':=?_) spec_l03List.m5 rfl rfl (any_of HT_.out (by kernel_rfl)) (fun _ _ _ h=>h) (Or.inl ⟨by rfl,?_⟩) ?_ ?_
   rotate_left
   ·intro w'
    go_simp
    with_reducible rfl
   rotate_left
   ·simp only [Act.put,sA,sO,sS,i64_w,i32_w]
    rfl
   refine pure_ (i:=8) (N:=some 41) (v:=?_) (a':=?_) spec_l03List.m6 rfl rfl (any_of HT_.out (by kernel_rfl)) (fun _ _ _ h=>h) (Or.inl ⟨by rfl,?_⟩) ?_ ?_
   rotate_left
   ·intro w'
    go_simp
    with_reducible rfl
   rotate_left
   ·simp only [Act.put,sA,sO,sS,i64_w,i32_w]
    rfl
   refine pure_ (i:=9) (N:=some 42) (v:=?_) (a':=?_) spec_l03List.m7 rfl rfl (any_of HT_.out (by kernel_rfl)) (fun _ _ _ h=>h) (Or.inl ⟨by rfl,?_⟩) ?_ ?_
   rotate_left
   ·intro w'
    go_simp
    with_reducible rfl
   rotate_left
   ·simp only [Act.put,sA,sO,sS,i64_w,i32_w]
    rfl
   refine pure_ (i:=10) (N:=some 43) (v:=?_) (a':=?_) spec_l03List.m8 rfl rfl (any_of HT_.out (by kernel_rfl)) (fun _ _ _ h=>h) (Or.inl ⟨by rfl,?_⟩) ?_ ?_
   rotate_left
   ·intro w'
    go_simp
    with_reducible rfl
   rotate_left
   ·simp only [Act.put,sA,sO,sS,i64_w,i32_w]
    rfl
   refine take_ (i:=4) (N:=some 37) (v:=?_) (a':=?_) spec_l03List.m9 rfl rfl (take_ofW HT_.out HW_.out (by kernel_rfl)) (fun _ _ _ h=>h) (Or.inl ⟨by rfl,?_⟩) hHeld ?_ ?_
   rotate_left
   ·rintro w' ⟨s0,s1,s2,s3,s4,s5,s6,s7,s8⟩
    go_simp
    with_reducible rfl
   rotate_left
   ·simp only [Act.put,sA,sO,sS,i64_w,i32_w]
    rfl
   refine take_ (i:=11) (N:=some 44) (v:=?_) (a':=?_) spec_l03List.m10 rfl rfl (take_ofW HT_.out HW_.out (by kernel_rfl)) (fun _ _ _ h=>h) (Or.inl ⟨by rfl,?_⟩) hHeld ?_ ?_
   rotate_left
   ·rintro w' ⟨s0,s1,s2,s3,s4,s5,s6,s7,s8⟩
    go_simp
    with_reducible rfl
   rotate_left
   ·simp only [Act.put,sA,sO,sS,i64_w,i32_w]
    rfl
   refine one_ (i:=5) (N:=some 38) spec_l03List.m11 rfl rfl (one_of HT_.out (by kernel_rfl)) (by decide) (fun K hK=>?_)
   refine goes_ Try.func27 (by kernel_rfl) rfl #[.int .i64 a0_2] (by rfl) rfl rfl (by (try simp only [mA,mC,mN]);first|done|rfl|(simp only [List.length_drop,List.length_take];rfl)) ?_
   with_reducible refine (spec_l02Pow.calls k1 a0_2 t418 _ A16.out).mono ?_
   rintro e w' ⟨rfl,⟨nd,rfl⟩⟩
   refine⟨_,rfl,?_⟩
   refine hK.out _ _ ⟨(blk_cell BK407.out 0).trans rfl,(blk_cell BK407.out 1).trans rfl,(blk_cell BK407.out 2).trans rfl,(blk_cell BK407.out 3).trans rfl,(blk_cell BK407.out 4).trans rfl,(blk_cell BK407.out 5).trans rfl,(blk_cell BK407.out 6).trans rfl,(blk_cell BK407.out 7).trans rfl,hHeld.2.2.2.2.2.2.2.2⟩ (fun hHeld=>?_)
   clear hK K
   refine norm_ (a':=?_) ?_ ?_
   rotate_left
   ·show Act.put _ (some 38) _ = _
    simp only [Act.put,sA,sO,sS,i64_w,i32_w]
    rfl
   refine pure_ (i:=6) (N:=some 39) (v:=?_) (a':=?_) spec_l03List.m12 rfl rfl (any_of HT_.out (by kernel_rfl)) (fun _ _ _ h=>h) (Or.inl ⟨by rfl,?_⟩) ?_ ?_
   rotate_left
   ·intro w'
    go_simp
    with_reducible rfl
   rotate_left
   ·simp only [Act.put,sA,sO,sS,i64_w,i32_w]
    rfl
   refine pure_ (i:=12) (N:=some 45) (v:=?_) (a':=?_) spec_l03List.m13 rfl rfl (any_of HT_.out (by kernel_rfl)) (fun _ _ _ h=>h) (Or.inl ⟨by rfl,?_⟩) ?_ ?_
   rotate_left
   ·intro w'
    go_simp
    with_reducible rfl
   rotate_left
   ·simp only [Act.put,sA,sO,sS,i64_w,i32_w]
    rfl
   refine last_ (i:=13) (N:=some 46) spec_l03List.m14 rfl rfl (one_of HT_.out (by kernel_rfl)) (by decide) (fun K hK=>?_)
   refine value_ (w1:=?_) (v:=?_) (by rfl) rfl ?_ ?_
   rotate_left 2
   ·go_simp
    constructor
    ·rfl
    ·rfl
   refine hK.out _ _ ?_
   clear hK K
   refine norm_ (a':=?_) ?_ ?_
   rotate_left
   ·show Act.put _ (some 46) _ = _
    simp only [Act.put,sA,sO,sS,i64_w,i32_w]
    rfl
   refine last_ (i:=14) (N:=some 47) spec_l03List.m15 rfl rfl (one_of HT_.out (by kernel_rfl)) (by decide) (fun K hK=>?_)
   refine Kd.R_append_step (Kd.int .i64) (w0:=w) w.heap.size (by rfl) (.tmp 33) (.tmp 46) 24 3 (.int .i64 0) 8 rfl Try.underlying24 info3 rfl (by decide) (by omega) (.slice Ao20 x3_1.length co20) x3_1 (wrap64 ((wrap64 (x6_1 * t418)) + (rd t411 (x3_1.length:Int)))) [.int .i64 (wrap64 ((wrap64 (x6_1 * t418)) + (rd t411 (x3_1.length:Int))))] (fun k_=>some k_ ≠ (.slice (some ad419) t411.length co21:Value).ownBlock ∧ some k_ ≠ (.slice (some ad417) t414.length co19:Value).ownBlock) (fun _=>False) rfl rfl ?aP (fun _ hk=>hk.elim) ?aF ?aO ?aB ?aS ?aL ?_
   (case aP=>exact rfl)
   (case aB=>exact (kB HB.out))
   (case aF=>exact (fun k_ hk=>⟨Kd.fresh' (Kd.R_lt (rR HO_11.out)) k_ hk,Kd.fresh' (Kd.R_lt (rR HO_14.out)) k_ hk⟩))
   (case aO=>exact (rR HO_3.out))
   (case aS=>exact (kZ HB.out))
   (case aL=>have:=LMc18.out;omega)
   intro v421 w23 ho hb hg hat
   rw [← Ny420.out] at ho
   replace HO_11:=mk0 (Kd.R_after (ok:=(fun k_=>some k_ ≠ (.slice (some ad417) t414.length co19:Value).ownBlock)) (rR (Kd.R_mono HO_11.out (fun _ hk=>⟨hk.2,hk.1⟩))) hg hat)
   replace HO_14:=mk0 (Kd.R_after (ok:=(fun k_=>some k_ ≠ (.slice (some ad419) t411.length co21:Value).ownBlock)) (rR (Kd.R_mono HO_14.out (fun _ hk=>⟨hk.2,hk.1⟩))) hg hat)
   replace BK407:=mk0 (blk_grown (kN BK407.out) hg (Kd.R_ne HO_3.out BK407.out (by decide)))
   replace HB:=mk0 (hb)
   have HO422:=mk0 (ho)
   clear HO_3
   clear ho hb hg hat
   refine hK.out _ _ ?_
   clear hK K
   refine norm_ (a':=?_) ?_ ?_
   rotate_left
   ·show Act.put _ (some 47) _ = _
    simp only [Act.put,sA,sO,sS,i64_w,i32_w]
    rfl
   refine pure_ (i:=15) (N:=some 3) (v:=?_) (a':=?_) spec_l03List.m16 rfl rfl (any_of HT_.out (by kernel_rfl)) (fun _ _ _ h=>h) (Or.inl ⟨by rfl,?_⟩) ?_ ?_
   rotate_left
   ·intro w'
    go_simp
    with_reducible rfl
   rotate_left
   ·simp only [Act.put,sA,sO,sS,i64_w,i32_w]
    rfl
   refine done_ (done_of HT_.out (by kernel_rfl)) ?_
   try go_wp2
   go_roundg k1
   case measure=>have:=HK1.out;omega
   case rel=>exact⟨(y420),(x6_1),(wrap64 (x7_1 + 1)),(by first|rfl|(simp;done)|(simp [*];done)),(by first|rfl|(simp;done)|(simp [*];done)),H',⟨by have:=HK1.out;omega⟩,⟨rR HO422.out⟩,⟨rR (Kd.R_mono HO_11.out (fun _ hk=>⟨hk.2,hk.1⟩))⟩,⟨rR (Kd.R_mono HO_14.out (fun _ hk=>⟨hk.2,hk.1⟩))⟩,⟨kN BK407.out⟩,⟨kB HB.out⟩⟩
/-! ### spec_l03Same: function 71 -/
mutual
def spec_l03Same.j0 : Nat → Bool → Int → List Int → Int → List Int → Option (Bool)
 | 0, _, _, _, _, _ => none
 | k + 1, x19, x424000, x424001, x425000, x425001 => if x19 = true then (some false) else (spec_l03Same.l0 k 0 x424000 x424001 x425000 x425001)
def spec_l03Same.l0 : Nat → Int → Int → List Int → Int → List Int → Option (Bool)
 | 0, _, _, _, _, _ => none
 | k + 1, x5, x424000, x424001, x425000, x425001 => if x5 < (x424001.length : Int) then (if 0 ≤ x5 then (if x5 < (x425001.length : Int) then (if (rd x424001 x5) = (rd x425001 x5) then (spec_l03Same.l0 k (wrap64 (x5 + 1)) x424000 x424001 x425000 x425001) else (some false)) else (none)) else (none)) else (some true)
end
def spec_l03Same.f (k : Nat) (a0_0 : Int) (l0_1 : List Int) (a1_0 : Int) (l1_1 : List Int) : Option (Bool) := if a0_0 = a1_0 then (spec_l03Same.j0 k ((l0_1.length : Int) != (l1_1.length : Int)) a0_0 l0_1 a1_0 l1_1) else (spec_l03Same.j0 k true a0_0 l0_1 a1_0 l1_1)
theorem spec_l03Same.mono_l : ∀ k, (∀ y0 y1 y2 y3 y4, LeO (spec_l03Same.j0 k y0 y1 y2 y3 y4) (spec_l03Same.j0 (k + 1) y0 y1 y2 y3 y4)) ∧ (∀ y0 y1 y2 y3 y4, LeO (spec_l03Same.l0 k y0 y1 y2 y3 y4) (spec_l03Same.l0 (k + 1) y0 y1 y2 y3 y4))
 | 0 => ⟨fun _ _ _ _ _ r h => by simp [spec_l03Same.j0] at h, fun _ _ _ _ _ r h => by simp [spec_l03Same.l0] at h⟩
 | k + 1 => by
  obtain ⟨ih0, ih1⟩ := spec_l03Same.mono_l k
  refine ⟨?_, ?_⟩
  ·intro y0 y1 y2 y3 y4
   unfold spec_l03Same.j0
   repeat' first|(with_reducible first|exact ih0 _ _ _ _ _|exact ih1 _ _ _ _ _|exact LeO.refl _|exact LeO.none _|refine LeO.ite ?_ ?_|refine LeO.bind ?_ (fun _ => ?_))|exact LeO.none _|refine LeO.ite ?_ ?_|refine LeO.bind ?_ (fun _ => ?_)
  ·intro y0 y1 y2 y3 y4
   unfold spec_l03Same.l0
   repeat' first|(with_reducible first|exact ih0 _ _ _ _ _|exact ih1 _ _ _ _ _|exact LeO.refl _|exact LeO.none _|refine LeO.ite ?_ ?_|refine LeO.bind ?_ (fun _ => ?_))|exact LeO.none _|refine LeO.ite ?_ ?_|refine LeO.bind ?_ (fun _ => ?_)
theorem spec_l03Same.mono : ∀ a0 a1 a2 a3 k, LeO (spec_l03Same.f k a0 a1 a2 a3) (spec_l03Same.f (k + 1) a0 a1 a2 a3) := by
 intro a0 a1 a2 a3 k
 obtain ⟨ih0, ih1⟩ := spec_l03Same.mono_l k
 unfold spec_l03Same.f
 repeat' first|(with_reducible first|exact ih0 _ _ _ _ _|exact ih1 _ _ _ _ _|exact LeO.refl _|exact LeO.none _|refine LeO.ite ?_ ?_|refine LeO.bind ?_ (fun _ => ?_))|exact LeO.none _|refine LeO.ite ?_ ?_|refine LeO.bind ?_ (fun _ => ?_)
set_option maxHeartbeats 8000000 in
set_option maxRecDepth 100000 in
theorem spec_l03Same.calls (k : Nat) (a0_0 : Int) (A0_1 : Option Addr) (c0_1 : Nat) (l0_1 : List Int) (a1_0 : Int) (A1_1 : Option Addr) (c1_1 : Nat) (l1_1 : List Int) (r : Bool) (w : World) (hr0_1 : Kd.C (Kd.int .u64) w A0_1 l0_1.length l0_1) (hc0_1 : l0_1.length ≤ c0_1) (hr1_1 : Kd.C (Kd.int .u64) w A1_1 l1_1.length l1_1) (hc1_1 : l1_1.length ≤ c1_1) (h : spec_l03Same.f k a0_0 l0_1 a1_0 l1_1 = some r) :
  Calls Try.prog 71 #[.agg #[.int .i64 a0_0, .slice A0_1 l0_1.length c0_1], .agg #[.int .i64 a1_0, .slice A1_1 l1_1.length c1_1]] w fun e w' => e = .returned (.bool r) ∧ Below w.heap.size w w' := by
 have hu29:=Try.underlying29
 have HR0_1:=mk0 hr0_1
 have HC0_1:=mk0 hc0_1
 clear hr0_1 hc0_1
 have HR1_1:=mk0 hr1_1
 have HC1_1:=mk0 hc1_1
 clear hr1_1 hc1_1
 have HB:=mk0 (Below.refl w.heap.size w)
 have H:(if a0_0 = a1_0 then (spec_l03Same.j0 k ((l0_1.length:Int) != (l1_1.length:Int)) a0_0 l0_1 a1_0 l1_1) else (spec_l03Same.j0 k true a0_0 l0_1 a1_0 l1_1)) = some r:=h
 clear h
 have HC3:=mk0 H
 clear H
 go_enter Try.func71,Try.ntmps71
 go_upto_region 1 with (first|((with_reducible refine gate_dst (N:=2) rfl ?_);(try (refine gate_guard (by rfl) ?_;dsimp only));refine box_event ?hg (N:=2) ?hd (cs:=#[.int .i64 a0_0,.slice A0_1 l0_1.length c0_1]) (t:=29) ?hr ?_;(case hd=>rfl);(case hg=>rfl);(case hr=>first|(go_simp;done)|(go_simp;rfl));intro gb423 hg w4 hbox hb;have BK423:=mk0 (hbox);have GW423:=mk0 ((by rw [hg];exact (kZ HB.out):w.heap.size ≤ gb423));have GE423:=mk0 ((by rw [hg];exact (kZ HB.out):w.heap.size ≤ gb423));replace HB:=mk0 (kS HB.out hb);clear hb hbox hg)|((with_reducible refine gate_dst (N:=3) rfl ?_);(try (refine gate_guard (by rfl) ?_;dsimp only));refine box_event ?hg (N:=3) ?hd (cs:=#[.int .i64 a1_0,.slice A1_1 l1_1.length c1_1]) (t:=29) ?hr ?_;(case hd=>rfl);(case hg=>rfl);(case hr=>first|(go_simp;done)|(go_simp;rfl));intro gb424 hg w5 hbox hb;have BK424:=mk0 (hbox);have GW424:=mk0 ((by rw [hg];exact (kZ HB.out):w.heap.size ≤ gb424));have GE424:=mk0 ((by rw [hg];exact (kZ HB.out):w.heap.size ≤ gb424));replace HB:=mk0 (kS HB.out hb);have NB423_424:=mk0 ((by rw [hg];exact Nat.ne_of_lt (kL BK423.out):gb423 ≠ gb424));have NB424_423:=mk0 ((by rw [hg];exact Nat.ne_of_gt (kL BK423.out):gb424 ≠ gb423));replace BK423:=mk0 (kK BK423.out hb);clear hb hbox hg))
 repeat (go_quiet (first|((with_reducible refine gate_dst (N:=2) rfl ?_);(try (refine gate_guard (by rfl) ?_;dsimp only));refine box_event ?hg (N:=2) ?hd (cs:=#[.int .i64 a0_0,.slice A0_1 l0_1.length c0_1]) (t:=29) ?hr ?_;(case hd=>rfl);(case hg=>rfl);(case hr=>first|(go_simp;done)|(go_simp;rfl));intro gb423 hg w4 hbox hb;have BK423:=mk0 (hbox);have GW423:=mk0 ((by rw [hg];exact (kZ HB.out):w.heap.size ≤ gb423));have GE423:=mk0 ((by rw [hg];exact (kZ HB.out):w.heap.size ≤ gb423));replace HB:=mk0 (kS HB.out hb);clear hb hbox hg)|((with_reducible refine gate_dst (N:=3) rfl ?_);(try (refine gate_guard (by rfl) ?_;dsimp only));refine box_event ?hg (N:=3) ?hd (cs:=#[.int .i64 a1_0,.slice A1_1 l1_1.length c1_1]) (t:=29) ?hr ?_;(case hd=>rfl);(case hg=>rfl);(case hr=>first|(go_simp;done)|(go_simp;rfl));intro gb424 hg w5 hbox hb;have BK424:=mk0 (hbox);have GW424:=mk0 ((by rw [hg];exact (kZ HB.out):w.heap.size ≤ gb424));have GE424:=mk0 ((by rw [hg];exact (kZ HB.out):w.heap.size ≤ gb424));replace HB:=mk0 (kS HB.out hb);have NB423_424:=mk0 ((by rw [hg];exact Nat.ne_of_lt (kL BK423.out):gb423 ≠ gb424));have NB424_423:=mk0 ((by rw [hg];exact Nat.ne_of_gt (kL BK423.out):gb424 ≠ gb423));replace BK423:=mk0 (kK BK423.out hb);clear hb hbox hg));go_upto_region 1 with (first|((with_reducible refine gate_dst (N:=2) rfl ?_);(try (refine gate_guard (by rfl) ?_;dsimp only));refine box_event ?hg (N:=2) ?hd (cs:=#[.int .i64 a0_0,.slice A0_1 l0_1.length c0_1]) (t:=29) ?hr ?_;(case hd=>rfl);(case hg=>rfl);(case hr=>first|(go_simp;done)|(go_simp;rfl));intro gb423 hg w4 hbox hb;have BK423:=mk0 (hbox);have GW423:=mk0 ((by rw [hg];exact (kZ HB.out):w.heap.size ≤ gb423));have GE423:=mk0 ((by rw [hg];exact (kZ HB.out):w.heap.size ≤ gb423));replace HB:=mk0 (kS HB.out hb);clear hb hbox hg)|((with_reducible refine gate_dst (N:=3) rfl ?_);(try (refine gate_guard (by rfl) ?_;dsimp only));refine box_event ?hg (N:=3) ?hd (cs:=#[.int .i64 a1_0,.slice A1_1 l1_1.length c1_1]) (t:=29) ?hr ?_;(case hd=>rfl);(case hg=>rfl);(case hr=>first|(go_simp;done)|(go_simp;rfl));intro gb424 hg w5 hbox hb;have BK424:=mk0 (hbox);have GW424:=mk0 ((by rw [hg];exact (kZ HB.out):w.heap.size ≤ gb424));have GE424:=mk0 ((by rw [hg];exact (kZ HB.out):w.heap.size ≤ gb424));replace HB:=mk0 (kS HB.out hb);have NB423_424:=mk0 ((by rw [hg];exact Nat.ne_of_lt (kL BK423.out):gb423 ≠ gb424));have NB424_423:=mk0 ((by rw [hg];exact Nat.ne_of_gt (kL BK423.out):gb424 ≠ gb423));replace BK423:=mk0 (kK BK423.out hb);clear hb hbox hg)))
 (try simp only [Act.put,sA,sO,sS])
 go_cut [19] (fun v19 wc=>∃ (kq:Nat) (x19_2:Bool),v19 = .bool x19_2 ∧ Aside0 (spec_l03Same.j0 kq x19_2 a0_0 l0_1 a1_0 l1_1 = some r) ∧ Aside0 (kq ≤ k) ∧ Aside0 (wc.heap[gb423]? = some (.cells #[.int .i64 a0_0,(.slice A0_1 l0_1.length c0_1)] 29 (0,0))) ∧ Aside0 (wc.heap[gb424]? = some (.cells #[.int .i64 a1_0,(.slice A1_1 l1_1.length c1_1)] 29 (0,0))) ∧ Aside0 (Below w.heap.size w wc))
 case first =>
  have H:=HC3.out
  clear HC3
  by_cases c6:a0_0 = a1_0
  rotate_left
  ·rw [if_neg c6] at H
   have c6b0:(a0_0 == a1_0) = false:=beq_eq_false_iff_ne.mpr c6
   have c6b1:(a0_0 != a1_0) = true:=bne_iff_ne.mpr c6
   (first|rw [c6b0]|(simp only [i64_w,i32_w];rw [c6b0])|skip)
   have H':=mk0 H
   clear H
   have hnb10:=NB423_424.out
   have hnc10:=NB424_423.out
   obtain⟨hcz11_0,hcz11_1,hfz11_0,hfz11_1⟩:=cz2 BK423.out
   obtain⟨hcz12_0,hcz12_1,hfz12_0,hfz12_1⟩:=cz2 BK424.out
   go_wp2
   repeat (go_quiet (fail);try go_wp2)
   go_meet
   case rel=>exact⟨_,(true),(by first|rfl|(simp;done)|(simp [*];done)),H',⟨by first|omega|exact Nat.le_refl _⟩,⟨kN BK423.out⟩,⟨kN BK424.out⟩,⟨kB HB.out⟩⟩
  rw [if_pos c6] at H
  have c6b0:(a0_0 == a1_0) = true:=beq_iff_eq.mpr c6
  have c6b1:(a0_0 != a1_0) = false:=bne_eq_false_iff_eq.mpr c6
  clear c6
  (first|rw [c6b0]|(simp only [i64_w,i32_w];rw [c6b0])|skip)
  have H':=mk0 H
  clear H
  have hnb7:=NB423_424.out
  have hnc7:=NB424_423.out
  obtain⟨hcz8_0,hcz8_1,hfz8_0,hfz8_1⟩:=cz2 BK423.out
  obtain⟨hcz9_0,hcz9_1,hfz9_0,hfz9_1⟩:=cz2 BK424.out
  go_wp2
  repeat (go_quiet (fail);try go_wp2)
  go_meet
  case rel=>exact⟨_,(((l0_1.length:Int) != (l1_1.length:Int))),(by first|rfl|(simp;done)|(simp [*];done)),H',⟨by first|omega|exact Nat.le_refl _⟩,⟨kN BK423.out⟩,⟨kN BK424.out⟩,⟨kB HB.out⟩⟩
 case rest =>
  clear HC3
  try clear c1
  try clear p2
  try clear c6
  try clear c6b0
  try clear c6b1
  try clear c7
  try clear c10
  try clear hcz11_0
  try clear hcz11_1
  try clear hcz12_0
  try clear hcz12_1
  try clear hcz8_0
  try clear hcz8_1
  try clear hcz9_0
  try clear hcz9_1
  try clear hfz11_0
  try clear hfz11_1
  try clear hfz12_0
  try clear hfz12_1
  try clear hfz8_0
  try clear hfz8_1
  try clear hfz9_0
  try clear hfz9_1
  obtain⟨kq,x19_2,rfl,HA,HJ2,BK423,BK424,HB⟩:=hcut
  cases kq with
  | zero=>exact absurd HA.out (by simp [spec_l03Same.j0])
  | succ kj2 =>
   have H:=HA.out
   clear HA
   simp only [spec_l03Same.j0] at H
   by_cases c13:x19_2 = true
   ·subst c13
    have H1:(some false) = some r:=by rw [if_pos rfl] at H;exact H
    clear H
    have H:=H1
    clear H1
    obtain rfl:=Option.some.inj H
    go_wp2
    repeat (go_quiet (fail);try go_wp2)
    go_ret
    exact⟨by first|rfl|(simp [errW_none,errW_some] <;> rfl)|(simp [*,errW_none,errW_some] <;> rfl),kB HB.out⟩
   replace c13:=Bool.eq_false_iff.mpr c13
   subst c13
   have H1:(spec_l03Same.l0 kj2 0 a0_0 l0_1 a1_0 l1_1) = some r:=by rw [if_neg (show ¬ (false = true) by decide)] at H;exact H
   clear H
   have H:=H1
   clear H1
   have H':=mk0 H
   clear H
   go_wp2
   repeat (go_quiet (fail);try go_wp2)
   go_loopg [5] kj2 (fun kq v5 w'=>∃ (x5_2:Int),v5 = .int .i64 x5_2 ∧ Aside0 (spec_l03Same.l0 kq x5_2 a0_0 l0_1 a1_0 l1_1 = some r) ∧ Aside0 (kq ≤ kj2) ∧ Aside0 (w'.heap[gb423]? = some (.cells #[.int .i64 a0_0,(.slice A0_1 l0_1.length c0_1)] 29 (0,0))) ∧ Aside0 (w'.heap[gb424]? = some (.cells #[.int .i64 a1_0,(.slice A1_1 l1_1.length c1_1)] 29 (0,0))) ∧ Aside0 (Below w.heap.size w w'))
   case atStart=>exact⟨(0),(by first|rfl|(simp;done)|(simp [*];done)),H',⟨Nat.le_refl _⟩,⟨kN BK423.out⟩,⟨kN BK424.out⟩,⟨kB HB.out⟩⟩
   case round =>
    clear H'
    try clear c1
    try clear p2
    try clear c6
    try clear c6b0
    try clear c6b1
    try clear c7
    try clear c10
    try clear c13
    try clear hcz11_0
    try clear hcz11_1
    try clear hcz12_0
    try clear hcz12_1
    try clear hcz8_0
    try clear hcz8_1
    try clear hcz9_0
    try clear hcz9_1
    try clear hfz11_0
    try clear hfz11_1
    try clear hfz12_0
    try clear hfz12_1
    try clear hfz8_0
    try clear hfz8_1
    try clear hfz9_0
    try clear hfz9_1
    try clear p2
    obtain⟨x5_2,rfl,HA,HK2,BK423,BK424,HB⟩:=hrel
    cases gk with
    | zero=>exact absurd HA.out (by simp [spec_l03Same.l0])
    | succ k2 =>
     have H:=HA.out
     clear HA
     simp only [spec_l03Same.l0] at H
     by_cases c14:x5_2 < (l0_1.length:Int)
     rotate_left
     ·rw [if_neg c14] at H
      have c14b0:decide (x5_2 < (l0_1.length:Int)) = false:=decide_eq_false c14
      clear c14
      obtain rfl:=Option.some.inj H
      have hnb24:=NB423_424.out
      have hnc24:=NB424_423.out
      obtain⟨hcz25_0,hcz25_1,hfz25_0,hfz25_1⟩:=cz2 BK423.out
      go_wp2
      repeat (go_quiet (fail);try go_wp2)
      go_ret
      exact⟨by first|rfl|(simp [errW_none,errW_some] <;> rfl)|(simp [*,errW_none,errW_some] <;> rfl),kB HB.out⟩

     rw [if_pos c14] at H
     have c14b0:decide (x5_2 < (l0_1.length:Int)) = true:=decide_eq_true c14
     clear c14
     by_cases c15:0 ≤ x5_2
     rotate_left
     ·rw [if_neg c15] at H
      exact absurd H (by simp)
     rw [if_pos c15] at H
     have c15b0:decide (0 ≤ x5_2) = true:=decide_eq_true c15
     clear c15
     by_cases c16:x5_2 < (l1_1.length:Int)
     rotate_left
     ·rw [if_neg c16] at H
      exact absurd H (by simp)
     rw [if_pos c16] at H
     have c16b0:decide (x5_2 < (l1_1.length:Int)) = true:=decide_eq_true c16
     clear c16
     by_cases c17:(rd l0_1 x5_2) = (rd l1_1 x5_2)
     rotate_left
     ·rw [if_neg c17] at H
      have c17b0:((rd l0_1 x5_2) == (rd l1_1 x5_2)) = false:=beq_eq_false_iff_ne.mpr c17
      have c17b1:((rd l0_1 x5_2) != (rd l1_1 x5_2)) = true:=bne_iff_ne.mpr c17
      obtain rfl:=Option.some.inj H
      have hnb21:=NB423_424.out
      have hnc21:=NB424_423.out
      obtain⟨hcz22_0,hcz22_1,hfz22_0,hfz22_1⟩:=cz2 BK423.out
      have p425:0 ≤ (x5_2:Int):=of_decide_eq_true (by first|(with_reducible assumption)|assumption)
      have q425:x5_2 < (l0_1.length:Int):=of_decide_eq_true (by first|(with_reducible assumption)|assumption)
      obtain⟨ad425,e425,hx425_0⟩:=Kd.at_int HR0_1.out x5_2 p425 q425
      cases e425
      replace hx425_0:=(HB.out.cell (World.block_lt_of_cell? w _ hx425_0)).trans hx425_0
      replace p425:=eq_true p425
      replace q425:=eq_true q425
      obtain⟨hcz23_0,hcz23_1,hfz23_0,hfz23_1⟩:=cz2 BK424.out
      have p426:0 ≤ (x5_2:Int):=of_decide_eq_true (by first|(with_reducible assumption)|assumption)
      have q426:x5_2 < (l1_1.length:Int):=of_decide_eq_true (by first|(with_reducible assumption)|assumption)
      obtain⟨ad426,e426,hx426_0⟩:=Kd.at_int HR1_1.out x5_2 p426 q426
      cases e426
      replace hx426_0:=(HB.out.cell (World.block_lt_of_cell? w _ hx426_0)).trans hx426_0
      replace p426:=eq_true p426
      replace q426:=eq_true q426
      go_wp2
      repeat (go_quiet (fail);try go_wp2)
      go_ret
      exact⟨by first|rfl|(simp [errW_none,errW_some] <;> rfl)|(simp [*,errW_none,errW_some] <;> rfl),kB HB.out⟩
     rw [if_pos c17] at H
     have c17b0:((rd l0_1 x5_2) == (rd l1_1 x5_2)) = true:=beq_iff_eq.mpr c17
     have c17b1:((rd l0_1 x5_2) != (rd l1_1 x5_2)) = false:=bne_eq_false_iff_eq.mpr c17
     clear c17
     have H':=mk0 H
     clear H
     have hnb18:=NB423_424.out
     have hnc18:=NB424_423.out
     obtain⟨hcz19_0,hcz19_1,hfz19_0,hfz19_1⟩:=cz2 BK423.out
     have p425:0 ≤ (x5_2:Int):=of_decide_eq_true (by first|(with_reducible assumption)|assumption)
     have q425:x5_2 < (l0_1.length:Int):=of_decide_eq_true (by first|(with_reducible assumption)|assumption)
     obtain⟨ad425,e425,hx425_0⟩:=Kd.at_int HR0_1.out x5_2 p425 q425
     cases e425
     replace hx425_0:=(HB.out.cell (World.block_lt_of_cell? w _ hx425_0)).trans hx425_0
     replace p425:=eq_true p425
     replace q425:=eq_true q425
     obtain⟨hcz20_0,hcz20_1,hfz20_0,hfz20_1⟩:=cz2 BK424.out
     have p426:0 ≤ (x5_2:Int):=of_decide_eq_true (by first|(with_reducible assumption)|assumption)
     have q426:x5_2 < (l1_1.length:Int):=of_decide_eq_true (by first|(with_reducible assumption)|assumption)
     obtain⟨ad426,e426,hx426_0⟩:=Kd.at_int HR1_1.out x5_2 p426 q426
     cases e426
     replace hx426_0:=(HB.out.cell (World.block_lt_of_cell? w _ hx426_0)).trans hx426_0
     replace p426:=eq_true p426
     replace q426:=eq_true q426
     go_wp2
     repeat (go_quiet (fail);try go_wp2)
     go_roundg k2
     case measure=>have:=HJ2.out;have:=HK2.out;omega
     case rel=>exact⟨(wrap64 (x5_2 + 1)),(by first|rfl|(simp;done)|(simp [*];done)),H',⟨by have:=HJ2.out;have:=HK2.out;omega⟩,⟨kN BK423.out⟩,⟨kN BK424.out⟩,⟨kB HB.out⟩⟩
end Go.Proofs.Ytmohfjfgpeapfaa.QFnExactSparseRank
