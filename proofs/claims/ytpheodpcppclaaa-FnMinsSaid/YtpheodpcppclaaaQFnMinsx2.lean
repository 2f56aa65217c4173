-- A walk, made by walk.py, a program of this session's.
import Derived.Test.YtpheodpcppclaaaQFnMinsx0
import Derived.Test.YtpheodpcppclaaaQFnMinsx1
namespace Go.Proofs.Ytpheodpcppclaaa.QFnMins
open Go.RowKit Go.Proofs.YtpheodpcppclaaaW.PrintWords Go.Proofs.YtpheodpcppclaaaW.PrintLast Go.Proofs.YtpheodpcppclaaaW.PrintMore
attribute [local go_sem] max2_int min2_int max_two min_two max_three min_three max_four min_four   -- for this text's walks alone
set_option linter.unusedVariables false
set_option linter.unusedSimpArgs false

/-! ### impl_minsOf: function 39 -/
def impl_minsOf.l0 : Nat → Int → Int → List Int → Option (Int × List Int)
 | 0, _, _, _ => none
 | k + 1, x5, x129000, x129001 => if x5 > 0 then (if 0 ≤ (wrap64 (2 * x5)) then (if (wrap64 (2 * x5)) < (x129001.length : Int) then (if 0 ≤ (wrap64 ((wrap64 (2 * x5)) + 1)) then (if (wrap64 ((wrap64 (2 * x5)) + 1)) < (x129001.length : Int) then (if 0 ≤ x5 then (if x5 < (x129001.length : Int) then (impl_minsOf.l0 k (wrap64 (x5 - 1)) x129000 (x129001.set (x5 : Int).toNat (mn (rd x129001 (wrap64 (2 * x5))) (rd x129001 (wrap64 ((wrap64 (2 * x5)) + 1)))))) else (none)) else (none)) else (none)) else (none)) else (none)) else (none)) else (if 0 < (x129001.length : Int) then (some (x129000, (x129001.set (0 : Int).toNat 0))) else (none))
def impl_minsOf.f (k : Nat) (l0 : List Int) : Option (Int × List Int) := (impl_leaves.f k (l0.length : Int)).bind fun t121 => ((slices_Repeat_int_int.f k (([1000000000] : List Int)) (wrap64 (2 * t121))).bind fun t125 => (if 0 ≤ t121 then (if t121 ≤ (t125.length : Int) then (impl_minsOf.l0 k (wrap64 (t121 - 1)) (l0.length : Int) (kopy t125 (t121 : Int).toNat l0)) else (none)) else (none)))
theorem impl_minsOf.mono_l : ∀ k, (∀ y0 y1 y2, LeO (impl_minsOf.l0 k y0 y1 y2) (impl_minsOf.l0 (k + 1) y0 y1 y2))
 | 0 => fun _ _ _ r h => by simp [impl_minsOf.l0] at h
 | k + 1 => by
  have ih0 := impl_minsOf.mono_l k
  ·intro y0 y1 y2
   unfold impl_minsOf.l0
   repeat' first|(with_reducible first|exact ih0 _ _ _|exact impl_leaves.mono _ _|exact slices_Repeat_int_int.mono _ _ _|exact LeO.refl _|exact LeO.none _|refine LeO.ite ?_ ?_|refine LeO.bind ?_ (fun _ => ?_))|exact LeO.none _|refine LeO.ite ?_ ?_|refine LeO.bind ?_ (fun _ => ?_)
theorem impl_minsOf.mono : ∀ a0 k, LeO (impl_minsOf.f k a0) (impl_minsOf.f (k + 1) a0) := by
 intro a0 k
 have ih0 := impl_minsOf.mono_l k
 unfold impl_minsOf.f
 repeat' first|(with_reducible first|exact ih0 _ _ _|exact impl_leaves.mono _ _|exact slices_Repeat_int_int.mono _ _ _|exact LeO.refl _|exact LeO.none _|refine LeO.ite ?_ ?_|refine LeO.bind ?_ (fun _ => ?_))|exact LeO.none _|refine LeO.ite ?_ ?_|refine LeO.bind ?_ (fun _ => ?_)
def impl_minsOf.T7 : Bool × List (List Nat × List Nat) := (true, [([], []), ([0], [0]), ([], []), ([], []), ([3], [3]), ([], []), ([5], [5]), ([4, 6], [4, 6]), ([7], [7]), ([], []), ([9], [9]), ([], []), ([11], [11]), ([12], [12]), ([10, 13], [10, 13]), ([14], [14]), ([8, 15], [8, 15]), ([1, 2, 0, 1, 2, 3, 4, 5, 6, 7, 8, 9, 10, 11, 12, 13, 14, 15, 16], [1, 2]), ([17, 16, 0, 1, 2, 3, 4, 5, 6, 7, 8, 9, 10, 11, 12, 13, 14, 15, 16], [16, 17])])
def impl_minsOf.B7 : List Nat := [0, 1, 0, 0, 8, 0, 32, 120, 248, 0, 512, 0, 2048, 6144, 15872, 32256, 65528, 131071, 262143]
theorem impl_minsOf.tab7 : rtab .any (opsOf Try.f39 7) = impl_minsOf.T7 := by kernel_rfl
theorem impl_minsOf.bits7 : waitsOk impl_minsOf.T7.2 impl_minsOf.B7 = true := by kernel_rfl
abbrev impl_minsOf.m0 : Array Bool := #[F,F,F,F,F,F,F,F,F,F,F,F,F,F,F,F,F,F,F]
abbrev impl_minsOf.m1 : Array Bool := #[T,F,F,F,F,F,F,F,F,F,F,F,F,F,F,F,F,F,F]
abbrev impl_minsOf.m2 : Array Bool := #[T,F,T,F,F,F,F,F,F,F,F,F,F,F,F,F,F,F,F]
abbrev impl_minsOf.m3 : Array Bool := #[T,F,T,T,F,F,F,F,F,F,F,F,F,F,F,F,F,F,F]
abbrev impl_minsOf.m4 : Array Bool := #[T,F,T,T,F,T,F,F,F,F,F,F,F,F,F,F,F,F,F]
abbrev impl_minsOf.m5 : Array Bool := #[T,F,T,T,F,T,T,F,F,F,F,F,F,F,F,F,F,F,F]
abbrev impl_minsOf.m6 : Array Bool := #[T,F,T,T,F,T,T,F,F,T,F,F,F,F,F,F,F,F,F]
abbrev impl_minsOf.m7 : Array Bool := #[T,F,T,T,F,T,T,F,F,T,F,T,F,F,F,F,F,F,F]
abbrev impl_minsOf.m8 : Array Bool := #[T,F,T,T,F,T,T,F,F,T,F,T,T,F,F,F,F,F,F]
abbrev impl_minsOf.m9 : Array Bool := #[T,F,T,T,F,T,T,F,F,T,F,T,T,T,F,F,F,F,F]
abbrev impl_minsOf.m10 : Array Bool := #[T,T,T,T,F,T,T,F,F,T,F,T,T,T,F,F,F,F,F]
abbrev impl_minsOf.m11 : Array Bool := #[T,T,T,T,T,T,T,F,F,T,F,T,T,T,F,F,F,F,F]
abbrev impl_minsOf.m12 : Array Bool := #[T,T,T,T,T,T,T,T,F,T,F,T,T,T,F,F,F,F,F]
abbrev impl_minsOf.m13 : Array Bool := #[T,T,T,T,T,T,T,T,T,T,F,T,T,T,F,F,F,F,F]
abbrev impl_minsOf.m14 : Array Bool := #[T,T,T,T,T,T,T,T,T,T,T,T,T,T,F,F,F,F,F]
abbrev impl_minsOf.m15 : Array Bool := #[T,T,T,T,T,T,T,T,T,T,T,T,T,T,T,F,F,F,F]
abbrev impl_minsOf.m16 : Array Bool := #[T,T,T,T,T,T,T,T,T,T,T,T,T,T,T,T,F,F,F]
abbrev impl_minsOf.m17 : Array Bool := #[T,T,T,T,T,T,T,T,T,T,T,T,T,T,T,T,T,F,F]
abbrev impl_minsOf.m18 : Array Bool := #[T,T,T,T,T,T,T,T,T,T,T,T,T,T,T,T,T,T,F]
abbrev impl_minsOf.m19 : Array Bool := #[T,T,T,T,T,T,T,T,T,T,T,T,T,T,T,T,T,T,T]
set_option maxHeartbeats 8000000 in
set_option maxRecDepth 100000 in
theorem impl_minsOf.calls (k : Nat) (A0 : Option Addr) (c0 : Nat) (l0 : List Int) (r1 : Int) (r2 : List Int) (w : World) (hr0 : Kd.C (Kd.int .i64) w A0 l0.length l0) (hc0 : l0.length ≤ c0) (h : impl_minsOf.f k l0 = some (r1, r2)) :
  Calls Try.prog 39 #[.slice A0 l0.length c0] w fun e w' => ∃ v1_ : Value, e = .returned (.agg #[.int .i64 r1, v1_]) ∧ Kd.R (Kd.int .i64) 3 w' w.heap.size (fun _ => True) v1_ r2 ∧ Below w.heap.size w w' := by
 have hu24:=Try.underlying24
 have HR0:=mk0 hr0
 have HC0:=mk0 hc0
 clear hr0 hc0
 have HB:=mk0 (Below.refl w.heap.size w)
 have H:((impl_leaves.f k (l0.length:Int)).bind fun t121=>((slices_Repeat_int_int.f k (([1000000000]:List Int)) (wrap64 (2 * t121))).bind fun t125=>(if 0 ≤ t121 then (if t121 ≤ (t125.length:Int) then (impl_minsOf.l0 k (wrap64 (t121 - 1)) (l0.length:Int) (kopy t125 (t121:Int).toNat l0)) else (none)) else (none)))) = some (r1,r2):=h
 clear h
 replace H:=Option.bind_eq_some_iff.mp H
 obtain⟨t121,A20,H⟩:=H
 replace H:((slices_Repeat_int_int.f k (([1000000000]:List Int)) (wrap64 (2 * t121))).bind fun t125=>(if 0 ≤ t121 then (if t121 ≤ (t125.length:Int) then (impl_minsOf.l0 k (wrap64 (t121 - 1)) (l0.length:Int) (kopy t125 (t121:Int).toNat l0)) else (none)) else (none))) = some (r1,r2):=H
 have A2:=mk0 A20
 clear A20
 obtain⟨y122,hy122⟩:∃ y_:List Int,y_ = (([1000000000]:List Int)):=⟨_,rfl⟩
 replace H:((slices_Repeat_int_int.f k y122 (wrap64 (2 * t121))).bind fun t125=>(if 0 ≤ t121 then (if t121 ≤ (t125.length:Int) then (impl_minsOf.l0 k (wrap64 (t121 - 1)) (l0.length:Int) (kopy t125 (t121:Int).toNat l0)) else (none)) else (none))) = some (r1,r2):=by first|(rw [hy122];with_reducible exact H)|(have H2_:=(Option.bind_some _ _).symm.trans H;rw [hy122];with_reducible exact H2_)|(have H2_:=(Option.bind_some _ _).symm.trans H;with_reducible exact H2_)|with_reducible exact H|(rw [hy122];exact H)|exact H
 have Ny122:=mk0 hy122
 clear hy122
 replace H:=Option.bind_eq_some_iff.mp H
 obtain⟨t125,A30,H⟩:=H
 replace H:(if 0 ≤ t121 then (if t121 ≤ (t125.length:Int) then (impl_minsOf.l0 k (wrap64 (t121 - 1)) (l0.length:Int) (kopy t125 (t121:Int).toNat l0)) else (none)) else (none)) = some (r1,r2):=H
 have A3:=mk0 A30
 clear A30
 by_cases c4:0 ≤ t121
 rotate_left
 ·rw [if_neg c4] at H
  exact absurd H (by simp)

 rw [if_pos c4] at H
 have c4b0:=eq_true c4
 have c4b1:decide (0 ≤ t121) = true:=decide_eq_true c4
 clear c4
 by_cases c5:t121 ≤ (t125.length:Int)
 rotate_left
 ·rw [if_neg c5] at H
  exact absurd H (by simp)
 rw [if_pos c5] at H
 have c5b0:=eq_true c5
 have c5b1:decide (t121 ≤ (t125.length:Int)) = true:=decide_eq_true c5
 clear c5
 obtain⟨y129,hy129⟩:∃ y_:List Int,y_ = (t125.drop (t121:Int).toNat):=⟨_,rfl⟩
 replace H:(impl_minsOf.l0 k (wrap64 (t121 - 1)) (l0.length:Int) (kopy t125 (t121:Int).toNat l0)) = some (r1,r2):=by first|(rw [hy129];with_reducible exact H)|(have H2_:=(Option.bind_some _ _).symm.trans H;rw [hy129];with_reducible exact H2_)|(have H2_:=(Option.bind_some _ _).symm.trans H;with_reducible exact H2_)|with_reducible exact H|(rw [hy129];exact H)|exact H
 have Ny129:=mk0 hy129
 clear hy129
 obtain⟨y133,hy133⟩:∃ y_:List Int,y_ = (kopy t125 (t121:Int).toNat l0):=⟨_,rfl⟩
 replace H:(impl_minsOf.l0 k (wrap64 (t121 - 1)) (l0.length:Int) y133) = some (r1,r2):=by first|(rw [hy133];with_reducible exact H)|(have H2_:=(Option.bind_some _ _).symm.trans H;rw [hy133];with_reducible exact H2_)|(have H2_:=(Option.bind_some _ _).symm.trans H;with_reducible exact H2_)|with_reducible exact H|(rw [hy133];exact H)|exact H
 have Ny133:=mk0 hy133
 clear hy133
 have H':=mk0 H
 clear H
 go_enter Try.func39,Try.ntmps39
 go_wp2_with (first|((with_reducible refine gate_dst (N:=2) rfl ?_);refine box_event ?hg (N:=2) ?hd (cs:=#[.int .i64 0,.slice none 0 0]) (t:=24) ?hr ?_;(case hd=>rfl);(case hg=>rfl);(case hr=>first|(go_simp;done)|(go_simp;rfl));intro gb120 hg w6 hbox hb;have n0_:=mk0 (below_step (by repeat (first|(with_reducible first|exact HB.out|apply aZ|apply nZ|apply dZ)|exact HB.out)) hb);have n1_:=mk0 (hbox);have n2_:=mk0 ((by rw [hg];exact (below_size (by repeat (first|(with_reducible first|exact HB.out|apply aZ|apply nZ|apply dZ)|exact HB.out))):w.heap.size ≤ gb120));have n3_:=mk0 ((by rw [hg];exact (below_size (by repeat (first|(with_reducible first|exact HB.out|apply aZ|apply nZ|apply dZ)|exact HB.out))):w.heap.size ≤ gb120));clear HB;have HB:=n0_;have BK120:=n1_;have GW120:=n2_;have GE120:=n3_;clear n0_ n1_ n2_ n3_ hb hbox hg)|((with_reducible refine gate_callee (f:=56) rfl ?_);refine goesL_ (some 8) rfl rfl Try.func56 (by kernel_rfl) rfl #[.int .i64 (l0.length:Int)] rfl (by (try simp only [mA,mC,mN]);first|done|rfl|(simp only [List.length_drop,List.length_take];rfl)) ?_;(with_reducible refine (impl_leaves.calls k (l0.length:Int) t121 _ A2.out).mono ?_);rintro e w' ⟨rfl,⟨nd,rfl⟩⟩;refine⟨_,rfl,?_⟩;(try (rw [drewN_self w6];generalize hq_:World.drewN w6 _ = w6;have n0_:Aside0 (w6.heap[gb120]? = some (.cells #[.int .i64 0,.slice none 0 0] 24 (0,0))):=⟨by rw [← hq_];exact (by (with_reducible repeat (first|apply nB|apply dB|apply aB));exact BK120.out)⟩;have n1_:Aside0 (Below w.heap.size w w6):=⟨by rw [← hq_];exact (by repeat (first|(with_reducible first|exact HB.out|apply aZ|apply nZ|apply dZ|refine sZ ?_ GE120.out)|exact HB.out))⟩;clear BK120 HB hq_;have BK120:=n0_;have HB:=n1_;clear n0_ n1_)))|((with_reducible refine gate_dst (N:=11) rfl ?_);refine Kd.R_lit (Kd.int .i64) _ 3 ?hg (N:=11) ?hd (xs:=([1000000000]:List Int)) (inner:=[.int .i64 1000000000]) (ok:=fun _=>True) (okp:=fun _=>True) ?hr ?hp (fun _ hk=>hk) trivial (Below.refl _ _) (Nat.le_refl _) (by simp) ?_;(case hd=>rfl);(case hg=>rfl);(case hr=>first|(go_simp;done)|(go_simp;rfl));(case hp=>exact (Reps.one (show Kd.M (Kd.int .i64) _ _ _ 1000000000 [.int .i64 1000000000] from rfl) (Reps.none _ _)));intro v123 w7 ho8 hb hg_ hnew_;clear hg_ hnew_;(first|rw [← Ny122.out] at ho8|(simp only [Int.reduceToNat] at ho8;rw [← Ny122.out] at ho8));have n0_:=mk0 (Kd.R_lower ho8 (below_size (by repeat (first|(with_reducible first|exact HB.out|apply aZ|apply nZ|apply dZ|refine sZ ?_ GE120.out)|exact HB.out))));have n1_:=mk0 (blk_below (g:=gb120) (o:=.cells #[.int .i64 0,.slice none 0 0] 24 (0,0)) (by (with_reducible repeat (first|apply nB|apply dB|apply aB));exact BK120.out) hb);have n2_:=mk0 (below_step (by repeat (first|(with_reducible first|exact HB.out|apply aZ|apply nZ|apply dZ|refine sZ ?_ GE120.out)|exact HB.out)) hb);clear BK120 HB;have HO124:=n0_;have BK120:=n1_;have HB:=n2_;clear n0_ n1_ n2_ hb ho8;obtain⟨Ao9,co9,eo9⟩:=Kd.R_slice HO124.out;subst eo9)|((with_reducible refine gate_callee (f:=57) rfl ?_);refine goesL_ (some 14) rfl rfl Try.func57 (by kernel_rfl) rfl #[.slice Ao9 y122.length co9,.int .i64 (wrap64 (2 * t121))] rfl (by (try simp only [mA,mC,mN]);first|done|rfl|(simp only [List.length_drop,List.length_take];rfl)) ?_;(with_reducible refine (slices_Repeat_int_int.calls k _ _ y122 (wrap64 (2 * t121)) t125 _ ?side1 ?side2 A3.out).mono ?_);(case side1=>repeat (first|exact (Kd.R_reads' HO124.out).2.2|(with_reducible first|apply aC|apply nC|apply dC)));(case side2=>exact (Kd.R_reads' HO124.out).2.1);rintro e w10 ⟨v126,rfl,ho0,hb⟩;refine⟨_,rfl,?_⟩;have n0_:=mk0 (Kd.R_elder' (by (with_reducible repeat (first|apply aR|apply nR|apply dR));exact HO124.out) (Kd.R_base ho0) hb);have n1_:=mk0 (Kd.R_lower (Kd.R_new' ho0 (Kd.R_lt (by (with_reducible repeat (first|apply aR|apply nR|apply dR));exact HO124.out))) (below_size (by repeat (first|(with_reducible first|exact HB.out|apply aZ|apply nZ|apply dZ|refine sZ ?_ GE120.out)|exact HB.out))));have n2_:=mk0 (blk_below (g:=gb120) (o:=.cells #[.int .i64 0,.slice none 0 0] 24 (0,0)) (by (with_reducible repeat (first|apply nB|apply dB|apply aB));exact BK120.out) hb);have n3_:=mk0 (below_step (by repeat (first|(with_reducible first|exact HB.out|apply aZ|apply nZ|apply dZ|refine sZ ?_ GE120.out)|exact HB.out)) hb);clear HO124 BK120 HB;have HO124:=n0_;have HO127:=n1_;have BK120:=n2_;have HB:=n3_;clear n0_ n1_ n2_ n3_;(try clear hb);(try clear hb2);(try clear hk);(try clear hi);(try clear ho0);obtain⟨Ao11,co11,eo11⟩:=Kd.R_slice HO127.out;subst eo11)|((with_reducible refine gate_dst (N:=4) rfl ?_);refine box_event ?hg (N:=4) ?hd (cs:=#[.int .i64 0,.slice none 0 0]) (t:=24) ?hr ?_;(case hd=>rfl);(case hg=>rfl);(case hr=>first|(go_simp;done)|(go_simp;rfl));intro gb128 hg w12 hbox hb;have n0_:=mk0 (Kd.R_below (by (with_reducible repeat (first|apply aR|apply nR|apply dR));exact HO124.out) hb);have n1_:=mk0 (Kd.R_below (by (with_reducible repeat (first|apply aR|apply nR|apply dR));exact HO127.out) hb);have n2_:=mk0 (blk_below (g:=gb120) (o:=.cells #[.int .i64 0,.slice none 0 0] 24 (0,0)) (by (with_reducible repeat (first|apply nB|apply dB|apply aB));exact BK120.out) hb);have n3_:=mk0 (below_step (by repeat (first|(with_reducible first|exact HB.out|apply aZ|apply nZ|apply dZ|refine sZ ?_ GE120.out)|exact HB.out)) hb);have n4_:=mk0 (hbox);have n5_:=mk0 ((by rw [hg];exact (below_size (by repeat (first|(with_reducible first|exact HB.out|apply aZ|apply nZ|apply dZ|refine sZ ?_ GE120.out)|exact HB.out))):w.heap.size ≤ gb128));have n6_:=mk0 ((by rw [hg];exact (below_size (by repeat (first|(with_reducible first|exact HB.out|apply aZ|apply nZ|apply dZ|refine sZ ?_ GE120.out)|exact HB.out))):w.heap.size ≤ gb128));have n7_:=mk0 ((by rw [hg];exact Nat.ne_of_lt (blk_lt (g:=gb120) (o:=.cells #[.int .i64 0,.slice none 0 0] 24 (0,0)) (by (with_reducible repeat (first|apply nB|apply dB|apply aB));exact BK120.out)):gb120 ≠ gb128));have n8_:=mk0 ((by rw [hg];exact Nat.ne_of_gt (blk_lt (g:=gb120) (o:=.cells #[.int .i64 0,.slice none 0 0] 24 (0,0)) (by (with_reducible repeat (first|apply nB|apply dB|apply aB));exact BK120.out)):gb128 ≠ gb120));clear HO124 HO127 BK120 HB;have HO124:=n0_;have HO127:=n1_;have BK120:=n2_;have HB:=n3_;have BK128:=n4_;have GW128:=n5_;have GE128:=n6_;have NB120_128:=n7_;have NB128_120:=n8_;clear n0_ n1_ n2_ n3_ n4_ n5_ n6_ n7_ n8_ hb hbox hg;have hnb13:=NB128_120.out;have hnc13:=NB120_128.out;have hcz14_0:w12.cell? ⟨gb128,0,none⟩ = some (.int .i64 0):=(blk_cell BK128.out 0).trans rfl;have hcz14_1:w12.cell? ⟨gb128,1,none⟩ = some (.slice none 0 0):=(blk_cell BK128.out 1).trans rfl;have hfz14_0:=blk_frozen BK128.out 0;have hfz14_1:=blk_frozen BK128.out 1)|((with_reducible refine gate_store (t:=24) (p:=4) rfl ?_);refine store_event (t:=24) (p:=4) (v:=?vo_w15) (w1:=((w12.setCell ⟨gb128,0,none⟩ (.int .i64 (l0.length:Int))).setCell ⟨gb128,1,none⟩ (.slice Ao11 t125.length co11))) ?hg ?ho ?hn ?hr ?_;(case ho=>rfl);(case hg=>rfl);(case hn=>rfl);(case hr=>first|(go_simp;done)|(go_simp;rfl));intro w15 hw;have n0_:Aside0 (Kd.R (Kd.int .i64) 3 w15 w.heap.size (fun k_=>some k_ ≠ (.slice Ao11 t125.length co11:Value).ownBlock) (.slice Ao9 y122.length co9) y122):=⟨(by rw [hw];exact (by (with_reducible repeat (first|apply aR|apply nR|apply dR));exact Kd.R_mono (Kd.R_far (p:=⟨gb128,1,none⟩) (Kd.R_far (p:=⟨gb128,0,none⟩) (Kd.R_types HO124.out BK128.out (by decide)) (by first|exact fun _ hk=>hk.2|(intro k_ hk;simp only [hk,ne_eq,and_self,not_false_eq_true])) (.int .i64 (l0.length:Int))) (by first|exact fun _ hk=>hk.2|(intro k_ hk;simp only [hk,ne_eq,and_self,not_false_eq_true])) (.slice Ao11 t125.length co11)) (by first|exact fun _ hk=>hk.1.2|(intro k_ hk;simp only [hk,ne_eq,and_self,not_false_eq_true]))))⟩;have n1_:Aside0 (Kd.R (Kd.int .i64) 3 w15 w.heap.size (fun k_=>some k_ ≠ (.slice Ao9 y122.length co9:Value).ownBlock) (.slice Ao11 t125.length co11) t125):=⟨(by rw [hw];exact (by (with_reducible repeat (first|apply aR|apply nR|apply dR));exact Kd.R_mono (Kd.R_far (p:=⟨gb128,1,none⟩) (Kd.R_far (p:=⟨gb128,0,none⟩) (Kd.R_types HO127.out BK128.out (by decide)) (by first|exact fun _ hk=>hk.2|(intro k_ hk;simp only [hk,ne_eq,and_self,not_false_eq_true])) (.int .i64 (l0.length:Int))) (by first|exact fun _ hk=>hk.2|(intro k_ hk;simp only [hk,ne_eq,and_self,not_false_eq_true])) (.slice Ao11 t125.length co11)) (by first|exact fun _ hk=>hk.1.2|(intro k_ hk;simp only [hk,ne_eq,and_self,not_false_eq_true]))))⟩;have n2_:Aside0 (w15.heap[gb120]? = some (.cells #[.int .i64 0,.slice none 0 0] 24 (0,0))):=⟨(by rw [hw];exact (by (with_reducible repeat (first|apply nB|apply dB|apply aB));refine blk_far ?_ NB120_128.out _;(with_reducible repeat (first|apply nB|apply dB|apply aB));refine blk_far ?_ NB120_128.out _;(with_reducible repeat (first|apply nB|apply dB|apply aB));exact BK120.out))⟩;have n3_:Aside0 (w15.heap[gb128]? = some (.cells #[.int .i64 (l0.length:Int),.slice Ao11 t125.length co11] 24 (0,0))):=⟨(by rw [hw];exact (by (with_reducible repeat (first|apply nB|apply dB|apply aB));refine blk_put (cs:=#[.int .i64 (l0.length:Int),.slice none 0 0]) ?_ 1 _ rfl;(with_reducible repeat (first|apply nB|apply dB|apply aB));refine blk_put (cs:=#[.int .i64 0,.slice none 0 0]) ?_ 0 _ rfl;(with_reducible repeat (first|apply nB|apply dB|apply aB));exact BK128.out))⟩;have n4_:Aside0 (Below w.heap.size w w15):=⟨(by rw [hw];exact (by repeat (first|(with_reducible first|exact HB.out|apply aZ|apply nZ|apply dZ|refine sZ ?_ GE120.out|refine sZ ?_ GE128.out)|exact HB.out)))⟩;clear hw HO124 HO127 BK120 BK128 HB;have HO124:=n0_;have HO127:=n1_;have BK120:=n2_;have BK128:=n3_;have HB:=n4_;clear n0_ n1_ n2_ n3_ n4_;have hcz16_0:w15.cell? ⟨gb128,0,none⟩ = some (.int .i64 (l0.length:Int)):=(blk_cell BK128.out 0).trans rfl;have hcz16_1:w15.cell? ⟨gb128,1,none⟩ = some (.slice Ao11 t125.length co11):=(blk_cell BK128.out 1).trans rfl;have hfz16_0:=blk_frozen BK128.out 0;have hfz16_1:=blk_frozen BK128.out 1;have q17:(t121:Int) ≤ ((t125.length:Int):Int):=of_decide_eq_true (by first|(with_reducible assumption)|assumption);obtain⟨i017,hi017,_,hsz17,_⟩:=info_parts info3;have hroom17:t125.length ≤ co11:=(Kd.R_reads' HO127.out).2.1;have hC17:Kd.C (Kd.int .i64) _ Ao11 t125.length t125:=(Kd.R_reads' HO127.out).2.2;have q017:(0:Int) ≤ (t121:Int):=of_decide_eq_true (by first|(with_reducible assumption)|assumption);have hcut17:=cut_from (P:=Try.prog) 22 3 .i64 Try.underlying22 hi017 1 hsz17 Ao11 t125.length co11 t121 q017 q17;have hr17:=Kd.C_drop (m:=(t121:Int).toNat) (c:=co11) hC17 (by omega) hroom17;obtain⟨A17,hA17⟩:∃ A1,A1 = (if co11 = (t121:Int).toNat then Ao11 else (Ao11:Option Addr).map (·.add ((t121:Int).toNat * 1))):=⟨_,rfl⟩;obtain⟨c17,hc17⟩:∃ c1,c1 = co11 - (t121:Int).toNat:=⟨_,rfl⟩;have hy17:y129.length = t125.length - (t121:Int).toNat:=(by rw [Ny129.out,List.length_drop] <;> omega);rw [show (t125).drop (t121:Int).toNat = y129 from Ny129.out.symm] at hr17;replace hr17:Kd.C (Kd.int .i64) _ A17 y129.length y129:=(by rw [hA17];exact hr17);rw [← hy17, ← hA17, ← hc17] at hcut17;have HR132:=mk0 hr17;have HC132:=mk0 (show y129.length ≤ c17 from by rw [hy17,hc17];exact Nat.sub_le_sub_right hroom17 _);clear hr17 hC17 hroom17 hi017 hsz17 hc17;have KY17:=mk0 hy17;have KA17:=mk0 hA17;clear hy17 hA17;have KL17:=mk0 (show (t121:Int).toNat ≤ t125.length from by omega);replace q17:=eq_true q17)|((with_reducible refine gate_builtin (b:=.copy) (xs:=#[.tmp 19,.tmp 20]) rfl ?_);refine R_copyin (enc:=(Value.int .i64)) (h1:=fun _=>rfl) 0 (w0:=w) w.heap.size rfl (.tmp 19) (.tmp 20) 22 22 3 rfl Try.underlying22 (by kernel_rfl) (n:=t125.length) (c:=co11) (k:=(t121:Int).toNat) (xs:=t125) (ys:=l0) rfl rfl ?hA ?hm (by (with_reducible repeat (first|apply aR|apply nR|apply dR));exact HO127.out) ?hk ?hS (by repeat (first|(with_reducible first|exact HB.out|apply aZ|apply nZ|apply dZ|refine sZ ?_ GE120.out|refine sZ ?_ GE128.out)|exact HB.out)) (below_size (by repeat (first|(with_reducible first|exact HB.out|apply aZ|apply nZ|apply dZ|refine sZ ?_ GE120.out|refine sZ ?_ GE128.out)|exact HB.out))) ?_;(case hA=>exact KA17.out);(case hm=>exact KY17.out);(case hk=>exact KL17.out);(case hS=>repeat (first|exact (Kd.C_below HR0.out HB.out)|(with_reducible first|apply aC|apply nC|apply dC)));intro w18 ho hb hg;have hp_:Kd.R (Kd.int .i64) 3 w18 w.heap.size (fun k_=>some k_ ≠ (.slice Ao9 y122.length co9:Value).ownBlock) (.slice Ao11 t125.length co11) y133:=(by rw [Ny133.out];exact ho);clear ho;have n0_:=mk0 (blk_grown (g:=gb120) (o:=.cells #[.int .i64 0,.slice none 0 0] 24 (0,0)) (by (with_reducible repeat (first|apply nB|apply dB|apply aB));exact BK120.out) hg (Kd.R_ne HO127.out BK120.out (by decide)));have n1_:=mk0 (Kd.R_after (v:=(.slice Ao11 t125.length co11)) (v1:=(.slice Ao11 t125.length co11)) (ok:=(fun _=>True)) (by (with_reducible repeat (first|apply aR|apply nR|apply dR));exact Kd.R_mono HO124.out (fun _ hk=>⟨trivial,hk⟩)) hg (.inl rfl));have n2_:=mk0 (hp_);have n3_:=mk0 (blk_grown (g:=gb128) (o:=.cells #[.int .i64 (l0.length:Int),.slice Ao11 t125.length co11] 24 (0,0)) (by (with_reducible repeat (first|apply nB|apply dB|apply aB));exact BK128.out) hg (Kd.R_ne HO127.out BK128.out (by decide)));have n4_:=mk0 (hb);clear BK120 HO124 HO127 BK128 HB;have BK120:=n0_;have HO124:=n1_;have HO127:=n2_;have BK128:=n3_;have HB:=n4_;clear n0_ n1_ n2_ n3_ n4_ hg hp_ hb))
 go_loopg [5] k (fun kq v5 w'=>∃ (x5_1:Int) (x129001_1:List Int) (u129001:Value),v5 = .int .i64 x5_1 ∧ Aside0 (impl_minsOf.l0 kq x5_1 (l0.length:Int) x129001_1 = some (r1,r2)) ∧ Aside0 (kq ≤ k) ∧ Aside0 (Kd.R (Kd.int .i64) 3 w' w.heap.size (fun _=>True) u129001 x129001_1) ∧ Aside0 (w'.heap[gb120]? = some (.cells #[.int .i64 0,(.slice none 0 0)] 24 (0,0))) ∧ Aside0 (w'.heap[gb128]? = some (.cells #[.int .i64 (l0.length:Int),u129001] 24 (0,0))) ∧ Aside0 (Below w.heap.size w w'))
 case atStart=>exact⟨(wrap64 (t121 - 1)),(y133),(.slice Ao11 t125.length co11),(by first|rfl|(simp;done)|(simp [*];done)),H',⟨Nat.le_refl _⟩,⟨by (with_reducible repeat (first|apply aR|apply nR|apply dR));exact Kd.R_mono HO127.out (fun _ hk=>trivial)⟩,⟨by (with_reducible repeat (first|apply nB|apply dB|apply aB));exact BK120.out⟩,⟨by (with_reducible repeat (first|apply nB|apply dB|apply aB));exact BK128.out⟩,⟨by repeat (first|(with_reducible first|exact HB.out|apply aZ|apply nZ|apply dZ|refine sZ ?_ GE120.out|refine sZ ?_ GE128.out)|exact HB.out)⟩⟩
 case round =>
  clear H'
  try clear c1
  try clear q1
  try clear p2
  try clear c3
  try clear c4
  try clear c4b0
  try clear c4b1
  try clear c5
  try clear c5b0
  try clear c5b1
  try clear p6
  try clear c13
  try clear c17
  try clear q17
  try clear hcz14_0
  try clear hcz14_1
  try clear hcz16_0
  try clear hcz16_1
  try clear hfz14_0
  try clear hfz14_1
  try clear hfz16_0
  try clear hfz16_1
  try clear q017
  try clear q17
  obtain⟨x5_1,x129001_1,u129001,rfl,HA,HK1,HO_129001,BK120,BK128,HB⟩:=hrel
  cases gk with
  | zero=>exact absurd HA.out (by simp [impl_minsOf.l0])
  | succ k1 =>
   have H:=HA.out
   clear HA
   simp only [impl_minsOf.l0] at H
   by_cases c20:x5_1 > 0
   rotate_left
   ·rw [if_neg c20] at H
    have c20b0:decide (0 < x5_1) = false:=decide_eq_false c20
    clear c20
    by_cases c34:0 < (x129001_1.length:Int)
    rotate_left
    ·rw [if_neg c34] at H
     exact absurd H (by simp)
    rw [if_pos c34] at H
    have c34b0:decide (0 < (x129001_1.length:Int)) = true:=decide_eq_true c34
    have c34b1:decide (0 < x129001_1.length) = true:=decide_eq_true (by omega)
    clear c34
    obtain⟨y137,hy137⟩:∃ y_:List Int,y_ = (x129001_1.set (0:Int).toNat 0):=⟨_,rfl⟩
    replace H:(some ((l0.length:Int),y137)) = some (r1,r2):=by first|(rw [hy137];with_reducible exact H)|(have H2_:=(Option.bind_some _ _).symm.trans H;rw [hy137];with_reducible exact H2_)|(have H2_:=(Option.bind_some _ _).symm.trans H;with_reducible exact H2_)|with_reducible exact H|(rw [hy137];exact H)|exact H
    have Ny137:=mk0 hy137
    clear hy137
    simp only [Option.some.injEq,Prod.mk.injEq] at H
    obtain⟨rfl,rfl⟩:=H
    have hnb36:=NB128_120.out
    have hnc36:=NB120_128.out
    have hcz37_0:wr.cell? ⟨gb128,0,none⟩ = some (.int .i64 (l0.length:Int)):=(blk_cell BK128.out 0).trans rfl
    have hcz37_1:wr.cell? ⟨gb128,1,none⟩ = some (u129001):=(blk_cell BK128.out 1).trans rfl
    have hfz37_0:=blk_frozen BK128.out 0
    have hfz37_1:=blk_frozen BK128.out 1
    have p35:0 ≤ (0:Int):=(by omega)
    have q35:(0:Int) < ((x129001_1.length:Int):Int):=of_decide_eq_true (by first|(with_reducible assumption)|assumption)
    have qi35:(0 < x129001_1.length) = True:=eq_true (by omega)
    obtain⟨go35,co35,eo35,gb35,gl35,cl35,HG35⟩:=Kd.R_form HO_129001.out (by omega)
    (first|cases eo35|(injection eo35 with ea_ en_ ec_;(first|subst ea_|(injection ea_ with ea_;subst ea_));subst ec_;clear en_))
    have GB35:=mk0 gb35
    have GG35:=mk0 HG35
    clear gb35 gl35 HG35
    obtain⟨hx35_0,hf35_0⟩:=Kd.R_celln 0 HO_129001.out (0:Int) p35 q35
    (try rw [show ((0:Int)).toNat = 0 from rfl] at hx35_0)
    (try simp only [Nat.reduceMul,Nat.zero_mul,Nat.zero_add,Nat.reduceAdd] at hx35_0)
    (try rw [show ((0:Int)).toNat = 0 from rfl] at hf35_0)
    (try simp only [Nat.reduceMul,Nat.zero_mul,Nat.zero_add,Nat.reduceAdd] at hf35_0)
    replace p35:=eq_true p35
    replace q35:=eq_true q35
    have HP38:=Kd.R_putg HO_129001.out (0:Int) 0
    go_wp2_with (first|((with_reducible refine gate_store (t:=3) (p:=48) rfl ?_);refine store_event (t:=3) (p:=48) (v:=?vo_w39) (w1:=(wr.setCell ⟨go35,(0:Int).toNat,none⟩ (.int .i64 0))) ?hg ?ho ?hn ?hr ?_;(case ho=>rfl);(case hg=>rfl);(case hn=>rfl);(case hr=>first|(go_simp;done)|(go_simp;rfl));intro w39 hw;have hg:wr.grownBy w39 (some go35):=(by rw [hw];exact HP38.2);have hp_:Kd.R (Kd.int .i64) 3 w39 w.heap.size (fun _=>True) (.slice (some ⟨go35,0,none⟩) x129001_1.length co35) y137:=(by rw [hw,Ny137.out];exact HP38.1);clear HP38;have n0_:=mk0 (hp_);have n1_:=mk0 (blk_grown (g:=gb120) (o:=.cells #[.int .i64 0,.slice none 0 0] 24 (0,0)) (by (with_reducible repeat (first|apply nB|apply dB|apply aB));exact BK120.out) hg (Kd.R_ne HO_129001.out BK120.out (by decide)));have n2_:=mk0 (blk_grown (g:=gb128) (o:=.cells #[.int .i64 (l0.length:Int),.slice (some ⟨go35,0,none⟩) x129001_1.length co35] 24 (0,0)) (by (with_reducible repeat (first|apply nB|apply dB|apply aB));exact BK128.out) hg (Kd.R_ne HO_129001.out BK128.out (by decide)));have n3_:=mk0 ((by rw [hw];exact sZ (HB.out) GB35.out:Below w.heap.size w w39));clear HO_129001 BK120 BK128 HB;have HO_129001:=n0_;have BK120:=n1_;have BK128:=n2_;have HB:=n3_;clear n0_ n1_ n2_ n3_ hg hw hp_;have hcz40_0:w39.cell? ⟨gb128,0,none⟩ = some (.int .i64 (l0.length:Int)):=(blk_cell BK128.out 0).trans rfl;have hcz40_1:w39.cell? ⟨gb128,1,none⟩ = some (.slice (some ⟨go35,0,none⟩) x129001_1.length co35):=(blk_cell BK128.out 1).trans rfl;have hfz40_0:=blk_frozen BK128.out 0;have hfz40_1:=blk_frozen BK128.out 1;have hcz41_0:w39.cell? ⟨gb120,0,none⟩ = some (.int .i64 0):=(blk_cell BK120.out 0).trans rfl;have hcz41_1:w39.cell? ⟨gb120,1,none⟩ = some (.slice none 0 0):=(blk_cell BK120.out 1).trans rfl;have hfz41_0:=blk_frozen BK120.out 0;have hfz41_1:=blk_frozen BK120.out 1))
    refine bodyPost_ret (results_cell_row rfl _ _ gb120 24 #[.int .i64 (l0.length:Int),.slice (some ⟨go35,0,none⟩) x129001_1.length co35] (0,0) _ rfl (by (with_reducible repeat (first|apply nB|apply dB|apply aB));refine blk_put (cs:=#[.int .i64 (l0.length:Int),.slice none 0 0]) ?_ 1 _ rfl;(with_reducible repeat (first|apply nB|apply dB|apply aB));refine blk_put (cs:=#[.int .i64 0,.slice none 0 0]) ?_ 0 _ rfl;(with_reducible repeat (first|apply nB|apply dB|apply aB));exact BK120.out) Try.underlying24 rfl (by kernel_rfl)) rfl ?_
    exact⟨_,by first|rfl|(simp [errW_none,errW_some] <;> rfl)|(simp [*,errW_none,errW_some] <;> rfl),by (with_reducible repeat (first|apply aR|apply nR|apply dR));exact Kd.R_mono (Kd.R_far (p:=⟨gb120,1,none⟩) (Kd.R_far (p:=⟨gb120,0,none⟩) (Kd.R_types HO_129001.out BK120.out (by decide)) (by first|exact fun _ hk=>hk.2|(intro k_ hk;simp only [hk,ne_eq,and_self,not_false_eq_true])) (.int .i64 (l0.length:Int))) (by first|exact fun _ hk=>hk.2|(intro k_ hk;simp only [hk,ne_eq,and_self,not_false_eq_true])) (.slice (some ⟨go35,0,none⟩) x129001_1.length co35)) (fun _ hk=>trivial),by repeat (first|(with_reducible first|exact HB.out|apply aZ|apply nZ|apply dZ|refine sZ ?_ GE120.out|refine sZ ?_ GE128.out)|exact HB.out)⟩
   rw [if_pos c20] at H
   have c20b0:decide (0 < x5_1) = true:=decide_eq_true c20
   clear c20
   obtain⟨ji21,hji21⟩:∃ j_:Int,(wrap64 (2 * x5_1)) = j_:=⟨_,rfl⟩
   replace H:(if 0 ≤ (ji21) then (if (ji21) < (x129001_1.length:Int) then (if 0 ≤ (wrap64 ((ji21) + 1)) then (if (wrap64 ((ji21) + 1)) < (x129001_1.length:Int) then (if 0 ≤ x5_1 then (if x5_1 < (x129001_1.length:Int) then (impl_minsOf.l0 k1 (wrap64 (x5_1 - 1)) (l0.length:Int) (x129001_1.set (x5_1:Int).toNat (mn (rd x129001_1 (ji21)) (rd x129001_1 (wrap64 ((ji21) + 1)))))) else (none)) else (none)) else (none)) else (none)) else (none)) else (none)) = some (r1,r2):=by first|(rw [hji21] at H;exact H)|(simp only [hji21] at H ⊢;exact H)
   have hji21w:(IntKind.i64.wrap (2 * x5_1)) = ji21:=(i64_w _).trans hji21
   by_cases c22:0 ≤ (ji21)
   rotate_left
   ·rw [if_neg c22] at H
    exact absurd H (by simp)
   rw [if_pos c22] at H
   have c22b0:decide (0 ≤ (ji21)) = true:=decide_eq_true c22
   clear c22
   by_cases c23:(ji21) < (x129001_1.length:Int)
   rotate_left
   ·rw [if_neg c23] at H
    exact absurd H (by simp)
   rw [if_pos c23] at H
   have c23b0:decide ((ji21) < (x129001_1.length:Int)) = true:=decide_eq_true c23
   clear c23
   obtain⟨ji24,hji24⟩:∃ j_:Int,(wrap64 ((ji21) + 1)) = j_:=⟨_,rfl⟩
   replace H:(if 0 ≤ (ji24) then (if (ji24) < (x129001_1.length:Int) then (if 0 ≤ x5_1 then (if x5_1 < (x129001_1.length:Int) then (impl_minsOf.l0 k1 (wrap64 (x5_1 - 1)) (l0.length:Int) (x129001_1.set (x5_1:Int).toNat (mn (rd x129001_1 (ji21)) (rd x129001_1 (ji24))))) else (none)) else (none)) else (none)) else (none)) = some (r1,r2):=by first|(rw [hji24] at H;exact H)|(simp only [hji24] at H ⊢;exact H)
   have hji24w:(IntKind.i64.wrap ((ji21) + 1)) = ji24:=(i64_w _).trans hji24
   by_cases c25:0 ≤ (ji24)
   rotate_left
   ·rw [if_neg c25] at H
    exact absurd H (by simp)
   rw [if_pos c25] at H
   have c25b0:decide (0 ≤ (ji24)) = true:=decide_eq_true c25
   clear c25
   by_cases c26:(ji24) < (x129001_1.length:Int)
   rotate_left
   ·rw [if_neg c26] at H
    exact absurd H (by simp)
   rw [if_pos c26] at H
   have c26b0:decide ((ji24) < (x129001_1.length:Int)) = true:=decide_eq_true c26
   clear c26
   obtain⟨ji27,hji27⟩:∃ j_:Int,(mn (rd x129001_1 (ji21)) (rd x129001_1 (ji24))) = j_:=⟨_,rfl⟩
   replace H:(if 0 ≤ x5_1 then (if x5_1 < (x129001_1.length:Int) then (impl_minsOf.l0 k1 (wrap64 (x5_1 - 1)) (l0.length:Int) (x129001_1.set (x5_1:Int).toNat (ji27))) else (none)) else (none)) = some (r1,r2):=by first|(rw [hji27] at H;exact H)|(simp only [hji27] at H ⊢;exact H)
   have hji27_:(if (rd x129001_1 (ji24)) < (rd x129001_1 (ji21)) then (rd x129001_1 (ji24)) else (rd x129001_1 (ji21))) = ji27:=hji27
   by_cases c28:0 ≤ x5_1
   rotate_left
   ·rw [if_neg c28] at H
    exact absurd H (by simp)
   rw [if_pos c28] at H
   have c28b0:decide (0 ≤ x5_1) = true:=decide_eq_true c28
   clear c28
   by_cases c29:x5_1 < (x129001_1.length:Int)
   rotate_left
   ·rw [if_neg c29] at H
    exact absurd H (by simp)
   rw [if_pos c29] at H
   have c29b0:decide (x5_1 < (x129001_1.length:Int)) = true:=decide_eq_true c29
   clear c29
   obtain⟨y136,hy136⟩:∃ y_:List Int,y_ = (x129001_1.set (x5_1:Int).toNat (ji27)):=⟨_,rfl⟩
   replace H:(impl_minsOf.l0 k1 (wrap64 (x5_1 - 1)) (l0.length:Int) y136) = some (r1,r2):=by first|(rw [hy136];with_reducible exact H)|(have H2_:=(Option.bind_some _ _).symm.trans H;rw [hy136];with_reducible exact H2_)|(have H2_:=(Option.bind_some _ _).symm.trans H;with_reducible exact H2_)|with_reducible exact H|(rw [hy136];exact H)|exact H
   have Ny136:=mk0 hy136
   clear hy136
   have H':=mk0 H
   clear H
   try go_wp2
   have n0_:=mk0 (dR HO_129001.out)
   have n1_:=mk0 (dB BK120.out)
   have n2_:=mk0 (dB BK128.out)
   have n3_:=mk0 (dZ HB.out)
   clear HO_129001
   clear BK120
   clear BK128
   clear HB
   have HO_129001:=n0_
   have BK120:=n1_
   have BK128:=n2_
   have HB:=n3_
   clear n0_ n1_ n2_ n3_
   obtain⟨Ao32,co32,eo32⟩:=Kd.R_slice HO_129001.out
   (first|subst eo32|(injection eo32 with f1_ f2_ f3_;have f4_:=f1_.symm;have f5_:=f3_.symm;clear f1_ f2_ f3_;subst f4_;subst f5_))
   have p134:0 ≤ ((ji21):Int):=of_decide_eq_true (by first|(with_reducible assumption)|assumption)
   have q134:(ji21) < (x129001_1.length:Int):=of_decide_eq_true (by first|(with_reducible assumption)|assumption)
   obtain⟨ad134,e134,hx134_0⟩:=Kd.at_int (Kd.R_reads' HO_129001.out).2.2 (ji21) p134 q134
   cases e134
   replace p134:=eq_true p134
   replace q134:=eq_true q134
   have p135:0 ≤ ((ji24):Int):=of_decide_eq_true (by first|(with_reducible assumption)|assumption)
   have q135:(ji24) < (x129001_1.length:Int):=of_decide_eq_true (by first|(with_reducible assumption)|assumption)
   obtain⟨ad135,e135,hx135_0⟩:=Kd.at_int (Kd.R_reads' HO_129001.out).2.2 (ji24) p135 q135
   obtain rfl:ad134 = ad135:=(by injection e135)
   replace p135:=eq_true p135
   replace q135:=eq_true q135
   have p30:0 ≤ (x5_1:Int):=of_decide_eq_true (by first|(with_reducible assumption)|assumption)
   have q30:(x5_1:Int) < ((x129001_1.length:Int):Int):=of_decide_eq_true (by first|(with_reducible assumption)|assumption)
   obtain⟨go30,co30,eo30,gb30,gl30,cl30,HG30⟩:=Kd.R_form HO_129001.out (by omega)
   (first|cases eo30|(injection eo30 with ea_ en_ ec_;(first|subst ea_|(injection ea_ with ea_;subst ea_));subst ec_;clear en_))
   have GB30:=mk0 gb30
   have GG30:=mk0 HG30
   clear gb30 gl30 HG30
   (first|simp only [add_plain] at hx134_0|skip)
   (first|simp only [add_plain] at hx135_0|skip)
   obtain⟨hx30_0,hf30_0⟩:=Kd.R_celln 0 HO_129001.out (x5_1:Int) p30 q30
   replace p30:=eq_true p30
   replace q30:=eq_true q30
   have HP33:=Kd.R_putn HO_129001.out (x5_1:Int) ji27
   rw [← Ny136.out] at HP33
   have HQ33:=mk0 HP33
   clear HP33
   refine start_ (n:=19) (S:=fun w'=>w'.cell? ⟨gb128,0,none⟩ = some (.int .i64 (l0.length:Int)) ∧ w'.cell? ⟨gb128,1,none⟩ = some (.slice (some ⟨go30,0,none⟩) x129001_1.length co32) ∧ w'.cell? ⟨go30,((ji21)).toNat,none⟩ = some (.int .i64 (rd x129001_1 (ji21))) ∧ w'.cell? ⟨go30,((ji24)).toNat,none⟩ = some (.int .i64 (rd x129001_1 (ji24)))) (ds:=[18]) impl_minsOf.m0 (by kernel_rfl) rfl rfl ⟨(blk_cell BK128.out 0).trans rfl,(blk_cell BK128.out 1).trans rfl,hx134_0,hx135_0⟩ (fun hHeld=>?_);refine with_tabW impl_minsOf.tab7 impl_minsOf.bits7 (fun HT_ HW_=>?_)
   generalize wr.drew = w31 at HO_129001 BK120 BK128 HB GG30 HQ33 hf30_0 hx134_0 hx135_0 hx30_0 hHeld ⊢
   refine pure_ (i:=0) (N:=some 28) (v:=?_) (a':=?_) impl_minsOf.m1 rfl rfl (any_of HT_.out (by kernel_rfl)) (fun _ _ _ h=>h) (Or.inl ⟨by rfl,?_⟩) ?_ ?_
   rotate_left
   ·intro w'
    go_simp
    with_reducible rfl
   rotate_left
   ·simp only [Act.put,sA,sO,sS,i64_w,i32_w]
    rfl
   refine pure_ (i:=2) (N:=some 30) (v:=?_) (a':=?_) impl_minsOf.m2 rfl rfl (any_of HT_.out (by kernel_rfl)) (fun _ _ _ h=>h) (Or.inl ⟨by rfl,?_⟩) ?_ ?_
   rotate_left
   ·intro w'
    go_simp
    with_reducible rfl
   rotate_left
   ·simp only [Act.put,sA,sO,sS,i64_w,i32_w]
    rfl
   refine pure_ (i:=3) (N:=some 31) (v:=?_) (a':=?_) impl_minsOf.m3 rfl rfl (any_of HT_.out (by kernel_rfl)) (fun _ _ _ h=>h) (Or.inl ⟨by rfl,?_⟩) ?_ ?_
   rotate_left
   ·intro w'
    go_simp
    with_reducible rfl
   rotate_left
   ·simp only [Act.put,sA,sO,sS,i64_w,i32_w]
    rfl
   refine pure_ (i:=5) (N:=some 33) (v:=?_) (a':=?_) impl_minsOf.m4 rfl rfl (any_of HT_.out (by kernel_rfl)) (fun _ _ _ h=>h) (Or.inl ⟨by rfl,?_⟩) ?_ ?_
   rotate_left
   ·intro w'
    go_simp
    with_reducible rfl
   rotate_left
   ·simp only [Act.put,sA,sO,sS,i64_w,i32_w]
    rfl
   refine pure_ (i:=6) (N:=some 34) (v:=?_) (a':=?_) impl_minsOf.m5 rfl rfl (any_of HT_.out (by kernel_rfl)) (fun _ _ _ h=>h) (Or.inl ⟨by rfl,?_⟩) ?_ ?_
   rotate_left
   ·intro w'
    go_simp
    with_reducible rfl
   rotate_left
   ·simp only [Act.put,sA,sO,sS,i64_w,i32_w]
    rfl
   refine pure_ (i:=9) (N:=some 37) (v:=?_) (a':=?_) impl_minsOf.m6 rfl rfl (any_of HT_.out (by kernel_rfl)) (fun _ _ _ h=>h) (Or.inl ⟨by rfl,?_⟩) ?_ ?_
   rotate_left
   ·intro w'
    go_simp
    with_reducible rfl
   rotate_left
   ·simp only [Act.put,sA,sO,sS,i64_w,i32_w]
    rfl
   refine pure_ (i:=11) (N:=some 39) (v:=?_) (a':=?_) impl_minsOf.m7 rfl rfl (any_of HT_.out (by kernel_rfl)) (fun _ _ _ h=>h) (Or.inl ⟨by rfl,?_⟩) ?_ ?_
   rotate_left
   ·intro w'
    go_simp
    with_reducible rfl
   rotate_left
   ·simp only [Act.put,sA,sO,sS,i64_w,i32_w]
    rfl
   refine pure_ (i:=12) (N:=some 40) (v:=?_) (a':=?_) impl_minsOf.m8 rfl rfl (any_of HT_.out (by kernel_rfl)) (fun _ _ _ h=>h) (Or.inl ⟨by rfl,?_⟩) ?_ ?_
   rotate_left
   ·intro w'
    go_simp
    with_reducible rfl
   rotate_left
   ·simp only [Act.put,sA,sO,sS,i64_w,i32_w]
    rfl
   refine pure_ (i:=13) (N:=some 41) (v:=?_) (a':=?_) impl_minsOf.m9 rfl rfl (any_of HT_.out (by kernel_rfl)) (fun _ _ _ h=>h) (Or.inl ⟨by rfl,?_⟩) ?_ ?_
   rotate_left
   ·intro w'
    go_simp
    with_reducible rfl
   rotate_left
   ·simp only [Act.put,sA,sO,sS,i64_w,i32_w]
    rfl
   refine take_ (i:=1) (N:=some 29) (v:=?_) (a':=?_) impl_minsOf.m10 rfl rfl (take_ofW HT_.out HW_.out (by kernel_rfl)) (fun _ _ _ h=>h) (Or.inl ⟨by rfl,?_⟩) hHeld ?_ ?_
   rotate_left
   ·rintro w' ⟨s0,s1,s2,s3⟩
    go_simp
    with_reducible rfl
   rotate_left
   ·simp only [Act.put,sA,sO,sS,i64_w,i32_w]
    rfl
   refine take_ (i:=4) (N:=some 32) (v:=?_) (a':=?_) impl_minsOf.m11 rfl rfl (take_ofW HT_.out HW_.out (by kernel_rfl)) (fun _ _ _ h=>h) (Or.inl ⟨by rfl,?_⟩) hHeld ?_ ?_
   rotate_left
   ·rintro w' ⟨s0,s1,s2,s3⟩
    go_simp
    with_reducible rfl
   rotate_left
   ·simp only [Act.put,sA,sO,sS,i64_w,i32_w]
    rfl
   refine pure_ (i:=7) (N:=some 35) (v:=?_) (a':=?_) impl_minsOf.m12 rfl rfl (any_of HT_.out (by kernel_rfl)) (fun _ _ _ h=>h) (Or.inl ⟨by rfl,?_⟩) ?_ ?_
   rotate_left
   ·intro w'
    go_simp
    with_reducible rfl
   rotate_left
   ·simp only [Act.put,sA,sO,sS,i64_w,i32_w]
    rfl
   refine take_ (i:=8) (N:=some 36) (v:=?_) (a':=?_) impl_minsOf.m13 rfl rfl (take_ofW HT_.out HW_.out (by kernel_rfl)) (fun _ _ _ h=>h) (Or.inl ⟨by rfl,?_⟩) hHeld ?_ ?_
   rotate_left
   ·rintro w' ⟨s0,s1,s2,s3⟩
    go_simp
    with_reducible rfl
   rotate_left
   ·simp only [Act.put,sA,sO,sS,i64_w,i32_w]
    rfl
   refine take_ (i:=10) (N:=some 38) (v:=?_) (a':=?_) impl_minsOf.m14 rfl rfl (take_ofW HT_.out HW_.out (by kernel_rfl)) (fun _ _ _ h=>h) (Or.inl ⟨by rfl,?_⟩) hHeld ?_ ?_
   rotate_left
   ·rintro w' ⟨s0,s1,s2,s3⟩
    go_simp
    with_reducible rfl
   rotate_left
   ·simp only [Act.put,sA,sO,sS,i64_w,i32_w]
    rfl
   refine pure_ (i:=14) (N:=some 42) (v:=?_) (a':=?_) impl_minsOf.m15 rfl rfl (any_of HT_.out (by kernel_rfl)) (fun _ _ _ h=>h) (Or.inl ⟨by rfl,?_⟩) ?_ ?_
   rotate_left
   ·intro w'
    go_simp
    with_reducible rfl
   rotate_left
   ·simp only [Act.put,sA,sO,sS,i64_w,i32_w]
    rfl
   refine take_ (i:=15) (N:=some 43) (v:=?_) (a':=?_) impl_minsOf.m16 rfl rfl (take_ofW HT_.out HW_.out (by kernel_rfl)) (fun _ _ _ h=>h) (Or.inl ⟨by rfl,?_⟩) hHeld ?_ ?_
   rotate_left
   ·rintro w' ⟨s0,s1,s2,s3⟩
    go_simp
    with_reducible rfl
   rotate_left
   ·simp only [Act.put,sA,sO,sS,i64_w,i32_w]
    rfl
   refine pure_ (i:=16) (N:=some 44) (v:=?_) (a':=?_) impl_minsOf.m17 rfl rfl (any_of HT_.out (by kernel_rfl)) (fun _ _ _ h=>h) (Or.inl ⟨by rfl,?_⟩) ?_ ?_
   rotate_left
   ·intro w'
    go_simp
    with_reducible rfl
   rotate_left
   ·simp only [Act.put,sA,sO,sS,i64_w,i32_w]
    rfl
   refine pure_ (i:=17) (N:=some 45) (v:=?_) (a':=?_) impl_minsOf.m18 rfl rfl (any_of HT_.out (by kernel_rfl)) (fun _ _ _ h=>h) (Or.inl ⟨by rfl,?_⟩) ?_ ?_
   rotate_left
   ·intro w'
    go_simp
    with_reducible rfl
   rotate_left
   ·simp only [Act.put,sA,sO,sS,i64_w,i32_w]
    rfl
   refine last_ (i:=18) (N:=none) impl_minsOf.m19 rfl rfl (one_of HT_.out (by kernel_rfl)) (by decide) (fun K hK=>?_)
   refine skip_ (w1:=?_) (by rfl) rfl ?_ ?_
   rotate_left
   ·go_simp
    rfl
   refine hK.out _ _ ?_
   clear hK K
   refine done_ (done_of HT_.out (by kernel_rfl)) ?_
   try go_wp2
   go_roundg k1
   case measure=>have:=HK1.out;omega
   case rel=>exact⟨(wrap64 (x5_1 - 1)),(y136),(.slice (some ⟨go30,0,none⟩) x129001_1.length co32),(by first|rfl|(simp;done)|(simp [*];done)),H',⟨by have:=HK1.out;omega⟩,⟨by (with_reducible repeat (first|apply aR|apply nR|apply dR));exact HQ33.out⟩,⟨by (with_reducible repeat (first|apply nB|apply dB|apply aB));refine blk_far ?_ (by have h_:=Kd.R_ne HO_129001.out BK120.out (by decide);intro e_;exact h_ (by rw [e_];rfl)) _;(with_reducible repeat (first|apply nB|apply dB|apply aB));exact BK120.out⟩,⟨by (with_reducible repeat (first|apply nB|apply dB|apply aB));refine blk_far ?_ (by have h_:=Kd.R_ne HO_129001.out BK128.out (by decide);intro e_;exact h_ (by rw [e_];rfl)) _;(with_reducible repeat (first|apply nB|apply dB|apply aB));exact BK128.out⟩,⟨by repeat (first|(with_reducible first|exact HB.out|apply aZ|apply nZ|apply dZ|refine sZ ?_ GB30.out|refine sZ ?_ GE120.out|refine sZ ?_ GE128.out)|exact HB.out)⟩⟩
/-! ### slices_Equal_int_int: function 59 -/
def slices_Equal_int_int.l0 : Nat → List Int → List Int → Int → Int → Option (Bool)
 | 0, _, _, _, _ => none
 | k + 1, x0, x1, x12, x13 => if x13 < x12 then (if 0 ≤ x13 then (if x13 < (x0.length : Int) then (if x13 < (x1.length : Int) then (if (rd x0 x13) = (rd x1 x13) then (slices_Equal_int_int.l0 k x0 x1 x12 (wrap64 (x13 + 1))) else (some false)) else (none)) else (none)) else (none)) else (some true)
def slices_Equal_int_int.f (k : Nat) (l0 : List Int) (l1 : List Int) : Option (Bool) := if (l0.length : Int) = (l1.length : Int) then (slices_Equal_int_int.l0 k l0 l1 (l0.length : Int) 0) else (some false)
theorem slices_Equal_int_int.mono_l : ∀ k, (∀ y0 y1 y2 y3, LeO (slices_Equal_int_int.l0 k y0 y1 y2 y3) (slices_Equal_int_int.l0 (k + 1) y0 y1 y2 y3))
 | 0 => fun _ _ _ _ r h => by simp [slices_Equal_int_int.l0] at h
 | k + 1 => by
  have ih0 := slices_Equal_int_int.mono_l k
  ·intro y0 y1 y2 y3
   unfold slices_Equal_int_int.l0
   repeat' first|(with_reducible first|exact ih0 _ _ _ _|exact LeO.refl _|exact LeO.none _|refine LeO.ite ?_ ?_|refine LeO.bind ?_ (fun _ => ?_))|exact LeO.none _|refine LeO.ite ?_ ?_|refine LeO.bind ?_ (fun _ => ?_)
theorem slices_Equal_int_int.mono : ∀ a0 a1 k, LeO (slices_Equal_int_int.f k a0 a1) (slices_Equal_int_int.f (k + 1) a0 a1) := by
 intro a0 a1 k
 have ih0 := slices_Equal_int_int.mono_l k
 unfold slices_Equal_int_int.f
 repeat' first|(with_reducible first|exact ih0 _ _ _ _|exact LeO.refl _|exact LeO.none _|refine LeO.ite ?_ ?_|refine LeO.bind ?_ (fun _ => ?_))|exact LeO.none _|refine LeO.ite ?_ ?_|refine LeO.bind ?_ (fun _ => ?_)
set_option maxHeartbeats 8000000 in
set_option maxRecDepth 100000 in
theorem slices_Equal_int_int.calls (k : Nat) (A0 : Option Addr) (c0 : Nat) (l0 : List Int) (A1 : Option Addr) (c1 : Nat) (l1 : List Int) (r : Bool) (w : World) (hr0 : Kd.C (Kd.int .i64) w A0 l0.length l0) (hc0 : l0.length ≤ c0) (hr1 : Kd.C (Kd.int .i64) w A1 l1.length l1) (hc1 : l1.length ≤ c1) (h : slices_Equal_int_int.f k l0 l1 = some r) :
  Calls Try.prog 59 #[.slice A0 l0.length c0, .slice A1 l1.length c1] w fun e w' => e = .returned (.bool r) ∧ Drawn0 w w' := by
 have HR0:=mk0 hr0
 have HC0:=mk0 hc0
 clear hr0 hc0
 have HR1:=mk0 hr1
 have HC1:=mk0 hc1
 clear hr1 hc1
 have H:(if (l0.length:Int) = (l1.length:Int) then (slices_Equal_int_int.l0 k l0 l1 (l0.length:Int) 0) else (some false)) = some r:=h
 clear h
 by_cases c3:(l0.length:Int) = (l1.length:Int)
 ·rw [if_pos c3] at H
  have c3b0:((l0.length:Int) == (l1.length:Int)) = true:=beq_iff_eq.mpr c3
  have c3b1:((l0.length:Int) != (l1.length:Int)) = false:=bne_eq_false_iff_eq.mpr c3
  have c3b2:(l0.length == l1.length) = true:=by first|simpa using c3|(simp at c3 ⊢;omega)
  clear c3
  have H':=mk0 H
  clear H
  go_enter Try.func59,Try.ntmps59
  go_wp2
  repeat (go_quiet (fail);try go_wp2)
  go_loopg [13] k (fun kq v13 w'=>∃ (x13_1:Int),v13 = .int .i64 x13_1 ∧ Aside0 (slices_Equal_int_int.l0 kq l0 l1 (l0.length:Int) x13_1 = some r) ∧ Aside0 (kq ≤ k) ∧ Drawn0 w w')
  case atStart=>exact⟨(0),(by first|rfl|(simp;done)|(simp [*];done)),H',⟨Nat.le_refl _⟩,by repeat (first|exact Drawn0.refl _|apply Drawn0.step)⟩
  case round =>
   clear H'
   try clear c1
   try clear p2
   try clear c3
   try clear c3b0
   try clear c3b1
   try clear c3b2
   obtain⟨x13_1,rfl,HA,HK1,⟨m1,rfl⟩⟩:=hrel
   cases gk with
   | zero=>exact absurd HA.out (by simp [slices_Equal_int_int.l0])
   | succ k1 =>
    have H:=HA.out
    clear HA
    simp only [slices_Equal_int_int.l0] at H
    by_cases c4:x13_1 < (l0.length:Int)
    ·rw [if_pos c4] at H
     have c4b0:decide (x13_1 < (l0.length:Int)) = true:=decide_eq_true c4
     clear c4
     by_cases c5:0 ≤ x13_1
     ·rw [if_pos c5] at H
      have c5b0:decide (0 ≤ x13_1) = true:=decide_eq_true c5
      clear c5
      by_cases c6:x13_1 < (l0.length:Int)
      ·rw [if_pos c6] at H
       have c6b0:decide (x13_1 < (l0.length:Int)) = true:=decide_eq_true c6
       clear c6
       by_cases c7:x13_1 < (l1.length:Int)
       ·rw [if_pos c7] at H
        have c7b0:decide (x13_1 < (l1.length:Int)) = true:=decide_eq_true c7
        clear c7
        by_cases c8:(rd l0 x13_1) = (rd l1 x13_1)
        ·rw [if_pos c8] at H
         have c8b0:((rd l0 x13_1) == (rd l1 x13_1)) = true:=beq_iff_eq.mpr c8
         have c8b1:((rd l0 x13_1) != (rd l1 x13_1)) = false:=bne_eq_false_iff_eq.mpr c8
         clear c8
         have H':=mk0 H
         clear H
         have p138:0 ≤ (x13_1:Int):=of_decide_eq_true (by first|(with_reducible assumption)|assumption)
         have q138:x13_1 < (l0.length:Int):=of_decide_eq_true (by first|(with_reducible assumption)|assumption)
         obtain⟨ad138,e138,hx138_0⟩:=Kd.at_int HR0.out x13_1 p138 q138
         cases e138
         replace p138:=eq_true p138
         replace q138:=eq_true q138
         have p139:0 ≤ (x13_1:Int):=of_decide_eq_true (by first|(with_reducible assumption)|assumption)
         have q139:x13_1 < (l1.length:Int):=of_decide_eq_true (by first|(with_reducible assumption)|assumption)
         obtain⟨ad139,e139,hx139_0⟩:=Kd.at_int HR1.out x13_1 p139 q139
         cases e139
         replace p139:=eq_true p139
         replace q139:=eq_true q139
         go_wp2
         repeat (go_quiet (fail);try go_wp2)
         go_roundg k1
         case measure=>have:=HK1.out;omega
         case rel=>exact⟨(wrap64 (x13_1 + 1)),(by first|rfl|(simp;done)|(simp [*];done)),H',⟨by have:=HK1.out;omega⟩,by repeat (first|exact Drawn0.refl _|apply Drawn0.step)⟩
        ·rw [if_neg c8] at H
         have c8b0:((rd l0 x13_1) == (rd l1 x13_1)) = false:=beq_eq_false_iff_ne.mpr c8
         have c8b1:((rd l0 x13_1) != (rd l1 x13_1)) = true:=bne_iff_ne.mpr c8
         obtain rfl:=Option.some.inj H
         have p138:0 ≤ (x13_1:Int):=of_decide_eq_true (by first|(with_reducible assumption)|assumption)
         have q138:x13_1 < (l0.length:Int):=of_decide_eq_true (by first|(with_reducible assumption)|assumption)
         obtain⟨ad138,e138,hx138_0⟩:=Kd.at_int HR0.out x13_1 p138 q138
         cases e138
         replace p138:=eq_true p138
         replace q138:=eq_true q138
         have p139:0 ≤ (x13_1:Int):=of_decide_eq_true (by first|(with_reducible assumption)|assumption)
         have q139:x13_1 < (l1.length:Int):=of_decide_eq_true (by first|(with_reducible assumption)|assumption)
         obtain⟨ad139,e139,hx139_0⟩:=Kd.at_int HR1.out x13_1 p139 q139
         cases e139
         replace p139:=eq_true p139
         replace q139:=eq_true q139
         go_wp2
         repeat (go_quiet (fail);try go_wp2)
         go_ret
         exact⟨by first|rfl|(simp;done)|(simp [*];done),by repeat (first|exact Drawn0.refl _|apply Drawn0.step)⟩
       ·rw [if_neg c7] at H
        exact absurd H (by simp)
      ·rw [if_neg c6] at H
       exact absurd H (by simp)
     ·rw [if_neg c5] at H
      exact absurd H (by simp)
    ·rw [if_neg c4] at H
     have c4b0:decide (x13_1 < (l0.length:Int)) = false:=decide_eq_false c4
     clear c4
     obtain rfl:=Option.some.inj H
     go_wp2
     repeat (go_quiet (fail);try go_wp2)
     go_ret
     exact⟨by first|rfl|(simp;done)|(simp [*];done),by repeat (first|exact Drawn0.refl _|apply Drawn0.step)⟩
 ·rw [if_neg c3] at H
  have c3b0:((l0.length:Int) == (l1.length:Int)) = false:=beq_eq_false_iff_ne.mpr c3
  have c3b1:((l0.length:Int) != (l1.length:Int)) = true:=bne_iff_ne.mpr c3
  have c3b2:(l0.length == l1.length) = false:=by first|simpa using c3|(simp at c3 ⊢;omega)
  obtain rfl:=Option.some.inj H
  go_enter Try.func59,Try.ntmps59
  go_wp2
  repeat (go_quiet (fail);try go_wp2)
  go_ret
  exact⟨by first|rfl|(simp;done)|(simp [*];done),by repeat (first|exact Drawn0.refl _|apply Drawn0.step)⟩

end Go.Proofs.Ytpheodpcppclaaa.QFnMins
