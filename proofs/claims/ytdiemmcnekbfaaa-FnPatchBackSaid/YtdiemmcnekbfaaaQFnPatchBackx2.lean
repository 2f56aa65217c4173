-- A walk, made by walk.py, a program of this session's.
import Derived.Test.YtdiemmcnekbfaaaQFnPatchBackx0
import Derived.Test.YtdiemmcnekbfaaaQFnPatchBackx1
namespace Go.Proofs.Ytdiemmcnekbfaaa.QFnPatchBack
open Go.RowKit Go.Proofs.YtdiemmcnekbfaaaW.PrintWords Go.Proofs.YtdiemmcnekbfaaaW.PrintLast Go.Proofs.YtdiemmcnekbfaaaW.PrintMore
attribute [local go_sem] max2_int min2_int max_two min_two max_three min_three max_four min_four   -- for this text's walks alone
set_option linter.unusedVariables false
set_option linter.unusedSimpArgs false

/-! ### spec_l12Patch: function 24 -/
mutual
def spec_l12Patch.l0 : Nat → List Int → List (S70) → List Int → List Int → Int → Option (Int × List Int × Int × List Int × List Int)
 | 0, _, _, _, _, _ => none
 | k + 1, x1, x2, x7, x8, x9 => if x9 < (x2.length : Int) then (if 0 ≤ x9 then (if 0 ≤ ((rd_T70 x2 x9).f0) then (if ((rd_T70 x2 x9).f0) < (x7.length : Int) then (if 0 ≤ ((rd_T70 x2 x9).f1) then (if ((rd_T70 x2 x9).f1) < (x8.length : Int) then (spec_l12Patch.l0 k x1 x2 (x7.set (((rd_T70 x2 x9).f0) : Int).toNat 1) (x8.set (((rd_T70 x2 x9).f1) : Int).toNat 1) (wrap64 (x9 + 1))) else (none)) else (none)) else (none)) else (none)) else (none)) else ((spec_BitsOf.f k x7).bind fun bt124 => ((spec_BitsOf.f k x8).bind fun bt129 => (spec_l12Patch.l1 k x1 x8 0 bt124.1 bt124.2.1 bt129.1 bt129.2.1 ([] : List Int))))
def spec_l12Patch.l1 : Nat → List Int → List Int → Int → Int → List Int → Int → List Int → List Int → Option (Int × List Int × Int × List Int × List Int)
 | 0, _, _, _, _, _, _, _, _ => none
 | k + 1, x1, x8, x11, x124000, x124001, x124002, x124003, x124004 => if x11 < (x1.length : Int) then (if 0 ≤ x11 then (if x11 < (x8.length : Int) then (if (rd x8 x11) = 0 then (if x124004.length < 17592186044416 then (spec_l12Patch.l1 k x1 x8 (wrap64 (x11 + 1)) x124000 x124001 x124002 x124003 (x124004 ++ [rd x1 x11])) else (none)) else (spec_l12Patch.l1 k x1 x8 (wrap64 (x11 + 1)) x124000 x124001 x124002 x124003 x124004)) else (none)) else (none)) else (some (x124000, x124001, x124002, x124003, x124004))
end
def spec_l12Patch.f (k : Nat) (a0 : Int) (l1 : List Int) (l2 : List (S70)) : Option (Int × List Int × Int × List Int × List Int) := if 0 ≤ a0 then (if (a0 : Int).toNat ≤ 35184372088832 then (if 0 ≤ (l1.length : Int) then (if ((l1.length : Int) : Int).toNat ≤ 35184372088832 then (spec_l12Patch.l0 k l1 l2 (List.replicate (a0 : Int).toNat 0) (List.replicate ((l1.length : Int) : Int).toNat 0) 0) else (none)) else (none)) else (none)) else (none)
theorem spec_l12Patch.mono_l : ∀ k, (∀ y0 y1 y2 y3 y4, LeO (spec_l12Patch.l0 k y0 y1 y2 y3 y4) (spec_l12Patch.l0 (k + 1) y0 y1 y2 y3 y4)) ∧ (∀ y0 y1 y2 y3 y4 y5 y6 y7, LeO (spec_l12Patch.l1 k y0 y1 y2 y3 y4 y5 y6 y7) (spec_l12Patch.l1 (k + 1) y0 y1 y2 y3 y4 y5 y6 y7))
 | 0 => ⟨fun _ _ _ _ _ r h => by simp [spec_l12Patch.l0] at h, fun _ _ _ _ _ _ _ _ r h => by simp [spec_l12Patch.l1] at h⟩
 | k + 1 => by
  obtain ⟨ih0, ih1⟩ := spec_l12Patch.mono_l k
  refine ⟨?_, ?_⟩
  ·intro y0 y1 y2 y3 y4
   unfold spec_l12Patch.l0
   repeat' first|(with_reducible first|exact ih0 _ _ _ _ _|exact ih1 _ _ _ _ _ _ _ _|exact spec_BitsOf.mono _ _|exact LeO.refl _|exact LeO.none _|refine LeO.ite ?_ ?_|refine LeO.bind ?_ (fun _ => ?_))|exact LeO.none _|refine LeO.ite ?_ ?_|refine LeO.bind ?_ (fun _ => ?_)
  ·intro y0 y1 y2 y3 y4 y5 y6 y7
   unfold spec_l12Patch.l1
   repeat' first|(with_reducible first|exact ih0 _ _ _ _ _|exact ih1 _ _ _ _ _ _ _ _|exact spec_BitsOf.mono _ _|exact LeO.refl _|exact LeO.none _|refine LeO.ite ?_ ?_|refine LeO.bind ?_ (fun _ => ?_))|exact LeO.none _|refine LeO.ite ?_ ?_|refine LeO.bind ?_ (fun _ => ?_)
theorem spec_l12Patch.mono : ∀ a0 a1 a2 k, LeO (spec_l12Patch.f k a0 a1 a2) (spec_l12Patch.f (k + 1) a0 a1 a2) := by
 intro a0 a1 a2 k
 obtain ⟨ih0, ih1⟩ := spec_l12Patch.mono_l k
 unfold spec_l12Patch.f
 repeat' first|(with_reducible first|exact ih0 _ _ _ _ _|exact ih1 _ _ _ _ _ _ _ _|exact spec_BitsOf.mono _ _|exact LeO.refl _|exact LeO.none _|refine LeO.ite ?_ ?_|refine LeO.bind ?_ (fun _ => ?_))|exact LeO.none _|refine LeO.ite ?_ ?_|refine LeO.bind ?_ (fun _ => ?_)
def spec_l12Patch.T15 : Bool × List (List Nat × List Nat) := (true, [([], []), ([0], [0]), ([], []), ([], []), ([2, 3], [2, 3]), ([4], [4]), ([5], [5]), ([1, 6], [1, 6]), ([0, 1, 2, 3, 4, 5, 6, 7], []), ([8, 7, 7, 0, 1, 2, 3, 4, 5, 6, 7], [7, 8])])
def spec_l12Patch.B15 : List Nat := [0, 1, 0, 0, 12, 28, 60, 127, 255, 511]
theorem spec_l12Patch.tab15 : rtab .any (opsOf Try.f24 15) = spec_l12Patch.T15 := by kernel_rfl
theorem spec_l12Patch.bits15 : waitsOk spec_l12Patch.T15.2 spec_l12Patch.B15 = true := by kernel_rfl
abbrev spec_l12Patch.m0 : Array Bool := #[F,F,F,F,F,F,F,F,F,F]
abbrev spec_l12Patch.m1 : Array Bool := #[T,F,F,F,F,F,F,F,F,F]
abbrev spec_l12Patch.m2 : Array Bool := #[T,F,T,F,F,F,F,F,F,F]
abbrev spec_l12Patch.m3 : Array Bool := #[T,F,T,T,F,F,F,F,F,F]
abbrev spec_l12Patch.m4 : Array Bool := #[T,F,T,T,T,F,F,F,F,F]
abbrev spec_l12Patch.m5 : Array Bool := #[T,T,T,T,T,F,F,F,F,F]
abbrev spec_l12Patch.m6 : Array Bool := #[T,T,T,T,T,T,F,F,F,F]
abbrev spec_l12Patch.m7 : Array Bool := #[T,T,T,T,T,T,T,F,F,F]
abbrev spec_l12Patch.m8 : Array Bool := #[T,T,T,T,T,T,T,T,F,F]
abbrev spec_l12Patch.m9 : Array Bool := #[T,T,T,T,T,T,T,T,T,F]
abbrev spec_l12Patch.m10 : Array Bool := #[T,T,T,T,T,T,T,T,T,T]
set_option maxHeartbeats 8000000 in
set_option maxRecDepth 100000 in
theorem spec_l12Patch.calls (k : Nat) (a0 : Int) (A1 : Option Addr) (c1 : Nat) (l1 : List Int) (A2 : Option Addr) (c2 : Nat) (l2 : List (S70)) (r1 : Int) (r2 : List Int) (r3 : Int) (r4 : List Int) (r5 : List Int) (w : World) (hr1 : Kd.C (Kd.int .i64) w A1 l1.length l1) (hc1 : l1.length ≤ c1) (hr2 : Kd.C k70 w A2 l2.length l2) (hc2 : l2.length ≤ c2) (h : spec_l12Patch.f k a0 l1 l2 = some (r1, r2, r3, r4, r5)) :
  Calls Try.prog 24 #[.int .i64 a0, .slice A1 l1.length c1, .slice A2 l2.length c2] w fun e w' => ∃ v1_ v3_ v4_ : Value, e = .returned (.agg #[.int .i64 r1, v1_, .int .i64 r3, v3_, v4_]) ∧ Kd.R (Kd.int .u64) 77 w' w.heap.size (fun k_ => some k_ ≠ (v3_ : Value).ownBlock) v1_ r2 ∧ Kd.R (Kd.int .u64) 77 w' w.heap.size (fun k_ => some k_ ≠ (v1_ : Value).ownBlock) v3_ r4 ∧ Kd.R (Kd.int .i64) 3 w' w.heap.size (fun _ => True) v4_ r5 ∧ Below w.heap.size w w' := by
 have hu27:=Try.underlying27
 have hu25:=Try.underlying25
 have HR1:=mk0 hr1
 have HC1:=mk0 hc1
 clear hr1 hc1
 have HR2:=mk0 hr2
 have HC2:=mk0 hc2
 clear hr2 hc2
 have HB:=mk0 (Below.refl w.heap.size w)
 have H:(if 0 ≤ a0 then (if (a0:Int).toNat ≤ 35184372088832 then (if 0 ≤ (l1.length:Int) then (if ((l1.length:Int):Int).toNat ≤ 35184372088832 then (spec_l12Patch.l0 k l1 l2 (List.replicate (a0:Int).toNat 0) (List.replicate ((l1.length:Int):Int).toNat 0) 0) else (none)) else (none)) else (none)) else (none)) = some (r1,r2,r3,r4,r5):=h
 clear h
 by_cases c4:0 ≤ a0
 rotate_left
 ·rw [if_neg c4] at H
  exact absurd H (by simp)

 rw [if_pos c4] at H
 have c4b0:=eq_true c4
 have c4b1:decide (0 ≤ a0) = true:=decide_eq_true c4
 clear c4
 by_cases c5:(a0:Int).toNat ≤ 35184372088832
 rotate_left
 ·rw [if_neg c5] at H
  exact absurd H (by simp)
 rw [if_pos c5] at H
 have c5b0:=eq_true c5
 have c5b1:decide ((a0:Int).toNat ≤ 35184372088832) = true:=decide_eq_true c5
 clear c5
 obtain⟨y113,hy113⟩:∃ y_:List Int,y_ = (List.replicate (a0:Int).toNat 0):=⟨_,rfl⟩
 replace H:(if 0 ≤ (l1.length:Int) then (if ((l1.length:Int):Int).toNat ≤ 35184372088832 then (spec_l12Patch.l0 k l1 l2 y113 (List.replicate ((l1.length:Int):Int).toNat 0) 0) else (none)) else (none)) = some (r1,r2,r3,r4,r5):=by first|(rw [hy113];with_reducible exact H)|(have H2_:=(Option.bind_some _ _).symm.trans H;rw [hy113];with_reducible exact H2_)|(have H2_:=(Option.bind_some _ _).symm.trans H;with_reducible exact H2_)|with_reducible exact H|(rw [hy113];exact H)|exact H
 have Ny113:=mk0 hy113
 clear hy113
 by_cases c6:0 ≤ (l1.length:Int)
 rotate_left
 ·rw [if_neg c6] at H
  exact absurd H (by simp)
 rw [if_pos c6] at H
 have c6b0:=eq_true c6
 have c6b1:decide (0 ≤ (l1.length:Int)) = true:=decide_eq_true c6
 clear c6
 by_cases c7:((l1.length:Int):Int).toNat ≤ 35184372088832
 rotate_left
 ·rw [if_neg c7] at H
  exact absurd H (by simp)
 rw [if_pos c7] at H
 have c7b0:=eq_true c7
 have c7b1:decide (((l1.length:Int):Int).toNat ≤ 35184372088832) = true:=decide_eq_true c7
 clear c7
 obtain⟨y116,hy116⟩:∃ y_:List Int,y_ = (List.replicate ((l1.length:Int):Int).toNat 0):=⟨_,rfl⟩
 replace H:(spec_l12Patch.l0 k l1 l2 y113 y116 0) = some (r1,r2,r3,r4,r5):=by first|(rw [hy116];with_reducible exact H)|(have H2_:=(Option.bind_some _ _).symm.trans H;rw [hy116];with_reducible exact H2_)|(have H2_:=(Option.bind_some _ _).symm.trans H;with_reducible exact H2_)|with_reducible exact H|(rw [hy116];exact H)|exact H
 have Ny116:=mk0 hy116
 clear hy116
 have H':=mk0 H
 clear H
 go_enter Try.func24,Try.ntmps24
 go_wp2_with (first|((with_reducible refine gate_dst (N:=6) rfl ?_);refine box_event ?hg (N:=6) ?hd (cs:=#[.int .i64 0,.slice none 0 0,.int .i64 0,.slice none 0 0,.slice none 0 0]) (t:=27) ?hr ?_;(case hd=>rfl);(case hg=>rfl);(case hr=>first|(go_simp;done)|(go_simp;rfl));intro gb112 hg w8 hbox hb;have n0_:=mk0 (below_step (by repeat (first|(with_reducible first|exact HB.out|apply aZ|apply nZ|apply dZ)|exact HB.out)) hb);have n1_:=mk0 (hbox);have n2_:=mk0 ((by rw [hg];exact (below_size (by repeat (first|(with_reducible first|exact HB.out|apply aZ|apply nZ|apply dZ)|exact HB.out))):w.heap.size ≤ gb112));have n3_:=mk0 ((by rw [hg];exact (below_size (by repeat (first|(with_reducible first|exact HB.out|apply aZ|apply nZ|apply dZ)|exact HB.out))):w.heap.size ≤ gb112));clear HB;have HB:=n0_;have BK112:=n1_;have GW112:=n2_;have GE112:=n3_;clear n0_ n1_ n2_ n3_ hb hbox hg)|((with_reducible refine gate_dst (N:=13) rfl ?_);refine Kd.R_make (Kd.int .i64) _ 3 rfl (N:=13) rfl 22 _ _ rfl a0 rfl rfl Try.underlying22 (.int .i64 0) 8 info3 rfl (by decide) (by omega) 0 (ok:=fun _=>True) (okp:=fun _=>True) rfl (fun _ hk=>hk) trivial (of_decide_eq_true (by first|(with_reducible assumption)|assumption)) (Nat.le_trans (Nat.mul_le_mul_right _ (of_decide_eq_true (by first|(with_reducible assumption)|assumption):a0.toNat ≤ 35184372088832)) (by omega)) (Below.refl _ _) (Nat.le_refl _) ?_;intro v114 w9 ho10 hb hg_ hnew_;clear hg_ hnew_;(first|rw [← Ny113.out] at ho10|(simp only [Int.reduceToNat] at ho10;rw [← Ny113.out] at ho10));have n0_:=mk0 (Kd.R_lower ho10 (below_size (by repeat (first|(with_reducible first|exact HB.out|apply aZ|apply nZ|apply dZ|refine sZ ?_ GE112.out)|exact HB.out))));have n1_:=mk0 (blk_below (g:=gb112) (o:=.cells #[.int .i64 0,.slice none 0 0,.int .i64 0,.slice none 0 0,.slice none 0 0] 27 (0,0)) (by (with_reducible repeat (first|apply nB|apply dB|apply aB));exact BK112.out) hb);have n2_:=mk0 (below_step (by repeat (first|(with_reducible first|exact HB.out|apply aZ|apply nZ|apply dZ|refine sZ ?_ GE112.out)|exact HB.out)) hb);clear BK112 HB;have HO115:=n0_;have BK112:=n1_;have HB:=n2_;clear n0_ n1_ n2_ hb ho10)|((with_reducible refine gate_dst (N:=16) rfl ?_);refine Kd.R_make (Kd.int .i64) _ 3 rfl (N:=16) rfl 22 _ _ rfl (l1.length:Int) rfl rfl Try.underlying22 (.int .i64 0) 8 info3 rfl (by decide) (by omega) 0 (ok:=fun _=>True) (okp:=fun _=>True) rfl (fun _ hk=>hk) trivial (of_decide_eq_true (by first|(with_reducible assumption)|assumption)) (Nat.le_trans (Nat.mul_le_mul_right _ (of_decide_eq_true (by first|(with_reducible assumption)|assumption):(l1.length:Int).toNat ≤ 35184372088832)) (by omega)) (Below.refl _ _) (Nat.le_refl _) ?_;intro v117 w11 ho12 hb hg_ hnew_;clear hg_ hnew_;(first|rw [← Ny116.out] at ho12|(simp only [Int.reduceToNat] at ho12;rw [← Ny116.out] at ho12));have n0_:=mk0 (Kd.R_elder' (by (with_reducible repeat (first|apply aR|apply nR|apply dR));exact HO115.out) (Kd.R_base ho12) hb);have n1_:=mk0 (Kd.R_lower (Kd.R_new' ho12 (Kd.R_lt (by (with_reducible repeat (first|apply aR|apply nR|apply dR));exact HO115.out))) (below_size (by repeat (first|(with_reducible first|exact HB.out|apply aZ|apply nZ|apply dZ|refine sZ ?_ GE112.out)|exact HB.out))));have n2_:=mk0 (blk_below (g:=gb112) (o:=.cells #[.int .i64 0,.slice none 0 0,.int .i64 0,.slice none 0 0,.slice none 0 0] 27 (0,0)) (by (with_reducible repeat (first|apply nB|apply dB|apply aB));exact BK112.out) hb);have n3_:=mk0 (below_step (by repeat (first|(with_reducible first|exact HB.out|apply aZ|apply nZ|apply dZ|refine sZ ?_ GE112.out)|exact HB.out)) hb);clear HO115 BK112 HB;have HO115:=n0_;have HO118:=n1_;have BK112:=n2_;have HB:=n3_;clear n0_ n1_ n2_ n3_ hb ho12))
 go_loopg [9] k (fun kq v9 w'=>∃ (x7_1:List Int) (x8_1:List Int) (x9_1:Int),v9 = .int .i64 x9_1 ∧ Aside0 (spec_l12Patch.l0 kq l1 l2 x7_1 x8_1 x9_1 = some (r1,r2,r3,r4,r5)) ∧ Aside0 (kq ≤ k) ∧ Aside0 (Kd.R (Kd.int .i64) 3 w' w.heap.size (fun k_=>some k_ ≠ (v117:Value).ownBlock) v114 x7_1) ∧ Aside0 (Kd.R (Kd.int .i64) 3 w' w.heap.size (fun k_=>some k_ ≠ (v114:Value).ownBlock) v117 x8_1) ∧ Aside0 (w'.heap[gb112]? = some (.cells #[.int .i64 0,(.slice none 0 0),.int .i64 0,(.slice none 0 0),(.slice none 0 0)] 27 (0,0))) ∧ Aside0 (Below w.heap.size w w'))
 case atStart=>exact⟨(y113),(y116),(0),(by first|rfl|(simp;done)|(simp [*];done)),H',⟨Nat.le_refl _⟩,⟨by (with_reducible repeat (first|apply aR|apply nR|apply dR));exact Kd.R_mono HO115.out (by first|exact fun _ hk=>hk.2|(intro k_ hk;simp only [hk,ne_eq,and_self,not_false_eq_true]))⟩,⟨by (with_reducible repeat (first|apply aR|apply nR|apply dR));exact Kd.R_mono HO118.out (by first|exact fun _ hk=>hk.2|(intro k_ hk;simp only [hk,ne_eq,and_self,not_false_eq_true]))⟩,⟨by (with_reducible repeat (first|apply nB|apply dB|apply aB));exact BK112.out⟩,⟨by repeat (first|(with_reducible first|exact HB.out|apply aZ|apply nZ|apply dZ|refine sZ ?_ GE112.out)|exact HB.out)⟩⟩
 case round =>
  clear H'
  try clear c1
  try clear c2
  try clear p2
  try clear c4
  try clear c4b0
  try clear c4b1
  try clear c5
  try clear c5b0
  try clear c5b1
  try clear c6
  try clear c6b0
  try clear c6b1
  try clear c7
  try clear c7b0
  try clear c7b1
  obtain⟨x7_1,x8_1,x9_1,rfl,HA,HK1,HO_7,HO_8,BK112,HB⟩:=hrel
  cases gk with
  | zero=>exact absurd HA.out (by simp [spec_l12Patch.l0])
  | succ k1 =>
   have H:=HA.out
   clear HA
   simp only [spec_l12Patch.l0] at H
   by_cases c13:x9_1 < (l2.length:Int)
   ·rw [if_pos c13] at H
    have c13b0:decide (x9_1 < (l2.length:Int)) = true:=decide_eq_true c13
    clear c13
    by_cases c14:0 ≤ x9_1
    rotate_left
    ·rw [if_neg c14] at H
     exact absurd H (by simp)
    rw [if_pos c14] at H
    have c14b0:decide (0 ≤ x9_1) = true:=decide_eq_true c14
    clear c14
    by_cases c15:0 ≤ ((rd_T70 l2 x9_1).f0)
    rotate_left
    ·rw [if_neg c15] at H
     exact absurd H (by simp)
    rw [if_pos c15] at H
    have c15b0:decide (0 ≤ ((rd_T70 l2 x9_1).f0)) = true:=decide_eq_true c15
    clear c15
    by_cases c16:((rd_T70 l2 x9_1).f0) < (x7_1.length:Int)
    rotate_left
    ·rw [if_neg c16] at H
     exact absurd H (by simp)
    rw [if_pos c16] at H
    have c16b0:decide (((rd_T70 l2 x9_1).f0) < (x7_1.length:Int)) = true:=decide_eq_true c16
    clear c16
    obtain⟨y120,hy120⟩:∃ y_:List Int,y_ = (x7_1.set (((rd_T70 l2 x9_1).f0):Int).toNat 1):=⟨_,rfl⟩
    replace H:(if 0 ≤ ((rd_T70 l2 x9_1).f1) then (if ((rd_T70 l2 x9_1).f1) < (x8_1.length:Int) then (spec_l12Patch.l0 k1 l1 l2 y120 (x8_1.set (((rd_T70 l2 x9_1).f1):Int).toNat 1) (wrap64 (x9_1 + 1))) else (none)) else (none)) = some (r1,r2,r3,r4,r5):=by first|(rw [hy120];with_reducible exact H)|(have H2_:=(Option.bind_some _ _).symm.trans H;rw [hy120];with_reducible exact H2_)|(have H2_:=(Option.bind_some _ _).symm.trans H;with_reducible exact H2_)|with_reducible exact H|(rw [hy120];exact H)|exact H
    have Ny120:=mk0 hy120
    clear hy120
    by_cases c18:0 ≤ ((rd_T70 l2 x9_1).f1)
    rotate_left
    ·rw [if_neg c18] at H
     exact absurd H (by simp)
    rw [if_pos c18] at H
    have c18b0:decide (0 ≤ ((rd_T70 l2 x9_1).f1)) = true:=decide_eq_true c18
    clear c18
    by_cases c19:((rd_T70 l2 x9_1).f1) < (x8_1.length:Int)
    rotate_left
    ·rw [if_neg c19] at H
     exact absurd H (by simp)
    rw [if_pos c19] at H
    have c19b0:decide (((rd_T70 l2 x9_1).f1) < (x8_1.length:Int)) = true:=decide_eq_true c19
    clear c19
    obtain⟨y122,hy122⟩:∃ y_:List Int,y_ = (x8_1.set (((rd_T70 l2 x9_1).f1):Int).toNat 1):=⟨_,rfl⟩
    replace H:(spec_l12Patch.l0 k1 l1 l2 y120 y122 (wrap64 (x9_1 + 1))) = some (r1,r2,r3,r4,r5):=by first|(rw [hy122];with_reducible exact H)|(have H2_:=(Option.bind_some _ _).symm.trans H;rw [hy122];with_reducible exact H2_)|(have H2_:=(Option.bind_some _ _).symm.trans H;with_reducible exact H2_)|with_reducible exact H|(rw [hy122];exact H)|exact H
    have Ny122:=mk0 hy122
    clear hy122
    have H':=mk0 H
    clear H
    have p119:0 ≤ (x9_1:Int):=of_decide_eq_true (by first|(with_reducible assumption)|assumption)
    have q119:x9_1 < (l2.length:Int):=of_decide_eq_true (by first|(with_reducible assumption)|assumption)
    obtain⟨ad119,e119,hx119_0,hx119_1⟩:=at_T70 HR2.out x9_1 p119 q119
    cases e119
    replace hx119_0:=(HB.out.cell (World.block_lt_of_cell? w _ hx119_0)).trans hx119_0
    replace hx119_1:=(HB.out.cell (World.block_lt_of_cell? w _ hx119_1)).trans hx119_1
    replace p119:=eq_true p119
    replace q119:=eq_true q119
    have p17:0 ≤ (((rd_T70 l2 x9_1).f0):Int):=of_decide_eq_true (by first|(with_reducible assumption)|assumption)
    have q17:(((rd_T70 l2 x9_1).f0):Int) < ((x7_1.length:Int):Int):=of_decide_eq_true (by first|(with_reducible assumption)|assumption)
    obtain⟨go17,co17,eo17,gb17,gl17,cl17,HG17⟩:=Kd.R_form HO_7.out (by omega)
    (first|cases eo17|(injection eo17 with ea_ en_ ec_;(first|subst ea_|(injection ea_ with ea_;subst ea_));subst ec_;clear en_))
    have GB17:=mk0 gb17
    have GG17:=mk0 HG17
    clear gb17 gl17 HG17
    obtain⟨hx17_0,hf17_0⟩:=Kd.R_celln 0 HO_7.out (((rd_T70 l2 x9_1).f0):Int) p17 q17
    replace p17:=eq_true p17
    replace q17:=eq_true q17
    have HP21:=Kd.R_putg HO_7.out (((rd_T70 l2 x9_1).f0):Int) 1
    go_wp2_with (first|((with_reducible refine gate_store (t:=3) (p:=29) rfl ?_);refine store_event (t:=3) (p:=29) (v:=?vo_w22) (w1:=(wr.setCell ⟨go17,(((rd_T70 l2 x9_1).f0):Int).toNat,none⟩ (.int .i64 1))) ?hg ?ho ?hn ?hr ?_;(case ho=>rfl);(case hg=>rfl);(case hn=>rfl);(case hr=>first|(go_simp;done)|(go_simp;rfl));intro w22 hw;have hg:wr.grownBy w22 (some go17):=(by rw [hw];exact HP21.2);have hp_:Kd.R (Kd.int .i64) 3 w22 w.heap.size (fun k_=>some k_ ≠ (v117:Value).ownBlock) (.slice (some ⟨go17,0,none⟩) x7_1.length co17) y120:=(by rw [hw,Ny120.out];exact HP21.1);clear HP21;have n0_:=mk0 (hp_);have n1_:=mk0 (Kd.R_after (v:=(.slice (some ⟨go17,0,none⟩) x7_1.length co17)) (v1:=(.slice (some ⟨go17,0,none⟩) x7_1.length co17)) (ok:=(fun _=>True)) (by (with_reducible repeat (first|apply aR|apply nR|apply dR));exact Kd.R_mono HO_8.out (fun _ hk=>⟨trivial,hk⟩)) hg (.inl rfl));have n2_:=mk0 (blk_grown (g:=gb112) (o:=.cells #[.int .i64 0,.slice none 0 0,.int .i64 0,.slice none 0 0,.slice none 0 0] 27 (0,0)) (by (with_reducible repeat (first|apply nB|apply dB|apply aB));exact BK112.out) hg (Kd.R_ne HO_7.out BK112.out (by decide)));have n3_:=mk0 ((by rw [hw];exact sZ (HB.out) GB17.out:Below w.heap.size w w22));clear HO_7 HO_8 BK112 HB;have HO_7:=n0_;have HO_8:=n1_;have BK112:=n2_;have HB:=n3_;clear n0_ n1_ n2_ n3_ hg hw hp_;have p121:0 ≤ (x9_1:Int):=of_decide_eq_true (by first|(with_reducible assumption)|assumption);have q121:x9_1 < (l2.length:Int):=of_decide_eq_true (by first|(with_reducible assumption)|assumption);obtain⟨ad121,e121,hx121_0,hx121_1⟩:=at_T70 HR2.out x9_1 p121 q121;obtain rfl:ad119 = ad121:=(by injection e121);replace hx121_0:=(HB.out.cell (World.block_lt_of_cell? w _ hx121_0)).trans hx121_0;replace hx121_1:=(HB.out.cell (World.block_lt_of_cell? w _ hx121_1)).trans hx121_1;replace p121:=eq_true p121;replace q121:=eq_true q121;have p20:0 ≤ (((rd_T70 l2 x9_1).f1):Int):=of_decide_eq_true (by first|(with_reducible assumption)|assumption);have q20:(((rd_T70 l2 x9_1).f1):Int) < ((x8_1.length:Int):Int):=of_decide_eq_true (by first|(with_reducible assumption)|assumption);obtain⟨go20,co20,eo20,gb20,gl20,cl20,HG20⟩:=Kd.R_form HO_8.out (by omega);(first|cases eo20|(injection eo20 with ea_ en_ ec_;(first|subst ea_|(injection ea_ with ea_;subst ea_));subst ec_;clear en_));have GB20:=mk0 gb20;have GG20:=mk0 HG20;clear gb20 gl20 HG20;obtain⟨hx20_0,hf20_0⟩:=Kd.R_celln 0 HO_8.out (((rd_T70 l2 x9_1).f1):Int) p20 q20;replace p20:=eq_true p20;replace q20:=eq_true q20;have n_:=mk0 (Kd.R_mono (ok':=(fun k_=>some k_ ≠ (.slice (some ⟨go17,0,none⟩) x7_1.length co17:Value).ownBlock)) HO_8.out (fun k_ hk=>hk.2));clear HO_8;have HO_8:=n_;clear n_;obtain⟨hy23_,hz23_⟩:=Kd.R_celln 0 HO_8.out (((rd_T70 l2 x9_1).f1):Int) (of_decide_eq_true (by first|(with_reducible assumption)|assumption)) (of_decide_eq_true (by first|(with_reducible assumption)|assumption));have HP23:=Kd.R_putg HO_8.out (((rd_T70 l2 x9_1).f1):Int) 1)|((with_reducible refine gate_store (t:=3) (p:=36) rfl ?_);refine store_event (t:=3) (p:=36) (v:=?vo_w24) (w1:=(w22.setCell ⟨go20,(((rd_T70 l2 x9_1).f1):Int).toNat,none⟩ (.int .i64 1))) ?hg ?ho ?hn ?hr ?_;(case ho=>rfl);(case hg=>rfl);(case hn=>rfl);(case hr=>first|(go_simp;done)|(go_simp;rfl));intro w24 hw;have hg:w22.grownBy w24 (some go20):=(by rw [hw];exact HP23.2);have hp_:Kd.R (Kd.int .i64) 3 w24 w.heap.size (fun k_=>some k_ ≠ (.slice (some ⟨go17,0,none⟩) x7_1.length co17:Value).ownBlock) (.slice (some ⟨go20,0,none⟩) x8_1.length co20) y122:=(by rw [hw,Ny122.out];exact HP23.1);clear HP23;have n0_:=mk0 (Kd.R_after (v:=(.slice (some ⟨go20,0,none⟩) x8_1.length co20)) (v1:=(.slice (some ⟨go20,0,none⟩) x8_1.length co20)) (ok:=(fun _=>True)) (by (with_reducible repeat (first|apply aR|apply nR|apply dR));exact Kd.R_mono HO_7.out (fun _ hk=>⟨trivial,hk⟩)) hg (.inl rfl));have n1_:=mk0 (hp_);have n2_:=mk0 (blk_grown (g:=gb112) (o:=.cells #[.int .i64 0,.slice none 0 0,.int .i64 0,.slice none 0 0,.slice none 0 0] 27 (0,0)) (by (with_reducible repeat (first|apply nB|apply dB|apply aB));exact BK112.out) hg (Kd.R_ne HO_8.out BK112.out (by decide)));have n3_:=mk0 ((by rw [hw];exact sZ (HB.out) GB20.out:Below w.heap.size w w24));clear HO_7 HO_8 BK112 HB;have HO_7:=n0_;have HO_8:=n1_;have BK112:=n2_;have HB:=n3_;clear n0_ n1_ n2_ n3_ hg hw hp_))
    go_roundg k1
    case measure=>have:=HK1.out;omega
    case rel=>exact⟨(y120),(y122),(wrap64 (x9_1 + 1)),(by first|rfl|(simp;done)|(simp [*];done)),H',⟨by have:=HK1.out;omega⟩,⟨by (with_reducible repeat (first|apply aR|apply nR|apply dR));exact Kd.R_mono HO_7.out (by first|exact fun _ hk=>hk.2|(intro k_ hk;simp only [hk,ne_eq,and_self,not_false_eq_true]))⟩,⟨by (with_reducible repeat (first|apply aR|apply nR|apply dR));exact HO_8.out⟩,⟨by (with_reducible repeat (first|apply nB|apply dB|apply aB));exact BK112.out⟩,⟨by repeat (first|(with_reducible first|exact HB.out|apply aZ|apply nZ|apply dZ|refine sZ ?_ GE112.out)|exact HB.out)⟩⟩
   rw [if_neg c13] at H
   have c13b0:decide (x9_1 < (l2.length:Int)) = false:=decide_eq_false c13
   clear c13
   replace H:=Option.bind_eq_some_iff.mp H
   obtain⟨⟨t124,t125,t128⟩,A250,H⟩:=H
   replace H:((spec_BitsOf.f k1 x8_1).bind fun bt129=>(spec_l12Patch.l1 k1 l1 x8_1 0 t124 t125 bt129.1 bt129.2.1 ([]:List Int))) = some (r1,r2,r3,r4,r5):=H
   have A25:=mk0 A250
   clear A250
   replace H:=Option.bind_eq_some_iff.mp H
   obtain⟨⟨t129,t130,t133⟩,A260,H⟩:=H
   replace H:(spec_l12Patch.l1 k1 l1 x8_1 0 t124 t125 t129 t130 ([]:List Int)) = some (r1,r2,r3,r4,r5):=H
   have A26:=mk0 A260
   clear A260
   have H':=mk0 H
   clear H
   go_wp2_with (first|((with_reducible refine gate_dst (N:=10) rfl ?_);refine box_event ?hg (N:=10) ?hd (cs:=#[.int .i64 0,.slice none 0 0,.int .i64 0,.slice none 0 0,.slice none 0 0]) (t:=27) ?hr ?_;(case hd=>rfl);(case hg=>rfl);(case hr=>first|(go_simp;done)|(go_simp;rfl));intro gb123 hg w27 hbox hb;have n0_:=mk0 (Kd.R_below (by (with_reducible repeat (first|apply aR|apply nR|apply dR));exact HO_7.out) hb);have n1_:=mk0 (Kd.R_below (by (with_reducible repeat (first|apply aR|apply nR|apply dR));exact HO_8.out) hb);have n2_:=mk0 (blk_below (g:=gb112) (o:=.cells #[.int .i64 0,.slice none 0 0,.int .i64 0,.slice none 0 0,.slice none 0 0] 27 (0,0)) (by (with_reducible repeat (first|apply nB|apply dB|apply aB));exact BK112.out) hb);have n3_:=mk0 (below_step (by repeat (first|(with_reducible first|exact HB.out|apply aZ|apply nZ|apply dZ|refine sZ ?_ GE112.out)|exact HB.out)) hb);have n4_:=mk0 (hbox);have n5_:=mk0 ((by rw [hg];exact (below_size (by repeat (first|(with_reducible first|exact HB.out|apply aZ|apply nZ|apply dZ|refine sZ ?_ GE112.out)|exact HB.out))):w.heap.size ≤ gb123));have n6_:=mk0 ((by rw [hg];exact (below_size (by repeat (first|(with_reducible first|exact HB.out|apply aZ|apply nZ|apply dZ|refine sZ ?_ GE112.out)|exact HB.out))):w.heap.size ≤ gb123));have n7_:=mk0 ((by rw [hg];exact Nat.ne_of_lt (blk_lt (g:=gb112) (o:=.cells #[.int .i64 0,.slice none 0 0,.int .i64 0,.slice none 0 0,.slice none 0 0] 27 (0,0)) (by (with_reducible repeat (first|apply nB|apply dB|apply aB));exact BK112.out)):gb112 ≠ gb123));have n8_:=mk0 ((by rw [hg];exact Nat.ne_of_gt (blk_lt (g:=gb112) (o:=.cells #[.int .i64 0,.slice none 0 0,.int .i64 0,.slice none 0 0,.slice none 0 0] 27 (0,0)) (by (with_reducible repeat (first|apply nB|apply dB|apply aB));exact BK112.out)):gb123 ≠ gb112));clear HO_7 HO_8 BK112 HB;have HO_7:=n0_;have HO_8:=n1_;have BK112:=n2_;have HB:=n3_;have BK123:=n4_;have GW123:=n5_;have GE123:=n6_;have NB112_123:=n7_;have NB123_112:=n8_;clear n0_ n1_ n2_ n3_ n4_ n5_ n6_ n7_ n8_ hb hbox hg;have hnb28:=NB123_112.out;have hnc28:=NB112_123.out;have hcz29_0:w27.cell? ⟨gb123,0,none⟩ = some (.int .i64 0):=(blk_cell BK123.out 0).trans rfl;have hcz29_1:w27.cell? ⟨gb123,1,none⟩ = some (.slice none 0 0):=(blk_cell BK123.out 1).trans rfl;have hcz29_2:w27.cell? ⟨gb123,2,none⟩ = some (.int .i64 0):=(blk_cell BK123.out 2).trans rfl;have hcz29_3:w27.cell? ⟨gb123,3,none⟩ = some (.slice none 0 0):=(blk_cell BK123.out 3).trans rfl;have hcz29_4:w27.cell? ⟨gb123,4,none⟩ = some (.slice none 0 0):=(blk_cell BK123.out 4).trans rfl;have hfz29_0:=blk_frozen BK123.out 0;have hfz29_1:=blk_frozen BK123.out 1;have hfz29_2:=blk_frozen BK123.out 2;have hfz29_3:=blk_frozen BK123.out 3;have hfz29_4:=blk_frozen BK123.out 4;obtain⟨Ao30,co30,eo30⟩:=Kd.R_slice HO_7.out;subst eo30)|((with_reducible refine gate_callee (f:=46) rfl ?_);refine goesL_ (some 40) rfl rfl Try.func46 (by kernel_rfl) rfl #[.slice Ao30 x7_1.length co30] rfl (by (try simp only [mA,mC,mN]);first|done|rfl|(simp only [List.length_drop,List.length_take];rfl)) ?_;(with_reducible refine (spec_BitsOf.calls k1 _ _ x7_1 t124 t125 t128 _ ?side1 ?side2 A25.out).mono ?_);(case side1=>refine (Kd.R_reads' (e:=3) (base:=w.heap.size) (ok:=fun k_=>some k_ ≠ (v117:Value).ownBlock) (n:=x7_1.length) (c:=co30) ?_).2.2;exact (by (with_reducible repeat (first|apply aR|apply nR|apply dR));exact (Kd.R_mono (Kd.R_far (p:=⟨gb123,4,none⟩) (Kd.R_far (p:=⟨gb123,3,none⟩) (Kd.R_far (p:=⟨gb123,2,none⟩) (Kd.R_far (p:=⟨gb123,1,none⟩) (Kd.R_far (p:=⟨gb123,0,none⟩) (Kd.R_types HO_7.out BK123.out (by decide)) (by first|exact fun _ hk=>hk.2|(intro k_ hk;simp only [hk,ne_eq,and_self,not_false_eq_true])) (.int .i64 0)) (by first|exact fun _ hk=>hk.2|(intro k_ hk;simp only [hk,ne_eq,and_self,not_false_eq_true])) (.slice none 0 0)) (by first|exact fun _ hk=>hk.2|(intro k_ hk;simp only [hk,ne_eq,and_self,not_false_eq_true])) (.int .i64 0)) (by first|exact fun _ hk=>hk.2|(intro k_ hk;simp only [hk,ne_eq,and_self,not_false_eq_true])) (.slice none 0 0)) (by first|exact fun _ hk=>hk.2|(intro k_ hk;simp only [hk,ne_eq,and_self,not_false_eq_true])) (.slice none 0 0)) (fun _ h_=>h_.1))));(case side2=>exact (Kd.R_reads' HO_7.out).2.1);rintro e w31 ⟨v126,rfl,ho0,hb⟩;refine⟨_,rfl,?_⟩;have n0_:=mk0 (Kd.R_below (by (with_reducible repeat (first|apply aR|apply nR|apply dR));exact (Kd.R_mono (Kd.R_far (p:=⟨gb123,4,none⟩) (Kd.R_far (p:=⟨gb123,3,none⟩) (Kd.R_far (p:=⟨gb123,2,none⟩) (Kd.R_far (p:=⟨gb123,1,none⟩) (Kd.R_far (p:=⟨gb123,0,none⟩) (Kd.R_types HO_7.out BK123.out (by decide)) (by first|exact fun _ hk=>hk.2|(intro k_ hk;simp only [hk,ne_eq,and_self,not_false_eq_true])) (.int .i64 0)) (by first|exact fun _ hk=>hk.2|(intro k_ hk;simp only [hk,ne_eq,and_self,not_false_eq_true])) (.slice none 0 0)) (by first|exact fun _ hk=>hk.2|(intro k_ hk;simp only [hk,ne_eq,and_self,not_false_eq_true])) (.int .i64 0)) (by first|exact fun _ hk=>hk.2|(intro k_ hk;simp only [hk,ne_eq,and_self,not_false_eq_true])) (.slice none 0 0)) (by first|exact fun _ hk=>hk.2|(intro k_ hk;simp only [hk,ne_eq,and_self,not_false_eq_true])) (.slice none 0 0)) (fun _ h_=>h_.1))) hb);have n1_:=mk0 (Kd.R_below (by (with_reducible repeat (first|apply aR|apply nR|apply dR));exact (Kd.R_mono (Kd.R_far (p:=⟨gb123,4,none⟩) (Kd.R_far (p:=⟨gb123,3,none⟩) (Kd.R_far (p:=⟨gb123,2,none⟩) (Kd.R_far (p:=⟨gb123,1,none⟩) (Kd.R_far (p:=⟨gb123,0,none⟩) (Kd.R_types HO_8.out BK123.out (by decide)) (by first|exact fun _ hk=>hk.2|(intro k_ hk;simp only [hk,ne_eq,and_self,not_false_eq_true])) (.int .i64 0)) (by first|exact fun _ hk=>hk.2|(intro k_ hk;simp only [hk,ne_eq,and_self,not_false_eq_true])) (.slice none 0 0)) (by first|exact fun _ hk=>hk.2|(intro k_ hk;simp only [hk,ne_eq,and_self,not_false_eq_true])) (.int .i64 0)) (by first|exact fun _ hk=>hk.2|(intro k_ hk;simp only [hk,ne_eq,and_self,not_false_eq_true])) (.slice none 0 0)) (by first|exact fun _ hk=>hk.2|(intro k_ hk;simp only [hk,ne_eq,and_self,not_false_eq_true])) (.slice none 0 0)) (fun _ h_=>h_.1))) hb);have n2_:=mk0 (Kd.R_lower ho0 (below_size (by repeat (first|(with_reducible first|exact HB.out|apply aZ|apply nZ|apply dZ|refine sZ ?_ GE112.out|refine sZ ?_ GE123.out)|exact HB.out))));have n3_:=mk0 (blk_below (g:=gb112) (o:=.cells #[.int .i64 0,.slice none 0 0,.int .i64 0,.slice none 0 0,.slice none 0 0] 27 (0,0)) (by (with_reducible repeat (first|apply nB|apply dB|apply aB));refine blk_far ?_ NB112_123.out _;(with_reducible repeat (first|apply nB|apply dB|apply aB));refine blk_far ?_ NB112_123.out _;(with_reducible repeat (first|apply nB|apply dB|apply aB));refine blk_far ?_ NB112_123.out _;(with_reducible repeat (first|apply nB|apply dB|apply aB));refine blk_far ?_ NB112_123.out _;(with_reducible repeat (first|apply nB|apply dB|apply aB));refine blk_far ?_ NB112_123.out _;(with_reducible repeat (first|apply nB|apply dB|apply aB));exact BK112.out) hb);have n4_:=mk0 (blk_below (g:=gb123) (o:=.cells #[.int .i64 0,.slice none 0 0,.int .i64 0,.slice none 0 0,.slice none 0 0] 27 (0,0)) (by (with_reducible repeat (first|apply nB|apply dB|apply aB));refine blk_put (cs:=#[.int .i64 0,.slice none 0 0,.int .i64 0,.slice none 0 0,.slice none 0 0]) ?_ 4 _ rfl;(with_reducible repeat (first|apply nB|apply dB|apply aB));refine blk_put (cs:=#[.int .i64 0,.slice none 0 0,.int .i64 0,.slice none 0 0,.slice none 0 0]) ?_ 3 _ rfl;(with_reducible repeat (first|apply nB|apply dB|apply aB));refine blk_put (cs:=#[.int .i64 0,.slice none 0 0,.int .i64 0,.slice none 0 0,.slice none 0 0]) ?_ 2 _ rfl;(with_reducible repeat (first|apply nB|apply dB|apply aB));refine blk_put (cs:=#[.int .i64 0,.slice none 0 0,.int .i64 0,.slice none 0 0,.slice none 0 0]) ?_ 1 _ rfl;(with_reducible repeat (first|apply nB|apply dB|apply aB));refine blk_put (cs:=#[.int .i64 0,.slice none 0 0,.int .i64 0,.slice none 0 0,.slice none 0 0]) ?_ 0 _ rfl;(with_reducible repeat (first|apply nB|apply dB|apply aB));exact BK123.out) hb);have n5_:=mk0 (below_step (by repeat (first|(with_reducible first|exact HB.out|apply aZ|apply nZ|apply dZ|refine sZ ?_ GE112.out|refine sZ ?_ GE123.out)|exact HB.out)) hb);clear HO_7 HO_8 BK112 BK123 HB;have HO_7:=n0_;have HO_8:=n1_;have HO127:=n2_;have BK112:=n3_;have BK123:=n4_;have HB:=n5_;clear n0_ n1_ n2_ n3_ n4_ n5_;(try clear hb);(try clear hb2);(try clear hk);(try clear hi);(try clear ho0);have hcz32_0:w31.cell? ⟨gb123,0,none⟩ = some (.int .i64 0):=(blk_cell BK123.out 0).trans rfl;have hcz32_1:w31.cell? ⟨gb123,1,none⟩ = some (.slice none 0 0):=(blk_cell BK123.out 1).trans rfl;have hcz32_2:w31.cell? ⟨gb123,2,none⟩ = some (.int .i64 0):=(blk_cell BK123.out 2).trans rfl;have hcz32_3:w31.cell? ⟨gb123,3,none⟩ = some (.slice none 0 0):=(blk_cell BK123.out 3).trans rfl;have hcz32_4:w31.cell? ⟨gb123,4,none⟩ = some (.slice none 0 0):=(blk_cell BK123.out 4).trans rfl;have hfz32_0:=blk_frozen BK123.out 0;have hfz32_1:=blk_frozen BK123.out 1;have hfz32_2:=blk_frozen BK123.out 2;have hfz32_3:=blk_frozen BK123.out 3;have hfz32_4:=blk_frozen BK123.out 4;obtain⟨Ao33,co33,eo33⟩:=Kd.R_slice HO127.out;subst eo33;obtain⟨Ao34,co34,eo34⟩:=Kd.R_slice HO_8.out;subst eo34)|((with_reducible refine gate_callee (f:=46) rfl ?_);refine goesL_ (some 46) rfl rfl Try.func46 (by kernel_rfl) rfl #[.slice Ao34 x8_1.length co34] rfl (by (try simp only [mA,mC,mN]);first|done|rfl|(simp only [List.length_drop,List.length_take];rfl)) ?_;(with_reducible refine (spec_BitsOf.calls k1 _ _ x8_1 t129 t130 t133 _ ?side1 ?side2 A26.out).mono ?_);(case side1=>refine (Kd.R_reads' (e:=3) (base:=w.heap.size) (ok:=fun k_=>some k_ ≠ (.slice Ao30 x7_1.length co30:Value).ownBlock) (n:=x8_1.length) (c:=co34) ?_).2.2;exact (by (with_reducible repeat (first|apply aR|apply nR|apply dR));exact (Kd.R_mono (Kd.R_far (p:=⟨gb123,1,none⟩) (Kd.R_far (p:=⟨gb123,0,none⟩) (Kd.R_types HO_8.out BK123.out (by decide)) (by first|exact fun _ hk=>hk.2|(intro k_ hk;simp only [hk,ne_eq,and_self,not_false_eq_true])) (.int .i64 t124)) (by first|exact fun _ hk=>hk.2|(intro k_ hk;simp only [hk,ne_eq,and_self,not_false_eq_true])) (.slice Ao33 t125.length co33)) (fun _ h_=>h_.1))));(case side2=>exact (Kd.R_reads' HO_8.out).2.1);rintro e w35 ⟨v131,rfl,ho0,hb⟩;refine⟨_,rfl,?_⟩;have n0_:=mk0 (Kd.R_below (by (with_reducible repeat (first|apply aR|apply nR|apply dR));exact (Kd.R_mono (Kd.R_far (p:=⟨gb123,1,none⟩) (Kd.R_far (p:=⟨gb123,0,none⟩) (Kd.R_types HO_7.out BK123.out (by decide)) (by first|exact fun _ hk=>hk.2|(intro k_ hk;simp only [hk,ne_eq,and_self,not_false_eq_true])) (.int .i64 t124)) (by first|exact fun _ hk=>hk.2|(intro k_ hk;simp only [hk,ne_eq,and_self,not_false_eq_true])) (.slice Ao33 t125.length co33)) (fun _ h_=>h_.1))) hb);have n1_:=mk0 (Kd.R_below (by (with_reducible repeat (first|apply aR|apply nR|apply dR));exact (Kd.R_mono (Kd.R_far (p:=⟨gb123,1,none⟩) (Kd.R_far (p:=⟨gb123,0,none⟩) (Kd.R_types HO_8.out BK123.out (by decide)) (by first|exact fun _ hk=>hk.2|(intro k_ hk;simp only [hk,ne_eq,and_self,not_false_eq_true])) (.int .i64 t124)) (by first|exact fun _ hk=>hk.2|(intro k_ hk;simp only [hk,ne_eq,and_self,not_false_eq_true])) (.slice Ao33 t125.length co33)) (fun _ h_=>h_.1))) hb);have n2_:=mk0 (Kd.R_elder' (by (with_reducible repeat (first|apply aR|apply nR|apply dR));exact (Kd.R_mono (Kd.R_far (p:=⟨gb123,1,none⟩) (Kd.R_far (p:=⟨gb123,0,none⟩) (Kd.R_types HO127.out BK123.out (by decide)) (by first|exact fun _ hk=>hk.2|(intro k_ hk;simp only [hk,ne_eq,and_self,not_false_eq_true])) (.int .i64 t124)) (by first|exact fun _ hk=>hk.2|(intro k_ hk;simp only [hk,ne_eq,and_self,not_false_eq_true])) (.slice Ao33 t125.length co33)) (fun _ h_=>h_.1))) (Kd.R_base ho0) hb);have n3_:=mk0 (Kd.R_lower (Kd.R_new' ho0 (Kd.R_lt (by (with_reducible repeat (first|apply aR|apply nR|apply dR));exact (Kd.R_mono (Kd.R_far (p:=⟨gb123,1,none⟩) (Kd.R_far (p:=⟨gb123,0,none⟩) (Kd.R_types HO127.out BK123.out (by decide)) (by first|exact fun _ hk=>hk.2|(intro k_ hk;simp only [hk,ne_eq,and_self,not_false_eq_true])) (.int .i64 t124)) (by first|exact fun _ hk=>hk.2|(intro k_ hk;simp only [hk,ne_eq,and_self,not_false_eq_true])) (.slice Ao33 t125.length co33)) (fun _ h_=>h_.1))))) (below_size (by repeat (first|(with_reducible first|exact HB.out|apply aZ|apply nZ|apply dZ|refine sZ ?_ GE112.out|refine sZ ?_ GE123.out)|exact HB.out))));have n4_:=mk0 (blk_below (g:=gb112) (o:=.cells #[.int .i64 0,.slice none 0 0,.int .i64 0,.slice none 0 0,.slice none 0 0] 27 (0,0)) (by (with_reducible repeat (first|apply nB|apply dB|apply aB));refine blk_far ?_ NB112_123.out _;(with_reducible repeat (first|apply nB|apply dB|apply aB));refine blk_far ?_ NB112_123.out _;(with_reducible repeat (first|apply nB|apply dB|apply aB));exact BK112.out) hb);have n5_:=mk0 (blk_below (g:=gb123) (o:=.cells #[.int .i64 t124,.slice Ao33 t125.length co33,.int .i64 0,.slice none 0 0,.slice none 0 0] 27 (0,0)) (by (with_reducible repeat (first|apply nB|apply dB|apply aB));refine blk_put (cs:=#[.int .i64 t124,.slice none 0 0,.int .i64 0,.slice none 0 0,.slice none 0 0]) ?_ 1 _ rfl;(with_reducible repeat (first|apply nB|apply dB|apply aB));refine blk_put (cs:=#[.int .i64 0,.slice none 0 0,.int .i64 0,.slice none 0 0,.slice none 0 0]) ?_ 0 _ rfl;(with_reducible repeat (first|apply nB|apply dB|apply aB));exact BK123.out) hb);have n6_:=mk0 (below_step (by repeat (first|(with_reducible first|exact HB.out|apply aZ|apply nZ|apply dZ|refine sZ ?_ GE112.out|refine sZ ?_ GE123.out)|exact HB.out)) hb);clear HO_7 HO_8 HO127 BK112 BK123 HB;have HO_7:=n0_;have HO_8:=n1_;have HO127:=n2_;have HO132:=n3_;have BK112:=n4_;have BK123:=n5_;have HB:=n6_;clear n0_ n1_ n2_ n3_ n4_ n5_ n6_;(try clear hb);(try clear hb2);(try clear hk);(try clear hi);(try clear ho0);have hcz36_0:w35.cell? ⟨gb123,0,none⟩ = some (.int .i64 t124):=(blk_cell BK123.out 0).trans rfl;have hcz36_1:w35.cell? ⟨gb123,1,none⟩ = some (.slice Ao33 t125.length co33):=(blk_cell BK123.out 1).trans rfl;have hcz36_2:w35.cell? ⟨gb123,2,none⟩ = some (.int .i64 0):=(blk_cell BK123.out 2).trans rfl;have hcz36_3:w35.cell? ⟨gb123,3,none⟩ = some (.slice none 0 0):=(blk_cell BK123.out 3).trans rfl;have hcz36_4:w35.cell? ⟨gb123,4,none⟩ = some (.slice none 0 0):=(blk_cell BK123.out 4).trans rfl;have hfz36_0:=blk_frozen BK123.out 0;have hfz36_1:=blk_frozen BK123.out 1;have hfz36_2:=blk_frozen BK123.out 2;have hfz36_3:=blk_frozen BK123.out 3;have hfz36_4:=blk_frozen BK123.out 4;obtain⟨Ao37,co37,eo37⟩:=Kd.R_slice HO132.out;subst eo37))
   go_loopg [11] k1 (fun kq v11 w'=>∃ (x11_2:Int) (x124004_2:List Int) (u124004:Value),v11 = .int .i64 x11_2 ∧ Aside0 (spec_l12Patch.l1 kq l1 x8_1 x11_2 t124 t125 t129 t130 x124004_2 = some (r1,r2,r3,r4,r5)) ∧ Aside0 (kq ≤ k1) ∧ Aside0 (Kd.R (Kd.int .i64) 3 w' w.heap.size (fun k_=>some k_ ≠ (u124004:Value).ownBlock) (.slice Ao34 x8_1.length co34) x8_1) ∧ Aside0 (Kd.R (Kd.int .u64) 77 w' w.heap.size (fun k_=>some k_ ≠ ((.slice Ao37 t130.length co37):Value).ownBlock) (.slice Ao33 t125.length co33) t125) ∧ Aside0 (Kd.R (Kd.int .u64) 77 w' w.heap.size (fun k_=>some k_ ≠ ((.slice Ao33 t125.length co33):Value).ownBlock) (.slice Ao37 t130.length co37) t130) ∧ Aside0 (Kd.R (Kd.int .i64) 3 w' w.heap.size (fun k_=>some k_ ≠ ((.slice Ao34 x8_1.length co34):Value).ownBlock) u124004 x124004_2) ∧ Aside0 (w'.heap[gb112]? = some (.cells #[.int .i64 0,(.slice none 0 0),.int .i64 0,(.slice none 0 0),(.slice none 0 0)] 27 (0,0))) ∧ Aside0 (w'.heap[gb123]? = some (.cells #[.int .i64 t124,(.slice Ao33 t125.length co33),.int .i64 t129,(.slice Ao37 t130.length co37),u124004] 27 (0,0))) ∧ Aside0 (Below w.heap.size w w'))
   case atStart=>exact⟨(0),(([]:List Int)),(.slice none 0 0),(by first|rfl|(simp;done)|(simp [*];done)),H',⟨Nat.le_refl _⟩,⟨by (with_reducible repeat (first|apply aR|apply nR|apply dR));exact Kd.R_mono (Kd.R_far (p:=⟨gb123,3,none⟩) (Kd.R_far (p:=⟨gb123,2,none⟩) (Kd.R_types HO_8.out BK123.out (by decide)) (by first|exact fun _ hk=>hk.2|(intro k_ hk;simp only [hk,ne_eq,and_self,not_false_eq_true])) (.int .i64 t129)) (by first|exact fun _ hk=>hk.2|(intro k_ hk;simp only [hk,ne_eq,and_self,not_false_eq_true])) (.slice Ao37 t130.length co37)) (fun _ hk=>(by simp [Value.ownBlock]))⟩,⟨by (with_reducible repeat (first|apply aR|apply nR|apply dR));exact Kd.R_mono (Kd.R_far (p:=⟨gb123,3,none⟩) (Kd.R_far (p:=⟨gb123,2,none⟩) (Kd.R_types HO127.out BK123.out (by decide)) (by first|exact fun _ hk=>hk.2|(intro k_ hk;simp only [hk,ne_eq,and_self,not_false_eq_true])) (.int .i64 t129)) (by first|exact fun _ hk=>hk.2|(intro k_ hk;simp only [hk,ne_eq,and_self,not_false_eq_true])) (.slice Ao37 t130.length co37)) (by first|exact fun _ hk=>hk.1.2|(intro k_ hk;simp only [hk,ne_eq,and_self,not_false_eq_true]))⟩,⟨by (with_reducible repeat (first|apply aR|apply nR|apply dR));exact Kd.R_mono (Kd.R_far (p:=⟨gb123,3,none⟩) (Kd.R_far (p:=⟨gb123,2,none⟩) (Kd.R_types HO132.out BK123.out (by decide)) (by first|exact fun _ hk=>hk.2|(intro k_ hk;simp only [hk,ne_eq,and_self,not_false_eq_true])) (.int .i64 t129)) (by first|exact fun _ hk=>hk.2|(intro k_ hk;simp only [hk,ne_eq,and_self,not_false_eq_true])) (.slice Ao37 t130.length co37)) (by first|exact fun _ hk=>hk.1.2|(intro k_ hk;simp only [hk,ne_eq,and_self,not_false_eq_true]))⟩,⟨by first|exact Kd.R_nil _ _ _ _ _|exact Kd.N_nil _ _ _ _ _|exact Kd.V_nil _ _ _ _ _|exact Kd.Q_nil _ _ _ _ _|exact Kd.S_nil _ _ _ _ _⟩,⟨by (with_reducible repeat (first|apply nB|apply dB|apply aB));refine blk_far ?_ NB112_123.out _;(with_reducible repeat (first|apply nB|apply dB|apply aB));refine blk_far ?_ NB112_123.out _;(with_reducible repeat (first|apply nB|apply dB|apply aB));exact BK112.out⟩,⟨by (with_reducible repeat (first|apply nB|apply dB|apply aB));refine blk_put (cs:=#[.int .i64 t124,.slice Ao33 t125.length co33,.int .i64 t129,.slice none 0 0,.slice none 0 0]) ?_ 3 _ rfl;(with_reducible repeat (first|apply nB|apply dB|apply aB));refine blk_put (cs:=#[.int .i64 t124,.slice Ao33 t125.length co33,.int .i64 0,.slice none 0 0,.slice none 0 0]) ?_ 2 _ rfl;(with_reducible repeat (first|apply nB|apply dB|apply aB));exact BK123.out⟩,⟨by repeat (first|(with_reducible first|exact HB.out|apply aZ|apply nZ|apply dZ|refine sZ ?_ GE112.out|refine sZ ?_ GE123.out)|exact HB.out)⟩⟩
   case round =>
    clear H'
    try clear c1
    try clear p1
    try clear q1
    try clear hx1
    try clear c2
    try clear p2
    try clear q2
    try clear hx2
    try clear c4
    try clear c4b0
    try clear c4b1
    try clear c5
    try clear c5b0
    try clear c5b1
    try clear c6
    try clear c6b0
    try clear c6b1
    try clear p6
    try clear c7
    try clear c7b0
    try clear c7b1
    try clear p11
    try clear q11
    try clear hx11
    try clear p12
    try clear q12
    try clear hx12
    try clear c13
    try clear c13b0
    try clear c14
    try clear c14b0
    try clear c15
    try clear c15b0
    try clear c16
    try clear c16b0
    try clear p17
    try clear q17
    try clear hx17
    try clear hf17
    try clear c18
    try clear c18b0
    try clear c19
    try clear c19b0
    try clear p20
    try clear q20
    try clear hx20
    try clear hf20
    try clear c24
    try clear c28
    try clear hcz29_0
    try clear hcz29_1
    try clear hcz29_2
    try clear hcz29_3
    try clear hcz29_4
    try clear hcz32_0
    try clear hcz32_1
    try clear hcz32_2
    try clear hcz32_3
    try clear hcz32_4
    try clear hcz36_0
    try clear hcz36_1
    try clear hcz36_2
    try clear hcz36_3
    try clear hcz36_4
    try clear hfz29_0
    try clear hfz29_1
    try clear hfz29_2
    try clear hfz29_3
    try clear hfz29_4
    try clear hfz32_0
    try clear hfz32_1
    try clear hfz32_2
    try clear hfz32_3
    try clear hfz32_4
    try clear hfz36_0
    try clear hfz36_1
    try clear hfz36_2
    try clear hfz36_3
    try clear hfz36_4
    try clear hx119_0
    try clear hx119_1
    try clear hx121_0
    try clear hx121_1
    try clear hx17_0
    try clear hx20_0
    try clear p119
    try clear p121
    try clear p17
    try clear p2
    try clear p20
    try clear q119
    try clear q121
    try clear q17
    try clear q20
    obtain⟨x11_2,x124004_2,u124004,rfl,HA,HK2,HO_8,HO_124001,HO_124003,HO_124004,BK112,BK123,HB⟩:=hrel
    cases gk with
    | zero=>exact absurd HA.out (by simp [spec_l12Patch.l1])
    | succ k2 =>
     have H:=HA.out
     clear HA
     simp only [spec_l12Patch.l1] at H
     by_cases c38:x11_2 < (l1.length:Int)
     rotate_left
     ·rw [if_neg c38] at H
      have c38b0:decide (x11_2 < (l1.length:Int)) = false:=decide_eq_false c38
      clear c38
      simp only [Option.some.injEq,Prod.mk.injEq] at H
      obtain⟨rfl,rfl,rfl,rfl,rfl⟩:=H
      have hnb47:=NB123_112.out
      have hnc47:=NB112_123.out
      have hcz48_0:wr.cell? ⟨gb123,0,none⟩ = some (.int .i64 t124):=(blk_cell BK123.out 0).trans rfl
      have hcz48_1:wr.cell? ⟨gb123,1,none⟩ = some (.slice Ao33 t125.length co33):=(blk_cell BK123.out 1).trans rfl
      have hcz48_2:wr.cell? ⟨gb123,2,none⟩ = some (.int .i64 t129):=(blk_cell BK123.out 2).trans rfl
      have hcz48_3:wr.cell? ⟨gb123,3,none⟩ = some (.slice Ao37 t130.length co37):=(blk_cell BK123.out 3).trans rfl
      have hcz48_4:wr.cell? ⟨gb123,4,none⟩ = some (u124004):=(blk_cell BK123.out 4).trans rfl
      have hfz48_0:=blk_frozen BK123.out 0
      have hfz48_1:=blk_frozen BK123.out 1
      have hfz48_2:=blk_frozen BK123.out 2
      have hfz48_3:=blk_frozen BK123.out 3
      have hfz48_4:=blk_frozen BK123.out 4
      have hcz49_0:wr.cell? ⟨gb112,0,none⟩ = some (.int .i64 0):=(blk_cell BK112.out 0).trans rfl
      have hcz49_1:wr.cell? ⟨gb112,1,none⟩ = some (.slice none 0 0):=(blk_cell BK112.out 1).trans rfl
      have hcz49_2:wr.cell? ⟨gb112,2,none⟩ = some (.int .i64 0):=(blk_cell BK112.out 2).trans rfl
      have hcz49_3:wr.cell? ⟨gb112,3,none⟩ = some (.slice none 0 0):=(blk_cell BK112.out 3).trans rfl
      have hcz49_4:wr.cell? ⟨gb112,4,none⟩ = some (.slice none 0 0):=(blk_cell BK112.out 4).trans rfl
      have hfz49_0:=blk_frozen BK112.out 0
      have hfz49_1:=blk_frozen BK112.out 1
      have hfz49_2:=blk_frozen BK112.out 2
      have hfz49_3:=blk_frozen BK112.out 3
      have hfz49_4:=blk_frozen BK112.out 4
      obtain⟨Ao50,co50,eo50⟩:=Kd.R_slice HO_124004.out
      subst eo50
      go_wp2
      refine bodyPost_ret (results_cell_row rfl _ _ gb112 27 #[.int .i64 t124,.slice Ao33 t125.length co33,.int .i64 t129,.slice Ao37 t130.length co37,.slice Ao50 x124004_2.length co50] (0,0) _ rfl (by (with_reducible repeat (first|apply nB|apply dB|apply aB));refine blk_put (cs:=#[.int .i64 t124,.slice Ao33 t125.length co33,.int .i64 t129,.slice Ao37 t130.length co37,.slice none 0 0]) ?_ 4 _ rfl;(with_reducible repeat (first|apply nB|apply dB|apply aB));refine blk_put (cs:=#[.int .i64 t124,.slice Ao33 t125.length co33,.int .i64 t129,.slice none 0 0,.slice none 0 0]) ?_ 3 _ rfl;(with_reducible repeat (first|apply nB|apply dB|apply aB));refine blk_put (cs:=#[.int .i64 t124,.slice Ao33 t125.length co33,.int .i64 0,.slice none 0 0,.slice none 0 0]) ?_ 2 _ rfl;(with_reducible repeat (first|apply nB|apply dB|apply aB));refine blk_put (cs:=#[.int .i64 t124,.slice none 0 0,.int .i64 0,.slice none 0 0,.slice none 0 0]) ?_ 1 _ rfl;(with_reducible repeat (first|apply nB|apply dB|apply aB));refine blk_put (cs:=#[.int .i64 0,.slice none 0 0,.int .i64 0,.slice none 0 0,.slice none 0 0]) ?_ 0 _ rfl;(with_reducible repeat (first|apply nB|apply dB|apply aB));exact BK112.out) Try.underlying27 rfl (by kernel_rfl)) rfl ?_
      exact⟨_,_,_,by first|rfl|(simp [errW_none,errW_some] <;> rfl)|(simp [*,errW_none,errW_some] <;> rfl),by (with_reducible repeat (first|apply aR|apply nR|apply dR));exact Kd.R_mono (Kd.R_far (p:=⟨gb112,4,none⟩) (Kd.R_far (p:=⟨gb112,3,none⟩) (Kd.R_far (p:=⟨gb112,2,none⟩) (Kd.R_far (p:=⟨gb112,1,none⟩) (Kd.R_far (p:=⟨gb112,0,none⟩) (Kd.R_types HO_124001.out BK112.out (by decide)) (by first|exact fun _ hk=>hk.2|(intro k_ hk;simp only [hk,ne_eq,and_self,not_false_eq_true])) (.int .i64 t124)) (by first|exact fun _ hk=>hk.2|(intro k_ hk;simp only [hk,ne_eq,and_self,not_false_eq_true])) (.slice Ao33 t125.length co33)) (by first|exact fun _ hk=>hk.2|(intro k_ hk;simp only [hk,ne_eq,and_self,not_false_eq_true])) (.int .i64 t129)) (by first|exact fun _ hk=>hk.2|(intro k_ hk;simp only [hk,ne_eq,and_self,not_false_eq_true])) (.slice Ao37 t130.length co37)) (by first|exact fun _ hk=>hk.2|(intro k_ hk;simp only [hk,ne_eq,and_self,not_false_eq_true])) (.slice Ao50 x124004_2.length co50)) (by first|exact fun _ hk=>hk.1|(intro k_ hk;simp only [hk,ne_eq,and_self,not_false_eq_true])),by (with_reducible repeat (first|apply aR|apply nR|apply dR));exact Kd.R_mono (Kd.R_far (p:=⟨gb112,4,none⟩) (Kd.R_far (p:=⟨gb112,3,none⟩) (Kd.R_far (p:=⟨gb112,2,none⟩) (Kd.R_far (p:=⟨gb112,1,none⟩) (Kd.R_far (p:=⟨gb112,0,none⟩) (Kd.R_types HO_124003.out BK112.out (by decide)) (by first|exact fun _ hk=>hk.2|(intro k_ hk;simp only [hk,ne_eq,and_self,not_false_eq_true])) (.int .i64 t124)) (by first|exact fun _ hk=>hk.2|(intro k_ hk;simp only [hk,ne_eq,and_self,not_false_eq_true])) (.slice Ao33 t125.length co33)) (by first|exact fun _ hk=>hk.2|(intro k_ hk;simp only [hk,ne_eq,and_self,not_false_eq_true])) (.int .i64 t129)) (by first|exact fun _ hk=>hk.2|(intro k_ hk;simp only [hk,ne_eq,and_self,not_false_eq_true])) (.slice Ao37 t130.length co37)) (by first|exact fun _ hk=>hk.2|(intro k_ hk;simp only [hk,ne_eq,and_self,not_false_eq_true])) (.slice Ao50 x124004_2.length co50)) (by first|exact fun _ hk=>hk.1|(intro k_ hk;simp only [hk,ne_eq,and_self,not_false_eq_true])),by (with_reducible repeat (first|apply aR|apply nR|apply dR));exact Kd.R_mono (Kd.R_far (p:=⟨gb112,4,none⟩) (Kd.R_far (p:=⟨gb112,3,none⟩) (Kd.R_far (p:=⟨gb112,2,none⟩) (Kd.R_far (p:=⟨gb112,1,none⟩) (Kd.R_far (p:=⟨gb112,0,none⟩) (Kd.R_types HO_124004.out BK112.out (by decide)) (by first|exact fun _ hk=>hk.2|(intro k_ hk;simp only [hk,ne_eq,and_self,not_false_eq_true])) (.int .i64 t124)) (by first|exact fun _ hk=>hk.2|(intro k_ hk;simp only [hk,ne_eq,and_self,not_false_eq_true])) (.slice Ao33 t125.length co33)) (by first|exact fun _ hk=>hk.2|(intro k_ hk;simp only [hk,ne_eq,and_self,not_false_eq_true])) (.int .i64 t129)) (by first|exact fun _ hk=>hk.2|(intro k_ hk;simp only [hk,ne_eq,and_self,not_false_eq_true])) (.slice Ao37 t130.length co37)) (by first|exact fun _ hk=>hk.2|(intro k_ hk;simp only [hk,ne_eq,and_self,not_false_eq_true])) (.slice Ao50 x124004_2.length co50)) (fun _ hk=>trivial),by repeat (first|(with_reducible first|exact HB.out|apply aZ|apply nZ|apply dZ|refine sZ ?_ GE112.out|refine sZ ?_ GE123.out)|exact HB.out)⟩
     rw [if_pos c38] at H
     have c38b0:decide (x11_2 < (l1.length:Int)) = true:=decide_eq_true c38
     clear c38
     by_cases c39:0 ≤ x11_2
     rotate_left
     ·rw [if_neg c39] at H
      exact absurd H (by simp)
     rw [if_pos c39] at H
     have c39b0:decide (0 ≤ x11_2) = true:=decide_eq_true c39
     clear c39
     by_cases c40:x11_2 < (x8_1.length:Int)
     rotate_left
     ·rw [if_neg c40] at H
      exact absurd H (by simp)
     rw [if_pos c40] at H
     have c40b0:decide (x11_2 < (x8_1.length:Int)) = true:=decide_eq_true c40
     clear c40
     by_cases c41:(rd x8_1 x11_2) = 0
     rotate_left
     ·rw [if_neg c41] at H
      have c41b0:((rd x8_1 x11_2) == 0) = false:=beq_eq_false_iff_ne.mpr c41
      have c41b1:((rd x8_1 x11_2) != 0) = true:=bne_iff_ne.mpr c41
      have H':=mk0 H
      clear H
      have p134:0 ≤ (x11_2:Int):=of_decide_eq_true (by first|(with_reducible assumption)|assumption)
      have q134:x11_2 < (x8_1.length:Int):=of_decide_eq_true (by first|(with_reducible assumption)|assumption)
      obtain⟨ad134,e134,hx134_0⟩:=Kd.at_int (Kd.R_reads' HO_8.out).2.2 x11_2 p134 q134
      cases e134
      replace p134:=eq_true p134
      replace q134:=eq_true q134
      go_wp2
      go_roundg k2
      case measure=>have:=HK1.out;have:=HK2.out;omega
      case rel=>exact⟨(wrap64 (x11_2 + 1)),(x124004_2),(u124004),(by first|rfl|(simp;done)|(simp [*];done)),H',⟨by have:=HK1.out;have:=HK2.out;omega⟩,⟨by (with_reducible repeat (first|apply aR|apply nR|apply dR));exact HO_8.out⟩,⟨by (with_reducible repeat (first|apply aR|apply nR|apply dR));exact HO_124001.out⟩,⟨by (with_reducible repeat (first|apply aR|apply nR|apply dR));exact HO_124003.out⟩,⟨by (with_reducible repeat (first|apply aR|apply nR|apply dR));exact HO_124004.out⟩,⟨by (with_reducible repeat (first|apply nB|apply dB|apply aB));exact BK112.out⟩,⟨by (with_reducible repeat (first|apply nB|apply dB|apply aB));exact BK123.out⟩,⟨by repeat (first|(with_reducible first|exact HB.out|apply aZ|apply nZ|apply dZ|refine sZ ?_ GE112.out|refine sZ ?_ GE123.out)|exact HB.out)⟩⟩
     rw [if_pos c41] at H
     have c41b0:((rd x8_1 x11_2) == 0) = true:=beq_iff_eq.mpr c41
     have c41b1:((rd x8_1 x11_2) != 0) = false:=bne_eq_false_iff_eq.mpr c41
     clear c41
     by_cases c42:x124004_2.length < 17592186044416
     rotate_left
     ·rw [if_neg c42] at H
      exact absurd H (by simp)
     rw [if_pos c42] at H
     have LMc42:=mk0 c42
     clear c42
     obtain⟨y136,hy136⟩:∃ y_:List Int,y_ = (x124004_2 ++ [rd l1 x11_2]):=⟨_,rfl⟩
     replace H:(spec_l12Patch.l1 k2 l1 x8_1 (wrap64 (x11_2 + 1)) t124 t125 t129 t130 y136) = some (r1,r2,r3,r4,r5):=by first|(rw [hy136];with_reducible exact H)|(have H2_:=(Option.bind_some _ _).symm.trans H;rw [hy136];with_reducible exact H2_)|(have H2_:=(Option.bind_some _ _).symm.trans H;with_reducible exact H2_)|with_reducible exact H|(rw [hy136];exact H)|exact H
     have Ny136:=mk0 hy136
     clear hy136
     have H':=mk0 H
     clear H
     have p134:0 ≤ (x11_2:Int):=of_decide_eq_true (by first|(with_reducible assumption)|assumption)
     have q134:x11_2 < (x8_1.length:Int):=of_decide_eq_true (by first|(with_reducible assumption)|assumption)
     obtain⟨ad134,e134,hx134_0⟩:=Kd.at_int (Kd.R_reads' HO_8.out).2.2 x11_2 p134 q134
     cases e134
     replace p134:=eq_true p134
     replace q134:=eq_true q134
     try go_wp2
     have n0_:=mk0 (dR HO_8.out)
     have n1_:=mk0 (dR HO_124001.out)
     have n2_:=mk0 (dR HO_124003.out)
     have n3_:=mk0 (dR HO_124004.out)
     have n4_:=mk0 (dB BK112.out)
     have n5_:=mk0 (dB BK123.out)
     have n6_:=mk0 (dZ HB.out)
     clear HO_8
     clear HO_124001
     clear HO_124003
     clear HO_124004
     clear BK112
     clear BK123
     clear HB
     have HO_8:=n0_
     have HO_124001:=n1_
     have HO_124003:=n2_
     have HO_124004:=n3_
     have BK112:=n4_
     have BK123:=n5_
     have HB:=n6_
     clear n0_ n1_ n2_ n3_ n4_ n5_ n6_
     have p135:0 ≤ (x11_2:Int):=of_decide_eq_true (by first|(with_reducible assumption)|assumption)
     have q135:x11_2 < (l1.length:Int):=of_decide_eq_true (by first|(with_reducible assumption)|assumption)
     obtain⟨ad135,e135,hx135_0⟩:=Kd.at_int HR1.out x11_2 p135 q135
     have hw135_0:=hx135_0
     cases e135
     replace hx135_0:=(HB.out.cell (World.block_lt_of_cell? w _ hx135_0)).trans hx135_0
     replace p135:=eq_true p135
     replace q135:=eq_true q135
     refine start_ (n:=10) (S:=fun w'=>w'.cell? ⟨gb123,0,none⟩ = some (.int .i64 t124) ∧ w'.cell? ⟨gb123,1,none⟩ = some (.slice Ao33 t125.length co33) ∧ w'.cell? ⟨gb123,2,none⟩ = some (.int .i64 t129) ∧ w'.cell? ⟨gb123,3,none⟩ = some (.slice Ao37 t130.length co37) ∧ w'.cell? ⟨gb123,4,none⟩ = some (u124004) ∧ w'.cell? (ad135.add (x11_2).toNat) = some (.int .i64 (rd l1 x11_2))) (ds:=[9]) spec_l12Patch.m0 (by kernel_rfl) rfl rfl ⟨(blk_cell BK123.out 0).trans rfl,(blk_cell BK123.out 1).trans rfl,(blk_cell BK123.out 2).trans rfl,(blk_cell BK123.out 3).trans rfl,(blk_cell BK123.out 4).trans rfl,((HB.out.cell (World.block_lt_of_cell? w _ hw135_0)).trans hw135_0)⟩ (fun hHeld=>?_);refine with_tabW spec_l12Patch.tab15 spec_l12Patch.bits15 (fun HT_ HW_=>?_)
     generalize wr.drew = w43 at HO_8 HO_124001 HO_124003 HO_124004 BK112 BK123 HB hx135_0 hHeld ⊢
     refine pure_ (i:=0) (N:=some 61) (v:=?_) (a':=?_) spec_l12Patch.m1 rfl rfl (any_of HT_.out (by kernel_rfl)) (fun _ _ _ h=>h) (Or.inl ⟨by rfl,?_⟩) ?_ ?_
     rotate_left
     ·intro w'
      go_simp
      with_reducible rfl
     rotate_left
     ·simp only [Act.put,sA,sO,sS,i64_w,i32_w]
      rfl
     refine pure_ (i:=2) (N:=some 63) (v:=?_) (a':=?_) spec_l12Patch.m2 rfl rfl (any_of HT_.out (by kernel_rfl)) (fun _ _ _ h=>h) (Or.inl ⟨by rfl,?_⟩) ?_ ?_
     rotate_left
     ·intro w'
      go_simp
      with_reducible rfl
     rotate_left
     ·simp only [Act.put,sA,sO,sS,i64_w,i32_w]
      rfl
     refine pure_ (i:=3) (N:=some 64) (v:=?_) (a':=?_) spec_l12Patch.m3 rfl rfl (any_of HT_.out (by kernel_rfl)) (fun _ _ _ h=>h) (Or.inl ⟨by rfl,?_⟩) ?_ ?_
     rotate_left
     ·intro w'
      go_simp
      with_reducible rfl
     rotate_left
     ·simp only [Act.put,sA,sO,sS,i64_w,i32_w]
      rfl
     refine pure_ (i:=4) (N:=some 65) (v:=?_) (a':=?_) spec_l12Patch.m4 rfl rfl (any_of HT_.out (by kernel_rfl)) (fun _ _ _ h=>h) (Or.inl ⟨by rfl,?_⟩) ?_ ?_
     rotate_left
     ·intro w'
      go_simp
      with_reducible rfl
     rotate_left
     ·simp only [Act.put,sA,sO,sS,i64_w,i32_w]
      rfl
     refine take_ (i:=1) (N:=some 62) (v:=?_) (a':=?_) spec_l12Patch.m5 rfl rfl (take_ofW HT_.out HW_.out (by kernel_rfl)) (fun _ _ _ h=>h) (Or.inl ⟨by rfl,?_⟩) hHeld ?_ ?_
     rotate_left
     ·rintro w' ⟨s0,s1,s2,s3,s4,s5⟩
      go_simp
      with_reducible rfl
     rotate_left
     ·simp only [Act.put,sA,sO,sS,i64_w,i32_w]
      rfl
     refine take_ (i:=5) (N:=some 66) (v:=?_) (a':=?_) spec_l12Patch.m6 rfl rfl (take_ofW HT_.out HW_.out (by kernel_rfl)) (fun _ _ _ h=>h) (Or.inl ⟨by rfl,?_⟩) hHeld ?_ ?_
     rotate_left
     ·rintro w' ⟨s0,s1,s2,s3,s4,s5⟩
      go_simp
      with_reducible rfl
     rotate_left
     ·simp only [Act.put,sA,sO,sS,i64_w,i32_w]
      rfl
     refine one_ (i:=6) (N:=some 67) spec_l12Patch.m7 rfl rfl (one_of HT_.out (by kernel_rfl)) (by decide) (fun K hK=>?_)
     refine value_ (w1:=?_) (v:=?_) (by rfl) rfl ?_ ?_
     rotate_left 2
     ·go_simp
      constructor
      ·rfl
      ·rfl
     refine hK.out _ _ ⟨(blk_cell (aB BK123.out _) 0).trans rfl,(blk_cell (aB BK123.out _) 1).trans rfl,(blk_cell (aB BK123.out _) 2).trans rfl,(blk_cell (aB BK123.out _) 3).trans rfl,(blk_cell (aB BK123.out _) 4).trans rfl,(World.cell?_alloc_lt _ _ _ (World.block_lt_of_cell? _ _ (((HB.out.cell (World.block_lt_of_cell? w _ hw135_0)).trans hw135_0)))).trans (((HB.out.cell (World.block_lt_of_cell? w _ hw135_0)).trans hw135_0))⟩ (fun hHeld=>?_)
     clear hK K
     refine norm_ (a':=?_) ?_ ?_
     rotate_left
     ·show Act.put _ (some 67) _ = _
      simp only [Act.put,sA,sO,sS,i64_w,i32_w]
      rfl
     refine one_ (i:=7) (N:=some 68) spec_l12Patch.m8 rfl rfl (one_of HT_.out (by kernel_rfl)) (by decide) (fun K hK=>?_)
     refine Kd.R_append_step (Kd.int .i64) (w0:=w) w.heap.size (by rfl) (.tmp 62) (.tmp 67) 22 3 (.int .i64 0) 8 rfl Try.underlying22 info3 rfl (by decide) (by omega) u124004 x124004_2 (rd l1 x11_2) [.int .i64 (rd l1 x11_2)] (fun k_=>some k_ ≠ (.slice (some ad134) x8_1.length co34:Value).ownBlock) (fun _=>False) rfl rfl ?aP (fun _ hk=>hk.elim) ?aF ?aO ?aB ?aS ?aL ?_
     (case aP=>exact rfl)
     (case aB=>exact (by repeat (first|(with_reducible first|exact HB.out|apply aZ|apply nZ|apply dZ|refine sZ ?_ GE112.out|refine sZ ?_ GE123.out)|exact HB.out)))
     (case aF=>exact (fun k_ hk=>Kd.fresh' (Kd.R_lt (by (with_reducible repeat (first|apply aR|apply nR|apply dR));exact HO_8.out)) k_ hk))
     (case aO=>exact (by (with_reducible repeat (first|apply aR|apply nR|apply dR));exact HO_124004.out))
     (case aS=>exact (below_size (by repeat (first|(with_reducible first|exact HB.out|apply aZ|apply nZ|apply dZ|refine sZ ?_ GE112.out|refine sZ ?_ GE123.out)|exact HB.out))))
     (case aL=>have:=LMc42.out;omega)
     intro v137 w44 ho hb hg hat
     rw [← Ny136.out] at ho
     have n0_:=mk0 (Kd.R_after (ok:=(fun _=>True)) (by (with_reducible repeat (first|apply aR|apply nR|apply dR));exact Kd.R_mono HO_8.out (fun _ hk=>⟨trivial,hk⟩)) hg hat)
     have n1_:=mk0 (Kd.R_over' (by (with_reducible repeat (first|apply aR|apply nR|apply dR));exact HO_124001.out) (Kd.R_typed (by (with_reducible repeat (first|apply aR|apply nR|apply dR));exact HO_124004.out)) (by decide) hg)
     have n2_:=mk0 (Kd.R_over' (by (with_reducible repeat (first|apply aR|apply nR|apply dR));exact HO_124003.out) (Kd.R_typed (by (with_reducible repeat (first|apply aR|apply nR|apply dR));exact HO_124004.out)) (by decide) hg)
     have n3_:=mk0 (blk_grown (g:=gb112) (o:=.cells #[.int .i64 0,.slice none 0 0,.int .i64 0,.slice none 0 0,.slice none 0 0] 27 (0,0)) (by (with_reducible repeat (first|apply nB|apply dB|apply aB));exact BK112.out) hg (Kd.R_ne HO_124004.out BK112.out (by decide)))
     have n4_:=mk0 (blk_grown (g:=gb123) (o:=.cells #[.int .i64 t124,.slice Ao33 t125.length co33,.int .i64 t129,.slice Ao37 t130.length co37,u124004] 27 (0,0)) (by (with_reducible repeat (first|apply nB|apply dB|apply aB));exact BK123.out) hg (Kd.R_ne HO_124004.out BK123.out (by decide)))
     have n5_:=mk0 (hb)
     have n6_:=mk0 (ho)
     clear HO_8
     clear HO_124001
     clear HO_124003
     clear BK112
     clear BK123
     clear HB
     clear HO_124004
     have HO_8:=n0_
     have HO_124001:=n1_
     have HO_124003:=n2_
     have BK112:=n3_
     have BK123:=n4_
     have HB:=n5_
     have HO138:=n6_
     clear n0_ n1_ n2_ n3_ n4_ n5_ n6_
     clear ho hb hg hat
     obtain⟨Ao45,co45,eo45⟩:=Kd.R_slice HO138.out
     (first|subst eo45|(injection eo45 with f1_ f2_ f3_;have f4_:=f1_.symm;have f5_:=f3_.symm;clear f1_ f2_ f3_;subst f4_;subst f5_))
     refine hK.out _ _ ⟨(blk_cell BK123.out 0).trans rfl,(blk_cell BK123.out 1).trans rfl,(blk_cell BK123.out 2).trans rfl,(blk_cell BK123.out 3).trans rfl,(blk_cell BK123.out 4).trans rfl,((HB.out.cell (World.block_lt_of_cell? w _ hw135_0)).trans hw135_0)⟩ (fun hHeld=>?_)
     clear hK K
     refine norm_ (a':=?_) ?_ ?_
     rotate_left
     ·show Act.put _ (some 68) _ = _
      simp only [Act.put,sA,sO,sS,i64_w,i32_w]
      rfl
     refine pure_ (i:=8) (N:=some 69) (v:=?_) (a':=?_) spec_l12Patch.m9 rfl rfl (any_of HT_.out (by kernel_rfl)) (fun _ _ _ h=>h) (Or.inl ⟨by rfl,?_⟩) ?_ ?_
     rotate_left
     ·intro w'
      go_simp
      with_reducible rfl
     rotate_left
     ·simp only [Act.put,sA,sO,sS,i64_w,i32_w]
      rfl
     refine last_ (i:=9) (N:=none) spec_l12Patch.m10 rfl rfl (one_of HT_.out (by kernel_rfl)) (by decide) (fun K hK=>?_)
     have hs46:w44.cell? ⟨gb123,4,none⟩ = some (u124004):=(blk_cell BK123.out 4).trans rfl
     have hfs46:=blk_frozen BK123.out 4
     have hns46_0:=NB112_123.out
     have hms46_0:=NB123_112.out
     refine skip_ (w1:=?_) (by rfl) rfl ?_ ?_
     rotate_left
     ·go_simp
      rfl
     refine hK.out _ _ ?_
     clear hK K
     refine done_ (done_of HT_.out (by kernel_rfl)) ?_
     try go_wp2
     go_roundg k2
     case measure=>have:=HK1.out;have:=HK2.out;omega
     case rel=>exact⟨(wrap64 (x11_2 + 1)),(y136),(.slice Ao45 y136.length co45),(by first|rfl|(simp;done)|(simp [*];done)),H',⟨by have:=HK1.out;have:=HK2.out;omega⟩,⟨by (with_reducible repeat (first|apply aR|apply nR|apply dR));exact Kd.R_mono (Kd.R_far (p:=⟨gb123,4,none⟩) (Kd.R_types HO_8.out BK123.out (by decide)) (by first|exact fun _ hk=>hk.2|(intro k_ hk;simp only [hk,ne_eq,and_self,not_false_eq_true])) (.slice Ao45 y136.length co45)) (by first|exact fun _ hk=>hk.1.2|(intro k_ hk;simp only [hk,ne_eq,and_self,not_false_eq_true]))⟩,⟨by (with_reducible repeat (first|apply aR|apply nR|apply dR));exact Kd.R_mono (Kd.R_far (p:=⟨gb123,4,none⟩) (Kd.R_types HO_124001.out BK123.out (by decide)) (by first|exact fun _ hk=>hk.2|(intro k_ hk;simp only [hk,ne_eq,and_self,not_false_eq_true])) (.slice Ao45 y136.length co45)) (by first|exact fun _ hk=>hk.1|(intro k_ hk;simp only [hk,ne_eq,and_self,not_false_eq_true]))⟩,⟨by (with_reducible repeat (first|apply aR|apply nR|apply dR));exact Kd.R_mono (Kd.R_far (p:=⟨gb123,4,none⟩) (Kd.R_types HO_124003.out BK123.out (by decide)) (by first|exact fun _ hk=>hk.2|(intro k_ hk;simp only [hk,ne_eq,and_self,not_false_eq_true])) (.slice Ao45 y136.length co45)) (by first|exact fun _ hk=>hk.1|(intro k_ hk;simp only [hk,ne_eq,and_self,not_false_eq_true]))⟩,⟨by (with_reducible repeat (first|apply aR|apply nR|apply dR));exact Kd.R_mono (Kd.R_far (p:=⟨gb123,4,none⟩) (Kd.R_types HO138.out BK123.out (by decide)) (by first|exact fun _ hk=>hk.2|(intro k_ hk;simp only [hk,ne_eq,and_self,not_false_eq_true])) (.slice Ao45 y136.length co45)) (by first|exact fun _ hk=>hk.1|(intro k_ hk;simp only [hk,ne_eq,and_self,not_false_eq_true]))⟩,⟨by (with_reducible repeat (first|apply nB|apply dB|apply aB));refine blk_far ?_ NB112_123.out _;(with_reducible repeat (first|apply nB|apply dB|apply aB));exact BK112.out⟩,⟨by (with_reducible repeat (first|apply nB|apply dB|apply aB));refine blk_put (cs:=#[.int .i64 t124,.slice Ao33 t125.length co33,.int .i64 t129,.slice Ao37 t130.length co37,u124004]) ?_ 4 _ rfl;(with_reducible repeat (first|apply nB|apply dB|apply aB));exact BK123.out⟩,⟨by repeat (first|(with_reducible first|exact HB.out|apply aZ|apply nZ|apply dZ|refine sZ ?_ GE112.out|refine sZ ?_ GE123.out)|exact HB.out)⟩⟩
end Go.Proofs.Ytdiemmcnekbfaaa.QFnPatchBack
