-- A walk, made by walk.py, a program of this session's.
import Derived.Test.YtdiemmcnekbfaaaQFnPatchBackx0
namespace Go.Proofs.Ytdiemmcnekbfaaa.QFnPatchBack
open Go.RowKit Go.Proofs.YtdiemmcnekbfaaaW.PrintWords Go.Proofs.YtdiemmcnekbfaaaW.PrintLast Go.Proofs.YtdiemmcnekbfaaaW.PrintMore
attribute [local go_sem] max2_int min2_int max_two min_two max_three min_three max_four min_four   -- for this text's walks alone
set_option linter.unusedVariables false
set_option linter.unusedSimpArgs false

/-! ### impl_bitsOf: function 47 -/
def impl_bitsOf.l0 : Nat → List Int → Int → Int → Int → List Int → Option (Int × List Int)
 | 0, _, _, _, _, _ => none
 | k + 1, x15, x16, x17, x205000, x205001 => if x17 < x16 then (if 0 ≤ x17 then (if x17 < (x15.length : Int) then (if 0 ≤ (wrap64 (Int.tdiv x17 64)) then (if (wrap64 (Int.tdiv x17 64)) < (x205001.length : Int) then (if 0 ≤ (Int.tmod x17 64) then (impl_bitsOf.l0 k x15 x16 (wrap64 (x17 + 1)) x205000 (x205001.set ((wrap64 (Int.tdiv x17 64)) : Int).toNat (Go.bits .or .u64 (rd x205001 (wrap64 (Int.tdiv x17 64))) (shl .u64 (IntKind.u64.wrap (rd x15 x17)) (Int.tmod x17 64))))) else (none)) else (none)) else (none)) else (none)) else (none)) else (some (x205000, x205001))
def impl_bitsOf.f (k : Nat) (l0 : List Int) : Option (Int × List Int) := if 0 ≤ (wrap64 (Int.tdiv (wrap64 ((wrap64 ((l0.length : Int) + 64)) - 1)) 64)) then (if (wrap64 (Int.tdiv (wrap64 ((wrap64 ((l0.length : Int) + 64)) - 1)) 64) : Int).toNat ≤ 35184372088832 then (impl_bitsOf.l0 k l0 (l0.length : Int) 0 (l0.length : Int) (List.replicate (wrap64 (Int.tdiv (wrap64 ((wrap64 ((l0.length : Int) + 64)) - 1)) 64) : Int).toNat 0)) else (none)) else (none)
theorem impl_bitsOf.mono_l : ∀ k, (∀ y0 y1 y2 y3 y4, LeO (impl_bitsOf.l0 k y0 y1 y2 y3 y4) (impl_bitsOf.l0 (k + 1) y0 y1 y2 y3 y4))
 | 0 => fun _ _ _ _ _ r h => by simp [impl_bitsOf.l0] at h
 | k + 1 => by
  have ih0 := impl_bitsOf.mono_l k
  ·intro y0 y1 y2 y3 y4
   unfold impl_bitsOf.l0
   repeat' first|(with_reducible first|exact ih0 _ _ _ _ _|exact LeO.refl _|exact LeO.none _|refine LeO.ite ?_ ?_|refine LeO.bind ?_ (fun _ => ?_))|exact LeO.none _|refine LeO.ite ?_ ?_|refine LeO.bind ?_ (fun _ => ?_)
theorem impl_bitsOf.mono : ∀ a0 k, LeO (impl_bitsOf.f k a0) (impl_bitsOf.f (k + 1) a0) := by
 intro a0 k
 have ih0 := impl_bitsOf.mono_l k
 unfold impl_bitsOf.f
 repeat' first|(with_reducible first|exact ih0 _ _ _ _ _|exact LeO.refl _|exact LeO.none _|refine LeO.ite ?_ ?_|refine LeO.bind ?_ (fun _ => ?_))|exact LeO.none _|refine LeO.ite ?_ ?_|refine LeO.bind ?_ (fun _ => ?_)
def impl_bitsOf.T5 : Bool × List (List Nat × List Nat) := (true, [([], []), ([0], [0]), ([], []), ([2], [2]), ([1, 3], [1, 3]), ([4], [4]), ([], []), ([6], [6]), ([], []), ([8], [8]), ([7, 9], [7, 9]), ([5, 10], [5, 10]), ([1, 3, 0, 1, 2, 3, 4, 5, 6, 7, 8, 9, 10, 11], [1, 3]), ([12, 11, 0, 1, 2, 3, 4, 5, 6, 7, 8, 9, 10, 11], [11, 12])])
def impl_bitsOf.B5 : List Nat := [0, 1, 0, 4, 15, 31, 0, 64, 0, 256, 960, 2047, 4095, 8191]
theorem impl_bitsOf.tab5 : rtab .any (opsOf Try.f47 5) = impl_bitsOf.T5 := by kernel_rfl
theorem impl_bitsOf.bits5 : waitsOk impl_bitsOf.T5.2 impl_bitsOf.B5 = true := by kernel_rfl
abbrev impl_bitsOf.m0 : Array Bool := #[F,F,F,F,F,F,F,F,F,F,F,F,F,F]
abbrev impl_bitsOf.m1 : Array Bool := #[T,F,F,F,F,F,F,F,F,F,F,F,F,F]
abbrev impl_bitsOf.m2 : Array Bool := #[T,F,T,F,F,F,F,F,F,F,F,F,F,F]
abbrev impl_bitsOf.m3 : Array Bool := #[T,F,T,T,F,F,F,F,F,F,F,F,F,F]
abbrev impl_bitsOf.m4 : Array Bool := #[T,F,T,T,F,F,T,F,F,F,F,F,F,F]
abbrev impl_bitsOf.m5 : Array Bool := #[T,F,T,T,F,F,T,T,F,F,F,F,F,F]
abbrev impl_bitsOf.m6 : Array Bool := #[T,F,T,T,F,F,T,T,T,F,F,F,F,F]
abbrev impl_bitsOf.m7 : Array Bool := #[T,F,T,T,F,F,T,T,T,T,F,F,F,F]
abbrev impl_bitsOf.m8 : Array Bool := #[T,F,T,T,F,F,T,T,T,T,T,F,F,F]
abbrev impl_bitsOf.m9 : Array Bool := #[T,T,T,T,F,F,T,T,T,T,T,F,F,F]
abbrev impl_bitsOf.m10 : Array Bool := #[T,T,T,T,T,F,T,T,T,T,T,F,F,F]
abbrev impl_bitsOf.m11 : Array Bool := #[T,T,T,T,T,T,T,T,T,T,T,F,F,F]
abbrev impl_bitsOf.m12 : Array Bool := #[T,T,T,T,T,T,T,T,T,T,T,T,F,F]
abbrev impl_bitsOf.m13 : Array Bool := #[T,T,T,T,T,T,T,T,T,T,T,T,T,F]
abbrev impl_bitsOf.m14 : Array Bool := #[T,T,T,T,T,T,T,T,T,T,T,T,T,T]
set_option maxHeartbeats 8000000 in
set_option maxRecDepth 100000 in
theorem impl_bitsOf.calls (k : Nat) (A0 : Option Addr) (c0 : Nat) (l0 : List Int) (r1 : Int) (r2 : List Int) (w : World) (hr0 : Kd.C (Kd.int .i64) w A0 l0.length l0) (hc0 : l0.length ≤ c0) (h : impl_bitsOf.f k l0 = some (r1, r2)) :
  Calls Try.prog 47 #[.slice A0 l0.length c0] w fun e w' => ∃ v1_ : Value, e = .returned (.agg #[.int .i64 r1, v1_]) ∧ Kd.R (Kd.int .u64) 77 w' w.heap.size (fun _ => True) v1_ r2 ∧ Below w.heap.size w w' := by
 have hu25:=Try.underlying25
 have HR0:=mk0 hr0
 have HC0:=mk0 hc0
 clear hr0 hc0
 have HB:=mk0 (Below.refl w.heap.size w)
 have H:(if 0 ≤ (wrap64 (Int.tdiv (wrap64 ((wrap64 ((l0.length:Int) + 64)) - 1)) 64)) then (if (wrap64 (Int.tdiv (wrap64 ((wrap64 ((l0.length:Int) + 64)) - 1)) 64):Int).toNat ≤ 35184372088832 then (impl_bitsOf.l0 k l0 (l0.length:Int) 0 (l0.length:Int) (List.replicate (wrap64 (Int.tdiv (wrap64 ((wrap64 ((l0.length:Int) + 64)) - 1)) 64):Int).toNat 0)) else (none)) else (none)) = some (r1,r2):=h
 clear h
 obtain⟨ji2,hji2⟩:∃ j_:Int,(wrap64 (Int.tdiv (wrap64 ((wrap64 ((l0.length:Int) + 64)) - 1)) 64)) = j_:=⟨_,rfl⟩
 replace H:(if 0 ≤ (ji2) then (if (ji2:Int).toNat ≤ 35184372088832 then (impl_bitsOf.l0 k l0 (l0.length:Int) 0 (l0.length:Int) (List.replicate (ji2:Int).toNat 0)) else (none)) else (none)) = some (r1,r2):=by first|(rw [hji2] at H;exact H)|(simp only [hji2] at H ⊢;exact H)
 have hji2w:(IntKind.i64.wrap (Int.tdiv (wrap64 ((wrap64 ((l0.length:Int) + 64)) - 1)) 64)) = ji2:=(i64_w _).trans hji2
 by_cases c3:0 ≤ (ji2)
 rotate_left
 ·rw [if_neg c3] at H
  exact absurd H (by simp)

 rw [if_pos c3] at H
 have c3b0:=eq_true c3
 have c3b1:decide (0 ≤ (ji2)) = true:=decide_eq_true c3
 clear c3
 by_cases c4:(ji2:Int).toNat ≤ 35184372088832
 rotate_left
 ·rw [if_neg c4] at H
  exact absurd H (by simp)
 rw [if_pos c4] at H
 have c4b0:=eq_true c4
 have c4b1:decide ((ji2:Int).toNat ≤ 35184372088832) = true:=decide_eq_true c4
 clear c4
 obtain⟨y201,hy201⟩:∃ y_:List Int,y_ = (List.replicate (ji2:Int).toNat 0):=⟨_,rfl⟩
 replace H:(impl_bitsOf.l0 k l0 (l0.length:Int) 0 (l0.length:Int) y201) = some (r1,r2):=by first|(rw [hy201];with_reducible exact H)|(have H2_:=(Option.bind_some _ _).symm.trans H;rw [hy201];with_reducible exact H2_)|(have H2_:=(Option.bind_some _ _).symm.trans H;with_reducible exact H2_)|with_reducible exact H|(rw [hy201];exact H)|exact H
 have Ny201:=mk0 hy201
 clear hy201
 have H':=mk0 H
 clear H
 go_enter Try.func47,Try.ntmps47
 go_wp2_with (first|((with_reducible refine gate_dst (N:=2) rfl ?_);refine box_event ?hg (N:=2) ?hd (cs:=#[.int .i64 0,.slice none 0 0]) (t:=25) ?hr ?_;(case hd=>rfl);(case hg=>rfl);(case hr=>first|(go_simp;done)|(go_simp;rfl));intro gb200 hg w5 hbox hb;have n0_:=mk0 (below_step (by repeat (first|(with_reducible first|exact HB.out|apply aZ|apply nZ|apply dZ)|exact HB.out)) hb);have n1_:=mk0 (hbox);have n2_:=mk0 ((by rw [hg];exact (below_size (by repeat (first|(with_reducible first|exact HB.out|apply aZ|apply nZ|apply dZ)|exact HB.out))):w.heap.size ≤ gb200));have n3_:=mk0 ((by rw [hg];exact (below_size (by repeat (first|(with_reducible first|exact HB.out|apply aZ|apply nZ|apply dZ)|exact HB.out))):w.heap.size ≤ gb200));clear HB;have HB:=n0_;have BK200:=n1_;have GW200:=n2_;have GE200:=n3_;clear n0_ n1_ n2_ n3_ hb hbox hg)|((with_reducible refine gate_dst (N:=13) rfl ?_);refine Kd.R_make (Kd.int .u64) _ 77 rfl (N:=13) rfl 23 _ _ rfl ji2 rfl rfl Try.underlying23 (.int .u64 0) 8 info77 rfl (by decide) (by omega) 0 (ok:=fun _=>True) (okp:=fun _=>True) rfl (fun _ hk=>hk) trivial (of_decide_eq_true (by first|(with_reducible assumption)|assumption)) (Nat.le_trans (Nat.mul_le_mul_right _ (of_decide_eq_true (by first|(with_reducible assumption)|assumption):ji2.toNat ≤ 35184372088832)) (by omega)) (Below.refl _ _) (Nat.le_refl _) ?_;intro v202 w6 ho7 hb hg_ hnew_;clear hg_ hnew_;(first|rw [← Ny201.out] at ho7|(simp only [Int.reduceToNat] at ho7;rw [← Ny201.out] at ho7));have n0_:=mk0 (Kd.R_lower ho7 (below_size (by repeat (first|(with_reducible first|exact HB.out|apply aZ|apply nZ|apply dZ|refine sZ ?_ GE200.out)|exact HB.out))));have n1_:=mk0 (blk_below (g:=gb200) (o:=.cells #[.int .i64 0,.slice none 0 0] 25 (0,0)) (by (with_reducible repeat (first|apply nB|apply dB|apply aB));exact BK200.out) hb);have n2_:=mk0 (below_step (by repeat (first|(with_reducible first|exact HB.out|apply aZ|apply nZ|apply dZ|refine sZ ?_ GE200.out)|exact HB.out)) hb);clear BK200 HB;have HO203:=n0_;have BK200:=n1_;have HB:=n2_;clear n0_ n1_ n2_ hb ho7;obtain⟨Ao8,co8,eo8⟩:=Kd.R_slice HO203.out;subst eo8)|((with_reducible refine gate_dst (N:=3) rfl ?_);refine box_event ?hg (N:=3) ?hd (cs:=#[.int .i64 0,.slice none 0 0]) (t:=25) ?hr ?_;(case hd=>rfl);(case hg=>rfl);(case hr=>first|(go_simp;done)|(go_simp;rfl));intro gb204 hg w9 hbox hb;have n0_:=mk0 (Kd.R_below (by (with_reducible repeat (first|apply aR|apply nR|apply dR));exact HO203.out) hb);have n1_:=mk0 (blk_below (g:=gb200) (o:=.cells #[.int .i64 0,.slice none 0 0] 25 (0,0)) (by (with_reducible repeat (first|apply nB|apply dB|apply aB));exact BK200.out) hb);have n2_:=mk0 (below_step (by repeat (first|(with_reducible first|exact HB.out|apply aZ|apply nZ|apply dZ|refine sZ ?_ GE200.out)|exact HB.out)) hb);have n3_:=mk0 (hbox);have n4_:=mk0 ((by rw [hg];exact (below_size (by repeat (first|(with_reducible first|exact HB.out|apply aZ|apply nZ|apply dZ|refine sZ ?_ GE200.out)|exact HB.out))):w.heap.size ≤ gb204));have n5_:=mk0 ((by rw [hg];exact (below_size (by repeat (first|(with_reducible first|exact HB.out|apply aZ|apply nZ|apply dZ|refine sZ ?_ GE200.out)|exact HB.out))):w.heap.size ≤ gb204));have n6_:=mk0 ((by rw [hg];exact Nat.ne_of_lt (blk_lt (g:=gb200) (o:=.cells #[.int .i64 0,.slice none 0 0] 25 (0,0)) (by (with_reducible repeat (first|apply nB|apply dB|apply aB));exact BK200.out)):gb200 ≠ gb204));have n7_:=mk0 ((by rw [hg];exact Nat.ne_of_gt (blk_lt (g:=gb200) (o:=.cells #[.int .i64 0,.slice none 0 0] 25 (0,0)) (by (with_reducible repeat (first|apply nB|apply dB|apply aB));exact BK200.out)):gb204 ≠ gb200));clear HO203 BK200 HB;have HO203:=n0_;have BK200:=n1_;have HB:=n2_;have BK204:=n3_;have GW204:=n4_;have GE204:=n5_;have NB200_204:=n6_;have NB204_200:=n7_;clear n0_ n1_ n2_ n3_ n4_ n5_ n6_ n7_ hb hbox hg;have hnb10:=NB204_200.out;have hnc10:=NB200_204.out;have hcz11_0:w9.cell? ⟨gb204,0,none⟩ = some (.int .i64 0):=(blk_cell BK204.out 0).trans rfl;have hcz11_1:w9.cell? ⟨gb204,1,none⟩ = some (.slice none 0 0):=(blk_cell BK204.out 1).trans rfl;have hfz11_0:=blk_frozen BK204.out 0;have hfz11_1:=blk_frozen BK204.out 1))
 go_loopg [17] k (fun kq v17 w'=>∃ (x17_1:Int) (x205001_1:List Int) (u205001:Value),v17 = .int .i64 x17_1 ∧ Aside0 (impl_bitsOf.l0 kq l0 (l0.length:Int) x17_1 (l0.length:Int) x205001_1 = some (r1,r2)) ∧ Aside0 (kq ≤ k) ∧ Aside0 (Kd.R (Kd.int .u64) 77 w' w.heap.size (fun _=>True) u205001 x205001_1) ∧ Aside0 (w'.heap[gb200]? = some (.cells #[.int .i64 0,(.slice none 0 0)] 25 (0,0))) ∧ Aside0 (w'.heap[gb204]? = some (.cells #[.int .i64 (l0.length:Int),u205001] 25 (0,0))) ∧ Aside0 (Below w.heap.size w w'))
 case atStart=>exact⟨(0),(y201),(.slice Ao8 y201.length co8),(by first|rfl|(simp;done)|(simp [*];done)),H',⟨Nat.le_refl _⟩,⟨by (with_reducible repeat (first|apply aR|apply nR|apply dR));exact Kd.R_mono (Kd.R_far (p:=⟨gb204,1,none⟩) (Kd.R_far (p:=⟨gb204,0,none⟩) (Kd.R_types HO203.out BK204.out (by decide)) (by first|exact fun _ hk=>hk.2|(intro k_ hk;simp only [hk,ne_eq,and_self,not_false_eq_true])) (.int .i64 (l0.length:Int))) (by first|exact fun _ hk=>hk.2|(intro k_ hk;simp only [hk,ne_eq,and_self,not_false_eq_true])) (.slice Ao8 y201.length co8)) (fun _ hk=>trivial)⟩,⟨by (with_reducible repeat (first|apply nB|apply dB|apply aB));refine blk_far ?_ NB200_204.out _;(with_reducible repeat (first|apply nB|apply dB|apply aB));refine blk_far ?_ NB200_204.out _;(with_reducible repeat (first|apply nB|apply dB|apply aB));exact BK200.out⟩,⟨by (with_reducible repeat (first|apply nB|apply dB|apply aB));refine blk_put (cs:=#[.int .i64 (l0.length:Int),.slice none 0 0]) ?_ 1 _ rfl;(with_reducible repeat (first|apply nB|apply dB|apply aB));refine blk_put (cs:=#[.int .i64 0,.slice none 0 0]) ?_ 0 _ rfl;(with_reducible repeat (first|apply nB|apply dB|apply aB));exact BK204.out⟩,⟨by repeat (first|(with_reducible first|exact HB.out|apply aZ|apply nZ|apply dZ|refine sZ ?_ GE200.out|refine sZ ?_ GE204.out)|exact HB.out)⟩⟩
 case round =>
  clear H'
  try clear c1
  try clear p2
  try clear c3
  try clear c3b0
  try clear c3b1
  try clear c4
  try clear c4b0
  try clear c4b1
  try clear p6
  try clear c10
  try clear hcz11_0
  try clear hcz11_1
  try clear hfz11_0
  try clear hfz11_1
  obtain⟨x17_1,x205001_1,u205001,rfl,HA,HK1,HO_205001,BK200,BK204,HB⟩:=hrel
  cases gk with
  | zero=>exact absurd HA.out (by simp [impl_bitsOf.l0])
  | succ k1 =>
   have H:=HA.out
   clear HA
   simp only [impl_bitsOf.l0] at H
   by_cases c12:x17_1 < (l0.length:Int)
   rotate_left
   ·rw [if_neg c12] at H
    have c12b0:decide (x17_1 < (l0.length:Int)) = false:=decide_eq_false c12
    clear c12
    simp only [Option.some.injEq,Prod.mk.injEq] at H
    obtain⟨rfl,rfl⟩:=H
    have hnb25:=NB204_200.out
    have hnc25:=NB200_204.out
    have hcz26_0:wr.cell? ⟨gb204,0,none⟩ = some (.int .i64 (l0.length:Int)):=(blk_cell BK204.out 0).trans rfl
    have hcz26_1:wr.cell? ⟨gb204,1,none⟩ = some (u205001):=(blk_cell BK204.out 1).trans rfl
    have hfz26_0:=blk_frozen BK204.out 0
    have hfz26_1:=blk_frozen BK204.out 1
    have hcz27_0:wr.cell? ⟨gb200,0,none⟩ = some (.int .i64 0):=(blk_cell BK200.out 0).trans rfl
    have hcz27_1:wr.cell? ⟨gb200,1,none⟩ = some (.slice none 0 0):=(blk_cell BK200.out 1).trans rfl
    have hfz27_0:=blk_frozen BK200.out 0
    have hfz27_1:=blk_frozen BK200.out 1
    obtain⟨Ao28,co28,eo28⟩:=Kd.R_slice HO_205001.out
    subst eo28
    go_wp2
    refine bodyPost_ret (results_cell_row rfl _ _ gb200 25 #[.int .i64 (l0.length:Int),.slice Ao28 x205001_1.length co28] (0,0) _ rfl (by (with_reducible repeat (first|apply nB|apply dB|apply aB));refine blk_put (cs:=#[.int .i64 (l0.length:Int),.slice none 0 0]) ?_ 1 _ rfl;(with_reducible repeat (first|apply nB|apply dB|apply aB));refine blk_put (cs:=#[.int .i64 0,.slice none 0 0]) ?_ 0 _ rfl;(with_reducible repeat (first|apply nB|apply dB|apply aB));exact BK200.out) Try.underlying25 rfl (by kernel_rfl)) rfl ?_
    exact⟨_,by first|rfl|(simp [errW_none,errW_some] <;> rfl)|(simp only [← hji2];first|rfl|(simp [errW_none,errW_some] <;> rfl))|(simp [*,errW_none,errW_some] <;> rfl),by (with_reducible repeat (first|apply aR|apply nR|apply dR));exact Kd.R_mono (Kd.R_far (p:=⟨gb200,1,none⟩) (Kd.R_far (p:=⟨gb200,0,none⟩) (Kd.R_types HO_205001.out BK200.out (by decide)) (by first|exact fun _ hk=>hk.2|(intro k_ hk;simp only [hk,ne_eq,and_self,not_false_eq_true])) (.int .i64 (l0.length:Int))) (by first|exact fun _ hk=>hk.2|(intro k_ hk;simp only [hk,ne_eq,and_self,not_false_eq_true])) (.slice Ao28 x205001_1.length co28)) (fun _ hk=>trivial),by repeat (first|(with_reducible first|exact HB.out|apply aZ|apply nZ|apply dZ|refine sZ ?_ GE200.out|refine sZ ?_ GE204.out)|exact HB.out)⟩
   rw [if_pos c12] at H
   have c12b0:decide (x17_1 < (l0.length:Int)) = true:=decide_eq_true c12
   clear c12
   by_cases c13:0 ≤ x17_1
   rotate_left
   ·rw [if_neg c13] at H
    exact absurd H (by simp)
   rw [if_pos c13] at H
   have c13b0:decide (0 ≤ x17_1) = true:=decide_eq_true c13
   clear c13
   by_cases c14:x17_1 < (l0.length:Int)
   rotate_left
   ·rw [if_neg c14] at H
    exact absurd H (by simp)
   rw [if_pos c14] at H
   have c14b0:decide (x17_1 < (l0.length:Int)) = true:=decide_eq_true c14
   clear c14
   obtain⟨ji15,hji15⟩:∃ j_:Int,(wrap64 (Int.tdiv x17_1 64)) = j_:=⟨_,rfl⟩
   replace H:(if 0 ≤ (ji15) then (if (ji15) < (x205001_1.length:Int) then (if 0 ≤ (Int.tmod x17_1 64) then (impl_bitsOf.l0 k1 l0 (l0.length:Int) (wrap64 (x17_1 + 1)) (l0.length:Int) (x205001_1.set ((ji15):Int).toNat (Go.bits .or .u64 (rd x205001_1 (ji15)) (shl .u64 (IntKind.u64.wrap (rd l0 x17_1)) (Int.tmod x17_1 64))))) else (none)) else (none)) else (none)) = some (r1,r2):=by first|(rw [hji15] at H;exact H)|(simp only [hji15] at H ⊢;exact H)
   have hji15w:(IntKind.i64.wrap (Int.tdiv x17_1 64)) = ji15:=(i64_w _).trans hji15
   by_cases c16:0 ≤ (ji15)
   rotate_left
   ·rw [if_neg c16] at H
    exact absurd H (by simp)
   rw [if_pos c16] at H
   have c16b0:decide (0 ≤ (ji15)) = true:=decide_eq_true c16
   clear c16
   by_cases c17:(ji15) < (x205001_1.length:Int)
   rotate_left
   ·rw [if_neg c17] at H
    exact absurd H (by simp)
   rw [if_pos c17] at H
   have c17b0:decide ((ji15) < (x205001_1.length:Int)) = true:=decide_eq_true c17
   clear c17
   obtain⟨ji18,hji18⟩:∃ j_:Int,(Int.tmod x17_1 64) = j_:=⟨_,rfl⟩
   replace H:(if 0 ≤ (ji18) then (impl_bitsOf.l0 k1 l0 (l0.length:Int) (wrap64 (x17_1 + 1)) (l0.length:Int) (x205001_1.set ((ji15):Int).toNat (Go.bits .or .u64 (rd x205001_1 (ji15)) (shl .u64 (IntKind.u64.wrap (rd l0 x17_1)) (ji18))))) else (none)) = some (r1,r2):=by first|(rw [hji18] at H;exact H)|(simp only [hji18] at H ⊢;exact H)
   by_cases c19:0 ≤ (ji18)
   rotate_left
   ·rw [if_neg c19] at H
    exact absurd H (by simp)
   rw [if_pos c19] at H
   have c19b0:=eq_true c19
   have c19b1:decide (0 ≤ (ji18)) = true:=decide_eq_true c19
   clear c19
   obtain⟨ji20,hji20⟩:∃ j_:Int,(shl .u64 (IntKind.u64.wrap (rd l0 x17_1)) (ji18)) = j_:=⟨_,rfl⟩
   replace H:(impl_bitsOf.l0 k1 l0 (l0.length:Int) (wrap64 (x17_1 + 1)) (l0.length:Int) (x205001_1.set ((ji15):Int).toNat (Go.bits .or .u64 (rd x205001_1 (ji15)) (ji20)))) = some (r1,r2):=by first|(rw [hji20] at H;exact H)|(simp only [hji20] at H ⊢;exact H)
   have hji20_:(IntKind.u64.wrap ((IntKind.u64.wrap (rd l0 x17_1)) * 2 ^ min (ji18).toNat 64)) = ji20:=hji20
   have hji20z:(ji18) ≤ 64 → (IntKind.u64.wrap ((IntKind.u64.wrap (rd l0 x17_1)) * 2 ^ (ji18).toNat)) = ji20:=shl_small hji20
   obtain⟨y207,hy207⟩:∃ y_:List Int,y_ = (x205001_1.set ((ji15):Int).toNat (Go.bits .or .u64 (rd x205001_1 (ji15)) (ji20))):=⟨_,rfl⟩
   replace H:(impl_bitsOf.l0 k1 l0 (l0.length:Int) (wrap64 (x17_1 + 1)) (l0.length:Int) y207) = some (r1,r2):=by first|(rw [hy207];with_reducible exact H)|(have H2_:=(Option.bind_some _ _).symm.trans H;rw [hy207];with_reducible exact H2_)|(have H2_:=(Option.bind_some _ _).symm.trans H;with_reducible exact H2_)|with_reducible exact H|(rw [hy207];exact H)|exact H
   have Ny207:=mk0 hy207
   clear hy207
   have H':=mk0 H
   clear H
   have p205:0 ≤ (x17_1:Int):=of_decide_eq_true (by first|(with_reducible assumption)|assumption)
   have q205:x17_1 < (l0.length:Int):=of_decide_eq_true (by first|(with_reducible assumption)|assumption)
   obtain⟨ad205,e205,hx205_0⟩:=Kd.at_int HR0.out x17_1 p205 q205
   cases e205
   replace hx205_0:=(HB.out.cell (World.block_lt_of_cell? w _ hx205_0)).trans hx205_0
   replace p205:=eq_true p205
   replace q205:=eq_true q205
   try go_wp2
   have n0_:=mk0 (dR HO_205001.out)
   have n1_:=mk0 (dB BK200.out)
   have n2_:=mk0 (dB BK204.out)
   have n3_:=mk0 (dZ HB.out)
   clear HO_205001
   clear BK200
   clear BK204
   clear HB
   have HO_205001:=n0_
   have BK200:=n1_
   have BK204:=n2_
   have HB:=n3_
   clear n0_ n1_ n2_ n3_
   obtain⟨Ao23,co23,eo23⟩:=Kd.R_slice HO_205001.out
   (first|subst eo23|(injection eo23 with f1_ f2_ f3_;have f4_:=f1_.symm;have f5_:=f3_.symm;clear f1_ f2_ f3_;subst f4_;subst f5_))
   have p206:0 ≤ ((ji15):Int):=of_decide_eq_true (by first|(with_reducible assumption)|assumption)
   have q206:(ji15) < (x205001_1.length:Int):=of_decide_eq_true (by first|(with_reducible assumption)|assumption)
   obtain⟨ad206,e206,hx206_0⟩:=Kd.at_int (Kd.R_reads' HO_205001.out).2.2 (ji15) p206 q206
   cases e206
   replace p206:=eq_true p206
   replace q206:=eq_true q206
   have p21:0 ≤ ((ji15):Int):=of_decide_eq_true (by first|(with_reducible assumption)|assumption)
   have q21:((ji15):Int) < ((x205001_1.length:Int):Int):=of_decide_eq_true (by first|(with_reducible assumption)|assumption)
   obtain⟨go21,co21,eo21,gb21,gl21,cl21,HG21⟩:=Kd.R_form HO_205001.out (by omega)
   (first|cases eo21|(injection eo21 with ea_ en_ ec_;(first|subst ea_|(injection ea_ with ea_;subst ea_));subst ec_;clear en_))
   have GB21:=mk0 gb21
   have GG21:=mk0 HG21
   clear gb21 gl21 HG21
   (first|simp only [add_plain] at hx206_0|skip)
   obtain⟨hx21_0,hf21_0⟩:=Kd.R_celln 0 HO_205001.out ((ji15):Int) p21 q21
   replace p21:=eq_true p21
   replace q21:=eq_true q21
   have HP24:=Kd.R_putn HO_205001.out ((ji15):Int) (Go.bits .or .u64 (rd x205001_1 (ji15)) (ji20))
   rw [← Ny207.out] at HP24
   have HQ24:=mk0 HP24
   clear HP24
   refine start_ (n:=14) (S:=fun w'=>w'.cell? ⟨gb204,0,none⟩ = some (.int .i64 (l0.length:Int)) ∧ w'.cell? ⟨gb204,1,none⟩ = some (.slice (some ⟨go21,0,none⟩) x205001_1.length co23) ∧ w'.cell? ⟨go21,((ji15)).toNat,none⟩ = some (.int .u64 (rd x205001_1 (ji15)))) (ds:=[13]) impl_bitsOf.m0 (by kernel_rfl) rfl rfl ⟨(blk_cell BK204.out 0).trans rfl,(blk_cell BK204.out 1).trans rfl,hx206_0⟩ (fun hHeld=>?_);refine with_tabW impl_bitsOf.tab5 impl_bitsOf.bits5 (fun HT_ HW_=>?_)
   generalize wr.drew = w22 at HO_205001 BK200 BK204 HB GG21 HQ24 hf21_0 hx206_0 hx21_0 hHeld ⊢
   refine pure_ (i:=0) (N:=some 22) (v:=?_) (a':=?_) impl_bitsOf.m1 rfl rfl (any_of HT_.out (by kernel_rfl)) (fun _ _ _ h=>h) (Or.inl ⟨by rfl,?_⟩) ?_ ?_
   rotate_left
   ·intro w'
    go_simp
    with_reducible rfl
   rotate_left
   ·simp only [Act.put,sA,sO,sS,i64_w,i32_w]
    rfl
   refine pure_ (i:=2) (N:=some 24) (v:=?_) (a':=?_) impl_bitsOf.m2 rfl rfl (any_of HT_.out (by kernel_rfl)) (fun _ _ _ h=>h) (Or.inl ⟨by rfl,?_⟩) ?_ ?_
   rotate_left
   ·intro w'
    go_simp
    with_reducible rfl
   rotate_left
   ·simp only [Act.put,sA,sO,sS,i64_w,i32_w]
    rfl
   refine pure_ (i:=3) (N:=some 25) (v:=?_) (a':=?_) impl_bitsOf.m3 rfl rfl (any_of HT_.out (by kernel_rfl)) (fun _ _ _ h=>h) (Or.inl ⟨by rfl,?_⟩) ?_ ?_
   rotate_left
   ·intro w'
    go_simp
    with_reducible rfl
   rotate_left
   ·simp only [Act.put,sA,sO,sS,i64_w,i32_w]
    rfl
   refine pure_ (i:=6) (N:=some 28) (v:=?_) (a':=?_) impl_bitsOf.m4 rfl rfl (any_of HT_.out (by kernel_rfl)) (fun _ _ _ h=>h) (Or.inl ⟨by rfl,?_⟩) ?_ ?_
   rotate_left
   ·intro w'
    go_simp
    with_reducible rfl
   rotate_left
   ·simp only [Act.put,sA,sO,sS,i64_w,i32_w]
    rfl
   refine pure_ (i:=7) (N:=some 29) (v:=?_) (a':=?_) impl_bitsOf.m5 rfl rfl (any_of HT_.out (by kernel_rfl)) (fun _ _ _ h=>h) (Or.inl ⟨by rfl,?_⟩) ?_ ?_
   rotate_left
   ·intro w'
    go_simp
    with_reducible rfl
   rotate_left
   ·simp only [Act.put,sA,sO,sS,i64_w,i32_w]
    rfl
   refine pure_ (i:=8) (N:=some 30) (v:=?_) (a':=?_) impl_bitsOf.m6 rfl rfl (any_of HT_.out (by kernel_rfl)) (fun _ _ _ h=>h) (Or.inl ⟨by rfl,?_⟩) ?_ ?_
   rotate_left
   ·intro w'
    go_simp
    with_reducible rfl
   rotate_left
   ·simp only [Act.put,sA,sO,sS,i64_w,i32_w]
    rfl
   refine pure_ (i:=9) (N:=some 31) (v:=?_) (a':=?_) impl_bitsOf.m7 rfl rfl (any_of HT_.out (by kernel_rfl)) (fun _ _ _ h=>h) (Or.inl ⟨by rfl,?_⟩) ?_ ?_
   rotate_left
   ·intro w'
    go_simp
    with_reducible rfl
   rotate_left
   ·simp only [Act.put,sA,sO,sS,i64_w,i32_w]
    rfl
   refine pure_ (i:=10) (N:=some 32) (v:=?_) (a':=?_) impl_bitsOf.m8 rfl rfl (any_of HT_.out (by kernel_rfl)) (fun _ _ _ h=>h) (Or.inl ⟨by rfl,?_⟩) ?_ ?_
   rotate_left
   ·intro w'
    go_simp
    with_reducible rfl
   rotate_left
   ·simp only [Act.put,sA,sO,sS,i64_w,i32_w]
    rfl
   refine take_ (i:=1) (N:=some 23) (v:=?_) (a':=?_) impl_bitsOf.m9 rfl rfl (take_ofW HT_.out HW_.out (by kernel_rfl)) (fun _ _ _ h=>h) (Or.inl ⟨by rfl,?_⟩) hHeld ?_ ?_
   rotate_left
   ·rintro w' ⟨s0,s1,s2⟩
    go_simp
    with_reducible rfl
   rotate_left
   ·simp only [Act.put,sA,sO,sS,i64_w,i32_w]
    rfl
   refine pure_ (i:=4) (N:=some 26) (v:=?_) (a':=?_) impl_bitsOf.m10 rfl rfl (any_of HT_.out (by kernel_rfl)) (fun _ _ _ h=>h) (Or.inl ⟨by rfl,?_⟩) ?_ ?_
   rotate_left
   ·intro w'
    go_simp
    with_reducible rfl
   rotate_left
   ·simp only [Act.put,sA,sO,sS,i64_w,i32_w]
    rfl
   refine take_ (i:=5) (N:=some 27) (v:=?_) (a':=?_) impl_bitsOf.m11 rfl rfl (take_ofW HT_.out HW_.out (by kernel_rfl)) (fun _ _ _ h=>h) (Or.inl ⟨by rfl,?_⟩) hHeld ?_ ?_
   rotate_left
   ·rintro w' ⟨s0,s1,s2⟩
    go_simp
    with_reducible rfl
   rotate_left
   ·simp only [Act.put,sA,sO,sS,i64_w,i32_w]
    rfl
   refine pure_ (i:=11) (N:=some 33) (v:=?_) (a':=?_) impl_bitsOf.m12 rfl rfl (any_of HT_.out (by kernel_rfl)) (fun _ _ _ h=>h) (Or.inl ⟨by rfl,?_⟩) ?_ ?_
   rotate_left
   ·intro w'
    go_simp
    with_reducible rfl
   rotate_left
   ·simp only [Act.put,sA,sO,sS,i64_w,i32_w]
    rfl
   refine pure_ (i:=12) (N:=some 34) (v:=?_) (a':=?_) impl_bitsOf.m13 rfl rfl (any_of HT_.out (by kernel_rfl)) (fun _ _ _ h=>h) (Or.inl ⟨by rfl,?_⟩) ?_ ?_
   rotate_left
   ·intro w'
    go_simp
    with_reducible rfl
   rotate_left
   ·simp only [Act.put,sA,sO,sS,i64_w,i32_w]
    rfl
   refine last_ (i:=13) (N:=none) impl_bitsOf.m14 rfl rfl (one_of HT_.out (by kernel_rfl)) (by decide) (fun K hK=>?_)
   refine skip_ (w1:=?_) (by rfl) rfl ?_ ?_
   rotate_left
   ·go_simp
    rfl
   refine hK.out _ _ ?_
   clear hK K
   refine done_ (done_of HT_.out (by kernel_rfl)) ?_
   try go_wp2
   go_roundg k1
   case measure=>have:=HK1.out;omega
   case rel=>exact⟨(wrap64 (x17_1 + 1)),(y207),(.slice (some ⟨go21,0,none⟩) x205001_1.length co23),(by first|rfl|(simp;done)|(simp [*];done)),H',⟨by have:=HK1.out;omega⟩,⟨by (with_reducible repeat (first|apply aR|apply nR|apply dR));exact HQ24.out⟩,⟨by (with_reducible repeat (first|apply nB|apply dB|apply aB));refine blk_far ?_ (by have h_:=Kd.R_ne HO_205001.out BK200.out (by decide);intro e_;exact h_ (by rw [e_];rfl)) _;(with_reducible repeat (first|apply nB|apply dB|apply aB));exact BK200.out⟩,⟨by (with_reducible repeat (first|apply nB|apply dB|apply aB));refine blk_far ?_ (by have h_:=Kd.R_ne HO_205001.out BK204.out (by decide);intro e_;exact h_ (by rw [e_];rfl)) _;(with_reducible repeat (first|apply nB|apply dB|apply aB));exact BK204.out⟩,⟨by repeat (first|(with_reducible first|exact HB.out|apply aZ|apply nZ|apply dZ|refine sZ ?_ GB21.out|refine sZ ?_ GE200.out|refine sZ ?_ GE204.out)|exact HB.out)⟩⟩
/-! ### impl_marks: function 27 -/
def impl_marks.l0 : Nat → List Int → List Int → List (S70) → Int → Int → Option (Int × List Int × Int × List Int)
 | 0, _, _, _, _, _ => none
 | k + 1, x8, x9, x16, x17, x18 => if x18 < x17 then (if 0 ≤ x18 then (if x18 < (x16.length : Int) then (if 0 ≤ ((rd_T70 x16 x18).f0) then (if ((rd_T70 x16 x18).f0) < (x8.length : Int) then (if 0 ≤ ((rd_T70 x16 x18).f1) then (if ((rd_T70 x16 x18).f1) < (x9.length : Int) then (impl_marks.l0 k (x8.set (((rd_T70 x16 x18).f0) : Int).toNat 1) (x9.set (((rd_T70 x16 x18).f1) : Int).toNat 1) x16 x17 (wrap64 (x18 + 1))) else (none)) else (none)) else (none)) else (none)) else (none)) else (none)) else ((impl_bitsOf.f k x8).bind fun bt220 => ((impl_bitsOf.f k x9).bind fun bt224 => (some (bt220.1, bt220.2, bt224.1, bt224.2))))
def impl_marks.f (k : Nat) (a0 : Int) (a1 : Int) (l2 : List (S70)) : Option (Int × List Int × Int × List Int) := if 0 ≤ a0 then (if (a0 : Int).toNat ≤ 35184372088832 then (if 0 ≤ a1 then (if (a1 : Int).toNat ≤ 35184372088832 then (impl_marks.l0 k (List.replicate (a0 : Int).toNat 0) (List.replicate (a1 : Int).toNat 0) l2 (l2.length : Int) 0) else (none)) else (none)) else (none)) else (none)
theorem impl_marks.mono_l : ∀ k, (∀ y0 y1 y2 y3 y4, LeO (impl_marks.l0 k y0 y1 y2 y3 y4) (impl_marks.l0 (k + 1) y0 y1 y2 y3 y4))
 | 0 => fun _ _ _ _ _ r h => by simp [impl_marks.l0] at h
 | k + 1 => by
  have ih0 := impl_marks.mono_l k
  ·intro y0 y1 y2 y3 y4
   unfold impl_marks.l0
   repeat' first|(with_reducible first|exact ih0 _ _ _ _ _|exact impl_bitsOf.mono _ _|exact LeO.refl _|exact LeO.none _|refine LeO.ite ?_ ?_|refine LeO.bind ?_ (fun _ => ?_))|exact LeO.none _|refine LeO.ite ?_ ?_|refine LeO.bind ?_ (fun _ => ?_)
theorem impl_marks.mono : ∀ a0 a1 a2 k, LeO (impl_marks.f k a0 a1 a2) (impl_marks.f (k + 1) a0 a1 a2) := by
 intro a0 a1 a2 k
 have ih0 := impl_marks.mono_l k
 unfold impl_marks.f
 repeat' first|(with_reducible first|exact ih0 _ _ _ _ _|exact impl_bitsOf.mono _ _|exact LeO.refl _|exact LeO.none _|refine LeO.ite ?_ ?_|refine LeO.bind ?_ (fun _ => ?_))|exact LeO.none _|refine LeO.ite ?_ ?_|refine LeO.bind ?_ (fun _ => ?_)
def impl_marks.T5 : Bool × List (List Nat × List Nat) := (true, [([], []), ([], []), ([1], [1]), ([], []), ([], []), ([4], [4]), ([0, 2, 0, 1, 2], [0, 2]), ([6, 0, 1, 2], [6]), ([3, 5, 0, 1, 2, 3, 4, 5, 6, 7], [3, 5]), ([8, 7, 0, 1, 2, 3, 4, 5, 6, 7], [8])])
def impl_marks.B5 : List Nat := [0, 0, 2, 0, 0, 16, 7, 71, 255, 511]
theorem impl_marks.tab5 : rtab .any (opsOf Try.f27 5) = impl_marks.T5 := by kernel_rfl
theorem impl_marks.bits5 : waitsOk impl_marks.T5.2 impl_marks.B5 = true := by kernel_rfl
abbrev impl_marks.m0 : Array Bool := #[F,F,F,F,F,F,F,F,F,F]
abbrev impl_marks.m1 : Array Bool := #[T,F,F,F,F,F,F,F,F,F]
abbrev impl_marks.m2 : Array Bool := #[T,T,F,F,F,F,F,F,F,F]
abbrev impl_marks.m3 : Array Bool := #[T,T,F,T,F,F,F,F,F,F]
abbrev impl_marks.m4 : Array Bool := #[T,T,F,T,T,F,F,F,F,F]
abbrev impl_marks.m5 : Array Bool := #[T,T,T,T,T,F,F,F,F,F]
abbrev impl_marks.m6 : Array Bool := #[T,T,T,T,T,F,T,F,F,F]
abbrev impl_marks.m7 : Array Bool := #[T,T,T,T,T,T,T,F,F,F]
abbrev impl_marks.m8 : Array Bool := #[T,T,T,T,T,T,T,T,F,F]
abbrev impl_marks.m9 : Array Bool := #[T,T,T,T,T,T,T,T,T,F]
abbrev impl_marks.m10 : Array Bool := #[T,T,T,T,T,T,T,T,T,T]
set_option maxHeartbeats 8000000 in
set_option maxRecDepth 100000 in
theorem impl_marks.calls (k : Nat) (a0 : Int) (a1 : Int) (A2 : Option Addr) (c2 : Nat) (l2 : List (S70)) (r1 : Int) (r2 : List Int) (r3 : Int) (r4 : List Int) (w : World) (hr2 : Kd.C k70 w A2 l2.length l2) (hc2 : l2.length ≤ c2) (h : impl_marks.f k a0 a1 l2 = some (r1, r2, r3, r4)) :
  Calls Try.prog 27 #[.int .i64 a0, .int .i64 a1, .slice A2 l2.length c2] w fun e w' => ∃ v1_ v3_ : Value, e = .returned (.tuple #[.agg #[.int .i64 r1, v1_], .agg #[.int .i64 r3, v3_]]) ∧ Kd.R (Kd.int .u64) 77 w' w.heap.size (fun k_ => some k_ ≠ (v3_ : Value).ownBlock) v1_ r2 ∧ Kd.R (Kd.int .u64) 77 w' w.heap.size (fun k_ => some k_ ≠ (v1_ : Value).ownBlock) v3_ r4 ∧ Below w.heap.size w w' := by
 have hu25:=Try.underlying25
 have hu70:=Try.underlying70
 have HR2:=mk0 hr2
 have HC2:=mk0 hc2
 clear hr2 hc2
 have HB:=mk0 (Below.refl w.heap.size w)
 have H:(if 0 ≤ a0 then (if (a0:Int).toNat ≤ 35184372088832 then (if 0 ≤ a1 then (if (a1:Int).toNat ≤ 35184372088832 then (impl_marks.l0 k (List.replicate (a0:Int).toNat 0) (List.replicate (a1:Int).toNat 0) l2 (l2.length:Int) 0) else (none)) else (none)) else (none)) else (none)) = some (r1,r2,r3,r4):=h
 clear h
 by_cases c4:0 ≤ a0
 rotate_left
 ·rw [if_neg c4] at H
  exact absurd H (by simp)

 rw [if_pos c4] at H
 have c4b0:=eq_true c4
 have c4b1:decide (0 ≤ a0) = true:=decide_eq_true c4
 clear c4
 by_cases c5:(a0:Int).toNat ≤ 35184372088832
 rotate_left
 ·rw [if_neg c5] at H
  exact absurd H (by simp)
 rw [if_pos c5] at H
 have c5b0:=eq_true c5
 have c5b1:decide ((a0:Int).toNat ≤ 35184372088832) = true:=decide_eq_true c5
 clear c5
 obtain⟨y210,hy210⟩:∃ y_:List Int,y_ = (List.replicate (a0:Int).toNat 0):=⟨_,rfl⟩
 replace H:(if 0 ≤ a1 then (if (a1:Int).toNat ≤ 35184372088832 then (impl_marks.l0 k y210 (List.replicate (a1:Int).toNat 0) l2 (l2.length:Int) 0) else (none)) else (none)) = some (r1,r2,r3,r4):=by first|(rw [hy210];with_reducible exact H)|(have H2_:=(Option.bind_some _ _).symm.trans H;rw [hy210];with_reducible exact H2_)|(have H2_:=(Option.bind_some _ _).symm.trans H;with_reducible exact H2_)|with_reducible exact H|(rw [hy210];exact H)|exact H
 have Ny210:=mk0 hy210
 clear hy210
 by_cases c6:0 ≤ a1
 rotate_left
 ·rw [if_neg c6] at H
  exact absurd H (by simp)
 rw [if_pos c6] at H
 have c6b0:=eq_true c6
 have c6b1:decide (0 ≤ a1) = true:=decide_eq_true c6
 clear c6
 by_cases c7:(a1:Int).toNat ≤ 35184372088832
 rotate_left
 ·rw [if_neg c7] at H
  exact absurd H (by simp)
 rw [if_pos c7] at H
 have c7b0:=eq_true c7
 have c7b1:decide ((a1:Int).toNat ≤ 35184372088832) = true:=decide_eq_true c7
 clear c7
 obtain⟨y213,hy213⟩:∃ y_:List Int,y_ = (List.replicate (a1:Int).toNat 0):=⟨_,rfl⟩
 replace H:(impl_marks.l0 k y210 y213 l2 (l2.length:Int) 0) = some (r1,r2,r3,r4):=by first|(rw [hy213];with_reducible exact H)|(have H2_:=(Option.bind_some _ _).symm.trans H;rw [hy213];with_reducible exact H2_)|(have H2_:=(Option.bind_some _ _).symm.trans H;with_reducible exact H2_)|with_reducible exact H|(rw [hy213];exact H)|exact H
 have Ny213:=mk0 hy213
 clear hy213
 have H':=mk0 H
 clear H
 go_enter Try.func27,Try.ntmps27
 try go_wp2_with (first|((with_reducible refine gate_dst (N:=6) rfl ?_);refine box_event ?hg (N:=6) ?hd (cs:=#[.int .i64 0,.slice none 0 0]) (t:=25) ?hr ?_;(case hd=>rfl);(case hg=>rfl);(case hr=>first|(go_simp;done)|(go_simp;rfl));intro gb208 hg w8 hbox hb;have n0_:=mk0 (below_step (by repeat (first|(with_reducible first|exact HB.out|apply aZ|apply nZ|apply dZ)|exact HB.out)) hb);have n1_:=mk0 (hbox);have n2_:=mk0 ((by rw [hg];exact (below_size (by repeat (first|(with_reducible first|exact HB.out|apply aZ|apply nZ|apply dZ)|exact HB.out))):w.heap.size ≤ gb208));have n3_:=mk0 ((by rw [hg];exact (below_size (by repeat (first|(with_reducible first|exact HB.out|apply aZ|apply nZ|apply dZ)|exact HB.out))):w.heap.size ≤ gb208));clear HB;have HB:=n0_;have BK208:=n1_;have GW208:=n2_;have GE208:=n3_;clear n0_ n1_ n2_ n3_ hb hbox hg)|((with_reducible refine gate_dst (N:=7) rfl ?_);refine box_event ?hg (N:=7) ?hd (cs:=#[.int .i64 0,.slice none 0 0]) (t:=25) ?hr ?_;(case hd=>rfl);(case hg=>rfl);(case hr=>first|(go_simp;done)|(go_simp;rfl));intro gb209 hg w9 hbox hb;have n0_:=mk0 (blk_below (g:=gb208) (o:=.cells #[.int .i64 0,.slice none 0 0] 25 (0,0)) (by (with_reducible repeat (first|apply nB|apply dB|apply aB));exact BK208.out) hb);have n1_:=mk0 (below_step (by repeat (first|(with_reducible first|exact HB.out|apply aZ|apply nZ|apply dZ|refine sZ ?_ GE208.out)|exact HB.out)) hb);have n2_:=mk0 (hbox);have n3_:=mk0 ((by rw [hg];exact (below_size (by repeat (first|(with_reducible first|exact HB.out|apply aZ|apply nZ|apply dZ|refine sZ ?_ GE208.out)|exact HB.out))):w.heap.size ≤ gb209));have n4_:=mk0 ((by rw [hg];exact (below_size (by repeat (first|(with_reducible first|exact HB.out|apply aZ|apply nZ|apply dZ|refine sZ ?_ GE208.out)|exact HB.out))):w.heap.size ≤ gb209));have n5_:=mk0 ((by rw [hg];exact Nat.ne_of_lt (blk_lt (g:=gb208) (o:=.cells #[.int .i64 0,.slice none 0 0] 25 (0,0)) (by (with_reducible repeat (first|apply nB|apply dB|apply aB));exact BK208.out)):gb208 ≠ gb209));have n6_:=mk0 ((by rw [hg];exact Nat.ne_of_gt (blk_lt (g:=gb208) (o:=.cells #[.int .i64 0,.slice none 0 0] 25 (0,0)) (by (with_reducible repeat (first|apply nB|apply dB|apply aB));exact BK208.out)):gb209 ≠ gb208));clear BK208 HB;have BK208:=n0_;have HB:=n1_;have BK209:=n2_;have GW209:=n3_;have GE209:=n4_;have NB208_209:=n5_;have NB209_208:=n6_;clear n0_ n1_ n2_ n3_ n4_ n5_ n6_ hb hbox hg))
 have n0_:=mk0 (dB BK208.out)
 have n1_:=mk0 (dB BK209.out)
 have n2_:=mk0 (dZ HB.out)
 clear BK208
 clear BK209
 clear HB
 have BK208:=n0_
 have BK209:=n1_
 have HB:=n2_
 clear n0_ n1_ n2_
 refine start_ (n:=6) (S:=fun w'=>True) (ds:=[]) #[false,false,false,false,false,false] (by kernel_rfl) rfl rfl trivial (fun hHeld=>?_)
 generalize w9.drew = w10 at BK208 BK209 HB hHeld ⊢
 refine pure_ (i:=0) (N:=some 12) (v:=?_) (a':=?_) #[true,false,false,false,false,false] rfl rfl (by kernel_rfl) (fun _ _ _ h=>h) (Or.inl ⟨by rfl,?_⟩) ?_ ?_
 rotate_left
 ·intro w'
  go_simp
  with_reducible rfl
 rotate_left
 ·simp only [Act.put,sA,sO,sS,i64_w,i32_w]
  rfl
 refine pure_ (i:=2) (N:=some 14) (v:=?_) (a':=?_) #[true,false,true,false,false,false] rfl rfl (by kernel_rfl) (fun _ _ _ h=>h) (Or.inl ⟨by rfl,?_⟩) ?_ ?_
 rotate_left
 ·intro w'
  go_simp
  with_reducible rfl
 rotate_left
 ·simp only [Act.put,sA,sO,sS,i64_w,i32_w]
  rfl
 refine join_ (σ:=Value × Value) 1 #[true,true,true,true,true,false] (fun s_=>[(13,s_.1),(15,s_.2),(8,s_.1)]) (fun s_ w'=>(Kd.R (Kd.int .i64) 3 w' w.heap.size (fun k_=>some k_ ≠ (s_.2:Value).ownBlock) s_.1 y210) ∧ (Kd.R (Kd.int .i64) 3 w' w.heap.size (fun k_=>some k_ ≠ (s_.1:Value).ownBlock) s_.2 y213) ∧ (w'.heap[gb208]? = some (.cells #[.int .i64 0,.slice none 0 0] 25 (0,0))) ∧ (w'.heap[gb209]? = some (.cells #[.int .i64 0,.slice none 0 0] 25 (0,0))) ∧ (Below w.heap.size w w')) ?_ ?_
 rotate_left
 ·intro hCont
  refine two_ (i:=1) (j:=3) (Ni:=some 13) (Nj:=some 15) #[true,true,true,false,false,false] #[true,false,true,true,false,false] rfl rfl rfl rfl (by kernel_rfl) (by decide) (by decide) (fun K hK=>?_) (fun K hK=>?_)
  ·skip
   refine Kd.R_make_step (Kd.int .i64) _ 3 (by rfl) (N:=13) rfl 22 _ _ rfl a0 rfl rfl Try.underlying22 (.int .i64 0) 8 info3 rfl (by decide) (by omega) 0 (ok:=fun _=>True) (okp:=fun _=>True) rfl (fun _ hk=>hk) trivial (of_decide_eq_true (by first|(with_reducible assumption)|assumption)) (Nat.le_trans (Nat.mul_le_mul_right _ (of_decide_eq_true (by first|(with_reducible assumption)|assumption):a0.toNat ≤ 35184372088832)) (by omega)) (Below.refl _ _) (Nat.le_refl _) ?_
   intro v211 w11 ho12 hb hg_ hnew_
   clear hg_ hnew_
   (first|rw [← Ny210.out] at ho12|(simp only [Int.reduceToNat] at ho12;rw [← Ny210.out] at ho12))
   have n0_:=mk0 (Kd.R_lower ho12 (below_size (by repeat (first|(with_reducible first|exact HB.out|apply aZ|apply nZ|apply dZ|refine sZ ?_ GE208.out|refine sZ ?_ GE209.out)|exact HB.out))))
   have n1_:=mk0 (blk_below (g:=gb208) (o:=.cells #[.int .i64 0,.slice none 0 0] 25 (0,0)) (by (with_reducible repeat (first|apply nB|apply dB|apply aB));exact BK208.out) hb)
   have n2_:=mk0 (blk_below (g:=gb209) (o:=.cells #[.int .i64 0,.slice none 0 0] 25 (0,0)) (by (with_reducible repeat (first|apply nB|apply dB|apply aB));exact BK209.out) hb)
   have n3_:=mk0 (below_step (by repeat (first|(with_reducible first|exact HB.out|apply aZ|apply nZ|apply dZ|refine sZ ?_ GE208.out|refine sZ ?_ GE209.out)|exact HB.out)) hb)
   clear BK208
   clear BK209
   clear HB
   have HO212:=n0_
   have BK208:=n1_
   have BK209:=n2_
   have HB:=n3_
   clear n0_ n1_ n2_ n3_
   clear hb ho12
   refine hK.out _ _ trivial (fun hHeld=>?_)
   clear hK K
   refine norm_ (a':=?_) ?_ ?_
   rotate_left
   ·show Act.put _ (some 13) _ = _
    simp only [Act.put,sA,sO,sS,i64_w,i32_w]
    rfl
   refine pure_ (i:=4) (N:=some 8) (v:=?_) (a':=?_) #[true,true,true,false,true,false] rfl rfl (by kernel_rfl) (fun _ _ _ h=>h) (Or.inl ⟨by rfl,?_⟩) ?_ ?_
   rotate_left
   ·intro w'
    go_simp
    with_reducible rfl
   rotate_left
   ·simp only [Act.put,sA,sO,sS,i64_w,i32_w]
    rfl
   refine one_ (i:=3) (N:=some 15) #[true,true,true,true,true,false] rfl rfl (by kernel_rfl) (by decide) (fun K hK=>?_)
   refine Kd.R_make_step (Kd.int .i64) _ 3 (by rfl) (N:=15) rfl 22 _ _ rfl a1 rfl rfl Try.underlying22 (.int .i64 0) 8 info3 rfl (by decide) (by omega) 0 (ok:=fun _=>True) (okp:=fun _=>True) rfl (fun _ hk=>hk) trivial (of_decide_eq_true (by first|(with_reducible assumption)|assumption)) (Nat.le_trans (Nat.mul_le_mul_right _ (of_decide_eq_true (by first|(with_reducible assumption)|assumption):a1.toNat ≤ 35184372088832)) (by omega)) (Below.refl _ _) (Nat.le_refl _) ?_
   intro v214 w13 ho14 hb hg_ hnew_
   clear hg_ hnew_
   (first|rw [← Ny213.out] at ho14|(simp only [Int.reduceToNat] at ho14;rw [← Ny213.out] at ho14))
   have n0_:=mk0 (Kd.R_elder' (by (with_reducible repeat (first|apply aR|apply nR|apply dR));exact HO212.out) (Kd.R_base ho14) hb)
   have n1_:=mk0 (Kd.R_lower (Kd.R_new' ho14 (Kd.R_lt (by (with_reducible repeat (first|apply aR|apply nR|apply dR));exact HO212.out))) (below_size (by repeat (first|(with_reducible first|exact HB.out|apply aZ|apply nZ|apply dZ|refine sZ ?_ GE208.out|refine sZ ?_ GE209.out)|exact HB.out))))
   have n2_:=mk0 (blk_below (g:=gb208) (o:=.cells #[.int .i64 0,.slice none 0 0] 25 (0,0)) (by (with_reducible repeat (first|apply nB|apply dB|apply aB));exact BK208.out) hb)
   have n3_:=mk0 (blk_below (g:=gb209) (o:=.cells #[.int .i64 0,.slice none 0 0] 25 (0,0)) (by (with_reducible repeat (first|apply nB|apply dB|apply aB));exact BK209.out) hb)
   have n4_:=mk0 (below_step (by repeat (first|(with_reducible first|exact HB.out|apply aZ|apply nZ|apply dZ|refine sZ ?_ GE208.out|refine sZ ?_ GE209.out)|exact HB.out)) hb)
   clear HO212
   clear BK208
   clear BK209
   clear HB
   have HO212:=n0_
   have HO215:=n1_
   have BK208:=n2_
   have BK209:=n3_
   have HB:=n4_
   clear n0_ n1_ n2_ n3_ n4_
   clear hb ho14
   refine hK.out _ _ trivial (fun hHeld=>?_)
   clear hK K
   refine norm_ (a':=?_) ?_ ?_
   rotate_left
   ·show Act.put _ (some 15) _ = _
    simp only [Act.put,sA,sO,sS,i64_w,i32_w]
    rfl
   exact norm_ (by simp only [putAll,Act.put,sA,sO,sS]) (hCont (v211,v214) _ ⟨(by (with_reducible repeat (first|apply aR|apply nR|apply dR));exact Kd.R_mono HO212.out (by first|exact fun _ hk=>hk.2|(intro k_ hk;simp only [hk,ne_eq,and_self,not_false_eq_true]))),(by (with_reducible repeat (first|apply aR|apply nR|apply dR));exact Kd.R_mono HO215.out (by first|exact fun _ hk=>hk.2|(intro k_ hk;simp only [hk,ne_eq,and_self,not_false_eq_true]))),(by (with_reducible repeat (first|apply nB|apply dB|apply aB));exact BK208.out),(by (with_reducible repeat (first|apply nB|apply dB|apply aB));exact BK209.out),(by repeat (first|(with_reducible first|exact HB.out|apply aZ|apply nZ|apply dZ|refine sZ ?_ GE208.out|refine sZ ?_ GE209.out)|exact HB.out))⟩)
  ·skip
   refine Kd.R_make_step (Kd.int .i64) _ 3 (by rfl) (N:=15) rfl 22 _ _ rfl a1 rfl rfl Try.underlying22 (.int .i64 0) 8 info3 rfl (by decide) (by omega) 0 (ok:=fun _=>True) (okp:=fun _=>True) rfl (fun _ hk=>hk) trivial (of_decide_eq_true (by first|(with_reducible assumption)|assumption)) (Nat.le_trans (Nat.mul_le_mul_right _ (of_decide_eq_true (by first|(with_reducible assumption)|assumption):a1.toNat ≤ 35184372088832)) (by omega)) (Below.refl _ _) (Nat.le_refl _) ?_
   intro v214 w11 ho12 hb hg_ hnew_
   clear hg_ hnew_
   (first|rw [← Ny213.out] at ho12|(simp only [Int.reduceToNat] at ho12;rw [← Ny213.out] at ho12))
   have n0_:=mk0 (Kd.R_lower ho12 (below_size (by repeat (first|(with_reducible first|exact HB.out|apply aZ|apply nZ|apply dZ|refine sZ ?_ GE208.out|refine sZ ?_ GE209.out)|exact HB.out))))
   have n1_:=mk0 (blk_below (g:=gb208) (o:=.cells #[.int .i64 0,.slice none 0 0] 25 (0,0)) (by (with_reducible repeat (first|apply nB|apply dB|apply aB));exact BK208.out) hb)
   have n2_:=mk0 (blk_below (g:=gb209) (o:=.cells #[.int .i64 0,.slice none 0 0] 25 (0,0)) (by (with_reducible repeat (first|apply nB|apply dB|apply aB));exact BK209.out) hb)
   have n3_:=mk0 (below_step (by repeat (first|(with_reducible first|exact HB.out|apply aZ|apply nZ|apply dZ|refine sZ ?_ GE208.out|refine sZ ?_ GE209.out)|exact HB.out)) hb)
   clear BK208
   clear BK209
   clear HB
   have HO215:=n0_
   have BK208:=n1_
   have BK209:=n2_
   have HB:=n3_
   clear n0_ n1_ n2_ n3_
   clear hb ho12
   refine hK.out _ _ trivial (fun hHeld=>?_)
   clear hK K
   refine norm_ (a':=?_) ?_ ?_
   rotate_left
   ·show Act.put _ (some 15) _ = _
    simp only [Act.put,sA,sO,sS,i64_w,i32_w]
    rfl
   refine one_ (i:=1) (N:=some 13) #[true,true,true,true,false,false] rfl rfl (by kernel_rfl) (by decide) (fun K hK=>?_)
   refine Kd.R_make_step (Kd.int .i64) _ 3 (by rfl) (N:=13) rfl 22 _ _ rfl a0 rfl rfl Try.underlying22 (.int .i64 0) 8 info3 rfl (by decide) (by omega) 0 (ok:=fun _=>True) (okp:=fun _=>True) rfl (fun _ hk=>hk) trivial (of_decide_eq_true (by first|(with_reducible assumption)|assumption)) (Nat.le_trans (Nat.mul_le_mul_right _ (of_decide_eq_true (by first|(with_reducible assumption)|assumption):a0.toNat ≤ 35184372088832)) (by omega)) (Below.refl _ _) (Nat.le_refl _) ?_
   intro v211 w13 ho14 hb hg_ hnew_
   clear hg_ hnew_
   (first|rw [← Ny210.out] at ho14|(simp only [Int.reduceToNat] at ho14;rw [← Ny210.out] at ho14))
   have n0_:=mk0 (Kd.R_elder' (by (with_reducible repeat (first|apply aR|apply nR|apply dR));exact HO215.out) (Kd.R_base ho14) hb)
   have n1_:=mk0 (Kd.R_lower (Kd.R_new' ho14 (Kd.R_lt (by (with_reducible repeat (first|apply aR|apply nR|apply dR));exact HO215.out))) (below_size (by repeat (first|(with_reducible first|exact HB.out|apply aZ|apply nZ|apply dZ|refine sZ ?_ GE208.out|refine sZ ?_ GE209.out)|exact HB.out))))
   have n2_:=mk0 (blk_below (g:=gb208) (o:=.cells #[.int .i64 0,.slice none 0 0] 25 (0,0)) (by (with_reducible repeat (first|apply nB|apply dB|apply aB));exact BK208.out) hb)
   have n3_:=mk0 (blk_below (g:=gb209) (o:=.cells #[.int .i64 0,.slice none 0 0] 25 (0,0)) (by (with_reducible repeat (first|apply nB|apply dB|apply aB));exact BK209.out) hb)
   have n4_:=mk0 (below_step (by repeat (first|(with_reducible first|exact HB.out|apply aZ|apply nZ|apply dZ|refine sZ ?_ GE208.out|refine sZ ?_ GE209.out)|exact HB.out)) hb)
   clear HO215
   clear BK208
   clear BK209
   clear HB
   have HO215:=n0_
   have HO212:=n1_
   have BK208:=n2_
   have BK209:=n3_
   have HB:=n4_
   clear n0_ n1_ n2_ n3_ n4_
   clear hb ho14
   refine hK.out _ _ trivial (fun hHeld=>?_)
   clear hK K
   refine norm_ (a':=?_) ?_ ?_
   rotate_left
   ·show Act.put _ (some 13) _ = _
    simp only [Act.put,sA,sO,sS,i64_w,i32_w]
    rfl
   refine pure_ (i:=4) (N:=some 8) (v:=?_) (a':=?_) #[true,true,true,true,true,false] rfl rfl (by kernel_rfl) (fun _ _ _ h=>h) (Or.inl ⟨by rfl,?_⟩) ?_ ?_
   rotate_left
   ·intro w'
    go_simp
    with_reducible rfl
   rotate_left
   ·simp only [Act.put,sA,sO,sS,i64_w,i32_w]
    rfl
   exact norm_ (by simp only [putAll,Act.put,sA,sO,sS]) (hCont (v211,v214) _ ⟨(by (with_reducible repeat (first|apply aR|apply nR|apply dR));exact Kd.R_mono HO212.out (by first|exact fun _ hk=>hk.2|(intro k_ hk;simp only [hk,ne_eq,and_self,not_false_eq_true]))),(by (with_reducible repeat (first|apply aR|apply nR|apply dR));exact Kd.R_mono HO215.out (by first|exact fun _ hk=>hk.2|(intro k_ hk;simp only [hk,ne_eq,and_self,not_false_eq_true]))),(by (with_reducible repeat (first|apply nB|apply dB|apply aB));exact BK208.out),(by (with_reducible repeat (first|apply nB|apply dB|apply aB));exact BK209.out),(by repeat (first|(with_reducible first|exact HB.out|apply aZ|apply nZ|apply dZ|refine sZ ?_ GE208.out|refine sZ ?_ GE209.out)|exact HB.out))⟩)
 rintro⟨v211,v214⟩ w15 ⟨h0_,h1_,h2_,h3_,h4_⟩
 have n0_:Aside0 (Kd.R (Kd.int .i64) 3 w15 w.heap.size (fun k_=>some k_ ≠ (v214:Value).ownBlock) v211 y210):=⟨h0_⟩
 have n1_:Aside0 (Kd.R (Kd.int .i64) 3 w15 w.heap.size (fun k_=>some k_ ≠ (v211:Value).ownBlock) v214 y213):=⟨h1_⟩
 have n2_:Aside0 (w15.heap[gb208]? = some (.cells #[.int .i64 0,.slice none 0 0] 25 (0,0))):=⟨h2_⟩
 have n3_:Aside0 (w15.heap[gb209]? = some (.cells #[.int .i64 0,.slice none 0 0] 25 (0,0))):=⟨h3_⟩
 have n4_:Aside0 (Below w.heap.size w w15):=⟨h4_⟩
 clear BK208
 clear BK209
 clear HB
 clear h0_ h1_ h2_ h3_ h4_
 have HO212:=n0_
 have HO215:=n1_
 have BK208:=n2_
 have BK209:=n3_
 have HB:=n4_
 clear n0_ n1_ n2_ n3_ n4_
 have hHeld:=trivial
 refine norm_ (a':=?_) ?_ ?_
 rotate_left
 ·simp only [putAll,Act.put,sA,sO,sS]
  rfl
 refine pure_ (i:=5) (N:=some 9) (v:=?_) (a':=?_) #[true,true,true,true,true,true] rfl rfl (by kernel_rfl) (fun _ _ _ h=>h) (Or.inl ⟨by rfl,?_⟩) ?_ ?_
 rotate_left
 ·intro w'
  go_simp
  with_reducible rfl
 rotate_left
 ·simp only [Act.put,sA,sO,sS,i64_w,i32_w]
  rfl
 refine done_ (by kernel_rfl) ?_
 try go_wp2
 go_loopg [18] k (fun kq v18 w'=>∃ (x8_1:List Int) (x9_1:List Int) (x18_1:Int),v18 = .int .i64 x18_1 ∧ Aside0 (impl_marks.l0 kq x8_1 x9_1 l2 (l2.length:Int) x18_1 = some (r1,r2,r3,r4)) ∧ Aside0 (kq ≤ k) ∧ Aside0 (Kd.R (Kd.int .i64) 3 w' w.heap.size (fun k_=>some k_ ≠ (v214:Value).ownBlock) v211 x8_1) ∧ Aside0 (Kd.R (Kd.int .i64) 3 w' w.heap.size (fun k_=>some k_ ≠ (v211:Value).ownBlock) v214 x9_1) ∧ Aside0 (w'.heap[gb208]? = some (.cells #[.int .i64 0,(.slice none 0 0)] 25 (0,0))) ∧ Aside0 (w'.heap[gb209]? = some (.cells #[.int .i64 0,(.slice none 0 0)] 25 (0,0))) ∧ Aside0 (Below w.heap.size w w'))
 case atStart=>exact⟨(y210),(y213),(0),(by first|rfl|(simp;done)|(simp [*];done)),H',⟨Nat.le_refl _⟩,⟨by (with_reducible repeat (first|apply aR|apply nR|apply dR));exact HO212.out⟩,⟨by (with_reducible repeat (first|apply aR|apply nR|apply dR));exact HO215.out⟩,⟨by (with_reducible repeat (first|apply nB|apply dB|apply aB));exact BK208.out⟩,⟨by (with_reducible repeat (first|apply nB|apply dB|apply aB));exact BK209.out⟩,⟨by repeat (first|(with_reducible first|exact HB.out|apply aZ|apply nZ|apply dZ|refine sZ ?_ GE208.out|refine sZ ?_ GE209.out)|exact HB.out)⟩⟩
 case round =>
  clear H'
  try clear c2
  try clear p2
  try clear c4
  try clear c4b0
  try clear c4b1
  try clear c5
  try clear c5b0
  try clear c5b1
  try clear c6
  try clear c6b0
  try clear c6b1
  try clear c7
  try clear c7b0
  try clear c7b1
  obtain⟨x8_1,x9_1,x18_1,rfl,HA,HK1,HO_8,HO_9,BK208,BK209,HB⟩:=hrel
  cases gk with
  | zero=>exact absurd HA.out (by simp [impl_marks.l0])
  | succ k1 =>
   have H:=HA.out
   clear HA
   simp only [impl_marks.l0] at H
   by_cases c16:x18_1 < (l2.length:Int)
   rotate_left
   ·rw [if_neg c16] at H
    have c16b0:decide (x18_1 < (l2.length:Int)) = false:=decide_eq_false c16
    clear c16
    replace H:=Option.bind_eq_some_iff.mp H
    obtain⟨⟨t220,t221⟩,A330,H⟩:=H
    replace H:((impl_bitsOf.f k1 x9_1).bind fun bt224=>(some (t220,t221,bt224.1,bt224.2))) = some (r1,r2,r3,r4):=H
    have A33:=mk0 A330
    clear A330
    replace H:=Option.bind_eq_some_iff.mp H
    obtain⟨⟨t224,t225⟩,A340,H⟩:=H
    replace H:(some (t220,t221,t224,t225)) = some (r1,r2,r3,r4):=H
    have A34:=mk0 A340
    clear A340
    simp only [Option.some.injEq,Prod.mk.injEq] at H
    obtain⟨rfl,rfl,rfl,rfl⟩:=H
    obtain⟨Ao35,co35,eo35⟩:=Kd.R_slice HO_8.out
    subst eo35
    go_wp2_with (first|((with_reducible refine gate_callee (f:=47) rfl ?_);refine goesL_ (some 32) rfl rfl Try.func47 (by kernel_rfl) rfl #[.slice Ao35 x8_1.length co35] rfl (by (try simp only [mA,mC,mN]);first|done|rfl|(simp only [List.length_drop,List.length_take];rfl)) ?_;(with_reducible refine (impl_bitsOf.calls k1 _ _ x8_1 t220 t221 _ ?side1 ?side2 A33.out).mono ?_);(case side1=>repeat (first|exact (Kd.R_reads' HO_8.out).2.2|(with_reducible first|apply aC|apply nC|apply dC)));(case side2=>exact (Kd.R_reads' HO_8.out).2.1);rintro e w36 ⟨v222,rfl,ho0,hb⟩;refine⟨_,rfl,?_⟩;have n0_:=mk0 (Kd.R_below (by (with_reducible repeat (first|apply aR|apply nR|apply dR));exact HO_8.out) hb);have n1_:=mk0 (Kd.R_below (by (with_reducible repeat (first|apply aR|apply nR|apply dR));exact HO_9.out) hb);have n2_:=mk0 (Kd.R_lower ho0 (below_size (by repeat (first|(with_reducible first|exact HB.out|apply aZ|apply nZ|apply dZ|refine sZ ?_ GE208.out|refine sZ ?_ GE209.out)|exact HB.out))));have n3_:=mk0 (blk_below (g:=gb208) (o:=.cells #[.int .i64 0,.slice none 0 0] 25 (0,0)) (by (with_reducible repeat (first|apply nB|apply dB|apply aB));exact BK208.out) hb);have n4_:=mk0 (blk_below (g:=gb209) (o:=.cells #[.int .i64 0,.slice none 0 0] 25 (0,0)) (by (with_reducible repeat (first|apply nB|apply dB|apply aB));exact BK209.out) hb);have n5_:=mk0 (below_step (by repeat (first|(with_reducible first|exact HB.out|apply aZ|apply nZ|apply dZ|refine sZ ?_ GE208.out|refine sZ ?_ GE209.out)|exact HB.out)) hb);clear HO_8 HO_9 BK208 BK209 HB;have HO_8:=n0_;have HO_9:=n1_;have HO223:=n2_;have BK208:=n3_;have BK209:=n4_;have HB:=n5_;clear n0_ n1_ n2_ n3_ n4_ n5_;(try clear hb);(try clear hb2);(try clear hk);(try clear hi);(try clear ho0);obtain⟨Ao37,co37,eo37⟩:=Kd.R_slice HO_9.out;subst eo37)|((with_reducible refine gate_callee (f:=47) rfl ?_);refine goesL_ (some 34) rfl rfl Try.func47 (by kernel_rfl) rfl #[.slice Ao37 x9_1.length co37] rfl (by (try simp only [mA,mC,mN]);first|done|rfl|(simp only [List.length_drop,List.length_take];rfl)) ?_;(with_reducible refine (impl_bitsOf.calls k1 _ _ x9_1 t224 t225 _ ?side1 ?side2 A34.out).mono ?_);(case side1=>repeat (first|exact (Kd.R_reads' HO_9.out).2.2|(with_reducible first|apply aC|apply nC|apply dC)));(case side2=>exact (Kd.R_reads' HO_9.out).2.1);rintro e w38 ⟨v226,rfl,ho0,hb⟩;refine⟨_,rfl,?_⟩;have n0_:=mk0 (Kd.R_below (by (with_reducible repeat (first|apply aR|apply nR|apply dR));exact HO_8.out) hb);have n1_:=mk0 (Kd.R_below (by (with_reducible repeat (first|apply aR|apply nR|apply dR));exact HO_9.out) hb);have n2_:=mk0 (Kd.R_elder' (by (with_reducible repeat (first|apply aR|apply nR|apply dR));exact HO223.out) (Kd.R_base ho0) hb);have n3_:=mk0 (Kd.R_lower (Kd.R_new' ho0 (Kd.R_lt (by (with_reducible repeat (first|apply aR|apply nR|apply dR));exact HO223.out))) (below_size (by repeat (first|(with_reducible first|exact HB.out|apply aZ|apply nZ|apply dZ|refine sZ ?_ GE208.out|refine sZ ?_ GE209.out)|exact HB.out))));have n4_:=mk0 (blk_below (g:=gb208) (o:=.cells #[.int .i64 0,.slice none 0 0] 25 (0,0)) (by (with_reducible repeat (first|apply nB|apply dB|apply aB));exact BK208.out) hb);have n5_:=mk0 (blk_below (g:=gb209) (o:=.cells #[.int .i64 0,.slice none 0 0] 25 (0,0)) (by (with_reducible repeat (first|apply nB|apply dB|apply aB));exact BK209.out) hb);have n6_:=mk0 (below_step (by repeat (first|(with_reducible first|exact HB.out|apply aZ|apply nZ|apply dZ|refine sZ ?_ GE208.out|refine sZ ?_ GE209.out)|exact HB.out)) hb);clear HO_8 HO_9 HO223 BK208 BK209 HB;have HO_8:=n0_;have HO_9:=n1_;have HO223:=n2_;have HO227:=n3_;have BK208:=n4_;have BK209:=n5_;have HB:=n6_;clear n0_ n1_ n2_ n3_ n4_ n5_ n6_;(try clear hb);(try clear hb2);(try clear hk);(try clear hi);(try clear ho0);have hnb39:=NB208_209.out;have hnc39:=NB209_208.out;have hcz40_0:w38.cell? ⟨gb208,0,none⟩ = some (.int .i64 0):=(blk_cell BK208.out 0).trans rfl;have hcz40_1:w38.cell? ⟨gb208,1,none⟩ = some (.slice none 0 0):=(blk_cell BK208.out 1).trans rfl;have hfz40_0:=blk_frozen BK208.out 0;have hfz40_1:=blk_frozen BK208.out 1;obtain⟨Ao41,co41,eo41⟩:=Kd.R_slice HO223.out;subst eo41;have hcz42_0:w38.cell? ⟨gb209,0,none⟩ = some (.int .i64 0):=(blk_cell BK209.out 0).trans rfl;have hcz42_1:w38.cell? ⟨gb209,1,none⟩ = some (.slice none 0 0):=(blk_cell BK209.out 1).trans rfl;have hfz42_0:=blk_frozen BK209.out 0;have hfz42_1:=blk_frozen BK209.out 1;obtain⟨Ao43,co43,eo43⟩:=Kd.R_slice HO227.out;subst eo43))
    refine bodyPost_ret (results_cc rfl _ _ gb208 gb209 25 25 #[.int .i64 t220,.slice Ao41 t221.length co41] #[.int .i64 t224,.slice Ao43 t225.length co43] (0,0) (0,0) _ _ rfl (by (with_reducible repeat (first|apply nB|apply dB|apply aB));refine blk_far ?_ NB208_209.out _;(with_reducible repeat (first|apply nB|apply dB|apply aB));refine blk_far ?_ NB208_209.out _;(with_reducible repeat (first|apply nB|apply dB|apply aB));refine blk_put (cs:=#[.int .i64 t220,.slice none 0 0]) ?_ 1 _ rfl;(with_reducible repeat (first|apply nB|apply dB|apply aB));refine blk_put (cs:=#[.int .i64 0,.slice none 0 0]) ?_ 0 _ rfl;(with_reducible repeat (first|apply nB|apply dB|apply aB));exact BK208.out) Try.underlying25 rfl (by kernel_rfl) rfl (by (with_reducible repeat (first|apply nB|apply dB|apply aB));refine blk_put (cs:=#[.int .i64 t224,.slice none 0 0]) ?_ 1 _ rfl;(with_reducible repeat (first|apply nB|apply dB|apply aB));refine blk_put (cs:=#[.int .i64 0,.slice none 0 0]) ?_ 0 _ rfl;(with_reducible repeat (first|apply nB|apply dB|apply aB));refine blk_far ?_ NB209_208.out _;(with_reducible repeat (first|apply nB|apply dB|apply aB));refine blk_far ?_ NB209_208.out _;(with_reducible repeat (first|apply nB|apply dB|apply aB));exact BK209.out) Try.underlying25 rfl (by kernel_rfl)) rfl ?_
    exact⟨_,_,by first|rfl|(simp [errW_none,errW_some] <;> rfl)|(simp [*,errW_none,errW_some] <;> rfl),by (with_reducible repeat (first|apply aR|apply nR|apply dR));exact Kd.R_mono (Kd.R_far (p:=⟨gb209,1,none⟩) (Kd.R_far (p:=⟨gb209,0,none⟩) (Kd.R_far (p:=⟨gb208,1,none⟩) (Kd.R_far (p:=⟨gb208,0,none⟩) (Kd.R_types (Kd.R_types HO223.out BK208.out (by decide)) BK209.out (by decide)) (by first|exact fun _ hk=>hk.1.2|(intro k_ hk;simp only [hk,ne_eq,and_self,not_false_eq_true])) (.int .i64 t220)) (by first|exact fun _ hk=>hk.1.2|(intro k_ hk;simp only [hk,ne_eq,and_self,not_false_eq_true])) (.slice Ao41 t221.length co41)) (by first|exact fun _ hk=>hk.2|(intro k_ hk;simp only [hk,ne_eq,and_self,not_false_eq_true])) (.int .i64 t224)) (by first|exact fun _ hk=>hk.2|(intro k_ hk;simp only [hk,ne_eq,and_self,not_false_eq_true])) (.slice Ao43 t225.length co43)) (by first|exact fun _ hk=>hk.1.1.2|(intro k_ hk;simp only [hk,ne_eq,and_self,not_false_eq_true])),by (with_reducible repeat (first|apply aR|apply nR|apply dR));exact Kd.R_mono (Kd.R_far (p:=⟨gb209,1,none⟩) (Kd.R_far (p:=⟨gb209,0,none⟩) (Kd.R_far (p:=⟨gb208,1,none⟩) (Kd.R_far (p:=⟨gb208,0,none⟩) (Kd.R_types (Kd.R_types HO227.out BK208.out (by decide)) BK209.out (by decide)) (by first|exact fun _ hk=>hk.1.2|(intro k_ hk;simp only [hk,ne_eq,and_self,not_false_eq_true])) (.int .i64 t220)) (by first|exact fun _ hk=>hk.1.2|(intro k_ hk;simp only [hk,ne_eq,and_self,not_false_eq_true])) (.slice Ao41 t221.length co41)) (by first|exact fun _ hk=>hk.2|(intro k_ hk;simp only [hk,ne_eq,and_self,not_false_eq_true])) (.int .i64 t224)) (by first|exact fun _ hk=>hk.2|(intro k_ hk;simp only [hk,ne_eq,and_self,not_false_eq_true])) (.slice Ao43 t225.length co43)) (by first|exact fun _ hk=>hk.1.1.2|(intro k_ hk;simp only [hk,ne_eq,and_self,not_false_eq_true])),by repeat (first|(with_reducible first|exact HB.out|apply aZ|apply nZ|apply dZ|refine sZ ?_ GE208.out|refine sZ ?_ GE209.out)|exact HB.out)⟩
   rw [if_pos c16] at H
   have c16b0:decide (x18_1 < (l2.length:Int)) = true:=decide_eq_true c16
   clear c16
   by_cases c17:0 ≤ x18_1
   rotate_left
   ·rw [if_neg c17] at H
    exact absurd H (by simp)
   rw [if_pos c17] at H
   have c17b0:decide (0 ≤ x18_1) = true:=decide_eq_true c17
   clear c17
   by_cases c18:x18_1 < (l2.length:Int)
   rotate_left
   ·rw [if_neg c18] at H
    exact absurd H (by simp)
   rw [if_pos c18] at H
   have c18b0:decide (x18_1 < (l2.length:Int)) = true:=decide_eq_true c18
   clear c18
   by_cases c19:0 ≤ ((rd_T70 l2 x18_1).f0)
   rotate_left
   ·rw [if_neg c19] at H
    exact absurd H (by simp)
   rw [if_pos c19] at H
   have c19b0:decide (0 ≤ ((rd_T70 l2 x18_1).f0)) = true:=decide_eq_true c19
   clear c19
   by_cases c20:((rd_T70 l2 x18_1).f0) < (x8_1.length:Int)
   rotate_left
   ·rw [if_neg c20] at H
    exact absurd H (by simp)
   rw [if_pos c20] at H
   have c20b0:decide (((rd_T70 l2 x18_1).f0) < (x8_1.length:Int)) = true:=decide_eq_true c20
   clear c20
   obtain⟨y218,hy218⟩:∃ y_:List Int,y_ = (x8_1.set (((rd_T70 l2 x18_1).f0):Int).toNat 1):=⟨_,rfl⟩
   replace H:(if 0 ≤ ((rd_T70 l2 x18_1).f1) then (if ((rd_T70 l2 x18_1).f1) < (x9_1.length:Int) then (impl_marks.l0 k1 y218 (x9_1.set (((rd_T70 l2 x18_1).f1):Int).toNat 1) l2 (l2.length:Int) (wrap64 (x18_1 + 1))) else (none)) else (none)) = some (r1,r2,r3,r4):=by first|(rw [hy218];with_reducible exact H)|(have H2_:=(Option.bind_some _ _).symm.trans H;rw [hy218];with_reducible exact H2_)|(have H2_:=(Option.bind_some _ _).symm.trans H;with_reducible exact H2_)|with_reducible exact H|(rw [hy218];exact H)|exact H
   have Ny218:=mk0 hy218
   clear hy218
   by_cases c22:0 ≤ ((rd_T70 l2 x18_1).f1)
   rotate_left
   ·rw [if_neg c22] at H
    exact absurd H (by simp)
   rw [if_pos c22] at H
   have c22b0:decide (0 ≤ ((rd_T70 l2 x18_1).f1)) = true:=decide_eq_true c22
   clear c22
   by_cases c23:((rd_T70 l2 x18_1).f1) < (x9_1.length:Int)
   rotate_left
   ·rw [if_neg c23] at H
    exact absurd H (by simp)
   rw [if_pos c23] at H
   have c23b0:decide (((rd_T70 l2 x18_1).f1) < (x9_1.length:Int)) = true:=decide_eq_true c23
   clear c23
   obtain⟨y219,hy219⟩:∃ y_:List Int,y_ = (x9_1.set (((rd_T70 l2 x18_1).f1):Int).toNat 1):=⟨_,rfl⟩
   replace H:(impl_marks.l0 k1 y218 y219 l2 (l2.length:Int) (wrap64 (x18_1 + 1))) = some (r1,r2,r3,r4):=by first|(rw [hy219];with_reducible exact H)|(have H2_:=(Option.bind_some _ _).symm.trans H;rw [hy219];with_reducible exact H2_)|(have H2_:=(Option.bind_some _ _).symm.trans H;with_reducible exact H2_)|with_reducible exact H|(rw [hy219];exact H)|exact H
   have Ny219:=mk0 hy219
   clear hy219
   have H':=mk0 H
   clear H
   have p216:0 ≤ (x18_1:Int):=of_decide_eq_true (by first|(with_reducible assumption)|assumption)
   have q216:x18_1 < (l2.length:Int):=of_decide_eq_true (by first|(with_reducible assumption)|assumption)
   obtain⟨ad216,e216,hx216_0,hx216_1⟩:=at_T70 HR2.out x18_1 p216 q216
   cases e216
   replace hx216_0:=(HB.out.cell (World.block_lt_of_cell? w _ hx216_0)).trans hx216_0
   replace hx216_1:=(HB.out.cell (World.block_lt_of_cell? w _ hx216_1)).trans hx216_1
   replace p216:=eq_true p216
   replace q216:=eq_true q216
   try go_wp2_with (first|((with_reducible refine gate_dst (N:=11) rfl ?_);refine box_event ?hg (N:=11) ?hd (cs:=#[.int .i64 0,.int .i64 0]) (t:=70) ?hr ?_;(case hd=>rfl);(case hg=>rfl);(case hr=>first|(go_simp;done)|(go_simp;rfl));intro gb217 hg w25 hbox hb;have n0_:=mk0 (Kd.R_below (by (with_reducible repeat (first|apply aR|apply nR|apply dR));exact HO_8.out) hb);have n1_:=mk0 (Kd.R_below (by (with_reducible repeat (first|apply aR|apply nR|apply dR));exact HO_9.out) hb);have n2_:=mk0 (blk_below (g:=gb208) (o:=.cells #[.int .i64 0,.slice none 0 0] 25 (0,0)) (by (with_reducible repeat (first|apply nB|apply dB|apply aB));exact BK208.out) hb);have n3_:=mk0 (blk_below (g:=gb209) (o:=.cells #[.int .i64 0,.slice none 0 0] 25 (0,0)) (by (with_reducible repeat (first|apply nB|apply dB|apply aB));exact BK209.out) hb);have n4_:=mk0 (below_step (by repeat (first|(with_reducible first|exact HB.out|apply aZ|apply nZ|apply dZ|refine sZ ?_ GE208.out|refine sZ ?_ GE209.out)|exact HB.out)) hb);have n5_:=mk0 (hbox);have n6_:=mk0 ((by rw [hg];exact (below_size (by repeat (first|(with_reducible first|exact HB.out|apply aZ|apply nZ|apply dZ|refine sZ ?_ GE208.out|refine sZ ?_ GE209.out)|exact HB.out))):w.heap.size ≤ gb217));have n7_:=mk0 ((by rw [hg];exact (below_size (by repeat (first|(with_reducible first|exact HB.out|apply aZ|apply nZ|apply dZ|refine sZ ?_ GE208.out|refine sZ ?_ GE209.out)|exact HB.out))):w.heap.size ≤ gb217));have n8_:=mk0 ((by rw [hg];exact Nat.ne_of_lt (blk_lt (g:=gb208) (o:=.cells #[.int .i64 0,.slice none 0 0] 25 (0,0)) (by (with_reducible repeat (first|apply nB|apply dB|apply aB));exact BK208.out)):gb208 ≠ gb217));have n9_:=mk0 ((by rw [hg];exact Nat.ne_of_gt (blk_lt (g:=gb208) (o:=.cells #[.int .i64 0,.slice none 0 0] 25 (0,0)) (by (with_reducible repeat (first|apply nB|apply dB|apply aB));exact BK208.out)):gb217 ≠ gb208));have n10_:=mk0 ((by rw [hg];exact Nat.ne_of_lt (blk_lt (g:=gb209) (o:=.cells #[.int .i64 0,.slice none 0 0] 25 (0,0)) (by (with_reducible repeat (first|apply nB|apply dB|apply aB));exact BK209.out)):gb209 ≠ gb217));have n11_:=mk0 ((by rw [hg];exact Nat.ne_of_gt (blk_lt (g:=gb209) (o:=.cells #[.int .i64 0,.slice none 0 0] 25 (0,0)) (by (with_reducible repeat (first|apply nB|apply dB|apply aB));exact BK209.out)):gb217 ≠ gb209));clear HO_8 HO_9 BK208 BK209 HB;have HO_8:=n0_;have HO_9:=n1_;have BK208:=n2_;have BK209:=n3_;have HB:=n4_;have BK217:=n5_;have GW217:=n6_;have GE217:=n7_;have NB208_217:=n8_;have NB217_208:=n9_;have NB209_217:=n10_;have NB217_209:=n11_;clear n0_ n1_ n2_ n3_ n4_ n5_ n6_ n7_ n8_ n9_ n10_ n11_ hb hbox hg;have hnb26:=NB217_208.out;have hnc26:=NB208_217.out;have hnb27:=NB217_209.out;have hnc27:=NB209_217.out;have hcz28_0:w25.cell? ⟨gb217,0,none⟩ = some (.int .i64 0):=(blk_cell BK217.out 0).trans rfl;have hcz28_1:w25.cell? ⟨gb217,1,none⟩ = some (.int .i64 0):=(blk_cell BK217.out 1).trans rfl;have hfz28_0:=blk_frozen BK217.out 0;have hfz28_1:=blk_frozen BK217.out 1))
   have n0_:Aside0 (Kd.R (Kd.int .i64) 3 ((w25.setCell ⟨gb217,0,none⟩ (.int .i64 ((rd_T70 l2 x18_1).f0))).setCell ⟨gb217,1,none⟩ (.int .i64 ((rd_T70 l2 x18_1).f1))) w.heap.size (fun k_=>some k_ ≠ (v214:Value).ownBlock) v211 x8_1):=⟨by (with_reducible repeat (first|apply aR|apply nR|apply dR));exact Kd.R_mono (Kd.R_far (p:=⟨gb217,1,none⟩) (Kd.R_far (p:=⟨gb217,0,none⟩) (Kd.R_types HO_8.out BK217.out (by decide)) (by first|exact fun _ hk=>hk.2|(intro k_ hk;simp only [hk,ne_eq,and_self,not_false_eq_true])) (.int .i64 ((rd_T70 l2 x18_1).f0))) (by first|exact fun _ hk=>hk.2|(intro k_ hk;simp only [hk,ne_eq,and_self,not_false_eq_true])) (.int .i64 ((rd_T70 l2 x18_1).f1))) (by first|exact fun _ hk=>hk.1|(intro k_ hk;simp only [hk,ne_eq,and_self,not_false_eq_true]))⟩
   have n1_:Aside0 (Kd.R (Kd.int .i64) 3 ((w25.setCell ⟨gb217,0,none⟩ (.int .i64 ((rd_T70 l2 x18_1).f0))).setCell ⟨gb217,1,none⟩ (.int .i64 ((rd_T70 l2 x18_1).f1))) w.heap.size (fun k_=>some k_ ≠ (v211:Value).ownBlock) v214 x9_1):=⟨by (with_reducible repeat (first|apply aR|apply nR|apply dR));exact Kd.R_mono (Kd.R_far (p:=⟨gb217,1,none⟩) (Kd.R_far (p:=⟨gb217,0,none⟩) (Kd.R_types HO_9.out BK217.out (by decide)) (by first|exact fun _ hk=>hk.2|(intro k_ hk;simp only [hk,ne_eq,and_self,not_false_eq_true])) (.int .i64 ((rd_T70 l2 x18_1).f0))) (by first|exact fun _ hk=>hk.2|(intro k_ hk;simp only [hk,ne_eq,and_self,not_false_eq_true])) (.int .i64 ((rd_T70 l2 x18_1).f1))) (by first|exact fun _ hk=>hk.1|(intro k_ hk;simp only [hk,ne_eq,and_self,not_false_eq_true]))⟩
   have n2_:Aside0 (((w25.setCell ⟨gb217,0,none⟩ (.int .i64 ((rd_T70 l2 x18_1).f0))).setCell ⟨gb217,1,none⟩ (.int .i64 ((rd_T70 l2 x18_1).f1))).heap[gb208]? = some (.cells #[.int .i64 0,.slice none 0 0] 25 (0,0))):=⟨by (with_reducible repeat (first|apply nB|apply dB|apply aB));refine blk_far ?_ NB208_217.out _;(with_reducible repeat (first|apply nB|apply dB|apply aB));refine blk_far ?_ NB208_217.out _;(with_reducible repeat (first|apply nB|apply dB|apply aB));exact BK208.out⟩
   have n3_:Aside0 (((w25.setCell ⟨gb217,0,none⟩ (.int .i64 ((rd_T70 l2 x18_1).f0))).setCell ⟨gb217,1,none⟩ (.int .i64 ((rd_T70 l2 x18_1).f1))).heap[gb209]? = some (.cells #[.int .i64 0,.slice none 0 0] 25 (0,0))):=⟨by (with_reducible repeat (first|apply nB|apply dB|apply aB));refine blk_far ?_ NB209_217.out _;(with_reducible repeat (first|apply nB|apply dB|apply aB));refine blk_far ?_ NB209_217.out _;(with_reducible repeat (first|apply nB|apply dB|apply aB));exact BK209.out⟩
   have n4_:Aside0 (((w25.setCell ⟨gb217,0,none⟩ (.int .i64 ((rd_T70 l2 x18_1).f0))).setCell ⟨gb217,1,none⟩ (.int .i64 ((rd_T70 l2 x18_1).f1))).heap[gb217]? = some (.cells #[.int .i64 ((rd_T70 l2 x18_1).f0),.int .i64 ((rd_T70 l2 x18_1).f1)] 70 (0,0))):=⟨by (with_reducible repeat (first|apply nB|apply dB|apply aB));refine blk_put (cs:=#[.int .i64 ((rd_T70 l2 x18_1).f0),.int .i64 0]) ?_ 1 _ rfl;(with_reducible repeat (first|apply nB|apply dB|apply aB));refine blk_put (cs:=#[.int .i64 0,.int .i64 0]) ?_ 0 _ rfl;(with_reducible repeat (first|apply nB|apply dB|apply aB));exact BK217.out⟩
   have n5_:Aside0 (Below w.heap.size w ((w25.setCell ⟨gb217,0,none⟩ (.int .i64 ((rd_T70 l2 x18_1).f0))).setCell ⟨gb217,1,none⟩ (.int .i64 ((rd_T70 l2 x18_1).f1)))):=⟨by repeat (first|(with_reducible first|exact HB.out|apply aZ|apply nZ|apply dZ|refine sZ ?_ GE208.out|refine sZ ?_ GE209.out|refine sZ ?_ GE217.out)|exact HB.out)⟩
   (try clear HO_8)
   (try clear HO_9)
   (try clear BK208)
   (try clear BK209)
   (try clear BK217)
   (try clear HB)
   generalize ((w25.setCell ⟨gb217,0,none⟩ (.int .i64 ((rd_T70 l2 x18_1).f0))).setCell ⟨gb217,1,none⟩ (.int .i64 ((rd_T70 l2 x18_1).f1))) = w29 at n0_ n1_ n2_ n3_ n4_ n5_ ⊢
   have HO_8:=n0_
   have HO_9:=n1_
   have BK208:=n2_
   have BK209:=n3_
   have BK217:=n4_
   have HB:=n5_
   clear n0_ n1_ n2_ n3_ n4_ n5_
   have n0_:=mk0 (dR HO_8.out)
   have n1_:=mk0 (dR HO_9.out)
   have n2_:=mk0 (dB BK208.out)
   have n3_:=mk0 (dB BK209.out)
   have n4_:=mk0 (dB BK217.out)
   have n5_:=mk0 (dZ HB.out)
   clear HO_8
   clear HO_9
   clear BK208
   clear BK209
   clear BK217
   clear HB
   have HO_8:=n0_
   have HO_9:=n1_
   have BK208:=n2_
   have BK209:=n3_
   have BK217:=n4_
   have HB:=n5_
   clear n0_ n1_ n2_ n3_ n4_ n5_
   have p21:0 ≤ (((rd_T70 l2 x18_1).f0):Int):=of_decide_eq_true (by first|(with_reducible assumption)|assumption)
   have q21:(((rd_T70 l2 x18_1).f0):Int) < ((x8_1.length:Int):Int):=of_decide_eq_true (by first|(with_reducible assumption)|assumption)
   obtain⟨go21,co21,eo21,gb21,gl21,cl21,HG21⟩:=Kd.R_form HO_8.out (by omega)
   (first|cases eo21|(injection eo21 with ea_ en_ ec_;(first|subst ea_|(injection ea_ with ea_;subst ea_));subst ec_;clear en_))
   have GB21:=mk0 gb21
   have GG21:=mk0 HG21
   clear gb21 gl21 HG21
   obtain⟨hx21_0,hf21_0⟩:=Kd.R_celln 0 HO_8.out (((rd_T70 l2 x18_1).f0):Int) p21 q21
   replace p21:=eq_true p21
   replace q21:=eq_true q21
   have HP31:=Kd.R_putn HO_8.out (((rd_T70 l2 x18_1).f0):Int) 1
   rw [← Ny218.out] at HP31
   have HQ31:=mk0 HP31
   clear HP31
   have p24:0 ≤ (((rd_T70 l2 x18_1).f1):Int):=of_decide_eq_true (by first|(with_reducible assumption)|assumption)
   have q24:(((rd_T70 l2 x18_1).f1):Int) < ((x9_1.length:Int):Int):=of_decide_eq_true (by first|(with_reducible assumption)|assumption)
   obtain⟨go24,co24,eo24,gb24,gl24,cl24,HG24⟩:=Kd.R_form HO_9.out (by omega)
   (first|cases eo24|(injection eo24 with ea_ en_ ec_;(first|subst ea_|(injection ea_ with ea_;subst ea_));subst ec_;clear en_))
   have GB24:=mk0 gb24
   have GG24:=mk0 HG24
   clear gb24 gl24 HG24
   obtain⟨hx24_0,hf24_0⟩:=Kd.R_celln 0 (Kd.R_far (p:=⟨go21,(((rd_T70 l2 x18_1).f0):Int).toNat,none⟩) (Kd.R_mono HO_9.out (fun k_ hk=>(⟨hk,fun e_=>hk (by rw [e_];rfl)⟩:_ ∧ k_ ≠ go21))) (by first|exact fun _ hk=>hk.2|(intro k_ hk;simp only [hk,ne_eq,and_self,not_false_eq_true])) (.int .i64 1)) (((rd_T70 l2 x18_1).f1):Int) p24 q24
   replace p24:=eq_true p24
   replace q24:=eq_true q24
   have HP32:=Kd.R_putn (Kd.R_far (p:=⟨go21,(((rd_T70 l2 x18_1).f0):Int).toNat,none⟩) (Kd.R_mono HO_9.out (fun k_ hk=>(⟨hk,fun e_=>hk (by rw [e_];rfl)⟩:_ ∧ k_ ≠ go21))) (by first|exact fun _ hk=>hk.2|(intro k_ hk;simp only [hk,ne_eq,and_self,not_false_eq_true])) (.int .i64 1)) (((rd_T70 l2 x18_1).f1):Int) 1
   rw [← Ny219.out] at HP32
   have HQ32:=mk0 HP32
   clear HP32
   refine start_ (n:=10) (S:=fun w'=>w'.cell? ⟨gb217,0,none⟩ = some (.int .i64 ((rd_T70 l2 x18_1).f0)) ∧ w'.cell? ⟨gb217,1,none⟩ = some (.int .i64 ((rd_T70 l2 x18_1).f1))) (ds:=[]) impl_marks.m0 (by kernel_rfl) rfl rfl ⟨(blk_cell BK217.out 0).trans rfl,(blk_cell BK217.out 1).trans rfl⟩ (fun hHeld=>?_);refine with_tabW impl_marks.tab5 impl_marks.bits5 (fun HT_ HW_=>?_)
   generalize w29.drew = w30 at HO_8 HO_9 BK208 BK209 BK217 HB GG21 GG24 HQ31 HQ32 hf21_0 hf24_0 hx21_0 hx24_0 hHeld ⊢
   refine pure_ (i:=0) (N:=some 22) (v:=?_) (a':=?_) impl_marks.m1 rfl rfl (any_of HT_.out (by kernel_rfl)) (fun _ _ _ h=>h) (Or.inl ⟨by rfl,?_⟩) ?_ ?_
   rotate_left
   ·intro w'
    go_simp
    with_reducible rfl
   rotate_left
   ·simp only [Act.put,sA,sO,sS,i64_w,i32_w]
    rfl
   refine pure_ (i:=1) (N:=some 23) (v:=?_) (a':=?_) impl_marks.m2 rfl rfl (any_of HT_.out (by kernel_rfl)) (fun _ _ _ h=>h) (Or.inl ⟨by rfl,?_⟩) ?_ ?_
   rotate_left
   ·intro w'
    go_simp
    with_reducible rfl
   rotate_left
   ·simp only [Act.put,sA,sO,sS,i64_w,i32_w]
    rfl
   refine pure_ (i:=3) (N:=some 25) (v:=?_) (a':=?_) impl_marks.m3 rfl rfl (any_of HT_.out (by kernel_rfl)) (fun _ _ _ h=>h) (Or.inl ⟨by rfl,?_⟩) ?_ ?_
   rotate_left
   ·intro w'
    go_simp
    with_reducible rfl
   rotate_left
   ·simp only [Act.put,sA,sO,sS,i64_w,i32_w]
    rfl
   refine pure_ (i:=4) (N:=some 26) (v:=?_) (a':=?_) impl_marks.m4 rfl rfl (any_of HT_.out (by kernel_rfl)) (fun _ _ _ h=>h) (Or.inl ⟨by rfl,?_⟩) ?_ ?_
   rotate_left
   ·intro w'
    go_simp
    with_reducible rfl
   rotate_left
   ·simp only [Act.put,sA,sO,sS,i64_w,i32_w]
    rfl
   refine take_ (i:=2) (N:=some 24) (v:=?_) (a':=?_) impl_marks.m5 rfl rfl (take_ofW HT_.out HW_.out (by kernel_rfl)) (fun _ _ _ h=>h) (Or.inl ⟨by rfl,?_⟩) hHeld ?_ ?_
   rotate_left
   ·rintro w' ⟨s0,s1⟩
    go_simp
    with_reducible rfl
   rotate_left
   ·simp only [Act.put,sA,sO,sS,i64_w,i32_w]
    rfl
   refine pure_ (i:=6) (N:=some 28) (v:=?_) (a':=?_) impl_marks.m6 rfl rfl (any_of HT_.out (by kernel_rfl)) (fun _ _ _ h=>h) (Or.inl ⟨by rfl,?_⟩) ?_ ?_
   rotate_left
   ·intro w'
    go_simp
    with_reducible rfl
   rotate_left
   ·simp only [Act.put,sA,sO,sS,i64_w,i32_w]
    rfl
   refine take_ (i:=5) (N:=some 27) (v:=?_) (a':=?_) impl_marks.m7 rfl rfl (take_ofW HT_.out HW_.out (by kernel_rfl)) (fun _ _ _ h=>h) (Or.inl ⟨by rfl,?_⟩) hHeld ?_ ?_
   rotate_left
   ·rintro w' ⟨s0,s1⟩
    go_simp
    with_reducible rfl
   rotate_left
   ·simp only [Act.put,sA,sO,sS,i64_w,i32_w]
    rfl
   refine one_ (i:=7) (N:=none) impl_marks.m8 rfl rfl (one_of HT_.out (by kernel_rfl)) (by decide) (fun K hK=>?_)
   refine skip_ (w1:=?_) (by rfl) rfl ?_ ?_
   rotate_left
   ·go_simp
    rfl
   refine hK.out _ _ ⟨((cell_far (p:=⟨go21,_,none⟩) (fun e_=>(Kd.R_ne HO_8.out BK217.out (by decide)) (by have e2_:gb217 = go21:=e_;rw [e2_];rfl)) _).trans (hHeld.1)),((cell_far (p:=⟨go21,_,none⟩) (fun e_=>(Kd.R_ne HO_8.out BK217.out (by decide)) (by have e2_:gb217 = go21:=e_;rw [e2_];rfl)) _).trans (hHeld.2))⟩ (fun hHeld=>?_)
   clear hK K
   refine pure_ (i:=8) (N:=some 29) (v:=?_) (a':=?_) impl_marks.m9 rfl rfl (any_of HT_.out (by kernel_rfl)) (fun _ _ _ h=>h) (Or.inl ⟨by rfl,?_⟩) ?_ ?_
   rotate_left
   ·intro w'
    go_simp
    with_reducible rfl
   rotate_left
   ·simp only [Act.put,sA,sO,sS,i64_w,i32_w]
    rfl
   refine one_ (i:=9) (N:=none) impl_marks.m10 rfl rfl (one_of HT_.out (by kernel_rfl)) (by decide) (fun K hK=>?_)
   refine skip_ (w1:=?_) (by rfl) rfl ?_ ?_
   rotate_left
   ·go_simp
    rfl
   refine hK.out _ _ ⟨((cell_far (p:=⟨go24,_,none⟩) (fun e_=>(Kd.R_ne HO_9.out BK217.out (by decide)) (by have e2_:gb217 = go24:=e_;rw [e2_];rfl)) _).trans (hHeld.1)),((cell_far (p:=⟨go24,_,none⟩) (fun e_=>(Kd.R_ne HO_9.out BK217.out (by decide)) (by have e2_:gb217 = go24:=e_;rw [e2_];rfl)) _).trans (hHeld.2))⟩ (fun hHeld=>?_)
   clear hK K
   refine done_ (done_of HT_.out (by kernel_rfl)) ?_
   try go_wp2
   go_roundg k1
   case measure=>have:=HK1.out;omega
   case rel=>exact⟨(y218),(y219),(wrap64 (x18_1 + 1)),(by first|rfl|(simp;done)|(simp [*];done)),H',⟨by have:=HK1.out;omega⟩,⟨by (with_reducible repeat (first|apply aR|apply nR|apply dR));exact Kd.R_mono (Kd.R_far (p:=⟨go24,(((rd_T70 l2 x18_1).f1):Int).toNat,none⟩) (Kd.R_mono HQ31.out (fun k_ hk=>(⟨hk,fun e_=>hk (by rw [e_];rfl)⟩:_ ∧ k_ ≠ go24))) (by first|exact fun _ hk=>hk.2|(intro k_ hk;simp only [hk,ne_eq,and_self,not_false_eq_true])) (.int .i64 1)) (by first|exact fun _ hk=>hk.1|(intro k_ hk;simp only [hk,ne_eq,and_self,not_false_eq_true]))⟩,⟨by (with_reducible repeat (first|apply aR|apply nR|apply dR));exact Kd.R_mono HQ32.out (by first|exact fun _ hk=>hk.1|(intro k_ hk;simp only [hk,ne_eq,and_self,not_false_eq_true]))⟩,⟨by (with_reducible repeat (first|apply nB|apply dB|apply aB));refine blk_far ?_ (by have h_:=Kd.R_ne HO_9.out BK208.out (by decide);intro e_;exact h_ (by rw [e_];rfl)) _;(with_reducible repeat (first|apply nB|apply dB|apply aB));refine blk_far ?_ (by have h_:=Kd.R_ne HO_8.out BK208.out (by decide);intro e_;exact h_ (by rw [e_];rfl)) _;(with_reducible repeat (first|apply nB|apply dB|apply aB));exact BK208.out⟩,⟨by (with_reducible repeat (first|apply nB|apply dB|apply aB));refine blk_far ?_ (by have h_:=Kd.R_ne HO_9.out BK209.out (by decide);intro e_;exact h_ (by rw [e_];rfl)) _;(with_reducible repeat (first|apply nB|apply dB|apply aB));refine blk_far ?_ (by have h_:=Kd.R_ne HO_8.out BK209.out (by decide);intro e_;exact h_ (by rw [e_];rfl)) _;(with_reducible repeat (first|apply nB|apply dB|apply aB));exact BK209.out⟩,⟨by repeat (first|(with_reducible first|exact HB.out|apply aZ|apply nZ|apply dZ|refine sZ ?_ GB21.out|refine sZ ?_ GB24.out|refine sZ ?_ GE208.out|refine sZ ?_ GE209.out|refine sZ ?_ GE217.out)|exact HB.out)⟩⟩
end Go.Proofs.Ytdiemmcnekbfaaa.QFnPatchBack
