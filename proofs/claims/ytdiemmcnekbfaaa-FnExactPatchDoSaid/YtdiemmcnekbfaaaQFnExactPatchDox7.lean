-- A walk, made by walk.py, a program of this session's.
import Derived.Test.YtdiemmcnekbfaaaQFnExactPatchDox0
import Derived.Test.YtdiemmcnekbfaaaQFnExactPatchDox6
namespace Go.Proofs.Ytdiemmcnekbfaaa.QFnExactPatchDo
open Go.RowKit Go.Proofs.YtdiemmcnekbfaaaW.PrintWords Go.Proofs.YtdiemmcnekbfaaaW.PrintLast Go.Proofs.YtdiemmcnekbfaaaW.PrintMore
attribute [local go_sem] max2_int min2_int max_two min_two max_three min_three max_four min_four   -- for this text's walks alone
set_option linter.unusedVariables false
set_option linter.unusedSimpArgs false

/-! ### impl_bitsOf: function 47 -/
def impl_bitsOf.l0 : Nat → List Int → Int → Int → Int → List Int → Option (Int × List Int)
 | 0, _, _, _, _, _ => none
 | k + 1, x15, x16, x17, x253000, x253001 => if x17 < x16 then (if 0 ≤ x17 then (if x17 < (x15.length : Int) then (if 0 ≤ (wrap64 (Int.tdiv x17 64)) then (if (wrap64 (Int.tdiv x17 64)) < (x253001.length : Int) then (if 0 ≤ (Int.tmod x17 64) then (impl_bitsOf.l0 k x15 x16 (wrap64 (x17 + 1)) x253000 (x253001.set ((wrap64 (Int.tdiv x17 64)) : Int).toNat (Go.bits .or .u64 (rd x253001 (wrap64 (Int.tdiv x17 64))) (shl .u64 (IntKind.u64.wrap (rd x15 x17)) (Int.tmod x17 64))))) else (none)) else (none)) else (none)) else (none)) else (none)) else (some (x253000, x253001))
def impl_bitsOf.f (k : Nat) (l0 : List Int) : Option (Int × List Int) := if 0 ≤ (wrap64 (Int.tdiv (wrap64 ((wrap64 ((l0.length : Int) + 64)) - 1)) 64)) then (if (wrap64 (Int.tdiv (wrap64 ((wrap64 ((l0.length : Int) + 64)) - 1)) 64) : Int).toNat ≤ 35184372088832 then (impl_bitsOf.l0 k l0 (l0.length : Int) 0 (l0.length : Int) (List.replicate (wrap64 (Int.tdiv (wrap64 ((wrap64 ((l0.length : Int) + 64)) - 1)) 64) : Int).toNat 0)) else (none)) else (none)
theorem impl_bitsOf.mono_l : ∀ k, (∀ y0 y1 y2 y3 y4, LeO (impl_bitsOf.l0 k y0 y1 y2 y3 y4) (impl_bitsOf.l0 (k + 1) y0 y1 y2 y3 y4))
 | 0 => fun _ _ _ _ _ r h => by simp [impl_bitsOf.l0] at h
 | k + 1 => by
  have ih0 := impl_bitsOf.mono_l k
  ·intro y0 y1 y2 y3 y4
   unfold impl_bitsOf.l0
   repeat' first|(with_reducible first|exact ih0 _ _ _ _ _|exact LeO.refl _|exact LeO.none _|refine LeO.ite ?_ ?_|refine LeO.bind ?_ (fun _ => ?_))|exact LeO.none _|refine LeO.ite ?_ ?_|refine LeO.bind ?_ (fun _ => ?_)
theorem impl_bitsOf.mono : ∀ a0 k, LeO (impl_bitsOf.f k a0) (impl_bitsOf.f (k + 1) a0) := by
 intro a0 k
 have ih0 := impl_bitsOf.mono_l k
 unfold impl_bitsOf.f
 repeat' first|(with_reducible first|exact ih0 _ _ _ _ _|exact LeO.refl _|exact LeO.none _|refine LeO.ite ?_ ?_|refine LeO.bind ?_ (fun _ => ?_))|exact LeO.none _|refine LeO.ite ?_ ?_|refine LeO.bind ?_ (fun _ => ?_)
def impl_bitsOf.T5 : Bool × List (List Nat × List Nat) := (true, [([], []), ([0], [0]), ([], []), ([2], [2]), ([1, 3], [1, 3]), ([4], [4]), ([], []), ([6], [6]), ([], []), ([8], [8]), ([7, 9], [7, 9]), ([5, 10], [5, 10]), ([1, 3, 0, 1, 2, 3, 4, 5, 6, 7, 8, 9, 10, 11], [1, 3]), ([12, 11, 0, 1, 2, 3, 4, 5, 6, 7, 8, 9, 10, 11], [11, 12])])
def impl_bitsOf.B5 : List Nat := [0, 1, 0, 4, 15, 31, 0, 64, 0, 256, 960, 2047, 4095, 8191]
theorem impl_bitsOf.tab5 : rtab .any (opsOf Try.f47 5) = impl_bitsOf.T5 := by kernel_rfl
theorem impl_bitsOf.bits5 : waitsOk impl_bitsOf.T5.2 impl_bitsOf.B5 = true := by kernel_rfl
abbrev impl_bitsOf.m0 : Array Bool := #[F,F,F,F,F,F,F,F,F,F,F,F,F,F]
abbrev impl_bitsOf.m1 : Array Bool := #[T,F,F,F,F,F,F,F,F,F,F,F,F,F]
abbrev impl_bitsOf.m2 : Array Bool := #[T,F,T,F,F,F,F,F,F,F,F,F,F,F]
abbrev impl_bitsOf.m3 : Array Bool := #[T,F,T,T,F,F,F,F,F,F,F,F,F,F]
abbrev impl_bitsOf.m4 : Array Bool := #[T,F,T,T,F,F,T,F,F,F,F,F,F,F]
abbrev impl_bitsOf.m5 : Array Bool := #[T,F,T,T,F,F,T,T,F,F,F,F,F,F]
abbrev impl_bitsOf.m6 : Array Bool := #[T,F,T,T,F,F,T,T,T,F,F,F,F,F]
abbrev impl_bitsOf.m7 : Array Bool := #[T,F,T,T,F,F,T,T,T,T,F,F,F,F]
abbrev impl_bitsOf.m8 : Array Bool := #[T,F,T,T,F,F,T,T,T,T,T,F,F,F]
abbrev impl_bitsOf.m9 : Array Bool := #[T,T,T,T,F,F,T,T,T,T,T,F,F,F]
abbrev impl_bitsOf.m10 : Array Bool := #[T,T,T,T,T,F,T,T,T,T,T,F,F,F]
abbrev impl_bitsOf.m11 : Array Bool := #[T,T,T,T,T,T,T,T,T,T,T,F,F,F]
abbrev impl_bitsOf.m12 : Array Bool := #[T,T,T,T,T,T,T,T,T,T,T,T,F,F]
abbrev impl_bitsOf.m13 : Array Bool := #[T,T,T,T,T,T,T,T,T,T,T,T,T,F]
abbrev impl_bitsOf.m14 : Array Bool := #[T,T,T,T,T,T,T,T,T,T,T,T,T,T]
set_option maxHeartbeats 8000000 in
set_option maxRecDepth 100000 in
theorem impl_bitsOf.calls (k : Nat) (A0 : Option Addr) (c0 : Nat) (l0 : List Int) (r1 : Int) (r2 : List Int) (w : World) (hr0 : Kd.C (Kd.int .i64) w A0 l0.length l0) (hc0 : l0.length ≤ c0) (h : impl_bitsOf.f k l0 = some (r1, r2)) :
  Calls Try.prog 47 #[.slice A0 l0.length c0] w fun e w' => ∃ v1_ : Value, e = .returned (.agg #[.int .i64 r1, v1_]) ∧ Kd.R (Kd.int .u64) 77 w' w.heap.size (fun _ => True) v1_ r2 ∧ Below w.heap.size w w' := by
 have hu25:=Try.underlying25
 have HR0:=mk0 hr0
 have HC0:=mk0 hc0
 clear hr0 hc0
 have HB:=mk0 (Below.refl w.heap.size w)
 have H:(if 0 ≤ (wrap64 (Int.tdiv (wrap64 ((wrap64 ((l0.length:Int) + 64)) - 1)) 64)) then (if (wrap64 (Int.tdiv (wrap64 ((wrap64 ((l0.length:Int) + 64)) - 1)) 64):Int).toNat ≤ 35184372088832 then (impl_bitsOf.l0 k l0 (l0.length:Int) 0 (l0.length:Int) (List.replicate (wrap64 (Int.tdiv (wrap64 ((wrap64 ((l0.length:Int) + 64)) - 1)) 64):Int).toNat 0)) else (none)) else (none)) = some (r1,r2):=h
 clear h
 obtain⟨ji2,hji2⟩:∃ j_:Int,(wrap64 (Int.tdiv (wrap64 ((wrap64 ((l0.length:Int) + 64)) - 1)) 64)) = j_:=⟨_,rfl⟩
 replace H:(if 0 ≤ (ji2) then (if (ji2:Int).toNat ≤ 35184372088832 then (impl_bitsOf.l0 k l0 (l0.length:Int) 0 (l0.length:Int) (List.replicate (ji2:Int).toNat 0)) else (none)) else (none)) = some (r1,r2):=by first|(rw [hji2] at H;exact H)|(simp only [hji2] at H ⊢;exact H)
 have hji2w:(IntKind.i64.wrap (Int.tdiv (wrap64 ((wrap64 ((l0.length:Int) + 64)) - 1)) 64)) = ji2:=(i64_w _).trans hji2
 by_cases c3:0 ≤ (ji2)
 rotate_left
 ·rw [if_neg c3] at H
  exact absurd H (by simp)

 rw [if_pos c3] at H
 have c3b0:=eq_true c3
 have c3b1:decide (0 ≤ (ji2)) = true:=decide_eq_true c3
 clear c3
 by_cases c4:(ji2:Int).toNat ≤ 35184372088832
 rotate_left
 ·rw [if_neg c4] at H
  exact absurd H (by simp)
 rw [if_pos c4] at H
 have c4b0:=eq_true c4
 have c4b1:decide ((ji2:Int).toNat ≤ 35184372088832) = true:=decide_eq_true c4
 clear c4
 obtain⟨y249,hy249⟩:∃ y_:List Int,y_ = (List.replicate (ji2:Int).toNat 0):=⟨_,rfl⟩
 replace H:(impl_bitsOf.l0 k l0 (l0.length:Int) 0 (l0.length:Int) y249) = some (r1,r2):=by first|(rw [hy249];with_reducible exact H)|(have H2_:=(Option.bind_some _ _).symm.trans H;rw [hy249];with_reducible exact H2_)|(have H2_:=(Option.bind_some _ _).symm.trans H;with_reducible exact H2_)|with_reducible exact H|(rw [hy249];exact H)|exact H
 have Ny249:=mk0 hy249
 clear hy249
 have H':=mk0 H
 clear H
 go_enter Try.func47,Try.ntmps47
 go_wp2_with (first|((with_reducible refine gate_dst (N:=2) rfl ?_);refine box_event ?hg (N:=2) ?hd (cs:=#[.int .i64 0,.slice none 0 0]) (t:=25) ?hr ?_;(case hd=>rfl);(case hg=>rfl);(case hr=>first|(go_simp;done)|(go_simp;rfl));intro gb248 hg w5 hbox hb;have n0_:=mk0 (below_step (by repeat (first|(with_reducible first|exact HB.out|apply aZ|apply nZ|apply dZ)|exact HB.out)) hb);have n1_:=mk0 (hbox);have n2_:=mk0 ((by rw [hg];exact (below_size (by repeat (first|(with_reducible first|exact HB.out|apply aZ|apply nZ|apply dZ)|exact HB.out))):w.heap.size ≤ gb248));have n3_:=mk0 ((by rw [hg];exact (below_size (by repeat (first|(with_reducible first|exact HB.out|apply aZ|apply nZ|apply dZ)|exact HB.out))):w.heap.size ≤ gb248));clear HB;have HB:=n0_;have BK248:=n1_;have GW248:=n2_;have GE248:=n3_;clear n0_ n1_ n2_ n3_ hb hbox hg)|((with_reducible refine gate_dst (N:=13) rfl ?_);refine Kd.R_make (Kd.int .u64) _ 77 rfl (N:=13) rfl 23 _ _ rfl ji2 rfl rfl Try.underlying23 (.int .u64 0) 8 info77 rfl (by decide) (by omega) 0 (ok:=fun _=>True) (okp:=fun _=>True) rfl (fun _ hk=>hk) trivial (of_decide_eq_true (by first|(with_reducible assumption)|assumption)) (Nat.le_trans (Nat.mul_le_mul_right _ (of_decide_eq_true (by first|(with_reducible assumption)|assumption):ji2.toNat ≤ 35184372088832)) (by omega)) (Below.refl _ _) (Nat.le_refl _) ?_;intro v250 w6 ho7 hb hg_ hnew_;clear hg_ hnew_;(first|rw [← Ny249.out] at ho7|(simp only [Int.reduceToNat] at ho7;rw [← Ny249.out] at ho7));have n0_:=mk0 (Kd.R_lower ho7 (below_size (by repeat (first|(with_reducible first|exact HB.out|apply aZ|apply nZ|apply dZ|refine sZ ?_ GE248.out)|exact HB.out))));have n1_:=mk0 (blk_below (g:=gb248) (o:=.cells #[.int .i64 0,.slice none 0 0] 25 (0,0)) (by (with_reducible repeat (first|apply nB|apply dB|apply aB));exact BK248.out) hb);have n2_:=mk0 (below_step (by repeat (first|(with_reducible first|exact HB.out|apply aZ|apply nZ|apply dZ|refine sZ ?_ GE248.out)|exact HB.out)) hb);clear BK248 HB;have HO251:=n0_;have BK248:=n1_;have HB:=n2_;clear n0_ n1_ n2_ hb ho7;obtain⟨Ao8,co8,eo8⟩:=Kd.R_slice HO251.out;subst eo8)|((with_reducible refine gate_dst (N:=3) rfl ?_);refine box_event ?hg (N:=3) ?hd (cs:=#[.int .i64 0,.slice none 0 0]) (t:=25) ?hr ?_;(case hd=>rfl);(case hg=>rfl);(case hr=>first|(go_simp;done)|(go_simp;rfl));intro gb252 hg w9 hbox hb;have n0_:=mk0 (Kd.R_below (by (with_reducible repeat (first|apply aR|apply nR|apply dR));exact HO251.out) hb);have n1_:=mk0 (blk_below (g:=gb248) (o:=.cells #[.int .i64 0,.slice none 0 0] 25 (0,0)) (by (with_reducible repeat (first|apply nB|apply dB|apply aB));exact BK248.out) hb);have n2_:=mk0 (below_step (by repeat (first|(with_reducible first|exact HB.out|apply aZ|apply nZ|apply dZ|refine sZ ?_ GE248.out)|exact HB.out)) hb);have n3_:=mk0 (hbox);have n4_:=mk0 ((by rw [hg];exact (below_size (by repeat (first|(with_reducible first|exact HB.out|apply aZ|apply nZ|apply dZ|refine sZ ?_ GE248.out)|exact HB.out))):w.heap.size ≤ gb252));have n5_:=mk0 ((by rw [hg];exact (below_size (by repeat (first|(with_reducible first|exact HB.out|apply aZ|apply nZ|apply dZ|refine sZ ?_ GE248.out)|exact HB.out))):w.heap.size ≤ gb252));have n6_:=mk0 ((by rw [hg];exact Nat.ne_of_lt (blk_lt (g:=gb248) (o:=.cells #[.int .i64 0,.slice none 0 0] 25 (0,0)) (by (with_reducible repeat (first|apply nB|apply dB|apply aB));exact BK248.out)):gb248 ≠ gb252));have n7_:=mk0 ((by rw [hg];exact Nat.ne_of_gt (blk_lt (g:=gb248) (o:=.cells #[.int .i64 0,.slice none 0 0] 25 (0,0)) (by (with_reducible repeat (first|apply nB|apply dB|apply aB));exact BK248.out)):gb252 ≠ gb248));clear HO251 BK248 HB;have HO251:=n0_;have BK248:=n1_;have HB:=n2_;have BK252:=n3_;have GW252:=n4_;have GE252:=n5_;have NB248_252:=n6_;have NB252_248:=n7_;clear n0_ n1_ n2_ n3_ n4_ n5_ n6_ n7_ hb hbox hg;have hnb10:=NB252_248.out;have hnc10:=NB248_252.out;have hcz11_0:w9.cell? ⟨gb252,0,none⟩ = some (.int .i64 0):=(blk_cell BK252.out 0).trans rfl;have hcz11_1:w9.cell? ⟨gb252,1,none⟩ = some (.slice none 0 0):=(blk_cell BK252.out 1).trans rfl;have hfz11_0:=blk_frozen BK252.out 0;have hfz11_1:=blk_frozen BK252.out 1))
 go_loopg [17] k (fun kq v17 w'=>∃ (x17_1:Int) (x253001_1:List Int) (u253001:Value),v17 = .int .i64 x17_1 ∧ Aside0 (impl_bitsOf.l0 kq l0 (l0.length:Int) x17_1 (l0.length:Int) x253001_1 = some (r1,r2)) ∧ Aside0 (kq ≤ k) ∧ Aside0 (Kd.R (Kd.int .u64) 77 w' w.heap.size (fun _=>True) u253001 x253001_1) ∧ Aside0 (w'.heap[gb248]? = some (.cells #[.int .i64 0,(.slice none 0 0)] 25 (0,0))) ∧ Aside0 (w'.heap[gb252]? = some (.cells #[.int .i64 (l0.length:Int),u253001] 25 (0,0))) ∧ Aside0 (Below w.heap.size w w'))
 case atStart=>exact⟨(0),(y249),(.slice Ao8 y249.length co8),(by first|rfl|(simp;done)|(simp [*];done)),H',⟨Nat.le_refl _⟩,⟨by (with_reducible repeat (first|apply aR|apply nR|apply dR));exact Kd.R_mono (Kd.R_far (p:=⟨gb252,1,none⟩) (Kd.R_far (p:=⟨gb252,0,none⟩) (Kd.R_types HO251.out BK252.out (by decide)) (by first|exact fun _ hk=>hk.2|(intro k_ hk;simp only [hk,ne_eq,and_self,not_false_eq_true])) (.int .i64 (l0.length:Int))) (by first|exact fun _ hk=>hk.2|(intro k_ hk;simp only [hk,ne_eq,and_self,not_false_eq_true])) (.slice Ao8 y249.length co8)) (fun _ hk=>trivial)⟩,⟨by (with_reducible repeat (first|apply nB|apply dB|apply aB));refine blk_far ?_ NB248_252.out _;(with_reducible repeat (first|apply nB|apply dB|apply aB));refine blk_far ?_ NB248_252.out _;(with_reducible repeat (first|apply nB|apply dB|apply aB));exact BK248.out⟩,⟨by (with_reducible repeat (first|apply nB|apply dB|apply aB));refine blk_put (cs:=#[.int .i64 (l0.length:Int),.slice none 0 0]) ?_ 1 _ rfl;(with_reducible repeat (first|apply nB|apply dB|apply aB));refine blk_put (cs:=#[.int .i64 0,.slice none 0 0]) ?_ 0 _ rfl;(with_reducible repeat (first|apply nB|apply dB|apply aB));exact BK252.out⟩,⟨by repeat (first|(with_reducible first|exact HB.out|apply aZ|apply nZ|apply dZ|refine sZ ?_ GE248.out|refine sZ ?_ GE252.out)|exact HB.out)⟩⟩
 case round =>
  clear H'
  try clear c1
  try clear p2
  try clear c3
  try clear c3b0
  try clear c3b1
  try clear c4
  try clear c4b0
  try clear c4b1
  try clear p6
  try clear c10
  try clear hcz11_0
  try clear hcz11_1
  try clear hfz11_0
  try clear hfz11_1
  obtain⟨x17_1,x253001_1,u253001,rfl,HA,HK1,HO_253001,BK248,BK252,HB⟩:=hrel
  cases gk with
  | zero=>exact absurd HA.out (by simp [impl_bitsOf.l0])
  | succ k1 =>
   have H:=HA.out
   clear HA
   simp only [impl_bitsOf.l0] at H
   by_cases c12:x17_1 < (l0.length:Int)
   rotate_left
   ·rw [if_neg c12] at H
    have c12b0:decide (x17_1 < (l0.length:Int)) = false:=decide_eq_false c12
    clear c12
    simp only [Option.some.injEq,Prod.mk.injEq] at H
    obtain⟨rfl,rfl⟩:=H
    have hnb25:=NB252_248.out
    have hnc25:=NB248_252.out
    have hcz26_0:wr.cell? ⟨gb252,0,none⟩ = some (.int .i64 (l0.length:Int)):=(blk_cell BK252.out 0).trans rfl
    have hcz26_1:wr.cell? ⟨gb252,1,none⟩ = some (u253001):=(blk_cell BK252.out 1).trans rfl
    have hfz26_0:=blk_frozen BK252.out 0
    have hfz26_1:=blk_frozen BK252.out 1
    have hcz27_0:wr.cell? ⟨gb248,0,none⟩ = some (.int .i64 0):=(blk_cell BK248.out 0).trans rfl
    have hcz27_1:wr.cell? ⟨gb248,1,none⟩ = some (.slice none 0 0):=(blk_cell BK248.out 1).trans rfl
    have hfz27_0:=blk_frozen BK248.out 0
    have hfz27_1:=blk_frozen BK248.out 1
    obtain⟨Ao28,co28,eo28⟩:=Kd.R_slice HO_253001.out
    subst eo28
    go_wp2
    refine bodyPost_ret (results_cell_row rfl _ _ gb248 25 #[.int .i64 (l0.length:Int),.slice Ao28 x253001_1.length co28] (0,0) _ rfl (by (with_reducible repeat (first|apply nB|apply dB|apply aB));refine blk_put (cs:=#[.int .i64 (l0.length:Int),.slice none 0 0]) ?_ 1 _ rfl;(with_reducible repeat (first|apply nB|apply dB|apply aB));refine blk_put (cs:=#[.int .i64 0,.slice none 0 0]) ?_ 0 _ rfl;(with_reducible repeat (first|apply nB|apply dB|apply aB));exact BK248.out) Try.underlying25 rfl (by kernel_rfl)) rfl ?_
    exact⟨_,by first|rfl|(simp [errW_none,errW_some] <;> rfl)|(simp only [← hji2];first|rfl|(simp [errW_none,errW_some] <;> rfl))|(simp [*,errW_none,errW_some] <;> rfl),by (with_reducible repeat (first|apply aR|apply nR|apply dR));exact Kd.R_mono (Kd.R_far (p:=⟨gb248,1,none⟩) (Kd.R_far (p:=⟨gb248,0,none⟩) (Kd.R_types HO_253001.out BK248.out (by decide)) (by first|exact fun _ hk=>hk.2|(intro k_ hk;simp only [hk,ne_eq,and_self,not_false_eq_true])) (.int .i64 (l0.length:Int))) (by first|exact fun _ hk=>hk.2|(intro k_ hk;simp only [hk,ne_eq,and_self,not_false_eq_true])) (.slice Ao28 x253001_1.length co28)) (fun _ hk=>trivial),by repeat (first|(with_reducible first|exact HB.out|apply aZ|apply nZ|apply dZ|refine sZ ?_ GE248.out|refine sZ ?_ GE252.out)|exact HB.out)⟩
   rw [if_pos c12] at H
   have c12b0:decide (x17_1 < (l0.length:Int)) = true:=decide_eq_true c12
   clear c12
   by_cases c13:0 ≤ x17_1
   rotate_left
   ·rw [if_neg c13] at H
    exact absurd H (by simp)
   rw [if_pos c13] at H
   have c13b0:decide (0 ≤ x17_1) = true:=decide_eq_true c13
   clear c13
   by_cases c14:x17_1 < (l0.length:Int)
   rotate_left
   ·rw [if_neg c14] at H
    exact absurd H (by simp)
   rw [if_pos c14] at H
   have c14b0:decide (x17_1 < (l0.length:Int)) = true:=decide_eq_true c14
   clear c14
   obtain⟨ji15,hji15⟩:∃ j_:Int,(wrap64 (Int.tdiv x17_1 64)) = j_:=⟨_,rfl⟩
   replace H:(if 0 ≤ (ji15) then (if (ji15) < (x253001_1.length:Int) then (if 0 ≤ (Int.tmod x17_1 64) then (impl_bitsOf.l0 k1 l0 (l0.length:Int) (wrap64 (x17_1 + 1)) (l0.length:Int) (x253001_1.set ((ji15):Int).toNat (Go.bits .or .u64 (rd x253001_1 (ji15)) (shl .u64 (IntKind.u64.wrap (rd l0 x17_1)) (Int.tmod x17_1 64))))) else (none)) else (none)) else (none)) = some (r1,r2):=by first|(rw [hji15] at H;exact H)|(simp only [hji15] at H ⊢;exact H)
   have hji15w:(IntKind.i64.wrap (Int.tdiv x17_1 64)) = ji15:=(i64_w _).trans hji15
   by_cases c16:0 ≤ (ji15)
   rotate_left
   ·rw [if_neg c16] at H
    exact absurd H (by simp)
   rw [if_pos c16] at H
   have c16b0:decide (0 ≤ (ji15)) = true:=decide_eq_true c16
   clear c16
   by_cases c17:(ji15) < (x253001_1.length:Int)
   rotate_left
   ·rw [if_neg c17] at H
    exact absurd H (by simp)
   rw [if_pos c17] at H
   have c17b0:decide ((ji15) < (x253001_1.length:Int)) = true:=decide_eq_true c17
   clear c17
   obtain⟨ji18,hji18⟩:∃ j_:Int,(Int.tmod x17_1 64) = j_:=⟨_,rfl⟩
   replace H:(if 0 ≤ (ji18) then (impl_bitsOf.l0 k1 l0 (l0.length:Int) (wrap64 (x17_1 + 1)) (l0.length:Int) (x253001_1.set ((ji15):Int).toNat (Go.bits .or .u64 (rd x253001_1 (ji15)) (shl .u64 (IntKind.u64.wrap (rd l0 x17_1)) (ji18))))) else (none)) = some (r1,r2):=by first|(rw [hji18] at H;exact H)|(simp only [hji18] at H ⊢;exact H)
   by_cases c19:0 ≤ (ji18)
   rotate_left
   ·rw [if_neg c19] at H
    exact absurd H (by simp)
   rw [if_pos c19] at H
   have c19b0:=eq_true c19
   have c19b1:decide (0 ≤ (ji18)) = true:=decide_eq_true c19
   clear c19
   obtain⟨ji20,hji20⟩:∃ j_:Int,(shl .u64 (IntKind.u64.wrap (rd l0 x17_1)) (ji18)) = j_:=⟨_,rfl⟩
   replace H:(impl_bitsOf.l0 k1 l0 (l0.length:Int) (wrap64 (x17_1 + 1)) (l0.length:Int) (x253001_1.set ((ji15):Int).toNat (Go.bits .or .u64 (rd x253001_1 (ji15)) (ji20)))) = some (r1,r2):=by first|(rw [hji20] at H;exact H)|(simp only [hji20] at H ⊢;exact H)
   have hji20_:(IntKind.u64.wrap ((IntKind.u64.wrap (rd l0 x17_1)) * 2 ^ min (ji18).toNat 64)) = ji20:=hji20
   have hji20z:(ji18) ≤ 64 → (IntKind.u64.wrap ((IntKind.u64.wrap (rd l0 x17_1)) * 2 ^ (ji18).toNat)) = ji20:=shl_small hji20
   obtain⟨y255,hy255⟩:∃ y_:List Int,y_ = (x253001_1.set ((ji15):Int).toNat (Go.bits .or .u64 (rd x253001_1 (ji15)) (ji20))):=⟨_,rfl⟩
   replace H:(impl_bitsOf.l0 k1 l0 (l0.length:Int) (wrap64 (x17_1 + 1)) (l0.length:Int) y255) = some (r1,r2):=by first|(rw [hy255];with_reducible exact H)|(have H2_:=(Option.bind_some _ _).symm.trans H;rw [hy255];with_reducible exact H2_)|(have H2_:=(Option.bind_some _ _).symm.trans H;with_reducible exact H2_)|with_reducible exact H|(rw [hy255];exact H)|exact H
   have Ny255:=mk0 hy255
   clear hy255
   have H':=mk0 H
   clear H
   have p253:0 ≤ (x17_1:Int):=of_decide_eq_true (by first|(with_reducible assumption)|assumption)
   have q253:x17_1 < (l0.length:Int):=of_decide_eq_true (by first|(with_reducible assumption)|assumption)
   obtain⟨ad253,e253,hx253_0⟩:=Kd.at_int HR0.out x17_1 p253 q253
   cases e253
   replace hx253_0:=(HB.out.cell (World.block_lt_of_cell? w _ hx253_0)).trans hx253_0
   replace p253:=eq_true p253
   replace q253:=eq_true q253
   try go_wp2
   have n0_:=mk0 (dR HO_253001.out)
   have n1_:=mk0 (dB BK248.out)
   have n2_:=mk0 (dB BK252.out)
   have n3_:=mk0 (dZ HB.out)
   clear HO_253001
   clear BK248
   clear BK252
   clear HB
   have HO_253001:=n0_
   have BK248:=n1_
   have BK252:=n2_
   have HB:=n3_
   clear n0_ n1_ n2_ n3_
   obtain⟨Ao23,co23,eo23⟩:=Kd.R_slice HO_253001.out
   (first|subst eo23|(injection eo23 with f1_ f2_ f3_;have f4_:=f1_.symm;have f5_:=f3_.symm;clear f1_ f2_ f3_;subst f4_;subst f5_))
   have p254:0 ≤ ((ji15):Int):=of_decide_eq_true (by first|(with_reducible assumption)|assumption)
   have q254:(ji15) < (x253001_1.length:Int):=of_decide_eq_true (by first|(with_reducible assumption)|assumption)
   obtain⟨ad254,e254,hx254_0⟩:=Kd.at_int (Kd.R_reads' HO_253001.out).2.2 (ji15) p254 q254
   cases e254
   replace p254:=eq_true p254
   replace q254:=eq_true q254
   have p21:0 ≤ ((ji15):Int):=of_decide_eq_true (by first|(with_reducible assumption)|assumption)
   have q21:((ji15):Int) < ((x253001_1.length:Int):Int):=of_decide_eq_true (by first|(with_reducible assumption)|assumption)
   obtain⟨go21,co21,eo21,gb21,gl21,cl21,HG21⟩:=Kd.R_form HO_253001.out (by omega)
   (first|cases eo21|(injection eo21 with ea_ en_ ec_;(first|subst ea_|(injection ea_ with ea_;subst ea_));subst ec_;clear en_))
   have GB21:=mk0 gb21
   have GG21:=mk0 HG21
   clear gb21 gl21 HG21
   (first|simp only [add_plain] at hx254_0|skip)
   obtain⟨hx21_0,hf21_0⟩:=Kd.R_celln 0 HO_253001.out ((ji15):Int) p21 q21
   replace p21:=eq_true p21
   replace q21:=eq_true q21
   have HP24:=Kd.R_putn HO_253001.out ((ji15):Int) (Go.bits .or .u64 (rd x253001_1 (ji15)) (ji20))
   rw [← Ny255.out] at HP24
   have HQ24:=mk0 HP24
   clear HP24
   refine start_ (n:=14) (S:=fun w'=>w'.cell? ⟨gb252,0,none⟩ = some (.int .i64 (l0.length:Int)) ∧ w'.cell? ⟨gb252,1,none⟩ = some (.slice (some ⟨go21,0,none⟩) x253001_1.length co23) ∧ w'.cell? ⟨go21,((ji15)).toNat,none⟩ = some (.int .u64 (rd x253001_1 (ji15)))) (ds:=[13]) impl_bitsOf.m0 (by kernel_rfl) rfl rfl ⟨(blk_cell BK252.out 0).trans rfl,(blk_cell BK252.out 1).trans rfl,hx254_0⟩ (fun hHeld=>?_);refine with_tabW impl_bitsOf.tab5 impl_bitsOf.bits5 (fun HT_ HW_=>?_)
   generalize wr.drew = w22 at HO_253001 BK248 BK252 HB GG21 HQ24 hf21_0 hx21_0 hx254_0 hHeld ⊢
   refine pure_ (i:=0) (N:=some 22) (v:=?_) (a':=?_) impl_bitsOf.m1 rfl rfl (any_of HT_.out (by kernel_rfl)) (fun _ _ _ h=>h) (Or.inl ⟨by rfl,?_⟩) ?_ ?_
   rotate_left
   ·intro w'
    go_simp
    with_reducible rfl
   rotate_left
   ·simp only [Act.put,sA,sO,sS,i64_w,i32_w]
    rfl
   refine pure_ (i:=2) (N:=some 24) (v:=?_) (a':=?_) impl_bitsOf.m2 rfl rfl (any_of HT_.out (by kernel_rfl)) (fun _ _ _ h=>h) (Or.inl ⟨by rfl,?_⟩) ?_ ?_
   rotate_left
   ·intro w'
    go_simp
    with_reducible rfl
   rotate_left
   ·simp only [Act.put,sA,sO,sS,i64_w,i32_w]
    rfl
   refine pure_ (i:=3) (N:=some 25) (v:=?_) (a':=?_) impl_bitsOf.m3 rfl rfl (any_of HT_.out (by kernel_rfl)) (fun _ _ _ h=>h) (Or.inl ⟨by rfl,?_⟩) ?_ ?_
   rotate_left
   ·intro w'
    go_simp
    with_reducible rfl
   rotate_left
   ·simp only [Act.put,sA,sO,sS,i64_w,i32_w]
    rfl
   refine pure_ (i:=6) (N:=some 28) (v:=?_) (a':=?_) impl_bitsOf.m4 rfl rfl (any_of HT_.out (by kernel_rfl)) (fun _ _ _ h=>h) (Or.inl ⟨by rfl,?_⟩) ?_ ?_
   rotate_left
   ·intro w'
    go_simp
    with_reducible rfl
   rotate_left
   ·simp only [Act.put,sA,sO,sS,i64_w,i32_w]
    rfl
   refine pure_ (i:=7) (N:=some 29) (v:=?_) (a':=?_) impl_bitsOf.m5 rfl rfl (any_of HT_.out (by kernel_rfl)) (fun _ _ _ h=>h) (Or.inl ⟨by rfl,?_⟩) ?_ ?_
   rotate_left
   ·intro w'
    go_simp
    with_reducible rfl
   rotate_left
   ·simp only [Act.put,sA,sO,sS,i64_w,i32_w]
    rfl
   refine pure_ (i:=8) (N:=some 30) (v:=?_) (a':=?_) impl_bitsOf.m6 rfl rfl (any_of HT_.out (by kernel_rfl)) (fun _ _ _ h=>h) (Or.inl ⟨by rfl,?_⟩) ?_ ?_
   rotate_left
   ·intro w'
    go_simp
    with_reducible rfl
   rotate_left
   ·simp only [Act.put,sA,sO,sS,i64_w,i32_w]
    rfl
   refine pure_ (i:=9) (N:=some 31) (v:=?_) (a':=?_) impl_bitsOf.m7 rfl rfl (any_of HT_.out (by kernel_rfl)) (fun _ _ _ h=>h) (Or.inl ⟨by rfl,?_⟩) ?_ ?_
   rotate_left
   ·intro w'
    go_simp
    with_reducible rfl
   rotate_left
   ·simp only [Act.put,sA,sO,sS,i64_w,i32_w]
    rfl
   refine pure_ (i:=10) (N:=some 32) (v:=?_) (a':=?_) impl_bitsOf.m8 rfl rfl (any_of HT_.out (by kernel_rfl)) (fun _ _ _ h=>h) (Or.inl ⟨by rfl,?_⟩) ?_ ?_
   rotate_left
   ·intro w'
    go_simp
    with_reducible rfl
   rotate_left
   ·simp only [Act.put,sA,sO,sS,i64_w,i32_w]
    rfl
   refine take_ (i:=1) (N:=some 23) (v:=?_) (a':=?_) impl_bitsOf.m9 rfl rfl (take_ofW HT_.out HW_.out (by kernel_rfl)) (fun _ _ _ h=>h) (Or.inl ⟨by rfl,?_⟩) hHeld ?_ ?_
   rotate_left
   ·rintro w' ⟨s0,s1,s2⟩
    go_simp
    with_reducible rfl
   rotate_left
   ·simp only [Act.put,sA,sO,sS,i64_w,i32_w]
    rfl
   refine pure_ (i:=4) (N:=some 26) (v:=?_) (a':=?_) impl_bitsOf.m10 rfl rfl (any_of HT_.out (by kernel_rfl)) (fun _ _ _ h=>h) (Or.inl ⟨by rfl,?_⟩) ?_ ?_
   rotate_left
   ·intro w'
    go_simp
    with_reducible rfl
   rotate_left
   ·simp only [Act.put,sA,sO,sS,i64_w,i32_w]
    rfl
   refine take_ (i:=5) (N:=some 27) (v:=?_) (a':=?_) impl_bitsOf.m11 rfl rfl (take_ofW HT_.out HW_.out (by kernel_rfl)) (fun _ _ _ h=>h) (Or.inl ⟨by rfl,?_⟩) hHeld ?_ ?_
   rotate_left
   ·rintro w' ⟨s0,s1,s2⟩
    go_simp
    with_reducible rfl
   rotate_left
   ·simp only [Act.put,sA,sO,sS,i64_w,i32_w]
    rfl
   refine pure_ (i:=11) (N:=some 33) (v:=?_) (a':=?_) impl_bitsOf.m12 rfl rfl (any_of HT_.out (by kernel_rfl)) (fun _ _ _ h=>h) (Or.inl ⟨by rfl,?_⟩) ?_ ?_
   rotate_left
   ·intro w'
    go_simp
    with_reducible rfl
   rotate_left
   ·simp only [Act.put,sA,sO,sS,i64_w,i32_w]
    rfl
   refine pure_ (i:=12) (N:=some 34) (v:=?_) (a':=?_) impl_bitsOf.m13 rfl rfl (any_of HT_.out (by kernel_rfl)) (fun _ _ _ h=>h) (Or.inl ⟨by rfl,?_⟩) ?_ ?_
   rotate_left
   ·intro w'
    go_simp
    with_reducible rfl
   rotate_left
   ·simp only [Act.put,sA,sO,sS,i64_w,i32_w]
    rfl
   refine last_ (i:=13) (N:=none) impl_bitsOf.m14 rfl rfl (one_of HT_.out (by kernel_rfl)) (by decide) (fun K hK=>?_)
   refine skip_ (w1:=?_) (by rfl) rfl ?_ ?_
   rotate_left
   ·go_simp
    rfl
   refine hK.out _ _ ?_
   clear hK K
   refine done_ (done_of HT_.out (by kernel_rfl)) ?_
   try go_wp2
   go_roundg k1
   case measure=>have:=HK1.out;omega
   case rel=>exact⟨(wrap64 (x17_1 + 1)),(y255),(.slice (some ⟨go21,0,none⟩) x253001_1.length co23),(by first|rfl|(simp;done)|(simp [*];done)),H',⟨by have:=HK1.out;omega⟩,⟨by (with_reducible repeat (first|apply aR|apply nR|apply dR));exact HQ24.out⟩,⟨by (with_reducible repeat (first|apply nB|apply dB|apply aB));refine blk_far ?_ (by have h_:=Kd.R_ne HO_253001.out BK248.out (by decide);intro e_;exact h_ (by rw [e_];rfl)) _;(with_reducible repeat (first|apply nB|apply dB|apply aB));exact BK248.out⟩,⟨by (with_reducible repeat (first|apply nB|apply dB|apply aB));refine blk_far ?_ (by have h_:=Kd.R_ne HO_253001.out BK252.out (by decide);intro e_;exact h_ (by rw [e_];rfl)) _;(with_reducible repeat (first|apply nB|apply dB|apply aB));exact BK252.out⟩,⟨by repeat (first|(with_reducible first|exact HB.out|apply aZ|apply nZ|apply dZ|refine sZ ?_ GB21.out|refine sZ ?_ GE248.out|refine sZ ?_ GE252.out)|exact HB.out)⟩⟩
/-! ### impl_BitsFlip: function 42 -/
def impl_BitsFlip.l0 : Nat → List Int → Int → Int → Option (Int × List Int)
 | 0, _, _, _ => none
 | k + 1, x3, x12, x13 => if x13 < x12 then (if 0 ≤ x13 then (if x13 < (x3.length : Int) then (impl_BitsFlip.l0 k (x3.set (x13 : Int).toNat (wrap64 (1 - (rd x3 x13)))) x12 (wrap64 (x13 + 1))) else (none)) else (none)) else ((impl_bitsOf.f k x3).bind fun bt264 => (some (bt264.1, bt264.2)))
def impl_BitsFlip.f (k : Nat) (a0_0 : Int) (l0_1 : List Int) : Option (Int × List Int) := (impl_BitsOk.f a0_0 l0_1).bind fun t258 => (if t258 = true then ((impl_Bits_list.f k a0_0 l0_1).bind fun t259 => (impl_BitsFlip.l0 k t259 (t259.length : Int) 0)) else (some (0, ([] : List Int))))
theorem impl_BitsFlip.mono_l : ∀ k, (∀ y0 y1 y2, LeO (impl_BitsFlip.l0 k y0 y1 y2) (impl_BitsFlip.l0 (k + 1) y0 y1 y2))
 | 0 => fun _ _ _ r h => by simp [impl_BitsFlip.l0] at h
 | k + 1 => by
  have ih0 := impl_BitsFlip.mono_l k
  ·intro y0 y1 y2
   unfold impl_BitsFlip.l0
   repeat' first|(with_reducible first|exact ih0 _ _ _|exact impl_Bits_list.mono _ _ _|exact impl_bitsOf.mono _ _|exact LeO.refl _|exact LeO.none _|refine LeO.ite ?_ ?_|refine LeO.bind ?_ (fun _ => ?_))|exact LeO.none _|refine LeO.ite ?_ ?_|refine LeO.bind ?_ (fun _ => ?_)
theorem impl_BitsFlip.mono : ∀ a0 a1 k, LeO (impl_BitsFlip.f k a0 a1) (impl_BitsFlip.f (k + 1) a0 a1) := by
 intro a0 a1 k
 have ih0 := impl_BitsFlip.mono_l k
 unfold impl_BitsFlip.f
 repeat' first|(with_reducible first|exact ih0 _ _ _|exact impl_Bits_list.mono _ _ _|exact impl_bitsOf.mono _ _|exact LeO.refl _|exact LeO.none _|refine LeO.ite ?_ ?_|refine LeO.bind ?_ (fun _ => ?_))|exact LeO.none _|refine LeO.ite ?_ ?_|refine LeO.bind ?_ (fun _ => ?_)
set_option maxHeartbeats 8000000 in
set_option maxRecDepth 100000 in
theorem impl_BitsFlip.calls (k : Nat) (a0_0 : Int) (A0_1 : Option Addr) (c0_1 : Nat) (l0_1 : List Int) (r1 : Int) (r2 : List Int) (w : World) (hr0_1 : Kd.C (Kd.int .u64) w A0_1 l0_1.length l0_1) (hc0_1 : l0_1.length ≤ c0_1) (h : impl_BitsFlip.f k a0_0 l0_1 = some (r1, r2)) :
  Calls Try.prog 42 #[.agg #[.int .i64 a0_0, .slice A0_1 l0_1.length c0_1]] w fun e w' => ∃ v1_ : Value, e = .returned (.agg #[.int .i64 r1, v1_]) ∧ Kd.R (Kd.int .u64) 77 w' w.heap.size (fun _ => True) v1_ r2 ∧ Below w.heap.size w w' := by
 have hu25:=Try.underlying25
 have HR0_1:=mk0 hr0_1
 have HC0_1:=mk0 hc0_1
 clear hr0_1 hc0_1
 have HB:=mk0 (Below.refl w.heap.size w)
 have H:((impl_BitsOk.f a0_0 l0_1).bind fun t258=>(if t258 = true then ((impl_Bits_list.f k a0_0 l0_1).bind fun t259=>(impl_BitsFlip.l0 k t259 (t259.length:Int) 0)) else (some (0,([]:List Int))))) = some (r1,r2):=h
 clear h
 replace H:=Option.bind_eq_some_iff.mp H
 obtain⟨t258,A20,H⟩:=H
 replace H:(if t258 = true then ((impl_Bits_list.f k a0_0 l0_1).bind fun t259=>(impl_BitsFlip.l0 k t259 (t259.length:Int) 0)) else (some (0,([]:List Int)))) = some (r1,r2):=H
 have A2:=mk0 A20
 clear A20
 by_cases c3:t258 = true
 rotate_left
 ·replace c3:=Bool.eq_false_iff.mpr c3
  subst c3
  have H1:(some (0,([]:List Int))) = some (r1,r2):=by rw [if_neg (show ¬ (false = true) by decide)] at H;exact H
  clear H
  have H:=H1
  clear H1
  simp only [Option.some.injEq,Prod.mk.injEq] at H
  obtain⟨rfl,rfl⟩:=H
  go_enter Try.func42,Try.ntmps42
  go_wp2_with (first|((with_reducible refine gate_dst (N:=1) rfl ?_);refine box_event ?hg (N:=1) ?hd (cs:=#[.int .i64 a0_0,.slice A0_1 l0_1.length c0_1]) (t:=25) ?hr ?_;(case hd=>rfl);(case hg=>rfl);(case hr=>first|(go_simp;done)|(go_simp;rfl));intro gb256 hg w24 hbox hb;have n0_:=mk0 (below_step (by repeat (first|(with_reducible first|exact HB.out|apply aZ|apply nZ|apply dZ)|exact HB.out)) hb);have n1_:=mk0 (hbox);have n2_:=mk0 ((by rw [hg];exact (below_size (by repeat (first|(with_reducible first|exact HB.out|apply aZ|apply nZ|apply dZ)|exact HB.out))):w.heap.size ≤ gb256));have n3_:=mk0 ((by rw [hg];exact (below_size (by repeat (first|(with_reducible first|exact HB.out|apply aZ|apply nZ|apply dZ)|exact HB.out))):w.heap.size ≤ gb256));clear HB;have HB:=n0_;have BK256:=n1_;have GW256:=n2_;have GE256:=n3_;clear n0_ n1_ n2_ n3_ hb hbox hg)|((with_reducible refine gate_dst (N:=2) rfl ?_);refine box_event ?hg (N:=2) ?hd (cs:=#[.int .i64 0,.slice none 0 0]) (t:=25) ?hr ?_;(case hd=>rfl);(case hg=>rfl);(case hr=>first|(go_simp;done)|(go_simp;rfl));intro gb257 hg w25 hbox hb;have n0_:=mk0 (blk_below (g:=gb256) (o:=.cells #[.int .i64 a0_0,.slice A0_1 l0_1.length c0_1] 25 (0,0)) (by (with_reducible repeat (first|apply nB|apply dB|apply aB));exact BK256.out) hb);have n1_:=mk0 (below_step (by repeat (first|(with_reducible first|exact HB.out|apply aZ|apply nZ|apply dZ|refine sZ ?_ GE256.out)|exact HB.out)) hb);have n2_:=mk0 (hbox);have n3_:=mk0 ((by rw [hg];exact (below_size (by repeat (first|(with_reducible first|exact HB.out|apply aZ|apply nZ|apply dZ|refine sZ ?_ GE256.out)|exact HB.out))):w.heap.size ≤ gb257));have n4_:=mk0 ((by rw [hg];exact (below_size (by repeat (first|(with_reducible first|exact HB.out|apply aZ|apply nZ|apply dZ|refine sZ ?_ GE256.out)|exact HB.out))):w.heap.size ≤ gb257));have n5_:=mk0 ((by rw [hg];exact Nat.ne_of_lt (blk_lt (g:=gb256) (o:=.cells #[.int .i64 a0_0,.slice A0_1 l0_1.length c0_1] 25 (0,0)) (by (with_reducible repeat (first|apply nB|apply dB|apply aB));exact BK256.out)):gb256 ≠ gb257));have n6_:=mk0 ((by rw [hg];exact Nat.ne_of_gt (blk_lt (g:=gb256) (o:=.cells #[.int .i64 a0_0,.slice A0_1 l0_1.length c0_1] 25 (0,0)) (by (with_reducible repeat (first|apply nB|apply dB|apply aB));exact BK256.out)):gb257 ≠ gb256));clear BK256 HB;have BK256:=n0_;have HB:=n1_;have BK257:=n2_;have GW257:=n3_;have GE257:=n4_;have NB256_257:=n5_;have NB257_256:=n6_;clear n0_ n1_ n2_ n3_ n4_ n5_ n6_ hb hbox hg;have hnb26:=NB256_257.out;have hnc26:=NB257_256.out;have hcz27_0:w25.cell? ⟨gb256,0,none⟩ = some (.int .i64 a0_0):=(blk_cell BK256.out 0).trans rfl;have hcz27_1:w25.cell? ⟨gb256,1,none⟩ = some (.slice A0_1 l0_1.length c0_1):=(blk_cell BK256.out 1).trans rfl;have hfz27_0:=blk_frozen BK256.out 0;have hfz27_1:=blk_frozen BK256.out 1)|((with_reducible refine gate_callee (f:=39) rfl ?_);refine goesL_ (some 6) rfl rfl Try.func39 (by kernel_rfl) rfl #[.agg #[.int .i64 a0_0,.slice A0_1 l0_1.length c0_1]] rfl (by (try simp only [mA,mC,mN]);first|done|rfl|(simp only [List.length_drop,List.length_take];rfl)) ?_;(with_reducible refine (impl_BitsOk.calls a0_0 _ _ l0_1 false _ ?side1 ?side2 A2.out).mono ?_);(case side1=>repeat (first|exact (Kd.C_below HR0_1.out HB.out)|(with_reducible first|apply aC|apply nC|apply dC)));(case side2=>exact HC0_1.out);rintro e w28 ⟨rfl,hb⟩;refine⟨_,rfl,?_⟩;have n0_:=mk0 (blk_below (g:=gb256) (o:=.cells #[.int .i64 a0_0,.slice A0_1 l0_1.length c0_1] 25 (0,0)) (by (with_reducible repeat (first|apply nB|apply dB|apply aB));exact BK256.out) hb);have n1_:=mk0 (blk_below (g:=gb257) (o:=.cells #[.int .i64 0,.slice none 0 0] 25 (0,0)) (by (with_reducible repeat (first|apply nB|apply dB|apply aB));exact BK257.out) hb);have n2_:=mk0 (below_step (by repeat (first|(with_reducible first|exact HB.out|apply aZ|apply nZ|apply dZ|refine sZ ?_ GE256.out|refine sZ ?_ GE257.out)|exact HB.out)) hb);clear BK256 BK257 HB;have BK256:=n0_;have BK257:=n1_;have HB:=n2_;clear n0_ n1_ n2_;(try clear hb);(try clear hb2);(try clear hk);(try clear hi);have hcz29_0:w28.cell? ⟨gb257,0,none⟩ = some (.int .i64 0):=(blk_cell BK257.out 0).trans rfl;have hcz29_1:w28.cell? ⟨gb257,1,none⟩ = some (.slice none 0 0):=(blk_cell BK257.out 1).trans rfl;have hfz29_0:=blk_frozen BK257.out 0;have hfz29_1:=blk_frozen BK257.out 1))
  refine bodyPost_ret (results_cell_row rfl _ _ gb257 25 #[.int .i64 0,.slice none 0 0] (0,0) _ rfl (by (with_reducible repeat (first|apply nB|apply dB|apply aB));refine blk_put (cs:=#[.int .i64 0,.slice none 0 0]) ?_ 1 _ rfl;(with_reducible repeat (first|apply nB|apply dB|apply aB));refine blk_put (cs:=#[.int .i64 0,.slice none 0 0]) ?_ 0 _ rfl;(with_reducible repeat (first|apply nB|apply dB|apply aB));exact BK257.out) Try.underlying25 rfl (by kernel_rfl)) rfl ?_
  exact⟨_,by first|rfl|(simp [errW_none,errW_some] <;> rfl)|(simp [*,errW_none,errW_some] <;> rfl),by first|exact Kd.R_nil _ _ _ _ _|exact Kd.N_nil _ _ _ _ _|exact Kd.V_nil _ _ _ _ _|exact Kd.Q_nil _ _ _ _ _|exact Kd.S_nil _ _ _ _ _,by repeat (first|(with_reducible first|exact HB.out|apply aZ|apply nZ|apply dZ|refine sZ ?_ GE256.out|refine sZ ?_ GE257.out)|exact HB.out)⟩

 subst c3
 have H1:((impl_Bits_list.f k a0_0 l0_1).bind fun t259=>(impl_BitsFlip.l0 k t259 (t259.length:Int) 0)) = some (r1,r2):=by rw [if_pos rfl] at H;exact H
 clear H
 have H:=H1
 clear H1
 replace H:=Option.bind_eq_some_iff.mp H
 obtain⟨t259,A40,H⟩:=H
 replace H:(impl_BitsFlip.l0 k t259 (t259.length:Int) 0) = some (r1,r2):=H
 have A4:=mk0 A40
 clear A40
 have H':=mk0 H
 clear H
 go_enter Try.func42,Try.ntmps42
 go_wp2_with (first|((with_reducible refine gate_dst (N:=1) rfl ?_);refine box_event ?hg (N:=1) ?hd (cs:=#[.int .i64 a0_0,.slice A0_1 l0_1.length c0_1]) (t:=25) ?hr ?_;(case hd=>rfl);(case hg=>rfl);(case hr=>first|(go_simp;done)|(go_simp;rfl));intro gb256 hg w5 hbox hb;have n0_:=mk0 (below_step (by repeat (first|(with_reducible first|exact HB.out|apply aZ|apply nZ|apply dZ)|exact HB.out)) hb);have n1_:=mk0 (hbox);have n2_:=mk0 ((by rw [hg];exact (below_size (by repeat (first|(with_reducible first|exact HB.out|apply aZ|apply nZ|apply dZ)|exact HB.out))):w.heap.size ≤ gb256));have n3_:=mk0 ((by rw [hg];exact (below_size (by repeat (first|(with_reducible first|exact HB.out|apply aZ|apply nZ|apply dZ)|exact HB.out))):w.heap.size ≤ gb256));clear HB;have HB:=n0_;have BK256:=n1_;have GW256:=n2_;have GE256:=n3_;clear n0_ n1_ n2_ n3_ hb hbox hg)|((with_reducible refine gate_dst (N:=2) rfl ?_);refine box_event ?hg (N:=2) ?hd (cs:=#[.int .i64 0,.slice none 0 0]) (t:=25) ?hr ?_;(case hd=>rfl);(case hg=>rfl);(case hr=>first|(go_simp;done)|(go_simp;rfl));intro gb257 hg w6 hbox hb;have n0_:=mk0 (blk_below (g:=gb256) (o:=.cells #[.int .i64 a0_0,.slice A0_1 l0_1.length c0_1] 25 (0,0)) (by (with_reducible repeat (first|apply nB|apply dB|apply aB));exact BK256.out) hb);have n1_:=mk0 (below_step (by repeat (first|(with_reducible first|exact HB.out|apply aZ|apply nZ|apply dZ|refine sZ ?_ GE256.out)|exact HB.out)) hb);have n2_:=mk0 (hbox);have n3_:=mk0 ((by rw [hg];exact (below_size (by repeat (first|(with_reducible first|exact HB.out|apply aZ|apply nZ|apply dZ|refine sZ ?_ GE256.out)|exact HB.out))):w.heap.size ≤ gb257));have n4_:=mk0 ((by rw [hg];exact (below_size (by repeat (first|(with_reducible first|exact HB.out|apply aZ|apply nZ|apply dZ|refine sZ ?_ GE256.out)|exact HB.out))):w.heap.size ≤ gb257));have n5_:=mk0 ((by rw [hg];exact Nat.ne_of_lt (blk_lt (g:=gb256) (o:=.cells #[.int .i64 a0_0,.slice A0_1 l0_1.length c0_1] 25 (0,0)) (by (with_reducible repeat (first|apply nB|apply dB|apply aB));exact BK256.out)):gb256 ≠ gb257));have n6_:=mk0 ((by rw [hg];exact Nat.ne_of_gt (blk_lt (g:=gb256) (o:=.cells #[.int .i64 a0_0,.slice A0_1 l0_1.length c0_1] 25 (0,0)) (by (with_reducible repeat (first|apply nB|apply dB|apply aB));exact BK256.out)):gb257 ≠ gb256));clear BK256 HB;have BK256:=n0_;have HB:=n1_;have BK257:=n2_;have GW257:=n3_;have GE257:=n4_;have NB256_257:=n5_;have NB257_256:=n6_;clear n0_ n1_ n2_ n3_ n4_ n5_ n6_ hb hbox hg;have hnb7:=NB256_257.out;have hnc7:=NB257_256.out;have hcz8_0:w6.cell? ⟨gb256,0,none⟩ = some (.int .i64 a0_0):=(blk_cell BK256.out 0).trans rfl;have hcz8_1:w6.cell? ⟨gb256,1,none⟩ = some (.slice A0_1 l0_1.length c0_1):=(blk_cell BK256.out 1).trans rfl;have hfz8_0:=blk_frozen BK256.out 0;have hfz8_1:=blk_frozen BK256.out 1)|((with_reducible refine gate_callee (f:=39) rfl ?_);refine goesL_ (some 6) rfl rfl Try.func39 (by kernel_rfl) rfl #[.agg #[.int .i64 a0_0,.slice A0_1 l0_1.length c0_1]] rfl (by (try simp only [mA,mC,mN]);first|done|rfl|(simp only [List.length_drop,List.length_take];rfl)) ?_;(with_reducible refine (impl_BitsOk.calls a0_0 _ _ l0_1 true _ ?side1 ?side2 A2.out).mono ?_);(case side1=>repeat (first|exact (Kd.C_below HR0_1.out HB.out)|(with_reducible first|apply aC|apply nC|apply dC)));(case side2=>exact HC0_1.out);rintro e w9 ⟨rfl,hb⟩;refine⟨_,rfl,?_⟩;have n0_:=mk0 (blk_below (g:=gb256) (o:=.cells #[.int .i64 a0_0,.slice A0_1 l0_1.length c0_1] 25 (0,0)) (by (with_reducible repeat (first|apply nB|apply dB|apply aB));exact BK256.out) hb);have n1_:=mk0 (blk_below (g:=gb257) (o:=.cells #[.int .i64 0,.slice none 0 0] 25 (0,0)) (by (with_reducible repeat (first|apply nB|apply dB|apply aB));exact BK257.out) hb);have n2_:=mk0 (below_step (by repeat (first|(with_reducible first|exact HB.out|apply aZ|apply nZ|apply dZ|refine sZ ?_ GE256.out|refine sZ ?_ GE257.out)|exact HB.out)) hb);clear BK256 BK257 HB;have BK256:=n0_;have BK257:=n1_;have HB:=n2_;clear n0_ n1_ n2_;(try clear hb);(try clear hb2);(try clear hk);(try clear hi);have hcz10_0:w9.cell? ⟨gb256,0,none⟩ = some (.int .i64 a0_0):=(blk_cell BK256.out 0).trans rfl;have hcz10_1:w9.cell? ⟨gb256,1,none⟩ = some (.slice A0_1 l0_1.length c0_1):=(blk_cell BK256.out 1).trans rfl;have hfz10_0:=blk_frozen BK256.out 0;have hfz10_1:=blk_frozen BK256.out 1)|((with_reducible refine gate_callee (f:=41) rfl ?_);refine goesL_ (some 10) rfl rfl Try.func41 (by kernel_rfl) rfl #[.agg #[.int .i64 a0_0,.slice A0_1 l0_1.length c0_1]] rfl (by (try simp only [mA,mC,mN]);first|done|rfl|(simp only [List.length_drop,List.length_take];rfl)) ?_;(with_reducible refine (impl_Bits_list.calls k a0_0 _ _ l0_1 t259 _ ?side1 ?side2 A4.out).mono ?_);(case side1=>repeat (first|exact (Kd.C_below HR0_1.out HB.out)|(with_reducible first|apply aC|apply nC|apply dC)));(case side2=>exact HC0_1.out);rintro e w11 ⟨v260,rfl,ho0,hb⟩;refine⟨_,rfl,?_⟩;have n0_:=mk0 (Kd.R_lower ho0 (below_size (by repeat (first|(with_reducible first|exact HB.out|apply aZ|apply nZ|apply dZ|refine sZ ?_ GE256.out|refine sZ ?_ GE257.out)|exact HB.out))));have n1_:=mk0 (blk_below (g:=gb256) (o:=.cells #[.int .i64 a0_0,.slice A0_1 l0_1.length c0_1] 25 (0,0)) (by (with_reducible repeat (first|apply nB|apply dB|apply aB));exact BK256.out) hb);have n2_:=mk0 (blk_below (g:=gb257) (o:=.cells #[.int .i64 0,.slice none 0 0] 25 (0,0)) (by (with_reducible repeat (first|apply nB|apply dB|apply aB));exact BK257.out) hb);have n3_:=mk0 (below_step (by repeat (first|(with_reducible first|exact HB.out|apply aZ|apply nZ|apply dZ|refine sZ ?_ GE256.out|refine sZ ?_ GE257.out)|exact HB.out)) hb);clear BK256 BK257 HB;have HO261:=n0_;have BK256:=n1_;have BK257:=n2_;have HB:=n3_;clear n0_ n1_ n2_ n3_;(try clear hb);(try clear hb2);(try clear hk);(try clear hi);(try clear ho0);obtain⟨Ao12,co12,eo12⟩:=Kd.R_slice HO261.out;subst eo12))
 go_loopg [13] k (fun kq v13 w'=>∃ (x3_1:List Int) (x13_1:Int),v13 = .int .i64 x13_1 ∧ Aside0 (impl_BitsFlip.l0 kq x3_1 (t259.length:Int) x13_1 = some (r1,r2)) ∧ Aside0 (kq ≤ k) ∧ Aside0 (Kd.R (Kd.int .i64) 3 w' w.heap.size (fun _=>True) (.slice Ao12 t259.length co12) x3_1) ∧ Aside0 (w'.heap[gb256]? = some (.cells #[.int .i64 a0_0,(.slice A0_1 l0_1.length c0_1)] 25 (0,0))) ∧ Aside0 (w'.heap[gb257]? = some (.cells #[.int .i64 0,(.slice none 0 0)] 25 (0,0))) ∧ Aside0 (Below w.heap.size w w'))
 case atStart=>exact⟨(t259),(0),(by first|rfl|(simp;done)|(simp [*];done)),H',⟨Nat.le_refl _⟩,⟨by (with_reducible repeat (first|apply aR|apply nR|apply dR));exact HO261.out⟩,⟨by (with_reducible repeat (first|apply nB|apply dB|apply aB));exact BK256.out⟩,⟨by (with_reducible repeat (first|apply nB|apply dB|apply aB));exact BK257.out⟩,⟨by repeat (first|(with_reducible first|exact HB.out|apply aZ|apply nZ|apply dZ|refine sZ ?_ GE256.out|refine sZ ?_ GE257.out)|exact HB.out)⟩⟩
 case round =>
  clear H'
  try clear p2
  try clear c3
  try clear c4
  try clear c7
  try clear hcz10_0
  try clear hcz10_1
  try clear hcz8_0
  try clear hcz8_1
  try clear hfz10_0
  try clear hfz10_1
  try clear hfz8_0
  try clear hfz8_1
  obtain⟨x3_1,x13_1,rfl,HA,HK1,HO_3,BK256,BK257,HB⟩:=hrel
  have hl3_1:=(Kd.R_reads' HO_3.out).1
  rw [hl3_1] at HO_3
  (try simp only [hl3_1])
  (try simp only [hl3_1] at BK256)
  (try simp only [hl3_1] at BK257)
  cases gk with
  | zero=>exact absurd HA.out (by simp [impl_BitsFlip.l0])
  | succ k1 =>
   have H:=HA.out
   clear HA
   simp only [impl_BitsFlip.l0] at H
   by_cases c13:x13_1 < (t259.length:Int)
   rotate_left
   ·rw [if_neg c13] at H
    have c13b0:decide (x13_1 < (t259.length:Int)) = false:=decide_eq_false c13
    (try simp only [hl3_1] at c13b0)
    clear c13
    replace H:=Option.bind_eq_some_iff.mp H
    obtain⟨⟨t264,t265⟩,A190,H⟩:=H
    replace H:(some (t264,t265)) = some (r1,r2):=H
    have A19:=mk0 A190
    clear A190
    simp only [Option.some.injEq,Prod.mk.injEq] at H
    obtain⟨rfl,rfl⟩:=H
    go_wp2_with (first|((with_reducible refine gate_callee (f:=47) rfl ?_);refine goesL_ (some 26) rfl rfl Try.func47 (by kernel_rfl) rfl #[.slice Ao12 x3_1.length co12] rfl (by (try simp only [mA,mC,mN]);first|done|rfl|(simp only [List.length_drop,List.length_take];rfl)) ?_;(with_reducible refine (impl_bitsOf.calls k1 _ _ x3_1 t264 t265 _ ?side1 ?side2 A19.out).mono ?_);(case side1=>repeat (first|exact (Kd.R_reads' HO_3.out).2.2|(with_reducible first|apply aC|apply nC|apply dC)));(case side2=>exact (Kd.R_reads' HO_3.out).2.1);rintro e w20 ⟨v266,rfl,ho0,hb⟩;refine⟨_,rfl,?_⟩;have n0_:=mk0 (Kd.R_below (by (with_reducible repeat (first|apply aR|apply nR|apply dR));exact HO_3.out) hb);have n1_:=mk0 (Kd.R_lower ho0 (below_size (by repeat (first|(with_reducible first|exact HB.out|apply aZ|apply nZ|apply dZ|refine sZ ?_ GE256.out|refine sZ ?_ GE257.out)|exact HB.out))));have n2_:=mk0 (blk_below (g:=gb256) (o:=.cells #[.int .i64 a0_0,.slice A0_1 l0_1.length c0_1] 25 (0,0)) (by (with_reducible repeat (first|apply nB|apply dB|apply aB));exact BK256.out) hb);have n3_:=mk0 (blk_below (g:=gb257) (o:=.cells #[.int .i64 0,.slice none 0 0] 25 (0,0)) (by (with_reducible repeat (first|apply nB|apply dB|apply aB));exact BK257.out) hb);have n4_:=mk0 (below_step (by repeat (first|(with_reducible first|exact HB.out|apply aZ|apply nZ|apply dZ|refine sZ ?_ GE256.out|refine sZ ?_ GE257.out)|exact HB.out)) hb);clear HO_3 BK256 BK257 HB;have HO_3:=n0_;have HO267:=n1_;have BK256:=n2_;have BK257:=n3_;have HB:=n4_;clear n0_ n1_ n2_ n3_ n4_;(try clear hb);(try clear hb2);(try clear hk);(try clear hi);(try clear ho0);have hnb21:=NB257_256.out;have hnc21:=NB256_257.out;have hcz22_0:w20.cell? ⟨gb257,0,none⟩ = some (.int .i64 0):=(blk_cell BK257.out 0).trans rfl;have hcz22_1:w20.cell? ⟨gb257,1,none⟩ = some (.slice none 0 0):=(blk_cell BK257.out 1).trans rfl;have hfz22_0:=blk_frozen BK257.out 0;have hfz22_1:=blk_frozen BK257.out 1;obtain⟨Ao23,co23,eo23⟩:=Kd.R_slice HO267.out;subst eo23))
    refine bodyPost_ret (results_cell_row rfl _ _ gb257 25 #[.int .i64 t264,.slice Ao23 t265.length co23] (0,0) _ rfl (by (with_reducible repeat (first|apply nB|apply dB|apply aB));refine blk_put (cs:=#[.int .i64 t264,.slice none 0 0]) ?_ 1 _ rfl;(with_reducible repeat (first|apply nB|apply dB|apply aB));refine blk_put (cs:=#[.int .i64 0,.slice none 0 0]) ?_ 0 _ rfl;(with_reducible repeat (first|apply nB|apply dB|apply aB));exact BK257.out) Try.underlying25 rfl (by kernel_rfl)) rfl ?_
    exact⟨_,by first|rfl|(simp [errW_none,errW_some] <;> rfl)|(simp [*,errW_none,errW_some] <;> rfl),by (with_reducible repeat (first|apply aR|apply nR|apply dR));exact Kd.R_mono (Kd.R_far (p:=⟨gb257,1,none⟩) (Kd.R_far (p:=⟨gb257,0,none⟩) (Kd.R_types HO267.out BK257.out (by decide)) (by first|exact fun _ hk=>hk.2|(intro k_ hk;simp only [hk,ne_eq,and_self,not_false_eq_true])) (.int .i64 t264)) (by first|exact fun _ hk=>hk.2|(intro k_ hk;simp only [hk,ne_eq,and_self,not_false_eq_true])) (.slice Ao23 t265.length co23)) (fun _ hk=>trivial),by repeat (first|(with_reducible first|exact HB.out|apply aZ|apply nZ|apply dZ|refine sZ ?_ GE256.out|refine sZ ?_ GE257.out)|exact HB.out)⟩
   rw [if_pos c13] at H
   have c13b0:decide (x13_1 < (t259.length:Int)) = true:=decide_eq_true c13
   (try simp only [hl3_1] at c13b0)
   clear c13
   by_cases c14:0 ≤ x13_1
   rotate_left
   ·rw [if_neg c14] at H
    exact absurd H (by simp)
   rw [if_pos c14] at H
   have c14b0:decide (0 ≤ x13_1) = true:=decide_eq_true c14
   clear c14
   by_cases c15:x13_1 < (x3_1.length:Int)
   rotate_left
   ·rw [if_neg c15] at H
    exact absurd H (by simp)
   rw [if_pos c15] at H
   have c15b0:decide (x13_1 < (x3_1.length:Int)) = true:=decide_eq_true c15
   (try simp only [hl3_1] at c15b0)
   clear c15
   obtain⟨y263,hy263⟩:∃ y_:List Int,y_ = (x3_1.set (x13_1:Int).toNat (wrap64 (1 - (rd x3_1 x13_1)))):=⟨_,rfl⟩
   replace H:(impl_BitsFlip.l0 k1 y263 (t259.length:Int) (wrap64 (x13_1 + 1))) = some (r1,r2):=by first|(rw [hy263];with_reducible exact H)|(have H2_:=(Option.bind_some _ _).symm.trans H;rw [hy263];with_reducible exact H2_)|(have H2_:=(Option.bind_some _ _).symm.trans H;with_reducible exact H2_)|with_reducible exact H|(rw [hy263];exact H)|exact H
   have Ny263:=mk0 hy263
   clear hy263
   have H':=mk0 H
   clear H
   have p262:0 ≤ (x13_1:Int):=of_decide_eq_true (by first|(with_reducible assumption)|assumption)
   have q262:x13_1 < (x3_1.length:Int):=of_decide_eq_true (by first|(with_reducible assumption)|assumption)
   obtain⟨ad262,e262,hx262_0⟩:=Kd.at_int (Kd.R_reads' HO_3.out).2.2 x13_1 p262 q262
   cases e262
   replace p262:=eq_true p262
   replace q262:=eq_true q262
   have p16:0 ≤ (x13_1:Int):=of_decide_eq_true (by first|(with_reducible assumption)|assumption)
   have q16:(x13_1:Int) < ((x3_1.length:Int):Int):=of_decide_eq_true (by first|(with_reducible assumption)|assumption)
   obtain⟨go16,co16,eo16,gb16,gl16,cl16,HG16⟩:=Kd.R_form HO_3.out (by omega)
   (first|cases eo16|(injection eo16 with ea_ en_ ec_;(first|subst ea_|(injection ea_ with ea_;subst ea_));subst ec_;clear en_))
   have GB16:=mk0 gb16
   have GG16:=mk0 HG16
   clear gb16 gl16 HG16
   (first|simp only [add_plain] at hx262_0|skip)
   obtain⟨hx16_0,hf16_0⟩:=Kd.R_celln 0 HO_3.out (x13_1:Int) p16 q16
   replace p16:=eq_true p16
   replace q16:=eq_true q16
   have HP17:=Kd.R_putg HO_3.out (x13_1:Int) (wrap64 (1 - (rd x3_1 x13_1)))
   go_wp2_with (first|((with_reducible refine gate_store (t:=3) (p:=23) rfl ?_);refine store_event (t:=3) (p:=23) (v:=?vo_w18) (w1:=(wr.setCell ⟨go16,(x13_1:Int).toNat,none⟩ (.int .i64 (wrap64 (1 - (rd x3_1 x13_1)))))) ?hg ?ho ?hn ?hr ?_;(case ho=>rfl);(case hg=>rfl);(case hn=>rfl);(case hr=>first|(go_simp;done)|(go_simp;rfl));intro w18 hw;have hg:wr.grownBy w18 (some go16):=(by rw [hw];exact HP17.2);have hp_:Kd.R (Kd.int .i64) 3 w18 w.heap.size (fun _=>True) (.slice (some ⟨go16,0,none⟩) x3_1.length co12) y263:=(by rw [hw,Ny263.out];exact HP17.1);clear HP17;have n0_:=mk0 (hp_);have n1_:=mk0 (blk_grown (g:=gb256) (o:=.cells #[.int .i64 a0_0,.slice A0_1 l0_1.length c0_1] 25 (0,0)) (by (with_reducible repeat (first|apply nB|apply dB|apply aB));exact BK256.out) hg (Kd.R_ne HO_3.out BK256.out (by decide)));have n2_:=mk0 (blk_grown (g:=gb257) (o:=.cells #[.int .i64 0,.slice none 0 0] 25 (0,0)) (by (with_reducible repeat (first|apply nB|apply dB|apply aB));exact BK257.out) hg (Kd.R_ne HO_3.out BK257.out (by decide)));have n3_:=mk0 ((by rw [hw];exact sZ (HB.out) GB16.out:Below w.heap.size w w18));clear HO_3 BK256 BK257 HB;have HO_3:=n0_;have BK256:=n1_;have BK257:=n2_;have HB:=n3_;clear n0_ n1_ n2_ n3_ hg hw hp_))
   (try simp only [← hl3_1])
   go_roundg k1
   case measure=>have:=HK1.out;omega
   case rel=>exact⟨(y263),(wrap64 (x13_1 + 1)),(by first|rfl|(simp;done)|(simp [*];done)),H',⟨by have:=HK1.out;omega⟩,⟨by (try simp only [hl3_1]);(with_reducible repeat (first|apply aR|apply nR|apply dR));exact HO_3.out⟩,⟨by (try simp only [hl3_1]);(with_reducible repeat (first|apply nB|apply dB|apply aB));exact BK256.out⟩,⟨by (try simp only [hl3_1]);(with_reducible repeat (first|apply nB|apply dB|apply aB));exact BK257.out⟩,⟨by repeat (first|(with_reducible first|exact HB.out|apply aZ|apply nZ|apply dZ|refine sZ ?_ GE256.out|refine sZ ?_ GE257.out)|exact HB.out)⟩⟩
end Go.Proofs.Ytdiemmcnekbfaaa.QFnExactPatchDo
