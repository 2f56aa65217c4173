-- A walk, made by walk.py, a program of this session's.
import Derived.Test.YtmohfjfgpeapfaaQFnSparsex0
import Derived.Test.YtmohfjfgpeapfaaQFnSparsex5
namespace Go.Proofs.Ytmohfjfgpeapfaa.QFnSparse
open Go.RowKit Go.Proofs.YtmohfjfgpeapfaaW.PrintWords Go.Proofs.YtmohfjfgpeapfaaW.PrintLast Go.Proofs.YtmohfjfgpeapfaaW.PrintMore
attribute [local go_sem] max2_int min2_int max_two min_two max_three min_three max_four min_four   -- for this text's walks alone
set_option linter.unusedVariables false
set_option linter.unusedSimpArgs false

/-! ### impl_bitsOf: function 37 -/
def impl_bitsOf.l0 : Nat → List Int → Int → Int → Int → List Int → Option (Int × List Int)
 | 0, _, _, _, _, _ => none
 | k + 1, x15, x16, x17, x268000, x268001 => if x17 < x16 then (if 0 ≤ x17 then (if x17 < (x15.length : Int) then (if 0 ≤ (wrap64 (Int.tdiv x17 64)) then (if (wrap64 (Int.tdiv x17 64)) < (x268001.length : Int) then (if 0 ≤ (Int.tmod x17 64) then (impl_bitsOf.l0 k x15 x16 (wrap64 (x17 + 1)) x268000 (x268001.set ((wrap64 (Int.tdiv x17 64)) : Int).toNat (Go.bits .or .u64 (rd x268001 (wrap64 (Int.tdiv x17 64))) (shl .u64 (IntKind.u64.wrap (rd x15 x17)) (Int.tmod x17 64))))) else (none)) else (none)) else (none)) else (none)) else (none)) else (some (x268000, x268001))
def impl_bitsOf.f (k : Nat) (l0 : List Int) : Option (Int × List Int) := if 0 ≤ (wrap64 (Int.tdiv (wrap64 ((wrap64 ((l0.length : Int) + 64)) - 1)) 64)) then (if (wrap64 (Int.tdiv (wrap64 ((wrap64 ((l0.length : Int) + 64)) - 1)) 64) : Int).toNat ≤ 35184372088832 then (impl_bitsOf.l0 k l0 (l0.length : Int) 0 (l0.length : Int) (List.replicate (wrap64 (Int.tdiv (wrap64 ((wrap64 ((l0.length : Int) + 64)) - 1)) 64) : Int).toNat 0)) else (none)) else (none)
theorem impl_bitsOf.mono_l : ∀ k, (∀ y0 y1 y2 y3 y4, LeO (impl_bitsOf.l0 k y0 y1 y2 y3 y4) (impl_bitsOf.l0 (k + 1) y0 y1 y2 y3 y4))
 | 0 => fun _ _ _ _ _ r h => by simp [impl_bitsOf.l0] at h
 | k + 1 => by
  have ih0 := impl_bitsOf.mono_l k
  ·intro y0 y1 y2 y3 y4
   unfold impl_bitsOf.l0
   repeat' first|(with_reducible first|exact ih0 _ _ _ _ _|exact LeO.refl _|exact LeO.none _|refine LeO.ite ?_ ?_|refine LeO.bind ?_ (fun _ => ?_))|exact LeO.none _|refine LeO.ite ?_ ?_|refine LeO.bind ?_ (fun _ => ?_)
theorem impl_bitsOf.mono : ∀ a0 k, LeO (impl_bitsOf.f k a0) (impl_bitsOf.f (k + 1) a0) := by
 intro a0 k
 have ih0 := impl_bitsOf.mono_l k
 unfold impl_bitsOf.f
 repeat' first|(with_reducible first|exact ih0 _ _ _ _ _|exact LeO.refl _|exact LeO.none _|refine LeO.ite ?_ ?_|refine LeO.bind ?_ (fun _ => ?_))|exact LeO.none _|refine LeO.ite ?_ ?_|refine LeO.bind ?_ (fun _ => ?_)
def impl_bitsOf.T5 : Bool × List (List Nat × List Nat) := (true, [([], []), ([0], [0]), ([], []), ([2], [2]), ([1, 3], [1, 3]), ([4], [4]), ([], []), ([6], [6]), ([], []), ([8], [8]), ([7, 9], [7, 9]), ([5, 10], [5, 10]), ([1, 3, 0, 1, 2, 3, 4, 5, 6, 7, 8, 9, 10, 11], [1, 3]), ([12, 11, 0, 1, 2, 3, 4, 5, 6, 7, 8, 9, 10, 11], [11, 12])])
def impl_bitsOf.B5 : List Nat := [0, 1, 0, 4, 15, 31, 0, 64, 0, 256, 960, 2047, 4095, 8191]
theorem impl_bitsOf.tab5 : rtab .any (opsOf Try.f37 5) = impl_bitsOf.T5 := by kernel_rfl
theorem impl_bitsOf.bits5 : waitsOk impl_bitsOf.T5.2 impl_bitsOf.B5 = true := by kernel_rfl
abbrev impl_bitsOf.m0 : Array Bool := #[F,F,F,F,F,F,F,F,F,F,F,F,F,F]
abbrev impl_bitsOf.m1 : Array Bool := #[T,F,F,F,F,F,F,F,F,F,F,F,F,F]
abbrev impl_bitsOf.m2 : Array Bool := #[T,F,T,F,F,F,F,F,F,F,F,F,F,F]
abbrev impl_bitsOf.m3 : Array Bool := #[T,F,T,T,F,F,F,F,F,F,F,F,F,F]
abbrev impl_bitsOf.m4 : Array Bool := #[T,F,T,T,F,F,T,F,F,F,F,F,F,F]
abbrev impl_bitsOf.m5 : Array Bool := #[T,F,T,T,F,F,T,T,F,F,F,F,F,F]
abbrev impl_bitsOf.m6 : Array Bool := #[T,F,T,T,F,F,T,T,T,F,F,F,F,F]
abbrev impl_bitsOf.m7 : Array Bool := #[T,F,T,T,F,F,T,T,T,T,F,F,F,F]
abbrev impl_bitsOf.m8 : Array Bool := #[T,F,T,T,F,F,T,T,T,T,T,F,F,F]
abbrev impl_bitsOf.m9 : Array Bool := #[T,T,T,T,F,F,T,T,T,T,T,F,F,F]
abbrev impl_bitsOf.m10 : Array Bool := #[T,T,T,T,T,F,T,T,T,T,T,F,F,F]
abbrev impl_bitsOf.m11 : Array Bool := #[T,T,T,T,T,T,T,T,T,T,T,F,F,F]
abbrev impl_bitsOf.m12 : Array Bool := #[T,T,T,T,T,T,T,T,T,T,T,T,F,F]
abbrev impl_bitsOf.m13 : Array Bool := #[T,T,T,T,T,T,T,T,T,T,T,T,T,F]
abbrev impl_bitsOf.m14 : Array Bool := #[T,T,T,T,T,T,T,T,T,T,T,T,T,T]
set_option maxHeartbeats 8000000 in
set_option maxRecDepth 100000 in
theorem impl_bitsOf.calls (k : Nat) (A0 : Option Addr) (c0 : Nat) (l0 : List Int) (r1 : Int) (r2 : List Int) (w : World) (hr0 : Kd.C (Kd.int .i64) w A0 l0.length l0) (hc0 : l0.length ≤ c0) (h : impl_bitsOf.f k l0 = some (r1, r2)) :
  Calls Try.prog 37 #[.slice A0 l0.length c0] w fun e w' => ∃ v1_ : Value, e = .returned (.agg #[.int .i64 r1, v1_]) ∧ Kd.R (Kd.int .u64) 78 w' w.heap.size (fun _ => True) v1_ r2 ∧ Below w.heap.size w w' := by
 have hu29:=Try.underlying29
 have HR0:=mk0 hr0
 have HC0:=mk0 hc0
 clear hr0 hc0
 have HB:=mk0 (Below.refl w.heap.size w)
 have H:(if 0 ≤ (wrap64 (Int.tdiv (wrap64 ((wrap64 ((l0.length:Int) + 64)) - 1)) 64)) then (if (wrap64 (Int.tdiv (wrap64 ((wrap64 ((l0.length:Int) + 64)) - 1)) 64):Int).toNat ≤ 35184372088832 then (impl_bitsOf.l0 k l0 (l0.length:Int) 0 (l0.length:Int) (List.replicate (wrap64 (Int.tdiv (wrap64 ((wrap64 ((l0.length:Int) + 64)) - 1)) 64):Int).toNat 0)) else (none)) else (none)) = some (r1,r2):=h
 clear h
 obtain⟨ji2,hji2⟩:∃ j_:Int,(wrap64 (Int.tdiv (wrap64 ((wrap64 ((l0.length:Int) + 64)) - 1)) 64)) = j_:=⟨_,rfl⟩
 replace H:(if 0 ≤ (ji2) then (if (ji2:Int).toNat ≤ 35184372088832 then (impl_bitsOf.l0 k l0 (l0.length:Int) 0 (l0.length:Int) (List.replicate (ji2:Int).toNat 0)) else (none)) else (none)) = some (r1,r2):=by first|(rw [hji2] at H;exact H)|(simp only [hji2] at H ⊢;exact H)
 have hji2w:(IntKind.i64.wrap (Int.tdiv (wrap64 ((wrap64 ((l0.length:Int) + 64)) - 1)) 64)) = ji2:=(i64_w _).trans hji2
 by_cases c3:0 ≤ (ji2)
 rotate_left
 ·rw [if_neg c3] at H
  exact absurd H (by simp)

 rw [if_pos c3] at H
 have c3b0:=eq_true c3
 have c3b1:decide (0 ≤ (ji2)) = true:=decide_eq_true c3
 clear c3
 by_cases c4:(ji2:Int).toNat ≤ 35184372088832
 rotate_left
 ·rw [if_neg c4] at H
  exact absurd H (by simp)
 rw [if_pos c4] at H
 have c4b0:=eq_true c4
 have c4b1:decide ((ji2:Int).toNat ≤ 35184372088832) = true:=decide_eq_true c4
 clear c4
 obtain⟨y264,hy264⟩:∃ y_:List Int,y_ = (List.replicate (ji2:Int).toNat 0):=⟨_,rfl⟩
 replace H:(impl_bitsOf.l0 k l0 (l0.length:Int) 0 (l0.length:Int) y264) = some (r1,r2):=by first|(rw [hy264];with_reducible exact H)|(have H2_:=(Option.bind_some _ _).symm.trans H;rw [hy264];with_reducible exact H2_)|(have H2_:=(Option.bind_some _ _).symm.trans H;with_reducible exact H2_)|with_reducible exact H|(rw [hy264];exact H)|exact H
 have Ny264:=mk0 hy264
 clear hy264
 have H':=mk0 H
 clear H
 go_enter Try.func37,Try.ntmps37
 go_wp2_with (first|((with_reducible refine gate_dst (N:=2) rfl ?_);refine box_event ?hg (N:=2) ?hd (cs:=#[.int .i64 0,.slice none 0 0]) (t:=29) ?hr ?_;(case hd=>rfl);(case hg=>rfl);(case hr=>first|(go_simp;done)|(go_simp;rfl));intro gb263 hg w5 hbox hb;have BK263:=mk0 (hbox);have GW263:=mk0 ((by rw [hg];exact (kZ HB.out):w.heap.size ≤ gb263));have GE263:=mk0 ((by rw [hg];exact (kZ HB.out):w.heap.size ≤ gb263));replace HB:=mk0 (kS HB.out hb);clear hb hbox hg)|((with_reducible refine gate_dst (N:=13) rfl ?_);refine Kd.R_make (Kd.int .u64) _ 78 rfl (N:=13) rfl 27 _ _ rfl ji2 rfl rfl Try.underlying27 (.int .u64 0) 8 info78 rfl (by decide) (by omega) 0 (ok:=fun _=>True) (okp:=fun _=>True) rfl (fun _ hk=>hk) trivial (of_decide_eq_true (by first|(with_reducible assumption)|assumption)) (Nat.le_trans (Nat.mul_le_mul_right _ (of_decide_eq_true (by first|(with_reducible assumption)|assumption):ji2.toNat ≤ 35184372088832)) (by omega)) (Below.refl _ _) (Nat.le_refl _) ?_;intro v265 w6 ho7 hb hg_ hnew_;clear hg_ hnew_;(first|rw [← Ny264.out] at ho7|(simp only [Int.reduceToNat] at ho7;rw [← Ny264.out] at ho7));have HO266:=mk0 (Kd.R_lower ho7 (kZ HB.out));replace BK263:=mk0 (kK BK263.out hb);replace HB:=mk0 (kS HB.out hb);clear hb ho7;obtain⟨Ao8,co8,eo8⟩:=Kd.R_slice HO266.out;subst eo8)|((with_reducible refine gate_dst (N:=3) rfl ?_);refine box_event ?hg (N:=3) ?hd (cs:=#[.int .i64 0,.slice none 0 0]) (t:=29) ?hr ?_;(case hd=>rfl);(case hg=>rfl);(case hr=>first|(go_simp;done)|(go_simp;rfl));intro gb267 hg w9 hbox hb;replace HO266:=mk0 (bR HO266.out hb);have BK267:=mk0 (hbox);have GW267:=mk0 ((by rw [hg];exact (kZ HB.out):w.heap.size ≤ gb267));have GE267:=mk0 ((by rw [hg];exact (kZ HB.out):w.heap.size ≤ gb267));replace HB:=mk0 (kS HB.out hb);have NB263_267:=mk0 ((by rw [hg];exact Nat.ne_of_lt (kL BK263.out):gb263 ≠ gb267));have NB267_263:=mk0 ((by rw [hg];exact Nat.ne_of_gt (kL BK263.out):gb267 ≠ gb263));replace BK263:=mk0 (kK BK263.out hb);clear hb hbox hg;have hnb10:=NB267_263.out;have hnc10:=NB263_267.out;obtain⟨hcz11_0,hcz11_1,hfz11_0,hfz11_1⟩:=cz2 BK267.out))
 go_loopg [17] k (fun kq v17 w'=>∃ (x17_1:Int) (x268001_1:List Int) (u268001:Value),v17 = .int .i64 x17_1 ∧ Aside0 (impl_bitsOf.l0 kq l0 (l0.length:Int) x17_1 (l0.length:Int) x268001_1 = some (r1,r2)) ∧ Aside0 (kq ≤ k) ∧ Aside0 (Kd.R (Kd.int .u64) 78 w' w.heap.size (fun _=>True) u268001 x268001_1) ∧ Aside0 (w'.heap[gb263]? = some (.cells #[.int .i64 0,(.slice none 0 0)] 29 (0,0))) ∧ Aside0 (w'.heap[gb267]? = some (.cells #[.int .i64 (l0.length:Int),u268001] 29 (0,0))) ∧ Aside0 (Below w.heap.size w w'))
 case atStart=>exact⟨(0),(y264),(.slice Ao8 y264.length co8),(by first|rfl|(simp;done)|(simp [*];done)),H',⟨Nat.le_refl _⟩,⟨by (with_reducible repeat (first|apply aR|apply nR|apply dR));exact Kd.R_mono (Kd.R_far (p:=⟨gb267,1,none⟩) (Kd.R_far (p:=⟨gb267,0,none⟩) (Kd.R_types HO266.out BK267.out (by decide)) (fun _ hk=>hk.2) (.int .i64 (l0.length:Int))) (fun _ hk=>hk.2) (.slice Ao8 y264.length co8)) (fun _ hk=>trivial)⟩,⟨by (with_reducible repeat (first|apply nB|apply dB|apply aB));refine blk_far ?_ NB263_267.out _;(with_reducible repeat (first|apply nB|apply dB|apply aB));refine blk_far ?_ NB263_267.out _;(with_reducible repeat (first|apply nB|apply dB|apply aB));exact BK263.out⟩,⟨by (with_reducible repeat (first|apply nB|apply dB|apply aB));refine blk_put (cs:=#[.int .i64 (l0.length:Int),.slice none 0 0]) ?_ 1 _ rfl;(with_reducible repeat (first|apply nB|apply dB|apply aB));refine blk_put (cs:=#[.int .i64 0,.slice none 0 0]) ?_ 0 _ rfl;(with_reducible repeat (first|apply nB|apply dB|apply aB));exact BK267.out⟩,⟨kB HB.out⟩⟩
 case round =>
  clear H'
  try clear c1
  try clear p2
  try clear c3
  try clear c3b0
  try clear c3b1
  try clear c4
  try clear c4b0
  try clear c4b1
  try clear p6
  try clear c10
  try clear hcz11_0
  try clear hcz11_1
  try clear hfz11_0
  try clear hfz11_1
  obtain⟨x17_1,x268001_1,u268001,rfl,HA,HK1,HO_268001,BK263,BK267,HB⟩:=hrel
  cases gk with
  | zero=>exact absurd HA.out (by simp [impl_bitsOf.l0])
  | succ k1 =>
   have H:=HA.out
   clear HA
   simp only [impl_bitsOf.l0] at H
   by_cases c12:x17_1 < (l0.length:Int)
   rotate_left
   ·rw [if_neg c12] at H
    have c12b0:decide (x17_1 < (l0.length:Int)) = false:=decide_eq_false c12
    clear c12
    simp only [Option.some.injEq,Prod.mk.injEq] at H
    obtain⟨rfl,rfl⟩:=H
    have hnb25:=NB267_263.out
    have hnc25:=NB263_267.out
    obtain⟨hcz26_0,hcz26_1,hfz26_0,hfz26_1⟩:=cz2 BK267.out
    obtain⟨hcz27_0,hcz27_1,hfz27_0,hfz27_1⟩:=cz2 BK263.out
    obtain⟨Ao28,co28,eo28⟩:=Kd.R_slice HO_268001.out
    subst eo28
    go_wp2
    refine bodyPost_ret (results_cell_row rfl _ _ gb263 29 #[.int .i64 (l0.length:Int),.slice Ao28 x268001_1.length co28] (0,0) _ rfl (by (with_reducible repeat (first|apply nB|apply dB|apply aB));refine blk_put (cs:=#[.int .i64 (l0.length:Int),.slice none 0 0]) ?_ 1 _ rfl;(with_reducible repeat (first|apply nB|apply dB|apply aB));refine blk_put (cs:=#[.int .i64 0,.slice none 0 0]) ?_ 0 _ rfl;(with_reducible repeat (first|apply nB|apply dB|apply aB));exact BK263.out) Try.underlying29 rfl (by kernel_rfl)) rfl ?_
    exact⟨_,by first|rfl|(simp [errW_none,errW_some] <;> rfl)|(simp only [← hji2];first|rfl|(simp [errW_none,errW_some] <;> rfl))|(simp [*,errW_none,errW_some] <;> rfl),by (with_reducible repeat (first|apply aR|apply nR|apply dR));exact Kd.R_mono (Kd.R_far (p:=⟨gb263,1,none⟩) (Kd.R_far (p:=⟨gb263,0,none⟩) (Kd.R_types HO_268001.out BK263.out (by decide)) (fun _ hk=>hk.2) (.int .i64 (l0.length:Int))) (fun _ hk=>hk.2) (.slice Ao28 x268001_1.length co28)) (fun _ hk=>trivial),kB HB.out⟩
   rw [if_pos c12] at H
   have c12b0:decide (x17_1 < (l0.length:Int)) = true:=decide_eq_true c12
   clear c12
   by_cases c13:0 ≤ x17_1
   rotate_left
   ·rw [if_neg c13] at H
    exact absurd H (by simp)
   rw [if_pos c13] at H
   have c13b0:decide (0 ≤ x17_1) = true:=decide_eq_true c13
   clear c13
   by_cases c14:x17_1 < (l0.length:Int)
   rotate_left
   ·rw [if_neg c14] at H
    exact absurd H (by simp)
   rw [if_pos c14] at H
   have c14b0:decide (x17_1 < (l0.length:Int)) = true:=decide_eq_true c14
   clear c14
   obtain⟨ji15,hji15⟩:∃ j_:Int,(wrap64 (Int.tdiv x17_1 64)) = j_:=⟨_,rfl⟩
   replace H:(if 0 ≤ (ji15) then (if (ji15) < (x268001_1.length:Int) then (if 0 ≤ (Int.tmod x17_1 64) then (impl_bitsOf.l0 k1 l0 (l0.length:Int) (wrap64 (x17_1 + 1)) (l0.length:Int) (x268001_1.set ((ji15):Int).toNat (Go.bits .or .u64 (rd x268001_1 (ji15)) (shl .u64 (IntKind.u64.wrap (rd l0 x17_1)) (Int.tmod x17_1 64))))) else (none)) else (none)) else (none)) = some (r1,r2):=by first|(rw [hji15] at H;exact H)|(simp only [hji15] at H ⊢;exact H)
   have hji15w:(IntKind.i64.wrap (Int.tdiv x17_1 64)) = ji15:=(i64_w _).trans hji15
   by_cases c16:0 ≤ (ji15)
   rotate_left
   ·rw [if_neg c16] at H
    exact absurd H (by simp)
   rw [if_pos c16] at H
   have c16b0:decide (0 ≤ (ji15)) = true:=decide_eq_true c16
   clear c16
   by_cases c17:(ji15) < (x268001_1.length:Int)
   rotate_left
   ·rw [if_neg c17] at H
    exact absurd H (by simp)
   rw [if_pos c17] at H
   have c17b0:decide ((ji15) < (x268001_1.length:Int)) = true:=decide_eq_true c17
   clear c17
   obtain⟨ji18,hji18⟩:∃ j_:Int,(Int.tmod x17_1 64) = j_:=⟨_,rfl⟩
   replace H:(if 0 ≤ (ji18) then (impl_bitsOf.l0 k1 l0 (l0.length:Int) (wrap64 (x17_1 + 1)) (l0.length:Int) (x268001_1.set ((ji15):Int).toNat (Go.bits .or .u64 (rd x268001_1 (ji15)) (shl .u64 (IntKind.u64.wrap (rd l0 x17_1)) (ji18))))) else (none)) = some (r1,r2):=by first|(rw [hji18] at H;exact H)|(simp only [hji18] at H ⊢;exact H)
   by_cases c19:0 ≤ (ji18)
   rotate_left
   ·rw [if_neg c19] at H
    exact absurd H (by simp)
   rw [if_pos c19] at H
   have c19b0:=eq_true c19
   have c19b1:decide (0 ≤ (ji18)) = true:=decide_eq_true c19
   clear c19
   obtain⟨ji20,hji20⟩:∃ j_:Int,(shl .u64 (IntKind.u64.wrap (rd l0 x17_1)) (ji18)) = j_:=⟨_,rfl⟩
   replace H:(impl_bitsOf.l0 k1 l0 (l0.length:Int) (wrap64 (x17_1 + 1)) (l0.length:Int) (x268001_1.set ((ji15):Int).toNat (Go.bits .or .u64 (rd x268001_1 (ji15)) (ji20)))) = some (r1,r2):=by first|(rw [hji20] at H;exact H)|(simp only [hji20] at H ⊢;exact H)
   have hji20_:(IntKind.u64.wrap ((IntKind.u64.wrap (rd l0 x17_1)) * 2 ^ min (ji18).toNat 64)) = ji20:=hji20
   have hji20z:(ji18) ≤ 64 → (IntKind.u64.wrap ((IntKind.u64.wrap (rd l0 x17_1)) * 2 ^ (ji18).toNat)) = ji20:=shl_small hji20
   obtain⟨y270,hy270⟩:∃ y_:List Int,y_ = (x268001_1.set ((ji15):Int).toNat (Go.bits .or .u64 (rd x268001_1 (ji15)) (ji20))):=⟨_,rfl⟩
   replace H:(impl_bitsOf.l0 k1 l0 (l0.length:Int) (wrap64 (x17_1 + 1)) (l0.length:Int) y270) = some (r1,r2):=by first|(rw [hy270];with_reducible exact H)|(have H2_:=(Option.bind_some _ _).symm.trans H;rw [hy270];with_reducible exact H2_)|(have H2_:=(Option.bind_some _ _).symm.trans H;with_reducible exact H2_)|with_reducible exact H|(rw [hy270];exact H)|exact H
   have Ny270:=mk0 hy270
   clear hy270
   have H':=mk0 H
   clear H
   have p268:0 ≤ (x17_1:Int):=of_decide_eq_true (by first|(with_reducible assumption)|assumption)
   have q268:x17_1 < (l0.length:Int):=of_decide_eq_true (by first|(with_reducible assumption)|assumption)
   obtain⟨ad268,e268,hx268_0⟩:=Kd.at_int HR0.out x17_1 p268 q268
   cases e268
   replace hx268_0:=(HB.out.cell (World.block_lt_of_cell? w _ hx268_0)).trans hx268_0
   replace p268:=eq_true p268
   replace q268:=eq_true q268
   try go_wp2
   replace HO_268001:=mk0 (dR HO_268001.out)
   replace BK263:=mk0 (dB BK263.out)
   replace BK267:=mk0 (dB BK267.out)
   replace HB:=mk0 (dZ HB.out)
   obtain⟨Ao23,co23,eo23⟩:=Kd.R_slice HO_268001.out
   (first|subst eo23|(injection eo23 with f1_ f2_ f3_;have f4_:=f1_.symm;have f5_:=f3_.symm;clear f1_ f2_ f3_;subst f4_;subst f5_))
   have p269:0 ≤ ((ji15):Int):=of_decide_eq_true (by first|(with_reducible assumption)|assumption)
   have q269:(ji15) < (x268001_1.length:Int):=of_decide_eq_true (by first|(with_reducible assumption)|assumption)
   obtain⟨ad269,e269,hx269_0⟩:=Kd.at_int (Kd.R_reads' HO_268001.out).2.2 (ji15) p269 q269
   cases e269
   replace p269:=eq_true p269
   replace q269:=eq_true q269
   have p21:0 ≤ ((ji15):Int):=of_decide_eq_true (by first|(with_reducible assumption)|assumption)
   have q21:((ji15):Int) < ((x268001_1.length:Int):Int):=of_decide_eq_true (by first|(with_reducible assumption)|assumption)
   obtain⟨go21,co21,eo21,gb21,gl21,cl21,HG21⟩:=Kd.R_form HO_268001.out (by omega)
   (first|cases eo21|(injection eo21 with ea_ en_ ec_;(first|subst ea_|(injection ea_ with ea_;subst ea_));subst ec_;clear en_))
   have GB21:=mk0 gb21
   have GG21:=mk0 HG21
   clear gb21 gl21 HG21
   (first|simp only [add_plain] at hx269_0|skip)
   obtain⟨hx21_0,hf21_0⟩:=Kd.R_celln 0 HO_268001.out ((ji15):Int) p21 q21
   replace p21:=eq_true p21
   replace q21:=eq_true q21
   have HP24:=Kd.R_putn HO_268001.out ((ji15):Int) (Go.bits .or .u64 (rd x268001_1 (ji15)) (ji20))
   rw [← Ny270.out] at HP24
   have HQ24:=mk0 HP24
   clear HP24
   refine start_ (n:=14) (S:=fun w'=>w'.cell? ⟨gb267,0,none⟩ = some (.int .i64 (l0.length:Int)) ∧ w'.cell? ⟨gb267,1,none⟩ = some (.slice (some ⟨go21,0,none⟩) x268001_1.length co23) ∧ w'.cell? ⟨go21,((ji15)).toNat,none⟩ = some (.int .u64 (rd x268001_1 (ji15)))) (ds:=[13]) impl_bitsOf.m0 (by kernel_rfl) rfl rfl ⟨(blk_cell BK267.out 0).trans rfl,(blk_cell BK267.out 1).trans rfl,hx269_0⟩ (fun hHeld=>?_);refine with_tabW impl_bitsOf.tab5 impl_bitsOf.bits5 (fun HT_ HW_=>?_)
   generalize wr.drew = w22 at HO_268001 BK263 BK267 HB GG21 HQ24 hf21_0 hx21_0 hx269_0 hHeld ⊢
   refine pure_ (i:=0) (N:=some 22) (v:=?_) (a':=?_) impl_bitsOf.m1 rfl rfl (any_of HT_.out (by kernel_rfl)) (fun _ _ _ h=>h) (Or.inl ⟨by rfl,?_⟩) ?_ ?_
   rotate_left
   ·intro w'
    go_simp
    with_reducible rfl
   rotate_left
   ·simp only [Act.put,sA,sO,sS,i64_w,i32_w]
    rfl
   refine pure_ (i:=2) (N:=some 24) (v:=?_) (a':=?_) impl_bitsOf.m2 rfl rfl (any_of HT_.out (by kernel_rfl)) (fun _ _ _ h=>h) (Or.inl ⟨by rfl,?_⟩) ?_ ?_
   rotate_left
   ·intro w'
    go_simp
    with_reducible rfl
   rotate_left
   ·simp only [Act.put,sA,sO,sS,i64_w,i32_w]
    rfl
   refine pure_ (i:=3) (N:=some 25) (v:=?_) (a':=?_) impl_bitsOf.m3 rfl rfl (any_of HT_.out (by kernel_rfl)) (fun _ _ _ h=>h) (Or.inl ⟨by rfl,?_⟩) ?_ ?_
   rotate_left
   ·intro w'
    go_simp
    with_reducible rfl
   rotate_left
   ·simp only [Act.put,sA,sO,sS,i64_w,i32_w]
    rfl
   refine pure_ (i:=6) (N:=some 28) (v:=?_) (a':=?_) impl_bitsOf.m4 rfl rfl (any_of HT_.out (by kernel_rfl)) (fun _ _ _ h=>h) (Or.inl ⟨by rfl,?_⟩) ?_ ?_
   rotate_left
   ·intro w'
    go_simp
    with_reducible rfl
   rotate_left
   ·simp only [Act.put,sA,sO,sS,i64_w,i32_w]
    rfl
   refine pure_ (i:=7) (N:=some 29) (v:=?_) (a':=?_) impl_bitsOf.m5 rfl rfl (any_of HT_.out (by kernel_rfl)) (fun _ _ _ h=>h) (Or.inl ⟨by rfl,?_⟩) ?_ ?_
   rotate_left
   ·intro w'
    go_simp
    with_reducible rfl
   rotate_left
   ·simp only [Act.put,sA,sO,sS,i64_w,i32_w]
    rfl
   refine pure_ (i:=8) (N:=some 30) (v:=?_) (a':=?_) impl_bitsOf.m6 rfl rfl (any_of HT_.out (by kernel_rfl)) (fun _ _ _ h=>h) (Or.inl ⟨by rfl,?_⟩) ?_ ?_
   rotate_left
   ·intro w'
    go_simp
    with_reducible rfl
   rotate_left
   ·simp only [Act.put,sA,sO,sS,i64_w,i32_w]
    rfl
   refine pure_ (i:=9) (N:=some 31) (v:=?_) (a':=?_) impl_bitsOf.m7 rfl rfl (any_of HT_.out (by kernel_rfl)) (fun _ _ _ h=>h) (Or.inl ⟨by rfl,?_⟩) ?_ ?_
   rotate_left
   ·intro w'
    go_simp
    with_reducible rfl
   rotate_left
   ·simp only [Act.put,sA,sO,sS,i64_w,i32_w]
    rfl
   refine pure_ (i:=10) (N:=some 32) (v:=?_) (a':=?_) impl_bitsOf.m8 rfl rfl (any_of HT_.out (by kernel_rfl)) (fun _ _ _ h=>h) (Or.inl ⟨by rfl,?_⟩) ?_ ?_
   rotate_left
   ·intro w'
    go_simp
    with_reducible rfl
   rotate_left
   ·simp only [Act.put,sA,sO,sS,i64_w,i32_w]
    rfl
   refine take_ (i:=1) (N:=some 23) (v:=?_) (a':=?_) impl_bitsOf.m9 rfl rfl (take_ofW HT_.out HW_.out (by kernel_rfl)) (fun _ _ _ h=>h) (Or.inl ⟨by rfl,?_⟩) hHeld ?_ ?_
   rotate_left
   ·rintro w' ⟨s0,s1,s2⟩
    go_simp
    with_reducible rfl
   rotate_left
   ·simp only [Act.put,sA,sO,sS,i64_w,i32_w]
    rfl
   refine pure_ (i:=4) (N:=some 26) (v:=?_) (a':=?_) impl_bitsOf.m10 rfl rfl (any_of HT_.out (by kernel_rfl)) (fun _ _ _ h=>h) (Or.inl ⟨by rfl,?_⟩) ?_ ?_
   rotate_left
   ·intro w'
    go_simp
    with_reducible rfl
   rotate_left
   ·simp only [Act.put,sA,sO,sS,i64_w,i32_w]
    rfl
   refine take_ (i:=5) (N:=some 27) (v:=?_) (a':=?_) impl_bitsOf.m11 rfl rfl (take_ofW HT_.out HW_.out (by kernel_rfl)) (fun _ _ _ h=>h) (Or.inl ⟨by rfl,?_⟩) hHeld ?_ ?_
   rotate_left
   ·rintro w' ⟨s0,s1,s2⟩
    go_simp
    with_reducible rfl
   rotate_left
   ·simp only [Act.put,sA,sO,sS,i64_w,i32_w]
    rfl
   refine pure_ (i:=11) (N:=some 33) (v:=?_) (a':=?_) impl_bitsOf.m12 rfl rfl (any_of HT_.out (by kernel_rfl)) (fun _ _ _ h=>h) (Or.inl ⟨by rfl,?_⟩) ?_ ?_
   rotate_left
   ·intro w'
    go_simp
    with_reducible rfl
   rotate_left
   ·simp only [Act.put,sA,sO,sS,i64_w,i32_w]
    rfl
   refine pure_ (i:=12) (N:=some 34) (v:=?_) (a':=?_) impl_bitsOf.m13 rfl rfl (any_of HT_.out (by kernel_rfl)) (fun _ _ _ h=>h) (Or.inl ⟨by rfl,?_⟩) ?_ ?_
   rotate_left
   ·intro w'
    go_simp
    with_reducible rfl
   rotate_left
   ·simp only [Act.put,sA,sO,sS,i64_w,i32_w]
    rfl
   refine last_ (i:=13) (N:=none) impl_bitsOf.m14 rfl rfl (one_of HT_.out (by kernel_rfl)) (by decide) (fun K hK=>?_)
   refine skip_ (w1:=?_) (by rfl) rfl ?_ ?_
   rotate_left
   ·go_simp
    rfl
   refine hK.out _ _ ?_
   clear hK K
   refine done_ (done_of HT_.out (by kernel_rfl)) ?_
   try go_wp2
   go_roundg k1
   case measure=>have:=HK1.out;omega
   case rel=>exact⟨(wrap64 (x17_1 + 1)),(y270),(.slice (some ⟨go21,0,none⟩) x268001_1.length co23),(by first|rfl|(simp;done)|(simp [*];done)),H',⟨by have:=HK1.out;omega⟩,⟨rR HQ24.out⟩,⟨by (with_reducible repeat (first|apply nB|apply dB|apply aB));refine blk_far ?_ (by have h_:=Kd.R_ne HO_268001.out BK263.out (by decide);intro e_;exact h_ (by rw [e_];rfl)) _;(with_reducible repeat (first|apply nB|apply dB|apply aB));exact BK263.out⟩,⟨by (with_reducible repeat (first|apply nB|apply dB|apply aB));refine blk_far ?_ (by have h_:=Kd.R_ne HO_268001.out BK267.out (by decide);intro e_;exact h_ (by rw [e_];rfl)) _;(with_reducible repeat (first|apply nB|apply dB|apply aB));exact BK267.out⟩,⟨kB HB.out⟩⟩
/-! ### impl_digits: function 59 -/
def impl_digits.l0 : Nat → Int → List Int → Int → Int → Option (List Int)
 | 0, _, _, _, _ => none
 | k + 1, x0, x5, x6, x7 => if x7 < x6 then (if x5.length < 17592186044416 then (impl_digits.l0 k (x0 / 2) (x5 ++ [Go.bits .and .i64 x0 1]) x6 (wrap64 (x7 + 1))) else (none)) else (some x5)
def impl_digits.f (k : Nat) (a0 : Int) (a1 : Int) : Option (List Int) := impl_digits.l0 k a0 ([] : List Int) a1 0
theorem impl_digits.mono_l : ∀ k, (∀ y0 y1 y2 y3, LeO (impl_digits.l0 k y0 y1 y2 y3) (impl_digits.l0 (k + 1) y0 y1 y2 y3))
 | 0 => fun _ _ _ _ r h => by simp [impl_digits.l0] at h
 | k + 1 => by
  have ih0 := impl_digits.mono_l k
  ·intro y0 y1 y2 y3
   unfold impl_digits.l0
   repeat' first|(with_reducible first|exact ih0 _ _ _ _|exact LeO.refl _|exact LeO.none _|refine LeO.ite ?_ ?_|refine LeO.bind ?_ (fun _ => ?_))|exact LeO.none _|refine LeO.ite ?_ ?_|refine LeO.bind ?_ (fun _ => ?_)
theorem impl_digits.mono : ∀ a0 a1 k, LeO (impl_digits.f k a0 a1) (impl_digits.f (k + 1) a0 a1) := by
 intro a0 a1 k
 have ih0 := impl_digits.mono_l k
 unfold impl_digits.f
 repeat' first|(with_reducible first|exact ih0 _ _ _ _|exact LeO.refl _|exact LeO.none _|refine LeO.ite ?_ ?_|refine LeO.bind ?_ (fun _ => ?_))|exact LeO.none _|refine LeO.ite ?_ ?_|refine LeO.bind ?_ (fun _ => ?_)
set_option maxHeartbeats 8000000 in
set_option maxRecDepth 100000 in
theorem impl_digits.calls (k : Nat) (a0 : Int) (a1 : Int) (r : List Int) (w : World) (h : impl_digits.f k a0 a1 = some r) :
  Calls Try.prog 59 #[.int .i64 a0, .int .i64 a1] w fun e w' => ∃ v0_ : Value, e = .returned (v0_) ∧ Kd.R (Kd.int .i64) 3 w' w.heap.size (fun _ => True) v0_ r ∧ Below w.heap.size w w' := by
 have HB:=mk0 (Below.refl w.heap.size w)
 have H:(impl_digits.l0 k a0 ([]:List Int) a1 0) = some r:=h
 clear h
 have H':=mk0 H
 clear H
 go_enter Try.func59,Try.ntmps59
 go_wp2
 go_loopg [0,5,7] k (fun kq v0 v5 v7 w'=>∃ (x0_1:Int) (x5_1:List Int) (x7_1:Int),v0 = .int .i64 x0_1 ∧ v7 = .int .i64 x7_1 ∧ Aside0 (impl_digits.l0 kq x0_1 x5_1 a1 x7_1 = some r) ∧ Aside0 (kq ≤ k) ∧ Aside0 (Kd.R (Kd.int .i64) 3 w' w.heap.size (fun _=>True) v5 x5_1) ∧ Aside0 (Below w.heap.size w w'))
 case atStart=>exact⟨(a0),(([]:List Int)),(0),(by first|rfl|(simp;done)|(simp [*];done)),(by first|rfl|(simp;done)|(simp [*];done)),H',⟨Nat.le_refl _⟩,⟨by first|exact Kd.R_nil _ _ _ _ _|exact Kd.N_nil _ _ _ _ _|exact Kd.V_nil _ _ _ _ _|exact Kd.Q_nil _ _ _ _ _|exact Kd.S_nil _ _ _ _ _⟩,⟨kB HB.out⟩⟩
 case round =>
  clear H'
  try clear p2
  obtain⟨x0_1,x5_1,x7_1,rfl,rfl,HA,HK1,HO_5,HB⟩:=hrel
  cases gk with
  | zero=>exact absurd HA.out (by simp [impl_digits.l0])
  | succ k1 =>
   have H:=HA.out
   clear HA
   simp only [impl_digits.l0] at H
   by_cases c3:x7_1 < a1
   ·rw [if_pos c3] at H
    have c3b0:decide (x7_1 < a1) = true:=decide_eq_true c3
    clear c3
    by_cases c4:x5_1.length < 17592186044416
    ·rw [if_pos c4] at H
     have LMc4:=mk0 c4
     clear c4
     obtain⟨y271,hy271⟩:∃ y_:List Int,y_ = (x5_1 ++ [Go.bits .and .i64 x0_1 1]):=⟨_,rfl⟩
     replace H:(impl_digits.l0 k1 (x0_1 / 2) y271 a1 (wrap64 (x7_1 + 1))) = some r:=by first|(rw [hy271];with_reducible exact H)|(have H2_:=(Option.bind_some _ _).symm.trans H;rw [hy271];with_reducible exact H2_)|(have H2_:=(Option.bind_some _ _).symm.trans H;with_reducible exact H2_)|with_reducible exact H|(rw [hy271];exact H)|exact H
     have Ny271:=mk0 hy271
     clear hy271
     have H':=mk0 H
     clear H
     go_wp2_with (first|((with_reducible refine gate_builtin (b:=.append) (xs:=#[.tmp 9,.tmp 12]) rfl ?_);at_builtin;refine Kd.R_append (Kd.int .i64) (w0:=w) w.heap.size rfl (.tmp 9) (.tmp 12) 24 3 (.int .i64 0) 8 rfl Try.underlying24 info3 rfl (by decide) (by omega) u5 x5_1 (Go.bits .and .i64 x0_1 1) [.int .i64 (Go.bits .and .i64 x0_1 1)] (fun _=>True) (fun _=>False) rfl rfl ?aP (fun _ hk=>hk.elim) ?aF ?aO ?aB ?aS ?aL ?_;(case aP=>exact rfl);(case aB=>exact (kB HB.out));(case aF=>exact (fun _ _=>trivial));(case aO=>exact (rR HO_5.out));(case aS=>exact (kZ HB.out));(case aL=>have:=LMc4.out;omega);intro v272 w5 ho hb hg hat;rw [← Ny271.out] at ho;replace HB:=mk0 (hb);have HO273:=mk0 (ho);clear HO_5 ho hb hg hat))
     go_roundg k1
     case measure=>have:=HK1.out;omega
     case rel=>exact⟨(x0_1 / 2),(y271),(wrap64 (x7_1 + 1)),(by first|rfl|(simp;done)|(simp [*];done)),(by first|rfl|(simp;done)|(simp [*];done)),H',⟨by have:=HK1.out;omega⟩,⟨rR HO273.out⟩,⟨kB HB.out⟩⟩
    ·rw [if_neg c4] at H
     exact absurd H (by simp)
   ·rw [if_neg c3] at H
    have c3b0:decide (x7_1 < a1) = false:=decide_eq_false c3
    clear c3
    obtain rfl:=Option.some.inj H
    go_wp2
    go_ret
    exact⟨_,by first|rfl|(simp [errW_none,errW_some] <;> rfl)|(simp [*,errW_none,errW_some] <;> rfl),rR HO_5.out,kB HB.out⟩


/-! ### impl_areAll_58: areAll at the literal 58, which captures a number -/
def impl_areAll_58.f (l0 : List Int) (a1 : Int) : Option (Bool) := if l0.length ≤ maxLen ∧ Fv.ok58 a1 then some (l0.all (Fv.p58 a1)) else none
theorem impl_areAll_58.calls {g : Nat} (A0 : Option Addr) (c0 : Nat) (l0 : List Int) (a1 : Int) (r : Bool) (w : World) (hr0 : Kd.C (Kd.int .i64) w A0 l0.length l0) (hc0 : l0.length ≤ c0) (hb : w.heap[g]? = some (.cells #[.int .i64 a1] 3)) (h : impl_areAll_58.f l0 a1 = some r) :
    Calls Try.prog 33 #[.slice A0 l0.length c0, .func (.func 58) #[] #[.pointer (some ⟨g, 0, none⟩)]] w fun e w' => e = .returned (.bool r) ∧ Below w.heap.size w w' := by
  unfold impl_areAll_58.f at h
  by_cases hm : l0.length ≤ maxLen ∧ Fv.ok58 a1
  · rw [if_pos hm] at h
    obtain rfl := Option.some.inj h
    exact Fv.areAll 58 _ _ (enters_of Try.func58 (by kernel_rfl) rfl) A0 c0 l0 w hr0 hc0 hm.1 (Fv.tells58 g a1 w hb hm.2)
  · rw [if_neg hm] at h
    exact absurd h (by simp)

/-! ### impl_PackOf: function 36 -/
mutual
def impl_PackOf.j0 : Nat → List Int → Bool → Int → Option (Int × Int × Int × List Int × Bool)
 | 0, _, _, _ => none
 | k + 1, x0, x29, x275000 => if x29 = true then (some (0, 0, 0, ([] : List Int), false)) else (impl_PackOf.l0 k x0 ([] : List Int) x0 (x0.length : Int) 0 x275000)
def impl_PackOf.l0 : Nat → List Int → List Int → List Int → Int → Int → Int → Option (Int × Int × Int × List Int × Bool)
 | 0, _, _, _, _, _, _ => none
 | k + 1, x0, x6, x31, x32, x33, x275000 => if x33 < x32 then (if 0 ≤ x33 then (if x33 < (x31.length : Int) then ((impl_digits.f k (rd x31 x33) x275000).bind fun t279 => (if x6.length + t279.length < 17592186044416 then (impl_PackOf.l0 k x0 (x6 ++ t279) x31 x32 (wrap64 (x33 + 1)) x275000) else (none))) else (none)) else (none)) else ((impl_bitsOf.f k x6).bind fun bt285 => (some (x275000, (x0.length : Int), bt285.1, bt285.2, true)))
end
def impl_PackOf.f (k : Nat) (l0 : List Int) (a1 : Int) : Option (Int × Int × Int × List Int × Bool) := (impl_within.f a1 0 32).bind fun t276 => (if t276 = true then (if (l0.length : Int) > 5000 then (impl_PackOf.j0 k l0 true a1) else (if (wrap64 ((l0.length : Int) * a1)) > 5000 then (impl_PackOf.j0 k l0 true a1) else ((impl_areAll_58.f l0 a1).bind fun t277 => (impl_PackOf.j0 k l0 (!t277) a1)))) else (impl_PackOf.j0 k l0 true a1))
theorem impl_PackOf.mono_l : ∀ k, (∀ y0 y1 y2, LeO (impl_PackOf.j0 k y0 y1 y2) (impl_PackOf.j0 (k + 1) y0 y1 y2)) ∧ (∀ y0 y1 y2 y3 y4 y5, LeO (impl_PackOf.l0 k y0 y1 y2 y3 y4 y5) (impl_PackOf.l0 (k + 1) y0 y1 y2 y3 y4 y5))
 | 0 => ⟨fun _ _ _ r h => by simp [impl_PackOf.j0] at h, fun _ _ _ _ _ _ r h => by simp [impl_PackOf.l0] at h⟩
 | k + 1 => by
  obtain ⟨ih0, ih1⟩ := impl_PackOf.mono_l k
  refine ⟨?_, ?_⟩
  ·intro y0 y1 y2
   unfold impl_PackOf.j0
   repeat' first|(with_reducible first|exact ih0 _ _ _|exact ih1 _ _ _ _ _ _|exact impl_bitsOf.mono _ _|exact impl_digits.mono _ _ _|exact LeO.refl _|exact LeO.none _|refine LeO.ite ?_ ?_|refine LeO.bind ?_ (fun _ => ?_))|exact LeO.none _|refine LeO.ite ?_ ?_|refine LeO.bind ?_ (fun _ => ?_)
  ·intro y0 y1 y2 y3 y4 y5
   unfold impl_PackOf.l0
   repeat' first|(with_reducible first|exact ih0 _ _ _|exact ih1 _ _ _ _ _ _|exact impl_bitsOf.mono _ _|exact impl_digits.mono _ _ _|exact LeO.refl _|exact LeO.none _|refine LeO.ite ?_ ?_|refine LeO.bind ?_ (fun _ => ?_))|exact LeO.none _|refine LeO.ite ?_ ?_|refine LeO.bind ?_ (fun _ => ?_)
theorem impl_PackOf.mono : ∀ a0 a1 k, LeO (impl_PackOf.f k a0 a1) (impl_PackOf.f (k + 1) a0 a1) := by
 intro a0 a1 k
 obtain ⟨ih0, ih1⟩ := impl_PackOf.mono_l k
 unfold impl_PackOf.f
 repeat' first|(with_reducible first|exact ih0 _ _ _|exact ih1 _ _ _ _ _ _|exact impl_bitsOf.mono _ _|exact impl_digits.mono _ _ _|exact LeO.refl _|exact LeO.none _|refine LeO.ite ?_ ?_|refine LeO.bind ?_ (fun _ => ?_))|exact LeO.none _|refine LeO.ite ?_ ?_|refine LeO.bind ?_ (fun _ => ?_)
def impl_PackOf.T9 : Bool × List (List Nat × List Nat) := (true, [([], []), ([], []), ([1], [1]), ([], []), ([3], [3]), ([0, 2, 4], [0, 2, 4]), ([5, 4, 0, 1, 2, 3, 4, 5], [5]), ([6, 0, 1, 2, 3, 4, 5, 6], [])])
def impl_PackOf.B9 : List Nat := [0, 0, 2, 0, 8, 31, 63, 127]
theorem impl_PackOf.tab9 : rtab .any (opsOf Try.f36 9) = impl_PackOf.T9 := by kernel_rfl
theorem impl_PackOf.bits9 : waitsOk impl_PackOf.T9.2 impl_PackOf.B9 = true := by kernel_rfl
abbrev impl_PackOf.m0 : Array Bool := #[F,F,F,F,F,F,F,F]
abbrev impl_PackOf.m1 : Array Bool := #[F,T,F,F,F,F,F,F]
abbrev impl_PackOf.m2 : Array Bool := #[F,T,T,F,F,F,F,F]
abbrev impl_PackOf.m3 : Array Bool := #[F,T,T,T,F,F,F,F]
abbrev impl_PackOf.m4 : Array Bool := #[T,T,T,T,F,F,F,F]
abbrev impl_PackOf.m5 : Array Bool := #[T,T,T,T,T,F,F,F]
set_option maxHeartbeats 8000000 in
set_option maxRecDepth 100000 in
theorem impl_PackOf.calls (k : Nat) (A0 : Option Addr) (c0 : Nat) (l0 : List Int) (a1 : Int) (r1 : Int) (r2 : Int) (r3 : Int) (r4 : List Int) (r5 : Bool) (w : World) (hr0 : Kd.C (Kd.int .i64) w A0 l0.length l0) (hc0 : l0.length ≤ c0) (h : impl_PackOf.f k l0 a1 = some (r1, r2, r3, r4, r5)) :
  Calls Try.prog 36 #[.slice A0 l0.length c0, .int .i64 a1] w fun e w' => ∃ v3_ : Value, e = .returned (.tuple #[.agg #[.int .i64 r1, .int .i64 r2, .int .i64 r3, v3_], .bool r5]) ∧ Kd.R (Kd.int .u64) 78 w' w.heap.size (fun _ => True) v3_ r4 ∧ Below w.heap.size w w' := by
 have hu31:=Try.underlying31
 have HR0:=mk0 hr0
 have HC0:=mk0 hc0
 clear hr0 hc0
 have HB:=mk0 (Below.refl w.heap.size w)
 have H:((impl_within.f a1 0 32).bind fun t276=>(if t276 = true then (if (l0.length:Int) > 5000 then (impl_PackOf.j0 k l0 true a1) else (if (wrap64 ((l0.length:Int) * a1)) > 5000 then (impl_PackOf.j0 k l0 true a1) else ((impl_areAll_58.f l0 a1).bind fun t277=>(impl_PackOf.j0 k l0 (!t277) a1)))) else (impl_PackOf.j0 k l0 true a1))) = some (r1,r2,r3,r4,r5):=h
 clear h
 have HC3:=mk0 H
 clear H
 go_enter Try.func36,Try.ntmps36
 go_upto_region 1 with (first|((with_reducible refine gate_dst (N:=3) rfl ?_);(try (refine gate_guard (by rfl) ?_;dsimp only));refine box_event ?hg (N:=3) ?hd (cs:=#[.int .i64 a1]) (t:=3) ?hr ?_;(case hd=>rfl);(case hg=>rfl);(case hr=>first|(go_simp;done)|(go_simp;rfl));intro gb274 hg w4 hbox hb;have BK274:=mk0 (hbox);have GW274:=mk0 ((by rw [hg];exact (kZ HB.out):w.heap.size ≤ gb274));have GE274:=mk0 ((by rw [hg];exact (kZ HB.out):w.heap.size ≤ gb274));replace HB:=mk0 (kS HB.out hb);clear hb hbox hg)|((with_reducible refine gate_dst (N:=4) rfl ?_);(try (refine gate_guard (by rfl) ?_;dsimp only));refine box_event ?hg (N:=4) ?hd (cs:=#[.int .i64 0,.int .i64 0,.int .i64 0,.slice none 0 0]) (t:=31) ?hr ?_;(case hd=>rfl);(case hg=>rfl);(case hr=>first|(go_simp;done)|(go_simp;rfl));intro gb275 hg w5 hbox hb;have BK275:=mk0 (hbox);have GW275:=mk0 ((by rw [hg];exact (kZ HB.out):w.heap.size ≤ gb275));have GE275:=mk0 ((by rw [hg];exact (kZ HB.out):w.heap.size ≤ gb275));replace HB:=mk0 (kS HB.out hb);have NB274_275:=mk0 ((by rw [hg];exact Nat.ne_of_lt (kL BK274.out):gb274 ≠ gb275));have NB275_274:=mk0 ((by rw [hg];exact Nat.ne_of_gt (kL BK274.out):gb275 ≠ gb274));replace BK274:=mk0 (kK BK274.out hb);clear hb hbox hg))
 (try simp only [Act.put,sA,sO,sS])
 go_cut [29] (fun v29 wc=>∃ (kq:Nat) (x29_2:Bool),v29 = .bool x29_2 ∧ Aside0 (impl_PackOf.j0 kq l0 x29_2 a1 = some (r1,r2,r3,r4,r5)) ∧ Aside0 (kq ≤ k) ∧ Aside0 (wc.heap[gb274]? = some (.cells #[.int .i64 a1] 3 (0,0))) ∧ Aside0 (wc.heap[gb275]? = some (.cells #[.int .i64 0,.int .i64 0,.int .i64 0,(.slice none 0 0)] 31 (0,0))) ∧ Aside0 (Below w.heap.size w wc))
 case first =>
  have H:=HC3.out
  clear HC3
  replace H:=Option.bind_eq_some_iff.mp H
  obtain⟨t276,A60,H⟩:=H
  replace H:(if t276 = true then (if (l0.length:Int) > 5000 then (impl_PackOf.j0 k l0 true a1) else (if (wrap64 ((l0.length:Int) * a1)) > 5000 then (impl_PackOf.j0 k l0 true a1) else ((impl_areAll_58.f l0 a1).bind fun t277=>(impl_PackOf.j0 k l0 (!t277) a1)))) else (impl_PackOf.j0 k l0 true a1)) = some (r1,r2,r3,r4,r5):=H
  have A6:=mk0 A60
  clear A60
  by_cases c7:t276 = true
  rotate_left
  ·replace c7:=Bool.eq_false_iff.mpr c7
   subst c7
   have H1:(impl_PackOf.j0 k l0 true a1) = some (r1,r2,r3,r4,r5):=by rw [if_neg (show ¬ (false = true) by decide)] at H;exact H
   clear H
   have H:=H1
   clear H1
   have H':=mk0 H
   clear H
   have hnb18:=NB274_275.out
   have hnc18:=NB275_274.out
   have hcz19_0:w5.cell? ⟨gb274,0,none⟩ = some (.int .i64 a1):=(blk_cell BK274.out 0).trans rfl
   have hfz19_0:=blk_frozen BK274.out 0
   go_wp2_with (first|((with_reducible refine gate_callee (f:=31) rfl ?_);refine goesL_ (some 10) rfl rfl Try.func31 (by kernel_rfl) rfl #[.int .i64 a1,.int .i64 0,.int .i64 32] rfl (by (try simp only [mA,mC,mN]);first|done|rfl|(simp only [List.length_drop,List.length_take];done)|(simp only [List.length_drop,List.length_take];rfl)) ?_;(with_reducible refine (impl_within.calls a1 0 32 false _ A6.out).mono ?_);rintro e w' ⟨rfl,⟨nd,rfl⟩⟩;refine⟨_,rfl,?_⟩))
   go_meet
   case rel=>exact⟨_,(true),(by first|rfl|(simp;done)|(simp [*];done)),H',⟨by first|omega|exact Nat.le_refl _⟩,⟨kN BK274.out⟩,⟨kN BK275.out⟩,⟨kB HB.out⟩⟩
  subst c7
  have H1:(if (l0.length:Int) > 5000 then (impl_PackOf.j0 k l0 true a1) else (if (wrap64 ((l0.length:Int) * a1)) > 5000 then (impl_PackOf.j0 k l0 true a1) else ((impl_areAll_58.f l0 a1).bind fun t277=>(impl_PackOf.j0 k l0 (!t277) a1)))) = some (r1,r2,r3,r4,r5):=by rw [if_pos rfl] at H;exact H
  clear H
  have H:=H1
  clear H1
  by_cases c8:(l0.length:Int) > 5000
  ·rw [if_pos c8] at H
   have c8b0:decide (5000 < (l0.length:Int)) = true:=decide_eq_true c8
   have c8b1:decide (5000 < l0.length) = true:=decide_eq_true (by omega)
   clear c8
   (first|rw [c8b0]|(simp only [i64_w,i32_w];rw [c8b0])|skip)
   have H':=mk0 H
   clear H
   have hnb9:=NB274_275.out
   have hnc9:=NB275_274.out
   have hcz10_0:w5.cell? ⟨gb274,0,none⟩ = some (.int .i64 a1):=(blk_cell BK274.out 0).trans rfl
   have hfz10_0:=blk_frozen BK274.out 0
   go_wp2_with (first|((with_reducible refine gate_callee (f:=31) rfl ?_);refine goesL_ (some 10) rfl rfl Try.func31 (by kernel_rfl) rfl #[.int .i64 a1,.int .i64 0,.int .i64 32] rfl (by (try simp only [mA,mC,mN]);first|done|rfl|(simp only [List.length_drop,List.length_take];done)|(simp only [List.length_drop,List.length_take];rfl)) ?_;(with_reducible refine (impl_within.calls a1 0 32 true _ A6.out).mono ?_);rintro e w' ⟨rfl,⟨nd,rfl⟩⟩;refine⟨_,rfl,?_⟩))
   go_meet
   case rel=>exact⟨_,(true),(by first|rfl|(simp;done)|(simp [*];done)),H',⟨by first|omega|exact Nat.le_refl _⟩,⟨kN BK274.out⟩,⟨kN BK275.out⟩,⟨kB HB.out⟩⟩
  rw [if_neg c8] at H
  have c8b0:decide (5000 < (l0.length:Int)) = false:=decide_eq_false c8
  have c8b1:decide (5000 < l0.length) = false:=decide_eq_false (by omega)
  clear c8
  (first|rw [c8b0]|(simp only [i64_w,i32_w];rw [c8b0])|skip)
  by_cases c11:(wrap64 ((l0.length:Int) * a1)) > 5000
  ·rw [if_pos c11] at H
   have c11b0:decide (5000 < (wrap64 ((l0.length:Int) * a1))) = true:=decide_eq_true c11
   clear c11
   have H':=mk0 H
   clear H
   have hnb12:=NB274_275.out
   have hnc12:=NB275_274.out
   have hcz13_0:w5.cell? ⟨gb274,0,none⟩ = some (.int .i64 a1):=(blk_cell BK274.out 0).trans rfl
   have hfz13_0:=blk_frozen BK274.out 0
   go_wp2_with (first|((with_reducible refine gate_callee (f:=31) rfl ?_);refine goesL_ (some 10) rfl rfl Try.func31 (by kernel_rfl) rfl #[.int .i64 a1,.int .i64 0,.int .i64 32] rfl (by (try simp only [mA,mC,mN]);first|done|rfl|(simp only [List.length_drop,List.length_take];done)|(simp only [List.length_drop,List.length_take];rfl)) ?_;(with_reducible refine (impl_within.calls a1 0 32 true _ A6.out).mono ?_);rintro e w' ⟨rfl,⟨nd,rfl⟩⟩;refine⟨_,rfl,?_⟩))
   go_meet
   case rel=>exact⟨_,(true),(by first|rfl|(simp;done)|(simp [*];done)),H',⟨by first|omega|exact Nat.le_refl _⟩,⟨kN BK274.out⟩,⟨kN BK275.out⟩,⟨kB HB.out⟩⟩
  rw [if_neg c11] at H
  have c11b0:decide (5000 < (wrap64 ((l0.length:Int) * a1))) = false:=decide_eq_false c11
  clear c11
  replace H:=Option.bind_eq_some_iff.mp H
  obtain⟨t277,A140,H⟩:=H
  replace H:(impl_PackOf.j0 k l0 (!t277) a1) = some (r1,r2,r3,r4,r5):=H
  have A14:=mk0 A140
  clear A140
  have H':=mk0 H
  clear H
  have hnb15:=NB274_275.out
  have hnc15:=NB275_274.out
  have hcz16_0:w5.cell? ⟨gb274,0,none⟩ = some (.int .i64 a1):=(blk_cell BK274.out 0).trans rfl
  have hfz16_0:=blk_frozen BK274.out 0
  go_wp2_with (first|((with_reducible refine gate_callee (f:=31) rfl ?_);refine goesL_ (some 10) rfl rfl Try.func31 (by kernel_rfl) rfl #[.int .i64 a1,.int .i64 0,.int .i64 32] rfl (by (try simp only [mA,mC,mN]);first|done|rfl|(simp only [List.length_drop,List.length_take];done)|(simp only [List.length_drop,List.length_take];rfl)) ?_;(with_reducible refine (impl_within.calls a1 0 32 true _ A6.out).mono ?_);rintro e w' ⟨rfl,⟨nd,rfl⟩⟩;refine⟨_,rfl,?_⟩)|(go_at_call 33;(with_reducible refine (impl_areAll_58.calls _ _ l0 a1 t277 _ ?side1 ?side2 ?side3 A14.out).mono ?_);(case side1=>repeat (first|exact (Kd.C_below HR0.out (kB HB.out))|(with_reducible first|apply aC|apply nC|apply dC)));(case side2=>exact HC0.out);(case side3=>exact by (with_reducible repeat (first|apply nB|apply dB|apply aB));exact BK274.out);rintro e w17 ⟨rfl,hb⟩;replace BK274:=mk0 (kK BK274.out hb);replace BK275:=mk0 (kK BK275.out hb);replace HB:=mk0 (kS HB.out hb);(try clear hb)))
  go_meet
  case rel=>exact⟨_,(!t277),(by first|rfl|(simp;done)|(simp [*];done)),H',⟨by first|omega|exact Nat.le_refl _⟩,⟨kN BK274.out⟩,⟨kN BK275.out⟩,⟨kB HB.out⟩⟩
 case rest =>
  clear HC3
  try clear c1
  try clear p2
  try clear c3
  try clear p6
  try clear c7
  try clear c8
  try clear c8b0
  try clear c8b1
  try clear c9
  try clear c11
  try clear c11b0
  try clear c12
  try clear c15
  try clear c18
  try clear hcz10_0
  try clear hcz13_0
  try clear hcz16_0
  try clear hcz19_0
  try clear hfz10_0
  try clear hfz13_0
  try clear hfz16_0
  try clear hfz19_0
  obtain⟨kq,x29_2,rfl,HA,HJ2,BK274,BK275,HB⟩:=hcut
  cases kq with
  | zero=>exact absurd HA.out (by simp [impl_PackOf.j0])
  | succ kj2 =>
   have H:=HA.out
   clear HA
   simp only [impl_PackOf.j0] at H
   by_cases c20:x29_2 = true
   ·subst c20
    have H1:(some (0,0,0,([]:List Int),false)) = some (r1,r2,r3,r4,r5):=by rw [if_pos rfl] at H;exact H
    clear H
    have H:=H1
    clear H1
    simp only [Option.some.injEq,Prod.mk.injEq] at H
    obtain⟨rfl,rfl,rfl,rfl,rfl⟩:=H
    have hnb21:=NB275_274.out
    have hnc21:=NB274_275.out
    obtain⟨hcz22_0,hcz22_1,hcz22_2,hcz22_3,hfz22_0,hfz22_1,hfz22_2,hfz22_3⟩:=cz4 BK275.out
    go_wp2
    refine bodyPost_ret (results_ct rfl _ _ gb275 31 #[.int .i64 0,.int .i64 0,.int .i64 0,.slice none 0 0] (0,0) _ rfl (by (with_reducible repeat (first|apply nB|apply dB|apply aB));refine blk_put (cs:=#[.int .i64 0,.int .i64 0,.int .i64 0,.slice none 0 0]) ?_ 3 _ rfl;(with_reducible repeat (first|apply nB|apply dB|apply aB));refine blk_put (cs:=#[.int .i64 0,.int .i64 0,.int .i64 0,.slice none 0 0]) ?_ 2 _ rfl;(with_reducible repeat (first|apply nB|apply dB|apply aB));refine blk_put (cs:=#[.int .i64 0,.int .i64 0,.int .i64 0,.slice none 0 0]) ?_ 1 _ rfl;(with_reducible repeat (first|apply nB|apply dB|apply aB));refine blk_put (cs:=#[.int .i64 0,.int .i64 0,.int .i64 0,.slice none 0 0]) ?_ 0 _ rfl;(with_reducible repeat (first|apply nB|apply dB|apply aB));exact BK275.out) Try.underlying31 rfl (by kernel_rfl)) rfl ?_
    exact⟨_,by first|rfl|(simp [errW_none,errW_some] <;> rfl)|(simp [*,errW_none,errW_some] <;> rfl),by first|exact Kd.R_nil _ _ _ _ _|exact Kd.N_nil _ _ _ _ _|exact Kd.V_nil _ _ _ _ _|exact Kd.Q_nil _ _ _ _ _|exact Kd.S_nil _ _ _ _ _,kB HB.out⟩
   replace c20:=Bool.eq_false_iff.mpr c20
   subst c20
   have H1:(impl_PackOf.l0 kj2 l0 ([]:List Int) l0 (l0.length:Int) 0 a1) = some (r1,r2,r3,r4,r5):=by rw [if_neg (show ¬ (false = true) by decide)] at H;exact H
   clear H
   have H:=H1
   clear H1
   have H':=mk0 H
   clear H
   go_wp2
   go_loopg [6,33] kj2 (fun kq v6 v33 w'=>∃ (x6_2:List Int) (x33_2:Int),v33 = .int .i64 x33_2 ∧ Aside0 (impl_PackOf.l0 kq l0 x6_2 l0 (l0.length:Int) x33_2 a1 = some (r1,r2,r3,r4,r5)) ∧ Aside0 (kq ≤ kj2) ∧ Aside0 (Kd.R (Kd.int .i64) 3 w' w.heap.size (fun k_=>k_ ≠ gb274) v6 x6_2) ∧ Aside0 (w'.heap[gb274]? = some (.cells #[.int .i64 a1] 3 (0,0))) ∧ Aside0 (w'.heap[gb275]? = some (.cells #[.int .i64 0,.int .i64 0,.int .i64 0,(.slice none 0 0)] 31 (0,0))) ∧ Aside0 (Below w.heap.size w w'))
   case atStart=>exact⟨(([]:List Int)),(0),(by first|rfl|(simp;done)|(simp [*];done)),H',⟨Nat.le_refl _⟩,⟨by first|exact Kd.R_nil _ _ _ _ _|exact Kd.N_nil _ _ _ _ _|exact Kd.V_nil _ _ _ _ _|exact Kd.Q_nil _ _ _ _ _|exact Kd.S_nil _ _ _ _ _⟩,⟨kN BK274.out⟩,⟨kN BK275.out⟩,⟨kB HB.out⟩⟩
   case round =>
    clear H'
    try clear c1
    try clear c2
    try clear p2
    try clear c3
    try clear p6
    try clear c7
    try clear c8
    try clear c8b0
    try clear c8b1
    try clear c9
    try clear c11
    try clear c11b0
    try clear c12
    try clear c15
    try clear c18
    try clear c20
    try clear c21
    try clear hcz10_0
    try clear hcz13_0
    try clear hcz16_0
    try clear hcz19_0
    try clear hcz22_0
    try clear hcz22_1
    try clear hcz22_2
    try clear hcz22_3
    try clear hfz10_0
    try clear hfz13_0
    try clear hfz16_0
    try clear hfz19_0
    try clear hfz22_0
    try clear hfz22_1
    try clear hfz22_2
    try clear hfz22_3
    try clear p2
    try clear p6
    obtain⟨x6_2,x33_2,rfl,HA,HK2,HO_6,BK274,BK275,HB⟩:=hrel
    cases gk with
    | zero=>exact absurd HA.out (by simp [impl_PackOf.l0])
    | succ k2 =>
     have H:=HA.out
     clear HA
     simp only [impl_PackOf.l0] at H
     by_cases c23:x33_2 < (l0.length:Int)
     ·rw [if_pos c23] at H
      have c23b0:decide (x33_2 < (l0.length:Int)) = true:=decide_eq_true c23
      clear c23
      by_cases c24:0 ≤ x33_2
      rotate_left
      ·rw [if_neg c24] at H
       exact absurd H (by simp)
      rw [if_pos c24] at H
      have c24b0:decide (0 ≤ x33_2) = true:=decide_eq_true c24
      clear c24
      by_cases c25:x33_2 < (l0.length:Int)
      rotate_left
      ·rw [if_neg c25] at H
       exact absurd H (by simp)
      rw [if_pos c25] at H
      have c25b0:decide (x33_2 < (l0.length:Int)) = true:=decide_eq_true c25
      clear c25
      replace H:=Option.bind_eq_some_iff.mp H
      obtain⟨t279,A260,H⟩:=H
      replace H:(if x6_2.length + t279.length < 17592186044416 then (impl_PackOf.l0 k2 l0 (x6_2 ++ t279) l0 (l0.length:Int) (wrap64 (x33_2 + 1)) a1) else (none)) = some (r1,r2,r3,r4,r5):=H
      have A26:=mk0 A260
      clear A260
      by_cases c27:x6_2.length + t279.length < 17592186044416
      rotate_left
      ·rw [if_neg c27] at H
       exact absurd H (by simp)
      rw [if_pos c27] at H
      have LMc27:=mk0 c27
      clear c27
      obtain⟨y282,hy282⟩:∃ y_:List Int,y_ = (x6_2 ++ t279):=⟨_,rfl⟩
      replace H:(impl_PackOf.l0 k2 l0 y282 l0 (l0.length:Int) (wrap64 (x33_2 + 1)) a1) = some (r1,r2,r3,r4,r5):=by first|(rw [hy282];with_reducible exact H)|(have H2_:=(Option.bind_some _ _).symm.trans H;rw [hy282];with_reducible exact H2_)|(have H2_:=(Option.bind_some _ _).symm.trans H;with_reducible exact H2_)|with_reducible exact H|(rw [hy282];exact H)|exact H
      have Ny282:=mk0 hy282
      clear hy282
      have H':=mk0 H
      clear H
      have p278:0 ≤ (x33_2:Int):=of_decide_eq_true (by first|(with_reducible assumption)|assumption)
      have q278:x33_2 < (l0.length:Int):=of_decide_eq_true (by first|(with_reducible assumption)|assumption)
      obtain⟨ad278,e278,hx278_0⟩:=Kd.at_int HR0.out x33_2 p278 q278
      cases e278
      replace hx278_0:=(HB.out.cell (World.block_lt_of_cell? w _ hx278_0)).trans hx278_0
      replace p278:=eq_true p278
      replace q278:=eq_true q278
      have hnb28:=NB274_275.out
      have hnc28:=NB275_274.out
      have hcz29_0:wr.cell? ⟨gb274,0,none⟩ = some (.int .i64 a1):=(blk_cell BK274.out 0).trans rfl
      have hfz29_0:=blk_frozen BK274.out 0
      go_wp2_with (first|((with_reducible refine gate_callee (f:=59) rfl ?_);refine goesL_ (some 40) rfl rfl Try.func59 (by kernel_rfl) rfl #[.int .i64 (rd l0 x33_2),.int .i64 a1] rfl (by (try simp only [mA,mC,mN]);first|done|rfl|(simp only [List.length_drop,List.length_take];done)|(simp only [List.length_drop,List.length_take];rfl)) ?_;(with_reducible refine (impl_digits.calls k2 (rd l0 x33_2) a1 t279 _ A26.out).mono ?_);rintro e w30 ⟨v280,rfl,ho0,hb⟩;refine⟨_,rfl,?_⟩;have HO281:=mk0 (Kd.R_lower (Kd.R_newB (Kd.R_new' ho0 (Kd.R_lt (rR HO_6.out))) (g:=gb274) (o:=.cells #[.int .i64 a1] 3 (0,0)) (kN BK274.out)) (kZ HB.out));replace HO_6:=mk0 (Kd.R_elder' (rR HO_6.out) (Kd.R_base ho0) hb);replace BK274:=mk0 (kK BK274.out hb);replace BK275:=mk0 (kK BK275.out hb);replace HB:=mk0 (kS HB.out hb);(try clear hb);(try clear ho0);obtain⟨Ao32,co32,eo32⟩:=Kd.R_slice HO281.out;subst eo32)|((with_reducible refine gate_builtin (b:=.append) (xs:=#[.tmp 37,.tmp 40]) rfl ?_);(try (refine gate_guard (by rfl) ?_;dsimp only));at_builtin;refine Kd.R_append_rows (Kd.int .i64) (w0:=w) w.heap.size rfl (.tmp 37) (.tmp 40) 24 3 (.int .i64 0) 8 rfl Try.underlying24 info3 rfl (by decide) (by omega) u6 x6_2 t279 _ _ _ (fun k_=>some k_ ≠ (.slice Ao32 t279.length co32:Value).ownBlock ∧ k_ ≠ gb274) (fun _=>False) rfl rfl ?aO ?aR (fun _ _ h=>h) (fun _ h=>h.elim) ?aF ?aB ?aS ?aL ?_;(case aR=>repeat (first|exact (Kd.R_reads' HO281.out).2.2|(with_reducible first|apply aC|apply nC|apply dC)));(case aB=>exact (kB HB.out));(case aF=>exact (fun k_ hk=>⟨Kd.fresh' (Kd.R_lt (rR HO281.out)) k_ hk,Kd.freshB (g:=gb274) (o:=.cells #[.int .i64 a1] 3 (0,0)) (kN BK274.out) k_ hk⟩));(case aO=>exact (rR (Kd.R_mono HO_6.out (fun _ hk=>⟨hk.2,hk.1⟩))));(case aS=>exact (kZ HB.out));(case aL=>have:=LMc27.out;omega);intro v283 w31 ho hb hg hat;rw [← Ny282.out] at ho;replace BK274:=mk0 (blk_grown (kN BK274.out) hg (Kd.R_away HO_6.out (fun _ hk=>hk.1)));replace BK275:=mk0 (blk_grown (kN BK275.out) hg (Kd.R_ne HO_6.out BK275.out (by decide)));replace HO281:=mk0 (Kd.R_after (ok:=(fun k_=>k_ ≠ gb274)) (rR (Kd.R_mono HO281.out (fun _ hk=>⟨hk.2,hk.1.2⟩))) hg hat);replace HB:=mk0 (hb);have HO284:=mk0 (ho);clear HO_6 ho hb hg hat))
      go_roundg k2
      case measure=>have:=HJ2.out;have:=HK2.out;omega
      case rel=>exact⟨(y282),(wrap64 (x33_2 + 1)),(by first|rfl|(simp;done)|(simp [*];done)),H',⟨by have:=HJ2.out;have:=HK2.out;omega⟩,⟨rR (Kd.R_mono HO284.out (fun _ hk=>hk.2))⟩,⟨kN BK274.out⟩,⟨kN BK275.out⟩,⟨kB HB.out⟩⟩
     rw [if_neg c23] at H
     have c23b0:decide (x33_2 < (l0.length:Int)) = false:=decide_eq_false c23
     clear c23
     replace H:=Option.bind_eq_some_iff.mp H
     obtain⟨⟨t285,t286⟩,A330,H⟩:=H
     replace H:(some (a1,(l0.length:Int),t285,t286,true)) = some (r1,r2,r3,r4,r5):=H
     have A33:=mk0 A330
     clear A330
     simp only [Option.some.injEq,Prod.mk.injEq] at H
     obtain⟨rfl,rfl,rfl,rfl,rfl⟩:=H
     try go_wp2
     replace HO_6:=mk0 (dR HO_6.out)
     replace BK274:=mk0 (dB BK274.out)
     replace BK275:=mk0 (dB BK275.out)
     replace HB:=mk0 (dZ HB.out)
     obtain⟨Ao35,co35,eo35⟩:=Kd.R_slice HO_6.out
     (first|subst eo35|(injection eo35 with f1_ f2_ f3_;have f4_:=f1_.symm;have f5_:=f3_.symm;clear f1_ f2_ f3_;subst f4_;subst f5_))
     refine start_ (n:=8) (S:=fun w'=>w'.cell? ⟨gb274,0,none⟩ = some (.int .i64 a1)) (ds:=[]) impl_PackOf.m0 (by kernel_rfl) rfl rfl ((blk_cell BK274.out 0).trans rfl) (fun hHeld=>?_);refine with_tabW impl_PackOf.tab9 impl_PackOf.bits9 (fun HT_ HW_=>?_)
     generalize wr.drew = w34 at HO_6 BK274 BK275 HB hHeld ⊢
     refine pure_ (i:=1) (N:=some 44) (v:=?_) (a':=?_) impl_PackOf.m1 rfl rfl (any_of HT_.out (by kernel_rfl)) (fun _ _ _ h=>h) (Or.inl ⟨by rfl,?_⟩) ?_ ?_
     rotate_left
     ·intro w'
      go_simp
      with_reducible rfl
     rotate_left
     ·simp only [Act.put,sA,sO,sS,i64_w,i32_w]
      rfl
     refine pure_ (i:=2) (N:=some 45) (v:=?_) (a':=?_) impl_PackOf.m2 rfl rfl (any_of HT_.out (by kernel_rfl)) (fun _ _ _ h=>h) (Or.inl ⟨by rfl,?_⟩) ?_ ?_
     rotate_left
     ·intro w'
      go_simp
      with_reducible rfl
     rotate_left
     ·simp only [Act.put,sA,sO,sS,i64_w,i32_w]
      rfl
     refine pure_ (i:=3) (N:=some 46) (v:=?_) (a':=?_) impl_PackOf.m3 rfl rfl (any_of HT_.out (by kernel_rfl)) (fun _ _ _ h=>h) (Or.inl ⟨by rfl,?_⟩) ?_ ?_
     rotate_left
     ·intro w'
      go_simp
      with_reducible rfl
     rotate_left
     ·simp only [Act.put,sA,sO,sS,i64_w,i32_w]
      rfl
     refine take_ (i:=0) (N:=some 43) (v:=?_) (a':=?_) impl_PackOf.m4 rfl rfl (take_ofW HT_.out HW_.out (by kernel_rfl)) (fun _ _ _ h=>h) (Or.inl ⟨by rfl,?_⟩) hHeld ?_ ?_
     rotate_left
     ·intro w' s0
      go_simp
      with_reducible rfl
     rotate_left
     ·simp only [Act.put,sA,sO,sS,i64_w,i32_w]
      rfl
     refine one_ (i:=4) (N:=some 47) impl_PackOf.m5 rfl rfl (one_of HT_.out (by kernel_rfl)) (by decide) (fun K hK=>?_)
     refine goes_ Try.func37 (by kernel_rfl) rfl #[.slice Ao35 x6_2.length co35] (by rfl) rfl rfl (by (try simp only [mA,mC,mN]);first|done|rfl|(simp only [List.length_drop,List.length_take];done)|(simp only [List.length_drop,List.length_take];rfl)) ?_
     with_reducible refine (impl_bitsOf.calls k2 _ _ x6_2 t285 t286 _ ?side1 ?side2 A33.out).mono ?_
     (case side1=>exact kC (Kd.R_reads' HO_6.out).2.2)
     (case side2=>exact (Kd.R_reads' HO_6.out).2.1)
     rintro e w36 ⟨v287,rfl,ho0,hb⟩
     refine⟨_,rfl,?_⟩
     replace HO_6:=mk0 (bR HO_6.out hb)
     have HO288:=mk0 (Kd.R_lower ho0 (kZ HB.out))
     replace BK274:=mk0 (kK BK274.out hb)
     replace BK275:=mk0 (kK BK275.out hb)
     replace HB:=mk0 (kS HB.out hb)
     (try clear hb)
     (try clear ho0)
     obtain⟨Ao37,co37,eo37⟩:=Kd.R_slice HO288.out
     (first|subst eo37|(injection eo37 with f1_ f2_ f3_;have f4_:=f1_.symm;have f5_:=f3_.symm;clear f1_ f2_ f3_;subst f4_;subst f5_))
     refine hK.out _ _ ((blk_cell BK274.out 0).trans rfl) (fun hHeld=>?_)
     clear hK K
     refine norm_ (a':=?_) ?_ ?_
     rotate_left
     ·show Act.put _ (some 47) _ = _
      simp only [Act.put,sA,sO,sS,i64_w,i32_w]
      rfl
     refine pure_ (i:=5) (N:=some 48) (v:=?_) (a':=?_) #[true,true,true,true,true,true,false,false] rfl rfl (any_of HT_.out (by kernel_rfl)) (fun _ _ _ h=>h) (Or.inl ⟨by rfl,?_⟩) ?_ ?_
     rotate_left
     ·intro w'
      go_simp
      with_reducible rfl
     rotate_left
     ·simp only [Act.put,sA,sO,sS,i64_w,i32_w]
      rfl
     refine one_ (i:=6) (N:=none) #[true,true,true,true,true,true,true,false] rfl rfl (one_of HT_.out (by kernel_rfl)) (by decide) (fun K hK=>?_)
     have hs38:w36.cell? ⟨gb275,0,none⟩ = some (.int .i64 0):=(blk_cell BK275.out 0).trans rfl
     have hfs38:=blk_frozen BK275.out 0
     have hns38_0:=NB274_275.out
     have hms38_0:=NB275_274.out
     have hs39:w36.cell? ⟨gb275,1,none⟩ = some (.int .i64 0):=(blk_cell BK275.out 1).trans rfl
     have hfs39:=blk_frozen BK275.out 1
     have hns39_0:=NB274_275.out
     have hms39_0:=NB275_274.out
     have hs40:w36.cell? ⟨gb275,2,none⟩ = some (.int .i64 0):=(blk_cell BK275.out 2).trans rfl
     have hfs40:=blk_frozen BK275.out 2
     have hns40_0:=NB274_275.out
     have hms40_0:=NB275_274.out
     have hs41:w36.cell? ⟨gb275,3,none⟩ = some (.slice none 0 0):=(blk_cell BK275.out 3).trans rfl
     have hfs41:=blk_frozen BK275.out 3
     have hns41_0:=NB274_275.out
     have hms41_0:=NB275_274.out
     refine skip_ (w1:=?_) (by rfl) rfl ?_ ?_
     rotate_left
     ·go_simp
      rfl
     refine hK.out _ _ (((cell_far (p:=⟨gb275,_,none⟩) NB274_275.out _).trans (((cell_far (p:=⟨gb275,_,none⟩) NB274_275.out _).trans (((cell_far (p:=⟨gb275,_,none⟩) NB274_275.out _).trans (((cell_far (p:=⟨gb275,_,none⟩) NB274_275.out _).trans (hHeld))))))))) (fun hHeld=>?_)
     clear hK K
     refine pure_ (i:=7) (N:=some 5) (v:=?_) (a':=?_) #[true,true,true,true,true,true,true,true] rfl rfl (any_of HT_.out (by kernel_rfl)) (fun _ _ _ h=>h) (Or.inl ⟨by rfl,?_⟩) ?_ ?_
     rotate_left
     ·intro w'
      go_simp
      with_reducible rfl
     rotate_left
     ·simp only [Act.put,sA,sO,sS,i64_w,i32_w]
      rfl
     refine done_ (done_of HT_.out (by kernel_rfl)) ?_
     try go_wp2
     refine bodyPost_ret (results_ct rfl _ _ gb275 31 #[.int .i64 a1,.int .i64 (l0.length:Int),.int .i64 t285,.slice Ao37 t286.length co37] (0,0) _ rfl (by (with_reducible repeat (first|apply nB|apply dB|apply aB));refine blk_put (cs:=#[.int .i64 a1,.int .i64 (l0.length:Int),.int .i64 t285,.slice none 0 0]) ?_ 3 _ rfl;(with_reducible repeat (first|apply nB|apply dB|apply aB));refine blk_put (cs:=#[.int .i64 a1,.int .i64 (l0.length:Int),.int .i64 0,.slice none 0 0]) ?_ 2 _ rfl;(with_reducible repeat (first|apply nB|apply dB|apply aB));refine blk_put (cs:=#[.int .i64 a1,.int .i64 0,.int .i64 0,.slice none 0 0]) ?_ 1 _ rfl;(with_reducible repeat (first|apply nB|apply dB|apply aB));refine blk_put (cs:=#[.int .i64 0,.int .i64 0,.int .i64 0,.slice none 0 0]) ?_ 0 _ rfl;(with_reducible repeat (first|apply nB|apply dB|apply aB));exact BK275.out) Try.underlying31 rfl (by kernel_rfl)) rfl ?_
     exact⟨_,by first|rfl|(simp [errW_none,errW_some] <;> rfl)|(simp [*,errW_none,errW_some] <;> rfl),by (with_reducible repeat (first|apply aR|apply nR|apply dR));exact Kd.R_mono (Kd.R_far (p:=⟨gb275,3,none⟩) (Kd.R_far (p:=⟨gb275,2,none⟩) (Kd.R_far (p:=⟨gb275,1,none⟩) (Kd.R_far (p:=⟨gb275,0,none⟩) (Kd.R_types HO288.out BK275.out (by decide)) (fun _ hk=>hk.2) (.int .i64 a1)) (fun _ hk=>hk.2) (.int .i64 (l0.length:Int))) (fun _ hk=>hk.2) (.int .i64 t285)) (fun _ hk=>hk.2) (.slice Ao37 t286.length co37)) (fun _ hk=>trivial),kB HB.out⟩


/-! ### impl_areAll_34: areAll at the literal 34, which captures a number -/
def impl_areAll_34.f (l0 : List Int) (a1 : Int) : Option (Bool) := if l0.length ≤ maxLen ∧ Fv.ok34 a1 then some (l0.all (Fv.p34 a1)) else none
theorem impl_areAll_34.calls {g : Nat} (A0 : Option Addr) (c0 : Nat) (l0 : List Int) (a1 : Int) (r : Bool) (w : World) (hr0 : Kd.C (Kd.int .i64) w A0 l0.length l0) (hc0 : l0.length ≤ c0) (hb : w.heap[g]? = some (.cells #[.int .i64 a1] 3)) (h : impl_areAll_34.f l0 a1 = some r) :
    Calls Try.prog 33 #[.slice A0 l0.length c0, .func (.func 34) #[] #[.pointer (some ⟨g, 0, none⟩)]] w fun e w' => e = .returned (.bool r) ∧ Below w.heap.size w w' := by
  unfold impl_areAll_34.f at h
  by_cases hm : l0.length ≤ maxLen ∧ Fv.ok34 a1
  · rw [if_pos hm] at h
    obtain rfl := Option.some.inj h
    exact Fv.areAll 34 _ _ (enters_of Try.func34 (by kernel_rfl) rfl) A0 c0 l0 w hr0 hc0 hm.1 (Fv.tells34 g a1 w hb hm.2)
  · rw [if_neg hm] at h
    exact absurd h (by simp)

end Go.Proofs.Ytmohfjfgpeapfaa.QFnSparse
